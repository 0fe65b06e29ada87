import Derived.ChangeSlices
import Derived.ChangeReads
import Derived.ChangeSame
import Derived.OpenShut
import Derived.Lib.AtoiErrMem
import Derived.Attr
import Derived.Test.YtfohkkaphnfgoaaGreatDoorTai
import Derived.Test.YtfohkkaphnfgoaaGreatDoorTae
import Derived.Test.YtfohkkaphnfgoaaGreatDoorTag
import Derived.Test.YtfohkkaphnfgoaaGreatDoorTaj
import Derived.Test.YtfohkkaphnfgoaaGreatDoorTah
set_option linter.all false
set_option maxRecDepth 100000
open Array renaming getElem?_eq_some_iff→xv
open Bool renaming and_eq_true→ye,true_and→wI
open Go renaming Addr→vZ,ChangeSpec→ybp,DataW→xx,Field→uF,IntKind→yY,MemPlace→wg,Program→xi,TypeId→yy,Value→yf,World→yj
open Int renaming emod_emod→ybj,tmod_eq_emod_of_nonneg→xE
open List renaming all_cons→uR,append_nil→wJ,cons_append→xu,drop_drop→vG,drop_eq_getElem_cons→yN,drop_eq_nil_of_le→yT,eq_nil_of_length_eq_zero→yD,flatMap_cons→yaa,getD_cons_succ→tQ,getD_eq_getElem?_getD→xK,getElem?_cons_zero→vn,length→ybq,length_append→yW,length_cons→yC,length_map→yL,length_nil→yK,length_singleton→tH,length_take→yQ,mapM_cons→vQ,mapM_nil→tj,map_cons→yV,mem_append_left→um,mem_append_right→vt,mem_flatMap→vY,range→wS,range'→wc,range'_succ→vO,range'_zero→yaj,range_eq_range'→tL,replicate→yG,replicate_succ→wV,set_cons_succ→tW,take_append_drop→xW,take_of_length_le→yp,take_succ_cons→wh,take_succ_eq_append_getElem→yB
open Nat renaming add_mul→xH,add_sub_cancel→tc,add_zero→y7,beq→yv,beq_refl→vm,ble_eq_true_of_le→yx,blt→yM,eq_of_beq_eq_true→yo,eq_zero_or_pos→xt,le_div_iff_mul_le→tN,le_max_left→vN,le_max_right→vB,le_of_lt→uB,le_refl→yr,lt_of_le_of_lt→wu,lt_of_mul_lt_mul_right→tf,min_eq_left→xX,mul_add→xA,mul_assoc→xr,mul_comm→xC,mul_le_mul_left→yU,mul_le_mul_right→yX,mul_pos→ybi,mul_zero→xI,not_lt_zero→uD,pow_le_pow_right→xD,pow_succ→xk,reduceEqDiff→ya,zero_add→yd
open Option renaming bind_eq_bind→ve,bind_some→xO,map_some→wF,pure_def→wG
open Option.some renaming injEq→yc
open Prod.mk renaming injEq→yq
namespace VE
section
open Go
section
variable (P:xi)
def EU (self:yy->Bool):List uF->Nat->Nat->Bool
 | [],o,n=>yv o n
 | f::r,o,n=>yv f.offset o&&(self f.type&&EU self r (o+P.cellsOf f.type) n)
def flat:Nat->yy->Bool
 | 0,_=>false
 | n+1,t=>
  match P.underlying t with
  | some .bool | some (.int _) | some (.float _) | some .string=>yv (P.cellsOf t) 1
  | some (.slice e)=>yv (P.cellsOf t) 1&&(yM 0 (P.cellsOf e)&&flat n e)
  | some (.struct fs)=>EU P (fun u=>flat n u) fs.toList 0 (P.cellsOf t)
  | some (.array k e)=>yv (P.cellsOf t) (k*P.cellsOf e)&&flat n e
  | _=>false
def cA {H:Type}:Nat->yy->xx H->List AV
 | 0,_,_=>[]
 | n+1,t,d=>
  match P.underlying t,d with
  | some .bool,.lit (.bool b)=>[.bool b]
  | some (.int k),.lit (.int _ m)=>[.int k m]
  | some (.float k),.lit (.float _ b)=>[.du k b]
  | some .string,.lit (.string s)=>[.str (s.map UInt8.toNat)]
  | some (.slice _),.nil=>[.ab]
  | some (.slice e),.slice jy spare=>[.aJ spare.isEmpty jy.length (jy.flatMap fun x=>cA n e x)]
  | some (.struct fs),.agg parts=>(fs.toList.zip parts).flatMap fun x=>cA n x.1.type x.2
  | some (.array _ e),.agg parts=>parts.flatMap fun x=>cA n e x
  | _,_=>[]
end
section
variable {ai:Nat->Nat} {m:Mp} {S:Nat->Prop} {w:yj}
def ZJ:∀{a b:List AV} {aE o:Nat},bT ai m S w a aE o->bT ai m S w b aE (o+a.length)->bT ai m S w (a++b) aE o
 | [],b,aE,o,_,h=>by simpa using h
 | x::a,b,aE,o,h1,h2=>by
  exact ⟨h1.1,ZJ h1.2 (by rw [yC] at h2;rw [show o+1+a.length=o+(a.length+1) by omega];exact h2)⟩
def ML:∀{a b:List AV},aH a=true->aH b=true->aH (a++b)=true
 | [],_,_,h=>h
 | x::a,b,h1,h2=>by
  simp only [aH,xu,ye] at h1 ⊢;exact ⟨h1.1,ML h1.2 h2⟩
def ZK:∀{a:List AV} {us:List yf},av ai m S w a us->a.length=us.length
 | [],us,h=>by simp only [av] at h;subst h;rfl
 | x::a,us,h=>by
  obtain ⟨u,r,rfl,_,h2⟩:=h;simp [ZK h2]
end
section
variable {H:Type} {enc:yy×yf->H} {P:xi} {w:yj} {held:Bool} {ai:Nat->Nat} {m:Mp} {S:Nat->Prop}
def abC {a:vZ} {i:Nat} {u:yf} (h:w.cell? (a.add i)=some u):w.cell? ⟨a.block,a.off+i,none⟩=some u/\(i=0->a.spot=none):=by
 by_cases hi:i=0
 ·subst hi;have e:a.add 0=a:=by simp [Addr.add]
  rw [e] at h;have hs:a.spot=none:=by
   cases hq:a.spot with
   | none=>rfl
   | some k=>
    unfold World.cell? at h
    split at h
    ·simp [hq] at h
    all_goals simp_all
  obtain ⟨b,o,sp⟩:=a;simp only at hs;subst hs;exact ⟨by simpa using h,fun _=>rfl⟩
 ·have e:a.add i=⟨a.block,a.off+i,none⟩:=by simp [Addr.add,hi]
  rw [e] at h;exact ⟨h,fun h=>(hi h).elim⟩
def aky (a:vZ) (i:Nat):(a.add i).block=a.block:=by unfold Addr.add;split<;>rfl
def aoF (a:vZ) (i:Nat):(a.add i).off=a.off+i:=by unfold Addr.add;split<;>simp_all
def MV {α β:Type} {f:α->Option β}:∀{l:List α} {r:List β},l.mapM f=some r->r.length=l.length
 | [],r,h=>by simp only [tj,wG,yc] at h;subst h;rfl
 | x::l,r,h=>by
  rw [vQ] at h
  cases h1:f x with
  | none=>simp [h1] at h
  | some y=>
   cases h2:l.mapM f with
   | none=>simp [h1,h2] at h
   | some ys=>
    simp only [h1,h2,xO,ve,wG,yc] at h;subst h;simp [MV h2]
def amw {c:AV} {l:List AV} {b o:Nat} (h:bT ai m S w (c::l) b o):b<w.heap.size:=by
 obtain ⟨⟨u,h1,_⟩,_⟩:=h;unfold World.cell? at h1
 cases hq:w.heap[b]? with
 | none=>simp [hq] at h1
 | some o=>exact (xv.1 hq).1
def R5 {e:yy} {bA sz:Nat} {f:xx H->List AV} {a:vZ} (eV:0<sz)
  (IH:∀(cs:List yf) (d:xx H) (ps:List wg),DataW.trod enc P w 0 (fun _=>true) held bA e cs=some (d,ps)->av ai m S w (f d) cs/\aH (f d)=true/\cs.length=sz):
  ∀(k j:Nat) (xs:List (xx H×List wg)),(wc j k).mapM (fun i=>(w.cells? 0 (a.add (i*sz)) sz).bind (DataW.trod enc P w 0 (fun _=>true) held bA e))=some xs->
   bT ai m S w ((xs.map (·.1)).flatMap f) a.block (a.off+j*sz)/\aH ((xs.map (·.1)).flatMap f)=true/\((xs.map (·.1)).flatMap f).length=k*sz/\xs.length=k/\(0<k->a.spot=none\/0<j)
 | 0,j,xs,h=>by
  simp only [yaj,tj,wG,yc] at h;subst h;simp [bT,aH]
 | k+1,j,xs,h=>by
  rw [vO,vQ] at h
  cases h1:(w.cells? 0 (a.add (j*sz)) sz) with
  | none=>simp [h1] at h
  | some us=>
   cases h2:DataW.trod enc P w 0 (fun _=>true) held bA e us with
   | none=>simp [h1,h2] at h
   | some x=>
    cases h3:(wc (j+1) k).mapM (fun i=>(w.cells? 0 (a.add (i*sz)) sz).bind (DataW.trod enc P w 0 (fun _=>true) held bA e)) with
    | none=>simp [h1,h2,h3] at h
    | some ys=>
     simp only [h1,h2,h3,xO,ve,wG,yc] at h;subst h;obtain ⟨d,ps⟩:=x;obtain ⟨g1,g2,g3⟩:=IH us d ps h2;obtain ⟨k1,k2,k3,k4,_⟩:=R5 eV IH k (j+1) ys h3;obtain ⟨_,c2,c3⟩:=World.cells?_some h1;have hl:(f d).length=sz:=by rw [ZK g1,g3]
     have hc:∀(i:Nat) (u:yf),us[i]? =some u->w.cell? ⟨a.block,a.off+j*sz+i,none⟩=some u:=by
      intro i u hi;have GJ:i<sz:=by grind
      have h:=c3 i GJ;rw [hi] at h
      have:=(abC h).1
      rwa [aky,aoF] at this
     refine ⟨?_,?_,?_,by simp [k4],?_⟩
     ·simp only [yV,yaa];refine ZJ (E0 _ us _ g1 hc) ?_
      grind
     ·simp only [yV,yaa];exact ML g2 k2
     ·grind
     ·intro _;rcases xt j with hj | hj
      ·left
       have h:=c3 0 eV;have hu:us[0]? =some us[0]:=by simp_all
       rw [hu] at h
       have:=(abC h).2 rfl
       subst hj;simpa [Addr.add] using this
      ·grind
def YZ {bA N:Nat} {n:Nat} {cs:List yf} (hN:cs.length=N)
  (IH:∀(t:yy) (cs:List yf) (d:xx H) (ps:List wg),flat P n t=true->DataW.trod enc P w 0 (fun _=>true) held bA t cs=some (d,ps)->av ai m S w (cA P n t d) cs/\aH (cA P n t d)=true/\cs.length=P.cellsOf t):
  ∀(r:List uF) (o:Nat) (xs:List (xx H×List wg)),EU P (fun u=>flat P n u) r o N=true->r.mapM (fun f=>DataW.trod enc P w 0 (fun _=>true) held bA f.type ((cs.drop f.offset).take (P.cellsOf f.type)))=some xs->
   av ai m S w ((r.zip (xs.map (·.1))).flatMap fun x=>cA P n x.1.type x.2) (cs.drop o)/\aH ((r.zip (xs.map (·.1))).flatMap fun x=>cA P n x.1.type x.2)=true
 | [],o,xs,hf,h=>by
  have:=yo hf
  rw [yT (by omega)];simp [av,aH]
 | f::r,o,xs,hf,h=>by
  simp only [EU,ye] at hf;obtain ⟨e1,e2,e3⟩:=hf;have e1:=yo e1;rw [vQ] at h
  cases h2:DataW.trod enc P w 0 (fun _=>true) held bA f.type ((cs.drop f.offset).take (P.cellsOf f.type)) with
  | none=>simp [h2] at h
  | some x=>
   cases h3:r.mapM (fun f=>DataW.trod enc P w 0 (fun _=>true) held bA f.type ((cs.drop f.offset).take (P.cellsOf f.type))) with
   | none=>simp [h2,h3] at h
   | some ys=>
    simp only [h2,h3,xO,ve,wG,yc] at h;subst h;obtain ⟨d,ps⟩:=x;obtain ⟨g1,g2,g3⟩:=IH f.type _ d ps e2 h2;obtain ⟨k1,k2⟩:=YZ hN IH r _ ys e3 h3;rw [e1] at g1;have e:cs.drop o=(cs.drop o).take (P.cellsOf f.type)++cs.drop (o+P.cellsOf f.type):=by rw [<-vG];exact (xW _ _).symm
    rw [e];exact ⟨mg g1 k1,ML g2 k2⟩
def abD {bA sz:Nat} {e:yy} {f:xx H->List AV} {cs:List yf}
  (IH:∀(cs:List yf) (d:xx H) (ps:List wg),DataW.trod enc P w 0 (fun _=>true) held bA e cs=some (d,ps)->av ai m S w (f d) cs/\aH (f d)=true/\cs.length=sz):
  ∀(k j:Nat) (xs:List (xx H×List wg)),(wc j k).mapM (fun i=>DataW.trod enc P w 0 (fun _=>true) held bA e ((cs.drop (i*sz)).take sz))=some xs->cs.length=(j+k)*sz->
   av ai m S w ((xs.map (·.1)).flatMap f) (cs.drop (j*sz))/\aH ((xs.map (·.1)).flatMap f)=true
 | 0,j,xs,h,hl=>by
  simp only [yaj,tj,wG,yc] at h;subst h;rw [yT (by rw [hl];simp)]
  simp [av,aH]
 | k+1,j,xs,h,hl=>by
  rw [vO,vQ] at h
  cases h2:DataW.trod enc P w 0 (fun _=>true) held bA e ((cs.drop (j*sz)).take sz) with
  | none=>simp [h2] at h
  | some x=>
   cases h3:(wc (j+1) k).mapM (fun i=>DataW.trod enc P w 0 (fun _=>true) held bA e ((cs.drop (i*sz)).take sz)) with
   | none=>simp [h2,h3] at h
   | some ys=>
    simp only [h2,h3,xO,ve,wG,yc] at h;subst h;obtain ⟨d,ps⟩:=x;obtain ⟨g1,g2,g3⟩:=IH _ d ps h2;obtain ⟨k1,k2⟩:=abD IH k (j+1) ys h3 (by rw [hl];congr 1;omega)
    have e:cs.drop (j*sz)=(cs.drop (j*sz)).take sz++cs.drop ((j+1)*sz):=by rw [xH,Nat.one_mul,<-vG];exact (xW _ _).symm
    rw [e];exact ⟨mg g1 k1,ML g2 k2⟩
def aav (hS:∀b,b<w.heap.size->S b):∀(n bA:Nat) (t:yy) (cs:List yf) (d:xx H) (ps:List wg),flat P n t=true->DataW.trod enc P w 0 (fun _=>true) held bA t cs=some (d,ps)->
  av ai m S w (cA P n t d) cs/\aH (cA P n t d)=true/\cs.length=P.cellsOf t
 | 0,bA,t,cs,d,ps,hf,h=>by simp [flat] at hf
 | n+1,0,t,cs,d,ps,hf,h=>by simp [DataW.trod] at h
 | n+1,bA+1,t,cs,d,ps,hf,h=>by
  have IH:=aav hS n bA;unfold DataW.trod at h;simp only [flat] at hf
  split at h
  ·rename_i hu;simp only [hu] at hf;simp only [yc,yq] at h;obtain ⟨rfl,rfl⟩:=h;simp only [cA,hu];exact ⟨by simp [av,aj],by simp [aH,aU],by rw [yo hf];rfl⟩
  ·rename_i hu;simp only [hu] at hf
   split at h
   ·rename_i hk;simp only [yc,yq] at h;obtain ⟨rfl,rfl⟩:=h;simp only [cA,hu];refine ⟨?_,by simp [aH,aU],by rw [yo hf];rfl⟩
    rw [hk.1];simp [av,aj]
   ·cases h
  ·rename_i hu;simp only [hu] at hf
   split at h
   ·rename_i hk;simp only [yc,yq] at h;obtain ⟨rfl,rfl⟩:=h;simp only [cA,hu];refine ⟨?_,by simp [aH,aU],by rw [yo hf];rfl⟩
    rw [hk.1];simp [av,aj]
   ·cases h
  ·rename_i hu;simp only [hu] at hf
   split at h
   ·simp only [yc,yq] at h;obtain ⟨rfl,rfl⟩:=h;simp only [cA,hu];refine ⟨?_,by simp [aH,aU],by rw [yo hf];rfl⟩
    simp only [av,aj];exact ⟨_,_,rfl,⟨_,rfl,rfl⟩,rfl⟩
   ·cases h
  ·rename_i hu;simp [hu] at hf
  ·rename_i hu;simp [hu] at hf
  ·rename_i hu;simp only [hu,ye] at hf;simp only [yc,yq] at h;obtain ⟨rfl,rfl⟩:=h;simp only [cA,hu];exact ⟨by simp [av,aj],by simp [aH,aU],by rw [yo hf.1];rfl⟩
  ·rename_i e a len cap hu;simp only [hu,ye] at hf;obtain ⟨f1,f2,f3⟩:=hf;have eV:=zI.1 f2;simp only at h
   split at h
   case isFalse=>cases h
   rename_i hc;simp only [xm] at h
   cases h1:(wS len).mapM fun i=>(w.cells? 0 (a.add (i*P.cellsOf e)) (P.cellsOf e)).bind (DataW.trod enc P w 0 (fun _=>true) held bA e) with
   | none=>rw [h1] at h;simp at h
   | some jy=>
    cases h2:(wS (cap-len)).mapM fun j=>(w.cells? 0 (a.add ((len+j)*P.cellsOf e)) (P.cellsOf e)).bind (DataW.trod enc P w 0 (fun _=>true) held bA e) with
    | none=>rw [h1] at h;simp [h2] at h
    | some rest=>
     rw [h1] at h;simp only [xO,h2,wF,yc,yq] at h;obtain ⟨rfl,rfl⟩:=h;have hIH:=fun cs d ps h=>IH e cs d ps f3 h
     rw [tL] at h1 h2;obtain ⟨k1,k2,k3,k4,k5⟩:=R5 (ai:=ai) (m:=m) (S:=S) eV hIH len 0 jy h1;have Qw:rest.length=cap-len:=by rw [MV h2];simp
     have jl:cap≠0->a.spot=none:=by
      intro UY;rcases xt len with h0 | h0
      ·subst h0;simp only [yd,Nat.sub_zero] at h2;obtain ⟨_,_,_,_,q5⟩:=R5 (ai:=ai) (m:=m) (S:=S) eV hIH cap 0 rest h2;exact (q5 (by omega)).resolve_right (by omega)
      ·exact (k5 h0).resolve_right (by omega)
     simp only [cA,hu,yL];refine ⟨?_,by simp [aH,aU],by rw [yo f1];rfl⟩
     simp only [av];refine ⟨_,_,rfl,?_,rfl⟩;simp only [aj];by_cases UY:cap=0
     ·subst UY;have jB:len=0:=by omega
      subst jB;have he:jy=[]:=yD k4;subst he;exact .inr ⟨a,rfl,rfl,rfl⟩
     ·obtain ⟨b,o,sp⟩:=a;have jl:=jl UY;simp only at jl;subst jl;refine .inl ⟨b,o,cap,by rw [k4],by omega,fun hx=>?_,?_,k2,by simpa using k1⟩
      ·have:rest.length=0:=by simpa using hx
       omega
      ·generalize hg:((jy.map (·.1)).flatMap fun x=>cA P n e x)=l at k1
       cases l with
       | nil=>exact .inl rfl
       | cons c l=>exact .inr (hS b (amw k1))
  ·rename_i zc x1 LC fs hu;simp only [hu] at hf
   split at h
   case isFalse=>cases h
   rename_i hlen
   cases h1:fs.toList.mapM fun f=>DataW.trod enc P w 0 (fun _=>true) held bA f.type ((zc.drop f.offset).take (P.cellsOf f.type)) with
   | none=>rw [h1] at h;simp at h
   | some xs=>
    rw [h1] at h;simp only [wF,yc,yq] at h;obtain ⟨rfl,rfl⟩:=h;obtain ⟨k1,k2⟩:=YZ hlen (fun t cs d ps hf h=>IH t cs d ps hf h) fs.toList 0 xs hf h1;simp only [cA,hu];exact ⟨by simpa using k1,k2,hlen⟩
  ·rename_i zc x1 LC k e hu;simp only [hu,ye] at hf;obtain ⟨f1,f2⟩:=hf;have f1:=yo f1
   split at h
   case isFalse=>cases h
   rename_i hlen
   cases h1:(wS k).mapM fun i=>DataW.trod enc P w 0 (fun _=>true) held bA e ((zc.drop (i*P.cellsOf e)).take (P.cellsOf e)) with
   | none=>rw [h1] at h;simp at h
   | some xs=>
    rw [h1] at h;simp only [wF,yc,yq] at h;obtain ⟨rfl,rfl⟩:=h;rw [tL] at h1;obtain ⟨k1,k2⟩:=abD (ai:=ai) (m:=m) (S:=S) (fun cs d ps h=>IH e cs d ps f2 h) k 0 xs h1 (by rw [hlen,f1];simp)
    simp only [cA,hu];exact ⟨by simpa using k1,k2,hlen⟩
  all_goals first
   | (cases h;done)
   | (simp_all;done)
def kB (P:xi) (n:Nat) (t:yy) (d:xx H):AV:=
 match P.underlying t with
 | some (.struct _) | some (.array _ _)=> .agg (cA P n t d)
 | _=>(cA P n t d).headD .undef
def aoG (hS:∀b,b<w.heap.size->S b) {n base:Nat} {t:yy} {v:yf} {d:xx H} {ps:List wg} (hf:flat P n t=true) (h:DataW.Trod enc P w 0 (fun _=>true) held t v d ps)
  (hv:Value.okWide P w .any base t v):aj ai m S w (kB P n t d) v/\aU (kB P n t d)=true:=by
 obtain ⟨bA,h⟩:=h;obtain ⟨h1,h2,h3⟩:=aav (ai:=ai) (m:=m) hS n bA t _ d ps hf h;have one:v.cells=#[v]->(∀fs,P.underlying t≠some (.struct fs))->(∀k e,P.underlying t≠some (.array k e))->aj ai m S w (kB P n t d) v/\aU (kB P n t d)=true:=by
  intro hc GH hna;have e:kB P n t d=(cA P n t d).headD .undef:=by
   unfold kB
   grind
  rw [e];rw [hc] at h1;generalize cA P n t d=l at h1 h2
  cases l with
  | nil=>simp [av] at h1
  | cons x l=>
   simp only [av] at h1;simp only [aH,ye] at h2
   grind
 cases n with
 | zero=>simp [flat] at hf
 | succ n=>
  unfold Value.okWide at hv;simp only [flat] at hf
  cases hu:P.underlying t with
  | none=>simp [hu] at hf
  | some ty=>
   rw [hu] at hv hf;cases ty<;>simp only [Bool.false_eq_true] at hf hv
   case struct fs=>
    obtain ⟨cs,rfl,_,_⟩:=hv;have e:kB P (n+1) t d= .agg (cA P (n+1) t d):=by simp only [kB,hu]
    rw [e];exact ⟨by simp only [aj];exact ⟨cs,rfl,h1⟩,by simpa only [aU] using h2⟩
   case array k e=>
    obtain ⟨cs,rfl,_,_⟩:=hv;have e:kB P (n+1) t d= .agg (cA P (n+1) t d):=by simp only [kB,hu]
    rw [e];exact ⟨by simp only [aj];exact ⟨cs,rfl,h1⟩,by simpa only [aU] using h2⟩
   all_goals
    refine one ?_ (by simp [hu]) (by simp [hu])
    cases v with
    | agg cs=>exfalso;simp only [Cell.okWide,Cell.ok,hu] at hv
    | _=>rfl
def zQ (P:xi) (n:Nat):List yy->List (xx H)->List AV
 | t::ts,d::ds=>kB P n t d::zQ P n ts ds
 | _,_=>[]
def aaw (hS:∀b,b<w.heap.size->S b) {n base:Nat}:∀{ts:List yy} {vs:List yf} {ds:List (xx H)} {ps:List wg},ts.all (flat P n)=true->DataW.TrodAll enc P w 0 (fun _=>true) held ts vs ds ps->
  (∀(j:Nat) t v,ts[j]? =some t->vs[j]? =some v->Value.okWide P w .any base t v)->av ai m S w (zQ P n ts ds) vs/\aH (zQ P n ts ds)=true
 | [],[],[],_,_,_,_=>by simp [zQ,av,aH]
 | t::ts,v::vs,d::ds,ps,hf,h,hv=>by
  simp only [uR,ye] at hf;obtain ⟨p,q,h1,h2,_⟩:=h;obtain ⟨a1,a2⟩:=aoG (ai:=ai) (m:=m) hS hf.1 h1 (hv 0 t v rfl rfl);obtain ⟨b1,b2⟩:=aaw hS hf.2 h2 (fun j t v h1 h2=>hv (j+1) t v h1 h2);simp only [zQ,av,aH,ye]
  grind
 | [],_::_,_,_,_,h,_=>by simp [DataW.TrodAll] at h
 | [],[],_::_,_,_,h,_=>by simp [DataW.TrodAll] at h
 | _::_,[],_,_,_,h,_=>by simp [DataW.TrodAll] at h
 | _::_,_::_,[],_,_,h,_=>by simp [DataW.TrodAll] at h
end
end
section
open Go
section
variable {H:Type} {enc:yy×yf->H} {P:xi} {w w':yj} {held:Bool} {sp:Nat->Bool}
def ajo (hs:∀b,b<w.heap.size->w'.heap[b]? =w.heap[b]?) {a:vZ} {u:yf} (h:w.cell? a=some u):w'.cell? a=some u:=by
 have hb:a.block<w.heap.size:=by
  unfold World.cell? at h
  cases hq:w.heap[a.block]? with
  | none=>simp [hq] at h
  | some o=>exact (xv.1 hq).1
 unfold World.cell? at h ⊢;rw [hs _ hb];exact h
def aiY (hs:∀b,b<w.heap.size->w'.heap[b]? =w.heap[b]?) {base:Nat} {a:vZ} {n:Nat} {us:List yf} (h:w.cells? base a n=some us):w'.cells? base a n=some us:=by
 unfold World.cells? at h ⊢
 split at h
 ·rename_i hb;rw [yH hb];exact mapM_carry h (fun x y _ _ hx=>ajo hs hx)
 ·cases h
def aoH {a:vZ} {n:Nat} (h:0<n):MemPlace.cell a.block (a.off+0)∈MemPlace.row a n:=by
 unfold MemPlace.row;exact List.mem_map.2 ⟨0,List.mem_range.2 h,rfl⟩
def Y0 (hs:∀b,b<w.heap.size->w'.heap[b]? =w.heap[b]?):∀(n bA:Nat) (t:yy) (cs:List yf) (d:xx H) (ps:List wg),flat P n t=true->DataW.trod enc P w 0 (fun _=>true) held bA t cs=some (d,ps)->
  (∀p,p∈ps->sp p.block=true)->DataW.trod enc P w' 0 sp held bA t cs=some (d,ps)
 | 0,bA,t,cs,d,ps,hf,h,hp=>by simp [flat] at hf
 | n+1,0,t,cs,d,ps,hf,h,hp=>by simp [DataW.trod] at h
 | n+1,bA+1,t,cs,d,ps,hf,h,hp=>by
  have IH:=Y0 hs n bA;have elem:∀{e:yy} {a:vZ} {y:xx H×List wg},flat P n e=true->(w.cells? 0 a (P.cellsOf e)).bind (DataW.trod enc P w 0 (fun _=>true) held bA e)=some y->(∀p,p∈y.2->sp p.block=true)->
    (w'.cells? 0 a (P.cellsOf e)).bind (DataW.trod enc P w' 0 sp held bA e)=some y:=by
   intro e a y he h hq
   cases h1:w.cells? 0 a (P.cellsOf e) with
   | none=>simp [h1] at h
   | some us=>
    rw [h1] at h;rw [aiY hs h1];simp only [xO] at h ⊢;obtain ⟨d,ps⟩:=y;exact IH e us d ps he h hq
  unfold DataW.trod at h ⊢;simp only [flat] at hf
  split at h
  ·exact h
  ·exact h
  ·exact h
  ·exact h
  ·rename_i hu;simp [hu] at hf
  ·rename_i hu;simp [hu] at hf
  ·exact h
  ·rename_i e a len cap hu;simp only [hu,ye] at hf;obtain ⟨f1,f2,f3⟩:=hf;have eV:=zI.1 f2;simp only at h ⊢
   split at h
   case isFalse=>cases h
   rename_i hc;rw [yH hc];simp only [xm] at h
   cases h1:(wS len).mapM fun i=>(w.cells? 0 (a.add (i*P.cellsOf e)) (P.cellsOf e)).bind (DataW.trod enc P w 0 (fun _=>true) held bA e) with
   | none=>rw [h1] at h;simp at h
   | some jy=>
    cases h2:(wS (cap-len)).mapM fun j=>(w.cells? 0 (a.add ((len+j)*P.cellsOf e)) (P.cellsOf e)).bind (DataW.trod enc P w 0 (fun _=>true) held bA e) with
    | none=>rw [h1] at h;simp [h2] at h
    | some rest=>
     rw [h1] at h;simp only [xO,h2,wF,yc,yq] at h;obtain ⟨rfl,rfl⟩:=h;have k1:((wS len).mapM fun i=>(w'.cells? 0 (a.add (i*P.cellsOf e)) (P.cellsOf e)).bind (DataW.trod enc P w' 0 sp held bA e))=some jy:=
      mapM_carry h1 (fun x y _ hy hx=>elem f3 hx (fun p hq=>hp p (vt _ (vY.2 ⟨y,um _ hy,hq⟩))))
     have k2:((wS (cap-len)).mapM fun j=>(w'.cells? 0 (a.add ((len+j)*P.cellsOf e)) (P.cellsOf e)).bind (DataW.trod enc P w' 0 sp held bA e))=some rest:=
      mapM_carry h2 (fun x y _ hy hx=>elem f3 hx (fun p hq=>hp p (vt _ (vY.2 ⟨y,vt _ hy,hq⟩))))
     have hr:(if sp a.block=true then (wS (cap-len)).mapM fun j=>(w'.cells? 0 (a.add ((len+j)*P.cellsOf e)) (P.cellsOf e)).bind (DataW.trod enc P w' 0 sp held bA e) else some [])=some rest:=by
      by_cases jl:sp a.block=true
      ·rw [yH jl];exact k2
      ·rw [yA jl];have h0:¬0<(jy.length+rest.length)*P.cellsOf e:=fun h0=>jl (hp _ (um _ (aoH h0)))
       have hz:jy.length+rest.length=0:=by
        rcases xt (jy.length+rest.length) with h | h
        ·exact h
        ·exact (h0 (ybi h eV)).elim
       have:rest=[]:=yD (by omega)
       rw [this]
     rw [k1];simp only [xO];rw [hr];rfl
  ·rename_i zc x1 LC fs hu;simp only [hu] at hf
   split at h
   case isFalse=>cases h
   rename_i hlen;rw [yH hlen]
   cases h1:fs.toList.mapM fun f=>DataW.trod enc P w 0 (fun _=>true) held bA f.type ((zc.drop f.offset).take (P.cellsOf f.type)) with
   | none=>rw [h1] at h;simp at h
   | some xs=>
    rw [h1] at h;simp only [wF,yc,yq] at h;obtain ⟨rfl,rfl⟩:=h;have za:∀(r:List uF) (o:Nat),EU P (fun u=>flat P n u) r o (P.cellsOf t)=true->∀f,f∈r->flat P n f.type=true:=by
     intro r
     induction r with
     | nil=>intro o _ f hm;cases hm
     | cons g r ih=>
      intro o hq f hm;simp only [EU,ye] at hq;rcases List.mem_cons.1 hm with rfl | hm
      ·exact hq.2.1
      ·exact ih _ hq.2.2 f hm
    have k1:(fs.toList.mapM fun f=>DataW.trod enc P w' 0 sp held bA f.type ((zc.drop f.offset).take (P.cellsOf f.type)))=some xs:=
     mapM_carry h1 (fun f y hm hy hx=>IH _ _ y.1 y.2 (za _ _ hf f hm) hx (fun p hq=>hp p (vY.2 ⟨y,hy,hq⟩)))
    rw [k1];rfl
  ·rename_i zc x1 LC k e hu;simp only [hu,ye] at hf
   split at h
   case isFalse=>cases h
   rename_i hlen;rw [yH hlen]
   cases h1:(wS k).mapM fun i=>DataW.trod enc P w 0 (fun _=>true) held bA e ((zc.drop (i*P.cellsOf e)).take (P.cellsOf e)) with
   | none=>rw [h1] at h;simp at h
   | some xs=>
    rw [h1] at h;simp only [wF,yc,yq] at h;obtain ⟨rfl,rfl⟩:=h;have k1:((wS k).mapM fun i=>DataW.trod enc P w' 0 sp held bA e ((zc.drop (i*P.cellsOf e)).take (P.cellsOf e)))=some xs:=
     mapM_carry h1 (fun i y _ hy hx=>IH _ _ y.1 y.2 hf.2 hx (fun p hq=>hp p (vY.2 ⟨y,hy,hq⟩)))
    rw [k1];rfl
  all_goals first
   | (cases h;done)
   | (simp_all;done)
def X9 (hs:∀b,b<w.heap.size->w'.heap[b]? =w.heap[b]?) {n:Nat}:∀{ts:List yy} {vs:List yf} {ds:List (xx H)} {ps:List wg},ts.all (flat P n)=true->DataW.TrodAll enc P w 0 (fun _=>true) held ts vs ds ps->
  (∀p,p∈ps->sp p.block=true)->DataW.TrodAll enc P w' 0 sp held ts vs ds ps
 | [],[],[],ps,_,h,_=>by simpa only [DataW.TrodAll] using h
 | t::ts,v::vs,d::ds,ps,hf,h,hp=>by
  simp only [uR,ye] at hf;obtain ⟨p,q,⟨bA,h1⟩,h2,rfl⟩:=h;exact ⟨p,q,⟨bA,Y0 hs n bA t _ d p hf.1 h1 (fun x hx=>hp x (um _ hx))⟩,X9 hs hf.2 h2 (fun x hx=>hp x (vt _ hx)),rfl⟩
 | [],_::_,_,_,_,h,_=>by simp [DataW.TrodAll] at h
 | [],[],_::_,_,_,h,_=>by simp [DataW.TrodAll] at h
 | _::_,[],_,_,_,h,_=>by simp [DataW.TrodAll] at h
 | _::_,_::_,[],_,_,h,_=>by simp [DataW.TrodAll] at h
end
end
section
open Go Go.ChangeShapes Go.WideShapes
section
variable {H:Type} {enc:yy×yf->H} {P:xi} {W W':yj}
def akz (hc:Calm W W') (may:wg->Prop):W.keptBut W' may:=by
 refine ⟨hc.os,hc.output,fun i hi=>?_⟩;rw [hc.same i hi]
 cases hq:W.heap[i]? with
 | none=>rfl
 | some o=>cases o<;>simp
def aiZ (hc:Calm W W') {b off:Nat} (hb:b<W.heap.size):W'.frozen? ⟨b,off,none⟩=W.frozen? ⟨b,off,none⟩:=by
 unfold World.frozen?;simp only;rw [hc.same b hb]
def amx {fn:Func} {s:ybp} {apart fresh handsOn again:Bool} {args:Array yf} {ds gs:List (xx H)} {before:List wg} {n:Nat} {tb:yy}
  (hW:DataW.Whole enc P fn.params.toList s.vars apart W args.toList ds gs before) (hv:s.vars=[]) (Oh:fn.params.toList.all (flat P n)=true) (hc:Calm W W')
  (lI:s.fn H (ds++gs)={results:=[.lit (.bool true)],args:=ds}) (BM:fn.resultTypes=#[tb]) (kL:P.underlying tb=some .bool):
  s.post enc P fn apart fresh handsOn again W args (.bool true) W':=by
 have a7:=hW.lt;have hW0:=hW;obtain ⟨p,q,hA,hV,hpq,hz,hn⟩:=hW;rw [hv] at hV;have hq:gs=[]/\q=[]:=by
  cases gs with
  | nil=>exact ⟨rfl,by simpa only [DataW.TrodVars] using hV⟩
  | cons g gs=>simp [DataW.TrodVars] at hV
 obtain ⟨rfl,rfl⟩:=hq;have Qx:before=p:=by rw [hpq];simp
 subst Qx;have ib:∀sp:Nat->Bool,(∀p∈before,sp p.block=true)->DataW.TrodAll enc P W' 0 sp true fn.params.toList args.toList ds before:=fun sp h=>X9 hc.same Oh hA h
 have aeM:∀(b:Nat) (sp:Nat->Bool) (hd:Bool),DataW.TrodAll enc P W' b sp hd fn.resultTypes.toList ((Value.bool true).resultList fn.resultTypes.size) [.lit (.bool true)] []:=by
  intro b sp hd;rw [BM];refine ⟨[],[],⟨1,?_⟩,rfl,rfl⟩;simp [DataW.trod,kL,Value.cells]
 have hold:∀p∈before,(fun b=>decide (b<W.heap.size)) p.block=true:=fun p hp=>by simpa using a7 p hp
 have aeN:∀sp:Nat->Bool,DataW.TrodVars enc P W' sp s.vars ([]:List (xx H)) []:=fun sp=>by rw [hv];rfl
 refine ⟨ds,[],before,[],before,[],hW0,by rw [lI];exact aeM _ _ _,by rw [lI];exact ib _ hold,by rw [lI];exact aeN _,akz hc _,fun _=>?_⟩
 refine ⟨?_,[.lit (.bool true)]++ds,[],[]++before++[],⟨[]++before,[],trodAll_append (ib _ (fun _ _=>rfl)) (aeM _ _ _),aeN _,rfl,?_,?_⟩,?_⟩
 ·intro j t r h1 h2;rw [BM] at h1 h2
  cases j with
  | zero=>
   simp only [List.getElem?_toArray,vn,yc] at h1;simp only [Value.resultList,List.size_toArray,yC,yK,xm,yd,vn,yc] at h2;subst h1;subst h2;simp [Value.okWide,kL,Cell.okWide,Cell.ok]
  | succ j=>simp at h1
 ·intro b off hp;have hp:MemPlace.cell b off∈before:=by simpa using hp
  rw [aiZ hc (b:=b) (a7 _ hp)];exact hz b off hp
 ·intro ha
  have:=hn ha
  simpa using this
 ·intro p hp _;simpa using hp
def akA {O:bt} {n k:Nat} {fn:Func} {s:ybp} {apart fresh handsOn again:Bool} {base:Nat} {args:Array yf} {ds gs:List (xx H)} {before:List wg} {tb:yy}
  (hp:eS O n (zQ O.P k fn.params.toList ds) (.bool true)) (Cd:O.w0=W) (lI:O.P.funcs[O.ai n]? =some fn) (hb:fn.body.isSome=true) (B7:fn.name≠ "runtime.NumGoroutine")
  (aR:∀(j:Nat) t v,fn.params[j]? =some t->args[j]? =some v->Value.okWide O.P W .any base t v)
  (hW:DataW.Whole enc O.P fn.params.toList s.vars apart W args.toList ds gs before) (hv:s.vars=[]) (Oh:fn.params.toList.all (flat O.P k)=true)
  (hfs:s.fn H (ds++gs)={results:=[.lit (.bool true)],args:=ds}) (BM:fn.resultTypes=#[tb]) (kL:O.P.underlying tb=some .bool):
  Calls O.P (O.ai n) args W fun e W'=>∃v,e= .returned v/\s.post enc O.P fn apart fresh handsOn again W args v W':=by
 have hA:=hW;obtain ⟨p,q,hA,_⟩:=hA;obtain ⟨h1,h2⟩:=aaw (ai:=O.ai) (m:=ff) (S:=fun b=>b<W.heap.size) (fun b hb=>hb) Oh hA (fun j t v a b=>aR j t v (by simpa using a) (by simpa using b));have hi:=hp W (fun b=>b<W.heap.size) args ⟨fun b _=>by rw [Cd],by rw [Cd];exact yr _⟩ (fun b hb=>hb) h1 h2
 have key:∀e W',aag O W (fun b=>b<W.heap.size) (.bool true) e W'->∃v,e= .returned v/\s.post enc O.P fn apart fresh handsOn again W args v W':=by
  rintro e W' ⟨u,S',rfl,hc,_,_,_,hr⟩;simp only [og,iI,aj] at hr;obtain ⟨_,_,hu,_⟩:=hr;subst hu;exact ⟨_,rfl,amx hW hv Oh hc hfs BM kL⟩
 rcases hi with ⟨_,hi⟩ | ⟨u,w',hi,_⟩
 ·exact callsIn_wide.1 (hi.mono key)
 ·rw [Ng lI hb B7] at hi;cases hi
end
end
section
namespace J1
open Go Go.Proofs
noncomputable def O (W:yj):bt:=⟨Tryz.prog,VE.aW,Ae zg.ai,VE.prog,Og zg.bZ zg.hd,W⟩
def ZL {w:yj} {k:Nat} {os:Array Go.Obj}:Calm w (Go.Sort.grow (w.drewN k) os):=Iw (Lib.below_grow w.heap.size w (yr _) k os)
def aax {W w:yj} (h:Lib.TabIs Tryz.prog W "internal/strconv.uint64pow10" .u64 Lib.pow10Tab) (hg:Bp (O W) w):Lib.TabIs Tryz.prog w "internal/strconv.uint64pow10" .u64 Lib.pow10Tab:=by
 unfold Lib.TabIs World.var? at h ⊢
 cases hn:Tryz.prog.globalNamed "internal/strconv.uint64pow10" with
 | none=>rw [hn] at h;exact h
 | some g=>
  rw [hn] at h;simp only [xO] at h ⊢;have hb:g<W.heap.size:=by
   cases hq:W.heap[g]? with
   | none=>rw [hq] at h;cases h
   | some o=>exact (xv.1 hq).1
  rw [hg.1 g hb];exact h
def avf:∀args w,(callFunc 153 args).run Tryz.prog w= .ok (.enter 153 args) w:=enters_of Tryz.func153 (by kernel_rfl) rfl
def avg:∀args w,(callFunc 167 args).run Tryz.prog w= .ok (.enter 167 args) w:=enters_of Tryz.func167 (by kernel_rfl) rfl
def avh:∀args w,(callFunc 201 args).run Tryz.prog w= .ok (.enter 201 args) w:=enters_of Tryz.func201 (by kernel_rfl) rfl
def avi:∀args w,(callFunc 204 args).run Tryz.prog w= .ok (.enter 204 args) w:=enters_of Tryz.func204 (by kernel_rfl) rfl
def avj:∀args w,(callFunc 205 args).run Tryz.prog w= .ok (.enter 205 args) w:=enters_of Tryz.func205 (by kernel_rfl) rfl
def avk:∀args w,(callFunc 211 args).run Tryz.prog w= .ok (.enter 211 args) w:=enters_of Tryz.func211 (by kernel_rfl) rfl
def avl:∀args w,(callFunc 219 args).run Tryz.prog w= .ok (.enter 219 args) w:=enters_of Tryz.func219 (by kernel_rfl) rfl
def avm:∀args w,(callFunc 220 args).run Tryz.prog w= .ok (.enter 220 args) w:=enters_of Tryz.func220 (by kernel_rfl) rfl
def avn:∀args w,(callFunc 221 args).run Tryz.prog w= .ok (.enter 221 args) w:=enters_of Tryz.func221 (by kernel_rfl) rfl
def avo:∀args w,(callFunc 228 args).run Tryz.prog w= .ok (.enter 228 args) w:=enters_of Tryz.func228 (by kernel_rfl) rfl
def avp:∀args w,(callFunc 241 args).run Tryz.prog w= .ok (.enter 241 args) w:=enters_of Tryz.func241 (by kernel_rfl) rfl
def avq:∀args w,(callFunc 263 args).run Tryz.prog w= .ok (.enter 263 args) w:=enters_of Tryz.func263 (by kernel_rfl) rfl
def atN (W:yj) (n:Nat) (sp:List AV->Option AV):Prop:=∀aq r,sp aq=some r->eS (O W) n aq r
section
variable {W:yj} {m:Int} (hm:W.cell? ⟨2,0,none⟩=some (.int .i64 m)) (ht:Lib.TabIs Tryz.prog W "internal/strconv.uint64pow10" .u64 Lib.pow10Tab)
include hm ht
def aqX:afu.me (atN W):=
 (Tr.lf (aim (O:=O W) (f:=220) (by rfl) avm Tryz.strings_TrimPrefix)
  (Tr.lf (ain (O:=O W) (f:=204) (by rfl) avi (fun z w hz hg=>(Tryz.aif z hz w (aax ht hg)).mono fun _ _ ⟨h1,k,os,h2⟩=>⟨h1,h2▸ZL⟩))
  (Tr.lf (aiq (O:=O W) (f:=167) (by rfl) avg Tryz.strings_CutPrefix)
  (Tr.lf (aoq (O:=O W) (f:=153) (by rfl) avf (a:=⟨2,0,none⟩) (m:=m) hm (fun s sep w hs hc=>Tryz.strings_Cut s sep m w hs hc))
  Tr.jK Tr.jK) (Tr.lf (amm (O:=O W) (f:=201) (by rfl) avh (fun z w h0 h1 hg=>(Tryz.strconv_Itoa z h0 h1 w (aax ht hg)).mono fun _ _ ⟨h1,k,os,h2⟩=>⟨h1,h2▸ZL⟩))
  Tr.jK Tr.jK)) (Tr.lf (akr (O:=O W) (f:=211) (by rfl) avk (fun x y w hx hy=>Tryz.bits_Mul64 x y hx hy w))
  (Tr.lf (ajm (O:=O W) (f:=205) (by rfl) avj Tryz.strings_Repeat)
  Tr.jK Tr.jK) (Tr.lf (air (O:=O W) (f:=219) (by rfl) avl Tryz.strings_HasPrefix)
  Tr.jK Tr.jK))) (Tr.lf (akt (O:=O W) (f:=249) (by rfl) (fun x y c w h=>Tryz.bits_Add64 x y c h w))
  (Tr.lf (aml (O:=O W) (f:=228) (by rfl) avo (fun s cs w hs nN ha=>Tryz.aiE s cs w hs nN ha))
  (Tr.lf (amn (O:=O W) (f:=221) (by rfl) avn (fun s z w hl h=>(Tryz.strconv_Atoi s z hl h w).mono fun _ _ ⟨h1,t,h2⟩=>⟨h1,h2▸Iw (Lib.bytesWorld_below _ _ _)⟩))
  Tr.jK Tr.jK) (Tr.lf (amo (O:=O W) (f:=241) (by rfl) avp (fun x w h0 h1=>Tryz.bits_LeadingZeros64 x w h0 h1))
  Tr.jK Tr.jK)) (Tr.lf (aks (O:=O W) (f:=263) (by rfl) avq (fun x w h0 h1=>Tryz.bits_Len64 x w h0 h1))
  (Tr.lf (aku (O:=O W) (f:=255) (by rfl) (fun x y b w h=>Tryz.bits_Sub64 x y b h w))
  Tr.jK Tr.jK) Tr.jK)))
def aoI:eM (O W) where
 hint n f g h:=Tr.CO (p:=fun f g=>Ae zg.ai g=f) (RF zg.aqO) h
 mixed:=by kernel_rfl
 prog n F h:=Tr.CO zg.aoE h
 aW n sp aq r h hs:=Tr.CO (aqX hm ht) h aq r hs
 F1 n sp hp ct aq v ap bc h:=by cases h
end
end J1
end
section
def bn:List Int->Int
 | []=>0
 | a::r=>if a=0 then bn r else a
def Ro {l:List Int} {i:Nat} (h:i<l.length):bn (l.drop i)=if l[i]=0 then bn (l.drop (i+1)) else l[i]:=by
 rw [yN h,bn]
def fQ (lo hi:Int):List Int->Bool
 | []=>false
 | a::r=>if a<lo\/hi<a then true else fQ lo hi r
def akB {lo hi:Int} {l:List Int} {i:Nat} (h:i<l.length):fQ lo hi (l.drop i)=if l[i]<lo\/hi<l[i] then true else fQ lo hi (l.drop (i+1)):=by
 rw [yN h,fQ]
def kD (n:Nat) (lo hi:Int):List (List Int)->Int
 | []=>0
 | r::s=>if r.length≠n then 2 else if fQ lo hi r=true then 3 else kD n lo hi s
def Y1 {n:Nat} {lo hi:Int} {s:List (List Int)} {i:Nat} (h:i<s.length):
  kD n lo hi (s.drop i)=if s[i].length≠n then 2 else if fQ lo hi s[i]=true then 3 else kD n lo hi (s.drop (i+1)):=by
 rw [yN h,kD]
def oZ (s:List (List Int)):Int:=if s.length=0 then 12 else if 16<s.length then 5 else kD s.length (-1000) 1000 s
def qI:List (List Int)->Bool
 | []=>true
 | r::s=>if 18<r.length then false else qI s
def aio {s:List (List Int)} {i:Nat} (h:i<s.length):qI (s.drop i)=if 18<s[i].length then false else qI (s.drop (i+1)):=by
 rw [yN h,qI]
def pD (n:Nat) (s:List (List Int)):Bool:=if n<s.length/\s.length<=16\/18<s.length then false else qI s
def gG:List Int->Int
 | []=>0
 | a::r=>a+gG r
def MW {l:List Int} {i:Nat} (h:i<l.length):gG (l.take (i+1))=gG (l.take i)+l[i]:=by
 induction l generalizing i with
 | nil=>exact absurd h (uD _)
 | cons a r ih=>
  cases i with
  | zero=>simp [gG]
  | succ i=>
   have h':i<r.length:=by simp_all
   simp only [wh,gG,List.getElem_cons_succ,ih h'];omega
def aay {lo hi:Int} {l:List Int} (h:fQ lo hi l=false):∀i (bL:i<l.length),lo<=l[i]/\l[i]<=hi:=by
 induction l with
 | nil=>intro i bL;exact absurd bL (uD _)
 | cons a r ih=>
  simp only [fQ] at h
  grind
def akC {lo hi:Int} {l:List Int} (h:fQ lo hi l=false):∀i,fQ lo hi (l.take i)=false:=by
 induction l with
 | nil=>intro i;simp [fQ]
 | cons a r ih=>
  intro i;simp only [fQ] at h
  split at h
  ·grind
  ·rename_i hc
   cases i with
   | zero=>simp [fQ]
   | succ i=>simp only [wh,fQ,hc,xh,ih h i]
def TW (s:List (List Int)) (c r:Int):Int:=(s.getD (r%s.length).toNat []).getD (c%s.length).toNat 0
def aoJ {n m:Int} (h:0<m):(n.tmod m+m).tmod m=n%m:=by
 have e:n.tmod m=if 0<=n\/m∣n then n%m else n%m-m:=by
  grind
 have h1:=Int.emod_nonneg n (by omega:m≠0);rw [e]
 split
 ·rw [xE (by omega),Int.add_emod_right,ybj]
 ·rw [show n%m-m+m=n%m by omega,xE h1,ybj]
def akD {n:Nat} {lo hi:Int} {s:List (List Int)} (h:kD n lo hi s=0):∀i (bL:i<s.length),s[i].length=n/\fQ lo hi s[i]=false:=by
 induction s with
 | nil=>intro i bL;exact absurd bL (uD _)
 | cons r s ih=>
  simp only [kD] at h
  grind
end
section
def dv:List Int->Nat
 | []=>0
 | a::r=>a.toNat+1000000000*dv r
def mh:∀(a b:List Int),dv (a++b)=dv a+1000000000^a.length*dv b
 | [],b=>by simp [dv]
 | x::a,b=>by
  simp only [xu,dv,mh a b,yC,xk,xA]
  grind
def pn {l:List Int} (i:Nat):dv (l.take (i+1))=dv (l.take i)+1000000000^i*(l.getD i 0).toNat:=by
 by_cases h:i<l.length
 ·rw [yB h,mh,yQ,xX (by omega)];simp [dv,xK,List.getElem?_eq_getElem h]
 ·rw [yp (by omega),yp (by omega)]
  grind
abbrev dg (l:List Int):Prop:=fQ 0 999999999 l=false
def hJ {a b:List Int}:dg (a++b)↔dg a/\dg b:=by
 induction a with
 | nil=>simp [dg,fQ]
 | cons x a ih=>
  simp only [dg,xu,fQ] at ih ⊢
  grind
def jG {x:Int}:dg [x]↔0<=x/\x<1000000000:=by
 simp only [dg,fQ]
 grind
def iD {l:List Int} (h:dg l) (i:Nat):0<=l.getD i 0/\l.getD i 0<1000000000:=by
 by_cases hi:i<l.length
 ·have:=aay h i hi
  grind
 ·grind
def CU {l:List Int} (h:dg l) (i:Nat):dg (l.take i):=akC h i
def jL:∀{l:List Int},dg l->dv l<1000000000^l.length
 | [],_=>by simp [dv]
 | x::l,h=>by
  have h':dg ([x]++l):=h;obtain ⟨h1,h2⟩:=hJ.1 h';have h1:=jG.1 h1
  have:=jL h2
  simp only [dv,yC,xk];omega
def eb:List Int->List Int
 | []=>[]
 | a::r=>match eb r with | []=>if a=0 then [] else [a] | t::q=>a::t::q
def Iy:∀l:List Int,eb (l++[0])=eb l
 | []=>rfl
 | a::l=>by simp only [xu,eb,Iy l]
def MM {a:Int} (h:a≠0):∀l:List Int,eb (l++[a])=l++[a]
 | []=>by simp [eb,h]
 | b::l=>by
  simp only [xu,eb,MM h l]
  cases hq:l++[a] with
  | nil=>simp at hq
  | cons t q=>rfl
def zC:∀l:List Int,dv (eb l)=dv l
 | []=>rfl
 | a::l=>by
  have ih:=zC l;simp only [eb,dv]
  split
  ·rename_i h;rw [h] at ih
   split
   ·rename_i h0;subst h0;simp [dv,<-ih]
   ·simp [dv,<-ih]
  ·rename_i t q h;rw [h] at ih;simp only [dv] at ih ⊢;omega
def A2:∀{l:List Int},dg l->dg (eb l)
 | [],_=>rfl
 | a::l,h=>by
  have h':dg ([a]++l):=h;obtain ⟨h1,h2⟩:=hJ.1 h';have ih:=A2 h2;simp only [eb]
  split
  ·grind
  ·rename_i t q hq;rw [hq] at ih
   exact (hJ (a:=[a]) (b:=t::q)).2 ⟨h1,ih⟩
def MX:∀l:List Int,(eb l).length<=l.length
 | []=>yr _
 | a::l=>by
  have ih:=MX l;simp only [eb]
  grind
def snoc {α:Type} (l:List α):l=[]\/∃m a,l=m++[a]:=by
 rcases List.eq_nil_or_concat l with h | ⟨m,a,h⟩
 ·grind
 ·grind
def ai0:∀(n:Nat) (l:List Int),l.length=n->eb (eb l)=eb l:=by
 intro n
 induction n with
 | zero=>intro l h;rw [yD h];rfl
 | succ n ih=>
  intro l h;rcases snoc l with rfl | ⟨m,a,rfl⟩
  ·rfl
  ·by_cases h0:a=0
   ·subst h0;rw [Iy]
    grind
   ·rw [MM h0,MM h0]
def ajp (l:List Int):eb (eb l)=eb l:=ai0 _ l rfl
abbrev nz (l:List Int):Prop:=eb l=l
def E9 (l:List Int):nz (eb l):=ajp l
def Oi {l:List Int} (h:nz l) (hd:dg l) (h0:l≠[]):1000000000^(l.length-1)<=dv l:=by
 rcases snoc l with rfl | ⟨m,a,rfl⟩
 ·grind
 ·by_cases ha:a=0
  ·subst ha
   have:=MX m
   have e:=congrArg ybq h;rw [Iy] at e
   grind
  ·rw [mh]
   have:=jG.1 (hJ.1 hd).2
   simp only [dv,yW,tH,tc,xI,y7];have h1:1<=a.toNat:=by omega
   have:=yU (1000000000^m.length) h1
   omega
def SP {l:List Int} (h:nz l) (hd:dg l) (h0:dv l=0):l=[]:=by
 by_cases hl:l=[]
 ·grind
 ·have:=Oi h hd hl
  grind
def Tn {a b:List Int} (ha:dg a) (hb:nz b) (cR:dg b) (h:a.length<b.length):dv a<dv b:=by
 have h1:=jL ha;have h2:=Oi hb cR (fun e=>by subst e;simp at h);have h3:1000000000^a.length<=1000000000^(b.length-1):=xD (by decide) (by omega);omega
def dR (m n:Nat):Int:=if m<n then -1 else if n<m then 1 else 0
def adi {l:List Int} {i:Nat} (h:i<l.length):dv l=dv (l.take i)+1000000000^i*(l[i].toNat+1000000000*dv (l.drop (i+1))):=by
 have e:l=l.take i++l[i]::l.drop (i+1):=by simp_all
 have:dv l=dv (l.take i++l[i]::l.drop (i+1)):=congrArg dv e
 rw [this,mh,yQ,xX (by omega)];rfl
def abE {a b:List Int} {i:Nat} (ha:dg a) (hb:dg b) (h1:i<a.length) (h2:i<b.length) (he:a.drop (i+1)=b.drop (i+1)) (h:a[i]<b[i]):dv a<dv b:=by
 rw [adi h1,adi h2,he];have hl:=jL (CU ha i);have g1:=aay ha i h1;have h3:a[i].toNat+1000000000*dv (b.drop (i+1))+1<=b[i].toNat+1000000000*dv (b.drop (i+1)):=by omega
 have:=yU (1000000000^i) h3
 grind
def To:∀{l:List Int} {j:Nat} {x:Int},j<l.length->dv (l.set j x)+1000000000^j*(l.getD j 0).toNat=dv l+1000000000^j*x.toNat
 | [],j,x,h=>by simp at h
 | a::l,0,x,_=>by simp [dv];omega
 | a::l,j+1,x,h=>by
  have ih:=To (l:=l) (j:=j) (x:=x) (by simpa using h);simp only [tW,dv,tQ,xk]
  grind
def NU {l:List Int} (h:dg l) {j:Nat} {x:Int} (hx:0<=x/\x<1000000000):dg (l.set j x):=by
 by_cases hj:j<l.length
 ·rw [List.set_eq_take_append_cons_drop,yH hj];have e:l=l.take (j+1)++l.drop (j+1):=(xW _ _).symm;have hd:dg (l.drop (j+1)):=by rw [e] at h;exact (hJ.1 h).2
  exact hJ.2 ⟨CU h j,(hJ (a:=[x]) (b:=l.drop (j+1))).2 ⟨jG.2 hx,hd⟩⟩
 ·rw [List.set_eq_of_length_le (by omega)];exact h
def aaz {l:List Int} {j m:Nat} {x:Int} (h:m≠j):(l.set j x).getD m 0=l.getD m 0:=by grind
def amy {V0 V V' p q A X Y o c s:Nat} (hs:s=o+A*X+c) (bg:V'+p*q*o=V+p*q*(s%1000000000)) (hv:V+p*q*c=V0+p*(A*Y)):
  V'+p*(q*1000000000)*(s/1000000000)=V0+p*(A*(Y+q*X)):=by
 have e:=Nat.mod_add_div s 1000000000;have e2:p*q*s=p*q*(s%1000000000)+p*(q*1000000000)*(s/1000000000):=by
  conv=>lhs;rw [<-e]
  rw [xA,<-xr (p*q),<-xr p q]
 have e3:p*q*s=p*q*o+p*q*(A*X)+p*q*c:=by rw [hs,xA,xA]
 have e4:p*(A*(Y+q*X))=p*(A*Y)+p*q*(A*X):=by
  rw [xA,xA,xr p q,<-xr A q X,xC A q,xr q A X]
 omega
def aaA (n:Nat):dv (yG n 0)=0:=by
 induction n with
 | zero=>rfl
 | succ n ih=>simp [wV,dv,ih]
def aaB (n:Nat):dg (yG n 0):=by
 induction n with
 | zero=>rfl
 | succ n ih=>exact (hJ (a:=[0]) (b:=yG n 0)).2 ⟨by decide,ih⟩
end
section
def bv (b:Nat):List Nat->Nat
 | []=>0
 | a::r=>a+b*bv b r
def lo (b:Nat) (l:List Nat):Prop:=∀x,x∈l->x<b
section
variable {b:Nat}
def Bj (a:Nat):bv b [a]=a:=by simp [bv]
def rT:∀(l m:List Nat),bv b (l++m)=bv b l+b^l.length*bv b m
 | [],m=>by simp [bv]
 | x::l,m=>by
  simp only [xu,bv,rT l m,yC,xk,xA]
  grind
def gd {l:List Nat} {i:Nat} (h:i<l.length):l[i]=l.getD i 0:=by simp_all
def Tp {l:List Nat} {i:Nat} (h:l.length<=i):l.getD i 0=0:=by simp_all
def jv {l:List Nat} (i:Nat):bv b (l.take (i+1))=bv b (l.take i)+b^i*l.getD i 0:=by
 by_cases h:i<l.length
 ·rw [yB h,rT,yQ,xX (by omega),Bj,gd h]
 ·rw [yp (by omega),yp (by omega),Tp (by omega),xI,y7]
def NV:lo b []:=fun _ h=>by simp at h
def MY {l m:List Nat}:lo b (l++m)↔lo b l/\lo b m:=by
 constructor
 ·intro h;exact ⟨fun x hx=>h x (by simp [hx]),fun x hx=>h x (by simp [hx])⟩
 ·rintro ⟨h1,h2⟩ x hx;rcases List.mem_append.1 hx with h | h
  ·exact h1 x h
  ·exact h2 x h
def FG {x:Nat}:lo b [x]↔x<b:=by simp [lo]
def gO (hb:0<b) {l:List Nat} (h:lo b l) (i:Nat):l.getD i 0<b:=by
 by_cases hi:i<l.length
 ·rw [<-gd hi];exact h _ (List.getElem_mem hi)
 ·grind
def Bb {l:List Nat} (h:lo b l) (i:Nat):lo b (l.take i):=fun x hx=>h x (List.mem_of_mem_take hx)
def abF {l:List Nat} (h:lo b l) (i:Nat):lo b (l.drop i):=fun x hx=>h x (List.mem_of_mem_drop hx)
def mv {l:List Nat} (h:lo b l) {i x:Nat} (hx:x<b):lo b (l.set i x):=fun y hy=>by
 rcases List.mem_or_eq_of_mem_set hy with h1 | h1
 ·exact h y h1
 ·omega
def FH (hb:0<b) (n:Nat):lo b (yG n 0):=fun x hx=>by
 grind
def FI (n:Nat):bv b (yG n 0)=0:=by
 induction n with
 | zero=>rfl
 | succ n ih=>simp [wV,bv,ih]
def CV (n m:Nat):(yG n (0:Nat)).getD m 0=0:=by grind
def mA:∀{l:List Nat},lo b l->bv b l<b^l.length
 | [],_=>by simp [bv]
 | x::l,h=>by
  have h1:=h x (by simp);have h2:=mA (l:=l) (fun y hy=>h y (by simp [hy]));simp only [bv,yC,xk,xC _ b]
  have:=yU b (show bv b l+1<=b^l.length from h2)
  grind
def n7:∀{l:List Nat} {i x:Nat},i<l.length->bv b (l.set i x)+b^i*l.getD i 0=bv b l+b^i*x
 | [],i,x,h=>by simp at h
 | a::l,0,x,_=>by simp [bv];omega
 | a::l,i+1,x,h=>by
  have ih:=n7 (l:=l) (i:=i) (x:=x) (by simpa using h)
  have:=congrArg (fun t=>b*t) ih
  simp only [xA] at this;simp only [tW,bv,tQ,xk,xC _ b,xr] at this ⊢;omega
def po {l:List Nat} {i m x:Nat} (h:i≠m):(l.set i x).getD m 0=l.getD m 0:=by simp_all
def ajq {l:List Nat} {i x:Nat} (h:i<l.length):(l.set i x).getD i 0=x:=by simp_all
def IR (l:List Nat) (i:Nat) (h:i<=l.length):bv b l=bv b (l.take i)+b^i*bv b (l.drop i):=by
 have:=rT (b:=b) (l.take i) (l.drop i)
 simp_all
def ef:List Nat->List Nat
 | []=>[]
 | a::r=>match ef r with | []=>if a=0 then [] else [a] | t::q=>a::t::q
def MN:∀l:List Nat,ef (l++[0])=ef l
 | []=>rfl
 | a::l=>by simp only [xu,ef,MN l]
def EV {a:Nat} (h:a≠0):∀l:List Nat,ef (l++[a])=l++[a]
 | []=>by simp [ef,h]
 | b::l=>by
  simp only [xu,ef,EV h l]
  cases hq:l++[a] with
  | nil=>simp at hq
  | cons t q=>rfl
abbrev gY (l:List Nat):Prop:=ef l=l
def ajr:∀(n:Nat) (l:List Nat),l.length=n->∃i,i<=n/\ef l=l.take i/\gY (l.take i)/\bv b (l.take i)=bv b l:=by
 intro n
 induction n with
 | zero=>intro l h;rw [yD h];exact ⟨0,yr _,rfl,rfl,rfl⟩
 | succ n ih=>
  intro l h;rcases snoc l with rfl | ⟨m,a,rfl⟩
  ·grind
  ·have hm:m.length=n:=by simp_all
   by_cases h0:a=0
   ·subst h0;obtain ⟨i,h1,h2,h3,h4⟩:=ih m hm;have e:(m++[0]).take i=m.take i:=by grind
    refine ⟨i,by omega,by rw [MN,h2,e],by rw [e];exact h3,?_⟩
    rw [e,h4,rT];simp [bv]
   ·have e:(m++[a]).take (n+1)=m++[a]:=yp (by simp [hm]);exact ⟨n+1,yr _,by rw [e,EV h0],by rw [e];exact EV h0 m,by rw [e]⟩
def MZ (l:List Nat):∃i,i<=l.length/\ef l=l.take i/\gY (ef l)/\bv b (ef l)=bv b l:=by
 obtain ⟨i,h1,h2,h3,h4⟩:=ajr (b:=b) l.length l rfl
 grind
def A3 (l:List Nat):bv b (ef l)=bv b l:=by
 obtain ⟨_,_,_,_,h⟩:=MZ (b:=b) l;exact h
def A4 (l:List Nat):gY (ef l):=by
 obtain ⟨_,_,_,h,_⟩:=MZ (b:=2) l;exact h
def A5 {l:List Nat} (h:lo b l):lo b (ef l):=by
 obtain ⟨i,_,h2,_⟩:=MZ (b:=b) l;rw [h2];exact Bb h i
def akE (l:List Nat):(ef l).length<=l.length:=by
 obtain ⟨i,_,h2,_⟩:=MZ (b:=2) l
 grind
def Nh {l:List Nat} (h:gY l) (h0:l≠[]):l.getD (l.length-1) 0≠0:=by
 rcases snoc l with rfl | ⟨m,a,rfl⟩
 ·grind
 ·intro ha
  have:a=0:=by
   grind
  subst this;have e:=congrArg ybq h;rw [MN] at e
  have:=akE m
  grind
def Tq (hb:0<b) {l:List Nat} (h:gY l) (h0:l≠[]):b^(l.length-1)<=bv b l:=by
 rcases snoc l with rfl | ⟨m,a,rfl⟩
 ·grind
 ·have ha:=Nh h h0;simp [xK] at ha;rw [rT,Bj];simp only [yW,tH,tc]
  have:=yU (b^m.length) (show 1<=a by omega)
  omega
def NE (hb:1<b) {l m:List Nat} (hl:lo b l) (hm:gY m) (h:l.length<m.length):bv b l<bv b m:=by
 have h1:=mA hl;have h2:=Tq (b:=b) (by omega) hm (fun e=>by subst e;simp at h);have h3:b^l.length<=b^(m.length-1):=xD (by omega) (by omega);omega
def abG {l m:List Nat} (hl:lo b l) {i:Nat} (h1:i<l.length) (h2:i<m.length) (he:l.drop (i+1)=m.drop (i+1)) (h:l.getD i 0<m.getD i 0):bv b l<bv b m:=by
 rw [IR l (i+1) (by omega),IR m (i+1) (by omega),he,jv,jv]
 have:=mA (Bb hl i)
 have:=yU (b^i) (show l.getD i 0+1<=m.getD i 0 from h)
 grind
def akF (hb:1<b) {l:List Nat} {k:Nat} (h:gY l) (hk:bv b l<b^k):l.length<=k:=by
 by_cases h0:l=[]
 ·grind
 ·have h1:=Tq (b:=b) (by omega) h h0;have h2:b^(l.length-1)<b^k:=wu h1 hk
  have:=(Nat.pow_lt_pow_iff_right hb).1 h2
  omega
def Y2 {V v1 v2 vr U u0 u1 u2 ur p t r:Nat} (hV:V=(v1*b+v2)*p+vr) (hU:U=((u0*b+u1)*b+u2)*p+ur) (hur:ur<p)
  (ht:t*v1+r=u0*b+u1) (h:r*b+u2<t*v2):U/V<=t-1:=by
 have h1:U<t*V:=by
  have e:t*((v1*b+v2)*p)=((t*v1)*b+t*v2)*p:=by
   grind
  have h2:((u0*b+u1)*b+u2)+1<=(t*v1)*b+t*v2:=by rw [<-ht,xH];omega
  have h3:=yX p h2;rw [hV,hU,xA,e]
  grind
 have rF:0<V:=by
  grind
 have:=(Nat.div_lt_iff_lt_mul rF).2 h1
 omega
def ZM {V v1 v2 vr U u0 u1 u2 ur p t r:Nat} (hb:0<b) (hV:V=(v1*b+v2)*p+vr) (LD:vr<p) (hU:U=((u0*b+u1)*b+u2)*p+ur) (eZ:0<v1) (cY:v2<b) (kL:t<b)
  (ht:t*v1+r=u0*b+u1) (h:b<=r\/t*v2<=r*b+u2):t<=U/V+1:=by
 have h2:t*v2<=r*b+u2:=by
  rcases h with h | h
  ·have:=Nat.mul_le_mul (uB kL) (uB cY)
   have:=yX b h
   omega
  ·exact h
 have h3:t*(v1*b+v2)<=(u0*b+u1)*b+u2:=by
  rw [xA,<-xr,<-ht,xH];omega
 have hp:0<p:=by omega
 have aBj:b<=v1*b:=Nat.le_mul_of_pos_left b eZ;have rF:0<V:=by
  have:=ybi (show 0<v1*b+v2 by omega) hp
  omega
 rcases xt t with h0 | h0
 ·grind
 ·obtain ⟨s,rfl⟩:∃s,t=s+1:=⟨t-1,by omega⟩;have h4:s*V<=U:=by
   have h5:V<=(v1*b+v2+1)*p:=by grind
   have h6:=yU s h5;have h7:s*(v1*b+v2+1)<=(s+1)*(v1*b+v2):=by
    grind
   have h8:=yX p (Nat.le_trans h7 h3)
   grind
  exact Nat.succ_le_succ ((tN rF).2 h4)
def Rr {V v1 v2 vr U u0 u1 u2 ur p:Nat} (hV:V=(v1*b+v2)*p+vr) (hU:U=((u0*b+u1)*b+u2)*p+ur) (hur:ur<p) (AG:u2<b) (eZ:0<v1):U/V<=(u0*b+u1)/v1:=by
 by_cases rF:V=0
 ·grind
 ·refine (tN eZ).2 ?_;have h1:=Nat.div_mul_le_self U V;generalize U/V=q at h1 ⊢;have h2:q*v1*(b*p)<=q*V:=by
   rw [hV,xr]
   grind
  have h3:U<(u0*b+u1+1)*(b*p):=by
   have:(u0*b+u1)*b+u2+1<=(u0*b+u1+1)*b:=by grind
   have:=yX p this
   grind
  have h4:q*v1*(b*p)<(u0*b+u1+1)*(b*p):=by omega
  have:=tf h4
  omega
def ZN {V v1 v2 vr U u0 u1 u2 ur p:Nat} (hV:V=(v1*b+v2)*p+vr) (hU:U=((u0*b+u1)*b+u2)*p+ur) (LD:vr<p) (cY:v2<b) (h:U<b*V):u0<=v1:=by
 refine Nat.le_of_lt_succ ?_;have h1:V<(v1+1)*(b*p):=by
  have:v1*b+v2+1<=(v1+1)*b:=by grind
  have:=yX p this
  grind
 have h2:u0*(b*(b*p))<=U:=by
  grind
 have h3:=yU b (uB h1);have e:b*((v1+1)*(b*p))=(v1+1)*(b*(b*p)):=by grind
 rw [e] at h3;have h4:u0*(b*(b*p))<(v1+1)*(b*(b*p)):=wu h2 (Nat.lt_of_lt_of_le h h3);exact tf h4
end
end
section
section
variable {P:aG} {L:Lib} {f:cD} {F:Nat->cD}
def Ce (f:cD) (F:Nat->cD):Prop:=∀c s r,f c s=some r->∃n,F n c s=some r
def Mon (F:Nat->cD):Prop:=∀n m,n<=m->Le (F n) (F m)
def Mv (h:Ce f F) (n:Nat) (aq:List AV) (r:AV) (hr:bQ P L f n aq=some r):∃k,bQ P L (F k) n aq=some r:=by
 unfold bQ at hr ⊢
 cases hL:L.pure n with
 | some sp=>exact ⟨0,by simpa only [hL] using hr⟩
 | none=>
  simp only [hL] at hr ⊢
  cases hP:P n with
  | none=>simp [hP] at hr
  | some G=>
   simp only [hP] at hr ⊢
   cases hf:f G.body ⟨fL 0 aq,[],0,0⟩ with
   | none=>simp [hf] at hr
   | some q=>
    obtain ⟨k,hk⟩:=h _ _ _ hf
    grind
def RG (h:Ce f F) (hp:Hp) (ct:Nat) (n:Nat) (aq:List AV) (r:AV×Hp×Nat) (hr:je P L f hp ct n aq=some r):∃k,je P L (F k) hp ct n aq=some r:=by
 unfold je at hr ⊢
 cases hL:L.heap n with
 | some sp=>exact ⟨0,by simpa only [hL] using hr⟩
 | none=>
  simp only [hL] at hr ⊢
  cases hP:P n with
  | none=>simp [hP] at hr
  | some G=>
   simp only [hP] at hr ⊢
   cases hf:f G.body ⟨fL 0 aq,hp,ct,ct⟩ with
   | none=>simp [hf] at hr
   | some q=>
    obtain ⟨k,hk⟩:=h _ _ _ hf
    grind
def Yx (h:Ce f F) (hm:Mon F) (hp:Hp) (ct:Nat) (l:Nat) (xs:List AV) (r:AV×Hp×Nat) (hr:nX f hp ct l xs=some r):∃k,nX (F k) hp ct l xs=some r:=by
 have key:∃k,∀g,Le (F k) g->nX g hp ct l xs=some r:=by
  unfold nX at hr
  cases hl:az hp l with
  | none=>simp [hl] at hr
  | some o=>
   split at hr
   ·rename_i tm ps cK body pe oK
    cases hb:rY tm ps xs with
    | none=>simp [hb] at hr
    | some cu=>
     simp only [hb] at hr
     cases h1:f cK ⟨cu,hp,ct,ct⟩ with
     | none=>simp [h1] at hr
     | some q=>
      obtain ⟨k1,nO⟩:=h _ _ _ h1
      split at hr
      ·rename_i s1 UA
       split at hr
       ·rename_i jQ D6 D7 Ds Au afo
        cases h2:f body ⟨s1.tm,bg s1.hp l (.lp jQ D6 D7 Ds 1 Au),s1.ct,s1.ct⟩ with
        | none=>simp [h2] at hr
        | some q2=>
         obtain ⟨k2,Az⟩:=h _ _ _ h2;refine ⟨max k1 k2,fun g hg=>?_⟩;have e1:=hg _ _ _ (hm k1 _ (vN k1 k2) _ _ _ nO);have e2:=hg _ _ _ (hm k2 _ (vB k1 k2) _ _ _ Az);unfold nX
         grind
       ·simp at hr
      ·simp at hr
   ·simp at hr
 obtain ⟨k,hk⟩:=key;exact ⟨k,hk _ (fun _ _ _ h=>h)⟩
def Y3 (h:Ce f F) (hm:Mon F) (hp:Hp) (ct:Nat) (m:Md) (fv:AV) (xs:List AV) (r:AV×Hp×Nat) (hr:eY P L f hp ct m fv xs=some r):∃k,eY P L (F k) hp ct m fv xs=some r:=by
 unfold eY at hr ⊢
 split at hr
 ·rename_i n first cap
  cases m with
  | pure=>
   cases hz:cC deep hp (first++(xs++cap)) with
   | none=>simp [hz] at hr
   | some q=>
    simp only [hz] at hr ⊢
    cases hc:bQ P L f n q.1 with
    | none=>simp [hc] at hr
    | some u=>
     obtain ⟨k,hk⟩:=Mv h n q.1 u hc
     grind
  | own=>
   cases hz:cC deep hp (first++(xs++cap)) with
   | none=>simp [hz] at hr
   | some q=>
    simp only [hz] at hr ⊢
    cases hc:bQ P L f n q.1 with
    | none=>simp [hc] at hr
    | some u=>
     obtain ⟨k,hk⟩:=Mv h n q.1 u hc
     grind
  | heap=>exact RG h _ _ _ _ _ hr
  | dyn=>
   cases hz:aH (first++(xs++cap)) with
   | true=>
    simp only [hz,yz] at hr ⊢
    cases hc:bQ P L f n (first++(xs++cap)) with
    | none=>simp [hc] at hr
    | some u=>
     obtain ⟨k,hk⟩:=Mv h n _ u hc
     grind
   | false=>
    simp only [hz,yO] at hr ⊢;exact RG h _ _ _ _ _ hr
 ·split at hr
  ·exact Yx h hm _ _ _ _ _ hr
  ·exact Yx h hm _ _ _ _ _ hr
  ·simp at hr
 ·simp at hr
def amz (h:Ce f F) (hm:Mon F) (tm:Env) (hp:Hp) (ct:Nat) (o:Op) (r:AV×Hp×Nat) (hr:br P L f tm hp ct o=some r):∃k,br P L (F k) tm hp ct o=some r:=by
 unfold br at hr ⊢
 split at hr
 ·exact Y3 h hm _ _ _ _ _ _ hr
 ·rename_i rs fv xs
  cases hc:eY P L f hp ct .dyn (aA tm fv) (dC tm xs) with
  | none=>simp [hc] at hr
  | some q=>
   obtain ⟨k,hk⟩:=Y3 h hm _ _ _ _ _ _ hc
   grind
 all_goals exact ⟨0,by simpa only using hr⟩
def R6 (h:Ce f F) (hm:Mon F):∀(ops:List bh) (s s':St),dH P L f ops s=some s'->∃k,dH P L (F k) ops s=some s'
 | [],s,s',hr=>⟨0,by simpa only [dH] using hr⟩
 | ⟨d,gd,o⟩::r,s,s',hr=>by
  simp only [dH] at hr ⊢
  split at hr
  ·rename_i hw
   cases ho:br P L f s.tm s.hp s.ct o with
   | none=>simp [ho] at hr
   | some q=>
    obtain ⟨k1,nO⟩:=amz h hm _ _ _ _ _ ho;simp only [ho] at hr;obtain ⟨k2,Az⟩:=R6 h hm r _ _ hr;refine ⟨max k1 k2,?_⟩;rw [ZE (hm k1 _ (vN k1 k2)) _ _ _ _ _ nO];exact MI (hm k2 _ (vB k1 k2)) r _ _ Az
  ·rename_i hw;exact R6 h hm r _ _ hr
  ·simp at hr
def CJ (h:Ce f F) (hm:Mon F):∀(c:VC) (s:St) (r:Ex×St),bH P L f c s=some r->∃k,bH P L (F k) c s=some r
 | .skip,s,r,hr=>⟨0,by simpa only [bH] using hr⟩
 | .aM ops,s,r,hr=>by
  simp only [bH] at hr ⊢
  cases ho:dH P L f ops s with
  | none=>simp [ho] at hr
  | some s'=>
   obtain ⟨k,hk⟩:=R6 h hm _ _ _ ho
   grind
 | .seq a b,s,r,hr=>by
  simp only [bH] at hr ⊢
  cases ha:bH P L f a s with
  | none=>simp [ha] at hr
  | some q=>
   obtain ⟨k1,nO⟩:=CJ h hm a s q ha;obtain ⟨ex,s1⟩:=q
   cases ex with
   | normal=>
    simp only [ha] at hr;obtain ⟨k2,Az⟩:=CJ h hm b s1 r hr;refine ⟨max k1 k2,?_⟩;rw [qD (hm k1 _ (vN k1 k2)) a s _ nO];exact qD (hm k2 _ (vB k1 k2)) b s1 r Az
   | ret=>exact ⟨k1,by rw [nO];simpa only [ha] using hr⟩
   | exit id=>exact ⟨k1,by rw [nO];simpa only [ha] using hr⟩
 | .cond x a b,s,r,hr=>by
  simp only [bH] at hr ⊢
  split at hr
  ·rename_i t ht
   cases t with
   | true=>simp only [yz] at hr ⊢;exact CJ h hm a s r hr
   | false=>simp only [yO] at hr ⊢;exact CJ h hm b s r hr
  ·simp at hr
 | .aE id a,s,r,hr=>by
  simp only [bH] at hr ⊢
  cases ha:bH P L f a s with
  | none=>simp [ha] at hr
  | some q=>
   obtain ⟨k,hk⟩:=CJ h hm a s q ha
   grind
 | .kp live,s,r,hr=>⟨0,by simpa only [bH] using hr⟩
 | .fz ts,s,r,hr=>⟨0,by simpa only [bH] using hr⟩
 | .loop live a,s,r,hr=>by
  simp only [bH] at hr ⊢
  cases ha:bH P L f a (aT live s) with
  | none=>simp [ha] at hr
  | some q=>
   obtain ⟨k1,nO⟩:=CJ h hm a _ q ha;obtain ⟨ex,s1⟩:=q
   cases ex with
   | normal=>
    simp only [ha] at hr;obtain ⟨k2,Az⟩:=h _ _ _ hr;refine ⟨max k1 k2,?_⟩;rw [qD (hm k1 _ (vN k1 k2)) a _ _ nO];exact hm k2 _ (vB k1 k2) _ _ _ Az
   | ret=>exact ⟨k1,by rw [nO];simpa only [ha] using hr⟩
   | exit id=>exact ⟨k1,by rw [nO];simpa only [ha] using hr⟩
 | .rf fv ps cK body,s,r,hr=>by
  simp only [bH] at hr ⊢
  split at hr
  ·rename_i n first cap hx
   split at hr
   ·grind
   ·rename_i hL
    cases hc:je P L f ((s.ct,.lp s.tm ps cK body 0 .none)::s.hp) (s.ct+1) n (first++(.fn (.y s.ct) [] []::cap)) with
    | none=>simp [hc] at hr
    | some q=>
     obtain ⟨k,hk⟩:=RG h _ _ _ _ _ hc
     grind
  ·simp at hr
 | .exit id,s,r,hr=>⟨0,by simpa only [bH] using hr⟩
 | .ret,s,r,hr=>⟨0,by simpa only [bH] using hr⟩
end
section
variable (P:aG) (L:Lib)
noncomputable def D:cD:=fun c s=>@dite _ (∃r n,ev P L n c s=some r) (Classical.propDecidable _) (fun h=>some h.choose) (fun _=>none)
variable {P L}
def afv {c:VC} {s:St} {r:Ex×St} {n:Nat} (h:ev P L n c s=some r):D P L c s=some r:=by
 have hx:∃r n,ev P L n c s=some r:=⟨r,n,h⟩;unfold D;obtain ⟨m,hm⟩:=hx.choose_spec;have e1:=SO P L (vN n m) _ _ _ h;have e2:=SO P L (vB n m) _ _ _ hm
 grind
def UZ {c:VC} {s:St} {r:Ex×St} (h:D P L c s=some r):∃n,ev P L n c s=some r:=by
 unfold D at h;by_cases hx:∃r n,ev P L n c s=some r
 ·grind
 ·grind
def avr (n:Nat):Le (ev P L n) (D P L):=fun _ _ _ h=>afv h
def aeO:Ce (D P L) (ev P L):=fun _ _ _ h=>UZ h
def aqY:Mon (ev P L):=fun _ _ h=>SO P L h
def lT (c:VC) (s:St):D P L c s=bH P L (D P L) c s:=by
 cases h:D P L c s with
 | some r=>
  obtain ⟨n,hn⟩:=UZ h
  cases n with
  | zero=>rw [I2] at hn;cases hn
  | succ n=>rw [I3] at hn;exact (qD (avr n) c s r hn).symm
 | none=>
  cases hs:bH P L (D P L) c s with
  | none=>rfl
  | some r=>
   obtain ⟨n,hn⟩:=CJ aeO aqY c s r hs;rw [<-I3] at hn;rw [afv hn] at h;cases h
def adj {f:Nat} {aq:List AV} {r:AV} (h:bQ P L (D P L) f aq=some r):∃n,V7 P L n f aq=some r:=Mv aeO f aq r h
end
end
section
open Go (IntKind BinOp UnOp)
section
variable {P:aG} {L:Lib}
structure Has (P:aG) (L:Lib) (n:Nat) (F:aD):Prop where
 pure:L.pure n=none
 heap:L.heap n=none
 code:P n=some F
noncomputable def iQ (P:aG) (L:Lib) (r:Option (Ex×St)) (b:VC):Option (Ex×St):=match r with | some (.normal,s)=>D P L b s | r=>r
def mB (id:Nat) (r:Option (Ex×St)):Option (Ex×St):=match r with | some (.exit j,s)=>bif yv j id then some (.normal,s) else some (.exit j,s) | r=>r
noncomputable def JT (P:aG) (L:Lib) (live:List Nat) (a:VC) (r:Option (Ex×St)):Option (Ex×St):=match r with | some (.normal,s)=>D P L (.loop live a) s | r=>r
def norm (r:Option St):Option (Ex×St):=match r with | some s=>some (.normal,s) | none=>none
noncomputable def Oj (P:aG) (L:Lib) (v:AV) (a b:VC) (s:St):Option (Ex×St):=match v with | .bool t=>bif t then D P L a s else D P L b s | _=>none
def aqZ (s:St):D P L .skip s=some (.normal,s):=by rw [lT];rfl
def aq0 (id:Nat) (s:St):D P L (.exit id) s=some (.exit id,s):=by rw [lT];rfl
def atO (s:St):D P L .ret s=some (.ret,s):=by rw [lT];rfl
def afw (live:List Nat) (s:St):D P L (.kp live) s=some (.normal,aT live s):=by rw [lT];rfl
def avt (ts:List Nat) (s:St):D P L (.fz ts) s=norm (pG ts s):=by rw [lT];rfl
def atP (ops:List bh) (s:St):D P L (.aM ops) s=norm (dH P L (D P L) ops s):=by rw [lT];rfl
def kE (a b:VC) (s:St):D P L (.seq a b) s=iQ P L (D P L a s) b:=by
 rw [lT,lT a];simp only [bH,iQ]
 cases bH P L (D P L) a s with
 | none=>rfl
 | some q=>
  obtain ⟨e,s1⟩:=q
  cases e with
  | normal=>exact (lT b s1).symm
  | ret=>rfl
  | exit id=>rfl
def aq1 (x:X) (a b:VC) (s:St):D P L (.cond x a b) s=Oj P L (aA s.tm x) a b s:=by
 rw [lT];simp only [bH,Oj]
 cases aA s.tm x with
 | bool t=>
  cases t with
  | true=>exact (lT a s).symm
  | false=>exact (lT b s).symm
 | _=>rfl
def atQ (id:Nat) (a:VC) (s:St):D P L (.aE id a) s=mB id (D P L a s):=by
 rw [lT,lT a];simp only [bH,mB]
 cases bH P L (D P L) a s with
 | none=>rfl
 | some q=>obtain ⟨e,s1⟩:=q;cases e<;>rfl
def FJ (live:List Nat) (a:VC) (s:St):D P L (.loop live a) s=JT P L live a (D P L a (aT live s)):=by
 rw [lT,lT a];simp only [bH,JT]
 cases bH P L (D P L) a (aT live s) with
 | none=>rfl
 | some q=>obtain ⟨e,s1⟩:=q;cases e<;>rfl
def gD (s:St) (b:VC):iQ P L (some (.normal,s)) b=D P L b s:=rfl
def aoK (s:St) (b:VC):iQ P L (some (.ret,s)) b=some (.ret,s):=rfl
def aoL (id:Nat) (s:St) (b:VC):iQ P L (some (.exit id,s)) b=some (.exit id,s):=rfl
def abH (live:List Nat) (a:VC) (s:St):JT P L live a (some (.normal,s))=D P L (.loop live a) s:=rfl
def aoM (live:List Nat) (a:VC) (s:St):JT P L live a (some (.ret,s))=some (.ret,s):=rfl
def aoN (live:List Nat) (a:VC) (id:Nat) (s:St):JT P L live a (some (.exit id,s))=some (.exit id,s):=rfl
def aoO (id:Nat) (s:St):mB id (some (.normal,s))=some (.normal,s):=rfl
def aoP (id:Nat) (s:St):mB id (some (.ret,s))=some (.ret,s):=rfl
def abI (id:Nat) (s:St):mB id (some (.exit id,s))=some (.normal,s):=by simp only [mB,vm,yz]
def aoQ {id j:Nat} (s:St) (h:j≠id):mB id (some (.exit j,s))=some (.exit j,s):=by
 have:yv j id=false:=by
  cases hq:yv j id with
  | false=>rfl
  | true=>exact absurd (yo hq) h
 simp only [mB,this,yO]
def aq2 (s:St):norm (some s)=some (.normal,s):=rfl
def aq3:norm none=none:=rfl
def aoR (a b:VC) (s:St):Oj P L (.bool true) a b s=D P L a s:=rfl
def aoS (a b:VC) (s:St):Oj P L (.bool false) a b s=D P L b s:=rfl
noncomputable def TX (P:aG) (L:Lib) (d:Option Nat) (r:List bh) (tm:Env) (base:Nat) (q:gV):Option St:=
 match q with | some (v,hp,ct)=>dH P L (D P L) r ⟨put d v tm,hp,ct,base⟩ | none=>none
noncomputable def Dh (P:aG) (L:Lib) (v:AV) (b:Bool) (d:Option Nat) (o:Op) (r:List bh) (s:St):Option St:=
 match v with
 | .bool c=>bif c==b then dH P L (D P L) (⟨d,none,o⟩::r) s else dH P L (D P L) r ⟨put d (.au []) s.tm,s.hp,s.ct,s.base⟩
 | .au []=>dH P L (D P L) r ⟨put d (.au []) s.tm,s.hp,s.ct,s.base⟩
 | _=>none
def aoT (s:St):dH P L (D P L) [] s=some s:=rfl
def amA (d:Option Nat) (o:Op) (r:List bh) (tm:Env) (hp:Hp) (ct base:Nat):
  dH P L (D P L) (⟨d,none,o⟩::r) ⟨tm,hp,ct,base⟩=TX P L d r tm base (br P L (D P L) tm hp ct o):=by
 simp only [dH,TX]
 grind
def akG (d:Option Nat) (t:Nat) (b:Bool) (o:Op) (r:List bh) (tm:Env) (hp:Hp) (ct base:Nat):
  dH P L (D P L) (⟨d,some (t,b),o⟩::r) ⟨tm,hp,ct,base⟩=Dh P L (ah tm t) b d o r ⟨tm,hp,ct,base⟩:=by
 simp only [dH,Dh]
 cases ah tm t with
 | bool c=>
  simp only
  cases hc:(c==b) with
  | true=>simp only [yz]
  | false=>simp only [yO]
 | au vs=>cases vs<;>rfl
 | _=>rfl
def aoU (d:Option Nat) (r:List bh) (tm:Env) (base:Nat) (v:AV) (hp:Hp) (ct:Nat):TX P L d r tm base (some (v,hp,ct))=dH P L (D P L) r ⟨put d v tm,hp,ct,base⟩:=rfl
def atS (i:Nat) (v:AV) (tm:Env):put (some i) v tm=(i,v)::tm:=rfl
def atT (v:AV) (tm:Env):put none v tm=tm:=rfl
def amB (d:Option Nat) (o:Op) (r:List bh) (s:St):Dh P L (.bool true) true d o r s=dH P L (D P L) (⟨d,none,o⟩::r) s:=rfl
def amC (d:Option Nat) (o:Op) (r:List bh) (s:St):Dh P L (.bool false) false d o r s=dH P L (D P L) (⟨d,none,o⟩::r) s:=rfl
def amD (d:Option Nat) (o:Op) (r:List bh) (tm:Env) (hp:Hp) (ct base:Nat):Dh P L (.bool true) false d o r ⟨tm,hp,ct,base⟩=dH P L (D P L) r ⟨put d (.au []) tm,hp,ct,base⟩:=rfl
def amE (d:Option Nat) (o:Op) (r:List bh) (tm:Env) (hp:Hp) (ct base:Nat):Dh P L (.bool false) true d o r ⟨tm,hp,ct,base⟩=dH P L (D P L) r ⟨put d (.au []) tm,hp,ct,base⟩:=rfl
def aoV (b:Bool) (d:Option Nat) (o:Op) (r:List bh) (tm:Env) (hp:Hp) (ct base:Nat):Dh P L (.au []) b d o r ⟨tm,hp,ct,base⟩=dH P L (D P L) r ⟨put d (.au []) tm,hp,ct,base⟩:=rfl
def iC {j i:Nat} (h:j≠i):yv j i=false:=by
 cases hq:yv j i with
 | false=>rfl
 | true=>exact absurd (yo hq) h
def aq4 (tm:Env) (i:Nat):aA tm (.t i)=ah tm i:=rfl
def aq5 (tm:Env) (v:AV):aA tm (.c v)=v:=rfl
def akH (tm:Env):dC tm []=[]:=rfl
def ajs (tm:Env) (x:X) (r:List X):dC tm (x::r)=aA tm x::dC tm r:=rfl
def amF (i:Nat) (v:AV) (r:Env):ah ((i,v)::r) i=v:=by simp only [ah,vm,yz]
def akI {j i:Nat} (v:AV) (r:Env) (h:j≠i):ah ((j,v)::r) i=ah r i:=by simp only [ah,iC h,yO]
def nd (i:Nat) (o:Obj) (r:Hp):az ((i,o)::r) i=some o:=by simp only [az,vm,yz]
def akJ {j i:Nat} (o:Obj) (r:Hp) (h:j≠i):az ((j,o)::r) i=az r i:=by simp only [az,iC h,yO]
def amG (i:Nat) (o u:Obj) (r:Hp):bg ((i,o)::r) i u=(i,u)::r:=by simp only [bg,vm,yz]
def akK {j i:Nat} (o u:Obj) (r:Hp) (h:j≠i):bg ((j,o)::r) i u=(j,o)::bg r i u:=by simp only [bg,iC h,yO]
def amH (i:Nat):eG [] i=[]:=rfl
def amI (i:Nat) (o:Obj) (r:Hp):eG ((i,o)::r) i=eG r i:=by simp only [eG,vm,yz]
def akL {j i:Nat} (o:Obj) (r:Hp) (h:j≠i):eG ((j,o)::r) i=(j,o)::eG r i:=by simp only [eG,iC h,yO]
def rd (hp:Hp) (ct:Nat) (q:Option AV):gV:=match q with | some v=>some (v,hp,ct) | none=>none
def mk (hp:Hp) (ct:Nat) (q:Option (AV×Obj)):gV:=match q with | some (v,b)=>some (v,(ct,b)::hp,ct+1) | none=>none
def avu (hp:Hp) (ct:Nat) (v:AV):rd hp ct (some v)=some (v,hp,ct):=rfl
def avv (hp:Hp) (ct:Nat) (v:AV) (b:Obj):mk hp ct (some (v,b))=some (v,(ct,b)::hp,ct+1):=rfl
def TY (c a b:AV):Option AV:=match c with | .bool t=>some (bif t then a else b) | _=>none
def LF (k:Nat->Option AV) (n:Option Nat):Option AV:=match n with | some i=>k i | none=>none
def aeP (r:Option (List AV)):Option AV:=match r with | some cs=>some (.agg cs) | none=>none
def KA (ne:Bool) (r:Option Bool):Option AV:=match r with | some b=>some (.bool (ne !=b)) | none=>none
def avw:AV->Option AV
 | .ptr id o=>some (.ptr id o)
 | .aQ cs=>some (.aQ cs)
 | .fn f a b=>some (.fn f a b)
 | _=>none
def KB (i:Nat):AV->Option AV | .au vs=>vs[i]? | _=>none
section
variable {f:cD} {tm:Env} {hp:Hp} {ct:Nat}
def aq6 (x:X):br P L f tm hp ct (.bV x)=some (aA tm x,hp,ct):=rfl
def aoW (c a b:X):br P L f tm hp ct (.pick c a b)=rd hp ct (TY (aA tm c) (aA tm a) (aA tm b)):=by
 rfl
def amJ (z:List AV) (ps:List (Nat×Nat×X)):br P L f tm hp ct (.df z ps)=rd hp ct (aeP (fill tm z ps)):=by
 rfl
def atU (sz:Nat) (ag:Bool) (x:X):br P L f tm hp ct (.ld sz ag x)=rd hp ct (ic hp sz ag (aA tm x)):=rfl
def aoX (x:X):br P L f tm hp ct (.J3 x)=rd hp ct (avw (aA tm x)):=by
 rfl
def aq7 (op:BinOp) (x y:X):br P L f tm hp ct (.bin op x y)=rd hp ct (binOp op (aA tm x) (aA tm y)):=rfl
def atV (ne:Bool) (k:PR) (x y:X):br P L f tm hp ct (.eq ne k x y)=rd hp ct (KA ne (jz k (aA tm x) (aA tm y))):=by
 rfl
def atW (op:UnOp) (x:X):br P L f tm hp ct (.un op x)=rd hp ct (unOp op (aA tm x)):=rfl
def atX (k:Conv) (x:X):br P L f tm hp ct (.cv k x)=rd hp ct (pK k (aA tm x)):=rfl
def aq8 (g:Fr) (a b:List X):br P L f tm hp ct (.rz g a b)=some (.fn g (dC tm a) (dC tm b),hp,ct):=rfl
def FK (k:Cut) (x:X) (lo hi:Option X):br P L f tm hp ct (.dT k x lo hi)=rd hp ct (fh hp k (aA tm x) tm lo hi):=rfl
def aq9 (k:Nat) (x:X):br P L f tm hp ct (.off k x)=rd hp ct (Dr k (aA tm x)):=rfl
def ara (o sz:Nat) (ag:Bool) (x:X):br P L f tm hp ct (.K0 o sz ag x)=rd hp ct (N6 o sz ag (aA tm x)):=rfl
def arb (sz:Nat) (x i:X):br P L f tm hp ct (.aZ sz x i)=rd hp ct (LF (fun j=>hZ sz j (aA tm x)) (dE (aA tm i))):=by
 rfl
def arc (n sz:Nat) (x i:X):br P L f tm hp ct (.At n sz x i)=rd hp ct (LF (fun j=>JE n sz j (aA tm x)) (dE (aA tm i))):=by
 rfl
def ard (x i:X):br P L f tm hp ct (.lE x i)=rd hp ct (LF (fun j=>nt j (aA tm x)) (dE (aA tm i))):=by
 rfl
def are (n sz:Nat) (ag:Bool) (x i:X):br P L f tm hp ct (.sS n sz ag x i)=rd hp ct (LF (fun j=>JF n sz ag j (aA tm x)) (dE (aA tm i))):=by
 rfl
def arf (i:Nat) (x:X):br P L f tm hp ct (.ext i x)=rd hp ct (KB i (aA tm x)):=by
 rfl
def arh (k:Nat) (x:X):br P L f tm hp ct (.len k x)=rd hp ct (ia hp k (aA tm x)):=rfl
def ari (sz:Nat) (x:X):br P L f tm hp ct (.box sz x)=mk hp ct (cT tm hp ct (.box sz x)):=rfl
def aoY (n sz:Nat) (z:List AV) (ps:List (Nat×Nat×X)):br P L f tm hp ct (.bI n sz z ps)=mk hp ct (cT tm hp ct (.bI n sz z ps)):=rfl
def arj (sz cG:Nat) (z:List AV) (l c:X):br P L f tm hp ct (.gU sz cG z l c)=mk hp ct (cT tm hp ct (.gU sz cG z l c)):=rfl
def adk:br P L f tm hp ct .sR=some (.map ct,(ct,.mp true [] [])::hp,ct+1):=rfl
def ark (x:X):br P L f tm hp ct (.pU x)=mk hp ct (cT tm hp ct (.pU x)):=rfl
def atY (sz:Nat) (x v:X):br P L f tm hp ct (.st sz x v)=db tm hp ct (.st sz x v):=rfl
def arl (sz cG:Nat) (s x:X):br P L f tm hp ct (.cX sz cG s x)=db tm hp ct (.cX sz cG s x):=rfl
def Ol (hp:Hp) (ct:Nat) (r:Option AV):gV:=match r with | some v=>some (shut v,hp,ct) | none=>none
def Pq (hp:Hp) (ct:Nat) (r:Option AV):gV:=match r with | some v=>some (own hp ct v) | none=>none
def TZ (P:aG) (L:Lib) (f:cD) (ct n:Nat) (q:Option (List AV×Hp)):gV:=match q with | some (aq,hp)=>Ol hp ct (bQ P L f n aq) | none=>none
def Ua (P:aG) (L:Lib) (f:cD) (ct n:Nat) (q:Option (List AV×Hp)):gV:=match q with | some (aq,hp)=>Pq hp ct (bQ P L f n aq) | none=>none
def Ub (P:aG) (L:Lib) (f:cD) (hp:Hp) (ct:Nat) (fv:AV) (xs:List AV):gV:=eY P L f hp ct .pure fv xs
def Uc (P:aG) (L:Lib) (f:cD) (hp:Hp) (ct:Nat) (fv:AV) (xs:List AV):gV:=eY P L f hp ct .own fv xs
def amK (g:X) (xs:List X):br P L f tm hp ct (.call .pure g xs)=Ub P L f hp ct (aA tm g) (dC tm xs):=rfl
def amL (g:X) (xs:List X):br P L f tm hp ct (.call .own g xs)=Uc P L f hp ct (aA tm g) (dC tm xs):=rfl
def amM (g:X) (xs:List X):br P L f tm hp ct (.call .heap g xs)=eY P L f hp ct .heap (aA tm g) (dC tm xs):=rfl
def aoZ (n:Nat) (first cap xs:List AV):Ub P L f hp ct (.fn (.f n) first cap) xs=TZ P L f ct n (cC deep hp (first++(xs++cap))):=by
 simp only [Ub,eY,TZ,Ol]
 cases cC deep hp (first++(xs++cap)) with
 | none=>rfl
 | some q=>cases bQ P L f n q.1<;>rfl
def ao0 (n:Nat) (first cap xs:List AV):Uc P L f hp ct (.fn (.f n) first cap) xs=Ua P L f ct n (cC deep hp (first++(xs++cap))):=by
 simp only [Uc,eY,Ua,Pq]
 cases cC deep hp (first++(xs++cap)) with
 | none=>rfl
 | some q=>cases bQ P L f n q.1<;>rfl
def ao1 (n:Nat) (aq:List AV):TZ P L f ct n (some (aq,hp))=Ol hp ct (bQ P L f n aq):=rfl
def ao2 (n:Nat) (aq:List AV):Ua P L f ct n (some (aq,hp))=Pq hp ct (bQ P L f n aq):=rfl
def ao3 (v:AV):Ol hp ct (some v)=some (shut v,hp,ct):=rfl
def arm (v:AV):Pq hp ct (some v)=some (own hp ct v):=rfl
def Pr (hp:Hp) (r:Option AV):Option AV:=match r with | some v=>result hp v | none=>none
def fj (rs:List RV) (q:Option (Ex×St)):Option AV:=
 match q with
 | some (.normal,s) | some (.ret,s)=>Pr s.hp (jb s rs)
 | _=>none
def ay {n:Nat} {F:aD} (h:Has P L n F) (aq:List AV):bQ P L f n aq=fj F.dw (f F.body ⟨fL 0 aq,[],0,0⟩):=by
 simp only [bQ,h.pure,h.code]
 cases hq:f F.body ⟨fL 0 aq,[],0,0⟩ with
 | none=>rfl
 | some q=>
  obtain ⟨e,s⟩:=q
  cases e with
  | normal=>rfl
  | ret=>rfl
  | exit id=>rfl
def arn (rs:List RV) (s:St):fj rs (some (.normal,s))=Pr s.hp (jb s rs):=rfl
def aro (rs:List RV) (s:St):fj rs (some (.ret,s))=Pr s.hp (jb s rs):=rfl
def arp (v:AV):Pr hp (some v)=result hp v:=rfl
def U1 (r:RV) (s:St):jb s [r]=results1 s r:=by
 simp only [jb,lK];cases results1 s r<;>rfl
def afx (r:Option (List AV)):Option AV:=match r with | some vs=>some (.au vs) | none=>none
def avx (r q:RV) (l:List RV) (s:St):jb s (r::q::l)=afx (lK s (r::q::l)):=by
 simp only [jb,lK];cases results1 s r<;>cases results1 s q<;>cases lK s l<;>rfl
def aeQ (r:Option AV) (l:Option (List AV)):Option (List AV):=match r,l with | some v,some vs=>some (v::vs) | _,_=>none
def amN (s:St):lK s []=some []:=rfl
def akM (r:RV) (l:List RV) (s:St):lK s (r::l)=aeQ (results1 s r) (lK s l):=rfl
def ao4 (v:AV) (vs:List AV):aeQ (some v) (some vs)=some (v::vs):=rfl
def arq (vs:List AV):afx (some vs)=some (.au vs):=rfl
def Ud (i:Nat) (s:St):results1 s (.t i)=some (ah s.tm i):=rfl
def atZ (a:AV):fL 0 [a]=[(0,a)]:=rfl
def at0 (a b:AV):fL 0 [a,b]=[(0,a),(1,b)]:=rfl
def at1 (a b c:AV):fL 0 [a,b,c]=[(0,a),(1,b),(2,c)]:=rfl
def at2 (a b c d:AV):fL 0 [a,b,c,d]=[(0,a),(1,b),(2,c),(3,d)]:=rfl
def at3 (a b c d e:AV):fL 0 [a,b,c,d,e]=[(0,a),(1,b),(2,c),(3,d),(4,e)]:=rfl
def ajt (k:yY) (n:Int):result hp (.int k n)=some (.int k n):=rfl
def ai1 (b:Bool):result hp (.bool b)=some (.bool b):=rfl
def aju (s:List Nat):result hp (.str s)=some (.str s):=rfl
def ai2:result hp .ab=some .ab:=rfl
def ajv (e:Bool) (n:Nat) (cs:List AV):result hp (.aJ e n cs)=some (.aJ e n cs):=rfl
def shut_int (k:yY) (n:Int):shut (.int k n)= .int k n:=rfl
def shut_bool (b:Bool):shut (.bool b)= .bool b:=rfl
def amO (s:List Nat):shut (.str s)= .str s:=rfl
def akN:shut .ab= .ab:=rfl
def amP (e:Bool) (n:Nat) (cs:List AV):shut (.aJ e n cs)= .aJ e n cs:=rfl
def E3 (e:Bool) (sz n:Nat) (cs:List AV):shut (.bW e sz n cs)= .aJ e n cs:=rfl
def bC (cs:List AV):shut (.agg cs)= .agg cs:=rfl
def ao5 (g:Fr) (a b:List AV):shut (.fn g a b)= .fn g a b:=rfl
def rV (vs:List AV):shut (.au vs)= .au (Dq vs):=rfl
def akO:Dq []=[]:=rfl
def ajw (v:AV) (r:List AV):Dq (v::r)=bG v::Dq r:=rfl
def akP (k:yY) (n:Int):bG (.int k n)= .int k n:=rfl
def ajx (b:Bool):bG (.bool b)= .bool b:=rfl
def akQ (s:List Nat):bG (.str s)= .str s:=rfl
def ajy:bG .ab= .ab:=rfl
def akR (e:Bool) (n:Nat) (cs:List AV):bG (.aJ e n cs)= .aJ e n cs:=rfl
def akS (e:Bool) (sz n:Nat) (cs:List AV):bG (.bW e sz n cs)= .aJ e n cs:=rfl
def rU (cs:List AV):bG (.agg cs)= .agg cs:=rfl
def U2 (n:Nat) (r:List AV) (q:Option (AV×Hp)):Option (List AV×Hp):=match q with | some (v,hp)=>(match cC n hp r with | some (vs,eJ)=>some (v::vs,eJ) | none=>none) | none=>none
def afy (v:AV) (q:Option (List AV×Hp)):Option (List AV×Hp):=match q with | some (vs,hp)=>some (v::vs,hp) | none=>none
def amQ (n:Nat):cC (n+1) hp []=some ([],hp):=rfl
def akT (n:Nat) (v:AV) (r:List AV):cC (n+1) hp (v::r)=U2 n r (freeze n hp v):=by
 simp only [cC,U2];cases freeze n hp v<;>rfl
def ars (n:Nat) (r:List AV) (v:AV):U2 n r (some (v,hp))=afy v (cC n hp r):=by
 rfl
def art (v:AV) (vs:List AV):afy v (some (vs,hp))=some (v::vs,hp):=rfl
def ao6 (n:Nat) (k:yY) (a:Int):freeze (n+1) hp (.int k a)=some (.int k a,hp):=rfl
def amR (n:Nat) (b:Bool):freeze (n+1) hp (.bool b)=some (.bool b,hp):=rfl
def ao7 (n:Nat) (s:List Nat):freeze (n+1) hp (.str s)=some (.str s,hp):=rfl
def amS (n:Nat):freeze (n+1) hp .ab=some (.ab,hp):=rfl
def ao8 (n:Nat) (e:Bool) (k:Nat) (cs:List AV):freeze (n+1) hp (.aJ e k cs)=some (.aJ e k cs,hp):=rfl
def amT (n:Nat) (cs:List AV):freeze (n+1) hp (.aQ cs)=some (.aQ cs,hp):=rfl
end
end
section
variable {hp:Hp}
def aru (a b:AV):TY (.bool true) a b=some a:=rfl
def arv (a b:AV):TY (.bool false) a b=some b:=rfl
def at4 (k:Nat->Option AV) (n:Nat):LF k (some n)=k n:=rfl
def ajz (k:yY) (n:Nat):dE (.int k (n:Int))=some n:=rfl
def arw (k:yY):dE (.int k 0)=some 0:=rfl
def arx (k:yY):dE (.int k 1)=some 1:=rfl
def ary (k:yY):dE (.int k 2)=some 2:=rfl
def arz (k:yY):dE (.int k 3)=some 3:=rfl
def arA (k:yY):dE (.int k 4)=some 4:=rfl
def arB (k:yY):dE (.int k 5)=some 5:=rfl
def arC (k:yY):dE (.int k 6)=some 6:=rfl
def arD (k:yY):dE (.int k 7)=some 7:=rfl
def arE (k:yY):dE (.int k 8)=some 8:=rfl
def arF (k:yY):dE (.int k 9)=some 9:=rfl
def ao9 (cs:List AV):aeP (some cs)=some (.agg cs):=rfl
def abJ (k:yY) (a b:Int):binOp .add (.int k a) (.int k b)=some (.int k (k.wrap (a+b))):=by simp [binOp,lM]
def NF (k:yY) (a b:Int):binOp .sub (.int k a) (.int k b)=some (.int k (k.wrap (a-b))):=by simp [binOp,lM]
def abK (k:yY) (a b:Int):binOp .mul (.int k a) (.int k b)=some (.int k (k.wrap (a*b))):=by simp [binOp,lM]
def fw (k:yY) (a b:Int) (h:b≠0):binOp .quo (.int k a) (.int k b)=some (.int k (k.wrap (a.tdiv b))):=by simp [binOp,lM,h]
def fM (k:yY) (a b:Int) (h:b≠0):binOp .rem (.int k a) (.int k b)=some (.int k (a.tmod b)):=by simp [binOp,lM,h]
def apa (k:yY) (a b:Int):binOp .eql (.int k a) (.int k b)=some (.bool (decide (a=b))):=by
 simp [binOp,lM,intCmp,BEq.beq]
def apb (k:yY) (a b:Int):binOp .neq (.int k a) (.int k b)=some (.bool (!decide (a=b))):=by
 simp [binOp,lM,intCmp,bne,BEq.beq]
def apc (k:yY) (a b:Int):binOp .lss (.int k a) (.int k b)=some (.bool (decide (a<b))):=by simp [binOp,lM,intCmp]
def apd (k:yY) (a b:Int):binOp .leq (.int k a) (.int k b)=some (.bool (decide (a<=b))):=by simp [binOp,lM,intCmp]
def ape (k:yY) (a b:Int):binOp .gtr (.int k a) (.int k b)=some (.bool (decide (b<a))):=by simp [binOp,lM,intCmp]
def apf (k:yY) (a b:Int):binOp .geq (.int k a) (.int k b)=some (.bool (decide (b<=a))):=by simp [binOp,lM,intCmp]
def arG (k:yY) (a:Int):unOp .neg (.int k a)=some (.int k (k.wrap (0-a))):=rfl
def arH (b:Bool):unOp .not (.bool b)=some (.bool !b):=rfl
def amU:ia hp 1 .ab=some (.int .i64 0):=rfl
def apg (e:Bool) (n:Nat) (cs:List AV):ia hp 1 (.aJ e n cs)=some (.int .i64 n):=rfl
def aph (id o n:Nat):ia hp 1 (.aC id o n)=some (.int .i64 n):=rfl
def api (s:List Nat):ia hp 0 (.str s)=some (.int .i64 s.length):=rfl
def NG {sz i n:Nat} (e:Bool) (cs:List AV) (h:i<n):hZ sz i (.aJ e n cs)=some (.aQ (cs.drop (i*sz))):=by
 have hb:yM i n=true:=yx h;simp only [hZ]
 grind
def cW {sz i n:Nat} (id o:Nat) (h:i<n):hZ sz i (.aC id o n)=some (.ptr id (o+i*sz)):=by
 have hb:yM i n=true:=yx h;simp only [hZ]
 grind
def Ni (v:AV) (cs:List AV):ic hp 1 false (.aQ (v::cs))=some v:=rfl
def Qy (sz:Nat) (ag:Bool) (o:Nat) (q:Option Obj):Option AV:=match q with | some (.cells _ _ _ _ cs)=>fD sz ag (cs.drop o) | _=>none
def arI (sz:Nat) (ag:Bool) (id o:Nat):ic hp sz ag (.ptr id o)=Qy sz ag o (az hp id):=by
 rfl
def at5 (sz:Nat) (ag:Bool) (o:Nat) (rw pu ex:Bool) (z:Nat) (cs:List AV):Qy sz ag o (some (.cells rw pu ex z cs))=fD sz ag (cs.drop o):=rfl
def at6 (sz:Nat) (v:AV) (cs:List AV):fD sz false (v::cs)=some v:=rfl
def avy (a:AV) (l:List AV):KB 0 (.au (a::l))=some a:=rfl
def ext1 (a b:AV) (l:List AV):KB 1 (.au (a::b::l))=some b:=rfl
def avz (a b c:AV) (l:List AV):KB 2 (.au (a::b::c::l))=some c:=rfl
def avA (a b c d:AV) (l:List AV):KB 3 (.au (a::b::c::d::l))=some d:=rfl
end
def zU:Env->Bool
 | []=>true
 | (_,v)::r=>aU v&&zU r
mutual
def ak:∀{v:AV},aU v=true->refs v=[]
 | .int _ _,_ | .bool _,_ | .du _ _,_ | .str _,_ | .lk,_ | .aQ _,_ | .ab,_ | .aJ _ _ _,_ | .iS,_ | .kH,_ | .jN _ _,_ | .undef,_=>rfl
 | .ptr _ _,h | .aC _ _ _,h | .map _,h | .it _,h | .bW _ _ _ _,h=>by simp [aU] at h
 | .fn (.y _) _ _,h=>by simp [aU] at h
 | .fn (.f _) first cap,h=>by
  simp only [aU,ye] at h;simp only [refs,CK h.1,CK h.2,wJ]
 | .agg cs,h=>by simp only [aU] at h;simp only [refs,CK h]
 | .au cs,h=>by simp only [aU] at h;simp only [refs,CK h]
def CK:∀{vs:List AV},aH vs=true->iO vs=[]
 | [],_=>rfl
 | v::r,h=>by
  simp only [aH,ye] at h;simp only [iO,ak h.1,CK h.2,wJ]
end
mutual
def ao (f:Nat->Option Nat):∀{v:AV},aU v=true->bZ f v=v
 | .int _ _,_ | .bool _,_ | .du _ _,_ | .str _,_ | .lk,_ | .aQ _,_ | .ab,_ | .aJ _ _ _,_ | .iS,_ | .kH,_ | .jN _ _,_ | .undef,_=>rfl
 | .ptr _ _,h | .aC _ _ _,h | .map _,h | .it _,h | .bW _ _ _ _,h=>by simp [aU] at h
 | .fn (.y _) _ _,h=>by simp [aU] at h
 | .fn (.f _) first cap,h=>by
  simp only [aU,ye] at h;simp only [bZ,CL f h.1,CL f h.2]
 | .agg cs,h=>by simp only [aU] at h;simp only [bZ,CL f h]
 | .au cs,h=>by simp only [aU] at h;simp only [bZ,CL f h]
def CL (f:Nat->Option Nat):∀{vs:List AV},aH vs=true->fB f vs=vs
 | [],_=>rfl
 | v::r,h=>by
  simp only [aH,ye] at h;simp only [fB,ao f h.1,CL f h.2]
end
def Y4:∀{tm:Env},zU tm=true->jx tm=[]
 | [],_=>rfl
 | (i,v)::r,h=>by
  simp only [zU,ye] at h;simp only [jx,ak h.1,Y4 h.2,wJ]
def ZO (f:Nat->Option Nat):∀{tm:Env},zU tm=true->ll f tm=tm
 | [],_=>rfl
 | (i,v)::r,h=>by
  simp only [zU,ye] at h;simp only [ll,ao f h.1,ZO f h.2]
def Mw {live:List Nat} {tm:Env} {ct:Nat} (h:zU (eh tm live)=true):aT live ⟨tm,[],ct,0⟩=⟨eh tm live,[],0,0⟩:=by
 simp only [aT,Y4 h,jt,wJ];simp only [reach,kV,my,ZO _ h,yK,y7]
def ai3 {tm:Env} {ct:Nat}:aT [] ⟨tm,[],ct,0⟩=⟨[],[],0,0⟩:=rfl
def IS {P:aG} {L:Lib} {live:List Nat} {a:VC} (I:Nat->St->Prop) (Q:Ex->St->Prop)
  (step:∀k s,I k s->(∃s' k',D P L a (aT live s)=some (.normal,s')/\k'<k/\I k' s')\/(∃ex s',D P L a (aT live s)=some (ex,s')/\ex≠.normal/\Q ex s')):
  ∀k s,I k s->∃ex s',D P L (.loop live a) s=some (ex,s')/\Q ex s':=by
 intro k
 induction k using Nat.strongRecOn with
 | _ k ih=>
  intro s hI;rw [FJ];rcases step k s hI with ⟨s',k',h1,h2,h3⟩ | ⟨ex,s',h1,h2,h3⟩
  ·rw [h1,abH];exact ih k' h2 s' h3
  ·rw [h1]
   cases ex with
   | normal=>exact absurd rfl h2
   | ret=>exact ⟨.ret,s',rfl,h3⟩
   | exit id=>exact ⟨.exit id,s',rfl,h3⟩
def eF {P:aG} {L:Lib} {live:List Nat} {a:VC} (I:Nat->St->Prop) (Q:Ex->St->Prop)
  (step:∀k s,I k s->(∃s' k',D P L a s=some (.normal,s')/\k'<k/\I k' (aT live s'))\/(∃ex s',D P L a s=some (ex,s')/\ex≠.normal/\Q ex s')):
  ∀k s,I k (aT live s)->∃ex s',D P L (.loop live a) s=some (ex,s')/\Q ex s':=
 IS (fun k s=>I k (aT live s)) Q (fun k s h=>step k _ h)
def dn {P:aG} {L:Lib} {live:List Nat} {a:VC} {I:Nat->St->Prop} {Q:Ex->St->Prop}
  (step:∀k s,I k s->(∃s' k',D P L a s=some (.normal,s')/\k'<k/\I k' (aT live s'))\/(∃ex s',D P L a s=some (ex,s')/\ex≠.normal/\Q ex s')):
  ∀k s s0,aT live s=s0->I k s0->∃ex s',D P L (.loop live a) s=some (ex,s')/\Q ex s':=fun k s s0 h hi=>eF I Q step k s (h▸hi)
def bD {P:aG} {L:Lib} {c:VC} {s:St} {q:Option (Ex×St)} {I:St->Prop} {Q:Ex->St->Prop} (hq:D P L c s=q) (key:∀s,I s->∃ex s',D P L c s=some (ex,s')/\Q ex s') (hI:I s):
  ∃ex s',q=some (ex,s')/\Q ex s':=by
 rw [<-hq];exact key s hI
def amV (tm:Env):eh tm []=[]:=rfl
def akU (tm:Env) (i:Nat) (r:List Nat):eh tm (i::r)=(i,ah tm i)::eh tm r:=rfl
def akV:zU []=true:=rfl
def ajA (i:Nat) (v:AV) (r:Env):zU ((i,v)::r)=(aU v&&zU r):=rfl
def Di (k:yY) (n:Int):aU (.int k n)=true:=(rfl)
def apj (b:Bool):aU (.bool b)=true:=(rfl)
def arJ (s:List Nat):aU (.str s)=true:=(rfl)
def apk:aU .ab=true:=(rfl)
def arK (e:Bool) (n:Nat) (cs:List AV):aU (.aJ e n cs)=true:=(rfl)
def apl (cs:List AV):aU (.aQ cs)=true:=(rfl)
def amW:aU .undef=true:=(rfl)
attribute [go_sem] deep ai3 amV akU akV ajA Di apj arJ apk arK apl amW Bool.and_true wI
attribute [go_sem] aqZ aq0 atO afw avt atP kE aq1 atQ gD aoK aoL abH aoM aoN aoO aoP abI aoQ aq2 aq3 aoR aoS
 aoT amA akG aoU atS atT amB amC amD amE aoV aq4 aq5 akH ajs amF akI nd akJ amG akK amH amI akL
 avu avv aq6 aoW amJ atU aoX aq7 atV atW atX aq8 FK aq9 ara arb arc ard are arf arh ari aoY arj adk ark atY arl amK amL amM
 aoZ ao0 ao1 ao2 ao3 arm arn aro arp U1 avx amN akM ao4 arq Ud atZ at0 at1 at2 at3
 ajt ai1 aju ai2 ajv shut_int shut_bool amO akN amP E3 bC ao5 rV akO ajw akP ajx akQ ajy akR akS rU
 amQ akT ars art ao6 amR ao7 amS ao8 amT
 aru arv at4 ajz arw arx ary arz arA arB arC arD arE arF ao9 abJ NF abK apa apb apc apd ape apf arG arH amU apg aph api Ni arI at5 at6 avy ext1 avz avA
 List.nil_append wJ xu ym yk Bool.not_true Bool.not_false yaS tn
end
section
open Go (IntKind)
abbrev aa (n:Int):AV:= .int .i64 n
def cS (v:AV) (cs:List AV):Prop:=(v= .ab/\cs=[])\/∃e,v= .aJ e cs.length cs
section
variable {v:AV} {cs:List AV} {hp:Hp}
def cS.len (h:cS v cs) {hp:Hp}:ia hp 1 v=some (.int .i64 (cs.length:Nat)):=by
 rcases h with ⟨rfl,rfl⟩ | ⟨e,rfl⟩<;>rfl
def cS.pu (h:cS v cs):aU v=true:=by
 rcases h with ⟨rfl,rfl⟩ | ⟨e,rfl⟩<;>rfl
def cS.af (h:cS v cs) (n:Nat) {hp:Hp}:freeze (n+1) hp v=some (v,hp):=by
 rcases h with ⟨rfl,rfl⟩ | ⟨e,rfl⟩<;>rfl
def cS.shut (h:cS v cs):shut v=v:=by
 rcases h with ⟨rfl,rfl⟩ | ⟨e,rfl⟩<;>rfl
def cS.bG (h:cS v cs):bG v=v:=by
 rcases h with ⟨rfl,rfl⟩ | ⟨e,rfl⟩<;>rfl
def cS.dw (h:cS v cs) {hp:Hp}:result hp v=some v:=by
 rcases h with ⟨rfl,rfl⟩ | ⟨e,rfl⟩<;>rfl
def cS.aZ (h:cS v cs) {i:Nat} (hi:i<cs.length):hZ 1 i v=some (.aQ (cs[i]::cs.drop (i+1))):=by
 rcases h with ⟨rfl,rfl⟩ | ⟨e,rfl⟩
 ·grind
 ·rw [NG e _ hi,Nat.mul_one,yN hi]
def cS.one (h:cS v cs):bm v=true:=by
 rcases h with ⟨rfl,rfl⟩ | ⟨e,rfl⟩<;>rfl
def cS.cells (h:cS v cs):cellsOf v=[v]:=by
 rcases h with ⟨rfl,rfl⟩ | ⟨e,rfl⟩<;>rfl
def CW (e:Bool) (cs:List AV):cS (.aJ e cs.length cs) cs:= .inr ⟨e,rfl⟩
def nf:cS .ab []:= .inl ⟨rfl,rfl⟩
end
def bl (v:AV) (l:List Int):Prop:=cS v (l.map aa)
section
variable {v:AV} {l:List Int}
def bl.len (h:bl v l) {hp:Hp}:ia hp 1 v=some (.int .i64 (l.length:Nat)):=by
 have:=cS.len (hp:=hp) h
 grind
def bl.pu (h:bl v l):aU v=true:=cS.pu h
def bl.af (h:bl v l) (n:Nat) {hp:Hp}:freeze (n+1) hp v=some (v,hp):=cS.af h n
def bl.shut (h:bl v l):VE.shut v=v:=cS.shut h
def bl.bG (h:bl v l):VE.bG v=v:=cS.bG h
def bl.dw (h:bl v l) {hp:Hp}:result hp v=some v:=cS.dw h
def bl.one (h:bl v l):bm v=true:=cS.one h
def bl.cells (h:bl v l):cellsOf v=[v]:=cS.cells h
def bl.aZ (h:bl v l) {i:Nat} (hi:i<l.length):hZ 1 i v=some (.aQ (.int .i64 l[i]::(l.map aa).drop (i+1))):=by
 have:=cS.aZ h (i:=i) (by simpa using hi)
 grind
def fy (e:Bool) (l:List Int):bl (.aJ e l.length (l.map aa)) l:=by
 have:=CW e (l.map aa)
 rwa [yL] at this
end
def di {α β:Type} (p:α->β->Prop):List α->List β->Prop
 | [],[]=>True
 | a::r,b::s=>p a b/\di p r s
 | _,_=>False
section
variable {α β:Type} {p:α->β->Prop}
def di.len:∀{l:List α} {m:List β},di p l m->l.length=m.length
 | [],[],_=>rfl
 | _::_,_::_,h=>by rw [yC,yC,h.2.len]
def di.get:∀{l:List α} {m:List β} (_:di p l m) {i:Nat} (h1:i<l.length) (h2:i<m.length),p l[i] m[i]
 | a::r,b::s,h,0,_,_=>h.1
 | a::r,b::s,h,i+1,h1,h2=>by
  exact h.2.get (by simpa using h1) (by simpa using h2)
end
def dU (v:AV) (s:List (List Int)):Prop:=∃rows,cS v rows/\di bl rows s
section
variable {v:AV} {s:List (List Int)}
def dU.len (h:dU v s) {hp:Hp}:ia hp 1 v=some (.int .i64 (s.length:Nat)):=by
 obtain ⟨rows,h1,h2⟩:=h;rw [<-h2.len];exact h1.len
def dU.pu (h:dU v s):aU v=true:=by obtain ⟨rows,h1,h2⟩:=h;exact h1.pu
def dU.af (h:dU v s) (n:Nat) {hp:Hp}:freeze (n+1) hp v=some (v,hp):=by obtain ⟨rows,h1,h2⟩:=h;exact h1.af n
def dU.shut (h:dU v s):VE.shut v=v:=by obtain ⟨rows,h1,h2⟩:=h;exact h1.shut
def dU.bG (h:dU v s):VE.bG v=v:=by obtain ⟨rows,h1,h2⟩:=h;exact h1.bG
def dU.dw (h:dU v s) {hp:Hp}:result hp v=some v:=by obtain ⟨rows,h1,h2⟩:=h;exact h1.dw
def dU.one (h:dU v s):bm v=true:=by obtain ⟨rows,h1,h2⟩:=h;exact h1.one
def dU.cells (h:dU v s):cellsOf v=[v]:=by obtain ⟨rows,h1,h2⟩:=h;exact h1.cells
def dU.aZ (h:dU v s) {i:Nat} (hi:i<s.length):∃r rest,bl r s[i]/\hZ 1 i v=some (.aQ (r::rest)):=by
 obtain ⟨rows,h1,h2⟩:=h;have bL:i<rows.length:=by rw [h2.len];exact hi
 exact ⟨_,_,h2.get bL hi,h1.aZ bL⟩
def amX:dU .ab []:=⟨[],nf,trivial⟩
end
def wrap64 {n:Int} (h1: -9223372036854775808<=n) (h2:n<9223372036854775808):IntKind.wrap .i64 n=n:=by
 simp only [IntKind.wrap,IntKind.bits,IntKind.signed,wI]
 grind
def wrapN {n:Nat} (h:n<9223372036854775808):IntKind.wrap .i64 (n:Int)=n:=wrap64 (by omega) (by omega)
end
section
open Go (IntKind)
section
variable {P:aG} {L:Lib}
abbrev ae (P:aG) (L:Lib) (f:Nat) (aq:List AV) (r:AV):Prop:=bQ P L (D P L) f aq=some r
def WZ (h:Has P L 30 rC) (n lo hi:Int):ae P L 30 [aa n,aa lo,aa hi] (aa (if n<lo\/hi<n then 3 else 0)):=by
 unfold ae;rw [ay h];by_cases h1:n<lo
 ·simp only [go_sem,ya,rC,h1,true_or,xm]
 ·by_cases h2:hi<n
  ·simp only [go_sem,ya,rC,h1,h2,or_true,xm]
  ·simp only [go_sem,ya,rC,h1,h2,or_self,xh]
def qh (h:Has P L 31 Cc) (b:Bool) (n:Int):ae P L 31 [.bool b,aa n] (aa (if b=true then n else 0)):=by
 unfold ae;rw [ay h]
 cases b with
 | true=>simp only [go_sem,ya,Cc,xm]
 | false=>simp only [go_sem,ya,Cc];rfl
def W0 (h:Has P L 13 jU) (b:Bool) (n:Int):ae P L 13 [.bool b,aa n] (aa (if b=true then n else 0)):=by
 unfold ae;rw [ay h]
 cases b with
 | true=>simp only [go_sem,ya,jU,xm]
 | false=>simp only [go_sem,ya,jU];rfl
def s34 (h:Has P L 34 Ej) (jV:Has P L 31 Cc) (n lo hi:Int):ae P L 34 [aa n,aa lo,aa hi] (aa (if n<lo\/hi<n then 3 else 0)):=by
 unfold ae;rw [ay h];by_cases h1:n<lo
 ·simp only [go_sem,ya,Ej,h1,true_or,xm,qh jV]
 ·by_cases h2:hi<n
  ·simp only [go_sem,ya,Ej,h1,h2,or_true,xm,qh jV]
  ·simp only [go_sem,ya,Ej,h1,h2,or_self,xh,qh jV];rfl
def zk (h:Has P L 33 Ln) {v:AV} {l:List Int} (hv:bl v l) (hl:l.length<=1000000):ae P L 33 [v] (aa (bn l)):=by
 unfold ae;rw [ay h];simp only [go_sem,ya,Ln,hv.len];have key:=IS (P:=P) (L:=L) (live:=[5,6,7]) (a:=Oc)
  (I:=fun k s=>∃tm ct i,s=⟨tm,[],ct,0⟩/\ah tm 5=v/\ah tm 6=aa l.length/\ah tm 7=aa (i:Nat)/\i+k=l.length/\bn (l.drop i)=bn l)
  (Q:=fun ex s=>∃tm,s=⟨tm,[],0,0⟩/\((ex= .ret/\ah tm 2=aa (bn l))\/(ex= .exit 0/\bn l=0))) ?_ l.length
 ·generalize hq:D P L (.loop [5,6,7] Oc) _=q;obtain ⟨ex,s,rfl,tm,rfl,h2⟩:=bD hq key ⟨_,_,0,rfl,rfl,rfl,rfl,by omega,rfl⟩;rcases h2 with ⟨rfl,h2⟩ | ⟨rfl,h2⟩
  ·simp only [go_sem,h2]
  ·rw [h2];simp only [go_sem]
 ·rintro k s ⟨tm,ct,i,rfl,h5,h6,h7,hk,hf⟩;rw [Mw (by simp only [go_sem,h5,h6,h7,hv.pu])];simp only [go_sem,ya,h5,h6,h7,Oc];by_cases hi:i<l.length
  ·have bL:(i:Int)<l.length:=by omega
   rw [Ro hi] at hf;by_cases hz:l[i]=0
   ·left
    simp only [go_sem,ya,bL,hv.aZ hi,hz];refine ⟨_,k-1,rfl,by omega,_,_,i+1,rfl,?_⟩;rw [wrap64 (by omega) (by omega)];rw [yH hz] at hf;simp only [go_sem,ya];exact ⟨trivial,trivial,rfl,by omega,hf⟩
   ·right
    simp only [go_sem,ya,bL,hv.aZ hi,hz];rw [yA hz] at hf;refine ⟨_,_,rfl,by simp,_,rfl,.inl ⟨rfl,?_⟩⟩;simp only [go_sem,hf]
  ·right
   have bL:¬(i:Int)<l.length:=by omega
   simp only [go_sem,bL];refine ⟨_,_,rfl,by simp,_,rfl,.inr ⟨rfl,?_⟩⟩;rw [<-hf,yT (by omega)];rfl
def W1 {n:Nat} (h:Has P L n Lo) {v:AV} {l:List Int} (hv:bl v l) (hl:l.length<=1000000):ae P L n [v] (aa (bn l)):=by
 unfold ae;rw [ay h];simp only [go_sem,Lo];have key:=IS (P:=P) (L:=L) (live:=[0,3]) (a:=Od)
  (I:=fun k s=>∃tm ct i,s=⟨tm,[],ct,0⟩/\ah tm 0=v/\ah tm 3=aa (i:Nat)/\i+k=l.length/\bn (l.drop i)=bn l)
  (Q:=fun ex s=>∃tm,s=⟨tm,[],0,0⟩/\((ex= .ret/\ah tm 2=aa (bn l))\/(ex= .exit 0/\bn l=0))) ?_ l.length
 ·generalize hq:D P L (.loop [0,3] Od) _=q;obtain ⟨ex,s,rfl,tm,rfl,h2⟩:=bD hq key ⟨_,_,0,rfl,rfl,rfl,by omega,rfl⟩;rcases h2 with ⟨rfl,h2⟩ | ⟨rfl,h2⟩
  ·simp only [go_sem,h2]
  ·rw [h2];simp only [go_sem]
 ·rintro k s ⟨tm,ct,i,rfl,h0,h3,hk,hf⟩;rw [Mw (by simp only [go_sem,h0,h3,hv.pu])];simp only [go_sem,ya,h0,h3,Od,hv.len];by_cases hi:i<l.length
  ·have bL:(i:Int)<l.length:=by omega
   rw [Ro hi] at hf;by_cases hz:l[i]=0
   ·left
    simp only [go_sem,ya,bL,hv.aZ hi,hz];refine ⟨_,k-1,rfl,by omega,_,_,i+1,rfl,?_⟩;rw [wrap64 (by omega) (by omega)];rw [yH hz] at hf;simp only [go_sem,ya];exact ⟨trivial,rfl,by omega,hf⟩
   ·right
    simp only [go_sem,ya,bL,hv.aZ hi,hz];rw [yA hz] at hf;refine ⟨_,_,rfl,by simp,_,rfl,.inl ⟨rfl,?_⟩⟩;simp only [go_sem,hf]
  ·right
   have bL:¬(i:Int)<l.length:=by omega
   simp only [go_sem,bL];refine ⟨_,_,rfl,by simp,_,rfl,.inr ⟨rfl,?_⟩⟩;rw [<-hf,yT (by omega)];rfl
def s11 (h:Has P L 11 ix) (Cf:Has P L 42 Lo) {v:AV} {l:List Int} (hv:bl v l) (hl:l.length<=1000000):ae P L 11 [v] (aa (bn l)):=by
 unfold ae;rw [ay h];simp only [go_sem,ya,ix,hv.af,W1 Cf hv hl]
def afz (h:Has P L 134 Ga) {n m:Int} (hm:0<m) (gJ:m<=1000000):ae P L 134 [aa n,aa m] (aa (n%m)):=by
 unfold ae;rw [ay h];have h1:m≠0:=by omega
 have h2:n.tmod m<m:=Int.tmod_lt_of_pos n hm;have h3: -m<n.tmod m:=by
  have h:=Int.lt_tmod_of_pos n hm;omega
 simp only [go_sem,ya,Ga,fM _ _ _ h1,wrap64 (n:=n.tmod m+m) (by omega) (by omega),aoJ hm]
end
end
end VE
