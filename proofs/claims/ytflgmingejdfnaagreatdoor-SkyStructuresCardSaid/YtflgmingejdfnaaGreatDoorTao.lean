import Derived.ChangeSlices
import Derived.ChangeReads
import Derived.ChangeSame
import Derived.OpenShut
import Derived.Lib.AtoiErrMem
import Derived.Attr
import Derived.Test.YtflgmingejdfnaaGreatDoorTal
import Derived.Test.YtflgmingejdfnaaGreatDoorTah
import Derived.Test.YtflgmingejdfnaaGreatDoorTaj
import Derived.Test.YtflgmingejdfnaaGreatDoorTam
import Derived.Test.YtflgmingejdfnaaGreatDoorTan
import Derived.Test.YtflgmingejdfnaaGreatDoorTag
set_option linter.all false
set_option maxRecDepth 100000
open Array renaming getElem?_eq_some_iff→y5
open Bool renaming and_eq_true→ye
open Go renaming Addr→vA,ChangeSpec→yaJ,DataW→yY,Field→vK,IntKind→yG,MemPlace→xF,Program→yJ,TypeId→yj,Value→yd,World→yf
open List renaming all_cons→yaj,append_nil→xS,cons_append→yH,drop_drop→wR,drop_eq_nil_of_le→xr,eq_nil_of_length_eq_zero→yB,flatMap_cons→tk,getElem?_cons_zero→wA,length_cons→yx,length_nil→yZ,mapM_cons→wS,mapM_nil→ui,map_cons→yP,mem_append_left→vt,mem_append_right→wB,mem_flatMap→w9,range→yO,range'→xg,range'_succ→wO,range'_zero→tI,range_eq_range'→uH,take_append_drop→xW
open Nat renaming beq→yk,beq_refl→y9,ble_eq_true_of_le→yt,blt→yA,eq_of_beq_eq_true→yh,eq_zero_or_pos→xv,le_max_left→wN,le_max_right→wD,le_refl→yC,zero_add→yp
open Option renaming bind_eq_bind→wk,bind_some→xt,map_some→xN,pure_def→xO
open Option.some renaming injEq→yb
open Prod.mk renaming injEq→yg
namespace VE
section
open Go
section
variable (P:yJ)
def sG (self:yj->Bool):List vK->Nat->Nat->Bool
 | [],o,n=>yk o n
 | f::r,o,n=>yk f.offset o&&(self f.type&&sG self r (o+P.cellsOf f.type) n)
def flat:Nat->yj->Bool
 | 0,_=>false
 | n+1,t=>
  match P.underlying t with
  | some .bool | some (.int _) | some (.float _) | some .string=>yk (P.cellsOf t) 1
  | some (.slice e)=>yk (P.cellsOf t) 1&&(yA 0 (P.cellsOf e)&&flat n e)
  | some (.struct fs)=>sG P (fun u=>flat n u) fs.toList 0 (P.cellsOf t)
  | some (.array k e)=>yk (P.cellsOf t) (k*P.cellsOf e)&&flat n e
  | _=>false
def b8 {H:Type}:Nat->yj->yY H->List AV
 | 0,_,_=>[]
 | n+1,t,d=>
  match P.underlying t,d with
  | some .bool,.lit (.bool b)=>[.bool b]
  | some (.int k),.lit (.int _ m)=>[.int k m]
  | some (.float k),.lit (.float _ b)=>[.cx k b]
  | some .string,.lit (.string s)=>[.str (s.map UInt8.toNat)]
  | some (.slice _),.nil=>[.aa]
  | some (.slice e),.slice gF spare=>[.aB spare.isEmpty gF.length (gF.flatMap fun x=>b8 n e x)]
  | some (.struct fs),.agg parts=>(fs.toList.zip parts).flatMap fun x=>b8 n x.1.type x.2
  | some (.array _ e),.agg parts=>parts.flatMap fun x=>b8 n e x
  | _,_=>[]
end
section
variable {ae:Nat->Nat} {m:Mp} {S:Nat->Prop} {w:yf}
def NA:∀{a b:List AV} {aC o:Nat},bC ae m S w a aC o->bC ae m S w b aC (o+a.length)->bC ae m S w (a++b) aC o
 | [],b,aC,o,_,h=>by simpa using h
 | x::a,b,aC,o,h1,h2=>by
  exact ⟨h1.1,NA h1.2 (by rw [yx] at h2;rw [show o+1+a.length=o+(a.length+1) by omega];exact h2)⟩
def DA:∀{a b:List AV},az a=true->az b=true->az (a++b)=true
 | [],_,_,h=>h
 | x::a,b,h1,h2=>by
  simp only [az,yH,ye] at h1 ⊢;exact ⟨h1.1,DA h1.2 h2⟩
def NB:∀{a:List AV} {us:List yd},an ae m S w a us->a.length=us.length
 | [],us,h=>by simp only [an] at h;subst h;rfl
 | x::a,us,h=>by
  obtain ⟨u,r,rfl,_,h2⟩:=h;simp [NB h2]
end
section
variable {H:Type} {enc:yj×yd->H} {P:yJ} {w:yf} {held:Bool} {ae:Nat->Nat} {m:Mp} {S:Nat->Prop}
def Ps {a:vA} {i:Nat} {u:yd} (h:w.cell? (a.add i)=some u):w.cell? ⟨a.block,a.off+i,none⟩=some u/\(i=0->a.spot=none):=by
 by_cases hi:i=0
 ·subst hi;have e:a.add 0=a:=by simp [Addr.add]
  rw [e] at h;have hs:a.spot=none:=by
   cases hq:a.spot with
   | none=>rfl
   | some k=>
    unfold World.cell? at h
    split at h
    ·simp [hq] at h
    all_goals simp_all
  obtain ⟨b,o,sp⟩:=a;simp only at hs;subst hs;exact ⟨by simpa using h,fun _=>rfl⟩
 ·have e:a.add i=⟨a.block,a.off+i,none⟩:=by simp [Addr.add,hi]
  rw [e] at h;exact ⟨h,fun h=>(hi h).elim⟩
def Zh (a:vA) (i:Nat):(a.add i).block=a.block:=by unfold Addr.add;split<;>rfl
def ac6 (a:vA) (i:Nat):(a.add i).off=a.off+i:=by unfold Addr.add;split<;>simp_all
def DH {α β:Type} {f:α->Option β}:∀{l:List α} {r:List β},l.mapM f=some r->r.length=l.length
 | [],r,h=>by simp only [ui,xO,yb] at h;subst h;rfl
 | x::l,r,h=>by
  rw [wS] at h
  cases h1:f x with
  | none=>simp [h1] at h
  | some y=>
   cases h2:l.mapM f with
   | none=>simp [h1,h2] at h
   | some ys=>
    simp only [h1,h2,xt,wk,xO,yb] at h;subst h;simp [DH h2]
def aa5 {c:AV} {l:List AV} {b o:Nat} (h:bC ae m S w (c::l) b o):b<w.heap.size:=by
 obtain ⟨⟨u,h1,_⟩,_⟩:=h;unfold World.cell? at h1
 cases hq:w.heap[b]? with
 | none=>simp [hq] at h1
 | some o=>exact (y5.1 hq).1
def HF {e:yj} {a7 sz:Nat} {f:yY H->List AV} {a:vA} (eZ:0<sz)
  (IH:∀(cs:List yd) (d:yY H) (ps:List xF),DataW.trod enc P w 0 (fun _=>true) held a7 e cs=some (d,ps)->an ae m S w (f d) cs/\az (f d)=true/\cs.length=sz):
  ∀(k j:Nat) (xs:List (yY H×List xF)),(xg j k).mapM (fun i=>(w.cells? 0 (a.add (i*sz)) sz).bind (DataW.trod enc P w 0 (fun _=>true) held a7 e))=some xs->
   bC ae m S w ((xs.map (·.1)).flatMap f) a.block (a.off+j*sz)/\az ((xs.map (·.1)).flatMap f)=true/\((xs.map (·.1)).flatMap f).length=k*sz/\xs.length=k/\(0<k->a.spot=none\/0<j)
 | 0,j,xs,h=>by
  simp only [tI,ui,xO,yb] at h;subst h;simp [bC,az]
 | k+1,j,xs,h=>by
  rw [wO,wS] at h
  cases h1:(w.cells? 0 (a.add (j*sz)) sz) with
  | none=>simp [h1] at h
  | some us=>
   cases h2:DataW.trod enc P w 0 (fun _=>true) held a7 e us with
   | none=>simp [h1,h2] at h
   | some x=>
    cases h3:(xg (j+1) k).mapM (fun i=>(w.cells? 0 (a.add (i*sz)) sz).bind (DataW.trod enc P w 0 (fun _=>true) held a7 e)) with
    | none=>simp [h1,h2,h3] at h
    | some ys=>
     simp only [h1,h2,h3,xt,wk,xO,yb] at h;subst h;obtain ⟨d,ps⟩:=x;obtain ⟨g1,g2,g3⟩:=IH us d ps h2;obtain ⟨k1,k2,k3,k4,_⟩:=HF eZ IH k (j+1) ys h3;obtain ⟨_,c2,c3⟩:=World.cells?_some h1;have hl:(f d).length=sz:=by rw [NB g1,g3]
     have hc:∀(i:Nat) (u:yd),us[i]? =some u->w.cell? ⟨a.block,a.off+j*sz+i,none⟩=some u:=by
      intro i u hi;have zT:i<sz:=by grind
      have h:=c3 i zT;rw [hi] at h
      have:=(Ps h).1
      rwa [Zh,ac6] at this
     refine ⟨?_,?_,?_,by simp [k4],?_⟩
     ·simp only [yP,tk];refine NA (sK _ us _ g1 hc) ?_
      grind
     ·simp only [yP,tk];exact DA g2 k2
     ·grind
     ·intro _;rcases xv j with hj | hj
      ·left
       have h:=c3 0 eZ;have hu:us[0]? =some us[0]:=by simp_all
       rw [hu] at h
       have:=(Ps h).2 rfl
       subst hj;simpa [Addr.add] using this
      ·grind
def MI {a7 N:Nat} {n:Nat} {cs:List yd} (hN:cs.length=N)
  (IH:∀(t:yj) (cs:List yd) (d:yY H) (ps:List xF),flat P n t=true->DataW.trod enc P w 0 (fun _=>true) held a7 t cs=some (d,ps)->an ae m S w (b8 P n t d) cs/\az (b8 P n t d)=true/\cs.length=P.cellsOf t):
  ∀(r:List vK) (o:Nat) (xs:List (yY H×List xF)),sG P (fun u=>flat P n u) r o N=true->r.mapM (fun f=>DataW.trod enc P w 0 (fun _=>true) held a7 f.type ((cs.drop f.offset).take (P.cellsOf f.type)))=some xs->
   an ae m S w ((r.zip (xs.map (·.1))).flatMap fun x=>b8 P n x.1.type x.2) (cs.drop o)/\az ((r.zip (xs.map (·.1))).flatMap fun x=>b8 P n x.1.type x.2)=true
 | [],o,xs,hf,h=>by
  have:=yh hf
  rw [xr (by omega)];simp [an,az]
 | f::r,o,xs,hf,h=>by
  simp only [sG,ye] at hf;obtain ⟨e1,e2,e3⟩:=hf;have e1:=yh e1;rw [wS] at h
  cases h2:DataW.trod enc P w 0 (fun _=>true) held a7 f.type ((cs.drop f.offset).take (P.cellsOf f.type)) with
  | none=>simp [h2] at h
  | some x=>
   cases h3:r.mapM (fun f=>DataW.trod enc P w 0 (fun _=>true) held a7 f.type ((cs.drop f.offset).take (P.cellsOf f.type))) with
   | none=>simp [h2,h3] at h
   | some ys=>
    simp only [h2,h3,xt,wk,xO,yb] at h;subst h;obtain ⟨d,ps⟩:=x;obtain ⟨g1,g2,g3⟩:=IH f.type _ d ps e2 h2;obtain ⟨k1,k2⟩:=MI hN IH r _ ys e3 h3;rw [e1] at g1;have e:cs.drop o=(cs.drop o).take (P.cellsOf f.type)++cs.drop (o+P.cellsOf f.type):=by rw [<-wR];exact (xW _ _).symm
    rw [e];exact ⟨iS g1 k1,DA g2 k2⟩
def Pt {a7 sz:Nat} {e:yj} {f:yY H->List AV} {cs:List yd}
  (IH:∀(cs:List yd) (d:yY H) (ps:List xF),DataW.trod enc P w 0 (fun _=>true) held a7 e cs=some (d,ps)->an ae m S w (f d) cs/\az (f d)=true/\cs.length=sz):
  ∀(k j:Nat) (xs:List (yY H×List xF)),(xg j k).mapM (fun i=>DataW.trod enc P w 0 (fun _=>true) held a7 e ((cs.drop (i*sz)).take sz))=some xs->cs.length=(j+k)*sz->
   an ae m S w ((xs.map (·.1)).flatMap f) (cs.drop (j*sz))/\az ((xs.map (·.1)).flatMap f)=true
 | 0,j,xs,h,hl=>by
  simp only [tI,ui,xO,yb] at h;subst h;rw [xr (by rw [hl];simp)]
  simp [an,az]
 | k+1,j,xs,h,hl=>by
  rw [wO,wS] at h
  cases h2:DataW.trod enc P w 0 (fun _=>true) held a7 e ((cs.drop (j*sz)).take sz) with
  | none=>simp [h2] at h
  | some x=>
   cases h3:(xg (j+1) k).mapM (fun i=>DataW.trod enc P w 0 (fun _=>true) held a7 e ((cs.drop (i*sz)).take sz)) with
   | none=>simp [h2,h3] at h
   | some ys=>
    simp only [h2,h3,xt,wk,xO,yb] at h;subst h;obtain ⟨d,ps⟩:=x;obtain ⟨g1,g2,g3⟩:=IH _ d ps h2;obtain ⟨k1,k2⟩:=Pt IH k (j+1) ys h3 (by rw [hl];congr 1;omega)
    have e:cs.drop (j*sz)=(cs.drop (j*sz)).take sz++cs.drop ((j+1)*sz):=by rw [Nat.add_mul,Nat.one_mul,<-wR];exact (xW _ _).symm
    rw [e];exact ⟨iS g1 k1,DA g2 k2⟩
def Ol (hS:∀b,b<w.heap.size->S b):∀(n a7:Nat) (t:yj) (cs:List yd) (d:yY H) (ps:List xF),flat P n t=true->DataW.trod enc P w 0 (fun _=>true) held a7 t cs=some (d,ps)->
  an ae m S w (b8 P n t d) cs/\az (b8 P n t d)=true/\cs.length=P.cellsOf t
 | 0,a7,t,cs,d,ps,hf,h=>by simp [flat] at hf
 | n+1,0,t,cs,d,ps,hf,h=>by simp [DataW.trod] at h
 | n+1,a7+1,t,cs,d,ps,hf,h=>by
  have IH:=Ol hS n a7;unfold DataW.trod at h;simp only [flat] at hf
  split at h
  ·rename_i hu;simp only [hu] at hf;simp only [yb,yg] at h;obtain ⟨rfl,rfl⟩:=h;simp only [b8,hu];exact ⟨by simp [an,af],by simp [az,aI],by rw [yh hf];rfl⟩
  ·rename_i hu;simp only [hu] at hf
   split at h
   ·rename_i hk;simp only [yb,yg] at h;obtain ⟨rfl,rfl⟩:=h;simp only [b8,hu];refine ⟨?_,by simp [az,aI],by rw [yh hf];rfl⟩
    rw [hk.1];simp [an,af]
   ·cases h
  ·rename_i hu;simp only [hu] at hf
   split at h
   ·rename_i hk;simp only [yb,yg] at h;obtain ⟨rfl,rfl⟩:=h;simp only [b8,hu];refine ⟨?_,by simp [az,aI],by rw [yh hf];rfl⟩
    rw [hk.1];simp [an,af]
   ·cases h
  ·rename_i hu;simp only [hu] at hf
   split at h
   ·simp only [yb,yg] at h;obtain ⟨rfl,rfl⟩:=h;simp only [b8,hu];refine ⟨?_,by simp [az,aI],by rw [yh hf];rfl⟩
    simp only [an,af];exact ⟨_,_,rfl,⟨_,rfl,rfl⟩,rfl⟩
   ·cases h
  ·rename_i hu;simp [hu] at hf
  ·rename_i hu;simp [hu] at hf
  ·rename_i hu;simp only [hu,ye] at hf;simp only [yb,yg] at h;obtain ⟨rfl,rfl⟩:=h;simp only [b8,hu];exact ⟨by simp [an,af],by simp [az,aI],by rw [yh hf.1];rfl⟩
  ·rename_i e a len cap hu;simp only [hu,ye] at hf;obtain ⟨f1,f2,f3⟩:=hf;have eZ:=nn.1 f2;simp only at h
   split at h
   case isFalse=>cases h
   rename_i hc;simp only [yR] at h
   cases h1:(yO len).mapM fun i=>(w.cells? 0 (a.add (i*P.cellsOf e)) (P.cellsOf e)).bind (DataW.trod enc P w 0 (fun _=>true) held a7 e) with
   | none=>rw [h1] at h;simp at h
   | some gF=>
    cases h2:(yO (cap-len)).mapM fun j=>(w.cells? 0 (a.add ((len+j)*P.cellsOf e)) (P.cellsOf e)).bind (DataW.trod enc P w 0 (fun _=>true) held a7 e) with
    | none=>rw [h1] at h;simp [h2] at h
    | some rest=>
     rw [h1] at h;simp only [xt,h2,xN,yb,yg] at h;obtain ⟨rfl,rfl⟩:=h;have VW:=fun cs d ps h=>IH e cs d ps f3 h
     rw [uH] at h1 h2;obtain ⟨k1,k2,k3,k4,k5⟩:=HF (ae:=ae) (m:=m) (S:=S) eZ VW len 0 gF h1;have hrl:rest.length=cap-len:=by rw [DH h2];simp
     have pQ:cap≠0->a.spot=none:=by
      intro JR;rcases xv len with h0 | h0
      ·subst h0;simp only [yp,Nat.sub_zero] at h2;obtain ⟨_,_,_,_,q5⟩:=HF (ae:=ae) (m:=m) (S:=S) eZ VW cap 0 rest h2;exact (q5 (by omega)).resolve_right (by omega)
      ·exact (k5 h0).resolve_right (by omega)
     simp only [b8,hu,List.length_map];refine ⟨?_,by simp [az,aI],by rw [yh f1];rfl⟩
     simp only [an];refine ⟨_,_,rfl,?_,rfl⟩;simp only [af];by_cases JR:cap=0
     ·subst JR;have mI:len=0:=by omega
      subst mI;have he:gF=[]:=yB k4;subst he;exact .inr ⟨a,rfl,rfl,rfl⟩
     ·obtain ⟨b,o,sp⟩:=a;have pQ:=pQ JR;simp only at pQ;subst pQ;refine .inl ⟨b,o,cap,by rw [k4],by omega,fun hx=>?_,?_,k2,by simpa using k1⟩
      ·have:rest.length=0:=by simpa using hx
       omega
      ·generalize hg:((gF.map (·.1)).flatMap fun x=>b8 P n e x)=l at k1
       cases l with
       | nil=>exact .inl rfl
       | cons c l=>exact .inr (hS b (aa5 k1))
  ·rename_i mO x1 CX fs hu;simp only [hu] at hf
   split at h
   case isFalse=>cases h
   rename_i hlen
   cases h1:fs.toList.mapM fun f=>DataW.trod enc P w 0 (fun _=>true) held a7 f.type ((mO.drop f.offset).take (P.cellsOf f.type)) with
   | none=>rw [h1] at h;simp at h
   | some xs=>
    rw [h1] at h;simp only [xN,yb,yg] at h;obtain ⟨rfl,rfl⟩:=h;obtain ⟨k1,k2⟩:=MI hlen (fun t cs d ps hf h=>IH t cs d ps hf h) fs.toList 0 xs hf h1;simp only [b8,hu];exact ⟨by simpa using k1,k2,hlen⟩
  ·rename_i mO x1 CX k e hu;simp only [hu,ye] at hf;obtain ⟨f1,f2⟩:=hf;have f1:=yh f1
   split at h
   case isFalse=>cases h
   rename_i hlen
   cases h1:(yO k).mapM fun i=>DataW.trod enc P w 0 (fun _=>true) held a7 e ((mO.drop (i*P.cellsOf e)).take (P.cellsOf e)) with
   | none=>rw [h1] at h;simp at h
   | some xs=>
    rw [h1] at h;simp only [xN,yb,yg] at h;obtain ⟨rfl,rfl⟩:=h;rw [uH] at h1;obtain ⟨k1,k2⟩:=Pt (ae:=ae) (m:=m) (S:=S) (fun cs d ps h=>IH e cs d ps f2 h) k 0 xs h1 (by rw [hlen,f1];simp)
    simp only [b8,hu];exact ⟨by simpa using k1,k2,hlen⟩
  all_goals first
   | (cases h;done)
   | (simp_all;done)
def iG (P:yJ) (n:Nat) (t:yj) (d:yY H):AV:=
 match P.underlying t with
 | some (.struct _) | some (.array _ _)=> .agg (b8 P n t d)
 | _=>(b8 P n t d).headD .undef
def ac7 (hS:∀b,b<w.heap.size->S b) {n base:Nat} {t:yj} {v:yd} {d:yY H} {ps:List xF} (hf:flat P n t=true) (h:DataW.Trod enc P w 0 (fun _=>true) held t v d ps)
  (hv:Value.okWide P w .any base t v):af ae m S w (iG P n t d) v/\aI (iG P n t d)=true:=by
 obtain ⟨a7,h⟩:=h;obtain ⟨h1,h2,h3⟩:=Ol (ae:=ae) (m:=m) hS n a7 t _ d ps hf h;have one:v.cells=#[v]->(∀fs,P.underlying t≠some (.struct fs))->(∀k e,P.underlying t≠some (.array k e))->af ae m S w (iG P n t d) v/\aI (iG P n t d)=true:=by
  intro hc Ks hna;have e:iG P n t d=(b8 P n t d).headD .undef:=by
   unfold iG
   grind
  rw [e];rw [hc] at h1;generalize b8 P n t d=l at h1 h2
  cases l with
  | nil=>simp [an] at h1
  | cons x l=>
   simp only [an] at h1;simp only [az,ye] at h2
   grind
 cases n with
 | zero=>simp [flat] at hf
 | succ n=>
  unfold Value.okWide at hv;simp only [flat] at hf
  cases hu:P.underlying t with
  | none=>simp [hu] at hf
  | some ty=>
   rw [hu] at hv hf;cases ty<;>simp only [Bool.false_eq_true] at hf hv
   case struct fs=>
    obtain ⟨cs,rfl,_,_⟩:=hv;have e:iG P (n+1) t d= .agg (b8 P (n+1) t d):=by simp only [iG,hu]
    rw [e];exact ⟨by simp only [af];exact ⟨cs,rfl,h1⟩,by simpa only [aI] using h2⟩
   case array k e=>
    obtain ⟨cs,rfl,_,_⟩:=hv;have e:iG P (n+1) t d= .agg (b8 P (n+1) t d):=by simp only [iG,hu]
    rw [e];exact ⟨by simp only [af];exact ⟨cs,rfl,h1⟩,by simpa only [aI] using h2⟩
   all_goals
    refine one ?_ (by simp [hu]) (by simp [hu])
    cases v with
    | agg cs=>exfalso;simp only [Cell.okWide,Cell.ok,hu] at hv
    | _=>rfl
def nC (P:yJ) (n:Nat):List yj->List (yY H)->List AV
 | t::ts,d::ds=>iG P n t d::nC P n ts ds
 | _,_=>[]
def Om (hS:∀b,b<w.heap.size->S b) {n base:Nat}:∀{ts:List yj} {vs:List yd} {ds:List (yY H)} {ps:List xF},ts.all (flat P n)=true->DataW.TrodAll enc P w 0 (fun _=>true) held ts vs ds ps->
  (∀(j:Nat) t v,ts[j]? =some t->vs[j]? =some v->Value.okWide P w .any base t v)->an ae m S w (nC P n ts ds) vs/\az (nC P n ts ds)=true
 | [],[],[],_,_,_,_=>by simp [nC,an,az]
 | t::ts,v::vs,d::ds,ps,hf,h,hv=>by
  simp only [yaj,ye] at hf;obtain ⟨p,q,h1,h2,_⟩:=h;obtain ⟨a1,a2⟩:=ac7 (ae:=ae) (m:=m) hS hf.1 h1 (hv 0 t v rfl rfl);obtain ⟨b1,b2⟩:=Om hS hf.2 h2 (fun j t v h1 h2=>hv (j+1) t v h1 h2);simp only [nC,an,az,ye]
  grind
 | [],_::_,_,_,_,h,_=>by simp [DataW.TrodAll] at h
 | [],[],_::_,_,_,h,_=>by simp [DataW.TrodAll] at h
 | _::_,[],_,_,_,h,_=>by simp [DataW.TrodAll] at h
 | _::_,_::_,[],_,_,h,_=>by simp [DataW.TrodAll] at h
end
end
section
open Go
section
variable {H:Type} {enc:yj×yd->H} {P:yJ} {w w':yf} {held:Bool} {sp:Nat->Bool}
def Yb (hs:∀b,b<w.heap.size->w'.heap[b]? =w.heap[b]?) {a:vA} {u:yd} (h:w.cell? a=some u):w'.cell? a=some u:=by
 have hb:a.block<w.heap.size:=by
  unfold World.cell? at h
  cases hq:w.heap[a.block]? with
  | none=>simp [hq] at h
  | some o=>exact (y5.1 hq).1
 unfold World.cell? at h ⊢;rw [hs _ hb];exact h
def XF (hs:∀b,b<w.heap.size->w'.heap[b]? =w.heap[b]?) {base:Nat} {a:vA} {n:Nat} {us:List yd} (h:w.cells? base a n=some us):w'.cells? base a n=some us:=by
 unfold World.cells? at h ⊢
 split at h
 ·rename_i hb;rw [yS hb];exact mapM_carry h (fun x y _ _ hx=>Yb hs hx)
 ·cases h
def ac8 {a:vA} {n:Nat} (h:0<n):MemPlace.cell a.block (a.off+0)∈MemPlace.row a n:=by
 unfold MemPlace.row;exact List.mem_map.2 ⟨0,List.mem_range.2 h,rfl⟩
def MJ (hs:∀b,b<w.heap.size->w'.heap[b]? =w.heap[b]?):∀(n a7:Nat) (t:yj) (cs:List yd) (d:yY H) (ps:List xF),flat P n t=true->DataW.trod enc P w 0 (fun _=>true) held a7 t cs=some (d,ps)->
  (∀p,p∈ps->sp p.block=true)->DataW.trod enc P w' 0 sp held a7 t cs=some (d,ps)
 | 0,a7,t,cs,d,ps,hf,h,hp=>by simp [flat] at hf
 | n+1,0,t,cs,d,ps,hf,h,hp=>by simp [DataW.trod] at h
 | n+1,a7+1,t,cs,d,ps,hf,h,hp=>by
  have IH:=MJ hs n a7;have elem:∀{e:yj} {a:vA} {y:yY H×List xF},flat P n e=true->(w.cells? 0 a (P.cellsOf e)).bind (DataW.trod enc P w 0 (fun _=>true) held a7 e)=some y->(∀p,p∈y.2->sp p.block=true)->
    (w'.cells? 0 a (P.cellsOf e)).bind (DataW.trod enc P w' 0 sp held a7 e)=some y:=by
   intro e a y he h hq
   cases h1:w.cells? 0 a (P.cellsOf e) with
   | none=>simp [h1] at h
   | some us=>
    rw [h1] at h;rw [XF hs h1];simp only [xt] at h ⊢;obtain ⟨d,ps⟩:=y;exact IH e us d ps he h hq
  unfold DataW.trod at h ⊢;simp only [flat] at hf
  split at h
  ·exact h
  ·exact h
  ·exact h
  ·exact h
  ·rename_i hu;simp [hu] at hf
  ·rename_i hu;simp [hu] at hf
  ·exact h
  ·rename_i e a len cap hu;simp only [hu,ye] at hf;obtain ⟨f1,f2,f3⟩:=hf;have eZ:=nn.1 f2;simp only at h ⊢
   split at h
   case isFalse=>cases h
   rename_i hc;rw [yS hc];simp only [yR] at h
   cases h1:(yO len).mapM fun i=>(w.cells? 0 (a.add (i*P.cellsOf e)) (P.cellsOf e)).bind (DataW.trod enc P w 0 (fun _=>true) held a7 e) with
   | none=>rw [h1] at h;simp at h
   | some gF=>
    cases h2:(yO (cap-len)).mapM fun j=>(w.cells? 0 (a.add ((len+j)*P.cellsOf e)) (P.cellsOf e)).bind (DataW.trod enc P w 0 (fun _=>true) held a7 e) with
    | none=>rw [h1] at h;simp [h2] at h
    | some rest=>
     rw [h1] at h;simp only [xt,h2,xN,yb,yg] at h;obtain ⟨rfl,rfl⟩:=h;have k1:((yO len).mapM fun i=>(w'.cells? 0 (a.add (i*P.cellsOf e)) (P.cellsOf e)).bind (DataW.trod enc P w' 0 sp held a7 e))=some gF:=
      mapM_carry h1 (fun x y _ hy hx=>elem f3 hx (fun p hq=>hp p (wB _ (w9.2 ⟨y,vt _ hy,hq⟩))))
     have k2:((yO (cap-len)).mapM fun j=>(w'.cells? 0 (a.add ((len+j)*P.cellsOf e)) (P.cellsOf e)).bind (DataW.trod enc P w' 0 sp held a7 e))=some rest:=
      mapM_carry h2 (fun x y _ hy hx=>elem f3 hx (fun p hq=>hp p (wB _ (w9.2 ⟨y,wB _ hy,hq⟩))))
     have hr:(if sp a.block=true then (yO (cap-len)).mapM fun j=>(w'.cells? 0 (a.add ((len+j)*P.cellsOf e)) (P.cellsOf e)).bind (DataW.trod enc P w' 0 sp held a7 e) else some [])=some rest:=by
      by_cases pQ:sp a.block=true
      ·rw [yS pQ];exact k2
      ·rw [yE pQ];have h0:¬0<(gF.length+rest.length)*P.cellsOf e:=fun h0=>pQ (hp _ (vt _ (ac8 h0)))
       have hz:gF.length+rest.length=0:=by
        rcases xv (gF.length+rest.length) with h | h
        ·exact h
        ·exact (h0 (Nat.mul_pos h eZ)).elim
       have:rest=[]:=yB (by omega)
       rw [this]
     rw [k1];simp only [xt];rw [hr];rfl
  ·rename_i mO x1 CX fs hu;simp only [hu] at hf
   split at h
   case isFalse=>cases h
   rename_i hlen;rw [yS hlen]
   cases h1:fs.toList.mapM fun f=>DataW.trod enc P w 0 (fun _=>true) held a7 f.type ((mO.drop f.offset).take (P.cellsOf f.type)) with
   | none=>rw [h1] at h;simp at h
   | some xs=>
    rw [h1] at h;simp only [xN,yb,yg] at h;obtain ⟨rfl,rfl⟩:=h;have zP:∀(r:List vK) (o:Nat),sG P (fun u=>flat P n u) r o (P.cellsOf t)=true->∀f,f∈r->flat P n f.type=true:=by
     intro r
     induction r with
     | nil=>intro o _ f hm;cases hm
     | cons g r ih=>
      intro o hq f hm;simp only [sG,ye] at hq;rcases List.mem_cons.1 hm with rfl | hm
      ·exact hq.2.1
      ·exact ih _ hq.2.2 f hm
    have k1:(fs.toList.mapM fun f=>DataW.trod enc P w' 0 sp held a7 f.type ((mO.drop f.offset).take (P.cellsOf f.type)))=some xs:=
     mapM_carry h1 (fun f y hm hy hx=>IH _ _ y.1 y.2 (zP _ _ hf f hm) hx (fun p hq=>hp p (w9.2 ⟨y,hy,hq⟩)))
    rw [k1];rfl
  ·rename_i mO x1 CX k e hu;simp only [hu,ye] at hf
   split at h
   case isFalse=>cases h
   rename_i hlen;rw [yS hlen]
   cases h1:(yO k).mapM fun i=>DataW.trod enc P w 0 (fun _=>true) held a7 e ((mO.drop (i*P.cellsOf e)).take (P.cellsOf e)) with
   | none=>rw [h1] at h;simp at h
   | some xs=>
    rw [h1] at h;simp only [xN,yb,yg] at h;obtain ⟨rfl,rfl⟩:=h;have k1:((yO k).mapM fun i=>DataW.trod enc P w' 0 sp held a7 e ((mO.drop (i*P.cellsOf e)).take (P.cellsOf e)))=some xs:=
     mapM_carry h1 (fun i y _ hy hx=>IH _ _ y.1 y.2 hf.2 hx (fun p hq=>hp p (w9.2 ⟨y,hy,hq⟩)))
    rw [k1];rfl
  all_goals first
   | (cases h;done)
   | (simp_all;done)
def LL (hs:∀b,b<w.heap.size->w'.heap[b]? =w.heap[b]?) {n:Nat}:∀{ts:List yj} {vs:List yd} {ds:List (yY H)} {ps:List xF},ts.all (flat P n)=true->DataW.TrodAll enc P w 0 (fun _=>true) held ts vs ds ps->
  (∀p,p∈ps->sp p.block=true)->DataW.TrodAll enc P w' 0 sp held ts vs ds ps
 | [],[],[],ps,_,h,_=>by simpa only [DataW.TrodAll] using h
 | t::ts,v::vs,d::ds,ps,hf,h,hp=>by
  simp only [yaj,ye] at hf;obtain ⟨p,q,⟨a7,h1⟩,h2,rfl⟩:=h;exact ⟨p,q,⟨a7,MJ hs n a7 t _ d p hf.1 h1 (fun x hx=>hp x (vt _ hx))⟩,LL hs hf.2 h2 (fun x hx=>hp x (wB _ hx)),rfl⟩
 | [],_::_,_,_,_,h,_=>by simp [DataW.TrodAll] at h
 | [],[],_::_,_,_,h,_=>by simp [DataW.TrodAll] at h
 | _::_,[],_,_,_,h,_=>by simp [DataW.TrodAll] at h
 | _::_,_::_,[],_,_,h,_=>by simp [DataW.TrodAll] at h
end
end
section
open Go Go.ChangeShapes Go.WideShapes
section
variable {H:Type} {enc:yj×yd->H} {P:yJ} {W W':yf}
def Zi (hc:Calm W W') (may:xF->Prop):W.keptBut W' may:=by
 refine ⟨hc.os,hc.output,fun i hi=>?_⟩;rw [hc.same i hi]
 cases hq:W.heap[i]? with
 | none=>rfl
 | some o=>cases o<;>simp
def XG (hc:Calm W W') {b off:Nat} (hb:b<W.heap.size):W'.frozen? ⟨b,off,none⟩=W.frozen? ⟨b,off,none⟩:=by
 unfold World.frozen?;simp only;rw [hc.same b hb]
def aa6 {fn:Func} {s:yaJ} {apart fresh handsOn again:Bool} {args:Array yd} {ds gs:List (yY H)} {before:List xF} {n:Nat} {tb:yj}
  (hW:DataW.Whole enc P fn.params.toList s.vars apart W args.toList ds gs before) (hv:s.vars=[]) (ET:fn.params.toList.all (flat P n)=true) (hc:Calm W W')
  (r8:s.fn H (ds++gs)={results:=[.lit (.bool true)],args:=ds}) (zF:fn.resultTypes=#[tb]) (iP:P.underlying tb=some .bool):
  s.post enc P fn apart fresh handsOn again W args (.bool true) W':=by
 have aV:=hW.lt;have hW0:=hW;obtain ⟨p,q,hA,hV,hpq,hz,hn⟩:=hW;rw [hv] at hV;have hq:gs=[]/\q=[]:=by
  cases gs with
  | nil=>exact ⟨rfl,by simpa only [DataW.TrodVars] using hV⟩
  | cons g gs=>simp [DataW.TrodVars] at hV
 obtain ⟨rfl,rfl⟩:=hq;have hbp:before=p:=by rw [hpq];simp
 subst hbp;have fM:∀sp:Nat->Bool,(∀p∈before,sp p.block=true)->DataW.TrodAll enc P W' 0 sp true fn.params.toList args.toList ds before:=fun sp h=>LL hc.same ET hA h
 have SL:∀(b:Nat) (sp:Nat->Bool) (hd:Bool),DataW.TrodAll enc P W' b sp hd fn.resultTypes.toList ((Value.bool true).resultList fn.resultTypes.size) [.lit (.bool true)] []:=by
  intro b sp hd;rw [zF];refine ⟨[],[],⟨1,?_⟩,rfl,rfl⟩;simp [DataW.trod,iP,Value.cells]
 have hold:∀p∈before,(fun b=>decide (b<W.heap.size)) p.block=true:=fun p hp=>by simpa using aV p hp
 have SM:∀sp:Nat->Bool,DataW.TrodVars enc P W' sp s.vars ([]:List (yY H)) []:=fun sp=>by rw [hv];rfl
 refine ⟨ds,[],before,[],before,[],hW0,by rw [r8];exact SL _ _ _,by rw [r8];exact fM _ hold,by rw [r8];exact SM _,Zi hc _,fun _=>?_⟩
 refine ⟨?_,[.lit (.bool true)]++ds,[],[]++before++[],⟨[]++before,[],trodAll_append (fM _ (fun _ _=>rfl)) (SL _ _ _),SM _,rfl,?_,?_⟩,?_⟩
 ·intro j t r h1 h2;rw [zF] at h1 h2
  cases j with
  | zero=>
   simp only [List.getElem?_toArray,wA,yb] at h1;simp only [Value.resultList,List.size_toArray,yx,yZ,yR,yp,wA,yb] at h2;subst h1;subst h2;simp [Value.okWide,iP,Cell.okWide,Cell.ok]
  | succ j=>simp at h1
 ·intro b off hp;have hp:MemPlace.cell b off∈before:=by simpa using hp
  rw [XG hc (b:=b) (aV _ hp)];exact hz b off hp
 ·intro ha
  have:=hn ha
  simpa using this
 ·intro p hp _;simpa using hp
def Zj {O:a8} {n k:Nat} {fn:Func} {s:yaJ} {apart fresh handsOn again:Bool} {base:Nat} {args:Array yd} {ds gs:List (yY H)} {before:List xF} {tb:yj}
  (hp:dQ O n (nC O.P k fn.params.toList ds) (.bool true)) (VX:O.w0=W) (r8:O.P.funcs[O.ae n]? =some fn) (hb:fn.body.isSome=true) (zS:fn.name≠ "runtime.NumGoroutine")
  (bi:∀(j:Nat) t v,fn.params[j]? =some t->args[j]? =some v->Value.okWide O.P W .any base t v)
  (hW:DataW.Whole enc O.P fn.params.toList s.vars apart W args.toList ds gs before) (hv:s.vars=[]) (ET:fn.params.toList.all (flat O.P k)=true)
  (hfs:s.fn H (ds++gs)={results:=[.lit (.bool true)],args:=ds}) (zF:fn.resultTypes=#[tb]) (iP:O.P.underlying tb=some .bool):
  Calls O.P (O.ae n) args W fun e W'=>∃v,e= .returned v/\s.post enc O.P fn apart fresh handsOn again W args v W':=by
 have hA:=hW;obtain ⟨p,q,hA,_⟩:=hA;obtain ⟨h1,h2⟩:=Om (ae:=O.ae) (m:=dJ) (S:=fun b=>b<W.heap.size) (fun b hb=>hb) ET hA (fun j t v a b=>bi j t v (by simpa using a) (by simpa using b));have hi:=hp W (fun b=>b<W.heap.size) args ⟨fun b _=>by rw [VX],by rw [VX];exact yC _⟩ (fun b hb=>hb) h1 h2
 have key:∀e W',N6 O W (fun b=>b<W.heap.size) (.bool true) e W'->∃v,e= .returned v/\s.post enc O.P fn apart fresh handsOn again W args v W':=by
  rintro e W' ⟨u,S',rfl,hc,_,_,_,hr⟩;simp only [jQ,fo,af] at hr;obtain ⟨_,_,hu,_⟩:=hr;subst hu;exact ⟨_,rfl,aa6 hW hv ET hc hfs zF iP⟩
 rcases hi with ⟨_,hi⟩ | ⟨u,w',hi,_⟩
 ·exact callsIn_wide.1 (hi.mono key)
 ·rw [H5 r8 hb zS] at hi;cases hi
end
end
section
namespace J1
open Go Go.Proofs
noncomputable def O (W:yf):a8:=⟨Tryz.prog,VE.aK,nR mR.ae,VE.prog,ES mR.bH mR.hd,W⟩
def NC {w:yf} {k:Nat} {os:Array Go.Obj}:Calm w (Go.Sort.grow (w.drewN k) os):=Dz (Lib.below_grow w.heap.size w (yC _) k os)
def On {W w:yf} (h:Lib.TabIs Tryz.prog W "internal/strconv.uint64pow10" .u64 Lib.pow10Tab) (hg:oS (O W) w):Lib.TabIs Tryz.prog w "internal/strconv.uint64pow10" .u64 Lib.pow10Tab:=by
 unfold Lib.TabIs World.var? at h ⊢
 cases hn:Tryz.prog.globalNamed "internal/strconv.uint64pow10" with
 | none=>rw [hn] at h;exact h
 | some g=>
  rw [hn] at h;simp only [xt] at h ⊢;have hb:g<W.heap.size:=by
   cases hq:W.heap[g]? with
   | none=>rw [hq] at h;cases h
   | some o=>exact (y5.1 hq).1
  rw [hg.1 g hb];exact h
def ajs:∀args w,(callFunc 208 args).run Tryz.prog w= .ok (.enter 208 args) w:=enters_of Tryz.func208 (by kernel_rfl) rfl
def ajt:∀args w,(callFunc 217 args).run Tryz.prog w= .ok (.enter 217 args) w:=enters_of Tryz.func217 (by kernel_rfl) rfl
def aju:∀args w,(callFunc 229 args).run Tryz.prog w= .ok (.enter 229 args) w:=enters_of Tryz.func229 (by kernel_rfl) rfl
def ajv:∀args w,(callFunc 232 args).run Tryz.prog w= .ok (.enter 232 args) w:=enters_of Tryz.func232 (by kernel_rfl) rfl
def ajw:∀args w,(callFunc 233 args).run Tryz.prog w= .ok (.enter 233 args) w:=enters_of Tryz.func233 (by kernel_rfl) rfl
def ajx:∀args w,(callFunc 239 args).run Tryz.prog w= .ok (.enter 239 args) w:=enters_of Tryz.func239 (by kernel_rfl) rfl
def ajy:∀args w,(callFunc 252 args).run Tryz.prog w= .ok (.enter 252 args) w:=enters_of Tryz.func252 (by kernel_rfl) rfl
def ajz:∀args w,(callFunc 253 args).run Tryz.prog w= .ok (.enter 253 args) w:=enters_of Tryz.func253 (by kernel_rfl) rfl
def ajA:∀args w,(callFunc 254 args).run Tryz.prog w= .ok (.enter 254 args) w:=enters_of Tryz.func254 (by kernel_rfl) rfl
def ajB:∀args w,(callFunc 261 args).run Tryz.prog w= .ok (.enter 261 args) w:=enters_of Tryz.func261 (by kernel_rfl) rfl
def ajC:∀args w,(callFunc 270 args).run Tryz.prog w= .ok (.enter 270 args) w:=enters_of Tryz.func270 (by kernel_rfl) rfl
def ajD:∀args w,(callFunc 296 args).run Tryz.prog w= .ok (.enter 296 args) w:=enters_of Tryz.func296 (by kernel_rfl) rfl
def ah0 (W:yf) (n:Nat) (sp:List AV->Option AV):Prop:=∀ap r,sp ap=some r->dQ (O W) n ap r
section
variable {W:yf} {m:Int} (hm:W.cell? ⟨2,0,none⟩=some (.int .i64 m)) (ht:Lib.TabIs Tryz.prog W "internal/strconv.uint64pow10" .u64 Lib.pow10Tab)
include hm ht
def afz:Uo.iO (ah0 W):=
 (Tr.iq (W7 (O:=O W) (f:=253) (by rfl) ajz Tryz.strings_TrimPrefix)
  (Tr.iq (W8 (O:=O W) (f:=232) (by rfl) ajv (fun z w hz hg=>(Tryz.W2 z hz w (On ht hg)).mono fun _ _ ⟨h1,k,os,h2⟩=>⟨h1,h2▸NC⟩))
  (Tr.iq (Xb (O:=O W) (f:=217) (by rfl) ajt Tryz.strings_CutPrefix)
  (Tr.iq (acT (O:=O W) (f:=208) (by rfl) ajs (a:=⟨2,0,none⟩) (m:=m) hm (fun s sep w hs hc=>Tryz.strings_Cut s sep m w hs hc))
  Tr.gE Tr.gE) (Tr.iq (aaV (O:=O W) (f:=229) (by rfl) aju (fun z w h0 h1 hg=>(Tryz.strconv_Itoa z h0 h1 w (On ht hg)).mono fun _ _ ⟨h1,k,os,h2⟩=>⟨h1,h2▸NC⟩))
  Tr.gE Tr.gE)) (Tr.iq (Y9 (O:=O W) (f:=239) (by rfl) ajx (fun x y w hx hy=>Tryz.bits_Mul64 x y hx hy w))
  (Tr.iq (X9 (O:=O W) (f:=233) (by rfl) ajw Tryz.strings_Repeat)
  Tr.gE Tr.gE) (Tr.iq (Xc (O:=O W) (f:=252) (by rfl) ajy Tryz.strings_HasPrefix)
  Tr.gE Tr.gE))) (Tr.iq (Zb (O:=O W) (f:=278) (by rfl) (fun x y c w h=>Tryz.bits_Add64 x y c h w))
  (Tr.iq (aaU (O:=O W) (f:=261) (by rfl) ajB (fun s cs w hs pC ha=>Tryz.Xn s cs w hs pC ha))
  (Tr.iq (aaW (O:=O W) (f:=254) (by rfl) ajA (fun s z w hl h=>(Tryz.strconv_Atoi s z hl h w).mono fun _ _ ⟨h1,t,h2⟩=>⟨h1,h2▸Dz (Lib.bytesWorld_below _ _ _)⟩))
  Tr.gE Tr.gE) (Tr.iq (aaX (O:=O W) (f:=270) (by rfl) ajC (fun x w h0 h1=>Tryz.bits_LeadingZeros64 x w h0 h1))
  Tr.gE Tr.gE)) (Tr.iq (Za (O:=O W) (f:=296) (by rfl) ajD (fun x w h0 h1=>Tryz.bits_Len64 x w h0 h1))
  (Tr.iq (Zc (O:=O W) (f:=288) (by rfl) (fun x y b w h=>Tryz.bits_Sub64 x y b h w))
  Tr.gE Tr.gE) Tr.gE)))
def ac9:ek (O W) where
 hint n f g h:=Tr.qu (p:=fun f g=>nR mR.ae g=f) (Hf mR.afq) h
 mixed:=by kernel_rfl
 prog n F h:=Tr.qu mR.ac5 h
 aK n sp ap r h hs:=Tr.qu (afz hm ht) h ap r hs
 E9 n sp hp ct ap v ai aO h:=by cases h
end
end J1
end
section
section
variable {P:aF} {L:Lib} {f:b9} {F:Nat->b9}
def pT (f:b9) (F:Nat->b9):Prop:=∀c s r,f c s=some r->∃n,F n c s=some r
def Mon (F:Nat->b9):Prop:=∀n m,n<=m->Le (F n) (F m)
def Dj (h:pT f F) (n:Nat) (ap:List AV) (r:AV) (hr:b5 P L f n ap=some r):∃k,b5 P L (F k) n ap=some r:=by
 unfold b5 at hr ⊢
 cases hL:L.pure n with
 | some sp=>exact ⟨0,by simpa only [hL] using hr⟩
 | none=>
  simp only [hL] at hr ⊢
  cases hP:P n with
  | none=>simp [hP] at hr
  | some G=>
   simp only [hP] at hr ⊢
   cases hf:f G.body ⟨eV 0 ap,[],0,0⟩ with
   | none=>simp [hf] at hr
   | some q=>
    obtain ⟨k,hk⟩:=h _ _ _ hf
    grind
def Hg (h:pT f F) (hp:Hp) (ct:Nat) (n:Nat) (ap:List AV) (r:AV×Hp×Nat) (hr:fK P L f hp ct n ap=some r):∃k,fK P L (F k) hp ct n ap=some r:=by
 unfold fK at hr ⊢
 cases hL:L.heap n with
 | some sp=>exact ⟨0,by simpa only [hL] using hr⟩
 | none=>
  simp only [hL] at hr ⊢
  cases hP:P n with
  | none=>simp [hP] at hr
  | some G=>
   simp only [hP] at hr ⊢
   cases hf:f G.body ⟨eV 0 ap,hp,ct,ct⟩ with
   | none=>simp [hf] at hr
   | some q=>
    obtain ⟨k,hk⟩:=h _ _ _ hf
    grind
def Mc (h:pT f F) (hm:Mon F) (hp:Hp) (ct:Nat) (l:Nat) (xs:List AV) (r:AV×Hp×Nat) (hr:fV f hp ct l xs=some r):∃k,fV (F k) hp ct l xs=some r:=by
 have key:∃k,∀g,Le (F k) g->fV g hp ct l xs=some r:=by
  unfold fV at hr
  cases hl:ak hp l with
  | none=>simp [hl] at hr
  | some o=>
   split at hr
   ·rename_i tm ps as_ body pe n9
    cases hb:lm tm ps xs with
    | none=>simp [hb] at hr
    | some tm'=>
     simp only [hb] at hr
     cases h1:f as_ ⟨tm',hp,ct,ct⟩ with
     | none=>simp [h1] at hr
     | some q=>
      obtain ⟨k1,jY⟩:=h _ _ _ h1
      split at hr
      ·rename_i s1 JN
       split at hr
       ·rename_i lJ mG rN qU kO Tt
        cases h2:f body ⟨s1.tm,aY s1.hp l (.lp lJ mG rN qU 1 kO),s1.ct,s1.ct⟩ with
        | none=>simp [h2] at hr
        | some q2=>
         obtain ⟨k2,nY⟩:=h _ _ _ h2;refine ⟨max k1 k2,fun g hg=>?_⟩;have e1:=hg _ _ _ (hm k1 _ (wN k1 k2) _ _ _ jY);have e2:=hg _ _ _ (hm k2 _ (wD k1 k2) _ _ _ nY);unfold fV
         grind
       ·simp at hr
      ·simp at hr
   ·simp at hr
 obtain ⟨k,hk⟩:=key;exact ⟨k,hk _ (fun _ _ _ h=>h)⟩
def MK (h:pT f F) (hm:Mon F) (hp:Hp) (ct:Nat) (m:Md) (fv:AV) (xs:List AV) (r:AV×Hp×Nat) (hr:cK P L f hp ct m fv xs=some r):∃k,cK P L (F k) hp ct m fv xs=some r:=by
 unfold cK at hr ⊢
 split at hr
 ·rename_i n first cap
  cases m with
  | pure=>
   cases hz:bS deep hp (first++(xs++cap)) with
   | none=>simp [hz] at hr
   | some q=>
    simp only [hz] at hr ⊢
    cases hc:b5 P L f n q.1 with
    | none=>simp [hc] at hr
    | some u=>
     obtain ⟨k,hk⟩:=Dj h n q.1 u hc
     grind
  | own=>
   cases hz:bS deep hp (first++(xs++cap)) with
   | none=>simp [hz] at hr
   | some q=>
    simp only [hz] at hr ⊢
    cases hc:b5 P L f n q.1 with
    | none=>simp [hc] at hr
    | some u=>
     obtain ⟨k,hk⟩:=Dj h n q.1 u hc
     grind
  | heap=>exact Hg h _ _ _ _ _ hr
  | dyn=>
   cases hz:az (first++(xs++cap)) with
   | true=>
    simp only [hz,yi] at hr ⊢
    cases hc:b5 P L f n (first++(xs++cap)) with
    | none=>simp [hc] at hr
    | some u=>
     obtain ⟨k,hk⟩:=Dj h n _ u hc
     grind
   | false=>
    simp only [hz,yr] at hr ⊢;exact Hg h _ _ _ _ _ hr
 ·split at hr
  ·exact Mc h hm _ _ _ _ _ hr
  ·exact Mc h hm _ _ _ _ _ hr
  ·simp at hr
 ·simp at hr
def aa7 (h:pT f F) (hm:Mon F) (tm:Env) (hp:Hp) (ct:Nat) (o:Op) (r:AV×Hp×Nat) (hr:aZ P L f tm hp ct o=some r):∃k,aZ P L (F k) tm hp ct o=some r:=by
 unfold aZ at hr ⊢
 split at hr
 ·exact MK h hm _ _ _ _ _ _ hr
 ·rename_i rs fv xs
  cases hc:cK P L f hp ct .dyn (aq tm fv) (cA tm xs) with
  | none=>simp [hc] at hr
  | some q=>
   obtain ⟨k,hk⟩:=MK h hm _ _ _ _ _ _ hc
   grind
 all_goals exact ⟨0,by simpa only using hr⟩
def HG (h:pT f F) (hm:Mon F):∀(ops:List aU) (s s':St),cM P L f ops s=some s'->∃k,cM P L (F k) ops s=some s'
 | [],s,s',hr=>⟨0,by simpa only [cM] using hr⟩
 | ⟨d,gd,o⟩::r,s,s',hr=>by
  simp only [cM] at hr ⊢
  split at hr
  ·rename_i hw
   cases ho:aZ P L f s.tm s.hp s.ct o with
   | none=>simp [ho] at hr
   | some q=>
    obtain ⟨k1,jY⟩:=aa7 h hm _ _ _ _ _ ho;simp only [ho] at hr;obtain ⟨k2,nY⟩:=HG h hm r _ _ hr;refine ⟨max k1 k2,?_⟩;rw [Nw (hm k1 _ (wN k1 k2)) _ _ _ _ _ jY];exact Dw (hm k2 _ (wD k1 k2)) r _ _ nY
  ·rename_i hw;exact HG h hm r _ _ hr
  ·simp at hr
def qd (h:pT f F) (hm:Mon F):∀(c:VC) (s:St) (r:Ex×St),bj P L f c s=some r->∃k,bj P L (F k) c s=some r
 | .skip,s,r,hr=>⟨0,by simpa only [bj] using hr⟩
 | .aG ops,s,r,hr=>by
  simp only [bj] at hr ⊢
  cases ho:cM P L f ops s with
  | none=>simp [ho] at hr
  | some s'=>
   obtain ⟨k,hk⟩:=HG h hm _ _ _ ho
   grind
 | .seq a b,s,r,hr=>by
  simp only [bj] at hr ⊢
  cases ha:bj P L f a s with
  | none=>simp [ha] at hr
  | some q=>
   obtain ⟨k1,jY⟩:=qd h hm a s q ha;obtain ⟨ex,s1⟩:=q
   cases ex with
   | normal=>
    simp only [ha] at hr;obtain ⟨k2,nY⟩:=qd h hm b s1 r hr;refine ⟨max k1 k2,?_⟩;rw [kY (hm k1 _ (wN k1 k2)) a s _ jY];exact kY (hm k2 _ (wD k1 k2)) b s1 r nY
   | ret=>exact ⟨k1,by rw [jY];simpa only [ha] using hr⟩
   | exit id=>exact ⟨k1,by rw [jY];simpa only [ha] using hr⟩
 | .cond x a b,s,r,hr=>by
  simp only [bj] at hr ⊢
  split at hr
  ·rename_i t ht
   cases t with
   | true=>simp only [yi] at hr ⊢;exact qd h hm a s r hr
   | false=>simp only [yr] at hr ⊢;exact qd h hm b s r hr
  ·simp at hr
 | .aC id a,s,r,hr=>by
  simp only [bj] at hr ⊢
  cases ha:bj P L f a s with
  | none=>simp [ha] at hr
  | some q=>
   obtain ⟨k,hk⟩:=qd h hm a s q ha
   grind
 | .kp live,s,r,hr=>⟨0,by simpa only [bj] using hr⟩
 | .fz ts,s,r,hr=>⟨0,by simpa only [bj] using hr⟩
 | .loop live a,s,r,hr=>by
  simp only [bj] at hr ⊢
  cases ha:bj P L f a (bA live s) with
  | none=>simp [ha] at hr
  | some q=>
   obtain ⟨k1,jY⟩:=qd h hm a _ q ha;obtain ⟨ex,s1⟩:=q
   cases ex with
   | normal=>
    simp only [ha] at hr;obtain ⟨k2,nY⟩:=h _ _ _ hr;refine ⟨max k1 k2,?_⟩;rw [kY (hm k1 _ (wN k1 k2)) a _ _ jY];exact hm k2 _ (wD k1 k2) _ _ _ nY
   | ret=>exact ⟨k1,by rw [jY];simpa only [ha] using hr⟩
   | exit id=>exact ⟨k1,by rw [jY];simpa only [ha] using hr⟩
 | .rf fv ps as_ body,s,r,hr=>by
  simp only [bj] at hr ⊢
  split at hr
  ·rename_i n first cap hx
   split at hr
   ·grind
   ·rename_i hL
    cases hc:fK P L f ((s.ct,.lp s.tm ps as_ body 0 .none)::s.hp) (s.ct+1) n (first++(.fn (.y s.ct) [] []::cap)) with
    | none=>simp [hc] at hr
    | some q=>
     obtain ⟨k,hk⟩:=Hg h _ _ _ _ _ hc
     grind
  ·simp at hr
 | .exit id,s,r,hr=>⟨0,by simpa only [bj] using hr⟩
 | .ret,s,r,hr=>⟨0,by simpa only [bj] using hr⟩
end
section
variable (P:aF) (L:Lib)
noncomputable def D:b9:=fun c s=>@dite _ (∃r n,ev P L n c s=some r) (Classical.propDecidable _) (fun h=>some h.choose) (fun _=>none)
variable {P L}
def Up {c:VC} {s:St} {r:Ex×St} {n:Nat} (h:ev P L n c s=some r):D P L c s=some r:=by
 have hx:∃r n,ev P L n c s=some r:=⟨r,n,h⟩;unfold D;obtain ⟨m,hm⟩:=hx.choose_spec;have e1:=IB P L (wN n m) _ _ _ h;have e2:=IB P L (wD n m) _ _ _ hm
 grind
def Uq {c:VC} {s:St} {r:Ex×St} (h:D P L c s=some r):∃n,ev P L n c s=some r:=by
 unfold D at h;by_cases hx:∃r n,ev P L n c s=some r
 ·grind
 ·grind
def ajE (n:Nat):Le (ev P L n) (D P L):=fun _ _ _ h=>Up h
def SN:pT (D P L) (ev P L):=fun _ _ _ h=>Uq h
def afA:Mon (ev P L):=fun _ _ h=>IB P L h
def ix (c:VC) (s:St):D P L c s=bj P L (D P L) c s:=by
 cases h:D P L c s with
 | some r=>
  obtain ⟨n,hn⟩:=Uq h
  cases n with
  | zero=>rw [Ee] at hn;cases hn
  | succ n=>rw [A3] at hn;exact (kY (ajE n) c s r hn).symm
 | none=>
  cases hs:bj P L (D P L) c s with
  | none=>rfl
  | some r=>
   obtain ⟨n,hn⟩:=qd SN afA c s r hs;rw [<-A3] at hn;rw [Up hn] at h;cases h
def afB {f:Nat} {ap:List AV} {r:AV} (h:b5 P L (D P L) f ap=some r):∃n,Kl P L n f ap=some r:=Dj SN f ap r h
end
end
section
open Go (IntKind BinOp UnOp)
section
variable {P:aF} {L:Lib}
structure Has (P:aF) (L:Lib) (n:Nat) (F:ax):Prop where
 pure:L.pure n=none
 heap:L.heap n=none
 code:P n=some F
noncomputable def q8 (P:aF) (L:Lib) (r:Option (Ex×St)) (b:VC):Option (Ex×St):=match r with | some (.normal,s)=>D P L b s | r=>r
def oU (id:Nat) (r:Option (Ex×St)):Option (Ex×St):=match r with | some (.exit j,s)=>bif yk j id then some (.normal,s) else some (.exit j,s) | r=>r
noncomputable def BN (P:aF) (L:Lib) (live:List Nat) (a:VC) (r:Option (Ex×St)):Option (Ex×St):=match r with | some (.normal,s)=>D P L (.loop live a) s | r=>r
def norm (r:Option St):Option (Ex×St):=match r with | some s=>some (.normal,s) | none=>none
noncomputable def EU (P:aF) (L:Lib) (v:AV) (a b:VC) (s:St):Option (Ex×St):=match v with | .bool t=>bif t then D P L a s else D P L b s | _=>none
def afC (s:St):D P L .skip s=some (.normal,s):=by rw [ix];rfl
def afD (id:Nat) (s:St):D P L (.exit id) s=some (.exit id,s):=by rw [ix];rfl
def ah1 (s:St):D P L .ret s=some (.ret,s):=by rw [ix];rfl
def JS (live:List Nat) (s:St):D P L (.kp live) s=some (.normal,bA live s):=by rw [ix];rfl
def ajF (ts:List Nat) (s:St):D P L (.fz ts) s=norm (kC ts s):=by rw [ix];rfl
def Jl (ops:List aU) (s:St):D P L (.aG ops) s=norm (cM P L (D P L) ops s):=by rw [ix];rfl
def mu (a b:VC) (s:St):D P L (.seq a b) s=q8 P L (D P L a s) b:=by
 rw [ix,ix a];simp only [bj,q8]
 cases bj P L (D P L) a s with
 | none=>rfl
 | some q=>
  obtain ⟨e,s1⟩:=q
  cases e with
  | normal=>exact (ix b s1).symm
  | ret=>rfl
  | exit id=>rfl
def afE (x:X) (a b:VC) (s:St):D P L (.cond x a b) s=EU P L (aq s.tm x) a b s:=by
 rw [ix];simp only [bj,EU]
 cases aq s.tm x with
 | bool t=>
  cases t with
  | true=>exact (ix a s).symm
  | false=>exact (ix b s).symm
 | _=>rfl
def Jm (id:Nat) (a:VC) (s:St):D P L (.aC id a) s=oU id (D P L a s):=by
 rw [ix,ix a];simp only [bj,oU]
 cases bj P L (D P L) a s with
 | none=>rfl
 | some q=>obtain ⟨e,s1⟩:=q;cases e<;>rfl
def I3 (live:List Nat) (a:VC) (s:St):D P L (.loop live a) s=BN P L live a (D P L a (bA live s)):=by
 rw [ix,ix a];simp only [bj,BN]
 cases bj P L (D P L) a (bA live s) with
 | none=>rfl
 | some q=>obtain ⟨e,s1⟩:=q;cases e<;>rfl
def ku (s:St) (b:VC):q8 P L (some (.normal,s)) b=D P L b s:=rfl
def ada (s:St) (b:VC):q8 P L (some (.ret,s)) b=some (.ret,s):=rfl
def adb (id:Nat) (s:St) (b:VC):q8 P L (some (.exit id,s)) b=some (.exit id,s):=rfl
def Pu (live:List Nat) (a:VC) (s:St):BN P L live a (some (.normal,s))=D P L (.loop live a) s:=rfl
def ade (live:List Nat) (a:VC) (s:St):BN P L live a (some (.ret,s))=some (.ret,s):=rfl
def adf (live:List Nat) (a:VC) (id:Nat) (s:St):BN P L live a (some (.exit id,s))=some (.exit id,s):=rfl
def ID (id:Nat) (s:St):oU id (some (.normal,s))=some (.normal,s):=rfl
def adg (id:Nat) (s:St):oU id (some (.ret,s))=some (.ret,s):=rfl
def IE (id:Nat) (s:St):oU id (some (.exit id,s))=some (.normal,s):=by simp only [oU,y9,yi]
def adh {id j:Nat} (s:St) (h:j≠id):oU id (some (.exit j,s))=some (.exit j,s):=by
 have:yk j id=false:=by
  cases hq:yk j id with
  | false=>rfl
  | true=>exact absurd (yh hq) h
 simp only [oU,this,yr]
def QZ (s:St):norm (some s)=some (.normal,s):=rfl
def afF:norm none=none:=rfl
def adi (a b:VC) (s:St):EU P L (.bool true) a b s=D P L a s:=rfl
def adj (a b:VC) (s:St):EU P L (.bool false) a b s=D P L b s:=rfl
noncomputable def Jn (P:aF) (L:Lib) (d:Option Nat) (r:List aU) (tm:Env) (base:Nat) (q:eF):Option St:=
 match q with | some (v,hp,ct)=>cM P L (D P L) r ⟨put d v tm,hp,ct,base⟩ | none=>none
noncomputable def qO (P:aF) (L:Lib) (v:AV) (b:Bool) (d:Option Nat) (o:Op) (r:List aU) (s:St):Option St:=
 match v with
 | .bool c=>bif c==b then cM P L (D P L) (⟨d,none,o⟩::r) s else cM P L (D P L) r ⟨put d (.aw []) s.tm,s.hp,s.ct,s.base⟩
 | .aw []=>cM P L (D P L) r ⟨put d (.aw []) s.tm,s.hp,s.ct,s.base⟩
 | _=>none
def Pv (s:St):cM P L (D P L) [] s=some s:=rfl
def aa8 (d:Option Nat) (o:Op) (r:List aU) (tm:Env) (hp:Hp) (ct base:Nat):
  cM P L (D P L) (⟨d,none,o⟩::r) ⟨tm,hp,ct,base⟩=Jn P L d r tm base (aZ P L (D P L) tm hp ct o):=by
 simp only [cM,Jn]
 grind
def Zk (d:Option Nat) (t:Nat) (b:Bool) (o:Op) (r:List aU) (tm:Env) (hp:Hp) (ct base:Nat):
  cM P L (D P L) (⟨d,some (t,b),o⟩::r) ⟨tm,hp,ct,base⟩=qO P L (ah tm t) b d o r ⟨tm,hp,ct,base⟩:=by
 simp only [cM,qO]
 cases ah tm t with
 | bool c=>
  simp only
  cases hc:(c==b) with
  | true=>simp only [yi]
  | false=>simp only [yr]
 | aw vs=>cases vs<;>rfl
 | _=>rfl
def Pw (d:Option Nat) (r:List aU) (tm:Env) (base:Nat) (v:AV) (hp:Hp) (ct:Nat):Jn P L d r tm base (some (v,hp,ct))=cM P L (D P L) r ⟨put d v tm,hp,ct,base⟩:=rfl
def ah2 (i:Nat) (v:AV) (tm:Env):put (some i) v tm=(i,v)::tm:=rfl
def SO (v:AV) (tm:Env):put none v tm=tm:=rfl
def aa9 (d:Option Nat) (o:Op) (r:List aU) (s:St):qO P L (.bool true) true d o r s=cM P L (D P L) (⟨d,none,o⟩::r) s:=rfl
def aba (d:Option Nat) (o:Op) (r:List aU) (s:St):qO P L (.bool false) false d o r s=cM P L (D P L) (⟨d,none,o⟩::r) s:=rfl
def abb (d:Option Nat) (o:Op) (r:List aU) (tm:Env) (hp:Hp) (ct base:Nat):qO P L (.bool true) false d o r ⟨tm,hp,ct,base⟩=cM P L (D P L) r ⟨put d (.aw []) tm,hp,ct,base⟩:=rfl
def abc (d:Option Nat) (o:Op) (r:List aU) (tm:Env) (hp:Hp) (ct base:Nat):qO P L (.bool false) true d o r ⟨tm,hp,ct,base⟩=cM P L (D P L) r ⟨put d (.aw []) tm,hp,ct,base⟩:=rfl
def adk (b:Bool) (d:Option Nat) (o:Op) (r:List aU) (tm:Env) (hp:Hp) (ct base:Nat):qO P L (.aw []) b d o r ⟨tm,hp,ct,base⟩=cM P L (D P L) r ⟨put d (.aw []) tm,hp,ct,base⟩:=rfl
def cD {j i:Nat} (h:j≠i):yk j i=false:=by
 cases hq:yk j i with
 | false=>rfl
 | true=>exact absurd (yh hq) h
def afG (tm:Env) (i:Nat):aq tm (.t i)=ah tm i:=rfl
def afH (tm:Env) (v:AV):aq tm (.c v)=v:=rfl
def Zl (tm:Env):cA tm []=[]:=rfl
def Yc (tm:Env) (x:X) (r:List X):cA tm (x::r)=aq tm x::cA tm r:=rfl
def abd (i:Nat) (v:AV) (r:Env):ah ((i,v)::r) i=v:=by simp only [ah,y9,yi]
def Zm {j i:Nat} (v:AV) (r:Env) (h:j≠i):ah ((j,v)::r) i=ah r i:=by simp only [ah,cD h,yr]
def Ib (i:Nat) (o:Obj) (r:Hp):ak ((i,o)::r) i=some o:=by simp only [ak,y9,yi]
def Zn {j i:Nat} (o:Obj) (r:Hp) (h:j≠i):ak ((j,o)::r) i=ak r i:=by simp only [ak,cD h,yr]
def Oo (i:Nat) (o u:Obj) (r:Hp):aY ((i,o)::r) i u=(i,u)::r:=by simp only [aY,y9,yi]
def Zo {j i:Nat} (o u:Obj) (r:Hp) (h:j≠i):aY ((j,o)::r) i u=(j,o)::aY r i u:=by simp only [aY,cD h,yr]
def abe (i:Nat):cw [] i=[]:=rfl
def abf (i:Nat) (o:Obj) (r:Hp):cw ((i,o)::r) i=cw r i:=by simp only [cw,y9,yi]
def Zp {j i:Nat} (o:Obj) (r:Hp) (h:j≠i):cw ((j,o)::r) i=(j,o)::cw r i:=by simp only [cw,cD h,yr]
def rd (hp:Hp) (ct:Nat) (q:Option AV):eF:=match q with | some v=>some (v,hp,ct) | none=>none
def mk (hp:Hp) (ct:Nat) (q:Option (AV×Obj)):eF:=match q with | some (v,b)=>some (v,(ct,b)::hp,ct+1) | none=>none
def ajG (hp:Hp) (ct:Nat) (v:AV):rd hp ct (some v)=some (v,hp,ct):=rfl
def ajH (hp:Hp) (ct:Nat) (v:AV) (b:Obj):mk hp ct (some (v,b))=some (v,(ct,b)::hp,ct+1):=rfl
def Jo (c a b:AV):Option AV:=match c with | .bool t=>some (bif t then a else b) | _=>none
def CY (k:Nat->Option AV) (n:Option Nat):Option AV:=match n with | some i=>k i | none=>none
def SP (r:Option (List AV)):Option AV:=match r with | some cs=>some (.agg cs) | none=>none
def Fy (ne:Bool) (r:Option Bool):Option AV:=match r with | some b=>some (.bool (ne !=b)) | none=>none
def ajI:AV->Option AV
 | .ptr id o=>some (.ptr id o)
 | .ay cs=>some (.ay cs)
 | .fn f a b=>some (.fn f a b)
 | _=>none
def Cg (i:Nat):AV->Option AV | .aw vs=>vs[i]? | _=>none
section
variable {f:b9} {tm:Env} {hp:Hp} {ct:Nat}
def afI (x:X):aZ P L f tm hp ct (.br x)=some (aq tm x,hp,ct):=rfl
def adl (c a b:X):aZ P L f tm hp ct (.pick c a b)=rd hp ct (Jo (aq tm c) (aq tm a) (aq tm b)):=by
 rfl
def abg (z:List AV) (ps:List (Nat×Nat×X)):aZ P L f tm hp ct (.cp z ps)=rd hp ct (SP (fill tm z ps)):=by
 rfl
def ah3 (sz:Nat) (ag:Bool) (x:X):aZ P L f tm hp ct (.ld sz ag x)=rd hp ct (gk hp sz ag (aq tm x)):=rfl
def adm (x:X):aZ P L f tm hp ct (.BW x)=rd hp ct (ajI (aq tm x)):=by
 rfl
def afJ (op:BinOp) (x y:X):aZ P L f tm hp ct (.bin op x y)=rd hp ct (binOp op (aq tm x) (aq tm y)):=rfl
def ah4 (ne:Bool) (k:FJ) (x y:X):aZ P L f tm hp ct (.eq ne k x y)=rd hp ct (Fy ne (gX k (aq tm x) (aq tm y))):=by
 rfl
def ah5 (op:UnOp) (x:X):aZ P L f tm hp ct (.un op x)=rd hp ct (unOp op (aq tm x)):=rfl
def ah6 (k:Conv) (x:X):aZ P L f tm hp ct (.cv k x)=rd hp ct (lC k (aq tm x)):=rfl
def afK (g:Fr) (a b:List X):aZ P L f tm hp ct (.iM g a b)=some (.fn g (cA tm a) (cA tm b),hp,ct):=rfl
def afL (k:Cut) (x:X) (lo hi:Option X):aZ P L f tm hp ct (.cY k x lo hi)=rd hp ct (fu hp k (aq tm x) tm lo hi):=rfl
def afM (k:Nat) (x:X):aZ P L f tm hp ct (.off k x)=rd hp ct (Bz k (aq tm x)):=rfl
def afN (o sz:Nat) (ag:Bool) (x:X):aZ P L f tm hp ct (.Cv o sz ag x)=rd hp ct (EF o sz ag (aq tm x)):=rfl
def afO (sz:Nat) (x i:X):aZ P L f tm hp ct (.bt sz x i)=rd hp ct (CY (fun j=>fw sz j (aq tm x)) (cQ (aq tm i))):=by
 rfl
def afP (n sz:Nat) (x i:X):aZ P L f tm hp ct (.pn n sz x i)=rd hp ct (CY (fun j=>EG n sz j (aq tm x)) (cQ (aq tm i))):=by
 rfl
def afQ (x i:X):aZ P L f tm hp ct (.iA x i)=rd hp ct (CY (fun j=>kB j (aq tm x)) (cQ (aq tm i))):=by
 rfl
def afR (n sz:Nat) (ag:Bool) (x i:X):aZ P L f tm hp ct (.po n sz ag x i)=rd hp ct (CY (fun j=>BA n sz ag j (aq tm x)) (cQ (aq tm i))):=by
 rfl
def afS (i:Nat) (x:X):aZ P L f tm hp ct (.ext i x)=rd hp ct (Cg i (aq tm x)):=by
 rfl
def afT (k:Nat) (x:X):aZ P L f tm hp ct (.len k x)=rd hp ct (fh hp k (aq tm x)):=rfl
def afU (sz:Nat) (x:X):aZ P L f tm hp ct (.box sz x)=mk hp ct (b6 tm hp ct (.box sz x)):=rfl
def adn (n sz:Nat) (z:List AV) (ps:List (Nat×Nat×X)):aZ P L f tm hp ct (.bw n sz z ps)=mk hp ct (b6 tm hp ct (.bw n sz z ps)):=rfl
def afV (sz by':Nat) (z:List AV) (l c:X):aZ P L f tm hp ct (.eY sz by' z l c)=mk hp ct (b6 tm hp ct (.eY sz by' z l c)):=rfl
def afW:aZ P L f tm hp ct .nV=some (.map ct,(ct,.mp true [] [])::hp,ct+1):=rfl
def afX (x:X):aZ P L f tm hp ct (.kL x)=mk hp ct (b6 tm hp ct (.kL x)):=rfl
def ah7 (sz:Nat) (x v:X):aZ P L f tm hp ct (.st sz x v)=cg tm hp ct (.st sz x v):=rfl
def afY (sz by':Nat) (s x:X):aZ P L f tm hp ct (.cy sz by' s x)=cg tm hp ct (.cy sz by' s x):=rfl
def EV (hp:Hp) (ct:Nat) (r:Option AV):eF:=match r with | some v=>some (shut v,hp,ct) | none=>none
def Fz (hp:Hp) (ct:Nat) (r:Option AV):eF:=match r with | some v=>some (own hp ct v) | none=>none
def Jp (P:aF) (L:Lib) (f:b9) (ct n:Nat) (q:Option (List AV×Hp)):eF:=match q with | some (ap,hp)=>EV hp ct (b5 P L f n ap) | none=>none
def Jq (P:aF) (L:Lib) (f:b9) (ct n:Nat) (q:Option (List AV×Hp)):eF:=match q with | some (ap,hp)=>Fz hp ct (b5 P L f n ap) | none=>none
def Jr (P:aF) (L:Lib) (f:b9) (hp:Hp) (ct:Nat) (fv:AV) (xs:List AV):eF:=cK P L f hp ct .pure fv xs
def Js (P:aF) (L:Lib) (f:b9) (hp:Hp) (ct:Nat) (fv:AV) (xs:List AV):eF:=cK P L f hp ct .own fv xs
def abh (g:X) (xs:List X):aZ P L f tm hp ct (.call .pure g xs)=Jr P L f hp ct (aq tm g) (cA tm xs):=rfl
def abi (g:X) (xs:List X):aZ P L f tm hp ct (.call .own g xs)=Js P L f hp ct (aq tm g) (cA tm xs):=rfl
def abj (g:X) (xs:List X):aZ P L f tm hp ct (.call .heap g xs)=cK P L f hp ct .heap (aq tm g) (cA tm xs):=rfl
def ado (n:Nat) (first cap xs:List AV):Jr P L f hp ct (.fn (.f n) first cap) xs=Jp P L f ct n (bS deep hp (first++(xs++cap))):=by
 simp only [Jr,cK,Jp,EV]
 cases bS deep hp (first++(xs++cap)) with
 | none=>rfl
 | some q=>cases b5 P L f n q.1<;>rfl
def adp (n:Nat) (first cap xs:List AV):Js P L f hp ct (.fn (.f n) first cap) xs=Jq P L f ct n (bS deep hp (first++(xs++cap))):=by
 simp only [Js,cK,Jq,Fz]
 cases bS deep hp (first++(xs++cap)) with
 | none=>rfl
 | some q=>cases b5 P L f n q.1<;>rfl
def adq (n:Nat) (ap:List AV):Jp P L f ct n (some (ap,hp))=EV hp ct (b5 P L f n ap):=rfl
def adr (n:Nat) (ap:List AV):Jq P L f ct n (some (ap,hp))=Fz hp ct (b5 P L f n ap):=rfl
def ads (v:AV):EV hp ct (some v)=some (shut v,hp,ct):=rfl
def afZ (v:AV):Fz hp ct (some v)=some (own hp ct v):=rfl
def FA (hp:Hp) (r:Option AV):Option AV:=match r with | some v=>result hp v | none=>none
def jS (rs:List RV) (q:Option (Ex×St)):Option AV:=
 match q with
 | some (.normal,s) | some (.ret,s)=>FA s.hp (fT s rs)
 | _=>none
def aR {n:Nat} {F:ax} (h:Has P L n F) (ap:List AV):b5 P L f n ap=jS F.dI (f F.body ⟨eV 0 ap,[],0,0⟩):=by
 simp only [b5,h.pure,h.code]
 cases hq:f F.body ⟨eV 0 ap,[],0,0⟩ with
 | none=>rfl
 | some q=>
  obtain ⟨e,s⟩:=q
  cases e with
  | normal=>rfl
  | ret=>rfl
  | exit id=>rfl
def af0 (rs:List RV) (s:St):jS rs (some (.normal,s))=FA s.hp (fT s rs):=rfl
def Q0 (rs:List RV) (s:St):jS rs (some (.ret,s))=FA s.hp (fT s rs):=rfl
def Q1 (v:AV):FA hp (some v)=result hp v:=rfl
def JT (r:RV) (s:St):fT s [r]=results1 s r:=by
 simp only [fT,iE];cases results1 s r<;>rfl
def Ur (r:Option (List AV)):Option AV:=match r with | some vs=>some (.aw vs) | none=>none
def ajJ (r q:RV) (l:List RV) (s:St):fT s (r::q::l)=Ur (iE s (r::q::l)):=by
 simp only [fT,iE];cases results1 s r<;>cases results1 s q<;>cases iE s l<;>rfl
def SQ (r:Option AV) (l:Option (List AV)):Option (List AV):=match r,l with | some v,some vs=>some (v::vs) | _,_=>none
def abk (s:St):iE s []=some []:=rfl
def Zq (r:RV) (l:List RV) (s:St):iE s (r::l)=SQ (results1 s r) (iE s l):=rfl
def adt (v:AV) (vs:List AV):SQ (some v) (some vs)=some (v::vs):=rfl
def af1 (vs:List AV):Ur (some vs)=some (.aw vs):=rfl
def Jt (i:Nat) (s:St):results1 s (.t i)=some (ah s.tm i):=rfl
def ah8 (a:AV):eV 0 [a]=[(0,a)]:=rfl
def SR (a b:AV):eV 0 [a,b]=[(0,a),(1,b)]:=rfl
def ah9 (a b c:AV):eV 0 [a,b,c]=[(0,a),(1,b),(2,c)]:=rfl
def aia (a b c d:AV):eV 0 [a,b,c,d]=[(0,a),(1,b),(2,c),(3,d)]:=rfl
def aib (a b c d e:AV):eV 0 [a,b,c,d,e]=[(0,a),(1,b),(2,c),(3,d),(4,e)]:=rfl
def Yd (k:yG) (n:Int):result hp (.int k n)=some (.int k n):=rfl
def XH (b:Bool):result hp (.bool b)=some (.bool b):=rfl
def Ye (s:List Nat):result hp (.str s)=some (.str s):=rfl
def XI:result hp .aa=some .aa:=rfl
def Yf (e:Bool) (n:Nat) (cs:List AV):result hp (.aB e n cs)=some (.aB e n cs):=rfl
def shut_int (k:yG) (n:Int):shut (.int k n)= .int k n:=rfl
def shut_bool (b:Bool):shut (.bool b)= .bool b:=rfl
def abl (s:List Nat):shut (.str s)= .str s:=rfl
def Zr:shut .aa= .aa:=rfl
def abm (e:Bool) (n:Nat) (cs:List AV):shut (.aB e n cs)= .aB e n cs:=rfl
def abn (e:Bool) (sz n:Nat) (cs:List AV):shut (.bX e sz n cs)= .aB e n cs:=rfl
def cI (cs:List AV):shut (.agg cs)= .agg cs:=rfl
def adu (g:Fr) (a b:List AV):shut (.fn g a b)= .fn g a b:=rfl
def abo (vs:List AV):shut (.aw vs)= .aw (qR vs):=rfl
def Zs:qR []=[]:=rfl
def Yg (v:AV) (r:List AV):qR (v::r)=bW v::qR r:=rfl
def Zt (k:yG) (n:Int):bW (.int k n)= .int k n:=rfl
def Yh (b:Bool):bW (.bool b)= .bool b:=rfl
def Zu (s:List Nat):bW (.str s)= .str s:=rfl
def Yi:bW .aa= .aa:=rfl
def Zv (e:Bool) (n:Nat) (cs:List AV):bW (.aB e n cs)= .aB e n cs:=rfl
def Zw (e:Bool) (sz n:Nat) (cs:List AV):bW (.bX e sz n cs)= .aB e n cs:=rfl
def oz (cs:List AV):bW (.agg cs)= .agg cs:=rfl
def JU (n:Nat) (r:List AV) (q:Option (AV×Hp)):Option (List AV×Hp):=match q with | some (v,hp)=>(match bS n hp r with | some (vs,lI)=>some (v::vs,lI) | none=>none) | none=>none
def Us (v:AV) (q:Option (List AV×Hp)):Option (List AV×Hp):=match q with | some (vs,hp)=>some (v::vs,hp) | none=>none
def abp (n:Nat):bS (n+1) hp []=some ([],hp):=rfl
def ND (n:Nat) (v:AV) (r:List AV):bS (n+1) hp (v::r)=JU n r (freeze n hp v):=by
 simp only [bS,JU];cases freeze n hp v<;>rfl
def Q2 (n:Nat) (r:List AV) (v:AV):JU n r (some (v,hp))=Us v (bS n hp r):=by
 rfl
def af2 (v:AV) (vs:List AV):Us v (some (vs,hp))=some (v::vs,hp):=rfl
def adv (n:Nat) (k:yG) (a:Int):freeze (n+1) hp (.int k a)=some (.int k a,hp):=rfl
def abq (n:Nat) (b:Bool):freeze (n+1) hp (.bool b)=some (.bool b,hp):=rfl
def adw (n:Nat) (s:List Nat):freeze (n+1) hp (.str s)=some (.str s,hp):=rfl
def abr (n:Nat):freeze (n+1) hp .aa=some (.aa,hp):=rfl
def adx (n:Nat) (e:Bool) (k:Nat) (cs:List AV):freeze (n+1) hp (.aB e k cs)=some (.aB e k cs,hp):=rfl
def abt (n:Nat) (cs:List AV):freeze (n+1) hp (.ay cs)=some (.ay cs,hp):=rfl
end
end
section
variable {hp:Hp}
def af3 (a b:AV):Jo (.bool true) a b=some a:=rfl
def af4 (a b:AV):Jo (.bool false) a b=some b:=rfl
def aic (k:Nat->Option AV) (n:Nat):CY k (some n)=k n:=rfl
def Yj (k:yG) (n:Nat):cQ (.int k (n:Int))=some n:=rfl
def af5 (k:yG):cQ (.int k 0)=some 0:=rfl
def af6 (k:yG):cQ (.int k 1)=some 1:=rfl
def af7 (k:yG):cQ (.int k 2)=some 2:=rfl
def af8 (k:yG):cQ (.int k 3)=some 3:=rfl
def af9 (k:yG):cQ (.int k 4)=some 4:=rfl
def aga (k:yG):cQ (.int k 5)=some 5:=rfl
def agb (k:yG):cQ (.int k 6)=some 6:=rfl
def agc (k:yG):cQ (.int k 7)=some 7:=rfl
def agd (k:yG):cQ (.int k 8)=some 8:=rfl
def age (k:yG):cQ (.int k 9)=some 9:=rfl
def ady (cs:List AV):SP (some cs)=some (.agg cs):=rfl
def adz (k:yG) (a b:Int):binOp .add (.int k a) (.int k b)=some (.int k (k.wrap (a+b))):=by simp [binOp,iF]
def adA (k:yG) (a b:Int):binOp .sub (.int k a) (.int k b)=some (.int k (k.wrap (a-b))):=by simp [binOp,iF]
def adB (k:yG) (a b:Int):binOp .mul (.int k a) (.int k b)=some (.int k (k.wrap (a*b))):=by simp [binOp,iF]
def dX (k:yG) (a b:Int) (h:b≠0):binOp .quo (.int k a) (.int k b)=some (.int k (k.wrap (a.tdiv b))):=by simp [binOp,iF,h]
def eJ (k:yG) (a b:Int) (h:b≠0):binOp .rem (.int k a) (.int k b)=some (.int k (a.tmod b)):=by simp [binOp,iF,h]
def adC (k:yG) (a b:Int):binOp .eql (.int k a) (.int k b)=some (.bool (decide (a=b))):=by
 simp [binOp,iF,intCmp,BEq.beq]
def adD (k:yG) (a b:Int):binOp .neq (.int k a) (.int k b)=some (.bool (!decide (a=b))):=by
 simp [binOp,iF,intCmp,bne,BEq.beq]
def adE (k:yG) (a b:Int):binOp .lss (.int k a) (.int k b)=some (.bool (decide (a<b))):=by simp [binOp,iF,intCmp]
def adF (k:yG) (a b:Int):binOp .leq (.int k a) (.int k b)=some (.bool (decide (a<=b))):=by simp [binOp,iF,intCmp]
def adG (k:yG) (a b:Int):binOp .gtr (.int k a) (.int k b)=some (.bool (decide (b<a))):=by simp [binOp,iF,intCmp]
def adH (k:yG) (a b:Int):binOp .geq (.int k a) (.int k b)=some (.bool (decide (b<=a))):=by simp [binOp,iF,intCmp]
def agf (k:yG) (a:Int):unOp .neg (.int k a)=some (.int k (k.wrap (0-a))):=rfl
def agh (b:Bool):unOp .not (.bool b)=some (.bool !b):=rfl
def abu:fh hp 1 .aa=some (.int .i64 0):=rfl
def adI (e:Bool) (n:Nat) (cs:List AV):fh hp 1 (.aB e n cs)=some (.int .i64 n):=rfl
def adJ (id o n:Nat):fh hp 1 (.au id o n)=some (.int .i64 n):=rfl
def adK (s:List Nat):fh hp 0 (.str s)=some (.int .i64 s.length):=rfl
def Ef {sz i n:Nat} (e:Bool) (cs:List AV) (h:i<n):fw sz i (.aB e n cs)=some (.ay (cs.drop (i*sz))):=by
 have hb:yA i n=true:=yt h;simp only [fw]
 grind
def fX {sz i n:Nat} (id o:Nat) (h:i<n):fw sz i (.au id o n)=some (.ptr id (o+i*sz)):=by
 have hb:yA i n=true:=yt h;simp only [fw]
 grind
def DZ (v:AV) (cs:List AV):gk hp 1 false (.ay (v::cs))=some v:=rfl
def VY (sz:Nat) (ag:Bool) (o:Nat) (q:Option Obj):Option AV:=match q with | some (.cells _ _ _ _ cs)=>gK sz ag (cs.drop o) | _=>none
def agi (sz:Nat) (ag:Bool) (id o:Nat):gk hp sz ag (.ptr id o)=VY sz ag o (ak hp id):=by
 rfl
def aid (sz:Nat) (ag:Bool) (o:Nat) (rw pu ex:Bool) (z:Nat) (cs:List AV):VY sz ag o (some (.cells rw pu ex z cs))=gK sz ag (cs.drop o):=rfl
def aie (sz:Nat) (v:AV) (cs:List AV):gK sz false (v::cs)=some v:=rfl
def ajK (a:AV) (l:List AV):Cg 0 (.aw (a::l))=some a:=rfl
def ext1 (a b:AV) (l:List AV):Cg 1 (.aw (a::b::l))=some b:=rfl
def ajL (a b c:AV) (l:List AV):Cg 2 (.aw (a::b::c::l))=some c:=rfl
def ajM (a b c d:AV) (l:List AV):Cg 3 (.aw (a::b::c::d::l))=some d:=rfl
end
def nH:Env->Bool
 | []=>true
 | (_,v)::r=>aI v&&nH r
mutual
def a6:∀{v:AV},aI v=true->refs v=[]
 | .int _ _,_ | .bool _,_ | .cx _ _,_ | .str _,_ | .gW,_ | .ay _,_ | .aa,_ | .aB _ _ _,_ | .fk,_ | .gH,_ | .gj _ _,_ | .undef,_=>rfl
 | .ptr _ _,h | .au _ _ _,h | .map _,h | .it _,h | .bX _ _ _ _,h=>by simp [aI] at h
 | .fn (.y _) _ _,h=>by simp [aI] at h
 | .fn (.f _) first cap,h=>by
  simp only [aI,ye] at h;simp only [refs,AH h.1,AH h.2,xS]
 | .agg cs,h=>by simp only [aI] at h;simp only [refs,AH h]
 | .aw cs,h=>by simp only [aI] at h;simp only [refs,AH h]
def AH:∀{vs:List AV},az vs=true->dC vs=[]
 | [],_=>rfl
 | v::r,h=>by
  simp only [az,ye] at h;simp only [dC,a6 h.1,AH h.2,xS]
end
mutual
def bc (f:Nat->Option Nat):∀{v:AV},aI v=true->bH f v=v
 | .int _ _,_ | .bool _,_ | .cx _ _,_ | .str _,_ | .gW,_ | .ay _,_ | .aa,_ | .aB _ _ _,_ | .fk,_ | .gH,_ | .gj _ _,_ | .undef,_=>rfl
 | .ptr _ _,h | .au _ _ _,h | .map _,h | .it _,h | .bX _ _ _ _,h=>by simp [aI] at h
 | .fn (.y _) _ _,h=>by simp [aI] at h
 | .fn (.f _) first cap,h=>by
  simp only [aI,ye] at h;simp only [bH,AR f h.1,AR f h.2]
 | .agg cs,h=>by simp only [aI] at h;simp only [bH,AR f h]
 | .aw cs,h=>by simp only [aI] at h;simp only [bH,AR f h]
def AR (f:Nat->Option Nat):∀{vs:List AV},az vs=true->eb f vs=vs
 | [],_=>rfl
 | v::r,h=>by
  simp only [az,ye] at h;simp only [eb,bc f h.1,AR f h.2]
end
def ML:∀{tm:Env},nH tm=true->dP tm=[]
 | [],_=>rfl
 | (i,v)::r,h=>by
  simp only [nH,ye] at h;simp only [dP,a6 h.1,ML h.2,xS]
def NE (f:Nat->Option Nat):∀{tm:Env},nH tm=true->ir f tm=tm
 | [],_=>rfl
 | (i,v)::r,h=>by
  simp only [nH,ye] at h;simp only [ir,bc f h.1,NE f h.2]
def LW {live:List Nat} {tm:Env} {ct:Nat} (h:nH (cN tm live)=true):bA live ⟨tm,[],ct,0⟩=⟨cN tm live,[],0,0⟩:=by
 simp only [bA,ML h,cJ,xS];simp only [reach,im,iX,NE _ h,yZ,Nat.add_zero]
def XJ {tm:Env} {ct:Nat}:bA [] ⟨tm,[],ct,0⟩=⟨[],[],0,0⟩:=rfl
def Ic {P:aF} {L:Lib} {live:List Nat} {a:VC} (I:Nat->St->Prop) (Q:Ex->St->Prop)
  (step:∀k s,I k s->(∃s' k',D P L a (bA live s)=some (.normal,s')/\k'<k/\I k' s')\/(∃ex s',D P L a (bA live s)=some (ex,s')/\ex≠.normal/\Q ex s')):
  ∀k s,I k s->∃ex s',D P L (.loop live a) s=some (ex,s')/\Q ex s':=by
 intro k
 induction k using Nat.strongRecOn with
 | _ k ih=>
  intro s hI;rw [I3];rcases step k s hI with ⟨s',k',h1,h2,h3⟩ | ⟨ex,s',h1,h2,h3⟩
  ·rw [h1,Pu];exact ih k' h2 s' h3
  ·rw [h1]
   cases ex with
   | normal=>exact absurd rfl h2
   | ret=>exact ⟨.ret,s',rfl,h3⟩
   | exit id=>exact ⟨.exit id,s',rfl,h3⟩
def dt {P:aF} {L:Lib} {live:List Nat} {a:VC} (I:Nat->St->Prop) (Q:Ex->St->Prop)
  (step:∀k s,I k s->(∃s' k',D P L a s=some (.normal,s')/\k'<k/\I k' (bA live s'))\/(∃ex s',D P L a s=some (ex,s')/\ex≠.normal/\Q ex s')):
  ∀k s,I k (bA live s)->∃ex s',D P L (.loop live a) s=some (ex,s')/\Q ex s':=
 Ic (fun k s=>I k (bA live s)) Q (fun k s h=>step k _ h)
def cW {P:aF} {L:Lib} {c:VC} {s:St} {q:Option (Ex×St)} {I:St->Prop} {Q:Ex->St->Prop} (hq:D P L c s=q) (key:∀s,I s->∃ex s',D P L c s=some (ex,s')/\Q ex s') (hI:I s):
  ∃ex s',q=some (ex,s')/\Q ex s':=by
 rw [<-hq];exact key s hI
def abv (tm:Env):cN tm []=[]:=rfl
def Zx (tm:Env) (i:Nat) (r:List Nat):cN tm (i::r)=(i,ah tm i)::cN tm r:=rfl
def Zy:nH []=true:=rfl
def Yk (i:Nat) (v:AV) (r:Env):nH ((i,v)::r)=(aI v&&nH r):=rfl
def Es (k:yG) (n:Int):aI (.int k n)=true:=(rfl)
def adL (b:Bool):aI (.bool b)=true:=(rfl)
def agj (s:List Nat):aI (.str s)=true:=(rfl)
def adM:aI .aa=true:=(rfl)
def agk (e:Bool) (n:Nat) (cs:List AV):aI (.aB e n cs)=true:=(rfl)
def adN (cs:List AV):aI (.ay cs)=true:=(rfl)
def abw:aI .undef=true:=(rfl)
attribute [go_sem] deep XJ abv Zx Zy Yk Es adL agj adM agk adN abw Bool.and_true Bool.true_and
attribute [go_sem] afC afD ah1 JS ajF Jl mu afE Jm ku ada adb Pu ade adf ID adg IE adh QZ afF adi adj
 Pv aa8 Zk Pw ah2 SO aa9 aba abb abc adk afG afH Zl Yc abd Zm Ib Zn Oo Zo abe abf Zp
 ajG ajH afI adl abg ah3 adm afJ ah4 ah5 ah6 afK afL afM afN afO afP afQ afR afS afT afU adn afV afW afX ah7 afY abh abi abj
 ado adp adq adr ads afZ af0 Q0 Q1 JT ajJ abk Zq adt af1 Jt ah8 SR ah9 aia aib
 Yd XH Ye XI Yf shut_int shut_bool abl Zr abm abn cI adu abo Zs Yg Zt Yh Zu Yi Zv Zw oz
 abp ND Q2 af2 adv abq adw abr adx abt
 af3 af4 aic Yj af5 af6 af7 af8 af9 aga agb agc agd age ady adz adA adB adC adD adE adF adG adH agf agh abu adI adJ adK DZ agi aid aie ajK ext1 ajL ajM
 List.nil_append xS yH yz yD Bool.not_true Bool.not_false yap uj
end
end VE
