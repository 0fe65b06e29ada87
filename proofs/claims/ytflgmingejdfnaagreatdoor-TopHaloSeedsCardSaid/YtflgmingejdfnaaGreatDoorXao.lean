import Derived.ChangeSlices
import Derived.ChangeReads
import Derived.ChangeSame
import Derived.OpenShut
import Derived.Lib.AtoiErrMem
import Derived.Attr
import Derived.Test.YtflgmingejdfnaaGreatDoorXal
import Derived.Test.YtflgmingejdfnaaGreatDoorXah
import Derived.Test.YtflgmingejdfnaaGreatDoorXaj
import Derived.Test.YtflgmingejdfnaaGreatDoorXam
import Derived.Test.YtflgmingejdfnaaGreatDoorXan
import Derived.Test.YtflgmingejdfnaaGreatDoorXag
set_option linter.all false
set_option maxRecDepth 100000
open Array renaming getElem?_eq_some_iff→y8
open Bool renaming and_eq_true→yf
open Go renaming Addr→vB,ChangeSpec→yaA,DataW→yY,Field→vK,IntKind→yJ,MemPlace→xC,Program→yM,TypeId→yp,Value→ye,World→yg
open List renaming all_cons→yaf,append_nil→xI,cons_append→yH,drop_drop→wV,drop_eq_nil_of_le→yZ,eq_nil_of_length_eq_zero→yP,flatMap_cons→tv,getElem?_cons_zero→wC,length_cons→yz,length_nil→y5,mapM_cons→wW,mapM_nil→uo,map_cons→yV,mem_append_left→vw,mem_append_right→wD,mem_flatMap→w9,range→yR,range'→xi,range'_succ→wS,range'_zero→tJ,range_eq_range'→uP,take_append_drop→xV
open Nat renaming beq→yq,beq_refl→y7,ble_eq_true_of_le→yv,blt→yB,eq_of_beq_eq_true→yk,eq_zero_or_pos→xp,le_max_left→wR,le_max_right→wJ,le_refl→yC,zero_add→yy
open Option renaming bind_eq_bind→wu,bind_some→xt,map_some→xM,pure_def→xN
open Option.some renaming injEq→yb
open Prod.mk renaming injEq→yi
namespace VE
section
open Go
section
variable (P:yM)
def sK (self:yp->Bool):List vK->Nat->Nat->Bool
 | [],o,n=>yq o n
 | f::r,o,n=>yq f.offset o&&(self f.type&&sK self r (o+P.cellsOf f.type) n)
def flat:Nat->yp->Bool
 | 0,_=>false
 | n+1,t=>
  match P.underlying t with
  | some .bool | some (.int _) | some (.float _) | some .string=>yq (P.cellsOf t) 1
  | some (.slice e)=>yq (P.cellsOf t) 1&&(yB 0 (P.cellsOf e)&&flat n e)
  | some (.struct fs)=>sK P (fun u=>flat n u) fs.toList 0 (P.cellsOf t)
  | some (.array k e)=>yq (P.cellsOf t) (k*P.cellsOf e)&&flat n e
  | _=>false
def bX {H:Type}:Nat->yp->yY H->List AV
 | 0,_,_=>[]
 | n+1,t,d=>
  match P.underlying t,d with
  | some .bool,.lit (.bool b)=>[.bool b]
  | some (.int k),.lit (.int _ m)=>[.int k m]
  | some (.float k),.lit (.float _ b)=>[.cu k b]
  | some .string,.lit (.string s)=>[.str (s.map UInt8.toNat)]
  | some (.slice _),.nil=>[.ab]
  | some (.slice e),.slice gj spare=>[.aC spare.isEmpty gj.length (gj.flatMap fun x=>bX n e x)]
  | some (.struct fs),.agg parts=>(fs.toList.zip parts).flatMap fun x=>bX n x.1.type x.2
  | some (.array _ e),.agg parts=>parts.flatMap fun x=>bX n e x
  | _,_=>[]
end
section
variable {ae:Nat->Nat} {m:Mp} {S:Nat->Prop} {w:yg}
def Nc:∀{a b:List AV} {aw o:Nat},bt ae m S w a aw o->bt ae m S w b aw (o+a.length)->bt ae m S w (a++b) aw o
 | [],b,aw,o,_,h=>by simpa using h
 | x::a,b,aw,o,h1,h2=>by
  exact ⟨h1.1,Nc h1.2 (by rw [yz] at h2;rw [show o+1+a.length=o+(a.length+1) by omega];exact h2)⟩
def DB:∀{a b:List AV},ax a=true->ax b=true->ax (a++b)=true
 | [],_,_,h=>h
 | x::a,b,h1,h2=>by
  simp only [ax,yH,yf] at h1 ⊢;exact ⟨h1.1,DB h1.2 h2⟩
def Nf:∀{a:List AV} {us:List ye},ak ae m S w a us->a.length=us.length
 | [],us,h=>by simp only [ak] at h;subst h;rfl
 | x::a,us,h=>by
  obtain ⟨u,r,rfl,_,h2⟩:=h;simp [Nf h2]
end
section
variable {H:Type} {enc:yp×ye->H} {P:yM} {w:yg} {held:Bool} {ae:Nat->Nat} {m:Mp} {S:Nat->Prop}
def PF {a:vB} {i:Nat} {u:ye} (h:w.cell? (a.add i)=some u):w.cell? ⟨a.block,a.off+i,none⟩=some u/\(i=0->a.spot=none):=by
 by_cases hi:i=0
 ·subst hi;have e:a.add 0=a:=by simp [Addr.add]
  rw [e] at h;have hs:a.spot=none:=by
   cases hq:a.spot with
   | none=>rfl
   | some k=>
    unfold World.cell? at h
    split at h
    ·simp [hq] at h
    all_goals simp_all
  obtain ⟨b,o,sp⟩:=a;simp only at hs;subst hs;exact ⟨by simpa using h,fun _=>rfl⟩
 ·have e:a.add i=⟨a.block,a.off+i,none⟩:=by simp [Addr.add,hi]
  rw [e] at h;exact ⟨h,fun h=>(hi h).elim⟩
def Y1 (a:vB) (i:Nat):(a.add i).block=a.block:=by unfold Addr.add;split<;>rfl
def acF (a:vB) (i:Nat):(a.add i).off=a.off+i:=by unfold Addr.add;split<;>simp_all
def DH {α β:Type} {f:α->Option β}:∀{l:List α} {r:List β},l.mapM f=some r->r.length=l.length
 | [],r,h=>by simp only [uo,xN,yb] at h;subst h;rfl
 | x::l,r,h=>by
  rw [wW] at h
  cases h1:f x with
  | none=>simp [h1] at h
  | some y=>
   cases h2:l.mapM f with
   | none=>simp [h1,h2] at h
   | some ys=>
    simp only [h1,h2,xt,wu,xN,yb] at h;subst h;simp [DH h2]
def aaL {c:AV} {l:List AV} {b o:Nat} (h:bt ae m S w (c::l) b o):b<w.heap.size:=by
 obtain ⟨⟨u,h1,_⟩,_⟩:=h;unfold World.cell? at h1
 cases hq:w.heap[b]? with
 | none=>simp [hq] at h1
 | some o=>exact (y8.1 hq).1
def HE {e:yp} {a6 sz:Nat} {f:yY H->List AV} {a:vB} (eU:0<sz)
  (IH:∀(cs:List ye) (d:yY H) (ps:List xC),DataW.trod enc P w 0 (fun _=>true) held a6 e cs=some (d,ps)->ak ae m S w (f d) cs/\ax (f d)=true/\cs.length=sz):
  ∀(k j:Nat) (xs:List (yY H×List xC)),(xi j k).mapM (fun i=>(w.cells? 0 (a.add (i*sz)) sz).bind (DataW.trod enc P w 0 (fun _=>true) held a6 e))=some xs->
   bt ae m S w ((xs.map (·.1)).flatMap f) a.block (a.off+j*sz)/\ax ((xs.map (·.1)).flatMap f)=true/\((xs.map (·.1)).flatMap f).length=k*sz/\xs.length=k/\(0<k->a.spot=none\/0<j)
 | 0,j,xs,h=>by
  simp only [tJ,uo,xN,yb] at h;subst h;simp [bt,ax]
 | k+1,j,xs,h=>by
  rw [wS,wW] at h
  cases h1:(w.cells? 0 (a.add (j*sz)) sz) with
  | none=>simp [h1] at h
  | some us=>
   cases h2:DataW.trod enc P w 0 (fun _=>true) held a6 e us with
   | none=>simp [h1,h2] at h
   | some x=>
    cases h3:(xi (j+1) k).mapM (fun i=>(w.cells? 0 (a.add (i*sz)) sz).bind (DataW.trod enc P w 0 (fun _=>true) held a6 e)) with
    | none=>simp [h1,h2,h3] at h
    | some ys=>
     simp only [h1,h2,h3,xt,wu,xN,yb] at h;subst h;obtain ⟨d,ps⟩:=x;obtain ⟨g1,g2,g3⟩:=IH us d ps h2;obtain ⟨k1,k2,k3,k4,_⟩:=HE eU IH k (j+1) ys h3;obtain ⟨_,c2,c3⟩:=World.cells?_some h1;have hl:(f d).length=sz:=by rw [Nf g1,g3]
     have hc:∀(i:Nat) (u:ye),us[i]? =some u->w.cell? ⟨a.block,a.off+j*sz+i,none⟩=some u:=by
      intro i u hi;have z8:i<sz:=by grind
      have h:=c3 i z8;rw [hi] at h
      have:=(PF h).1
      rwa [Y1,acF] at this
     refine ⟨?_,?_,?_,by simp [k4],?_⟩
     ·simp only [yV,tv];refine Nc (sP _ us _ g1 hc) ?_
      grind
     ·simp only [yV,tv];exact DB g2 k2
     ·grind
     ·intro _;rcases xp j with hj | hj
      ·left
       have h:=c3 0 eU;have hu:us[0]? =some us[0]:=by simp_all
       rw [hu] at h
       have:=(PF h).2 rfl
       subst hj;simpa [Addr.add] using this
      ·grind
def Mq {a6 N:Nat} {n:Nat} {cs:List ye} (hN:cs.length=N)
  (IH:∀(t:yp) (cs:List ye) (d:yY H) (ps:List xC),flat P n t=true->DataW.trod enc P w 0 (fun _=>true) held a6 t cs=some (d,ps)->ak ae m S w (bX P n t d) cs/\ax (bX P n t d)=true/\cs.length=P.cellsOf t):
  ∀(r:List vK) (o:Nat) (xs:List (yY H×List xC)),sK P (fun u=>flat P n u) r o N=true->r.mapM (fun f=>DataW.trod enc P w 0 (fun _=>true) held a6 f.type ((cs.drop f.offset).take (P.cellsOf f.type)))=some xs->
   ak ae m S w ((r.zip (xs.map (·.1))).flatMap fun x=>bX P n x.1.type x.2) (cs.drop o)/\ax ((r.zip (xs.map (·.1))).flatMap fun x=>bX P n x.1.type x.2)=true
 | [],o,xs,hf,h=>by
  have:=yk hf
  rw [yZ (by omega)];simp [ak,ax]
 | f::r,o,xs,hf,h=>by
  simp only [sK,yf] at hf;obtain ⟨e1,e2,e3⟩:=hf;have e1:=yk e1;rw [wW] at h
  cases h2:DataW.trod enc P w 0 (fun _=>true) held a6 f.type ((cs.drop f.offset).take (P.cellsOf f.type)) with
  | none=>simp [h2] at h
  | some x=>
   cases h3:r.mapM (fun f=>DataW.trod enc P w 0 (fun _=>true) held a6 f.type ((cs.drop f.offset).take (P.cellsOf f.type))) with
   | none=>simp [h2,h3] at h
   | some ys=>
    simp only [h2,h3,xt,wu,xN,yb] at h;subst h;obtain ⟨d,ps⟩:=x;obtain ⟨g1,g2,g3⟩:=IH f.type _ d ps e2 h2;obtain ⟨k1,k2⟩:=Mq hN IH r _ ys e3 h3;rw [e1] at g1;have e:cs.drop o=(cs.drop o).take (P.cellsOf f.type)++cs.drop (o+P.cellsOf f.type):=by rw [<-wV];exact (xV _ _).symm
    rw [e];exact ⟨iM g1 k1,DB g2 k2⟩
def PG {a6 sz:Nat} {e:yp} {f:yY H->List AV} {cs:List ye}
  (IH:∀(cs:List ye) (d:yY H) (ps:List xC),DataW.trod enc P w 0 (fun _=>true) held a6 e cs=some (d,ps)->ak ae m S w (f d) cs/\ax (f d)=true/\cs.length=sz):
  ∀(k j:Nat) (xs:List (yY H×List xC)),(xi j k).mapM (fun i=>DataW.trod enc P w 0 (fun _=>true) held a6 e ((cs.drop (i*sz)).take sz))=some xs->cs.length=(j+k)*sz->
   ak ae m S w ((xs.map (·.1)).flatMap f) (cs.drop (j*sz))/\ax ((xs.map (·.1)).flatMap f)=true
 | 0,j,xs,h,hl=>by
  simp only [tJ,uo,xN,yb] at h;subst h;rw [yZ (by rw [hl];simp)]
  simp [ak,ax]
 | k+1,j,xs,h,hl=>by
  rw [wS,wW] at h
  cases h2:DataW.trod enc P w 0 (fun _=>true) held a6 e ((cs.drop (j*sz)).take sz) with
  | none=>simp [h2] at h
  | some x=>
   cases h3:(xi (j+1) k).mapM (fun i=>DataW.trod enc P w 0 (fun _=>true) held a6 e ((cs.drop (i*sz)).take sz)) with
   | none=>simp [h2,h3] at h
   | some ys=>
    simp only [h2,h3,xt,wu,xN,yb] at h;subst h;obtain ⟨d,ps⟩:=x;obtain ⟨g1,g2,g3⟩:=IH _ d ps h2;obtain ⟨k1,k2⟩:=PG IH k (j+1) ys h3 (by rw [hl];congr 1;omega)
    have e:cs.drop (j*sz)=(cs.drop (j*sz)).take sz++cs.drop ((j+1)*sz):=by rw [Nat.add_mul,Nat.one_mul,<-wV];exact (xV _ _).symm
    rw [e];exact ⟨iM g1 k1,DB g2 k2⟩
def N8 (hS:∀b,b<w.heap.size->S b):∀(n a6:Nat) (t:yp) (cs:List ye) (d:yY H) (ps:List xC),flat P n t=true->DataW.trod enc P w 0 (fun _=>true) held a6 t cs=some (d,ps)->
  ak ae m S w (bX P n t d) cs/\ax (bX P n t d)=true/\cs.length=P.cellsOf t
 | 0,a6,t,cs,d,ps,hf,h=>by simp [flat] at hf
 | n+1,0,t,cs,d,ps,hf,h=>by simp [DataW.trod] at h
 | n+1,a6+1,t,cs,d,ps,hf,h=>by
  have IH:=N8 hS n a6;unfold DataW.trod at h;simp only [flat] at hf
  split at h
  ·rename_i hu;simp only [hu] at hf;simp only [yb,yi] at h;obtain ⟨rfl,rfl⟩:=h;simp only [bX,hu];exact ⟨by simp [ak,af],by simp [ax,aG],by rw [yk hf];rfl⟩
  ·rename_i hu;simp only [hu] at hf
   split at h
   ·rename_i hk;simp only [yb,yi] at h;obtain ⟨rfl,rfl⟩:=h;simp only [bX,hu];refine ⟨?_,by simp [ax,aG],by rw [yk hf];rfl⟩
    rw [hk.1];simp [ak,af]
   ·cases h
  ·rename_i hu;simp only [hu] at hf
   split at h
   ·rename_i hk;simp only [yb,yi] at h;obtain ⟨rfl,rfl⟩:=h;simp only [bX,hu];refine ⟨?_,by simp [ax,aG],by rw [yk hf];rfl⟩
    rw [hk.1];simp [ak,af]
   ·cases h
  ·rename_i hu;simp only [hu] at hf
   split at h
   ·simp only [yb,yi] at h;obtain ⟨rfl,rfl⟩:=h;simp only [bX,hu];refine ⟨?_,by simp [ax,aG],by rw [yk hf];rfl⟩
    simp only [ak,af];exact ⟨_,_,rfl,⟨_,rfl,rfl⟩,rfl⟩
   ·cases h
  ·rename_i hu;simp [hu] at hf
  ·rename_i hu;simp [hu] at hf
  ·rename_i hu;simp only [hu,yf] at hf;simp only [yb,yi] at h;obtain ⟨rfl,rfl⟩:=h;simp only [bX,hu];exact ⟨by simp [ak,af],by simp [ax,aG],by rw [yk hf.1];rfl⟩
  ·rename_i e a len cap hu;simp only [hu,yf] at hf;obtain ⟨f1,f2,f3⟩:=hf;have eU:=nn.1 f2;simp only at h
   split at h
   case isFalse=>cases h
   rename_i hc;simp only [yQ] at h
   cases h1:(yR len).mapM fun i=>(w.cells? 0 (a.add (i*P.cellsOf e)) (P.cellsOf e)).bind (DataW.trod enc P w 0 (fun _=>true) held a6 e) with
   | none=>rw [h1] at h;simp at h
   | some gj=>
    cases h2:(yR (cap-len)).mapM fun j=>(w.cells? 0 (a.add ((len+j)*P.cellsOf e)) (P.cellsOf e)).bind (DataW.trod enc P w 0 (fun _=>true) held a6 e) with
    | none=>rw [h1] at h;simp [h2] at h
    | some rest=>
     rw [h1] at h;simp only [xt,h2,xM,yb,yi] at h;obtain ⟨rfl,rfl⟩:=h;have VA:=fun cs d ps h=>IH e cs d ps f3 h
     rw [uP] at h1 h2;obtain ⟨k1,k2,k3,k4,k5⟩:=HE (ae:=ae) (m:=m) (S:=S) eU VA len 0 gj h1;have KL:rest.length=cap-len:=by rw [DH h2];simp
     have p0:cap≠0->a.spot=none:=by
      intro JC;rcases xp len with h0 | h0
      ·subst h0;simp only [yy,Nat.sub_zero] at h2;obtain ⟨_,_,_,_,q5⟩:=HE (ae:=ae) (m:=m) (S:=S) eU VA cap 0 rest h2;exact (q5 (by omega)).resolve_right (by omega)
      ·exact (k5 h0).resolve_right (by omega)
     simp only [bX,hu,List.length_map];refine ⟨?_,by simp [ax,aG],by rw [yk f1];rfl⟩
     simp only [ak];refine ⟨_,_,rfl,?_,rfl⟩;simp only [af];by_cases JC:cap=0
     ·subst JC;have mO:len=0:=by omega
      subst mO;have he:gj=[]:=yP k4;subst he;exact .inr ⟨a,rfl,rfl,rfl⟩
     ·obtain ⟨b,o,sp⟩:=a;have p0:=p0 JC;simp only at p0;subst p0;refine .inl ⟨b,o,cap,by rw [k4],by omega,fun hx=>?_,?_,k2,by simpa using k1⟩
      ·have:rest.length=0:=by simpa using hx
       omega
      ·generalize hg:((gj.map (·.1)).flatMap fun x=>bX P n e x)=l at k1
       cases l with
       | nil=>exact .inl rfl
       | cons c l=>exact .inr (hS b (aaL k1))
  ·rename_i mU x1 CW fs hu;simp only [hu] at hf
   split at h
   case isFalse=>cases h
   rename_i hlen
   cases h1:fs.toList.mapM fun f=>DataW.trod enc P w 0 (fun _=>true) held a6 f.type ((mU.drop f.offset).take (P.cellsOf f.type)) with
   | none=>rw [h1] at h;simp at h
   | some xs=>
    rw [h1] at h;simp only [xM,yb,yi] at h;obtain ⟨rfl,rfl⟩:=h;obtain ⟨k1,k2⟩:=Mq hlen (fun t cs d ps hf h=>IH t cs d ps hf h) fs.toList 0 xs hf h1;simp only [bX,hu];exact ⟨by simpa using k1,k2,hlen⟩
  ·rename_i mU x1 CW k e hu;simp only [hu,yf] at hf;obtain ⟨f1,f2⟩:=hf;have f1:=yk f1
   split at h
   case isFalse=>cases h
   rename_i hlen
   cases h1:(yR k).mapM fun i=>DataW.trod enc P w 0 (fun _=>true) held a6 e ((mU.drop (i*P.cellsOf e)).take (P.cellsOf e)) with
   | none=>rw [h1] at h;simp at h
   | some xs=>
    rw [h1] at h;simp only [xM,yb,yi] at h;obtain ⟨rfl,rfl⟩:=h;rw [uP] at h1;obtain ⟨k1,k2⟩:=PG (ae:=ae) (m:=m) (S:=S) (fun cs d ps h=>IH e cs d ps f2 h) k 0 xs h1 (by rw [hlen,f1];simp)
    simp only [bX,hu];exact ⟨by simpa using k1,k2,hlen⟩
  all_goals first
   | (cases h;done)
   | (simp_all;done)
def ix (P:yM) (n:Nat) (t:yp) (d:yY H):AV:=
 match P.underlying t with
 | some (.struct _) | some (.array _ _)=> .agg (bX P n t d)
 | _=>(bX P n t d).headD .undef
def acG (hS:∀b,b<w.heap.size->S b) {n base:Nat} {t:yp} {v:ye} {d:yY H} {ps:List xC} (hf:flat P n t=true) (h:DataW.Trod enc P w 0 (fun _=>true) held t v d ps)
  (hv:Value.okWide P w .any base t v):af ae m S w (ix P n t d) v/\aG (ix P n t d)=true:=by
 obtain ⟨a6,h⟩:=h;obtain ⟨h1,h2,h3⟩:=N8 (ae:=ae) (m:=m) hS n a6 t _ d ps hf h;have one:v.cells=#[v]->(∀fs,P.underlying t≠some (.struct fs))->(∀k e,P.underlying t≠some (.array k e))->af ae m S w (ix P n t d) v/\aG (ix P n t d)=true:=by
  intro hc J7 hna;have e:ix P n t d=(bX P n t d).headD .undef:=by
   unfold ix
   grind
  rw [e];rw [hc] at h1;generalize bX P n t d=l at h1 h2
  cases l with
  | nil=>simp [ak] at h1
  | cons x l=>
   simp only [ak] at h1;simp only [ax,yf] at h2
   grind
 cases n with
 | zero=>simp [flat] at hf
 | succ n=>
  unfold Value.okWide at hv;simp only [flat] at hf
  cases hu:P.underlying t with
  | none=>simp [hu] at hf
  | some ty=>
   rw [hu] at hv hf;cases ty<;>simp only [Bool.false_eq_true] at hf hv
   case struct fs=>
    obtain ⟨cs,rfl,_,_⟩:=hv;have e:ix P (n+1) t d= .agg (bX P (n+1) t d):=by simp only [ix,hu]
    rw [e];exact ⟨by simp only [af];exact ⟨cs,rfl,h1⟩,by simpa only [aG] using h2⟩
   case array k e=>
    obtain ⟨cs,rfl,_,_⟩:=hv;have e:ix P (n+1) t d= .agg (bX P (n+1) t d):=by simp only [ix,hu]
    rw [e];exact ⟨by simp only [af];exact ⟨cs,rfl,h1⟩,by simpa only [aG] using h2⟩
   all_goals
    refine one ?_ (by simp [hu]) (by simp [hu])
    cases v with
    | agg cs=>exfalso;simp only [Cell.okWide,Cell.ok,hu] at hv
    | _=>rfl
def nD (P:yM) (n:Nat):List yp->List (yY H)->List AV
 | t::ts,d::ds=>ix P n t d::nD P n ts ds
 | _,_=>[]
def N9 (hS:∀b,b<w.heap.size->S b) {n base:Nat}:∀{ts:List yp} {vs:List ye} {ds:List (yY H)} {ps:List xC},ts.all (flat P n)=true->DataW.TrodAll enc P w 0 (fun _=>true) held ts vs ds ps->
  (∀(j:Nat) t v,ts[j]? =some t->vs[j]? =some v->Value.okWide P w .any base t v)->ak ae m S w (nD P n ts ds) vs/\ax (nD P n ts ds)=true
 | [],[],[],_,_,_,_=>by simp [nD,ak,ax]
 | t::ts,v::vs,d::ds,ps,hf,h,hv=>by
  simp only [yaf,yf] at hf;obtain ⟨p,q,h1,h2,_⟩:=h;obtain ⟨a1,a2⟩:=acG (ae:=ae) (m:=m) hS hf.1 h1 (hv 0 t v rfl rfl);obtain ⟨b1,b2⟩:=N9 hS hf.2 h2 (fun j t v h1 h2=>hv (j+1) t v h1 h2);simp only [nD,ak,ax,yf]
  grind
 | [],_::_,_,_,_,h,_=>by simp [DataW.TrodAll] at h
 | [],[],_::_,_,_,h,_=>by simp [DataW.TrodAll] at h
 | _::_,[],_,_,_,h,_=>by simp [DataW.TrodAll] at h
 | _::_,_::_,[],_,_,h,_=>by simp [DataW.TrodAll] at h
end
end
section
open Go
section
variable {H:Type} {enc:yp×ye->H} {P:yM} {w w':yg} {held:Bool} {sp:Nat->Bool}
def XQ (hs:∀b,b<w.heap.size->w'.heap[b]? =w.heap[b]?) {a:vB} {u:ye} (h:w.cell? a=some u):w'.cell? a=some u:=by
 have hb:a.block<w.heap.size:=by
  unfold World.cell? at h
  cases hq:w.heap[a.block]? with
  | none=>simp [hq] at h
  | some o=>exact (y8.1 hq).1
 unfold World.cell? at h ⊢;rw [hs _ hb];exact h
def Xj (hs:∀b,b<w.heap.size->w'.heap[b]? =w.heap[b]?) {base:Nat} {a:vB} {n:Nat} {us:List ye} (h:w.cells? base a n=some us):w'.cells? base a n=some us:=by
 unfold World.cells? at h ⊢
 split at h
 ·rename_i hb;rw [yS hb];exact mapM_carry h (fun x y _ _ hx=>XQ hs hx)
 ·cases h
def acH {a:vB} {n:Nat} (h:0<n):MemPlace.cell a.block (a.off+0)∈MemPlace.row a n:=by
 unfold MemPlace.row;exact List.mem_map.2 ⟨0,List.mem_range.2 h,rfl⟩
def Mr (hs:∀b,b<w.heap.size->w'.heap[b]? =w.heap[b]?):∀(n a6:Nat) (t:yp) (cs:List ye) (d:yY H) (ps:List xC),flat P n t=true->DataW.trod enc P w 0 (fun _=>true) held a6 t cs=some (d,ps)->
  (∀p,p∈ps->sp p.block=true)->DataW.trod enc P w' 0 sp held a6 t cs=some (d,ps)
 | 0,a6,t,cs,d,ps,hf,h,hp=>by simp [flat] at hf
 | n+1,0,t,cs,d,ps,hf,h,hp=>by simp [DataW.trod] at h
 | n+1,a6+1,t,cs,d,ps,hf,h,hp=>by
  have IH:=Mr hs n a6;have elem:∀{e:yp} {a:vB} {y:yY H×List xC},flat P n e=true->(w.cells? 0 a (P.cellsOf e)).bind (DataW.trod enc P w 0 (fun _=>true) held a6 e)=some y->(∀p,p∈y.2->sp p.block=true)->
    (w'.cells? 0 a (P.cellsOf e)).bind (DataW.trod enc P w' 0 sp held a6 e)=some y:=by
   intro e a y he h hq
   cases h1:w.cells? 0 a (P.cellsOf e) with
   | none=>simp [h1] at h
   | some us=>
    rw [h1] at h;rw [Xj hs h1];simp only [xt] at h ⊢;obtain ⟨d,ps⟩:=y;exact IH e us d ps he h hq
  unfold DataW.trod at h ⊢;simp only [flat] at hf
  split at h
  ·exact h
  ·exact h
  ·exact h
  ·exact h
  ·rename_i hu;simp [hu] at hf
  ·rename_i hu;simp [hu] at hf
  ·exact h
  ·rename_i e a len cap hu;simp only [hu,yf] at hf;obtain ⟨f1,f2,f3⟩:=hf;have eU:=nn.1 f2;simp only at h ⊢
   split at h
   case isFalse=>cases h
   rename_i hc;rw [yS hc];simp only [yQ] at h
   cases h1:(yR len).mapM fun i=>(w.cells? 0 (a.add (i*P.cellsOf e)) (P.cellsOf e)).bind (DataW.trod enc P w 0 (fun _=>true) held a6 e) with
   | none=>rw [h1] at h;simp at h
   | some gj=>
    cases h2:(yR (cap-len)).mapM fun j=>(w.cells? 0 (a.add ((len+j)*P.cellsOf e)) (P.cellsOf e)).bind (DataW.trod enc P w 0 (fun _=>true) held a6 e) with
    | none=>rw [h1] at h;simp [h2] at h
    | some rest=>
     rw [h1] at h;simp only [xt,h2,xM,yb,yi] at h;obtain ⟨rfl,rfl⟩:=h;have k1:((yR len).mapM fun i=>(w'.cells? 0 (a.add (i*P.cellsOf e)) (P.cellsOf e)).bind (DataW.trod enc P w' 0 sp held a6 e))=some gj:=
      mapM_carry h1 (fun x y _ hy hx=>elem f3 hx (fun p hq=>hp p (wD _ (w9.2 ⟨y,vw _ hy,hq⟩))))
     have k2:((yR (cap-len)).mapM fun j=>(w'.cells? 0 (a.add ((len+j)*P.cellsOf e)) (P.cellsOf e)).bind (DataW.trod enc P w' 0 sp held a6 e))=some rest:=
      mapM_carry h2 (fun x y _ hy hx=>elem f3 hx (fun p hq=>hp p (wD _ (w9.2 ⟨y,wD _ hy,hq⟩))))
     have hr:(if sp a.block=true then (yR (cap-len)).mapM fun j=>(w'.cells? 0 (a.add ((len+j)*P.cellsOf e)) (P.cellsOf e)).bind (DataW.trod enc P w' 0 sp held a6 e) else some [])=some rest:=by
      by_cases p0:sp a.block=true
      ·rw [yS p0];exact k2
      ·rw [yD p0];have h0:¬0<(gj.length+rest.length)*P.cellsOf e:=fun h0=>p0 (hp _ (vw _ (acH h0)))
       have hz:gj.length+rest.length=0:=by
        rcases xp (gj.length+rest.length) with h | h
        ·exact h
        ·exact (h0 (Nat.mul_pos h eU)).elim
       have:rest=[]:=yP (by omega)
       rw [this]
     rw [k1];simp only [xt];rw [hr];rfl
  ·rename_i mU x1 CW fs hu;simp only [hu] at hf
   split at h
   case isFalse=>cases h
   rename_i hlen;rw [yS hlen]
   cases h1:fs.toList.mapM fun f=>DataW.trod enc P w 0 (fun _=>true) held a6 f.type ((mU.drop f.offset).take (P.cellsOf f.type)) with
   | none=>rw [h1] at h;simp at h
   | some xs=>
    rw [h1] at h;simp only [xM,yb,yi] at h;obtain ⟨rfl,rfl⟩:=h;have zY:∀(r:List vK) (o:Nat),sK P (fun u=>flat P n u) r o (P.cellsOf t)=true->∀f,f∈r->flat P n f.type=true:=by
     intro r
     induction r with
     | nil=>intro o _ f hm;cases hm
     | cons g r ih=>
      intro o hq f hm;simp only [sK,yf] at hq;rcases List.mem_cons.1 hm with rfl | hm
      ·exact hq.2.1
      ·exact ih _ hq.2.2 f hm
    have k1:(fs.toList.mapM fun f=>DataW.trod enc P w' 0 sp held a6 f.type ((mU.drop f.offset).take (P.cellsOf f.type)))=some xs:=
     mapM_carry h1 (fun f y hm hy hx=>IH _ _ y.1 y.2 (zY _ _ hf f hm) hx (fun p hq=>hp p (w9.2 ⟨y,hy,hq⟩)))
    rw [k1];rfl
  ·rename_i mU x1 CW k e hu;simp only [hu,yf] at hf
   split at h
   case isFalse=>cases h
   rename_i hlen;rw [yS hlen]
   cases h1:(yR k).mapM fun i=>DataW.trod enc P w 0 (fun _=>true) held a6 e ((mU.drop (i*P.cellsOf e)).take (P.cellsOf e)) with
   | none=>rw [h1] at h;simp at h
   | some xs=>
    rw [h1] at h;simp only [xM,yb,yi] at h;obtain ⟨rfl,rfl⟩:=h;have k1:((yR k).mapM fun i=>DataW.trod enc P w' 0 sp held a6 e ((mU.drop (i*P.cellsOf e)).take (P.cellsOf e)))=some xs:=
     mapM_carry h1 (fun i y _ hy hx=>IH _ _ y.1 y.2 hf.2 hx (fun p hq=>hp p (w9.2 ⟨y,hy,hq⟩)))
    rw [k1];rfl
  all_goals first
   | (cases h;done)
   | (simp_all;done)
def Lq (hs:∀b,b<w.heap.size->w'.heap[b]? =w.heap[b]?) {n:Nat}:∀{ts:List yp} {vs:List ye} {ds:List (yY H)} {ps:List xC},ts.all (flat P n)=true->DataW.TrodAll enc P w 0 (fun _=>true) held ts vs ds ps->
  (∀p,p∈ps->sp p.block=true)->DataW.TrodAll enc P w' 0 sp held ts vs ds ps
 | [],[],[],ps,_,h,_=>by simpa only [DataW.TrodAll] using h
 | t::ts,v::vs,d::ds,ps,hf,h,hp=>by
  simp only [yaf,yf] at hf;obtain ⟨p,q,⟨a6,h1⟩,h2,rfl⟩:=h;exact ⟨p,q,⟨a6,Mr hs n a6 t _ d p hf.1 h1 (fun x hx=>hp x (vw _ hx))⟩,Lq hs hf.2 h2 (fun x hx=>hp x (wD _ hx)),rfl⟩
 | [],_::_,_,_,_,h,_=>by simp [DataW.TrodAll] at h
 | [],[],_::_,_,_,h,_=>by simp [DataW.TrodAll] at h
 | _::_,[],_,_,_,h,_=>by simp [DataW.TrodAll] at h
 | _::_,_::_,[],_,_,h,_=>by simp [DataW.TrodAll] at h
end
end
section
open Go Go.ChangeShapes Go.WideShapes
section
variable {H:Type} {enc:yp×ye->H} {P:yM} {W W':yg}
def Y2 (hc:Calm W W') (may:xC->Prop):W.keptBut W' may:=by
 refine ⟨hc.os,hc.output,fun i hi=>?_⟩;rw [hc.same i hi]
 cases hq:W.heap[i]? with
 | none=>rfl
 | some o=>cases o<;>simp
def Xk (hc:Calm W W') {b off:Nat} (hb:b<W.heap.size):W'.frozen? ⟨b,off,none⟩=W.frozen? ⟨b,off,none⟩:=by
 unfold World.frozen?;simp only;rw [hc.same b hb]
def aaM {fn:Func} {s:yaA} {apart fresh handsOn again:Bool} {args:Array ye} {ds gs:List (yY H)} {before:List xC} {n:Nat} {tb:yp}
  (hW:DataW.Whole enc P fn.params.toList s.vars apart W args.toList ds gs before) (hv:s.vars=[]) (EW:fn.params.toList.all (flat P n)=true) (hc:Calm W W')
  (r9:s.fn H (ds++gs)={results:=[.lit (.bool true)],args:=ds}) (zJ:fn.resultTypes=#[tb]) (iH:P.underlying tb=some .bool):
  s.post enc P fn apart fresh handsOn again W args (.bool true) W':=by
 have aU:=hW.lt;have hW0:=hW;obtain ⟨p,q,hA,hV,hpq,hz,hn⟩:=hW;rw [hv] at hV;have hq:gs=[]/\q=[]:=by
  cases gs with
  | nil=>exact ⟨rfl,by simpa only [DataW.TrodVars] using hV⟩
  | cons g gs=>simp [DataW.TrodVars] at hV
 obtain ⟨rfl,rfl⟩:=hq;have hbp:before=p:=by rw [hpq];simp
 subst hbp;have fC:∀sp:Nat->Bool,(∀p∈before,sp p.block=true)->DataW.TrodAll enc P W' 0 sp true fn.params.toList args.toList ds before:=fun sp h=>Lq hc.same EW hA h
 have Sr:∀(b:Nat) (sp:Nat->Bool) (hd:Bool),DataW.TrodAll enc P W' b sp hd fn.resultTypes.toList ((Value.bool true).resultList fn.resultTypes.size) [.lit (.bool true)] []:=by
  intro b sp hd;rw [zJ];refine ⟨[],[],⟨1,?_⟩,rfl,rfl⟩;simp [DataW.trod,iH,Value.cells]
 have hold:∀p∈before,(fun b=>decide (b<W.heap.size)) p.block=true:=fun p hp=>by simpa using aU p hp
 have Ss:∀sp:Nat->Bool,DataW.TrodVars enc P W' sp s.vars ([]:List (yY H)) []:=fun sp=>by rw [hv];rfl
 refine ⟨ds,[],before,[],before,[],hW0,by rw [r9];exact Sr _ _ _,by rw [r9];exact fC _ hold,by rw [r9];exact Ss _,Y2 hc _,fun _=>?_⟩
 refine ⟨?_,[.lit (.bool true)]++ds,[],[]++before++[],⟨[]++before,[],trodAll_append (fC _ (fun _ _=>rfl)) (Sr _ _ _),Ss _,rfl,?_,?_⟩,?_⟩
 ·intro j t r h1 h2;rw [zJ] at h1 h2
  cases j with
  | zero=>
   simp only [List.getElem?_toArray,wC,yb] at h1;simp only [Value.resultList,List.size_toArray,yz,y5,yQ,yy,wC,yb] at h2;subst h1;subst h2;simp [Value.okWide,iH,Cell.okWide,Cell.ok]
  | succ j=>simp at h1
 ·intro b off hp;have hp:MemPlace.cell b off∈before:=by simpa using hp
  rw [Xk hc (b:=b) (aU _ hp)];exact hz b off hp
 ·intro ha
  have:=hn ha
  simpa using this
 ·intro p hp _;simpa using hp
def Y3 {O:aZ} {n k:Nat} {fn:Func} {s:yaA} {apart fresh handsOn again:Bool} {base:Nat} {args:Array ye} {ds gs:List (yY H)} {before:List xC} {tb:yp}
  (hp:dO O n (nD O.P k fn.params.toList ds) (.bool true)) (VB:O.w0=W) (r9:O.P.funcs[O.ae n]? =some fn) (hb:fn.body.isSome=true) (z7:fn.name≠ "runtime.NumGoroutine")
  (bC:∀(j:Nat) t v,fn.params[j]? =some t->args[j]? =some v->Value.okWide O.P W .any base t v)
  (hW:DataW.Whole enc O.P fn.params.toList s.vars apart W args.toList ds gs before) (hv:s.vars=[]) (EW:fn.params.toList.all (flat O.P k)=true)
  (hfs:s.fn H (ds++gs)={results:=[.lit (.bool true)],args:=ds}) (zJ:fn.resultTypes=#[tb]) (iH:O.P.underlying tb=some .bool):
  Calls O.P (O.ae n) args W fun e W'=>∃v,e= .returned v/\s.post enc O.P fn apart fresh handsOn again W args v W':=by
 have hA:=hW;obtain ⟨p,q,hA,_⟩:=hA;obtain ⟨h1,h2⟩:=N9 (ae:=O.ae) (m:=dD) (S:=fun b=>b<W.heap.size) (fun b hb=>hb) EW hA (fun j t v a b=>bC j t v (by simpa using a) (by simpa using b));have hi:=hp W (fun b=>b<W.heap.size) args ⟨fun b _=>by rw [VB],by rw [VB];exact yC _⟩ (fun b hb=>hb) h1 h2
 have key:∀e W',NS O W (fun b=>b<W.heap.size) (.bool true) e W'->∃v,e= .returned v/\s.post enc O.P fn apart fresh handsOn again W args v W':=by
  rintro e W' ⟨u,S',rfl,hc,_,_,_,hr⟩;simp only [jJ,fb,af] at hr;obtain ⟨_,_,hu,_⟩:=hr;subst hu;exact ⟨_,rfl,aaM hW hv EW hc hfs zJ iH⟩
 rcases hi with ⟨_,hi⟩ | ⟨u,w',hi,_⟩
 ·exact callsIn_wide.1 (hi.mono key)
 ·rw [H5 r9 hb z7] at hi;cases hi
end
end
section
namespace J1
open Go Go.Proofs
noncomputable def O (W:yg):aZ:=⟨Tryz.prog,VE.aI,nU mY.ae,VE.prog,EV mY.bE mY.hd,W⟩
def Ng {w:yg} {k:Nat} {os:Array Go.Obj}:Calm w (Go.Sort.grow (w.drewN k) os):=DA (Lib.below_grow w.heap.size w (yC _) k os)
def Oa {W w:yg} (h:Lib.TabIs Tryz.prog W "internal/strconv.uint64pow10" .u64 Lib.pow10Tab) (hg:o9 (O W) w):Lib.TabIs Tryz.prog w "internal/strconv.uint64pow10" .u64 Lib.pow10Tab:=by
 unfold Lib.TabIs World.var? at h ⊢
 cases hn:Tryz.prog.globalNamed "internal/strconv.uint64pow10" with
 | none=>rw [hn] at h;exact h
 | some g=>
  rw [hn] at h;simp only [xt] at h ⊢;have hb:g<W.heap.size:=by
   cases hq:W.heap[g]? with
   | none=>rw [hq] at h;cases h
   | some o=>exact (y8.1 hq).1
  rw [hg.1 g hb];exact h
def aiU:∀args w,(callFunc 208 args).run Tryz.prog w= .ok (.enter 208 args) w:=enters_of Tryz.func208 (by kernel_rfl) rfl
def aiV:∀args w,(callFunc 217 args).run Tryz.prog w= .ok (.enter 217 args) w:=enters_of Tryz.func217 (by kernel_rfl) rfl
def aiW:∀args w,(callFunc 229 args).run Tryz.prog w= .ok (.enter 229 args) w:=enters_of Tryz.func229 (by kernel_rfl) rfl
def aiX:∀args w,(callFunc 232 args).run Tryz.prog w= .ok (.enter 232 args) w:=enters_of Tryz.func232 (by kernel_rfl) rfl
def aiY:∀args w,(callFunc 233 args).run Tryz.prog w= .ok (.enter 233 args) w:=enters_of Tryz.func233 (by kernel_rfl) rfl
def aiZ:∀args w,(callFunc 239 args).run Tryz.prog w= .ok (.enter 239 args) w:=enters_of Tryz.func239 (by kernel_rfl) rfl
def ai0:∀args w,(callFunc 252 args).run Tryz.prog w= .ok (.enter 252 args) w:=enters_of Tryz.func252 (by kernel_rfl) rfl
def ai1:∀args w,(callFunc 253 args).run Tryz.prog w= .ok (.enter 253 args) w:=enters_of Tryz.func253 (by kernel_rfl) rfl
def ai2:∀args w,(callFunc 254 args).run Tryz.prog w= .ok (.enter 254 args) w:=enters_of Tryz.func254 (by kernel_rfl) rfl
def ai3:∀args w,(callFunc 261 args).run Tryz.prog w= .ok (.enter 261 args) w:=enters_of Tryz.func261 (by kernel_rfl) rfl
def ai4:∀args w,(callFunc 270 args).run Tryz.prog w= .ok (.enter 270 args) w:=enters_of Tryz.func270 (by kernel_rfl) rfl
def ai5:∀args w,(callFunc 296 args).run Tryz.prog w= .ok (.enter 296 args) w:=enters_of Tryz.func296 (by kernel_rfl) rfl
def ahu (W:yg) (n:Nat) (sp:List AV->Option AV):Prop:=∀vals r,sp vals=some r->dO (O W) n vals r
section
variable {W:yg} {m:Int} (hm:W.cell? ⟨2,0,none⟩=some (.int .i64 m)) (ht:Lib.TabIs Tryz.prog W "internal/strconv.uint64pow10" .u64 Lib.pow10Tab)
include hm ht
def aff:Ud.iG (ahu W):=
 (Tr.hY (WI (O:=O W) (f:=253) (by rfl) ai1 Tryz.strings_TrimPrefix)
  (Tr.hY (WJ (O:=O W) (f:=232) (by rfl) aiX (fun z w hz hg=>(Tryz.WD z hz w (Oa ht hg)).mono fun _ _ ⟨h1,k,os,h2⟩=>⟨h1,h2▸Ng⟩))
  (Tr.hY (WM (O:=O W) (f:=217) (by rfl) aiV Tryz.strings_CutPrefix)
  (Tr.hY (acr (O:=O W) (f:=208) (by rfl) aiU (a:=⟨2,0,none⟩) (m:=m) hm (fun s sep w hs hc=>Tryz.strings_Cut s sep m w hs hc))
  Tr.gi Tr.gi) (Tr.hY (aaB (O:=O W) (f:=229) (by rfl) aiW (fun z w h0 h1 hg=>(Tryz.strconv_Itoa z h0 h1 w (Oa ht hg)).mono fun _ _ ⟨h1,k,os,h2⟩=>⟨h1,h2▸Ng⟩))
  Tr.gi Tr.gi)) (Tr.hY (YT (O:=O W) (f:=239) (by rfl) aiZ (fun x y w hx hy=>Tryz.bits_Mul64 x y hx hy w))
  (Tr.hY (XO (O:=O W) (f:=233) (by rfl) aiY Tryz.strings_Repeat)
  Tr.gi Tr.gi) (Tr.hY (WO (O:=O W) (f:=252) (by rfl) ai0 Tryz.strings_HasPrefix)
  Tr.gi Tr.gi))) (Tr.hY (YV (O:=O W) (f:=278) (by rfl) (fun x y c w h=>Tryz.bits_Add64 x y c h w))
  (Tr.hY (aaA (O:=O W) (f:=261) (by rfl) ai3 (fun s cs w hs pM ha=>Tryz.W1 s cs w hs pM ha))
  (Tr.hY (aaC (O:=O W) (f:=254) (by rfl) ai2 (fun s z w hl h=>(Tryz.strconv_Atoi s z hl h w).mono fun _ _ ⟨h1,t,h2⟩=>⟨h1,h2▸DA (Lib.bytesWorld_below _ _ _)⟩))
  Tr.gi Tr.gi) (Tr.hY (aaD (O:=O W) (f:=270) (by rfl) ai4 (fun x w h0 h1=>Tryz.bits_LeadingZeros64 x w h0 h1))
  Tr.gi Tr.gi)) (Tr.hY (YU (O:=O W) (f:=296) (by rfl) ai5 (fun x w h0 h1=>Tryz.bits_Len64 x w h0 h1))
  (Tr.hY (YW (O:=O W) (f:=288) (by rfl) (fun x y b w h=>Tryz.bits_Sub64 x y b h w))
  Tr.gi Tr.gi) Tr.gi)))
def acI:dX (O W) where
 hint n f g h:=Tr.qD (p:=fun f g=>nU mY.ae g=f) (Hc mY.ae2) h
 mixed:=by kernel_rfl
 prog n F h:=Tr.qD mY.acE h
 aI n sp vals r h hs:=Tr.qD (aff hm ht) h vals r hs
 Fc n sp hp ct vals v ai aK h:=by cases h
end
end J1
end
section
section
variable {P:aA} {L:Lib} {f:bZ} {F:Nat->bZ}
def p5 (f:bZ) (F:Nat->bZ):Prop:=∀c s r,f c s=some r->∃n,F n c s=some r
def Mon (F:Nat->bZ):Prop:=∀n m,n<=m->Le (F n) (F m)
def Dl (h:p5 f F) (n:Nat) (vals:List AV) (r:AV) (hr:cf P L f n vals=some r):∃k,cf P L (F k) n vals=some r:=by
 unfold cf at hr ⊢
 cases hL:L.pure n with
 | some sp=>exact ⟨0,by simpa only [hL] using hr⟩
 | none=>
  simp only [hL] at hr ⊢
  cases hP:P n with
  | none=>simp [hP] at hr
  | some G=>
   simp only [hP] at hr ⊢
   cases hf:f G.body ⟨eE 0 vals,[],0,0⟩ with
   | none=>simp [hf] at hr
   | some q=>
    obtain ⟨k,hk⟩:=h _ _ _ hf
    grind
def Hd (h:p5 f F) (hp:Hp) (ct:Nat) (n:Nat) (vals:List AV) (r:AV×Hp×Nat) (hr:fA P L f hp ct n vals=some r):∃k,fA P L (F k) hp ct n vals=some r:=by
 unfold fA at hr ⊢
 cases hL:L.heap n with
 | some sp=>exact ⟨0,by simpa only [hL] using hr⟩
 | none=>
  simp only [hL] at hr ⊢
  cases hP:P n with
  | none=>simp [hP] at hr
  | some G=>
   simp only [hP] at hr ⊢
   cases hf:f G.body ⟨eE 0 vals,hp,ct,ct⟩ with
   | none=>simp [hf] at hr
   | some q=>
    obtain ⟨k,hk⟩:=h _ _ _ hf
    grind
def LR (h:p5 f F) (hm:Mon F) (hp:Hp) (ct:Nat) (l:Nat) (xs:List AV) (r:AV×Hp×Nat) (hr:fy f hp ct l xs=some r):∃k,fy (F k) hp ct l xs=some r:=by
 have key:∃k,∀g,Le (F k) g->fy g hp ct l xs=some r:=by
  unfold fy at hr
  cases hl:aj hp l with
  | none=>simp [hl] at hr
  | some o=>
   split at hr
   ·rename_i tm ps as_ body pe oh
    cases hb:lG tm ps xs with
    | none=>simp [hb] at hr
    | some tm'=>
     simp only [hb] at hr
     cases h1:f as_ ⟨tm',hp,ct,ct⟩ with
     | none=>simp [h1] at hr
     | some q=>
      obtain ⟨k1,jR⟩:=h _ _ _ h1
      split at hr
      ·rename_i s1 Jz
       split at hr
       ·rename_i lT mM rT re kS S7
        cases h2:f body ⟨s1.tm,aW s1.hp l (.lp lT mM rT re 1 kS),s1.ct,s1.ct⟩ with
        | none=>simp [h2] at hr
        | some q2=>
         obtain ⟨k2,n9⟩:=h _ _ _ h2;refine ⟨max k1 k2,fun g hg=>?_⟩;have e1:=hg _ _ _ (hm k1 _ (wR k1 k2) _ _ _ jR);have e2:=hg _ _ _ (hm k2 _ (wJ k1 k2) _ _ _ n9);unfold fy
         grind
       ·simp at hr
      ·simp at hr
   ·simp at hr
 obtain ⟨k,hk⟩:=key;exact ⟨k,hk _ (fun _ _ _ h=>h)⟩
def Ms (h:p5 f F) (hm:Mon F) (hp:Hp) (ct:Nat) (m:Md) (fv:AV) (xs:List AV) (r:AV×Hp×Nat) (hr:cw P L f hp ct m fv xs=some r):∃k,cw P L (F k) hp ct m fv xs=some r:=by
 unfold cw at hr ⊢
 split at hr
 ·rename_i n first cap
  cases m with
  | pure=>
   cases hz:bO deep hp (first++(xs++cap)) with
   | none=>simp [hz] at hr
   | some q=>
    simp only [hz] at hr ⊢
    cases hc:cf P L f n q.1 with
    | none=>simp [hc] at hr
    | some u=>
     obtain ⟨k,hk⟩:=Dl h n q.1 u hc
     grind
  | own=>
   cases hz:bO deep hp (first++(xs++cap)) with
   | none=>simp [hz] at hr
   | some q=>
    simp only [hz] at hr ⊢
    cases hc:cf P L f n q.1 with
    | none=>simp [hc] at hr
    | some u=>
     obtain ⟨k,hk⟩:=Dl h n q.1 u hc
     grind
  | heap=>exact Hd h _ _ _ _ _ hr
  | dyn=>
   cases hz:ax (first++(xs++cap)) with
   | true=>
    simp only [hz,ym] at hr ⊢
    cases hc:cf P L f n (first++(xs++cap)) with
    | none=>simp [hc] at hr
    | some u=>
     obtain ⟨k,hk⟩:=Dl h n _ u hc
     grind
   | false=>
    simp only [hz,yu] at hr ⊢;exact Hd h _ _ _ _ _ hr
 ·split at hr
  ·exact LR h hm _ _ _ _ _ hr
  ·exact LR h hm _ _ _ _ _ hr
  ·simp at hr
 ·simp at hr
def aaN (h:p5 f F) (hm:Mon F) (tm:Env) (hp:Hp) (ct:Nat) (o:Op) (r:AV×Hp×Nat) (hr:aY P L f tm hp ct o=some r):∃k,aY P L (F k) tm hp ct o=some r:=by
 unfold aY at hr ⊢
 split at hr
 ·exact Ms h hm _ _ _ _ _ _ hr
 ·rename_i rs fv xs
  cases hc:cw P L f hp ct .dyn (ao tm fv) (cx tm xs) with
  | none=>simp [hc] at hr
  | some q=>
   obtain ⟨k,hk⟩:=Ms h hm _ _ _ _ _ _ hc
   grind
 all_goals exact ⟨0,by simpa only using hr⟩
def HF (h:p5 f F) (hm:Mon F):∀(ops:List aR) (s s':St),cN P L f ops s=some s'->∃k,cN P L (F k) ops s=some s'
 | [],s,s',hr=>⟨0,by simpa only [cN] using hr⟩
 | ⟨d,gd,o⟩::r,s,s',hr=>by
  simp only [cN] at hr ⊢
  split at hr
  ·rename_i hw
   cases ho:aY P L f s.tm s.hp s.ct o with
   | none=>simp [ho] at hr
   | some q=>
    obtain ⟨k1,jR⟩:=aaN h hm _ _ _ _ _ ho;simp only [ho] at hr;obtain ⟨k2,n9⟩:=HF h hm r _ _ hr;refine ⟨max k1 k2,?_⟩;rw [M7 (hm k1 _ (wR k1 k2)) _ _ _ _ _ jR];exact Dx (hm k2 _ (wJ k1 k2)) r _ _ n9
  ·rename_i hw;exact HF h hm r _ _ hr
  ·simp at hr
def qv (h:p5 f F) (hm:Mon F):∀(c:VC) (s:St) (r:Ex×St),bh P L f c s=some r->∃k,bh P L (F k) c s=some r
 | .skip,s,r,hr=>⟨0,by simpa only [bh] using hr⟩
 | .aB ops,s,r,hr=>by
  simp only [bh] at hr ⊢
  cases ho:cN P L f ops s with
  | none=>simp [ho] at hr
  | some s'=>
   obtain ⟨k,hk⟩:=HF h hm _ _ _ ho
   grind
 | .seq a b,s,r,hr=>by
  simp only [bh] at hr ⊢
  cases ha:bh P L f a s with
  | none=>simp [ha] at hr
  | some q=>
   obtain ⟨k1,jR⟩:=qv h hm a s q ha;obtain ⟨ex,s1⟩:=q
   cases ex with
   | normal=>
    simp only [ha] at hr;obtain ⟨k2,n9⟩:=qv h hm b s1 r hr;refine ⟨max k1 k2,?_⟩;rw [ll (hm k1 _ (wR k1 k2)) a s _ jR];exact ll (hm k2 _ (wJ k1 k2)) b s1 r n9
   | ret=>exact ⟨k1,by rw [jR];simpa only [ha] using hr⟩
   | exit id=>exact ⟨k1,by rw [jR];simpa only [ha] using hr⟩
 | .cond x a b,s,r,hr=>by
  simp only [bh] at hr ⊢
  split at hr
  ·rename_i t ht
   cases t with
   | true=>simp only [ym] at hr ⊢;exact qv h hm a s r hr
   | false=>simp only [yu] at hr ⊢;exact qv h hm b s r hr
  ·simp at hr
 | .aw id a,s,r,hr=>by
  simp only [bh] at hr ⊢
  cases ha:bh P L f a s with
  | none=>simp [ha] at hr
  | some q=>
   obtain ⟨k,hk⟩:=qv h hm a s q ha
   grind
 | .kp live,s,r,hr=>⟨0,by simpa only [bh] using hr⟩
 | .fz ts,s,r,hr=>⟨0,by simpa only [bh] using hr⟩
 | .loop live a,s,r,hr=>by
  simp only [bh] at hr ⊢
  cases ha:bh P L f a (bw live s) with
  | none=>simp [ha] at hr
  | some q=>
   obtain ⟨k1,jR⟩:=qv h hm a _ q ha;obtain ⟨ex,s1⟩:=q
   cases ex with
   | normal=>
    simp only [ha] at hr;obtain ⟨k2,n9⟩:=h _ _ _ hr;refine ⟨max k1 k2,?_⟩;rw [ll (hm k1 _ (wR k1 k2)) a _ _ jR];exact hm k2 _ (wJ k1 k2) _ _ _ n9
   | ret=>exact ⟨k1,by rw [jR];simpa only [ha] using hr⟩
   | exit id=>exact ⟨k1,by rw [jR];simpa only [ha] using hr⟩
 | .rf fv ps as_ body,s,r,hr=>by
  simp only [bh] at hr ⊢
  split at hr
  ·rename_i n first cap hx
   split at hr
   ·grind
   ·rename_i hL
    cases hc:fA P L f ((s.ct,.lp s.tm ps as_ body 0 .none)::s.hp) (s.ct+1) n (first++(.fn (.y s.ct) [] []::cap)) with
    | none=>simp [hc] at hr
    | some q=>
     obtain ⟨k,hk⟩:=Hd h _ _ _ _ _ hc
     grind
  ·simp at hr
 | .exit id,s,r,hr=>⟨0,by simpa only [bh] using hr⟩
 | .ret,s,r,hr=>⟨0,by simpa only [bh] using hr⟩
end
section
variable (P:aA) (L:Lib)
noncomputable def D:bZ:=fun c s=>@dite _ (∃r n,ev P L n c s=some r) (Classical.propDecidable _) (fun h=>some h.choose) (fun _=>none)
variable {P L}
def Ue {c:VC} {s:St} {r:Ex×St} {n:Nat} (h:ev P L n c s=some r):D P L c s=some r:=by
 have hx:∃r n,ev P L n c s=some r:=⟨r,n,h⟩;unfold D;obtain ⟨m,hm⟩:=hx.choose_spec;have e1:=Iz P L (wR n m) _ _ _ h;have e2:=Iz P L (wJ n m) _ _ _ hm
 grind
def Uf {c:VC} {s:St} {r:Ex×St} (h:D P L c s=some r):∃n,ev P L n c s=some r:=by
 unfold D at h;by_cases hx:∃r n,ev P L n c s=some r
 ·grind
 ·grind
def ai6 (n:Nat):Le (ev P L n) (D P L):=fun _ _ _ h=>Ue h
def Su:p5 (D P L) (ev P L):=fun _ _ _ h=>Uf h
def afg:Mon (ev P L):=fun _ _ h=>Iz P L h
def ic (c:VC) (s:St):D P L c s=bh P L (D P L) c s:=by
 cases h:D P L c s with
 | some r=>
  obtain ⟨n,hn⟩:=Uf h
  cases n with
  | zero=>rw [Eh] at hn;cases hn
  | succ n=>rw [A6] at hn;exact (ll (ai6 n) c s r hn).symm
 | none=>
  cases hs:bh P L (D P L) c s with
  | none=>rfl
  | some r=>
   obtain ⟨n,hn⟩:=qv Su afg c s r hs;rw [<-A6] at hn;rw [Ue hn] at h;cases h
def afh {f:Nat} {vals:List AV} {r:AV} (h:cf P L (D P L) f vals=some r):∃n,JZ P L n f vals=some r:=Dl Su f vals r h
end
end
section
open Go (IntKind BinOp UnOp)
section
variable {P:aA} {L:Lib}
structure Has (P:aA) (L:Lib) (n:Nat) (F:av):Prop where
 pure:L.pure n=none
 heap:L.heap n=none
 code:P n=some F
noncomputable def rq (P:aA) (L:Lib) (r:Option (Ex×St)) (b:VC):Option (Ex×St):=match r with | some (.normal,s)=>D P L b s | r=>r
def pf (id:Nat) (r:Option (Ex×St)):Option (Ex×St):=match r with | some (.exit j,s)=>bif yq j id then some (.normal,s) else some (.exit j,s) | r=>r
noncomputable def BT (P:aA) (L:Lib) (live:List Nat) (a:VC) (r:Option (Ex×St)):Option (Ex×St):=match r with | some (.normal,s)=>D P L (.loop live a) s | r=>r
def norm (r:Option St):Option (Ex×St):=match r with | some s=>some (.normal,s) | none=>none
noncomputable def EX (P:aA) (L:Lib) (v:AV) (a b:VC) (s:St):Option (Ex×St):=match v with | .bool t=>bif t then D P L a s else D P L b s | _=>none
def afi (s:St):D P L .skip s=some (.normal,s):=by rw [ic];rfl
def afj (id:Nat) (s:St):D P L (.exit id) s=some (.exit id,s):=by rw [ic];rfl
def ahv (s:St):D P L .ret s=some (.ret,s):=by rw [ic];rfl
def Fx (live:List Nat) (s:St):D P L (.kp live) s=some (.normal,bw live s):=by rw [ic];rfl
def ai7 (ts:List Nat) (s:St):D P L (.fz ts) s=norm (kA ts s):=by rw [ic];rfl
def I8 (ops:List aR) (s:St):D P L (.aB ops) s=norm (cN P L (D P L) ops s):=by rw [ic];rfl
def mA (a b:VC) (s:St):D P L (.seq a b) s=rq P L (D P L a s) b:=by
 rw [ic,ic a];simp only [bh,rq]
 cases bh P L (D P L) a s with
 | none=>rfl
 | some q=>
  obtain ⟨e,s1⟩:=q
  cases e with
  | normal=>exact (ic b s1).symm
  | ret=>rfl
  | exit id=>rfl
def afk (x:X) (a b:VC) (s:St):D P L (.cond x a b) s=EX P L (ao s.tm x) a b s:=by
 rw [ic];simp only [bh,EX]
 cases ao s.tm x with
 | bool t=>
  cases t with
  | true=>exact (ic a s).symm
  | false=>exact (ic b s).symm
 | _=>rfl
def I9 (id:Nat) (a:VC) (s:St):D P L (.aw id a) s=pf id (D P L a s):=by
 rw [ic,ic a];simp only [bh,pf]
 cases bh P L (D P L) a s with
 | none=>rfl
 | some q=>obtain ⟨e,s1⟩:=q;cases e<;>rfl
def IS (live:List Nat) (a:VC) (s:St):D P L (.loop live a) s=BT P L live a (D P L a (bw live s)):=by
 rw [ic,ic a];simp only [bh,BT]
 cases bh P L (D P L) a (bw live s) with
 | none=>rfl
 | some q=>obtain ⟨e,s1⟩:=q;cases e<;>rfl
def jB (s:St) (b:VC):rq P L (some (.normal,s)) b=D P L b s:=rfl
def acJ (s:St) (b:VC):rq P L (some (.ret,s)) b=some (.ret,s):=rfl
def acK (id:Nat) (s:St) (b:VC):rq P L (some (.exit id,s)) b=some (.exit id,s):=rfl
def PH (live:List Nat) (a:VC) (s:St):BT P L live a (some (.normal,s))=D P L (.loop live a) s:=rfl
def acL (live:List Nat) (a:VC) (s:St):BT P L live a (some (.ret,s))=some (.ret,s):=rfl
def acM (live:List Nat) (a:VC) (id:Nat) (s:St):BT P L live a (some (.exit id,s))=some (.exit id,s):=rfl
def IB (id:Nat) (s:St):pf id (some (.normal,s))=some (.normal,s):=rfl
def acN (id:Nat) (s:St):pf id (some (.ret,s))=some (.ret,s):=rfl
def Ei (id:Nat) (s:St):pf id (some (.exit id,s))=some (.normal,s):=by simp only [pf,y7,ym]
def acO {id j:Nat} (s:St) (h:j≠id):pf id (some (.exit j,s))=some (.exit j,s):=by
 have:yq j id=false:=by
  cases hq:yq j id with
  | false=>rfl
  | true=>exact absurd (yk hq) h
 simp only [pf,this,yu]
def Re (s:St):norm (some s)=some (.normal,s):=rfl
def afl:norm none=none:=rfl
def acP (a b:VC) (s:St):EX P L (.bool true) a b s=D P L a s:=rfl
def acQ (a b:VC) (s:St):EX P L (.bool false) a b s=D P L b s:=rfl
noncomputable def Ja (P:aA) (L:Lib) (d:Option Nat) (r:List aR) (tm:Env) (base:Nat) (q:ez):Option St:=
 match q with | some (v,hp,ct)=>cN P L (D P L) r ⟨put d v tm,hp,ct,base⟩ | none=>none
noncomputable def qX (P:aA) (L:Lib) (v:AV) (b:Bool) (d:Option Nat) (o:Op) (r:List aR) (s:St):Option St:=
 match v with
 | .bool c=>bif c==b then cN P L (D P L) (⟨d,none,o⟩::r) s else cN P L (D P L) r ⟨put d (.ay []) s.tm,s.hp,s.ct,s.base⟩
 | .ay []=>cN P L (D P L) r ⟨put d (.ay []) s.tm,s.hp,s.ct,s.base⟩
 | _=>none
def PI (s:St):cN P L (D P L) [] s=some s:=rfl
def aaO (d:Option Nat) (o:Op) (r:List aR) (tm:Env) (hp:Hp) (ct base:Nat):
  cN P L (D P L) (⟨d,none,o⟩::r) ⟨tm,hp,ct,base⟩=Ja P L d r tm base (aY P L (D P L) tm hp ct o):=by
 simp only [cN,Ja]
 grind
def Y4 (d:Option Nat) (t:Nat) (b:Bool) (o:Op) (r:List aR) (tm:Env) (hp:Hp) (ct base:Nat):
  cN P L (D P L) (⟨d,some (t,b),o⟩::r) ⟨tm,hp,ct,base⟩=qX P L (ah tm t) b d o r ⟨tm,hp,ct,base⟩:=by
 simp only [cN,qX]
 cases ah tm t with
 | bool c=>
  simp only
  cases hc:(c==b) with
  | true=>simp only [ym]
  | false=>simp only [yu]
 | ay vs=>cases vs<;>rfl
 | _=>rfl
def PJ (d:Option Nat) (r:List aR) (tm:Env) (base:Nat) (v:AV) (hp:Hp) (ct:Nat):Ja P L d r tm base (some (v,hp,ct))=cN P L (D P L) r ⟨put d v tm,hp,ct,base⟩:=rfl
def ahw (i:Nat) (v:AV) (tm:Env):put (some i) v tm=(i,v)::tm:=rfl
def Sv (v:AV) (tm:Env):put none v tm=tm:=rfl
def aaP (d:Option Nat) (o:Op) (r:List aR) (s:St):qX P L (.bool true) true d o r s=cN P L (D P L) (⟨d,none,o⟩::r) s:=rfl
def aaQ (d:Option Nat) (o:Op) (r:List aR) (s:St):qX P L (.bool false) false d o r s=cN P L (D P L) (⟨d,none,o⟩::r) s:=rfl
def aaR (d:Option Nat) (o:Op) (r:List aR) (tm:Env) (hp:Hp) (ct base:Nat):qX P L (.bool true) false d o r ⟨tm,hp,ct,base⟩=cN P L (D P L) r ⟨put d (.ay []) tm,hp,ct,base⟩:=rfl
def aaS (d:Option Nat) (o:Op) (r:List aR) (tm:Env) (hp:Hp) (ct base:Nat):qX P L (.bool false) true d o r ⟨tm,hp,ct,base⟩=cN P L (D P L) r ⟨put d (.ay []) tm,hp,ct,base⟩:=rfl
def acR (b:Bool) (d:Option Nat) (o:Op) (r:List aR) (tm:Env) (hp:Hp) (ct base:Nat):qX P L (.ay []) b d o r ⟨tm,hp,ct,base⟩=cN P L (D P L) r ⟨put d (.ay []) tm,hp,ct,base⟩:=rfl
def ck {j i:Nat} (h:j≠i):yq j i=false:=by
 cases hq:yq j i with
 | false=>rfl
 | true=>exact absurd (yk hq) h
def afm (tm:Env) (i:Nat):ao tm (.t i)=ah tm i:=rfl
def afn (tm:Env) (v:AV):ao tm (.c v)=v:=rfl
def Y5 (tm:Env):cx tm []=[]:=rfl
def XR (tm:Env) (x:X) (r:List X):cx tm (x::r)=ao tm x::cx tm r:=rfl
def aaT (i:Nat) (v:AV) (r:Env):ah ((i,v)::r) i=v:=by simp only [ah,y7,ym]
def Y6 {j i:Nat} (v:AV) (r:Env) (h:j≠i):ah ((j,v)::r) i=ah r i:=by simp only [ah,ck h,yu]
def Ib (i:Nat) (o:Obj) (r:Hp):aj ((i,o)::r) i=some o:=by simp only [aj,y7,ym]
def Y7 {j i:Nat} (o:Obj) (r:Hp) (h:j≠i):aj ((j,o)::r) i=aj r i:=by simp only [aj,ck h,yu]
def Ob (i:Nat) (o u:Obj) (r:Hp):aW ((i,o)::r) i u=(i,u)::r:=by simp only [aW,y7,ym]
def Y8 {j i:Nat} (o u:Obj) (r:Hp) (h:j≠i):aW ((j,o)::r) i u=(j,o)::aW r i u:=by simp only [aW,ck h,yu]
def aaU (i:Nat):cp [] i=[]:=rfl
def aaV (i:Nat) (o:Obj) (r:Hp):cp ((i,o)::r) i=cp r i:=by simp only [cp,y7,ym]
def Y9 {j i:Nat} (o:Obj) (r:Hp) (h:j≠i):cp ((j,o)::r) i=(j,o)::cp r i:=by simp only [cp,ck h,yu]
def rd (hp:Hp) (ct:Nat) (q:Option AV):ez:=match q with | some v=>some (v,hp,ct) | none=>none
def mk (hp:Hp) (ct:Nat) (q:Option (AV×Obj)):ez:=match q with | some (v,b)=>some (v,(ct,b)::hp,ct+1) | none=>none
def ai8 (hp:Hp) (ct:Nat) (v:AV):rd hp ct (some v)=some (v,hp,ct):=rfl
def ai9 (hp:Hp) (ct:Nat) (v:AV) (b:Obj):mk hp ct (some (v,b))=some (v,(ct,b)::hp,ct+1):=rfl
def Jb (c a b:AV):Option AV:=match c with | .bool t=>some (bif t then a else b) | _=>none
def CX (k:Nat->Option AV) (n:Option Nat):Option AV:=match n with | some i=>k i | none=>none
def Sw (r:Option (List AV)):Option AV:=match r with | some cs=>some (.agg cs) | none=>none
def Fy (ne:Bool) (r:Option Bool):Option AV:=match r with | some b=>some (.bool (ne !=b)) | none=>none
def aja:AV->Option AV
 | .ptr id o=>some (.ptr id o)
 | .aO cs=>some (.aO cs)
 | .fn f a b=>some (.fn f a b)
 | _=>none
def Cb (i:Nat):AV->Option AV | .ay vs=>vs[i]? | _=>none
section
variable {f:bZ} {tm:Env} {hp:Hp} {ct:Nat}
def afo (x:X):aY P L f tm hp ct (.br x)=some (ao tm x,hp,ct):=rfl
def acS (c a b:X):aY P L f tm hp ct (.pick c a b)=rd hp ct (Jb (ao tm c) (ao tm a) (ao tm b)):=by
 rfl
def aaW (z:List AV) (ps:List (Nat×Nat×X)):aY P L f tm hp ct (.df z ps)=rd hp ct (Sw (fill tm z ps)):=by
 rfl
def ahx (sz:Nat) (ag:Bool) (x:X):aY P L f tm hp ct (.ld sz ag x)=rd hp ct (fT hp sz ag (ao tm x)):=rfl
def acT (x:X):aY P L f tm hp ct (.B0 x)=rd hp ct (aja (ao tm x)):=by
 rfl
def afp (op:BinOp) (x y:X):aY P L f tm hp ct (.bin op x y)=rd hp ct (binOp op (ao tm x) (ao tm y)):=rfl
def ahy (ne:Bool) (k:FI) (x y:X):aY P L f tm hp ct (.eq ne k x y)=rd hp ct (Fy ne (gN k (ao tm x) (ao tm y))):=by
 rfl
def ahz (op:UnOp) (x:X):aY P L f tm hp ct (.un op x)=rd hp ct (unOp op (ao tm x)):=rfl
def ahA (k:Conv) (x:X):aY P L f tm hp ct (.cv k x)=rd hp ct (lL k (ao tm x)):=rfl
def afq (g:Fr) (a b:List X):aY P L f tm hp ct (.jr g a b)=some (.fn g (cx tm a) (cx tm b),hp,ct):=rfl
def afr (k:Cut) (x:X) (lo hi:Option X):aY P L f tm hp ct (.cV k x lo hi)=rd hp ct (fg hp k (ao tm x) tm lo hi):=rfl
def afs (k:Nat) (x:X):aY P L f tm hp ct (.off k x)=rd hp ct (BE k (ao tm x)):=rfl
def aft (o sz:Nat) (ag:Bool) (x:X):aY P L f tm hp ct (.Cq o sz ag x)=rd hp ct (ED o sz ag (ao tm x)):=rfl
def afu (sz:Nat) (x i:X):aY P L f tm hp ct (.a7 sz x i)=rd hp ct (CX (fun j=>fh sz j (ao tm x)) (cP (ao tm i))):=by
 rfl
def afv (n sz:Nat) (x i:X):aY P L f tm hp ct (.zU n sz x i)=rd hp ct (CX (fun j=>EE n sz j (ao tm x)) (cP (ao tm i))):=by
 rfl
def afw (x i:X):aY P L f tm hp ct (.ik x i)=rd hp ct (CX (fun j=>lH j (ao tm x)) (cP (ao tm i))):=by
 rfl
def afx (n sz:Nat) (ag:Bool) (x i:X):aY P L f tm hp ct (.pE n sz ag x i)=rd hp ct (CX (fun j=>BF n sz ag j (ao tm x)) (cP (ao tm i))):=by
 rfl
def afy (i:Nat) (x:X):aY P L f tm hp ct (.ext i x)=rd hp ct (Cb i (ao tm x)):=by
 rfl
def afz (k:Nat) (x:X):aY P L f tm hp ct (.len k x)=rd hp ct (eY hp k (ao tm x)):=rfl
def afA (sz:Nat) (x:X):aY P L f tm hp ct (.box sz x)=mk hp ct (bV tm hp ct (.box sz x)):=rfl
def acU (n sz:Nat) (z:List AV) (ps:List (Nat×Nat×X)):aY P L f tm hp ct (.cd n sz z ps)=mk hp ct (bV tm hp ct (.cd n sz z ps)):=rfl
def afB (sz by':Nat) (z:List AV) (l c:X):aY P L f tm hp ct (.eT sz by' z l c)=mk hp ct (bV tm hp ct (.eT sz by' z l c)):=rfl
def afC:aY P L f tm hp ct .nZ=some (.map ct,(ct,.mp true [] [])::hp,ct+1):=rfl
def afD (x:X):aY P L f tm hp ct (.kP x)=mk hp ct (bV tm hp ct (.kP x)):=rfl
def ahB (sz:Nat) (x v:X):aY P L f tm hp ct (.st sz x v)=b8 tm hp ct (.st sz x v):=rfl
def afE (sz by':Nat) (s x:X):aY P L f tm hp ct (.cC sz by' s x)=b8 tm hp ct (.cC sz by' s x):=rfl
def EY (hp:Hp) (ct:Nat) (r:Option AV):ez:=match r with | some v=>some (shut v,hp,ct) | none=>none
def Fz (hp:Hp) (ct:Nat) (r:Option AV):ez:=match r with | some v=>some (own hp ct v) | none=>none
def Jc (P:aA) (L:Lib) (f:bZ) (ct n:Nat) (q:Option (List AV×Hp)):ez:=match q with | some (vals,hp)=>EY hp ct (cf P L f n vals) | none=>none
def Jd (P:aA) (L:Lib) (f:bZ) (ct n:Nat) (q:Option (List AV×Hp)):ez:=match q with | some (vals,hp)=>Fz hp ct (cf P L f n vals) | none=>none
def Je (P:aA) (L:Lib) (f:bZ) (hp:Hp) (ct:Nat) (fv:AV) (xs:List AV):ez:=cw P L f hp ct .pure fv xs
def Jf (P:aA) (L:Lib) (f:bZ) (hp:Hp) (ct:Nat) (fv:AV) (xs:List AV):ez:=cw P L f hp ct .own fv xs
def aaX (g:X) (xs:List X):aY P L f tm hp ct (.call .pure g xs)=Je P L f hp ct (ao tm g) (cx tm xs):=rfl
def aaY (g:X) (xs:List X):aY P L f tm hp ct (.call .own g xs)=Jf P L f hp ct (ao tm g) (cx tm xs):=rfl
def aaZ (g:X) (xs:List X):aY P L f tm hp ct (.call .heap g xs)=cw P L f hp ct .heap (ao tm g) (cx tm xs):=rfl
def acV (n:Nat) (first cap xs:List AV):Je P L f hp ct (.fn (.f n) first cap) xs=Jc P L f ct n (bO deep hp (first++(xs++cap))):=by
 simp only [Je,cw,Jc,EY]
 cases bO deep hp (first++(xs++cap)) with
 | none=>rfl
 | some q=>cases cf P L f n q.1<;>rfl
def acW (n:Nat) (first cap xs:List AV):Jf P L f hp ct (.fn (.f n) first cap) xs=Jd P L f ct n (bO deep hp (first++(xs++cap))):=by
 simp only [Jf,cw,Jd,Fz]
 cases bO deep hp (first++(xs++cap)) with
 | none=>rfl
 | some q=>cases cf P L f n q.1<;>rfl
def acX (n:Nat) (vals:List AV):Jc P L f ct n (some (vals,hp))=EY hp ct (cf P L f n vals):=rfl
def acY (n:Nat) (vals:List AV):Jd P L f ct n (some (vals,hp))=Fz hp ct (cf P L f n vals):=rfl
def acZ (v:AV):EY hp ct (some v)=some (shut v,hp,ct):=rfl
def afF (v:AV):Fz hp ct (some v)=some (own hp ct v):=rfl
def FA (hp:Hp) (r:Option AV):Option AV:=match r with | some v=>result hp v | none=>none
def jL (rs:List RV) (q:Option (Ex×St)):Option AV:=
 match q with
 | some (.normal,s) | some (.ret,s)=>FA s.hp (fe s rs)
 | _=>none
def aT {n:Nat} {F:av} (h:Has P L n F) (vals:List AV):cf P L f n vals=jL F.bF (f F.body ⟨eE 0 vals,[],0,0⟩):=by
 simp only [cf,h.pure,h.code]
 cases hq:f F.body ⟨eE 0 vals,[],0,0⟩ with
 | none=>rfl
 | some q=>
  obtain ⟨e,s⟩:=q
  cases e with
  | normal=>rfl
  | ret=>rfl
  | exit id=>rfl
def afG (rs:List RV) (s:St):jL rs (some (.normal,s))=FA s.hp (fe s rs):=rfl
def Rg (rs:List RV) (s:St):jL rs (some (.ret,s))=FA s.hp (fe s rs):=rfl
def Rh (v:AV):FA hp (some v)=result hp v:=rfl
def Cd (r:RV) (s:St):fe s [r]=results1 s r:=by
 simp only [fe,ir];cases results1 s r<;>rfl
def Ug (r:Option (List AV)):Option AV:=match r with | some vs=>some (.ay vs) | none=>none
def ajb (r q:RV) (l:List RV) (s:St):fe s (r::q::l)=Ug (ir s (r::q::l)):=by
 simp only [fe,ir];cases results1 s r<;>cases results1 s q<;>cases ir s l<;>rfl
def Sx (r:Option AV) (l:Option (List AV)):Option (List AV):=match r,l with | some v,some vs=>some (v::vs) | _,_=>none
def aa0 (s:St):ir s []=some []:=rfl
def Za (r:RV) (l:List RV) (s:St):ir s (r::l)=Sx (results1 s r) (ir s l):=rfl
def ac0 (v:AV) (vs:List AV):Sx (some v) (some vs)=some (v::vs):=rfl
def afH (vs:List AV):Ug (some vs)=some (.ay vs):=rfl
def BU (i:Nat) (s:St):results1 s (.t i)=some (ah s.tm i):=rfl
def ahC (a:AV):eE 0 [a]=[(0,a)]:=rfl
def Sy (a b:AV):eE 0 [a,b]=[(0,a),(1,b)]:=rfl
def ahD (a b c:AV):eE 0 [a,b,c]=[(0,a),(1,b),(2,c)]:=rfl
def ahE (a b c d:AV):eE 0 [a,b,c,d]=[(0,a),(1,b),(2,c),(3,d)]:=rfl
def ahF (a b c d e:AV):eE 0 [a,b,c,d,e]=[(0,a),(1,b),(2,c),(3,d),(4,e)]:=rfl
def XS (k:yJ) (n:Int):result hp (.int k n)=some (.int k n):=rfl
def Xl (b:Bool):result hp (.bool b)=some (.bool b):=rfl
def XT (s:List Nat):result hp (.str s)=some (.str s):=rfl
def Xm:result hp .ab=some .ab:=rfl
def XU (e:Bool) (n:Nat) (cs:List AV):result hp (.aC e n cs)=some (.aC e n cs):=rfl
def shut_int (k:yJ) (n:Int):shut (.int k n)= .int k n:=rfl
def shut_bool (b:Bool):shut (.bool b)= .bool b:=rfl
def aa1 (s:List Nat):shut (.str s)= .str s:=rfl
def Zb:shut .ab= .ab:=rfl
def aa2 (e:Bool) (n:Nat) (cs:List AV):shut (.aC e n cs)= .aC e n cs:=rfl
def aa3 (e:Bool) (sz n:Nat) (cs:List AV):shut (.bS e sz n cs)= .aC e n cs:=rfl
def dM (cs:List AV):shut (.agg cs)= .agg cs:=rfl
def ac1 (g:Fr) (a b:List AV):shut (.fn g a b)= .fn g a b:=rfl
def aa4 (vs:List AV):shut (.ay vs)= .ay (q9 vs):=rfl
def Zc:q9 []=[]:=rfl
def XV (v:AV) (r:List AV):q9 (v::r)=bg v::q9 r:=rfl
def Zd (k:yJ) (n:Int):bg (.int k n)= .int k n:=rfl
def XW (b:Bool):bg (.bool b)= .bool b:=rfl
def Ze (s:List Nat):bg (.str s)= .str s:=rfl
def XX:bg .ab= .ab:=rfl
def Zf (e:Bool) (n:Nat) (cs:List AV):bg (.aC e n cs)= .aC e n cs:=rfl
def Zg (e:Bool) (sz n:Nat) (cs:List AV):bg (.bS e sz n cs)= .aC e n cs:=rfl
def AT (cs:List AV):bg (.agg cs)= .agg cs:=rfl
def JD (n:Nat) (r:List AV) (q:Option (AV×Hp)):Option (List AV×Hp):=match q with | some (v,hp)=>(match bO n hp r with | some (vs,lR)=>some (v::vs,lR) | none=>none) | none=>none
def Uh (v:AV) (q:Option (List AV×Hp)):Option (List AV×Hp):=match q with | some (vs,hp)=>some (v::vs,hp) | none=>none
def aa5 (n:Nat):bO (n+1) hp []=some ([],hp):=rfl
def Nh (n:Nat) (v:AV) (r:List AV):bO (n+1) hp (v::r)=JD n r (freeze n hp v):=by
 simp only [bO,JD];cases freeze n hp v<;>rfl
def Ri (n:Nat) (r:List AV) (v:AV):JD n r (some (v,hp))=Uh v (bO n hp r):=by
 rfl
def afI (v:AV) (vs:List AV):Uh v (some (vs,hp))=some (v::vs,hp):=rfl
def ac2 (n:Nat) (k:yJ) (a:Int):freeze (n+1) hp (.int k a)=some (.int k a,hp):=rfl
def aa6 (n:Nat) (b:Bool):freeze (n+1) hp (.bool b)=some (.bool b,hp):=rfl
def ac3 (n:Nat) (s:List Nat):freeze (n+1) hp (.str s)=some (.str s,hp):=rfl
def aa7 (n:Nat):freeze (n+1) hp .ab=some (.ab,hp):=rfl
def ac4 (n:Nat) (e:Bool) (k:Nat) (cs:List AV):freeze (n+1) hp (.aC e k cs)=some (.aC e k cs,hp):=rfl
def aa8 (n:Nat) (cs:List AV):freeze (n+1) hp (.aO cs)=some (.aO cs,hp):=rfl
end
end
section
variable {hp:Hp}
def afJ (a b:AV):Jb (.bool true) a b=some a:=rfl
def afK (a b:AV):Jb (.bool false) a b=some b:=rfl
def ahG (k:Nat->Option AV) (n:Nat):CX k (some n)=k n:=rfl
def XY (k:yJ) (n:Nat):cP (.int k (n:Int))=some n:=rfl
def afL (k:yJ):cP (.int k 0)=some 0:=rfl
def afM (k:yJ):cP (.int k 1)=some 1:=rfl
def afN (k:yJ):cP (.int k 2)=some 2:=rfl
def afO (k:yJ):cP (.int k 3)=some 3:=rfl
def afP (k:yJ):cP (.int k 4)=some 4:=rfl
def afQ (k:yJ):cP (.int k 5)=some 5:=rfl
def afR (k:yJ):cP (.int k 6)=some 6:=rfl
def afS (k:yJ):cP (.int k 7)=some 7:=rfl
def afT (k:yJ):cP (.int k 8)=some 8:=rfl
def afU (k:yJ):cP (.int k 9)=some 9:=rfl
def ac5 (cs:List AV):Sw (some cs)=some (.agg cs):=rfl
def ac6 (k:yJ) (a b:Int):binOp .add (.int k a) (.int k b)=some (.int k (k.wrap (a+b))):=by simp [binOp,iw]
def ac7 (k:yJ) (a b:Int):binOp .sub (.int k a) (.int k b)=some (.int k (k.wrap (a-b))):=by simp [binOp,iw]
def ac8 (k:yJ) (a b:Int):binOp .mul (.int k a) (.int k b)=some (.int k (k.wrap (a*b))):=by simp [binOp,iw]
def er (k:yJ) (a b:Int) (h:b≠0):binOp .quo (.int k a) (.int k b)=some (.int k (k.wrap (a.tdiv b))):=by simp [binOp,iw,h]
def dw (k:yJ) (a b:Int) (h:b≠0):binOp .rem (.int k a) (.int k b)=some (.int k (a.tmod b)):=by simp [binOp,iw,h]
def ac9 (k:yJ) (a b:Int):binOp .eql (.int k a) (.int k b)=some (.bool (decide (a=b))):=by
 simp [binOp,iw,intCmp,BEq.beq]
def ada (k:yJ) (a b:Int):binOp .neq (.int k a) (.int k b)=some (.bool (!decide (a=b))):=by
 simp [binOp,iw,intCmp,bne,BEq.beq]
def adb (k:yJ) (a b:Int):binOp .lss (.int k a) (.int k b)=some (.bool (decide (a<b))):=by simp [binOp,iw,intCmp]
def ade (k:yJ) (a b:Int):binOp .leq (.int k a) (.int k b)=some (.bool (decide (a<=b))):=by simp [binOp,iw,intCmp]
def adf (k:yJ) (a b:Int):binOp .gtr (.int k a) (.int k b)=some (.bool (decide (b<a))):=by simp [binOp,iw,intCmp]
def adg (k:yJ) (a b:Int):binOp .geq (.int k a) (.int k b)=some (.bool (decide (b<=a))):=by simp [binOp,iw,intCmp]
def afV (k:yJ) (a:Int):unOp .neg (.int k a)=some (.int k (k.wrap (0-a))):=rfl
def afW (b:Bool):unOp .not (.bool b)=some (.bool !b):=rfl
def aa9:eY hp 1 .ab=some (.int .i64 0):=rfl
def adh (e:Bool) (n:Nat) (cs:List AV):eY hp 1 (.aC e n cs)=some (.int .i64 n):=rfl
def adi (id o n:Nat):eY hp 1 (.aq id o n)=some (.int .i64 n):=rfl
def adj (s:List Nat):eY hp 0 (.str s)=some (.int .i64 s.length):=rfl
def Ej {sz i n:Nat} (e:Bool) (cs:List AV) (h:i<n):fh sz i (.aC e n cs)=some (.aO (cs.drop (i*sz))):=by
 have hb:yB i n=true:=yv h;simp only [fh]
 grind
def fL {sz i n:Nat} (id o:Nat) (h:i<n):fh sz i (.aq id o n)=some (.ptr id (o+i*sz)):=by
 have hb:yB i n=true:=yv h;simp only [fh]
 grind
def D2 (v:AV) (cs:List AV):fT hp 1 false (.aO (v::cs))=some v:=rfl
def VD (sz:Nat) (ag:Bool) (o:Nat) (q:Option Obj):Option AV:=match q with | some (.cells _ _ _ _ cs)=>gB sz ag (cs.drop o) | _=>none
def afX (sz:Nat) (ag:Bool) (id o:Nat):fT hp sz ag (.ptr id o)=VD sz ag o (aj hp id):=by
 rfl
def ahH (sz:Nat) (ag:Bool) (o:Nat) (rw pu ex:Bool) (z:Nat) (cs:List AV):VD sz ag o (some (.cells rw pu ex z cs))=gB sz ag (cs.drop o):=rfl
def ahI (sz:Nat) (v:AV) (cs:List AV):gB sz false (v::cs)=some v:=rfl
def ajc (a:AV) (l:List AV):Cb 0 (.ay (a::l))=some a:=rfl
def ext1 (a b:AV) (l:List AV):Cb 1 (.ay (a::b::l))=some b:=rfl
def ajd (a b c:AV) (l:List AV):Cb 2 (.ay (a::b::c::l))=some c:=rfl
def aje (a b c d:AV) (l:List AV):Cb 3 (.ay (a::b::c::d::l))=some d:=rfl
end
def nK:Env->Bool
 | []=>true
 | (_,v)::r=>aG v&&nK r
mutual
def aP:∀{v:AV},aG v=true->refs v=[]
 | .int _ _,_ | .bool _,_ | .cu _ _,_ | .str _,_ | .gM,_ | .aO _,_ | .ab,_ | .aC _ _ _,_ | .eZ,_ | .gm,_ | .fS _ _,_ | .undef,_=>rfl
 | .ptr _ _,h | .aq _ _ _,h | .map _,h | .it _,h | .bS _ _ _ _,h=>by simp [aG] at h
 | .fn (.y _) _ _,h=>by simp [aG] at h
 | .fn (.f _) first cap,h=>by
  simp only [aG,yf] at h;simp only [refs,AH h.1,AH h.2,xI]
 | .agg cs,h=>by simp only [aG] at h;simp only [refs,AH h]
 | .ay cs,h=>by simp only [aG] at h;simp only [refs,AH h]
def AH:∀{vs:List AV},ax vs=true->dh vs=[]
 | [],_=>rfl
 | v::r,h=>by
  simp only [ax,yf] at h;simp only [dh,aP h.1,AH h.2,xI]
end
mutual
def aS (f:Nat->Option Nat):∀{v:AV},aG v=true->bE f v=v
 | .int _ _,_ | .bool _,_ | .cu _ _,_ | .str _,_ | .gM,_ | .aO _,_ | .ab,_ | .aC _ _ _,_ | .eZ,_ | .gm,_ | .fS _ _,_ | .undef,_=>rfl
 | .ptr _ _,h | .aq _ _ _,h | .map _,h | .it _,h | .bS _ _ _ _,h=>by simp [aG] at h
 | .fn (.y _) _ _,h=>by simp [aG] at h
 | .fn (.f _) first cap,h=>by
  simp only [aG,yf] at h;simp only [bE,AU f h.1,AU f h.2]
 | .agg cs,h=>by simp only [aG] at h;simp only [bE,AU f h]
 | .ay cs,h=>by simp only [aG] at h;simp only [bE,AU f h]
def AU (f:Nat->Option Nat):∀{vs:List AV},ax vs=true->dY f vs=vs
 | [],_=>rfl
 | v::r,h=>by
  simp only [ax,yf] at h;simp only [dY,aS f h.1,AU f h.2]
end
def Mt:∀{tm:Env},nK tm=true->dB tm=[]
 | [],_=>rfl
 | (i,v)::r,h=>by
  simp only [nK,yf] at h;simp only [dB,aP h.1,Mt h.2,xI]
def Ni (f:Nat->Option Nat):∀{tm:Env},nK tm=true->hZ f tm=tm
 | [],_=>rfl
 | (i,v)::r,h=>by
  simp only [nK,yf] at h;simp only [hZ,aS f h.1,Ni f h.2]
def LA {live:List Nat} {tm:Env} {ct:Nat} (h:nK (cz tm live)=true):bw live ⟨tm,[],ct,0⟩=⟨cz tm live,[],0,0⟩:=by
 simp only [bw,Mt h,b7,xI];simp only [reach,hX,iQ,Ni _ h,y5,Nat.add_zero]
def Xn {tm:Env} {ct:Nat}:bw [] ⟨tm,[],ct,0⟩=⟨[],[],0,0⟩:=rfl
def Ic {P:aA} {L:Lib} {live:List Nat} {a:VC} (I:Nat->St->Prop) (Q:Ex->St->Prop)
  (step:∀k s,I k s->(∃s' k',D P L a (bw live s)=some (.normal,s')/\k'<k/\I k' s')\/(∃ex s',D P L a (bw live s)=some (ex,s')/\ex≠.normal/\Q ex s')):
  ∀k s,I k s->∃ex s',D P L (.loop live a) s=some (ex,s')/\Q ex s':=by
 intro k
 induction k using Nat.strongRecOn with
 | _ k ih=>
  intro s hI;rw [IS];rcases step k s hI with ⟨s',k',h1,h2,h3⟩ | ⟨ex,s',h1,h2,h3⟩
  ·rw [h1,PH];exact ih k' h2 s' h3
  ·rw [h1]
   cases ex with
   | normal=>exact absurd rfl h2
   | ret=>exact ⟨.ret,s',rfl,h3⟩
   | exit id=>exact ⟨.exit id,s',rfl,h3⟩
def cG {P:aA} {L:Lib} {live:List Nat} {a:VC} (I:Nat->St->Prop) (Q:Ex->St->Prop)
  (step:∀k s,I k s->(∃s' k',D P L a s=some (.normal,s')/\k'<k/\I k' (bw live s'))\/(∃ex s',D P L a s=some (ex,s')/\ex≠.normal/\Q ex s')):
  ∀k s,I k (bw live s)->∃ex s',D P L (.loop live a) s=some (ex,s')/\Q ex s':=
 Ic (fun k s=>I k (bw live s)) Q (fun k s h=>step k _ h)
def cm {P:aA} {L:Lib} {c:VC} {s:St} {q:Option (Ex×St)} {I:St->Prop} {Q:Ex->St->Prop} (hq:D P L c s=q) (key:∀s,I s->∃ex s',D P L c s=some (ex,s')/\Q ex s') (hI:I s):
  ∃ex s',q=some (ex,s')/\Q ex s':=by
 rw [<-hq];exact key s hI
def aba (tm:Env):cz tm []=[]:=rfl
def Zh (tm:Env) (i:Nat) (r:List Nat):cz tm (i::r)=(i,ah tm i)::cz tm r:=rfl
def Zi:nK []=true:=rfl
def XZ (i:Nat) (v:AV) (r:Env):nK ((i,v)::r)=(aG v&&nK r):=rfl
def Ew (k:yJ) (n:Int):aG (.int k n)=true:=(rfl)
def adk (b:Bool):aG (.bool b)=true:=(rfl)
def afY (s:List Nat):aG (.str s)=true:=(rfl)
def adl:aG .ab=true:=(rfl)
def afZ (e:Bool) (n:Nat) (cs:List AV):aG (.aC e n cs)=true:=(rfl)
def adm (cs:List AV):aG (.aO cs)=true:=(rfl)
def abb:aG .undef=true:=(rfl)
attribute [go_sem] deep Xn aba Zh Zi XZ Ew adk afY adl afZ adm abb Bool.and_true Bool.true_and
attribute [go_sem] afi afj ahv Fx ai7 I8 mA afk I9 jB acJ acK PH acL acM IB acN Ei acO Re afl acP acQ
 PI aaO Y4 PJ ahw Sv aaP aaQ aaR aaS acR afm afn Y5 XR aaT Y6 Ib Y7 Ob Y8 aaU aaV Y9
 ai8 ai9 afo acS aaW ahx acT afp ahy ahz ahA afq afr afs aft afu afv afw afx afy afz afA acU afB afC afD ahB afE aaX aaY aaZ
 acV acW acX acY acZ afF afG Rg Rh Cd ajb aa0 Za ac0 afH BU ahC Sy ahD ahE ahF
 XS Xl XT Xm XU shut_int shut_bool aa1 Zb aa2 aa3 dM ac1 aa4 Zc XV Zd XW Ze XX Zf Zg AT
 aa5 Nh Ri afI ac2 aa6 ac3 aa7 ac4 aa8
 afJ afK ahG XY afL afM afN afO afP afQ afR afS afT afU ac5 ac6 ac7 ac8 ac9 ada adb ade adf adg afV afW aa9 adh adi adj D2 afX ahH ahI ajc ext1 ajd aje
 List.nil_append xI yH yE yF Bool.not_true Bool.not_false uH vt
end
end VE
