import Derived.ChangeSlices
import Derived.ChangeReads
import Derived.ChangeSame
import Derived.OpenShut
import Derived.Lib.AtoiErrMem
import Derived.Test.YtflgmingejdfnaaGreatDoorUal
import Derived.Test.YtflgmingejdfnaaGreatDoorUah
import Derived.Test.YtflgmingejdfnaaGreatDoorUaj
import Derived.Test.YtflgmingejdfnaaGreatDoorUam
import Derived.Test.YtflgmingejdfnaaGreatDoorUan
import Derived.Test.YtflgmingejdfnaaGreatDoorUag
set_option linter.all false
set_option maxRecDepth 100000
open Array renaming getElem?_eq_some_iff→xy
open Bool renaming and_eq_true→yg
open Go renaming Addr→uA,ChangeSpec→ybQ,DataW→xr,Field→uF,MemPlace→xZ,Program→y7,TypeId→yv,Value→yf,World→yh
open Int renaming emod_emod→ybJ,tmod_eq_emod_of_nonneg→y9
open List renaming all_cons→yal,cons_append→yW,drop_drop→vH,drop_eq_getElem_cons→yT,drop_eq_nil_of_le→xh,eq_nil_of_length_eq_zero→yH,flatMap_cons→yat,getD_cons_succ→yad,getD_eq_getElem?_getD→xJ,getElem?_cons_zero→vA,length→ybR,length_append→yO,length_cons→yy,length_singleton→tL,length_take→yS,mapM_cons→vT,mapM_nil→tv,map_cons→y8,mem_append_left→uy,mem_append_right→vB,mem_flatMap→ue,range→xg,range'→xC,range'_succ→vP,range'_zero→yaI,range_eq_range'→tT,replicate→yz,replicate_succ→wb,set_cons_succ→yak,take_append_drop→xT,take_of_length_le→yK,take_succ_cons→wm,take_succ_eq_append_getElem→wz
open Nat renaming add_mul→wZ,add_sub_cancel→th,add_zero→yZ,beq→yx,eq_of_beq_eq_true→yo,eq_zero_or_pos→xu,le_div_iff_mul_le→tV,le_max_left→vO,le_max_right→vE,le_of_lt→tz,le_refl→yB,lt_of_le_of_lt→xR,lt_of_mul_lt_mul_right→tp,min_eq_left→xY,mul_add→xH,mul_assoc→xn,mul_comm→xQ,mul_le_mul_left→yQ,mul_le_mul_right→y5,mul_pos→yaK,mul_zero→xO,not_lt_zero→ua,pow_le_pow_right→xk,pow_succ→xj,zero_add→yd
open Option renaming bind_eq_bind→vd,bind_some→xP,map_some→wu,pure_def→wB
open Option.some renaming injEq→yc
open Prod.mk renaming injEq→yk
namespace VE
section
open Go
section
variable (P:y7)
def Fp (self:yv->Bool):List uF->Nat->Nat->Bool
 | [],o,n=>yx o n
 | f::r,o,n=>yx f.offset o&&(self f.type&&Fp self r (o+P.cellsOf f.type) n)
def flat:Nat->yv->Bool
 | 0,_=>false
 | n+1,t=>
  match P.underlying t with
  | some .bool | some (.int _) | some (.float _) | some .string=>yx (P.cellsOf t) 1
  | some (.slice e)=>yx (P.cellsOf t) 1&&(Nat.blt 0 (P.cellsOf e)&&flat n e)
  | some (.struct fs)=>Fp P (fun u=>flat n u) fs.toList 0 (P.cellsOf t)
  | some (.array k e)=>yx (P.cellsOf t) (k*P.cellsOf e)&&flat n e
  | _=>false
def du {H:Type}:Nat->yv->xr H->List AV
 | 0,_,_=>[]
 | n+1,t,d=>
  match P.underlying t,d with
  | some .bool,.lit (.bool b)=>[.bool b]
  | some (.int k),.lit (.int _ m)=>[.int k m]
  | some (.float k),.lit (.float _ b)=>[.dP k b]
  | some .string,.lit (.string s)=>[.str (s.map UInt8.toNat)]
  | some (.slice _),.nil=>[.ae]
  | some (.slice e),.slice kC spare=>[.aO spare.isEmpty kC.length (kC.flatMap fun x=>du n e x)]
  | some (.struct fs),.agg parts=>(fs.toList.zip parts).flatMap fun x=>du n x.1.type x.2
  | some (.array _ e),.agg parts=>parts.flatMap fun x=>du n e x
  | _,_=>[]
end
section
variable {ai:Nat->Nat} {m:Mp} {S:Nat->Prop} {w:yh}
def abd:∀{a b:List AV} {aP o:Nat},ck ai m S w a aP o->ck ai m S w b aP (o+a.length)->ck ai m S w (a++b) aP o
 | [],b,aP,o,_,h=>by simpa using h
 | x::a,b,aP,o,h1,h2=>by
  exact ⟨h1.1,abd h1.2 (by rw [yy] at h2;rw [show o+1+a.length=o+(a.length+1) by omega];exact h2)⟩
def Nc:∀{a b:List AV},aK a=true->aK b=true->aK (a++b)=true
 | [],_,_,h=>h
 | x::a,b,h1,h2=>by
  simp only [aK,yW,yg] at h1 ⊢;exact ⟨h1.1,Nc h1.2 h2⟩
def abe:∀{a:List AV} {us:List yf},au ai m S w a us->a.length=us.length
 | [],us,h=>by simp only [au] at h;subst h;rfl
 | x::a,us,h=>by
  obtain ⟨u,r,rfl,_,h2⟩:=h;simp [abe h2]
end
section
variable {H:Type} {enc:yv×yf->H} {P:y7} {w:yh} {held:Bool} {ai:Nat->Nat} {m:Mp} {S:Nat->Prop}
def adS {a:uA} {i:Nat} {u:yf} (h:w.cell? (a.add i)=some u):w.cell? ⟨a.block,a.off+i,none⟩=some u/\(i=0->a.spot=none):=by
 by_cases hi:i=0
 ·subst hi;have e:a.add 0=a:=by simp [Addr.add]
  rw [e] at h;have hs:a.spot=none:=by
   cases hq:a.spot with
   | none=>rfl
   | some k=>
    unfold World.cell? at h
    split at h
    ·simp [hq] at h
    all_goals simp_all
  obtain ⟨b,o,sp⟩:=a;simp only at hs;subst hs;exact ⟨by simpa using h,fun _=>rfl⟩
 ·have e:a.add i=⟨a.block,a.off+i,none⟩:=by simp [Addr.add,hi]
  rw [e] at h;exact ⟨h,fun h=>(hi h).elim⟩
def amy (a:uA) (i:Nat):(a.add i).block=a.block:=by unfold Addr.add;split<;>rfl
def aqO (a:uA) (i:Nat):(a.add i).off=a.off+i:=by unfold Addr.add;split<;>simp_all
def Np {α β:Type} {f:α->Option β}:∀{l:List α} {r:List β},l.mapM f=some r->r.length=l.length
 | [],r,h=>by simp only [tv,wB,yc] at h;subst h;rfl
 | x::l,r,h=>by
  rw [vT] at h
  cases h1:f x with
  | none=>simp [h1] at h
  | some y=>
   cases h2:l.mapM f with
   | none=>simp [h1,h2] at h
   | some ys=>
    simp only [h1,h2,xP,vd,wB,yc] at h;subst h;simp [Np h2]
def aoA {c:AV} {l:List AV} {b o:Nat} (h:ck ai m S w (c::l) b o):b<w.heap.size:=by
 obtain ⟨⟨u,h1,_⟩,_⟩:=h;unfold World.cell? at h1
 cases hq:w.heap[b]? with
 | none=>simp [hq] at h1
 | some o=>exact (xy.1 hq).1
def SG {e:yv} {bF sz:Nat} {f:xr H->List AV} {a:uA} (fk:0<sz)
  (IH:∀(cs:List yf) (d:xr H) (ps:List xZ),DataW.trod enc P w 0 (fun _=>true) held bF e cs=some (d,ps)->au ai m S w (f d) cs/\aK (f d)=true/\cs.length=sz):
  ∀(k j:Nat) (xs:List (xr H×List xZ)),(xC j k).mapM (fun i=>(w.cells? 0 (a.add (i*sz)) sz).bind (DataW.trod enc P w 0 (fun _=>true) held bF e))=some xs->
   ck ai m S w ((xs.map (·.1)).flatMap f) a.block (a.off+j*sz)/\aK ((xs.map (·.1)).flatMap f)=true/\((xs.map (·.1)).flatMap f).length=k*sz/\xs.length=k/\(0<k->a.spot=none\/0<j)
 | 0,j,xs,h=>by
  simp only [yaI,tv,wB,yc] at h;subst h;simp [ck,aK]
 | k+1,j,xs,h=>by
  rw [vP,vT] at h
  cases h1:(w.cells? 0 (a.add (j*sz)) sz) with
  | none=>simp [h1] at h
  | some us=>
   cases h2:DataW.trod enc P w 0 (fun _=>true) held bF e us with
   | none=>simp [h1,h2] at h
   | some x=>
    cases h3:(xC (j+1) k).mapM (fun i=>(w.cells? 0 (a.add (i*sz)) sz).bind (DataW.trod enc P w 0 (fun _=>true) held bF e)) with
    | none=>simp [h1,h2,h3] at h
    | some ys=>
     simp only [h1,h2,h3,xP,vd,wB,yc] at h;subst h;obtain ⟨d,ps⟩:=x;obtain ⟨g1,g2,g3⟩:=IH us d ps h2;obtain ⟨k1,k2,k3,k4,_⟩:=SG fk IH k (j+1) ys h3;obtain ⟨_,c2,c3⟩:=World.cells?_some h1;have hl:(f d).length=sz:=by rw [abe g1,g3]
     have hc:∀(i:Nat) (u:yf),us[i]? =some u->w.cell? ⟨a.block,a.off+j*sz+i,none⟩=some u:=by
      intro i u hi;have Hk:i<sz:=by grind
      have h:=c3 i Hk;rw [hi] at h
      have:=(adS h).1
      rwa [amy,aqO] at this
     refine ⟨?_,?_,?_,by simp [k4],?_⟩
     ·simp only [y8,yat];refine abd (FA _ us _ g1 hc) ?_
      grind
     ·simp only [y8,yat];exact Nc g2 k2
     ·grind
     ·intro _;rcases xu j with hj | hj
      ·left
       have h:=c3 0 fk;have hu:us[0]? =some us[0]:=by simp_all
       rw [hu] at h
       have:=(adS h).2 rfl
       subst hj;simpa [Addr.add] using this
      ·grind
def aao {bF N:Nat} {n:Nat} {cs:List yf} (hN:cs.length=N)
  (IH:∀(t:yv) (cs:List yf) (d:xr H) (ps:List xZ),flat P n t=true->DataW.trod enc P w 0 (fun _=>true) held bF t cs=some (d,ps)->au ai m S w (du P n t d) cs/\aK (du P n t d)=true/\cs.length=P.cellsOf t):
  ∀(r:List uF) (o:Nat) (xs:List (xr H×List xZ)),Fp P (fun u=>flat P n u) r o N=true->r.mapM (fun f=>DataW.trod enc P w 0 (fun _=>true) held bF f.type ((cs.drop f.offset).take (P.cellsOf f.type)))=some xs->
   au ai m S w ((r.zip (xs.map (·.1))).flatMap fun x=>du P n x.1.type x.2) (cs.drop o)/\aK ((r.zip (xs.map (·.1))).flatMap fun x=>du P n x.1.type x.2)=true
 | [],o,xs,hf,h=>by
  have:=yo hf
  rw [xh (by omega)];simp [au,aK]
 | f::r,o,xs,hf,h=>by
  simp only [Fp,yg] at hf;obtain ⟨e1,e2,e3⟩:=hf;have e1:=yo e1;rw [vT] at h
  cases h2:DataW.trod enc P w 0 (fun _=>true) held bF f.type ((cs.drop f.offset).take (P.cellsOf f.type)) with
  | none=>simp [h2] at h
  | some x=>
   cases h3:r.mapM (fun f=>DataW.trod enc P w 0 (fun _=>true) held bF f.type ((cs.drop f.offset).take (P.cellsOf f.type))) with
   | none=>simp [h2,h3] at h
   | some ys=>
    simp only [h2,h3,xP,vd,wB,yc] at h;subst h;obtain ⟨d,ps⟩:=x;obtain ⟨g1,g2,g3⟩:=IH f.type _ d ps e2 h2;obtain ⟨k1,k2⟩:=aao hN IH r _ ys e3 h3;rw [e1] at g1;have e:cs.drop o=(cs.drop o).take (P.cellsOf f.type)++cs.drop (o+P.cellsOf f.type):=by rw [<-vH];exact (xT _ _).symm
    rw [e];exact ⟨mW g1 k1,Nc g2 k2⟩
def adT {bF sz:Nat} {e:yv} {f:xr H->List AV} {cs:List yf}
  (IH:∀(cs:List yf) (d:xr H) (ps:List xZ),DataW.trod enc P w 0 (fun _=>true) held bF e cs=some (d,ps)->au ai m S w (f d) cs/\aK (f d)=true/\cs.length=sz):
  ∀(k j:Nat) (xs:List (xr H×List xZ)),(xC j k).mapM (fun i=>DataW.trod enc P w 0 (fun _=>true) held bF e ((cs.drop (i*sz)).take sz))=some xs->cs.length=(j+k)*sz->
   au ai m S w ((xs.map (·.1)).flatMap f) (cs.drop (j*sz))/\aK ((xs.map (·.1)).flatMap f)=true
 | 0,j,xs,h,hl=>by
  simp only [yaI,tv,wB,yc] at h;subst h;rw [xh (by rw [hl];simp)]
  simp [au,aK]
 | k+1,j,xs,h,hl=>by
  rw [vP,vT] at h
  cases h2:DataW.trod enc P w 0 (fun _=>true) held bF e ((cs.drop (j*sz)).take sz) with
  | none=>simp [h2] at h
  | some x=>
   cases h3:(xC (j+1) k).mapM (fun i=>DataW.trod enc P w 0 (fun _=>true) held bF e ((cs.drop (i*sz)).take sz)) with
   | none=>simp [h2,h3] at h
   | some ys=>
    simp only [h2,h3,xP,vd,wB,yc] at h;subst h;obtain ⟨d,ps⟩:=x;obtain ⟨g1,g2,g3⟩:=IH _ d ps h2;obtain ⟨k1,k2⟩:=adT IH k (j+1) ys h3 (by rw [hl];congr 1;omega)
    have e:cs.drop (j*sz)=(cs.drop (j*sz)).take sz++cs.drop ((j+1)*sz):=by rw [wZ,Nat.one_mul,<-vH];exact (xT _ _).symm
    rw [e];exact ⟨mW g1 k1,Nc g2 k2⟩
def acd (hS:∀b,b<w.heap.size->S b):∀(n bF:Nat) (t:yv) (cs:List yf) (d:xr H) (ps:List xZ),flat P n t=true->DataW.trod enc P w 0 (fun _=>true) held bF t cs=some (d,ps)->
  au ai m S w (du P n t d) cs/\aK (du P n t d)=true/\cs.length=P.cellsOf t
 | 0,bF,t,cs,d,ps,hf,h=>by simp [flat] at hf
 | n+1,0,t,cs,d,ps,hf,h=>by simp [DataW.trod] at h
 | n+1,bF+1,t,cs,d,ps,hf,h=>by
  have IH:=acd hS n bF;unfold DataW.trod at h;simp only [flat] at hf
  split at h
  ·rename_i hu;simp only [hu] at hf;simp only [yc,yk] at h;obtain ⟨rfl,rfl⟩:=h;simp only [du,hu];exact ⟨by simp [au,aj],by simp [aK,aS],by rw [yo hf];rfl⟩
  ·rename_i hu;simp only [hu] at hf
   split at h
   ·rename_i hk;simp only [yc,yk] at h;obtain ⟨rfl,rfl⟩:=h;simp only [du,hu];refine ⟨?_,by simp [aK,aS],by rw [yo hf];rfl⟩
    rw [hk.1];simp [au,aj]
   ·cases h
  ·rename_i hu;simp only [hu] at hf
   split at h
   ·rename_i hk;simp only [yc,yk] at h;obtain ⟨rfl,rfl⟩:=h;simp only [du,hu];refine ⟨?_,by simp [aK,aS],by rw [yo hf];rfl⟩
    rw [hk.1];simp [au,aj]
   ·cases h
  ·rename_i hu;simp only [hu] at hf
   split at h
   ·simp only [yc,yk] at h;obtain ⟨rfl,rfl⟩:=h;simp only [du,hu];refine ⟨?_,by simp [aK,aS],by rw [yo hf];rfl⟩
    simp only [au,aj];exact ⟨_,_,rfl,⟨_,rfl,rfl⟩,rfl⟩
   ·cases h
  ·rename_i hu;simp [hu] at hf
  ·rename_i hu;simp [hu] at hf
  ·rename_i hu;simp only [hu,yg] at hf;simp only [yc,yk] at h;obtain ⟨rfl,rfl⟩:=h;simp only [du,hu];exact ⟨by simp [au,aj],by simp [aK,aS],by rw [yo hf.1];rfl⟩
  ·rename_i e a len cap hu;simp only [hu,yg] at hf;obtain ⟨f1,f2,f3⟩:=hf;have fk:=An.1 f2;simp only at h
   split at h
   case isFalse=>cases h
   rename_i hc;simp only [yV] at h
   cases h1:(xg len).mapM fun i=>(w.cells? 0 (a.add (i*P.cellsOf e)) (P.cellsOf e)).bind (DataW.trod enc P w 0 (fun _=>true) held bF e) with
   | none=>rw [h1] at h;simp at h
   | some kC=>
    cases h2:(xg (cap-len)).mapM fun j=>(w.cells? 0 (a.add ((len+j)*P.cellsOf e)) (P.cellsOf e)).bind (DataW.trod enc P w 0 (fun _=>true) held bF e) with
    | none=>rw [h1] at h;simp [h2] at h
    | some rest=>
     rw [h1] at h;simp only [xP,h2,wu,yc,yk] at h;obtain ⟨rfl,rfl⟩:=h;have hIH:=fun cs d ps h=>IH e cs d ps f3 h
     rw [tT] at h1 h2;obtain ⟨k1,k2,k3,k4,k5⟩:=SG (ai:=ai) (m:=m) (S:=S) fk hIH len 0 kC h1;have XH:rest.length=cap-len:=by rw [Np h2];simp
     have jE:cap≠0->a.spot=none:=by
      intro VM;rcases xu len with h0 | h0
      ·subst h0;simp only [yd,Nat.sub_zero] at h2;obtain ⟨_,_,_,_,q5⟩:=SG (ai:=ai) (m:=m) (S:=S) fk hIH cap 0 rest h2;exact (q5 (by omega)).resolve_right (by omega)
      ·exact (k5 h0).resolve_right (by omega)
     simp only [du,hu,List.length_map];refine ⟨?_,by simp [aK,aS],by rw [yo f1];rfl⟩
     simp only [au];refine ⟨_,_,rfl,?_,rfl⟩;simp only [aj];by_cases VM:cap=0
     ·subst VM;have mM:len=0:=by omega
      subst mM;have he:kC=[]:=yH k4;subst he;exact .inr ⟨a,rfl,rfl,rfl⟩
     ·obtain ⟨b,o,sp⟩:=a;have jE:=jE VM;simp only at jE;subst jE;refine .inl ⟨b,o,cap,by rw [k4],by omega,fun hx=>?_,?_,k2,by simpa using k1⟩
      ·have:rest.length=0:=by simpa using hx
       omega
      ·generalize hg:((kC.map (·.1)).flatMap fun x=>du P n e x)=l at k1
       cases l with
       | nil=>exact .inl rfl
       | cons c l=>exact .inr (hS b (aoA k1))
  ·rename_i zO x1 Mb fs hu;simp only [hu] at hf
   split at h
   case isFalse=>cases h
   rename_i hlen
   cases h1:fs.toList.mapM fun f=>DataW.trod enc P w 0 (fun _=>true) held bF f.type ((zO.drop f.offset).take (P.cellsOf f.type)) with
   | none=>rw [h1] at h;simp at h
   | some xs=>
    rw [h1] at h;simp only [wu,yc,yk] at h;obtain ⟨rfl,rfl⟩:=h;obtain ⟨k1,k2⟩:=aao hlen (fun t cs d ps hf h=>IH t cs d ps hf h) fs.toList 0 xs hf h1;simp only [du,hu];exact ⟨by simpa using k1,k2,hlen⟩
  ·rename_i zO x1 Mb k e hu;simp only [hu,yg] at hf;obtain ⟨f1,f2⟩:=hf;have f1:=yo f1
   split at h
   case isFalse=>cases h
   rename_i hlen
   cases h1:(xg k).mapM fun i=>DataW.trod enc P w 0 (fun _=>true) held bF e ((zO.drop (i*P.cellsOf e)).take (P.cellsOf e)) with
   | none=>rw [h1] at h;simp at h
   | some xs=>
    rw [h1] at h;simp only [wu,yc,yk] at h;obtain ⟨rfl,rfl⟩:=h;rw [tT] at h1;obtain ⟨k1,k2⟩:=adT (ai:=ai) (m:=m) (S:=S) (fun cs d ps h=>IH e cs d ps f2 h) k 0 xs h1 (by rw [hlen,f1];simp)
    simp only [du,hu];exact ⟨by simpa using k1,k2,hlen⟩
  all_goals first
   | (cases h;done)
   | (simp_all;done)
def mC (P:y7) (n:Nat) (t:yv) (d:xr H):AV:=
 match P.underlying t with
 | some (.struct _) | some (.array _ _)=> .agg (du P n t d)
 | _=>(du P n t d).headD .undef
def aqP (hS:∀b,b<w.heap.size->S b) {n base:Nat} {t:yv} {v:yf} {d:xr H} {ps:List xZ} (hf:flat P n t=true) (h:DataW.Trod enc P w 0 (fun _=>true) held t v d ps)
  (hv:Value.okWide P w .any base t v):aj ai m S w (mC P n t d) v/\aS (mC P n t d)=true:=by
 obtain ⟨bF,h⟩:=h;obtain ⟨h1,h2,h3⟩:=acd (ai:=ai) (m:=m) hS n bF t _ d ps hf h;have one:v.cells=#[v]->(∀fs,P.underlying t≠some (.struct fs))->(∀k e,P.underlying t≠some (.array k e))->aj ai m S w (mC P n t d) v/\aS (mC P n t d)=true:=by
  intro hc Hi hna;have e:mC P n t d=(du P n t d).headD .undef:=by
   unfold mC
   grind
  rw [e];rw [hc] at h1;generalize du P n t d=l at h1 h2
  cases l with
  | nil=>simp [au] at h1
  | cons x l=>
   simp only [au] at h1;simp only [aK,yg] at h2
   grind
 cases n with
 | zero=>simp [flat] at hf
 | succ n=>
  unfold Value.okWide at hv;simp only [flat] at hf
  cases hu:P.underlying t with
  | none=>simp [hu] at hf
  | some ty=>
   rw [hu] at hv hf;cases ty<;>simp only [Bool.false_eq_true] at hf hv
   case struct fs=>
    obtain ⟨cs,rfl,_,_⟩:=hv;have e:mC P (n+1) t d= .agg (du P (n+1) t d):=by simp only [mC,hu]
    rw [e];exact ⟨by simp only [aj];exact ⟨cs,rfl,h1⟩,by simpa only [aS] using h2⟩
   case array k e=>
    obtain ⟨cs,rfl,_,_⟩:=hv;have e:mC P (n+1) t d= .agg (du P (n+1) t d):=by simp only [mC,hu]
    rw [e];exact ⟨by simp only [aj];exact ⟨cs,rfl,h1⟩,by simpa only [aS] using h2⟩
   all_goals
    refine one ?_ (by simp [hu]) (by simp [hu])
    cases v with
    | agg cs=>exfalso;simp only [Cell.okWide,Cell.ok,hu] at hv
    | _=>rfl
def sW (P:y7) (n:Nat):List yv->List (xr H)->List AV
 | t::ts,d::ds=>mC P n t d::sW P n ts ds
 | _,_=>[]
def ace (hS:∀b,b<w.heap.size->S b) {n base:Nat}:∀{ts:List yv} {vs:List yf} {ds:List (xr H)} {ps:List xZ},ts.all (flat P n)=true->DataW.TrodAll enc P w 0 (fun _=>true) held ts vs ds ps->
  (∀(j:Nat) t v,ts[j]? =some t->vs[j]? =some v->Value.okWide P w .any base t v)->au ai m S w (sW P n ts ds) vs/\aK (sW P n ts ds)=true
 | [],[],[],_,_,_,_=>by simp [sW,au,aK]
 | t::ts,v::vs,d::ds,ps,hf,h,hv=>by
  simp only [yal,yg] at hf;obtain ⟨p,q,h1,h2,_⟩:=h;obtain ⟨a1,a2⟩:=aqP (ai:=ai) (m:=m) hS hf.1 h1 (hv 0 t v rfl rfl);obtain ⟨b1,b2⟩:=ace hS hf.2 h2 (fun j t v h1 h2=>hv (j+1) t v h1 h2);simp only [sW,au,aK,yg]
  grind
 | [],_::_,_,_,_,h,_=>by simp [DataW.TrodAll] at h
 | [],[],_::_,_,_,h,_=>by simp [DataW.TrodAll] at h
 | _::_,[],_,_,_,h,_=>by simp [DataW.TrodAll] at h
 | _::_,_::_,[],_,_,h,_=>by simp [DataW.TrodAll] at h
end
end
section
open Go
section
variable {H:Type} {enc:yv×yf->H} {P:y7} {w w':yh} {held:Bool} {sp:Nat->Bool}
def alj (hs:∀b,b<w.heap.size->w'.heap[b]? =w.heap[b]?) {a:uA} {u:yf} (h:w.cell? a=some u):w'.cell? a=some u:=by
 have hb:a.block<w.heap.size:=by
  unfold World.cell? at h
  cases hq:w.heap[a.block]? with
  | none=>simp [hq] at h
  | some o=>exact (xy.1 hq).1
 unfold World.cell? at h ⊢;rw [hs _ hb];exact h
def akM (hs:∀b,b<w.heap.size->w'.heap[b]? =w.heap[b]?) {base:Nat} {a:uA} {n:Nat} {us:List yf} (h:w.cells? base a n=some us):w'.cells? base a n=some us:=by
 unfold World.cells? at h ⊢
 split at h
 ·rename_i hb;rw [yF hb];exact mapM_carry h (fun x y _ _ hx=>alj hs hx)
 ·cases h
def aqQ {a:uA} {n:Nat} (h:0<n):MemPlace.cell a.block (a.off+0)∈MemPlace.row a n:=by
 unfold MemPlace.row;exact List.mem_map.2 ⟨0,List.mem_range.2 h,rfl⟩
def aap (hs:∀b,b<w.heap.size->w'.heap[b]? =w.heap[b]?):∀(n bF:Nat) (t:yv) (cs:List yf) (d:xr H) (ps:List xZ),flat P n t=true->DataW.trod enc P w 0 (fun _=>true) held bF t cs=some (d,ps)->
  (∀p,p∈ps->sp p.block=true)->DataW.trod enc P w' 0 sp held bF t cs=some (d,ps)
 | 0,bF,t,cs,d,ps,hf,h,hp=>by simp [flat] at hf
 | n+1,0,t,cs,d,ps,hf,h,hp=>by simp [DataW.trod] at h
 | n+1,bF+1,t,cs,d,ps,hf,h,hp=>by
  have IH:=aap hs n bF;have elem:∀{e:yv} {a:uA} {y:xr H×List xZ},flat P n e=true->(w.cells? 0 a (P.cellsOf e)).bind (DataW.trod enc P w 0 (fun _=>true) held bF e)=some y->(∀p,p∈y.2->sp p.block=true)->
    (w'.cells? 0 a (P.cellsOf e)).bind (DataW.trod enc P w' 0 sp held bF e)=some y:=by
   intro e a y he h hq
   cases h1:w.cells? 0 a (P.cellsOf e) with
   | none=>simp [h1] at h
   | some us=>
    rw [h1] at h;rw [akM hs h1];simp only [xP] at h ⊢;obtain ⟨d,ps⟩:=y;exact IH e us d ps he h hq
  unfold DataW.trod at h ⊢;simp only [flat] at hf
  split at h
  ·exact h
  ·exact h
  ·exact h
  ·exact h
  ·rename_i hu;simp [hu] at hf
  ·rename_i hu;simp [hu] at hf
  ·exact h
  ·rename_i e a len cap hu;simp only [hu,yg] at hf;obtain ⟨f1,f2,f3⟩:=hf;have fk:=An.1 f2;simp only at h ⊢
   split at h
   case isFalse=>cases h
   rename_i hc;rw [yF hc];simp only [yV] at h
   cases h1:(xg len).mapM fun i=>(w.cells? 0 (a.add (i*P.cellsOf e)) (P.cellsOf e)).bind (DataW.trod enc P w 0 (fun _=>true) held bF e) with
   | none=>rw [h1] at h;simp at h
   | some kC=>
    cases h2:(xg (cap-len)).mapM fun j=>(w.cells? 0 (a.add ((len+j)*P.cellsOf e)) (P.cellsOf e)).bind (DataW.trod enc P w 0 (fun _=>true) held bF e) with
    | none=>rw [h1] at h;simp [h2] at h
    | some rest=>
     rw [h1] at h;simp only [xP,h2,wu,yc,yk] at h;obtain ⟨rfl,rfl⟩:=h;have k1:((xg len).mapM fun i=>(w'.cells? 0 (a.add (i*P.cellsOf e)) (P.cellsOf e)).bind (DataW.trod enc P w' 0 sp held bF e))=some kC:=
      mapM_carry h1 (fun x y _ hy hx=>elem f3 hx (fun p hq=>hp p (vB _ (ue.2 ⟨y,uy _ hy,hq⟩))))
     have k2:((xg (cap-len)).mapM fun j=>(w'.cells? 0 (a.add ((len+j)*P.cellsOf e)) (P.cellsOf e)).bind (DataW.trod enc P w' 0 sp held bF e))=some rest:=
      mapM_carry h2 (fun x y _ hy hx=>elem f3 hx (fun p hq=>hp p (vB _ (ue.2 ⟨y,vB _ hy,hq⟩))))
     have hr:(if sp a.block=true then (xg (cap-len)).mapM fun j=>(w'.cells? 0 (a.add ((len+j)*P.cellsOf e)) (P.cellsOf e)).bind (DataW.trod enc P w' 0 sp held bF e) else some [])=some rest:=by
      by_cases jE:sp a.block=true
      ·rw [yF jE];exact k2
      ·rw [yr jE];have h0:¬0<(kC.length+rest.length)*P.cellsOf e:=fun h0=>jE (hp _ (uy _ (aqQ h0)))
       have hz:kC.length+rest.length=0:=by
        rcases xu (kC.length+rest.length) with h | h
        ·exact h
        ·exact (h0 (yaK h fk)).elim
       have:rest=[]:=yH (by omega)
       rw [this]
     rw [k1];simp only [xP];rw [hr];rfl
  ·rename_i zO x1 Mb fs hu;simp only [hu] at hf
   split at h
   case isFalse=>cases h
   rename_i hlen;rw [yF hlen]
   cases h1:fs.toList.mapM fun f=>DataW.trod enc P w 0 (fun _=>true) held bF f.type ((zO.drop f.offset).take (P.cellsOf f.type)) with
   | none=>rw [h1] at h;simp at h
   | some xs=>
    rw [h1] at h;simp only [wu,yc,yk] at h;obtain ⟨rfl,rfl⟩:=h;have Hh:∀(r:List uF) (o:Nat),Fp P (fun u=>flat P n u) r o (P.cellsOf t)=true->∀f,f∈r->flat P n f.type=true:=by
     intro r
     induction r with
     | nil=>intro o _ f hm;cases hm
     | cons g r ih=>
      intro o hq f hm;simp only [Fp,yg] at hq;rcases List.mem_cons.1 hm with rfl | hm
      ·exact hq.2.1
      ·exact ih _ hq.2.2 f hm
    have k1:(fs.toList.mapM fun f=>DataW.trod enc P w' 0 sp held bF f.type ((zO.drop f.offset).take (P.cellsOf f.type)))=some xs:=
     mapM_carry h1 (fun f y hm hy hx=>IH _ _ y.1 y.2 (Hh _ _ hf f hm) hx (fun p hq=>hp p (ue.2 ⟨y,hy,hq⟩)))
    rw [k1];rfl
  ·rename_i zO x1 Mb k e hu;simp only [hu,yg] at hf
   split at h
   case isFalse=>cases h
   rename_i hlen;rw [yF hlen]
   cases h1:(xg k).mapM fun i=>DataW.trod enc P w 0 (fun _=>true) held bF e ((zO.drop (i*P.cellsOf e)).take (P.cellsOf e)) with
   | none=>rw [h1] at h;simp at h
   | some xs=>
    rw [h1] at h;simp only [wu,yc,yk] at h;obtain ⟨rfl,rfl⟩:=h;have k1:((xg k).mapM fun i=>DataW.trod enc P w' 0 sp held bF e ((zO.drop (i*P.cellsOf e)).take (P.cellsOf e)))=some xs:=
     mapM_carry h1 (fun i y _ hy hx=>IH _ _ y.1 y.2 hf.2 hx (fun p hq=>hp p (ue.2 ⟨y,hy,hq⟩)))
    rw [k1];rfl
  all_goals first
   | (cases h;done)
   | (simp_all;done)
def Zq (hs:∀b,b<w.heap.size->w'.heap[b]? =w.heap[b]?) {n:Nat}:∀{ts:List yv} {vs:List yf} {ds:List (xr H)} {ps:List xZ},ts.all (flat P n)=true->DataW.TrodAll enc P w 0 (fun _=>true) held ts vs ds ps->
  (∀p,p∈ps->sp p.block=true)->DataW.TrodAll enc P w' 0 sp held ts vs ds ps
 | [],[],[],ps,_,h,_=>by simpa only [DataW.TrodAll] using h
 | t::ts,v::vs,d::ds,ps,hf,h,hp=>by
  simp only [yal,yg] at hf;obtain ⟨p,q,⟨bF,h1⟩,h2,rfl⟩:=h;exact ⟨p,q,⟨bF,aap hs n bF t _ d p hf.1 h1 (fun x hx=>hp x (uy _ hx))⟩,Zq hs hf.2 h2 (fun x hx=>hp x (vB _ hx)),rfl⟩
 | [],_::_,_,_,_,h,_=>by simp [DataW.TrodAll] at h
 | [],[],_::_,_,_,h,_=>by simp [DataW.TrodAll] at h
 | _::_,[],_,_,_,h,_=>by simp [DataW.TrodAll] at h
 | _::_,_::_,[],_,_,h,_=>by simp [DataW.TrodAll] at h
end
end
section
open Go Go.ChangeShapes Go.WideShapes
section
variable {H:Type} {enc:yv×yf->H} {P:y7} {W W':yh}
def amz (hc:Calm W W') (may:xZ->Prop):W.keptBut W' may:=by
 refine ⟨hc.os,hc.output,fun i hi=>?_⟩;rw [hc.same i hi]
 cases hq:W.heap[i]? with
 | none=>rfl
 | some o=>cases o<;>simp
def akN (hc:Calm W W') {b off:Nat} (hb:b<W.heap.size):W'.frozen? ⟨b,off,none⟩=W.frozen? ⟨b,off,none⟩:=by
 unfold World.frozen?;simp only;rw [hc.same b hb]
def aoB {fn:Func} {s:ybQ} {apart fresh handsOn again:Bool} {args:Array yf} {ds gs:List (xr H)} {before:List xZ} {n:Nat} {tb:yv}
  (hW:DataW.Whole enc P fn.params.toList s.vars apart W args.toList ds gs before) (hv:s.vars=[]) (OS:fn.params.toList.all (flat P n)=true) (hc:Calm W W')
  (kM:s.fn H (ds++gs)={results:=[.lit (.bool true)],args:=ds}) (zq:fn.resultTypes=#[tb]) (lG:P.underlying tb=some .bool):
  s.post enc P fn apart fresh handsOn again W args (.bool true) W':=by
 have bm:=hW.lt;have hW0:=hW;obtain ⟨p,q,hA,hV,hpq,hz,hn⟩:=hW;rw [hv] at hV;have hq:gs=[]/\q=[]:=by
  cases gs with
  | nil=>exact ⟨rfl,by simpa only [DataW.TrodVars] using hV⟩
  | cons g gs=>simp [DataW.TrodVars] at hV
 obtain ⟨rfl,rfl⟩:=hq;have hbp:before=p:=by rw [hpq];simp
 subst hbp;have iq:∀sp:Nat->Bool,(∀p∈before,sp p.block=true)->DataW.TrodAll enc P W' 0 sp true fn.params.toList args.toList ds before:=fun sp h=>Zq hc.same OS hA h
 have agN:∀(b:Nat) (sp:Nat->Bool) (hd:Bool),DataW.TrodAll enc P W' b sp hd fn.resultTypes.toList ((Value.bool true).resultList fn.resultTypes.size) [.lit (.bool true)] []:=by
  intro b sp hd;rw [zq];refine ⟨[],[],⟨1,?_⟩,rfl,rfl⟩;simp [DataW.trod,lG,Value.cells]
 have hold:∀p∈before,(fun b=>decide (b<W.heap.size)) p.block=true:=fun p hp=>by simpa using bm p hp
 have agO:∀sp:Nat->Bool,DataW.TrodVars enc P W' sp s.vars ([]:List (xr H)) []:=fun sp=>by rw [hv];rfl
 refine ⟨ds,[],before,[],before,[],hW0,by rw [kM];exact agN _ _ _,by rw [kM];exact iq _ hold,by rw [kM];exact agO _,amz hc _,fun _=>?_⟩
 refine ⟨?_,[.lit (.bool true)]++ds,[],[]++before++[],⟨[]++before,[],trodAll_append (iq _ (fun _ _=>rfl)) (agN _ _ _),agO _,rfl,?_,?_⟩,?_⟩
 ·intro j t r h1 h2;rw [zq] at h1 h2
  cases j with
  | zero=>
   simp only [List.getElem?_toArray,vA,yc] at h1;simp only [Value.resultList,List.size_toArray,yy,List.length_nil,yV,yd,vA,yc] at h2;subst h1;subst h2;simp [Value.okWide,lG,Cell.okWide,Cell.ok]
  | succ j=>simp at h1
 ·intro b off hp;have hp:MemPlace.cell b off∈before:=by simpa using hp
  rw [akN hc (b:=b) (bm _ hp)];exact hz b off hp
 ·intro ha
  have:=hn ha
  simpa using this
 ·intro p hp _;simpa using hp
def abf {O:bD} {n k:Nat} {fn:Func} {s:ybQ} {apart fresh handsOn again:Bool} {base:Nat} {args:Array yf} {ds gs:List (xr H)} {before:List xZ} {tb:yv}
  (hp:eX O n (sW O.P k fn.params.toList ds) (.bool true)) (C4:O.w0=W) (kM:O.P.funcs[O.ai n]? =some fn) (hb:fn.body.isSome=true) (Bk:fn.name≠ "runtime.NumGoroutine")
  (aR:∀(j:Nat) t v,fn.params[j]? =some t->args[j]? =some v->Value.okWide O.P W .any base t v)
  (hW:DataW.Whole enc O.P fn.params.toList s.vars apart W args.toList ds gs before) (hv:s.vars=[]) (OS:fn.params.toList.all (flat O.P k)=true)
  (hfs:s.fn H (ds++gs)={results:=[.lit (.bool true)],args:=ds}) (zq:fn.resultTypes=#[tb]) (lG:O.P.underlying tb=some .bool):
  Calls O.P (O.ai n) args W fun e W'=>∃v,e= .returned v/\s.post enc O.P fn apart fresh handsOn again W args v W':=by
 have hA:=hW;obtain ⟨p,q,hA,_⟩:=hA;obtain ⟨h1,h2⟩:=ace (ai:=O.ai) (m:=fE) (S:=fun b=>b<W.heap.size) (fun b hb=>hb) OS hA (fun j t v a b=>aR j t v (by simpa using a) (by simpa using b));have hi:=hp W (fun b=>b<W.heap.size) args ⟨fun b _=>by rw [C4],by rw [C4];exact yB _⟩ (fun b hb=>hb) h1 h2
 have key:∀e W',abX O W (fun b=>b<W.heap.size) (.bool true) e W'->∃v,e= .returned v/\s.post enc O.P fn apart fresh handsOn again W args v W':=by
  rintro e W' ⟨u,S',rfl,hc,_,_,_,hr⟩;simp only [oQ,iI,aj] at hr;obtain ⟨_,_,hu,_⟩:=hr;subst hu;exact ⟨_,rfl,aoB hW hv OS hc hfs zq lG⟩
 rcases hi with ⟨_,hi⟩ | ⟨u,w',hi,_⟩
 ·exact callsIn_wide.1 (hi.mono key)
 ·rw [NL kM hb Bk] at hi;cases hi
end
end
section
namespace J1
open Go Go.Proofs
noncomputable def O (W:yh):bD:=⟨Tryz.prog,VE.aU,AY zT.ai,VE.prog,OR zT.cE zT.hd,W⟩
def abg {w:yh} {k:Nat} {os:Array Go.Obj}:Calm w (Go.Sort.grow (w.drewN k) os):=Jb (Lib.below_grow w.heap.size w (yB _) k os)
def acf {W w:yh} (h:Lib.TabIs Tryz.prog W "internal/strconv.uint64pow10" .u64 Lib.pow10Tab) (hg:Ch (O W) w):Lib.TabIs Tryz.prog w "internal/strconv.uint64pow10" .u64 Lib.pow10Tab:=by
 unfold Lib.TabIs World.var? at h ⊢
 cases hn:Tryz.prog.globalNamed "internal/strconv.uint64pow10" with
 | none=>rw [hn] at h;exact h
 | some g=>
  rw [hn] at h;simp only [xP] at h ⊢;have hb:g<W.heap.size:=by
   cases hq:W.heap[g]? with
   | none=>rw [hq] at h;cases h
   | some o=>exact (xy.1 hq).1
  rw [hg.1 g hb];exact h
def axa:∀args w,(callFunc 208 args).run Tryz.prog w= .ok (.enter 208 args) w:=enters_of Tryz.func208 (by kernel_rfl) rfl
def axb:∀args w,(callFunc 217 args).run Tryz.prog w= .ok (.enter 217 args) w:=enters_of Tryz.func217 (by kernel_rfl) rfl
def axc:∀args w,(callFunc 229 args).run Tryz.prog w= .ok (.enter 229 args) w:=enters_of Tryz.func229 (by kernel_rfl) rfl
def axd:∀args w,(callFunc 232 args).run Tryz.prog w= .ok (.enter 232 args) w:=enters_of Tryz.func232 (by kernel_rfl) rfl
def axe:∀args w,(callFunc 233 args).run Tryz.prog w= .ok (.enter 233 args) w:=enters_of Tryz.func233 (by kernel_rfl) rfl
def axf:∀args w,(callFunc 239 args).run Tryz.prog w= .ok (.enter 239 args) w:=enters_of Tryz.func239 (by kernel_rfl) rfl
def axg:∀args w,(callFunc 252 args).run Tryz.prog w= .ok (.enter 252 args) w:=enters_of Tryz.func252 (by kernel_rfl) rfl
def axh:∀args w,(callFunc 253 args).run Tryz.prog w= .ok (.enter 253 args) w:=enters_of Tryz.func253 (by kernel_rfl) rfl
def axi:∀args w,(callFunc 254 args).run Tryz.prog w= .ok (.enter 254 args) w:=enters_of Tryz.func254 (by kernel_rfl) rfl
def axj:∀args w,(callFunc 261 args).run Tryz.prog w= .ok (.enter 261 args) w:=enters_of Tryz.func261 (by kernel_rfl) rfl
def axk:∀args w,(callFunc 270 args).run Tryz.prog w= .ok (.enter 270 args) w:=enters_of Tryz.func270 (by kernel_rfl) rfl
def axl:∀args w,(callFunc 296 args).run Tryz.prog w= .ok (.enter 296 args) w:=enters_of Tryz.func296 (by kernel_rfl) rfl
def avX (W:yh) (n:Nat) (sp:List AV->Option AV):Prop:=∀vals r,sp vals=some r->eX (O W) n vals r
section
variable {W:yh} {m:Int} (hm:W.cell? ⟨2,0,none⟩=some (.int .i64 m)) (ht:Lib.TabIs Tryz.prog W "internal/strconv.uint64pow10" .u64 Lib.pow10Tab)
include hm ht
def ate:ahC.mR (avX W):=
 (Tr.li (akc (O:=O W) (f:=253) (by rfl) axh Tryz.strings_TrimPrefix)
  (Tr.li (akd (O:=O W) (f:=232) (by rfl) axd (fun z w hz hg=>(Tryz.aj6 z hz w (acf ht hg)).mono fun _ _ ⟨h1,k,os,h2⟩=>⟨h1,h2▸abg⟩))
  (Tr.li (akg (O:=O W) (f:=217) (by rfl) axb Tryz.strings_CutPrefix)
  (Tr.li (aqz (O:=O W) (f:=208) (by rfl) axa (a:=⟨2,0,none⟩) (m:=m) hm (fun s sep w hs hc=>Tryz.strings_Cut s sep m w hs hc))
  Tr.jt Tr.jt) (Tr.li (aoq (O:=O W) (f:=229) (by rfl) axc (fun z w h0 h1 hg=>(Tryz.strconv_Itoa z h0 h1 w (acf ht hg)).mono fun _ _ ⟨h1,k,os,h2⟩=>⟨h1,h2▸abg⟩))
  Tr.jt Tr.jt)) (Tr.li (amr (O:=O W) (f:=239) (by rfl) axf (fun x y w hx hy=>Tryz.bits_Mul64 x y hx hy w))
  (Tr.li (alh (O:=O W) (f:=233) (by rfl) axe Tryz.strings_Repeat)
  Tr.jt Tr.jt) (Tr.li (akh (O:=O W) (f:=252) (by rfl) axg Tryz.strings_HasPrefix)
  Tr.jt Tr.jt))) (Tr.li (amt (O:=O W) (f:=278) (by rfl) (fun x y c w h=>Tryz.bits_Add64 x y c h w))
  (Tr.li (aop (O:=O W) (f:=261) (by rfl) axj (fun s cs w hs rR ha=>Tryz.akv s cs w hs rR ha))
  (Tr.li (aor (O:=O W) (f:=254) (by rfl) axi (fun s z w hl h=>(Tryz.strconv_Atoi s z hl h w).mono fun _ _ ⟨h1,t,h2⟩=>⟨h1,h2▸Jb (Lib.bytesWorld_below _ _ _)⟩))
  Tr.jt Tr.jt) (Tr.li (aos (O:=O W) (f:=270) (by rfl) axk (fun x w h0 h1=>Tryz.bits_LeadingZeros64 x w h0 h1))
  Tr.jt Tr.jt)) (Tr.li (ams (O:=O W) (f:=296) (by rfl) axl (fun x w h0 h1=>Tryz.bits_Len64 x w h0 h1))
  (Tr.li (amu (O:=O W) (f:=288) (by rfl) (fun x y b w h=>Tryz.bits_Sub64 x y b h w))
  Tr.jt Tr.jt) Tr.jt)))
def adU:eP (O W) where
 hint n f g h:=Tr.DA (p:=fun f g=>AY zT.ai g=f) (Se zT.asZ) h
 mixed:=by kernel_rfl
 prog n F h:=Tr.DA zT.aqN h
 aU n sp vals r h hs:=Tr.DA (ate hm ht) h vals r hs
 GD n sp hp ct vals v ao bj h:=by cases h
end
end J1
end
section
def bn:List Int->Int
 | []=>0
 | a::r=>if a=0 then bn r else a
def R0 {l:List Int} {i:Nat} (h:i<l.length):bn (l.drop i)=if l[i]=0 then bn (l.drop (i+1)) else l[i]:=by
 rw [yT h,bn]
def cw (lo hi:Int):List Int->Bool
 | []=>false
 | a::r=>if a<lo\/hi<a then true else cw lo hi r
def SH {lo hi:Int} {l:List Int} {i:Nat} (h:i<l.length):cw lo hi (l.drop i)=if l[i]<lo\/hi<l[i] then true else cw lo hi (l.drop (i+1)):=by
 rw [yT h,cw]
def dT (n:Nat) (lo hi:Int):List (List Int)->Int
 | []=>0
 | r::s=>if r.length≠n then 2 else if cw lo hi r=true then 3 else dT n lo hi s
def Sf {n:Nat} {lo hi:Int} {s:List (List Int)} {i:Nat} (h:i<s.length):
  dT n lo hi (s.drop i)=if s[i].length≠n then 2 else if cw lo hi s[i]=true then 3 else dT n lo hi (s.drop (i+1)):=by
 rw [yT h,dT]
def dz (s:List (List Int)):Int:=if s.length=0 then 12 else if 16<s.length then 5 else dT s.length (-1000) 1000 s
def pH (k:List (List Int)):Int:=if k.length=0 then 12 else if 5<k.length then 5 else if k.length%2=0 then 2 else dT k.length (-100) 100 k
def cI:List Int->Int
 | []=>0
 | a::r=>a+cI r
def sK {l:List Int} {i:Nat} (h:i<l.length):cI (l.take (i+1))=cI (l.take i)+l[i]:=by
 induction l generalizing i with
 | nil=>exact absurd h (ua _)
 | cons a r ih=>
  cases i with
  | zero=>simp [cI]
  | succ i=>
   have h':i<r.length:=by simp_all
   simp only [wm,cI,List.getElem_cons_succ,ih h'];omega
def BM {l:List Int} (h:cw 0 1000 l=false):0<=cI l/\cI l<=1000*l.length:=by
 induction l with
 | nil=>simp [cI]
 | cons a r ih=>
  simp only [cw] at h
  split at h
  ·grind
  ·rename_i hc
   have:=ih h
   simp only [cI,yy];omega
def BS {lo hi:Int} {l:List Int} (h:cw lo hi l=false):∀i (cu:i<l.length),lo<=l[i]/\l[i]<=hi:=by
 induction l with
 | nil=>intro i cu;exact absurd cu (ua _)
 | cons a r ih=>
  simp only [cw] at h
  grind
def Jp {lo hi:Int} {l:List Int} (h:cw lo hi l=false):∀i,cw lo hi (l.take i)=false:=by
 induction l with
 | nil=>intro i;simp [cw]
 | cons a r ih=>
  intro i;simp only [cw] at h
  split at h
  ·grind
  ·rename_i hc
   cases i with
   | zero=>simp [cw]
   | succ i=>simp only [wm,cw,hc,yN,ih h i]
def nP (key side:Int) (w:List Int):Int:=
 if key<1\/2147483646<key then 3 else if side<1\/16<side then 3 else if w.length=0 then 12 else if 33<w.length then 5 else if w.length%2=0 then 2 else
 if cw 0 1000 w=true then 3 else if cI w=0 then 6 else 0
def bQ (s:List (List Int)) (c r:Int):Int:=(s.getD (r%s.length).toNat []).getD (c%s.length).toNat 0
def aqR {n m:Int} (h:0<m):(n.tmod m+m).tmod m=n%m:=by
 have e:n.tmod m=if 0<=n\/m∣n then n%m else n%m-m:=by
  grind
 have h1:=Int.emod_nonneg n (by omega:m≠0);rw [e]
 split
 ·rw [y9 (by omega),Int.add_emod_right,ybJ]
 ·rw [show n%m-m+m=n%m by omega,y9 h1,ybJ]
def oE {n:Nat} {lo hi:Int} {s:List (List Int)} (h:dT n lo hi s=0):∀i (cu:i<s.length),s[i].length=n/\cw lo hi s[i]=false:=by
 induction s with
 | nil=>intro i cu;exact absurd cu (ua _)
 | cons r s ih=>
  simp only [dT] at h
  grind
end
section
def dv:List Int->Nat
 | []=>0
 | a::r=>a.toNat+1000000000*dv r
def mX:∀(a b:List Int),dv (a++b)=dv a+1000000000^a.length*dv b
 | [],b=>by simp [dv]
 | x::a,b=>by
  simp only [yW,dv,mX a b,yy,xj,xH]
  grind
def pM {l:List Int} (i:Nat):dv (l.take (i+1))=dv (l.take i)+1000000000^i*(l.getD i 0).toNat:=by
 by_cases h:i<l.length
 ·rw [wz h,mX,yS,xY (by omega)];simp [dv,xJ,List.getElem?_eq_getElem h]
 ·rw [yK (by omega),yK (by omega)]
  grind
abbrev dg (l:List Int):Prop:=cw 0 999999999 l=false
def ik {a b:List Int}:dg (a++b)↔dg a/\dg b:=by
 induction a with
 | nil=>simp [dg,cw]
 | cons x a ih=>
  simp only [dg,yW,cw] at ih ⊢
  grind
def lP {x:Int}:dg [x]↔0<=x/\x<1000000000:=by
 simp only [dg,cw]
 grind
def iD {l:List Int} (h:dg l) (i:Nat):0<=l.getD i 0/\l.getD i 0<1000000000:=by
 by_cases hi:i<l.length
 ·have:=BS h i hi
  grind
 ·grind
def DG {l:List Int} (h:dg l) (i:Nat):dg (l.take i):=Jp h i
def kD:∀{l:List Int},dg l->dv l<1000000000^l.length
 | [],_=>by simp [dv]
 | x::l,h=>by
  have h':dg ([x]++l):=h;obtain ⟨h1,h2⟩:=ik.1 h';have h1:=lP.1 h1
  have:=kD h2
  simp only [dv,yy,xj];omega
def eH:List Int->List Int
 | []=>[]
 | a::r=>match eH r with | []=>if a=0 then [] else [a] | t::q=>a::t::q
def Jd:∀l:List Int,eH (l++[0])=eH l
 | []=>rfl
 | a::l=>by simp only [yW,eH,Jd l]
def Nf {a:Int} (h:a≠0):∀l:List Int,eH (l++[a])=l++[a]
 | []=>by simp [eH,h]
 | b::l=>by
  simp only [yW,eH,Nf h l]
  cases hq:l++[a] with
  | nil=>simp at hq
  | cons t q=>rfl
def Af:∀l:List Int,dv (eH l)=dv l
 | []=>rfl
 | a::l=>by
  have ih:=Af l;simp only [eH,dv]
  split
  ·rename_i h;rw [h] at ih
   split
   ·rename_i h0;subst h0;simp [dv,<-ih]
   ·simp [dv,<-ih]
  ·rename_i t q h;rw [h] at ih;simp only [dv] at ih ⊢;omega
def BT:∀{l:List Int},dg l->dg (eH l)
 | [],_=>rfl
 | a::l,h=>by
  have h':dg ([a]++l):=h;obtain ⟨h1,h2⟩:=ik.1 h';have ih:=BT h2;simp only [eH]
  split
  ·grind
  ·rename_i t q hq;rw [hq] at ih
   exact (ik (a:=[a]) (b:=t::q)).2 ⟨h1,ih⟩
def Nq:∀l:List Int,(eH l).length<=l.length
 | []=>yB _
 | a::l=>by
  have ih:=Nq l;simp only [eH]
  grind
def snoc {α:Type} (l:List α):l=[]\/∃m a,l=m++[a]:=by
 rcases List.eq_nil_or_concat l with h | ⟨m,a,h⟩
 ·grind
 ·grind
def akO:∀(n:Nat) (l:List Int),l.length=n->eH (eH l)=eH l:=by
 intro n
 induction n with
 | zero=>intro l h;rw [yH h];rfl
 | succ n ih=>
  intro l h;rcases snoc l with rfl | ⟨m,a,rfl⟩
  ·rfl
  ·by_cases h0:a=0
   ·subst h0;rw [Jd]
    grind
   ·rw [Nf h0,Nf h0]
def alk (l:List Int):eH (eH l)=eH l:=akO _ l rfl
abbrev nz (l:List Int):Prop:=eH l=l
def FJ (l:List Int):nz (eH l):=alk l
def OT {l:List Int} (h:nz l) (hd:dg l) (h0:l≠[]):1000000000^(l.length-1)<=dv l:=by
 rcases snoc l with rfl | ⟨m,a,rfl⟩
 ·grind
 ·by_cases ha:a=0
  ·subst ha
   have:=Nq m
   have e:=congrArg ybR h;rw [Jd] at e
   grind
  ·rw [mX]
   have:=lP.1 (ik.1 hd).2
   simp only [dv,yO,tL,th,xO,yZ];have h1:1<=a.toNat:=by omega
   have:=yQ (1000000000^m.length) h1
   omega
def adV {l:List Int} (h:nz l) (hd:dg l) (h0:dv l=0):l=[]:=by
 by_cases hl:l=[]
 ·grind
 ·have:=OT h hd hl
  grind
def Ur {a b:List Int} (ha:dg a) (hb:nz b) (dl:dg b) (h:a.length<b.length):dv a<dv b:=by
 have h1:=kD ha;have h2:=OT hb dl (fun e=>by subst e;simp at h);have h3:1000000000^a.length<=1000000000^(b.length-1):=xk (by decide) (by omega);omega
def eE (m n:Nat):Int:=if m<n then -1 else if n<m then 1 else 0
def afy {l:List Int} {i:Nat} (h:i<l.length):dv l=dv (l.take i)+1000000000^i*(l[i].toNat+1000000000*dv (l.drop (i+1))):=by
 have e:l=l.take i++l[i]::l.drop (i+1):=by simp_all
 have:dv l=dv (l.take i++l[i]::l.drop (i+1)):=congrArg dv e
 rw [this,mX,yS,xY (by omega)];rfl
def adW {a b:List Int} {i:Nat} (ha:dg a) (hb:dg b) (h1:i<a.length) (h2:i<b.length) (he:a.drop (i+1)=b.drop (i+1)) (h:a[i]<b[i]):dv a<dv b:=by
 rw [afy h1,afy h2,he];have hl:=kD (DG ha i);have g1:=BS ha i h1;have h3:a[i].toNat+1000000000*dv (b.drop (i+1))+1<=b[i].toNat+1000000000*dv (b.drop (i+1)):=by omega
 have:=yQ (1000000000^i) h3
 grind
def Us:∀{l:List Int} {j:Nat} {x:Int},j<l.length->dv (l.set j x)+1000000000^j*(l.getD j 0).toNat=dv l+1000000000^j*x.toNat
 | [],j,x,h=>by simp at h
 | a::l,0,x,_=>by simp [dv];omega
 | a::l,j+1,x,h=>by
  have ih:=Us (l:=l) (j:=j) (x:=x) (by simpa using h);simp only [yak,dv,yad,xj]
  grind
def On {l:List Int} (h:dg l) {j:Nat} {x:Int} (hx:0<=x/\x<1000000000):dg (l.set j x):=by
 by_cases hj:j<l.length
 ·rw [List.set_eq_take_append_cons_drop,yF hj];have e:l=l.take (j+1)++l.drop (j+1):=(xT _ _).symm;have hd:dg (l.drop (j+1)):=by rw [e] at h;exact (ik.1 h).2
  exact ik.2 ⟨DG h j,(ik (a:=[x]) (b:=l.drop (j+1))).2 ⟨lP.2 hx,hd⟩⟩
 ·rw [List.set_eq_of_length_le (by omega)];exact h
def acg {l:List Int} {j m:Nat} {x:Int} (h:m≠j):(l.set j x).getD m 0=l.getD m 0:=by grind
def aoC {V0 V V' p q A X Y o c s:Nat} (hs:s=o+A*X+c) (bf:V'+p*q*o=V+p*q*(s%1000000000)) (hv:V+p*q*c=V0+p*(A*Y)):
  V'+p*(q*1000000000)*(s/1000000000)=V0+p*(A*(Y+q*X)):=by
 have e:=Nat.mod_add_div s 1000000000;have e2:p*q*s=p*q*(s%1000000000)+p*(q*1000000000)*(s/1000000000):=by
  conv=>lhs;rw [<-e]
  rw [xH,<-xn (p*q),<-xn p q]
 have e3:p*q*s=p*q*o+p*q*(A*X)+p*q*c:=by rw [hs,xH,xH]
 have e4:p*(A*(Y+q*X))=p*(A*Y)+p*q*(A*X):=by
  rw [xH,xH,xn p q,<-xn A q X,xQ A q,xn q A X]
 omega
def ach (n:Nat):dv (yz n 0)=0:=by
 induction n with
 | zero=>rfl
 | succ n ih=>simp [wb,dv,ih]
def aci (n:Nat):dg (yz n 0):=by
 induction n with
 | zero=>rfl
 | succ n ih=>exact (ik (a:=[0]) (b:=yz n 0)).2 ⟨by decide,ih⟩
end
section
def bv (b:Nat):List Nat->Nat
 | []=>0
 | a::r=>a+b*bv b r
def lo (b:Nat) (l:List Nat):Prop:=∀x,x∈l->x<b
section
variable {b:Nat}
def B8 (a:Nat):bv b [a]=a:=by simp [bv]
def sL:∀(l m:List Nat),bv b (l++m)=bv b l+b^l.length*bv b m
 | [],m=>by simp [bv]
 | x::l,m=>by
  simp only [yW,bv,sL l m,yy,xj,xH]
  grind
def gd {l:List Nat} {i:Nat} (h:i<l.length):l[i]=l.getD i 0:=by simp_all
def Ut {l:List Nat} {i:Nat} (h:l.length<=i):l.getD i 0=0:=by simp_all
def jM {l:List Nat} (i:Nat):bv b (l.take (i+1))=bv b (l.take i)+b^i*l.getD i 0:=by
 by_cases h:i<l.length
 ·rw [wz h,sL,yS,xY (by omega),B8,gd h]
 ·rw [yK (by omega),yK (by omega),Ut (by omega),xO,yZ]
def Oo:lo b []:=fun _ h=>by simp at h
def Nr {l m:List Nat}:lo b (l++m)↔lo b l/\lo b m:=by
 constructor
 ·intro h;exact ⟨fun x hx=>h x (by simp [hx]),fun x hx=>h x (by simp [hx])⟩
 ·rintro ⟨h1,h2⟩ x hx;rcases List.mem_append.1 hx with h | h
  ·exact h1 x h
  ·exact h2 x h
def F6 {x:Nat}:lo b [x]↔x<b:=by simp [lo]
def gY (hb:0<b) {l:List Nat} (h:lo b l) (i:Nat):l.getD i 0<b:=by
 by_cases hi:i<l.length
 ·rw [<-gd hi];exact h _ (List.getElem_mem hi)
 ·grind
def B0 {l:List Nat} (h:lo b l) (i:Nat):lo b (l.take i):=fun x hx=>h x (List.mem_of_mem_take hx)
def adX {l:List Nat} (h:lo b l) (i:Nat):lo b (l.drop i):=fun x hx=>h x (List.mem_of_mem_drop hx)
def nh {l:List Nat} (h:lo b l) {i x:Nat} (hx:x<b):lo b (l.set i x):=fun y hy=>by
 rcases List.mem_or_eq_of_mem_set hy with h1 | h1
 ·exact h y h1
 ·omega
def F7 (hb:0<b) (n:Nat):lo b (yz n 0):=fun x hx=>by
 grind
def F9 (n:Nat):bv b (yz n 0)=0:=by
 induction n with
 | zero=>rfl
 | succ n ih=>simp [wb,bv,ih]
def DH (n m:Nat):(yz n (0:Nat)).getD m 0=0:=by grind
def nm:∀{l:List Nat},lo b l->bv b l<b^l.length
 | [],_=>by simp [bv]
 | x::l,h=>by
  have h1:=h x (by simp);have h2:=nm (l:=l) (fun y hy=>h y (by simp [hy]));simp only [bv,yy,xj,xQ _ b]
  have:=yQ b (show bv b l+1<=b^l.length from h2)
  grind
def oK:∀{l:List Nat} {i x:Nat},i<l.length->bv b (l.set i x)+b^i*l.getD i 0=bv b l+b^i*x
 | [],i,x,h=>by simp at h
 | a::l,0,x,_=>by simp [bv];omega
 | a::l,i+1,x,h=>by
  have ih:=oK (l:=l) (i:=i) (x:=x) (by simpa using h)
  have:=congrArg (fun t=>b*t) ih
  simp only [xH] at this;simp only [yak,bv,yad,xj,xQ _ b,xn] at this ⊢;omega
def pN {l:List Nat} {i m x:Nat} (h:i≠m):(l.set i x).getD m 0=l.getD m 0:=by simp_all
def alm {l:List Nat} {i x:Nat} (h:i<l.length):(l.set i x).getD i 0=x:=by simp_all
def Jx (l:List Nat) (i:Nat) (h:i<=l.length):bv b l=bv b (l.take i)+b^i*bv b (l.drop i):=by
 have:=sL (b:=b) (l.take i) (l.drop i)
 simp_all
def eI:List Nat->List Nat
 | []=>[]
 | a::r=>match eI r with | []=>if a=0 then [] else [a] | t::q=>a::t::q
def Ng:∀l:List Nat,eI (l++[0])=eI l
 | []=>rfl
 | a::l=>by simp only [yW,eI,Ng l]
def Fs {a:Nat} (h:a≠0):∀l:List Nat,eI (l++[a])=l++[a]
 | []=>by simp [eI,h]
 | b::l=>by
  simp only [yW,eI,Fs h l]
  cases hq:l++[a] with
  | nil=>simp at hq
  | cons t q=>rfl
abbrev gU (l:List Nat):Prop:=eI l=l
def aln:∀(n:Nat) (l:List Nat),l.length=n->∃i,i<=n/\eI l=l.take i/\gU (l.take i)/\bv b (l.take i)=bv b l:=by
 intro n
 induction n with
 | zero=>intro l h;rw [yH h];exact ⟨0,yB _,rfl,rfl,rfl⟩
 | succ n ih=>
  intro l h;rcases snoc l with rfl | ⟨m,a,rfl⟩
  ·grind
  ·have hm:m.length=n:=by simp_all
   by_cases h0:a=0
   ·subst h0;obtain ⟨i,h1,h2,h3,h4⟩:=ih m hm;have e:(m++[0]).take i=m.take i:=by grind
    refine ⟨i,by omega,by rw [Ng,h2,e],by rw [e];exact h3,?_⟩
    rw [e,h4,sL];simp [bv]
   ·have e:(m++[a]).take (n+1)=m++[a]:=yK (by simp [hm]);exact ⟨n+1,yB _,by rw [e,Fs h0],by rw [e];exact Fs h0 m,by rw [e]⟩
def Ns (l:List Nat):∃i,i<=l.length/\eI l=l.take i/\gU (eI l)/\bv b (eI l)=bv b l:=by
 obtain ⟨i,h1,h2,h3,h4⟩:=aln (b:=b) l.length l rfl
 grind
def BU (l:List Nat):bv b (eI l)=bv b l:=by
 obtain ⟨_,_,_,_,h⟩:=Ns (b:=b) l;exact h
def BV (l:List Nat):gU (eI l):=by
 obtain ⟨_,_,_,h,_⟩:=Ns (b:=2) l;exact h
def BW {l:List Nat} (h:lo b l):lo b (eI l):=by
 obtain ⟨i,_,h2,_⟩:=Ns (b:=b) l;rw [h2];exact B0 h i
def amA (l:List Nat):(eI l).length<=l.length:=by
 obtain ⟨i,_,h2,_⟩:=Ns (b:=2) l
 grind
def NM {l:List Nat} (h:gU l) (h0:l≠[]):l.getD (l.length-1) 0≠0:=by
 rcases snoc l with rfl | ⟨m,a,rfl⟩
 ·grind
 ·intro ha
  have:a=0:=by
   grind
  subst this;have e:=congrArg ybR h;rw [Ng] at e
  have:=amA m
  grind
def Oq (hb:0<b) {l:List Nat} (h:gU l) (h0:l≠[]):b^(l.length-1)<=bv b l:=by
 rcases snoc l with rfl | ⟨m,a,rfl⟩
 ·grind
 ·have ha:=NM h h0;simp [xJ] at ha;rw [sL,B8];simp only [yO,tL,th]
  have:=yQ (b^m.length) (show 1<=a by omega)
  omega
def aoD (hb:0<b) {l:List Nat} (h:gU l) (h0:bv b l=0):l=[]:=by
 by_cases hl:l=[]
 ·grind
 ·have:=Oq hb h hl
  grind
def N8 (hb:1<b) {l m:List Nat} (hl:lo b l) (hm:gU m) (h:l.length<m.length):bv b l<bv b m:=by
 have h1:=nm hl;have h2:=Oq (b:=b) (by omega) hm (fun e=>by subst e;simp at h);have h3:b^l.length<=b^(m.length-1):=xk (by omega) (by omega);omega
def adY {l m:List Nat} (hl:lo b l) {i:Nat} (h1:i<l.length) (h2:i<m.length) (he:l.drop (i+1)=m.drop (i+1)) (h:l.getD i 0<m.getD i 0):bv b l<bv b m:=by
 rw [Jx l (i+1) (by omega),Jx m (i+1) (by omega),he,jM,jM]
 have:=nm (B0 hl i)
 have:=yQ (b^i) (show l.getD i 0+1<=m.getD i 0 from h)
 grind
def amB (hb:1<b) {l:List Nat} {k:Nat} (h:gU l) (hk:bv b l<b^k):l.length<=k:=by
 by_cases h0:l=[]
 ·grind
 ·have h1:=Oq (b:=b) (by omega) h h0;have h2:b^(l.length-1)<b^k:=xR h1 hk
  have:=(Nat.pow_lt_pow_iff_right hb).1 h2
  omega
def aaq {V v1 v2 vr U u0 u1 u2 ur p t r:Nat} (hV:V=(v1*b+v2)*p+vr) (hU:U=((u0*b+u1)*b+u2)*p+ur) (hur:ur<p)
  (ht:t*v1+r=u0*b+u1) (h:r*b+u2<t*v2):U/V<=t-1:=by
 have h1:U<t*V:=by
  have e:t*((v1*b+v2)*p)=((t*v1)*b+t*v2)*p:=by
   grind
  have h2:((u0*b+u1)*b+u2)+1<=(t*v1)*b+t*v2:=by rw [<-ht,wZ];omega
  have h3:=y5 p h2;rw [hV,hU,xH,e]
  grind
 have sn:0<V:=by
  grind
 have:=(Nat.div_lt_iff_lt_mul sn).2 h1
 omega
def abh {V v1 v2 vr U u0 u1 u2 ur p t r:Nat} (hb:0<b) (hV:V=(v1*b+v2)*p+vr) (EU:vr<p) (hU:U=((u0*b+u1)*b+u2)*p+ur) (eN:0<v1) (di:v2<b) (lG:t<b)
  (ht:t*v1+r=u0*b+u1) (h:b<=r\/t*v2<=r*b+u2):t<=U/V+1:=by
 have h2:t*v2<=r*b+u2:=by
  rcases h with h | h
  ·have:=Nat.mul_le_mul (tz lG) (tz di)
   have:=y5 b h
   omega
  ·exact h
 have h3:t*(v1*b+v2)<=(u0*b+u1)*b+u2:=by
  rw [xH,<-xn,<-ht,wZ];omega
 have hp:0<p:=by omega
 have aCo:b<=v1*b:=Nat.le_mul_of_pos_left b eN;have sn:0<V:=by
  have:=yaK (show 0<v1*b+v2 by omega) hp
  omega
 rcases xu t with h0 | h0
 ·grind
 ·obtain ⟨s,rfl⟩:∃s,t=s+1:=⟨t-1,by omega⟩;have h4:s*V<=U:=by
   have h5:V<=(v1*b+v2+1)*p:=by grind
   have h6:=yQ s h5;have h7:s*(v1*b+v2+1)<=(s+1)*(v1*b+v2):=by
    grind
   have h8:=y5 p (Nat.le_trans h7 h3)
   grind
  exact Nat.succ_le_succ ((tV sn).2 h4)
def R1 {V v1 v2 vr U u0 u1 u2 ur p:Nat} (hV:V=(v1*b+v2)*p+vr) (hU:U=((u0*b+u1)*b+u2)*p+ur) (hur:ur<p) (Bp:u2<b) (eN:0<v1):U/V<=(u0*b+u1)/v1:=by
 by_cases sn:V=0
 ·grind
 ·refine (tV eN).2 ?_;have h1:=Nat.div_mul_le_self U V;generalize U/V=q at h1 ⊢;have h2:q*v1*(b*p)<=q*V:=by
   rw [hV,xn]
   grind
  have h3:U<(u0*b+u1+1)*(b*p):=by
   have:(u0*b+u1)*b+u2+1<=(u0*b+u1+1)*b:=by grind
   have:=y5 p this
   grind
  have h4:q*v1*(b*p)<(u0*b+u1+1)*(b*p):=by omega
  have:=tp h4
  omega
def abi {V v1 v2 vr U u0 u1 u2 ur p:Nat} (hV:V=(v1*b+v2)*p+vr) (hU:U=((u0*b+u1)*b+u2)*p+ur) (EU:vr<p) (di:v2<b) (h:U<b*V):u0<=v1:=by
 refine Nat.le_of_lt_succ ?_;have h1:V<(v1+1)*(b*p):=by
  have:v1*b+v2+1<=(v1+1)*b:=by grind
  have:=y5 p this
  grind
 have h2:u0*(b*(b*p))<=U:=by
  grind
 have h3:=yQ b (tz h1);have e:b*((v1+1)*(b*p))=(v1+1)*(b*(b*p)):=by grind
 rw [e] at h3;have h4:u0*(b*(b*p))<(v1+1)*(b*(b*p)):=xR h2 (Nat.lt_of_lt_of_le h h3);exact tp h4
end
end
section
section
variable {P:aI} {L:Lib} {f:cT} {F:Nat->cT}
def C5 (f:cT) (F:Nat->cT):Prop:=∀c s r,f c s=some r->∃n,F n c s=some r
def Mon (F:Nat->cT):Prop:=∀n m,n<=m->Le (F n) (F m)
def MT (h:C5 f F) (n:Nat) (vals:List AV) (r:AV) (hr:bY P L f n vals=some r):∃k,bY P L (F k) n vals=some r:=by
 unfold bY at hr ⊢
 cases hL:L.pure n with
 | some sp=>exact ⟨0,by simpa only [hL] using hr⟩
 | none=>
  simp only [hL] at hr ⊢
  cases hP:P n with
  | none=>simp [hP] at hr
  | some G=>
   simp only [hP] at hr ⊢
   cases hf:f G.body ⟨fM 0 vals,[],0,0⟩ with
   | none=>simp [hf] at hr
   | some q=>
    obtain ⟨k,hk⟩:=h _ _ _ hf
    grind
def Sg (h:C5 f F) (hp:Hp) (ct:Nat) (n:Nat) (vals:List AV) (r:AV×Hp×Nat) (hr:iS P L f hp ct n vals=some r):∃k,iS P L (F k) hp ct n vals=some r:=by
 unfold iS at hr ⊢
 cases hL:L.heap n with
 | some sp=>exact ⟨0,by simpa only [hL] using hr⟩
 | none=>
  simp only [hL] at hr ⊢
  cases hP:P n with
  | none=>simp [hP] at hr
  | some G=>
   simp only [hP] at hr ⊢
   cases hf:f G.body ⟨fM 0 vals,hp,ct,ct⟩ with
   | none=>simp [hf] at hr
   | some q=>
    obtain ⟨k,hk⟩:=h _ _ _ hf
    grind
def ZS (h:C5 f F) (hm:Mon F) (hp:Hp) (ct:Nat) (l:Nat) (xs:List AV) (r:AV×Hp×Nat) (hr:jq f hp ct l xs=some r):∃k,jq (F k) hp ct l xs=some r:=by
 have key:∃k,∀g,Le (F k) g->jq g hp ct l xs=some r:=by
  unfold jq at hr
  cases hl:ap hp l with
  | none=>simp [hl] at hr
  | some o=>
   split at hr
   ·rename_i tm ps as_ body pe po
    cases hb:rB tm ps xs with
    | none=>simp [hb] at hr
    | some tm'=>
     simp only [hb] at hr
     cases h1:f as_ ⟨tm',hp,ct,ct⟩ with
     | none=>simp [h1] at hr
     | some q=>
      obtain ⟨k1,om⟩:=h _ _ _ h1
      split at hr
      ·rename_i s1 Vw
       split at hr
       ·rename_i iL zF EE D2 qJ ahA
        cases h2:f body ⟨s1.tm,bf s1.hp l (.lp iL zF EE D2 1 qJ),s1.ct,s1.ct⟩ with
        | none=>simp [h2] at hr
        | some q2=>
         obtain ⟨k2,Bh⟩:=h _ _ _ h2;refine ⟨max k1 k2,fun g hg=>?_⟩;have e1:=hg _ _ _ (hm k1 _ (vO k1 k2) _ _ _ om);have e2:=hg _ _ _ (hm k2 _ (vE k1 k2) _ _ _ Bh);unfold jq
         grind
       ·simp at hr
      ·simp at hr
   ·simp at hr
 obtain ⟨k,hk⟩:=key;exact ⟨k,hk _ (fun _ _ _ h=>h)⟩
def aar (h:C5 f F) (hm:Mon F) (hp:Hp) (ct:Nat) (m:Md) (fv:AV) (xs:List AV) (r:AV×Hp×Nat) (hr:dR P L f hp ct m fv xs=some r):∃k,dR P L (F k) hp ct m fv xs=some r:=by
 unfold dR at hr ⊢
 split at hr
 ·rename_i n first cap
  cases m with
  | pure=>
   cases hz:cW deep hp (first++(xs++cap)) with
   | none=>simp [hz] at hr
   | some q=>
    simp only [hz] at hr ⊢
    cases hc:bY P L f n q.1 with
    | none=>simp [hc] at hr
    | some u=>
     obtain ⟨k,hk⟩:=MT h n q.1 u hc
     grind
  | own=>
   cases hz:cW deep hp (first++(xs++cap)) with
   | none=>simp [hz] at hr
   | some q=>
    simp only [hz] at hr ⊢
    cases hc:bY P L f n q.1 with
    | none=>simp [hc] at hr
    | some u=>
     obtain ⟨k,hk⟩:=MT h n q.1 u hc
     grind
  | heap=>exact Sg h _ _ _ _ _ hr
  | dyn=>
   cases hz:aK (first++(xs++cap)) with
   | true=>
    simp only [hz,ym] at hr ⊢
    cases hc:bY P L f n (first++(xs++cap)) with
    | none=>simp [hc] at hr
    | some u=>
     obtain ⟨k,hk⟩:=MT h n _ u hc
     grind
   | false=>
    simp only [hz,yD] at hr ⊢;exact Sg h _ _ _ _ _ hr
 ·split at hr
  ·exact ZS h hm _ _ _ _ _ hr
  ·exact ZS h hm _ _ _ _ _ hr
  ·simp at hr
 ·simp at hr
def aoE (h:C5 f F) (hm:Mon F) (tm:Env) (hp:Hp) (ct:Nat) (o:Op) (r:AV×Hp×Nat) (hr:bC P L f tm hp ct o=some r):∃k,bC P L (F k) tm hp ct o=some r:=by
 unfold bC at hr ⊢
 split at hr
 ·exact aar h hm _ _ _ _ _ _ hr
 ·rename_i rs fv xs
  cases hc:dR P L f hp ct .dyn (aC tm fv) (dS tm xs) with
  | none=>simp [hc] at hr
  | some q=>
   obtain ⟨k,hk⟩:=aar h hm _ _ _ _ _ _ hc
   grind
 all_goals exact ⟨0,by simpa only using hr⟩
def SI (h:C5 f F) (hm:Mon F):∀(ops:List br) (s s':St),ej P L f ops s=some s'->∃k,ej P L (F k) ops s=some s'
 | [],s,s',hr=>⟨0,by simpa only [ej] using hr⟩
 | ⟨d,gd,o⟩::r,s,s',hr=>by
  simp only [ej] at hr ⊢
  split at hr
  ·rename_i hw
   cases ho:bC P L f s.tm s.hp s.ct o with
   | none=>simp [ho] at hr
   | some q=>
    obtain ⟨k1,om⟩:=aoE h hm _ _ _ _ _ ho;simp only [ho] at hr;obtain ⟨k2,Bh⟩:=SI h hm r _ _ hr;refine ⟨max k1 k2,?_⟩;rw [aa8 (hm k1 _ (vO k1 k2)) _ _ _ _ _ om];exact M8 (hm k2 _ (vE k1 k2)) r _ _ Bh
  ·rename_i hw;exact SI h hm r _ _ hr
  ·simp at hr
def Dy (h:C5 f F) (hm:Mon F):∀(c:VC) (s:St) (r:Ex×St),bL P L f c s=some r->∃k,bL P L (F k) c s=some r
 | .skip,s,r,hr=>⟨0,by simpa only [bL] using hr⟩
 | .aT ops,s,r,hr=>by
  simp only [bL] at hr ⊢
  cases ho:ej P L f ops s with
  | none=>simp [ho] at hr
  | some s'=>
   obtain ⟨k,hk⟩:=SI h hm _ _ _ ho
   grind
 | .seq a b,s,r,hr=>by
  simp only [bL] at hr ⊢
  cases ha:bL P L f a s with
  | none=>simp [ha] at hr
  | some q=>
   obtain ⟨k1,om⟩:=Dy h hm a s q ha;obtain ⟨ex,s1⟩:=q
   cases ex with
   | normal=>
    simp only [ha] at hr;obtain ⟨k2,Bh⟩:=Dy h hm b s1 r hr;refine ⟨max k1 k2,?_⟩;rw [rb (hm k1 _ (vO k1 k2)) a s _ om];exact rb (hm k2 _ (vE k1 k2)) b s1 r Bh
   | ret=>exact ⟨k1,by rw [om];simpa only [ha] using hr⟩
   | exit id=>exact ⟨k1,by rw [om];simpa only [ha] using hr⟩
 | .cond x a b,s,r,hr=>by
  simp only [bL] at hr ⊢
  split at hr
  ·rename_i t ht
   cases t with
   | true=>simp only [ym] at hr ⊢;exact Dy h hm a s r hr
   | false=>simp only [yD] at hr ⊢;exact Dy h hm b s r hr
  ·simp at hr
 | .aP id a,s,r,hr=>by
  simp only [bL] at hr ⊢
  cases ha:bL P L f a s with
  | none=>simp [ha] at hr
  | some q=>
   obtain ⟨k,hk⟩:=Dy h hm a s q ha
   grind
 | .kp live,s,r,hr=>⟨0,by simpa only [bL] using hr⟩
 | .fz ts,s,r,hr=>⟨0,by simpa only [bL] using hr⟩
 | .loop live a,s,r,hr=>by
  simp only [bL] at hr ⊢
  cases ha:bL P L f a (bA live s) with
  | none=>simp [ha] at hr
  | some q=>
   obtain ⟨k1,om⟩:=Dy h hm a _ q ha;obtain ⟨ex,s1⟩:=q
   cases ex with
   | normal=>
    simp only [ha] at hr;obtain ⟨k2,Bh⟩:=h _ _ _ hr;refine ⟨max k1 k2,?_⟩;rw [rb (hm k1 _ (vO k1 k2)) a _ _ om];exact hm k2 _ (vE k1 k2) _ _ _ Bh
   | ret=>exact ⟨k1,by rw [om];simpa only [ha] using hr⟩
   | exit id=>exact ⟨k1,by rw [om];simpa only [ha] using hr⟩
 | .rf fv ps as_ body,s,r,hr=>by
  simp only [bL] at hr ⊢
  split at hr
  ·rename_i n first cap hx
   split at hr
   ·grind
   ·rename_i hL
    cases hc:iS P L f ((s.ct,.lp s.tm ps as_ body 0 .none)::s.hp) (s.ct+1) n (first++(.fn (.y s.ct) [] []::cap)) with
    | none=>simp [hc] at hr
    | some q=>
     obtain ⟨k,hk⟩:=Sg h _ _ _ _ _ hc
     grind
  ·simp at hr
 | .exit id,s,r,hr=>⟨0,by simpa only [bL] using hr⟩
 | .ret,s,r,hr=>⟨0,by simpa only [bL] using hr⟩
end
section
variable (P:aI) (L:Lib)
noncomputable def D:cT:=fun c s=>@dite _ (∃r n,ev P L n c s=some r) (Classical.propDecidable _) (fun h=>some h.choose) (fun _=>none)
variable {P L}
def ahD {c:VC} {s:St} {r:Ex×St} {n:Nat} (h:ev P L n c s=some r):D P L c s=some r:=by
 have hx:∃r n,ev P L n c s=some r:=⟨r,n,h⟩;unfold D;obtain ⟨m,hm⟩:=hx.choose_spec;have e1:=TK P L (vO n m) _ _ _ h;have e2:=TK P L (vE n m) _ _ _ hm
 grind
def VN {c:VC} {s:St} {r:Ex×St} (h:D P L c s=some r):∃n,ev P L n c s=some r:=by
 unfold D at h;by_cases hx:∃r n,ev P L n c s=some r
 ·grind
 ·grind
def axm (n:Nat):Le (ev P L n) (D P L):=fun _ _ _ h=>ahD h
def agP:C5 (D P L) (ev P L):=fun _ _ _ h=>VN h
def atf:Mon (ev P L):=fun _ _ h=>TK P L h
def mc (c:VC) (s:St):D P L c s=bL P L (D P L) c s:=by
 cases h:D P L c s with
 | some r=>
  obtain ⟨n,hn⟩:=VN h
  cases n with
  | zero=>rw [JG] at hn;cases hn
  | succ n=>rw [JH] at hn;exact (rb (axm n) c s r hn).symm
 | none=>
  cases hs:bL P L (D P L) c s with
  | none=>rfl
  | some r=>
   obtain ⟨n,hn⟩:=Dy agP atf c s r hs;rw [<-JH] at hn;rw [ahD hn] at h;cases h
def Uu {f:Nat} {vals:List AV} {r:AV} (h:bY P L (D P L) f vals=some r):∃n,WS P L n f vals=some r:=MT agP f vals r h
end
end
end VE
