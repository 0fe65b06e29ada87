import Derived.ChangeSlices
import Derived.ChangeReads
import Derived.ChangeSame
import Derived.OpenShut
import Derived.Lib.AtoiErrMem
import Derived.Test.YtflgmingejdfnaaGreatDoorVal
import Derived.Test.YtflgmingejdfnaaGreatDoorVah
import Derived.Test.YtflgmingejdfnaaGreatDoorVaj
import Derived.Test.YtflgmingejdfnaaGreatDoorVam
import Derived.Test.YtflgmingejdfnaaGreatDoorVan
import Derived.Test.YtflgmingejdfnaaGreatDoorVag
set_option linter.all false
set_option maxRecDepth 100000
open Array renaming getElem?_eq_some_iff→xz
open Bool renaming and_eq_true→yf
open Go renaming Addr→uh,ChangeSpec→ybA,DataW→xp,Field→uv,MemPlace→xT,Program→y5,TypeId→yx,Value→ye,World→yh
open Int renaming emod_emod→ybt,tmod_eq_emod_of_nonneg→xm
open List renaming all_cons→yad,cons_append→y8,drop_drop→vC,drop_eq_getElem_cons→yO,drop_eq_nil_of_le→xj,eq_nil_of_length_eq_zero→yN,flatMap_cons→yaj,getD_cons_succ→tU,getD_eq_getElem?_getD→xM,getElem?_cons_zero→vn,length→ybB,length_append→yQ,length_cons→yv,length_singleton→tD,length_take→yT,mapM_cons→vM,mapM_nil→uY,map_cons→y9,mem_append_left→ud,mem_append_right→vt,mem_flatMap→vV,range→xh,range'→xH,range'_succ→vJ,range'_zero→yaw,range_eq_range'→tM,replicate→yA,replicate_succ→xU,set_cons_succ→yac,take_append_drop→xP,take_of_length_le→yL,take_succ_cons→wm,take_succ_eq_append_getElem→wj
open Nat renaming add_mul→wG,add_sub_cancel→uS,add_zero→yX,beq→yr,eq_of_beq_eq_true→yo,eq_zero_or_pos→xr,le_div_iff_mul_le→tO,le_max_left→vI,le_max_right→vz,le_of_lt→tc,le_refl→yD,lt_of_le_of_lt→wD,lt_of_mul_lt_mul_right→uU,min_eq_left→wE,mul_add→xD,mul_assoc→xk,mul_comm→xN,mul_le_mul_left→yS,mul_le_mul_right→yZ,mul_pos→yaK,mul_zero→xJ,not_lt_zero→uo,pow_le_pow_right→xn,pow_succ→xg,zero_add→yd
open Option renaming bind_eq_bind→wY,bind_some→xG,map_some→wq,pure_def→wv
open Option.some renaming injEq→yc
open Prod.mk renaming injEq→yk
namespace VE
section
open Go
section
variable (P:y5)
def DK (self:yx->Bool):List uv->Nat->Nat->Bool
 | [],o,n=>yr o n
 | f::r,o,n=>yr f.offset o&&(self f.type&&DK self r (o+P.cellsOf f.type) n)
def flat:Nat->yx->Bool
 | 0,_=>false
 | n+1,t=>
  match P.underlying t with
  | some .bool | some (.int _) | some (.float _) | some .string=>yr (P.cellsOf t) 1
  | some (.slice e)=>yr (P.cellsOf t) 1&&(Nat.blt 0 (P.cellsOf e)&&flat n e)
  | some (.struct fs)=>DK P (fun u=>flat n u) fs.toList 0 (P.cellsOf t)
  | some (.array k e)=>yr (P.cellsOf t) (k*P.cellsOf e)&&flat n e
  | _=>false
def cW {H:Type}:Nat->yx->xp H->List AV
 | 0,_,_=>[]
 | n+1,t,d=>
  match P.underlying t,d with
  | some .bool,.lit (.bool b)=>[.bool b]
  | some (.int k),.lit (.int _ m)=>[.int k m]
  | some (.float k),.lit (.float _ b)=>[.dB k b]
  | some .string,.lit (.string s)=>[.str (s.map UInt8.toNat)]
  | some (.slice _),.nil=>[.ab]
  | some (.slice e),.slice jw spare=>[.aE spare.isEmpty jw.length (jw.flatMap fun x=>cW n e x)]
  | some (.struct fs),.agg parts=>(fs.toList.zip parts).flatMap fun x=>cW n x.1.type x.2
  | some (.array _ e),.agg parts=>parts.flatMap fun x=>cW n e x
  | _,_=>[]
end
section
variable {ah:Nat->Nat} {m:Mp} {S:Nat->Prop} {w:yh}
def YQ:∀{a b:List AV} {aO o:Nat},bT ah m S w a aO o->bT ah m S w b aO (o+a.length)->bT ah m S w (a++b) aO o
 | [],b,aO,o,_,h=>by simpa using h
 | x::a,b,aO,o,h1,h2=>by
  exact ⟨h1.1,YQ h1.2 (by rw [yv] at h2;rw [show o+1+a.length=o+(a.length+1) by omega];exact h2)⟩
def KV:∀{a b:List AV},aJ a=true->aJ b=true->aJ (a++b)=true
 | [],_,_,h=>h
 | x::a,b,h1,h2=>by
  simp only [aJ,y8,yf] at h1 ⊢;exact ⟨h1.1,KV h1.2 h2⟩
def YR:∀{a:List AV} {us:List ye},au ah m S w a us->a.length=us.length
 | [],us,h=>by simp only [au] at h;subst h;rfl
 | x::a,us,h=>by
  obtain ⟨u,r,rfl,_,h2⟩:=h;simp [YR h2]
end
section
variable {H:Type} {enc:yx×ye->H} {P:y5} {w:yh} {held:Bool} {ah:Nat->Nat} {m:Mp} {S:Nat->Prop}
def aa0 {a:uh} {i:Nat} {u:ye} (h:w.cell? (a.add i)=some u):w.cell? ⟨a.block,a.off+i,none⟩=some u/\(i=0->a.spot=none):=by
 by_cases hi:i=0
 ·subst hi;have e:a.add 0=a:=by simp [Addr.add]
  rw [e] at h;have hs:a.spot=none:=by
   cases hq:a.spot with
   | none=>rfl
   | some k=>
    unfold World.cell? at h
    split at h
    ·simp [hq] at h
    all_goals simp_all
  obtain ⟨b,o,sp⟩:=a;simp only at hs;subst hs;exact ⟨by simpa using h,fun _=>rfl⟩
 ·have e:a.add i=⟨a.block,a.off+i,none⟩:=by simp [Addr.add,hi]
  rw [e] at h;exact ⟨h,fun h=>(hi h).elim⟩
def ajS (a:uh) (i:Nat):(a.add i).block=a.block:=by unfold Addr.add;split<;>rfl
def aob (a:uh) (i:Nat):(a.add i).off=a.off+i:=by unfold Addr.add;split<;>simp_all
def K6 {α β:Type} {f:α->Option β}:∀{l:List α} {r:List β},l.mapM f=some r->r.length=l.length
 | [],r,h=>by simp only [uY,wv,yc] at h;subst h;rfl
 | x::l,r,h=>by
  rw [vM] at h
  cases h1:f x with
  | none=>simp [h1] at h
  | some y=>
   cases h2:l.mapM f with
   | none=>simp [h1,h2] at h
   | some ys=>
    simp only [h1,h2,xG,wY,wv,yc] at h;subst h;simp [K6 h2]
def alW {c:AV} {l:List AV} {b o:Nat} (h:bT ah m S w (c::l) b o):b<w.heap.size:=by
 obtain ⟨⟨u,h1,_⟩,_⟩:=h;unfold World.cell? at h1
 cases hq:w.heap[b]? with
 | none=>simp [hq] at h1
 | some o=>exact (xz.1 hq).1
def Qc {e:yx} {bB sz:Nat} {f:xp H->List AV} {a:uh} (eQ:0<sz)
  (IH:∀(cs:List ye) (d:xp H) (ps:List xT),DataW.trod enc P w 0 (fun _=>true) held bB e cs=some (d,ps)->au ah m S w (f d) cs/\aJ (f d)=true/\cs.length=sz):
  ∀(k j:Nat) (xs:List (xp H×List xT)),(xH j k).mapM (fun i=>(w.cells? 0 (a.add (i*sz)) sz).bind (DataW.trod enc P w 0 (fun _=>true) held bB e))=some xs->
   bT ah m S w ((xs.map (·.1)).flatMap f) a.block (a.off+j*sz)/\aJ ((xs.map (·.1)).flatMap f)=true/\((xs.map (·.1)).flatMap f).length=k*sz/\xs.length=k/\(0<k->a.spot=none\/0<j)
 | 0,j,xs,h=>by
  simp only [yaw,uY,wv,yc] at h;subst h;simp [bT,aJ]
 | k+1,j,xs,h=>by
  rw [vJ,vM] at h
  cases h1:(w.cells? 0 (a.add (j*sz)) sz) with
  | none=>simp [h1] at h
  | some us=>
   cases h2:DataW.trod enc P w 0 (fun _=>true) held bB e us with
   | none=>simp [h1,h2] at h
   | some x=>
    cases h3:(xH (j+1) k).mapM (fun i=>(w.cells? 0 (a.add (i*sz)) sz).bind (DataW.trod enc P w 0 (fun _=>true) held bB e)) with
    | none=>simp [h1,h2,h3] at h
    | some ys=>
     simp only [h1,h2,h3,xG,wY,wv,yc] at h;subst h;obtain ⟨d,ps⟩:=x;obtain ⟨g1,g2,g3⟩:=IH us d ps h2;obtain ⟨k1,k2,k3,k4,_⟩:=Qc eQ IH k (j+1) ys h3;obtain ⟨_,c2,c3⟩:=World.cells?_some h1;have hl:(f d).length=sz:=by rw [YR g1,g3]
     have hc:∀(i:Nat) (u:ye),us[i]? =some u->w.cell? ⟨a.block,a.off+j*sz+i,none⟩=some u:=by
      intro i u hi;have Fh:i<sz:=by grind
      have h:=c3 i Fh;rw [hi] at h
      have:=(aa0 h).1
      rwa [ajS,aob] at this
     refine ⟨?_,?_,?_,by simp [k4],?_⟩
     ·simp only [y9,yaj];refine YQ (DS _ us _ g1 hc) ?_
      grind
     ·simp only [y9,yaj];exact KV g2 k2
     ·grind
     ·intro _;rcases xr j with hj | hj
      ·left
       have h:=c3 0 eQ;have hu:us[0]? =some us[0]:=by simp_all
       rw [hu] at h
       have:=(aa0 h).2 rfl
       subst hj;simpa [Addr.add] using this
      ·grind
def X2 {bB N:Nat} {n:Nat} {cs:List ye} (hN:cs.length=N)
  (IH:∀(t:yx) (cs:List ye) (d:xp H) (ps:List xT),flat P n t=true->DataW.trod enc P w 0 (fun _=>true) held bB t cs=some (d,ps)->au ah m S w (cW P n t d) cs/\aJ (cW P n t d)=true/\cs.length=P.cellsOf t):
  ∀(r:List uv) (o:Nat) (xs:List (xp H×List xT)),DK P (fun u=>flat P n u) r o N=true->r.mapM (fun f=>DataW.trod enc P w 0 (fun _=>true) held bB f.type ((cs.drop f.offset).take (P.cellsOf f.type)))=some xs->
   au ah m S w ((r.zip (xs.map (·.1))).flatMap fun x=>cW P n x.1.type x.2) (cs.drop o)/\aJ ((r.zip (xs.map (·.1))).flatMap fun x=>cW P n x.1.type x.2)=true
 | [],o,xs,hf,h=>by
  have:=yo hf
  rw [xj (by omega)];simp [au,aJ]
 | f::r,o,xs,hf,h=>by
  simp only [DK,yf] at hf;obtain ⟨e1,e2,e3⟩:=hf;have e1:=yo e1;rw [vM] at h
  cases h2:DataW.trod enc P w 0 (fun _=>true) held bB f.type ((cs.drop f.offset).take (P.cellsOf f.type)) with
  | none=>simp [h2] at h
  | some x=>
   cases h3:r.mapM (fun f=>DataW.trod enc P w 0 (fun _=>true) held bB f.type ((cs.drop f.offset).take (P.cellsOf f.type))) with
   | none=>simp [h2,h3] at h
   | some ys=>
    simp only [h2,h3,xG,wY,wv,yc] at h;subst h;obtain ⟨d,ps⟩:=x;obtain ⟨g1,g2,g3⟩:=IH f.type _ d ps e2 h2;obtain ⟨k1,k2⟩:=X2 hN IH r _ ys e3 h3;rw [e1] at g1;have e:cs.drop o=(cs.drop o).take (P.cellsOf f.type)++cs.drop (o+P.cellsOf f.type):=by rw [<-vC];exact (xP _ _).symm
    rw [e];exact ⟨lU g1 k1,KV g2 k2⟩
def aa1 {bB sz:Nat} {e:yx} {f:xp H->List AV} {cs:List ye}
  (IH:∀(cs:List ye) (d:xp H) (ps:List xT),DataW.trod enc P w 0 (fun _=>true) held bB e cs=some (d,ps)->au ah m S w (f d) cs/\aJ (f d)=true/\cs.length=sz):
  ∀(k j:Nat) (xs:List (xp H×List xT)),(xH j k).mapM (fun i=>DataW.trod enc P w 0 (fun _=>true) held bB e ((cs.drop (i*sz)).take sz))=some xs->cs.length=(j+k)*sz->
   au ah m S w ((xs.map (·.1)).flatMap f) (cs.drop (j*sz))/\aJ ((xs.map (·.1)).flatMap f)=true
 | 0,j,xs,h,hl=>by
  simp only [yaw,uY,wv,yc] at h;subst h;rw [xj (by rw [hl];simp)]
  simp [au,aJ]
 | k+1,j,xs,h,hl=>by
  rw [vJ,vM] at h
  cases h2:DataW.trod enc P w 0 (fun _=>true) held bB e ((cs.drop (j*sz)).take sz) with
  | none=>simp [h2] at h
  | some x=>
   cases h3:(xH (j+1) k).mapM (fun i=>DataW.trod enc P w 0 (fun _=>true) held bB e ((cs.drop (i*sz)).take sz)) with
   | none=>simp [h2,h3] at h
   | some ys=>
    simp only [h2,h3,xG,wY,wv,yc] at h;subst h;obtain ⟨d,ps⟩:=x;obtain ⟨g1,g2,g3⟩:=IH _ d ps h2;obtain ⟨k1,k2⟩:=aa1 IH k (j+1) ys h3 (by rw [hl];congr 1;omega)
    have e:cs.drop (j*sz)=(cs.drop (j*sz)).take sz++cs.drop ((j+1)*sz):=by rw [wG,Nat.one_mul,<-vC];exact (xP _ _).symm
    rw [e];exact ⟨lU g1 k1,KV g2 k2⟩
def ZO (hS:∀b,b<w.heap.size->S b):∀(n bB:Nat) (t:yx) (cs:List ye) (d:xp H) (ps:List xT),flat P n t=true->DataW.trod enc P w 0 (fun _=>true) held bB t cs=some (d,ps)->
  au ah m S w (cW P n t d) cs/\aJ (cW P n t d)=true/\cs.length=P.cellsOf t
 | 0,bB,t,cs,d,ps,hf,h=>by simp [flat] at hf
 | n+1,0,t,cs,d,ps,hf,h=>by simp [DataW.trod] at h
 | n+1,bB+1,t,cs,d,ps,hf,h=>by
  have IH:=ZO hS n bB;unfold DataW.trod at h;simp only [flat] at hf
  split at h
  ·rename_i hu;simp only [hu] at hf;simp only [yc,yk] at h;obtain ⟨rfl,rfl⟩:=h;simp only [cW,hu];exact ⟨by simp [au,aj],by simp [aJ,aS],by rw [yo hf];rfl⟩
  ·rename_i hu;simp only [hu] at hf
   split at h
   ·rename_i hk;simp only [yc,yk] at h;obtain ⟨rfl,rfl⟩:=h;simp only [cW,hu];refine ⟨?_,by simp [aJ,aS],by rw [yo hf];rfl⟩
    rw [hk.1];simp [au,aj]
   ·cases h
  ·rename_i hu;simp only [hu] at hf
   split at h
   ·rename_i hk;simp only [yc,yk] at h;obtain ⟨rfl,rfl⟩:=h;simp only [cW,hu];refine ⟨?_,by simp [aJ,aS],by rw [yo hf];rfl⟩
    rw [hk.1];simp [au,aj]
   ·cases h
  ·rename_i hu;simp only [hu] at hf
   split at h
   ·simp only [yc,yk] at h;obtain ⟨rfl,rfl⟩:=h;simp only [cW,hu];refine ⟨?_,by simp [aJ,aS],by rw [yo hf];rfl⟩
    simp only [au,aj];exact ⟨_,_,rfl,⟨_,rfl,rfl⟩,rfl⟩
   ·cases h
  ·rename_i hu;simp [hu] at hf
  ·rename_i hu;simp [hu] at hf
  ·rename_i hu;simp only [hu,yf] at hf;simp only [yc,yk] at h;obtain ⟨rfl,rfl⟩:=h;simp only [cW,hu];exact ⟨by simp [au,aj],by simp [aJ,aS],by rw [yo hf.1];rfl⟩
  ·rename_i e a len cap hu;simp only [hu,yf] at hf;obtain ⟨f1,f2,f3⟩:=hf;have eQ:=sO.1 f2;simp only at h
   split at h
   case isFalse=>cases h
   rename_i hc;simp only [y7] at h
   cases h1:(xh len).mapM fun i=>(w.cells? 0 (a.add (i*P.cellsOf e)) (P.cellsOf e)).bind (DataW.trod enc P w 0 (fun _=>true) held bB e) with
   | none=>rw [h1] at h;simp at h
   | some jw=>
    cases h2:(xh (cap-len)).mapM fun j=>(w.cells? 0 (a.add ((len+j)*P.cellsOf e)) (P.cellsOf e)).bind (DataW.trod enc P w 0 (fun _=>true) held bB e) with
    | none=>rw [h1] at h;simp [h2] at h
    | some rest=>
     rw [h1] at h;simp only [xG,h2,wq,yc,yk] at h;obtain ⟨rfl,rfl⟩:=h;have hIH:=fun cs d ps h=>IH e cs d ps f3 h
     rw [tM] at h1 h2;obtain ⟨k1,k2,k3,k4,k5⟩:=Qc (ah:=ah) (m:=m) (S:=S) eQ hIH len 0 jw h1;have hrl:rest.length=cap-len:=by rw [K6 h2];simp
     have iN:cap≠0->a.spot=none:=by
      intro S3;rcases xr len with h0 | h0
      ·subst h0;simp only [yd,Nat.sub_zero] at h2;obtain ⟨_,_,_,_,q5⟩:=Qc (ah:=ah) (m:=m) (S:=S) eQ hIH cap 0 rest h2;exact (q5 (by omega)).resolve_right (by omega)
      ·exact (k5 h0).resolve_right (by omega)
     simp only [cW,hu,List.length_map];refine ⟨?_,by simp [aJ,aS],by rw [yo f1];rfl⟩
     simp only [au];refine ⟨_,_,rfl,?_,rfl⟩;simp only [aj];by_cases S3:cap=0
     ·subst S3;have lL:len=0:=by omega
      subst lL;have he:jw=[]:=yN k4;subst he;exact .inr ⟨a,rfl,rfl,rfl⟩
     ·obtain ⟨b,o,sp⟩:=a;have iN:=iN S3;simp only at iN;subst iN;refine .inl ⟨b,o,cap,by rw [k4],by omega,fun hx=>?_,?_,k2,by simpa using k1⟩
      ·have:rest.length=0:=by simpa using hx
       omega
      ·generalize hg:((jw.map (·.1)).flatMap fun x=>cW P n e x)=l at k1
       cases l with
       | nil=>exact .inl rfl
       | cons c l=>exact .inr (hS b (alW k1))
  ·rename_i rV x1 J4 fs hu;simp only [hu] at hf
   split at h
   case isFalse=>cases h
   rename_i hlen
   cases h1:fs.toList.mapM fun f=>DataW.trod enc P w 0 (fun _=>true) held bB f.type ((rV.drop f.offset).take (P.cellsOf f.type)) with
   | none=>rw [h1] at h;simp at h
   | some xs=>
    rw [h1] at h;simp only [wq,yc,yk] at h;obtain ⟨rfl,rfl⟩:=h;obtain ⟨k1,k2⟩:=X2 hlen (fun t cs d ps hf h=>IH t cs d ps hf h) fs.toList 0 xs hf h1;simp only [cW,hu];exact ⟨by simpa using k1,k2,hlen⟩
  ·rename_i rV x1 J4 k e hu;simp only [hu,yf] at hf;obtain ⟨f1,f2⟩:=hf;have f1:=yo f1
   split at h
   case isFalse=>cases h
   rename_i hlen
   cases h1:(xh k).mapM fun i=>DataW.trod enc P w 0 (fun _=>true) held bB e ((rV.drop (i*P.cellsOf e)).take (P.cellsOf e)) with
   | none=>rw [h1] at h;simp at h
   | some xs=>
    rw [h1] at h;simp only [wq,yc,yk] at h;obtain ⟨rfl,rfl⟩:=h;rw [tM] at h1;obtain ⟨k1,k2⟩:=aa1 (ah:=ah) (m:=m) (S:=S) (fun cs d ps h=>IH e cs d ps f2 h) k 0 xs h1 (by rw [hlen,f1];simp)
    simp only [cW,hu];exact ⟨by simpa using k1,k2,hlen⟩
  all_goals first
   | (cases h;done)
   | (simp_all;done)
def lA (P:y5) (n:Nat) (t:yx) (d:xp H):AV:=
 match P.underlying t with
 | some (.struct _) | some (.array _ _)=> .agg (cW P n t d)
 | _=>(cW P n t d).headD .undef
def aoc (hS:∀b,b<w.heap.size->S b) {n base:Nat} {t:yx} {v:ye} {d:xp H} {ps:List xT} (hf:flat P n t=true) (h:DataW.Trod enc P w 0 (fun _=>true) held t v d ps)
  (hv:Value.okWide P w .any base t v):aj ah m S w (lA P n t d) v/\aS (lA P n t d)=true:=by
 obtain ⟨bB,h⟩:=h;obtain ⟨h1,h2,h3⟩:=ZO (ah:=ah) (m:=m) hS n bB t _ d ps hf h;have one:v.cells=#[v]->(∀fs,P.underlying t≠some (.struct fs))->(∀k e,P.underlying t≠some (.array k e))->aj ah m S w (lA P n t d) v/\aS (lA P n t d)=true:=by
  intro hc Ff hna;have e:lA P n t d=(cW P n t d).headD .undef:=by
   unfold lA
   grind
  rw [e];rw [hc] at h1;generalize cW P n t d=l at h1 h2
  cases l with
  | nil=>simp [au] at h1
  | cons x l=>
   simp only [au] at h1;simp only [aJ,yf] at h2
   grind
 cases n with
 | zero=>simp [flat] at hf
 | succ n=>
  unfold Value.okWide at hv;simp only [flat] at hf
  cases hu:P.underlying t with
  | none=>simp [hu] at hf
  | some ty=>
   rw [hu] at hv hf;cases ty<;>simp only [Bool.false_eq_true] at hf hv
   case struct fs=>
    obtain ⟨cs,rfl,_,_⟩:=hv;have e:lA P (n+1) t d= .agg (cW P (n+1) t d):=by simp only [lA,hu]
    rw [e];exact ⟨by simp only [aj];exact ⟨cs,rfl,h1⟩,by simpa only [aS] using h2⟩
   case array k e=>
    obtain ⟨cs,rfl,_,_⟩:=hv;have e:lA P (n+1) t d= .agg (cW P (n+1) t d):=by simp only [lA,hu]
    rw [e];exact ⟨by simp only [aj];exact ⟨cs,rfl,h1⟩,by simpa only [aS] using h2⟩
   all_goals
    refine one ?_ (by simp [hu]) (by simp [hu])
    cases v with
    | agg cs=>exfalso;simp only [Cell.okWide,Cell.ok,hu] at hv
    | _=>rfl
def zc (P:y5) (n:Nat):List yx->List (xp H)->List AV
 | t::ts,d::ds=>lA P n t d::zc P n ts ds
 | _,_=>[]
def ZP (hS:∀b,b<w.heap.size->S b) {n base:Nat}:∀{ts:List yx} {vs:List ye} {ds:List (xp H)} {ps:List xT},ts.all (flat P n)=true->DataW.TrodAll enc P w 0 (fun _=>true) held ts vs ds ps->
  (∀(j:Nat) t v,ts[j]? =some t->vs[j]? =some v->Value.okWide P w .any base t v)->au ah m S w (zc P n ts ds) vs/\aJ (zc P n ts ds)=true
 | [],[],[],_,_,_,_=>by simp [zc,au,aJ]
 | t::ts,v::vs,d::ds,ps,hf,h,hv=>by
  simp only [yad,yf] at hf;obtain ⟨p,q,h1,h2,_⟩:=h;obtain ⟨a1,a2⟩:=aoc (ah:=ah) (m:=m) hS hf.1 h1 (hv 0 t v rfl rfl);obtain ⟨b1,b2⟩:=ZP hS hf.2 h2 (fun j t v h1 h2=>hv (j+1) t v h1 h2);simp only [zc,au,aJ,yf]
  grind
 | [],_::_,_,_,_,h,_=>by simp [DataW.TrodAll] at h
 | [],[],_::_,_,_,h,_=>by simp [DataW.TrodAll] at h
 | _::_,[],_,_,_,h,_=>by simp [DataW.TrodAll] at h
 | _::_,_::_,[],_,_,h,_=>by simp [DataW.TrodAll] at h
end
end
section
open Go
section
variable {H:Type} {enc:yx×ye->H} {P:y5} {w w':yh} {held:Bool} {sp:Nat->Bool}
def aiC (hs:∀b,b<w.heap.size->w'.heap[b]? =w.heap[b]?) {a:uh} {u:ye} (h:w.cell? a=some u):w'.cell? a=some u:=by
 have hb:a.block<w.heap.size:=by
  unfold World.cell? at h
  cases hq:w.heap[a.block]? with
  | none=>simp [hq] at h
  | some o=>exact (xz.1 hq).1
 unfold World.cell? at h ⊢;rw [hs _ hb];exact h
def ah5 (hs:∀b,b<w.heap.size->w'.heap[b]? =w.heap[b]?) {base:Nat} {a:uh} {n:Nat} {us:List ye} (h:w.cells? base a n=some us):w'.cells? base a n=some us:=by
 unfold World.cells? at h ⊢
 split at h
 ·rename_i hb;rw [yJ hb];exact mapM_carry h (fun x y _ _ hx=>aiC hs hx)
 ·cases h
def aod {a:uh} {n:Nat} (h:0<n):MemPlace.cell a.block (a.off+0)∈MemPlace.row a n:=by
 unfold MemPlace.row;exact List.mem_map.2 ⟨0,List.mem_range.2 h,rfl⟩
def X3 (hs:∀b,b<w.heap.size->w'.heap[b]? =w.heap[b]?):∀(n bB:Nat) (t:yx) (cs:List ye) (d:xp H) (ps:List xT),flat P n t=true->DataW.trod enc P w 0 (fun _=>true) held bB t cs=some (d,ps)->
  (∀p,p∈ps->sp p.block=true)->DataW.trod enc P w' 0 sp held bB t cs=some (d,ps)
 | 0,bB,t,cs,d,ps,hf,h,hp=>by simp [flat] at hf
 | n+1,0,t,cs,d,ps,hf,h,hp=>by simp [DataW.trod] at h
 | n+1,bB+1,t,cs,d,ps,hf,h,hp=>by
  have IH:=X3 hs n bB;have elem:∀{e:yx} {a:uh} {y:xp H×List xT},flat P n e=true->(w.cells? 0 a (P.cellsOf e)).bind (DataW.trod enc P w 0 (fun _=>true) held bB e)=some y->(∀p,p∈y.2->sp p.block=true)->
    (w'.cells? 0 a (P.cellsOf e)).bind (DataW.trod enc P w' 0 sp held bB e)=some y:=by
   intro e a y he h hq
   cases h1:w.cells? 0 a (P.cellsOf e) with
   | none=>simp [h1] at h
   | some us=>
    rw [h1] at h;rw [ah5 hs h1];simp only [xG] at h ⊢;obtain ⟨d,ps⟩:=y;exact IH e us d ps he h hq
  unfold DataW.trod at h ⊢;simp only [flat] at hf
  split at h
  ·exact h
  ·exact h
  ·exact h
  ·exact h
  ·rename_i hu;simp [hu] at hf
  ·rename_i hu;simp [hu] at hf
  ·exact h
  ·rename_i e a len cap hu;simp only [hu,yf] at hf;obtain ⟨f1,f2,f3⟩:=hf;have eQ:=sO.1 f2;simp only at h ⊢
   split at h
   case isFalse=>cases h
   rename_i hc;rw [yJ hc];simp only [y7] at h
   cases h1:(xh len).mapM fun i=>(w.cells? 0 (a.add (i*P.cellsOf e)) (P.cellsOf e)).bind (DataW.trod enc P w 0 (fun _=>true) held bB e) with
   | none=>rw [h1] at h;simp at h
   | some jw=>
    cases h2:(xh (cap-len)).mapM fun j=>(w.cells? 0 (a.add ((len+j)*P.cellsOf e)) (P.cellsOf e)).bind (DataW.trod enc P w 0 (fun _=>true) held bB e) with
    | none=>rw [h1] at h;simp [h2] at h
    | some rest=>
     rw [h1] at h;simp only [xG,h2,wq,yc,yk] at h;obtain ⟨rfl,rfl⟩:=h;have k1:((xh len).mapM fun i=>(w'.cells? 0 (a.add (i*P.cellsOf e)) (P.cellsOf e)).bind (DataW.trod enc P w' 0 sp held bB e))=some jw:=
      mapM_carry h1 (fun x y _ hy hx=>elem f3 hx (fun p hq=>hp p (vt _ (vV.2 ⟨y,ud _ hy,hq⟩))))
     have k2:((xh (cap-len)).mapM fun j=>(w'.cells? 0 (a.add ((len+j)*P.cellsOf e)) (P.cellsOf e)).bind (DataW.trod enc P w' 0 sp held bB e))=some rest:=
      mapM_carry h2 (fun x y _ hy hx=>elem f3 hx (fun p hq=>hp p (vt _ (vV.2 ⟨y,vt _ hy,hq⟩))))
     have hr:(if sp a.block=true then (xh (cap-len)).mapM fun j=>(w'.cells? 0 (a.add ((len+j)*P.cellsOf e)) (P.cellsOf e)).bind (DataW.trod enc P w' 0 sp held bB e) else some [])=some rest:=by
      by_cases iN:sp a.block=true
      ·rw [yJ iN];exact k2
      ·rw [yz iN];have h0:¬0<(jw.length+rest.length)*P.cellsOf e:=fun h0=>iN (hp _ (ud _ (aod h0)))
       have hz:jw.length+rest.length=0:=by
        rcases xr (jw.length+rest.length) with h | h
        ·exact h
        ·exact (h0 (yaK h eQ)).elim
       have:rest=[]:=yN (by omega)
       rw [this]
     rw [k1];simp only [xG];rw [hr];rfl
  ·rename_i rV x1 J4 fs hu;simp only [hu] at hf
   split at h
   case isFalse=>cases h
   rename_i hlen;rw [yJ hlen]
   cases h1:fs.toList.mapM fun f=>DataW.trod enc P w 0 (fun _=>true) held bB f.type ((rV.drop f.offset).take (P.cellsOf f.type)) with
   | none=>rw [h1] at h;simp at h
   | some xs=>
    rw [h1] at h;simp only [wq,yc,yk] at h;obtain ⟨rfl,rfl⟩:=h;have Fe:∀(r:List uv) (o:Nat),DK P (fun u=>flat P n u) r o (P.cellsOf t)=true->∀f,f∈r->flat P n f.type=true:=by
     intro r
     induction r with
     | nil=>intro o _ f hm;cases hm
     | cons g r ih=>
      intro o hq f hm;simp only [DK,yf] at hq;rcases List.mem_cons.1 hm with rfl | hm
      ·exact hq.2.1
      ·exact ih _ hq.2.2 f hm
    have k1:(fs.toList.mapM fun f=>DataW.trod enc P w' 0 sp held bB f.type ((rV.drop f.offset).take (P.cellsOf f.type)))=some xs:=
     mapM_carry h1 (fun f y hm hy hx=>IH _ _ y.1 y.2 (Fe _ _ hf f hm) hx (fun p hq=>hp p (vV.2 ⟨y,hy,hq⟩)))
    rw [k1];rfl
  ·rename_i rV x1 J4 k e hu;simp only [hu,yf] at hf
   split at h
   case isFalse=>cases h
   rename_i hlen;rw [yJ hlen]
   cases h1:(xh k).mapM fun i=>DataW.trod enc P w 0 (fun _=>true) held bB e ((rV.drop (i*P.cellsOf e)).take (P.cellsOf e)) with
   | none=>rw [h1] at h;simp at h
   | some xs=>
    rw [h1] at h;simp only [wq,yc,yk] at h;obtain ⟨rfl,rfl⟩:=h;have k1:((xh k).mapM fun i=>DataW.trod enc P w' 0 sp held bB e ((rV.drop (i*P.cellsOf e)).take (P.cellsOf e)))=some xs:=
     mapM_carry h1 (fun i y _ hy hx=>IH _ _ y.1 y.2 hf.2 hx (fun p hq=>hp p (vV.2 ⟨y,hy,hq⟩)))
    rw [k1];rfl
  all_goals first
   | (cases h;done)
   | (simp_all;done)
def W5 (hs:∀b,b<w.heap.size->w'.heap[b]? =w.heap[b]?) {n:Nat}:∀{ts:List yx} {vs:List ye} {ds:List (xp H)} {ps:List xT},ts.all (flat P n)=true->DataW.TrodAll enc P w 0 (fun _=>true) held ts vs ds ps->
  (∀p,p∈ps->sp p.block=true)->DataW.TrodAll enc P w' 0 sp held ts vs ds ps
 | [],[],[],ps,_,h,_=>by simpa only [DataW.TrodAll] using h
 | t::ts,v::vs,d::ds,ps,hf,h,hp=>by
  simp only [yad,yf] at hf;obtain ⟨p,q,⟨bB,h1⟩,h2,rfl⟩:=h;exact ⟨p,q,⟨bB,X3 hs n bB t _ d p hf.1 h1 (fun x hx=>hp x (ud _ hx))⟩,W5 hs hf.2 h2 (fun x hx=>hp x (vt _ hx)),rfl⟩
 | [],_::_,_,_,_,h,_=>by simp [DataW.TrodAll] at h
 | [],[],_::_,_,_,h,_=>by simp [DataW.TrodAll] at h
 | _::_,[],_,_,_,h,_=>by simp [DataW.TrodAll] at h
 | _::_,_::_,[],_,_,h,_=>by simp [DataW.TrodAll] at h
end
end
section
open Go Go.ChangeShapes Go.WideShapes
section
variable {H:Type} {enc:yx×ye->H} {P:y5} {W W':yh}
def ajT (hc:Calm W W') (may:xT->Prop):W.keptBut W' may:=by
 refine ⟨hc.os,hc.output,fun i hi=>?_⟩;rw [hc.same i hi]
 cases hq:W.heap[i]? with
 | none=>rfl
 | some o=>cases o<;>simp
def ah6 (hc:Calm W W') {b off:Nat} (hb:b<W.heap.size):W'.frozen? ⟨b,off,none⟩=W.frozen? ⟨b,off,none⟩:=by
 unfold World.frozen?;simp only;rw [hc.same b hb]
def alX {fn:Func} {s:ybA} {apart fresh handsOn again:Bool} {args:Array ye} {ds gs:List (xp H)} {before:List xT} {n:Nat} {tb:yx}
  (hW:DataW.Whole enc P fn.params.toList s.vars apart W args.toList ds gs before) (hv:s.vars=[]) (MD:fn.params.toList.all (flat P n)=true) (hc:Calm W W')
  (lf:s.fn H (ds++gs)={results:=[.lit (.bool true)],args:=ds}) (rE:fn.resultTypes=#[tb]) (ki:P.underlying tb=some .bool):
  s.post enc P fn apart fresh handsOn again W args (.bool true) W':=by
 have bi:=hW.lt;have hW0:=hW;obtain ⟨p,q,hA,hV,hpq,hz,hn⟩:=hW;rw [hv] at hV;have hq:gs=[]/\q=[]:=by
  cases gs with
  | nil=>exact ⟨rfl,by simpa only [DataW.TrodVars] using hV⟩
  | cons g gs=>simp [DataW.TrodVars] at hV
 obtain ⟨rfl,rfl⟩:=hq;have hbp:before=p:=by rw [hpq];simp
 subst hbp;have gL:∀sp:Nat->Bool,(∀p∈before,sp p.block=true)->DataW.TrodAll enc P W' 0 sp true fn.params.toList args.toList ds before:=fun sp h=>W5 hc.same MD hA h
 have aej:∀(b:Nat) (sp:Nat->Bool) (hd:Bool),DataW.TrodAll enc P W' b sp hd fn.resultTypes.toList ((Value.bool true).resultList fn.resultTypes.size) [.lit (.bool true)] []:=by
  intro b sp hd;rw [rE];refine ⟨[],[],⟨1,?_⟩,rfl,rfl⟩;simp [DataW.trod,ki,Value.cells]
 have hold:∀p∈before,(fun b=>decide (b<W.heap.size)) p.block=true:=fun p hp=>by simpa using bi p hp
 have aek:∀sp:Nat->Bool,DataW.TrodVars enc P W' sp s.vars ([]:List (xp H)) []:=fun sp=>by rw [hv];rfl
 refine ⟨ds,[],before,[],before,[],hW0,by rw [lf];exact aej _ _ _,by rw [lf];exact gL _ hold,by rw [lf];exact aek _,ajT hc _,fun _=>?_⟩
 refine ⟨?_,[.lit (.bool true)]++ds,[],[]++before++[],⟨[]++before,[],trodAll_append (gL _ (fun _ _=>rfl)) (aej _ _ _),aek _,rfl,?_,?_⟩,?_⟩
 ·intro j t r h1 h2;rw [rE] at h1 h2
  cases j with
  | zero=>
   simp only [List.getElem?_toArray,vn,yc] at h1;simp only [Value.resultList,List.size_toArray,yv,List.length_nil,y7,yd,vn,yc] at h2;subst h1;subst h2;simp [Value.okWide,ki,Cell.okWide,Cell.ok]
  | succ j=>simp at h1
 ·intro b off hp;have hp:MemPlace.cell b off∈before:=by simpa using hp
  rw [ah6 hc (b:=b) (bi _ hp)];exact hz b off hp
 ·intro ha
  have:=hn ha
  simpa using this
 ·intro p hp _;simpa using hp
def ajU {O:bw} {n k:Nat} {fn:Func} {s:ybA} {apart fresh handsOn again:Bool} {base:Nat} {args:Array ye} {ds gs:List (xp H)} {before:List xT} {tb:yx}
  (hp:eN O n (zc O.P k fn.params.toList ds) (.bool true)) (BL:O.w0=W) (lf:O.P.funcs[O.ah n]? =some fn) (hb:fn.body.isSome=true) (BG:fn.name≠ "runtime.NumGoroutine")
  (aT:∀(j:Nat) t v,fn.params[j]? =some t->args[j]? =some v->Value.okWide O.P W .any base t v)
  (hW:DataW.Whole enc O.P fn.params.toList s.vars apart W args.toList ds gs before) (hv:s.vars=[]) (MD:fn.params.toList.all (flat O.P k)=true)
  (hfs:s.fn H (ds++gs)={results:=[.lit (.bool true)],args:=ds}) (rE:fn.resultTypes=#[tb]) (ki:O.P.underlying tb=some .bool):
  Calls O.P (O.ah n) args W fun e W'=>∃v,e= .returned v/\s.post enc O.P fn apart fresh handsOn again W args v W':=by
 have hA:=hW;obtain ⟨p,q,hA,_⟩:=hA;obtain ⟨h1,h2⟩:=ZP (ah:=O.ah) (m:=eZ) (S:=fun b=>b<W.heap.size) (fun b hb=>hb) MD hA (fun j t v a b=>aT j t v (by simpa using a) (by simpa using b));have hi:=hp W (fun b=>b<W.heap.size) args ⟨fun b _=>by rw [BL],by rw [BL];exact yD _⟩ (fun b hb=>hb) h1 h2
 have key:∀e W',Zz O W (fun b=>b<W.heap.size) (.bool true) e W'->∃v,e= .returned v/\s.post enc O.P fn apart fresh handsOn again W args v W':=by
  rintro e W' ⟨u,S',rfl,hc,_,_,_,hr⟩;simp only [nH,hX,aj] at hr;obtain ⟨_,_,hu,_⟩:=hr;subst hu;exact ⟨_,rfl,alX hW hv MD hc hfs rE ki⟩
 rcases hi with ⟨_,hi⟩ | ⟨u,w',hi,_⟩
 ·exact callsIn_wide.1 (hi.mono key)
 ·rw [Ls lf hb BG] at hi;cases hi
end
end
section
namespace J1
open Go Go.Proofs
noncomputable def O (W:yh):bw:=⟨Tryz.prog,VE.aU,zD r9.ah,VE.prog,MC r9.cm r9.hd,W⟩
def YS {w:yh} {k:Nat} {os:Array Go.Obj}:Calm w (Go.Sort.grow (w.drewN k) os):=G9 (Lib.below_grow w.heap.size w (yD _) k os)
def ZQ {W w:yh} (h:Lib.TabIs Tryz.prog W "internal/strconv.uint64pow10" .u64 Lib.pow10Tab) (hg:AZ (O W) w):Lib.TabIs Tryz.prog w "internal/strconv.uint64pow10" .u64 Lib.pow10Tab:=by
 unfold Lib.TabIs World.var? at h ⊢
 cases hn:Tryz.prog.globalNamed "internal/strconv.uint64pow10" with
 | none=>rw [hn] at h;exact h
 | some g=>
  rw [hn] at h;simp only [xG] at h ⊢;have hb:g<W.heap.size:=by
   cases hq:W.heap[g]? with
   | none=>rw [hq] at h;cases h
   | some o=>exact (xz.1 hq).1
  rw [hg.1 g hb];exact h
def at3:∀args w,(callFunc 208 args).run Tryz.prog w= .ok (.enter 208 args) w:=enters_of Tryz.func208 (by kernel_rfl) rfl
def at4:∀args w,(callFunc 217 args).run Tryz.prog w= .ok (.enter 217 args) w:=enters_of Tryz.func217 (by kernel_rfl) rfl
def at5:∀args w,(callFunc 229 args).run Tryz.prog w= .ok (.enter 229 args) w:=enters_of Tryz.func229 (by kernel_rfl) rfl
def at6:∀args w,(callFunc 232 args).run Tryz.prog w= .ok (.enter 232 args) w:=enters_of Tryz.func232 (by kernel_rfl) rfl
def at7:∀args w,(callFunc 233 args).run Tryz.prog w= .ok (.enter 233 args) w:=enters_of Tryz.func233 (by kernel_rfl) rfl
def aua:∀args w,(callFunc 239 args).run Tryz.prog w= .ok (.enter 239 args) w:=enters_of Tryz.func239 (by kernel_rfl) rfl
def aub:∀args w,(callFunc 252 args).run Tryz.prog w= .ok (.enter 252 args) w:=enters_of Tryz.func252 (by kernel_rfl) rfl
def auc:∀args w,(callFunc 253 args).run Tryz.prog w= .ok (.enter 253 args) w:=enters_of Tryz.func253 (by kernel_rfl) rfl
def aud:∀args w,(callFunc 254 args).run Tryz.prog w= .ok (.enter 254 args) w:=enters_of Tryz.func254 (by kernel_rfl) rfl
def aue:∀args w,(callFunc 261 args).run Tryz.prog w= .ok (.enter 261 args) w:=enters_of Tryz.func261 (by kernel_rfl) rfl
def auf:∀args w,(callFunc 270 args).run Tryz.prog w= .ok (.enter 270 args) w:=enters_of Tryz.func270 (by kernel_rfl) rfl
def aug:∀args w,(callFunc 296 args).run Tryz.prog w= .ok (.enter 296 args) w:=enters_of Tryz.func296 (by kernel_rfl) rfl
def asP (W:yh) (n:Nat) (sp:List AV->Option AV):Prop:=∀vals r,sp vals=some r->eN (O W) n vals r
section
variable {W:yh} {m:Int} (hm:W.cell? ⟨2,0,none⟩=some (.int .i64 m)) (ht:Lib.TabIs Tryz.prog W "internal/strconv.uint64pow10" .u64 Lib.pow10Tab)
include hm ht
def aql:ae5.lQ (asP W):=
 (Tr.kJ (ahx (O:=O W) (f:=253) (by rfl) auc Tryz.strings_TrimPrefix)
  (Tr.kJ (ahy (O:=O W) (f:=232) (by rfl) at6 (fun z w hz hg=>(Tryz.ahr z hz w (ZQ ht hg)).mono fun _ _ ⟨h1,k,os,h2⟩=>⟨h1,h2▸YS⟩))
  (Tr.kJ (ahA (O:=O W) (f:=217) (by rfl) at4 Tryz.strings_CutPrefix)
  (Tr.kJ (anW (O:=O W) (f:=208) (by rfl) at3 (a:=⟨2,0,none⟩) (m:=m) hm (fun s sep w hs hc=>Tryz.strings_Cut s sep m w hs hc))
  Tr.jv Tr.jv) (Tr.kJ (alM (O:=O W) (f:=229) (by rfl) at5 (fun z w h0 h1 hg=>(Tryz.strconv_Itoa z h0 h1 w (ZQ ht hg)).mono fun _ _ ⟨h1,k,os,h2⟩=>⟨h1,h2▸YS⟩))
  Tr.jv Tr.jv)) (Tr.kJ (ajL (O:=O W) (f:=239) (by rfl) aua (fun x y w hx hy=>Tryz.bits_Mul64 x y hx hy w))
  (Tr.kJ (aiA (O:=O W) (f:=233) (by rfl) at7 Tryz.strings_Repeat)
  Tr.jv Tr.jv) (Tr.kJ (ahB (O:=O W) (f:=252) (by rfl) aub Tryz.strings_HasPrefix)
  Tr.jv Tr.jv))) (Tr.kJ (ajN (O:=O W) (f:=278) (by rfl) (fun x y c w h=>Tryz.bits_Add64 x y c h w))
  (Tr.kJ (alL (O:=O W) (f:=261) (by rfl) aue (fun s cs w hs qh ha=>Tryz.ahN s cs w hs qh ha))
  (Tr.kJ (alN (O:=O W) (f:=254) (by rfl) aud (fun s z w hl h=>(Tryz.strconv_Atoi s z hl h w).mono fun _ _ ⟨h1,t,h2⟩=>⟨h1,h2▸G9 (Lib.bytesWorld_below _ _ _)⟩))
  Tr.jv Tr.jv) (Tr.kJ (alO (O:=O W) (f:=270) (by rfl) auf (fun x w h0 h1=>Tryz.bits_LeadingZeros64 x w h0 h1))
  Tr.jv Tr.jv)) (Tr.kJ (ajM (O:=O W) (f:=296) (by rfl) aug (fun x w h0 h1=>Tryz.bits_Len64 x w h0 h1))
  (Tr.kJ (ajO (O:=O W) (f:=288) (by rfl) (fun x y b w h=>Tryz.bits_Sub64 x y b h w))
  Tr.jv Tr.jv) Tr.jv)))
def aoe:eH (O W) where
 hint n f g h:=Tr.Cd (p:=fun f g=>zD r9.ah g=f) (PN r9.aqc) h
 mixed:=by kernel_rfl
 prog n F h:=Tr.Cd r9.aoa h
 aU n sp vals r h hs:=Tr.Cd (aql hm ht) h vals r hs
 EH n sp hp ct vals v ao bh h:=by cases h
end
end J1
end
section
def bm:List Int->Int
 | []=>0
 | a::r=>if a=0 then bm r else a
def PB {l:List Int} {i:Nat} (h:i<l.length):bm (l.drop i)=if l[i]=0 then bm (l.drop (i+1)) else l[i]:=by
 rw [yO h,bm]
def df (lo hi:Int):List Int->Bool
 | []=>false
 | a::r=>if a<lo\/hi<a then true else df lo hi r
def ajV {lo hi:Int} {l:List Int} {i:Nat} (h:i<l.length):df lo hi (l.drop i)=if l[i]<lo\/hi<l[i] then true else df lo hi (l.drop (i+1)):=by
 rw [yO h,df]
def eR (n:Nat) (lo hi:Int):List (List Int)->Int
 | []=>0
 | r::s=>if r.length≠n then 2 else if df lo hi r=true then 3 else eR n lo hi s
def X4 {n:Nat} {lo hi:Int} {s:List (List Int)} {i:Nat} (h:i<s.length):
  eR n lo hi (s.drop i)=if s[i].length≠n then 2 else if df lo hi s[i]=true then 3 else eR n lo hi (s.drop (i+1)):=by
 rw [yO h,eR]
def fo (s:List (List Int)):Int:=if s.length=0 then 12 else if 16<s.length then 5 else eR s.length (-1000) 1000 s
def AA (k:List (List Int)):Int:=if k.length=0 then 12 else if 5<k.length then 5 else if k.length%2=0 then 2 else eR k.length (-100) 100 k
def dG:List Int->Int
 | []=>0
 | a::r=>a+dG r
def Cb {l:List Int} {i:Nat} (h:i<l.length):dG (l.take (i+1))=dG (l.take i)+l[i]:=by
 induction l generalizing i with
 | nil=>exact absurd h (uo _)
 | cons a r ih=>
  cases i with
  | zero=>simp [dG]
  | succ i=>
   have h':i<r.length:=by simp_all
   simp only [wm,dG,List.getElem_cons_succ,ih h'];omega
def KW {l:List Int} (h:df 0 1000 l=false):0<=dG l/\dG l<=1000*l.length:=by
 induction l with
 | nil=>simp [dG]
 | cons a r ih=>
  simp only [df] at h
  split at h
  ·grind
  ·rename_i hc
   have:=ih h
   simp only [dG,yv];omega
def Hu {lo hi:Int} {l:List Int} (h:df lo hi l=false):∀i (cz:i<l.length),lo<=l[i]/\l[i]<=hi:=by
 induction l with
 | nil=>intro i cz;exact absurd cz (uo _)
 | cons a r ih=>
  simp only [df] at h
  grind
def Qd {lo hi:Int} {l:List Int} (h:df lo hi l=false):∀i,df lo hi (l.take i)=false:=by
 induction l with
 | nil=>intro i;simp [df]
 | cons a r ih=>
  intro i;simp only [df] at h
  split at h
  ·grind
  ·rename_i hc
   cases i with
   | zero=>simp [df]
   | succ i=>simp only [wm,df,hc,yR,ih h i]
def Hv (key side:Int) (w:List Int):Int:=
 if key<1\/2147483646<key then 3 else if side<1\/16<side then 3 else if w.length=0 then 12 else if 33<w.length then 5 else if w.length%2=0 then 2 else
 if df 0 1000 w=true then 3 else if dG w=0 then 6 else 0
def dE (s:List (List Int)) (c r:Int):Int:=(s.getD (r%s.length).toNat []).getD (c%s.length).toNat 0
def aof {n m:Int} (h:0<m):(n.tmod m+m).tmod m=n%m:=by
 have e:n.tmod m=if 0<=n\/m∣n then n%m else n%m-m:=by
  grind
 have h1:=Int.emod_nonneg n (by omega:m≠0);rw [e]
 split
 ·rw [xm (by omega),Int.add_emod_right,ybt]
 ·rw [show n%m-m+m=n%m by omega,xm h1,ybt]
def DP {n:Nat} {lo hi:Int} {s:List (List Int)} (h:eR n lo hi s=0):∀i (cz:i<s.length),s[i].length=n/\df lo hi s[i]=false:=by
 induction s with
 | nil=>intro i cz;exact absurd cz (uo _)
 | cons r s ih=>
  simp only [eR] at h
  grind
end
section
def dv:List Int->Nat
 | []=>0
 | a::r=>a.toNat+1000000000*dv r
def mJ:∀(a b:List Int),dv (a++b)=dv a+1000000000^a.length*dv b
 | [],b=>by simp [dv]
 | x::a,b=>by
  simp only [y8,dv,mJ a b,yv,xg,xD]
  grind
def oz {l:List Int} (i:Nat):dv (l.take (i+1))=dv (l.take i)+1000000000^i*(l.getD i 0).toNat:=by
 by_cases h:i<l.length
 ·rw [wj h,mJ,yT,wE (by omega)];simp [dv,xM,List.getElem?_eq_getElem h]
 ·rw [yL (by omega),yL (by omega)]
  grind
abbrev dg (l:List Int):Prop:=df 0 999999999 l=false
def gV {a b:List Int}:dg (a++b)↔dg a/\dg b:=by
 induction a with
 | nil=>simp [dg,df]
 | cons x a ih=>
  simp only [dg,y8,df] at ih ⊢
  grind
def jO {x:Int}:dg [x]↔0<=x/\x<1000000000:=by
 simp only [dg,df]
 grind
def gW {l:List Int} (h:dg l) (i:Nat):0<=l.getD i 0/\l.getD i 0<1000000000:=by
 by_cases hi:i<l.length
 ·have:=Hu h i hi
  grind
 ·grind
def Ch {l:List Int} (h:dg l) (i:Nat):dg (l.take i):=Qd h i
def jx:∀{l:List Int},dg l->dv l<1000000000^l.length
 | [],_=>by simp [dv]
 | x::l,h=>by
  have h':dg ([x]++l):=h;obtain ⟨h1,h2⟩:=gV.1 h';have h1:=jO.1 h1
  have:=jx h2
  simp only [dv,yv,xg];omega
def dZ:List Int->List Int
 | []=>[]
 | a::r=>match dZ r with | []=>if a=0 then [] else [a] | t::q=>a::t::q
def Hb:∀l:List Int,dZ (l++[0])=dZ l
 | []=>rfl
 | a::l=>by simp only [y8,dZ,Hb l]
def KX {a:Int} (h:a≠0):∀l:List Int,dZ (l++[a])=l++[a]
 | []=>by simp [dZ,h]
 | b::l=>by
  simp only [y8,dZ,KX h l]
  cases hq:l++[a] with
  | nil=>simp at hq
  | cons t q=>rfl
def sI:∀l:List Int,dv (dZ l)=dv l
 | []=>rfl
 | a::l=>by
  have ih:=sI l;simp only [dZ,dv]
  split
  ·rename_i h;rw [h] at ih
   split
   ·rename_i h0;subst h0;simp [dv,<-ih]
   ·simp [dv,<-ih]
  ·rename_i t q h;rw [h] at ih;simp only [dv] at ih ⊢;omega
def AF:∀{l:List Int},dg l->dg (dZ l)
 | [],_=>rfl
 | a::l,h=>by
  have h':dg ([a]++l):=h;obtain ⟨h1,h2⟩:=gV.1 h';have ih:=AF h2;simp only [dZ]
  split
  ·grind
  ·rename_i t q hq;rw [hq] at ih
   exact (gV (a:=[a]) (b:=t::q)).2 ⟨h1,ih⟩
def K7:∀l:List Int,(dZ l).length<=l.length
 | []=>yD _
 | a::l=>by
  have ih:=K7 l;simp only [dZ]
  grind
def snoc {α:Type} (l:List α):l=[]\/∃m a,l=m++[a]:=by
 rcases List.eq_nil_or_concat l with h | ⟨m,a,h⟩
 ·grind
 ·grind
def ah7:∀(n:Nat) (l:List Int),l.length=n->dZ (dZ l)=dZ l:=by
 intro n
 induction n with
 | zero=>intro l h;rw [yN h];rfl
 | succ n ih=>
  intro l h;rcases snoc l with rfl | ⟨m,a,rfl⟩
  ·rfl
  ·by_cases h0:a=0
   ·subst h0;rw [Hb]
    grind
   ·rw [KX h0,KX h0]
def aiD (l:List Int):dZ (dZ l)=dZ l:=ah7 _ l rfl
abbrev nz (l:List Int):Prop:=dZ l=l
def DZ (l:List Int):nz (dZ l):=aiD l
def ME {l:List Int} (h:nz l) (hd:dg l) (h0:l≠[]):1000000000^(l.length-1)<=dv l:=by
 rcases snoc l with rfl | ⟨m,a,rfl⟩
 ·grind
 ·by_cases ha:a=0
  ·subst ha
   have:=K7 m
   have e:=congrArg ybB h;rw [Hb] at e
   grind
  ·rw [mJ]
   have:=jO.1 (gV.1 hd).2
   simp only [dv,yQ,tD,uS,xJ,yX];have h1:1<=a.toNat:=by omega
   have:=yS (1000000000^m.length) h1
   omega
def aa2 {l:List Int} (h:nz l) (hd:dg l) (h0:dv l=0):l=[]:=by
 by_cases hl:l=[]
 ·grind
 ·have:=ME h hd hl
  grind
def RC {a b:List Int} (ha:dg a) (hb:nz b) (cS:dg b) (h:a.length<b.length):dv a<dv b:=by
 have h1:=jx ha;have h2:=ME hb cS (fun e=>by subst e;simp at h);have h3:1000000000^a.length<=1000000000^(b.length-1):=xn (by decide) (by omega);omega
def dX (m n:Nat):Int:=if m<n then -1 else if n<m then 1 else 0
def acC {l:List Int} {i:Nat} (h:i<l.length):dv l=dv (l.take i)+1000000000^i*(l[i].toNat+1000000000*dv (l.drop (i+1))):=by
 have e:l=l.take i++l[i]::l.drop (i+1):=by simp_all
 have:dv l=dv (l.take i++l[i]::l.drop (i+1)):=congrArg dv e
 rw [this,mJ,yT,wE (by omega)];rfl
def aa3 {a b:List Int} {i:Nat} (ha:dg a) (hb:dg b) (h1:i<a.length) (h2:i<b.length) (he:a.drop (i+1)=b.drop (i+1)) (h:a[i]<b[i]):dv a<dv b:=by
 rw [acC h1,acC h2,he];have hl:=jx (Ch ha i);have g1:=Hu ha i h1;have h3:a[i].toNat+1000000000*dv (b.drop (i+1))+1<=b[i].toNat+1000000000*dv (b.drop (i+1)):=by omega
 have:=yS (1000000000^i) h3
 grind
def RD:∀{l:List Int} {j:Nat} {x:Int},j<l.length->dv (l.set j x)+1000000000^j*(l.getD j 0).toNat=dv l+1000000000^j*x.toNat
 | [],j,x,h=>by simp at h
 | a::l,0,x,_=>by simp [dv];omega
 | a::l,j+1,x,h=>by
  have ih:=RD (l:=l) (j:=j) (x:=x) (by simpa using h);simp only [yac,dv,tU,xg]
  grind
def Mb {l:List Int} (h:dg l) {j:Nat} {x:Int} (hx:0<=x/\x<1000000000):dg (l.set j x):=by
 by_cases hj:j<l.length
 ·rw [List.set_eq_take_append_cons_drop,yJ hj];have e:l=l.take (j+1)++l.drop (j+1):=(xP _ _).symm;have hd:dg (l.drop (j+1)):=by rw [e] at h;exact (gV.1 h).2
  exact gV.2 ⟨Ch h j,(gV (a:=[x]) (b:=l.drop (j+1))).2 ⟨jO.2 hx,hd⟩⟩
 ·rw [List.set_eq_of_length_le (by omega)];exact h
def ZR {l:List Int} {j m:Nat} {x:Int} (h:m≠j):(l.set j x).getD m 0=l.getD m 0:=by grind
def alY {V0 V V' p q A X Y o c s:Nat} (hs:s=o+A*X+c) (aY:V'+p*q*o=V+p*q*(s%1000000000)) (hv:V+p*q*c=V0+p*(A*Y)):
  V'+p*(q*1000000000)*(s/1000000000)=V0+p*(A*(Y+q*X)):=by
 have e:=Nat.mod_add_div s 1000000000;have e2:p*q*s=p*q*(s%1000000000)+p*(q*1000000000)*(s/1000000000):=by
  conv=>lhs;rw [<-e]
  rw [xD,<-xk (p*q),<-xk p q]
 have e3:p*q*s=p*q*o+p*q*(A*X)+p*q*c:=by rw [hs,xD,xD]
 have e4:p*(A*(Y+q*X))=p*(A*Y)+p*q*(A*X):=by
  rw [xD,xD,xk p q,<-xk A q X,xN A q,xk q A X]
 omega
def ZS (n:Nat):dv (yA n 0)=0:=by
 induction n with
 | zero=>rfl
 | succ n ih=>simp [xU,dv,ih]
def ZT (n:Nat):dg (yA n 0):=by
 induction n with
 | zero=>rfl
 | succ n ih=>exact (gV (a:=[0]) (b:=yA n 0)).2 ⟨by decide,ih⟩
end
section
def bv (b:Nat):List Nat->Nat
 | []=>0
 | a::r=>a+b*bv b r
def lo (b:Nat) (l:List Nat):Prop:=∀x,x∈l->x<b
section
variable {b:Nat}
def AT (a:Nat):bv b [a]=a:=by simp [bv]
def qR:∀(l m:List Nat),bv b (l++m)=bv b l+b^l.length*bv b m
 | [],m=>by simp [bv]
 | x::l,m=>by
  simp only [y8,bv,qR l m,yv,xg,xD]
  grind
def gd {l:List Nat} {i:Nat} (h:i<l.length):l[i]=l.getD i 0:=by simp_all
def RE {l:List Nat} {i:Nat} (h:l.length<=i):l.getD i 0=0:=by simp_all
def iV {l:List Nat} (i:Nat):bv b (l.take (i+1))=bv b (l.take i)+b^i*l.getD i 0:=by
 by_cases h:i<l.length
 ·rw [wj h,qR,yT,wE (by omega),AT,gd h]
 ·rw [yL (by omega),yL (by omega),RE (by omega),xJ,yX]
def Mc:lo b []:=fun _ h=>by simp at h
def K8 {l m:List Nat}:lo b (l++m)↔lo b l/\lo b m:=by
 constructor
 ·intro h;exact ⟨fun x hx=>h x (by simp [hx]),fun x hx=>h x (by simp [hx])⟩
 ·rintro ⟨h1,h2⟩ x hx;rcases List.mem_append.1 hx with h | h
  ·exact h1 x h
  ·exact h2 x h
def Eg {x:Nat}:lo b [x]↔x<b:=by simp [lo]
def gm (hb:0<b) {l:List Nat} (h:lo b l) (i:Nat):l.getD i 0<b:=by
 by_cases hi:i<l.length
 ·rw [<-gd hi];exact h _ (List.getElem_mem hi)
 ·grind
def AM {l:List Nat} (h:lo b l) (i:Nat):lo b (l.take i):=fun x hx=>h x (List.mem_of_mem_take hx)
def aa4 {l:List Nat} (h:lo b l) (i:Nat):lo b (l.drop i):=fun x hx=>h x (List.mem_of_mem_drop hx)
def me {l:List Nat} (h:lo b l) {i x:Nat} (hx:x<b):lo b (l.set i x):=fun y hy=>by
 rcases List.mem_or_eq_of_mem_set hy with h1 | h1
 ·exact h y h1
 ·omega
def Eh (hb:0<b) (n:Nat):lo b (yA n 0):=fun x hx=>by
 grind
def Ei (n:Nat):bv b (yA n 0)=0:=by
 induction n with
 | zero=>rfl
 | succ n ih=>simp [xU,bv,ih]
def Ci (n m:Nat):(yA n (0:Nat)).getD m 0=0:=by grind
def mi:∀{l:List Nat},lo b l->bv b l<b^l.length
 | [],_=>by simp [bv]
 | x::l,h=>by
  have h1:=h x (by simp);have h2:=mi (l:=l) (fun y hy=>h y (by simp [hy]));simp only [bv,yv,xg,xN _ b]
  have:=yS b (show bv b l+1<=b^l.length from h2)
  grind
def nC:∀{l:List Nat} {i x:Nat},i<l.length->bv b (l.set i x)+b^i*l.getD i 0=bv b l+b^i*x
 | [],i,x,h=>by simp at h
 | a::l,0,x,_=>by simp [bv];omega
 | a::l,i+1,x,h=>by
  have ih:=nC (l:=l) (i:=i) (x:=x) (by simpa using h)
  have:=congrArg (fun t=>b*t) ih
  simp only [xD] at this;simp only [yac,bv,tU,xg,xN _ b,xk] at this ⊢;omega
def oA {l:List Nat} {i m x:Nat} (h:i≠m):(l.set i x).getD m 0=l.getD m 0:=by simp_all
def aiE {l:List Nat} {i x:Nat} (h:i<l.length):(l.set i x).getD i 0=x:=by simp_all
def Hw (l:List Nat) (i:Nat) (h:i<=l.length):bv b l=bv b (l.take i)+b^i*bv b (l.drop i):=by
 have:=qR (b:=b) (l.take i) (l.drop i)
 simp_all
def eb:List Nat->List Nat
 | []=>[]
 | a::r=>match eb r with | []=>if a=0 then [] else [a] | t::q=>a::t::q
def KY:∀l:List Nat,eb (l++[0])=eb l
 | []=>rfl
 | a::l=>by simp only [y8,eb,KY l]
def DL {a:Nat} (h:a≠0):∀l:List Nat,eb (l++[a])=l++[a]
 | []=>by simp [eb,h]
 | b::l=>by
  simp only [y8,eb,DL h l]
  cases hq:l++[a] with
  | nil=>simp at hq
  | cons t q=>rfl
abbrev fX (l:List Nat):Prop:=eb l=l
def aiF:∀(n:Nat) (l:List Nat),l.length=n->∃i,i<=n/\eb l=l.take i/\fX (l.take i)/\bv b (l.take i)=bv b l:=by
 intro n
 induction n with
 | zero=>intro l h;rw [yN h];exact ⟨0,yD _,rfl,rfl,rfl⟩
 | succ n ih=>
  intro l h;rcases snoc l with rfl | ⟨m,a,rfl⟩
  ·grind
  ·have hm:m.length=n:=by simp_all
   by_cases h0:a=0
   ·subst h0;obtain ⟨i,h1,h2,h3,h4⟩:=ih m hm;have e:(m++[0]).take i=m.take i:=by grind
    refine ⟨i,by omega,by rw [KY,h2,e],by rw [e];exact h3,?_⟩
    rw [e,h4,qR];simp [bv]
   ·have e:(m++[a]).take (n+1)=m++[a]:=yL (by simp [hm]);exact ⟨n+1,yD _,by rw [e,DL h0],by rw [e];exact DL h0 m,by rw [e]⟩
def K9 (l:List Nat):∃i,i<=l.length/\eb l=l.take i/\fX (eb l)/\bv b (eb l)=bv b l:=by
 obtain ⟨i,h1,h2,h3,h4⟩:=aiF (b:=b) l.length l rfl
 grind
def AG (l:List Nat):bv b (eb l)=bv b l:=by
 obtain ⟨_,_,_,_,h⟩:=K9 (b:=b) l;exact h
def AH (l:List Nat):fX (eb l):=by
 obtain ⟨_,_,_,h,_⟩:=K9 (b:=2) l;exact h
def AI {l:List Nat} (h:lo b l):lo b (eb l):=by
 obtain ⟨i,_,h2,_⟩:=K9 (b:=b) l;rw [h2];exact AM h i
def ajW (l:List Nat):(eb l).length<=l.length:=by
 obtain ⟨i,_,h2,_⟩:=K9 (b:=2) l
 grind
def Lt {l:List Nat} (h:fX l) (h0:l≠[]):l.getD (l.length-1) 0≠0:=by
 rcases snoc l with rfl | ⟨m,a,rfl⟩
 ·grind
 ·intro ha
  have:a=0:=by
   grind
  subst this;have e:=congrArg ybB h;rw [KY] at e
  have:=ajW m
  grind
def Me (hb:0<b) {l:List Nat} (h:fX l) (h0:l≠[]):b^(l.length-1)<=bv b l:=by
 rcases snoc l with rfl | ⟨m,a,rfl⟩
 ·grind
 ·have ha:=Lt h h0;simp [xM] at ha;rw [qR,AT];simp only [yQ,tD,uS]
  have:=yS (b^m.length) (show 1<=a by omega)
  omega
def alZ (hb:0<b) {l:List Nat} (h:fX l) (h0:bv b l=0):l=[]:=by
 by_cases hl:l=[]
 ·grind
 ·have:=Me hb h hl
  grind
def LR (hb:1<b) {l m:List Nat} (hl:lo b l) (hm:fX m) (h:l.length<m.length):bv b l<bv b m:=by
 have h1:=mi hl;have h2:=Me (b:=b) (by omega) hm (fun e=>by subst e;simp at h);have h3:b^l.length<=b^(m.length-1):=xn (by omega) (by omega);omega
def aa5 {l m:List Nat} (hl:lo b l) {i:Nat} (h1:i<l.length) (h2:i<m.length) (he:l.drop (i+1)=m.drop (i+1)) (h:l.getD i 0<m.getD i 0):bv b l<bv b m:=by
 rw [Hw l (i+1) (by omega),Hw m (i+1) (by omega),he,iV,iV]
 have:=mi (AM hl i)
 have:=yS (b^i) (show l.getD i 0+1<=m.getD i 0 from h)
 grind
def ajX (hb:1<b) {l:List Nat} {k:Nat} (h:fX l) (hk:bv b l<b^k):l.length<=k:=by
 by_cases h0:l=[]
 ·grind
 ·have h1:=Me (b:=b) (by omega) h h0;have h2:b^(l.length-1)<b^k:=wD h1 hk
  have:=(Nat.pow_lt_pow_iff_right hb).1 h2
  omega
def X5 {V v1 v2 vr U u0 u1 u2 ur p t r:Nat} (hV:V=(v1*b+v2)*p+vr) (hU:U=((u0*b+u1)*b+u2)*p+ur) (hur:ur<p)
  (ht:t*v1+r=u0*b+u1) (h:r*b+u2<t*v2):U/V<=t-1:=by
 have h1:U<t*V:=by
  have e:t*((v1*b+v2)*p)=((t*v1)*b+t*v2)*p:=by
   grind
  have h2:((u0*b+u1)*b+u2)+1<=(t*v1)*b+t*v2:=by rw [<-ht,wG];omega
  have h3:=yZ p h2;rw [hV,hU,xD,e]
  grind
 have qC:0<V:=by
  grind
 have:=(Nat.div_lt_iff_lt_mul qC).2 h1
 omega
def YT {V v1 v2 vr U u0 u1 u2 ur p t r:Nat} (hb:0<b) (hV:V=(v1*b+v2)*p+vr) (J5:vr<p) (hU:U=((u0*b+u1)*b+u2)*p+ur) (er:0<v1) (cZ:v2<b) (ki:t<b)
  (ht:t*v1+r=u0*b+u1) (h:b<=r\/t*v2<=r*b+u2):t<=U/V+1:=by
 have h2:t*v2<=r*b+u2:=by
  rcases h with h | h
  ·have:=Nat.mul_le_mul (tc ki) (tc cZ)
   have:=yZ b h
   omega
  ·exact h
 have h3:t*(v1*b+v2)<=(u0*b+u1)*b+u2:=by
  rw [xD,<-xk,<-ht,wG];omega
 have hp:0<p:=by omega
 have azE:b<=v1*b:=Nat.le_mul_of_pos_left b er;have qC:0<V:=by
  have:=yaK (show 0<v1*b+v2 by omega) hp
  omega
 rcases xr t with h0 | h0
 ·grind
 ·obtain ⟨s,rfl⟩:∃s,t=s+1:=⟨t-1,by omega⟩;have h4:s*V<=U:=by
   have h5:V<=(v1*b+v2+1)*p:=by grind
   have h6:=yS s h5;have h7:s*(v1*b+v2+1)<=(s+1)*(v1*b+v2):=by
    grind
   have h8:=yZ p (Nat.le_trans h7 h3)
   grind
  exact Nat.succ_le_succ ((tO qC).2 h4)
def PC {V v1 v2 vr U u0 u1 u2 ur p:Nat} (hV:V=(v1*b+v2)*p+vr) (hU:U=((u0*b+u1)*b+u2)*p+ur) (hur:ur<p) (Ae:u2<b) (er:0<v1):U/V<=(u0*b+u1)/v1:=by
 by_cases qC:V=0
 ·grind
 ·refine (tO er).2 ?_;have h1:=Nat.div_mul_le_self U V;generalize U/V=q at h1 ⊢;have h2:q*v1*(b*p)<=q*V:=by
   rw [hV,xk]
   grind
  have h3:U<(u0*b+u1+1)*(b*p):=by
   have:(u0*b+u1)*b+u2+1<=(u0*b+u1+1)*b:=by grind
   have:=yZ p this
   grind
  have h4:q*v1*(b*p)<(u0*b+u1+1)*(b*p):=by omega
  have:=uU h4
  omega
def YU {V v1 v2 vr U u0 u1 u2 ur p:Nat} (hV:V=(v1*b+v2)*p+vr) (hU:U=((u0*b+u1)*b+u2)*p+ur) (J5:vr<p) (cZ:v2<b) (h:U<b*V):u0<=v1:=by
 refine Nat.le_of_lt_succ ?_;have h1:V<(v1+1)*(b*p):=by
  have:v1*b+v2+1<=(v1+1)*b:=by grind
  have:=yZ p this
  grind
 have h2:u0*(b*(b*p))<=U:=by
  grind
 have h3:=yS b (tc h1);have e:b*((v1+1)*(b*p))=(v1+1)*(b*(b*p)):=by grind
 rw [e] at h3;have h4:u0*(b*(b*p))<(v1+1)*(b*(b*p)):=wD h2 (Nat.lt_of_lt_of_le h h3);exact uU h4
end
end
section
section
variable {P:aK} {L:Lib} {f:cJ} {F:Nat->cJ}
def BM (f:cJ) (F:Nat->cJ):Prop:=∀c s r,f c s=some r->∃n,F n c s=some r
def Mon (F:Nat->cJ):Prop:=∀n m,n<=m->Le (F n) (F m)
def KD (h:BM f F) (n:Nat) (vals:List AV) (r:AV) (hr:bR P L f n vals=some r):∃k,bR P L (F k) n vals=some r:=by
 unfold bR at hr ⊢
 cases hL:L.pure n with
 | some sp=>exact ⟨0,by simpa only [hL] using hr⟩
 | none=>
  simp only [hL] at hr ⊢
  cases hP:P n with
  | none=>simp [hP] at hr
  | some G=>
   simp only [hP] at hr ⊢
   cases hf:f G.body ⟨fp 0 vals,[],0,0⟩ with
   | none=>simp [hf] at hr
   | some q=>
    obtain ⟨k,hk⟩:=h _ _ _ hf
    grind
def PO (h:BM f F) (hp:Hp) (ct:Nat) (n:Nat) (vals:List AV) (r:AV×Hp×Nat) (hr:ik P L f hp ct n vals=some r):∃k,ik P L (F k) hp ct n vals=some r:=by
 unfold ik at hr ⊢
 cases hL:L.heap n with
 | some sp=>exact ⟨0,by simpa only [hL] using hr⟩
 | none=>
  simp only [hL] at hr ⊢
  cases hP:P n with
  | none=>simp [hP] at hr
  | some G=>
   simp only [hP] at hr ⊢
   cases hf:f G.body ⟨fp 0 vals,hp,ct,ct⟩ with
   | none=>simp [hf] at hr
   | some q=>
    obtain ⟨k,hk⟩:=h _ _ _ hf
    grind
def Xw (h:BM f F) (hm:Mon F) (hp:Hp) (ct:Nat) (l:Nat) (xs:List AV) (r:AV×Hp×Nat) (hr:iT f hp ct l xs=some r):∃k,iT (F k) hp ct l xs=some r:=by
 have key:∃k,∀g,Le (F k) g->iT g hp ct l xs=some r:=by
  unfold iT at hr
  cases hl:ap hp l with
  | none=>simp [hl] at hr
  | some o=>
   split at hr
   ·rename_i tm ps as_ body pe nY
    cases hb:pP tm ps xs with
    | none=>simp [hb] at hr
    | some tm'=>
     simp only [hb] at hr
     cases h1:f as_ ⟨tm',hp,ct,ct⟩ with
     | none=>simp [h1] at hr
     | some q=>
      obtain ⟨k1,nf⟩:=h _ _ _ h1
      split at hr
      ·rename_i s1 SH
       split at hr
       ·rename_i iw rO C6 CB pf ae3
        cases h2:f body ⟨s1.tm,aY s1.hp l (.lp iw rO C6 CB 1 pf),s1.ct,s1.ct⟩ with
        | none=>simp [h2] at hr
        | some q2=>
         obtain ⟨k2,zY⟩:=h _ _ _ h2;refine ⟨max k1 k2,fun g hg=>?_⟩;have e1:=hg _ _ _ (hm k1 _ (vI k1 k2) _ _ _ nf);have e2:=hg _ _ _ (hm k2 _ (vz k1 k2) _ _ _ zY);unfold iT
         grind
       ·simp at hr
      ·simp at hr
   ·simp at hr
 obtain ⟨k,hk⟩:=key;exact ⟨k,hk _ (fun _ _ _ h=>h)⟩
def X6 (h:BM f F) (hm:Mon F) (hp:Hp) (ct:Nat) (m:Md) (fv:AV) (xs:List AV) (r:AV×Hp×Nat) (hr:dC P L f hp ct m fv xs=some r):∃k,dC P L (F k) hp ct m fv xs=some r:=by
 unfold dC at hr ⊢
 split at hr
 ·rename_i n first cap
  cases m with
  | pure=>
   cases hz:cN deep hp (first++(xs++cap)) with
   | none=>simp [hz] at hr
   | some q=>
    simp only [hz] at hr ⊢
    cases hc:bR P L f n q.1 with
    | none=>simp [hc] at hr
    | some u=>
     obtain ⟨k,hk⟩:=KD h n q.1 u hc
     grind
  | own=>
   cases hz:cN deep hp (first++(xs++cap)) with
   | none=>simp [hz] at hr
   | some q=>
    simp only [hz] at hr ⊢
    cases hc:bR P L f n q.1 with
    | none=>simp [hc] at hr
    | some u=>
     obtain ⟨k,hk⟩:=KD h n q.1 u hc
     grind
  | heap=>exact PO h _ _ _ _ _ hr
  | dyn=>
   cases hz:aJ (first++(xs++cap)) with
   | true=>
    simp only [hz,ym] at hr ⊢
    cases hc:bR P L f n (first++(xs++cap)) with
    | none=>simp [hc] at hr
    | some u=>
     obtain ⟨k,hk⟩:=KD h n _ u hc
     grind
   | false=>
    simp only [hz,yB] at hr ⊢;exact PO h _ _ _ _ _ hr
 ·split at hr
  ·exact Xw h hm _ _ _ _ _ hr
  ·exact Xw h hm _ _ _ _ _ hr
  ·simp at hr
 ·simp at hr
def al0 (h:BM f F) (hm:Mon F) (tm:Env) (hp:Hp) (ct:Nat) (o:Op) (r:AV×Hp×Nat) (hr:bt P L f tm hp ct o=some r):∃k,bt P L (F k) tm hp ct o=some r:=by
 unfold bt at hr ⊢
 split at hr
 ·exact X6 h hm _ _ _ _ _ _ hr
 ·rename_i rs fv xs
  cases hc:dC P L f hp ct .dyn (az tm fv) (dD tm xs) with
  | none=>simp [hc] at hr
  | some q=>
   obtain ⟨k,hk⟩:=X6 h hm _ _ _ _ _ _ hc
   grind
 all_goals exact ⟨0,by simpa only using hr⟩
def Qe (h:BM f F) (hm:Mon F):∀(ops:List bl) (s s':St),dP P L f ops s=some s'->∃k,dP P L (F k) ops s=some s'
 | [],s,s',hr=>⟨0,by simpa only [dP] using hr⟩
 | ⟨d,gd,o⟩::r,s,s',hr=>by
  simp only [dP] at hr ⊢
  split at hr
  ·rename_i hw
   cases ho:bt P L f s.tm s.hp s.ct o with
   | none=>simp [ho] at hr
   | some q=>
    obtain ⟨k1,nf⟩:=al0 h hm _ _ _ _ _ ho;simp only [ho] at hr;obtain ⟨k2,zY⟩:=Qe h hm r _ _ hr;refine ⟨max k1 k2,?_⟩;rw [YL (hm k1 _ (vI k1 k2)) _ _ _ _ _ nf];exact KS (hm k2 _ (vz k1 k2)) r _ _ zY
  ·rename_i hw;exact Qe h hm r _ _ hr
  ·simp at hr
def Ca (h:BM f F) (hm:Mon F):∀(c:VC) (s:St) (r:Ex×St),bI P L f c s=some r->∃k,bI P L (F k) c s=some r
 | .skip,s,r,hr=>⟨0,by simpa only [bI] using hr⟩
 | .aV ops,s,r,hr=>by
  simp only [bI] at hr ⊢
  cases ho:dP P L f ops s with
  | none=>simp [ho] at hr
  | some s'=>
   obtain ⟨k,hk⟩:=Qe h hm _ _ _ ho
   grind
 | .seq a b,s,r,hr=>by
  simp only [bI] at hr ⊢
  cases ha:bI P L f a s with
  | none=>simp [ha] at hr
  | some q=>
   obtain ⟨k1,nf⟩:=Ca h hm a s q ha;obtain ⟨ex,s1⟩:=q
   cases ex with
   | normal=>
    simp only [ha] at hr;obtain ⟨k2,zY⟩:=Ca h hm b s1 r hr;refine ⟨max k1 k2,?_⟩;rw [pH (hm k1 _ (vI k1 k2)) a s _ nf];exact pH (hm k2 _ (vz k1 k2)) b s1 r zY
   | ret=>exact ⟨k1,by rw [nf];simpa only [ha] using hr⟩
   | exit id=>exact ⟨k1,by rw [nf];simpa only [ha] using hr⟩
 | .cond x a b,s,r,hr=>by
  simp only [bI] at hr ⊢
  split at hr
  ·rename_i t ht
   cases t with
   | true=>simp only [ym] at hr ⊢;exact Ca h hm a s r hr
   | false=>simp only [yB] at hr ⊢;exact Ca h hm b s r hr
  ·simp at hr
 | .aO id a,s,r,hr=>by
  simp only [bI] at hr ⊢
  cases ha:bI P L f a s with
  | none=>simp [ha] at hr
  | some q=>
   obtain ⟨k,hk⟩:=Ca h hm a s q ha
   grind
 | .kp live,s,r,hr=>⟨0,by simpa only [bI] using hr⟩
 | .fz ts,s,r,hr=>⟨0,by simpa only [bI] using hr⟩
 | .loop live a,s,r,hr=>by
  simp only [bI] at hr ⊢
  cases ha:bI P L f a (bH live s) with
  | none=>simp [ha] at hr
  | some q=>
   obtain ⟨k1,nf⟩:=Ca h hm a _ q ha;obtain ⟨ex,s1⟩:=q
   cases ex with
   | normal=>
    simp only [ha] at hr;obtain ⟨k2,zY⟩:=h _ _ _ hr;refine ⟨max k1 k2,?_⟩;rw [pH (hm k1 _ (vI k1 k2)) a _ _ nf];exact hm k2 _ (vz k1 k2) _ _ _ zY
   | ret=>exact ⟨k1,by rw [nf];simpa only [ha] using hr⟩
   | exit id=>exact ⟨k1,by rw [nf];simpa only [ha] using hr⟩
 | .rf fv ps as_ body,s,r,hr=>by
  simp only [bI] at hr ⊢
  split at hr
  ·rename_i n first cap hx
   split at hr
   ·grind
   ·rename_i hL
    cases hc:ik P L f ((s.ct,.lp s.tm ps as_ body 0 .none)::s.hp) (s.ct+1) n (first++(.fn (.y s.ct) [] []::cap)) with
    | none=>simp [hc] at hr
    | some q=>
     obtain ⟨k,hk⟩:=PO h _ _ _ _ _ hc
     grind
  ·simp at hr
 | .exit id,s,r,hr=>⟨0,by simpa only [bI] using hr⟩
 | .ret,s,r,hr=>⟨0,by simpa only [bI] using hr⟩
end
section
variable (P:aK) (L:Lib)
noncomputable def D:cJ:=fun c s=>@dite _ (∃r n,ev P L n c s=some r) (Classical.propDecidable _) (fun h=>some h.choose) (fun _=>none)
variable {P L}
def ae6 {c:VC} {s:St} {r:Ex×St} {n:Nat} (h:ev P L n c s=some r):D P L c s=some r:=by
 have hx:∃r n,ev P L n c s=some r:=⟨r,n,h⟩;unfold D;obtain ⟨m,hm⟩:=hx.choose_spec;have e1:=Q1 P L (vI n m) _ _ _ h;have e2:=Q1 P L (vz n m) _ _ _ hm
 grind
def S4 {c:VC} {s:St} {r:Ex×St} (h:D P L c s=some r):∃n,ev P L n c s=some r:=by
 unfold D at h;by_cases hx:∃r n,ev P L n c s=some r
 ·grind
 ·grind
def auh (n:Nat):Le (ev P L n) (D P L):=fun _ _ _ h=>ae6 h
def ael:BM (D P L) (ev P L):=fun _ _ _ h=>S4 h
def aqm:Mon (ev P L):=fun _ _ h=>Q1 P L h
def kR (c:VC) (s:St):D P L c s=bI P L (D P L) c s:=by
 cases h:D P L c s with
 | some r=>
  obtain ⟨n,hn⟩:=S4 h
  cases n with
  | zero=>rw [HI] at hn;cases hn
  | succ n=>rw [HJ] at hn;exact (pH (auh n) c s r hn).symm
 | none=>
  cases hs:bI P L (D P L) c s with
  | none=>rfl
  | some r=>
   obtain ⟨n,hn⟩:=Ca ael aqm c s r hs;rw [<-HJ] at hn;rw [ae6 hn] at h;cases h
def acD {f:Nat} {vals:List AV} {r:AV} (h:bR P L (D P L) f vals=some r):∃n,Ui P L n f vals=some r:=KD ael f vals r h
end
end
end VE
