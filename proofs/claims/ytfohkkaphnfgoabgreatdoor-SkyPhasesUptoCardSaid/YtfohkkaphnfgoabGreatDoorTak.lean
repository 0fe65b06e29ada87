import Derived.ChangeSlices
import Derived.ChangeReads
import Derived.ChangeSame
import Derived.OpenShut
import Derived.Lib.AtoiErrMem
import Derived.Attr
import Derived.Test.YtfohkkaphnfgoabGreatDoorTai
import Derived.Test.YtfohkkaphnfgoabGreatDoorTae
import Derived.Test.YtfohkkaphnfgoabGreatDoorTag
import Derived.Test.YtfohkkaphnfgoabGreatDoorTaj
import Derived.Test.YtfohkkaphnfgoabGreatDoorTah
set_option linter.all false
set_option maxRecDepth 100000
open Array renaming getElem?_eq_some_iff→xp
open Bool renaming and_eq_true→yf,true_and→wh
open Go renaming Addr→vT,ChangeSpec→ybg,DataW→xq,Field→uz,IntKind→yZ,MemPlace→xX,Program→y9,TypeId→yx,Value→ye,World→yg
open Int renaming emod_emod→yba,tmod_eq_emod_of_nonneg→xB
open List renaming all_cons→vX,append_nil→wC,cons_append→xn,drop_drop→wQ,drop_eq_getElem_cons→yJ,drop_eq_nil_of_le→yP,eq_nil_of_length_eq_zero→yD,flatMap_cons→tR,getD_cons_succ→tG,getD_eq_getElem?_getD→xU,getElem?_cons_zero→vn,length→ybh,length_append→yW,length_cons→yu,length_map→yY,length_nil→yA,length_singleton→tr,length_take→yQ,mapM_cons→vK,mapM_nil→uW,map_cons→yS,mem_append_left→uf,mem_append_right→vt,mem_flatMap→vS,range→wO,range'→xV,range'_succ→vI,range'_zero→tZ,range_eq_range'→tz,replicate→yH,replicate_succ→wP,set_cons_succ→tM,take_append_drop→xP,take_of_length_le→yE,take_succ_eq_append_getElem→yT
open Nat renaming add_mul→we,add_sub_cancel→uS,add_zero→yV,beq→yt,beq_refl→vm,ble_eq_true_of_le→yz,blt→yI,eq_of_beq_eq_true→yk,eq_zero_or_pos→xm,le_div_iff_mul_le→tC,le_max_left→vH,le_max_right→vz,le_of_lt→uo,le_refl→yv,lt_of_le_of_lt→wc,lt_of_mul_lt_mul_right→uT,min_eq_left→xQ,mul_add→xx,mul_assoc→xk,mul_comm→xz,mul_le_mul_left→yR,mul_le_mul_right→yU,mul_pos→yaZ,mul_zero→xE,not_lt_zero→tB,pow_le_pow_right→xA,pow_succ→xg,reduceEqDiff→ya,zero_add→yd
open Option renaming bind_eq_bind→wX,bind_some→xI,map_some→wu,pure_def→wz
open Option.some renaming injEq→yc
open Prod.mk renaming injEq→ym
namespace VE
section
open Go
section
variable (P:y9)
def Ds (self:yx->Bool):List uz->Nat->Nat->Bool
 | [],o,n=>yt o n
 | f::r,o,n=>yt f.offset o&&(self f.type&&Ds self r (o+P.cellsOf f.type) n)
def flat:Nat->yx->Bool
 | 0,_=>false
 | n+1,t=>
  match P.underlying t with
  | some .bool | some (.int _) | some (.float _) | some .string=>yt (P.cellsOf t) 1
  | some (.slice e)=>yt (P.cellsOf t) 1&&(yI 0 (P.cellsOf e)&&flat n e)
  | some (.struct fs)=>Ds P (fun u=>flat n u) fs.toList 0 (P.cellsOf t)
  | some (.array k e)=>yt (P.cellsOf t) (k*P.cellsOf e)&&flat n e
  | _=>false
def cz {H:Type}:Nat->yx->xq H->List AV
 | 0,_,_=>[]
 | n+1,t,d=>
  match P.underlying t,d with
  | some .bool,.lit (.bool b)=>[.bool b]
  | some (.int k),.lit (.int _ m)=>[.int k m]
  | some (.float k),.lit (.float _ b)=>[.dh k b]
  | some .string,.lit (.string s)=>[.str (s.map UInt8.toNat)]
  | some (.slice _),.nil=>[.ab]
  | some (.slice e),.slice iT spare=>[.aH spare.isEmpty iT.length (iT.flatMap fun x=>cz n e x)]
  | some (.struct fs),.agg parts=>(fs.toList.zip parts).flatMap fun x=>cz n x.1.type x.2
  | some (.array _ e),.agg parts=>parts.flatMap fun x=>cz n e x
  | _,_=>[]
end
section
variable {ah:Nat->Nat} {m:Mp} {S:Nat->Prop} {w:yg}
def XK:∀{a b:List AV} {aJ o:Nat},bR ah m S w a aJ o->bR ah m S w b aJ (o+a.length)->bR ah m S w (a++b) aJ o
 | [],b,aJ,o,_,h=>by simpa using h
 | x::a,b,aJ,o,h1,h2=>by
  exact ⟨h1.1,XK h1.2 (by rw [yu] at h2;rw [show o+1+a.length=o+(a.length+1) by omega];exact h2)⟩
def KJ:∀{a b:List AV},aK a=true->aK b=true->aK (a++b)=true
 | [],_,_,h=>h
 | x::a,b,h1,h2=>by
  simp only [aK,xn,yf] at h1 ⊢;exact ⟨h1.1,KJ h1.2 h2⟩
def XL:∀{a:List AV} {us:List ye},ap ah m S w a us->a.length=us.length
 | [],us,h=>by simp only [ap] at h;subst h;rfl
 | x::a,us,h=>by
  obtain ⟨u,r,rfl,_,h2⟩:=h;simp [XL h2]
end
section
variable {H:Type} {enc:yx×ye->H} {P:y9} {w:yg} {held:Bool} {ah:Nat->Nat} {m:Mp} {S:Nat->Prop}
def Zz {a:vT} {i:Nat} {u:ye} (h:w.cell? (a.add i)=some u):w.cell? ⟨a.block,a.off+i,none⟩=some u/\(i=0->a.spot=none):=by
 by_cases hi:i=0
 ·subst hi;have e:a.add 0=a:=by simp [Addr.add]
  rw [e] at h;have hs:a.spot=none:=by
   cases hq:a.spot with
   | none=>rfl
   | some k=>
    unfold World.cell? at h
    split at h
    ·simp [hq] at h
    all_goals simp_all
  obtain ⟨b,o,sp⟩:=a;simp only at hs;subst hs;exact ⟨by simpa using h,fun _=>rfl⟩
 ·have e:a.add i=⟨a.block,a.off+i,none⟩:=by simp [Addr.add,hi]
  rw [e] at h;exact ⟨h,fun h=>(hi h).elim⟩
def aip (a:vT) (i:Nat):(a.add i).block=a.block:=by unfold Addr.add;split<;>rfl
def amp (a:vT) (i:Nat):(a.add i).off=a.off+i:=by unfold Addr.add;split<;>simp_all
def KS {α β:Type} {f:α->Option β}:∀{l:List α} {r:List β},l.mapM f=some r->r.length=l.length
 | [],r,h=>by simp only [uW,wz,yc] at h;subst h;rfl
 | x::l,r,h=>by
  rw [vK] at h
  cases h1:f x with
  | none=>simp [h1] at h
  | some y=>
   cases h2:l.mapM f with
   | none=>simp [h1,h2] at h
   | some ys=>
    simp only [h1,h2,xI,wX,wz,yc] at h;subst h;simp [KS h2]
def akl {c:AV} {l:List AV} {b o:Nat} (h:bR ah m S w (c::l) b o):b<w.heap.size:=by
 obtain ⟨⟨u,h1,_⟩,_⟩:=h;unfold World.cell? at h1
 cases hq:w.heap[b]? with
 | none=>simp [hq] at h1
 | some o=>exact (xp.1 hq).1
def PF {e:yx} {bt sz:Nat} {f:xq H->List AV} {a:vT} (eF:0<sz)
  (IH:∀(cs:List ye) (d:xq H) (ps:List xX),DataW.trod enc P w 0 (fun _=>true) held bt e cs=some (d,ps)->ap ah m S w (f d) cs/\aK (f d)=true/\cs.length=sz):
  ∀(k j:Nat) (xs:List (xq H×List xX)),(xV j k).mapM (fun i=>(w.cells? 0 (a.add (i*sz)) sz).bind (DataW.trod enc P w 0 (fun _=>true) held bt e))=some xs->
   bR ah m S w ((xs.map (·.1)).flatMap f) a.block (a.off+j*sz)/\aK ((xs.map (·.1)).flatMap f)=true/\((xs.map (·.1)).flatMap f).length=k*sz/\xs.length=k/\(0<k->a.spot=none\/0<j)
 | 0,j,xs,h=>by
  simp only [tZ,uW,wz,yc] at h;subst h;simp [bR,aK]
 | k+1,j,xs,h=>by
  rw [vI,vK] at h
  cases h1:(w.cells? 0 (a.add (j*sz)) sz) with
  | none=>simp [h1] at h
  | some us=>
   cases h2:DataW.trod enc P w 0 (fun _=>true) held bt e us with
   | none=>simp [h1,h2] at h
   | some x=>
    cases h3:(xV (j+1) k).mapM (fun i=>(w.cells? 0 (a.add (i*sz)) sz).bind (DataW.trod enc P w 0 (fun _=>true) held bt e)) with
    | none=>simp [h1,h2,h3] at h
    | some ys=>
     simp only [h1,h2,h3,xI,wX,wz,yc] at h;subst h;obtain ⟨d,ps⟩:=x;obtain ⟨g1,g2,g3⟩:=IH us d ps h2;obtain ⟨k1,k2,k3,k4,_⟩:=PF eF IH k (j+1) ys h3;obtain ⟨_,c2,c3⟩:=World.cells?_some h1;have hl:(f d).length=sz:=by rw [XL g1,g3]
     have hc:∀(i:Nat) (u:ye),us[i]? =some u->w.cell? ⟨a.block,a.off+j*sz+i,none⟩=some u:=by
      intro i u hi;have EZ:i<sz:=by grind
      have h:=c3 i EZ;rw [hi] at h
      have:=(Zz h).1
      rwa [aip,amp] at this
     refine ⟨?_,?_,?_,by simp [k4],?_⟩
     ·simp only [yS,tR];refine XK (Dz _ us _ g1 hc) ?_
      grind
     ·simp only [yS,tR];exact KJ g2 k2
     ·grind
     ·intro _;rcases xm j with hj | hj
      ·left
       have h:=c3 0 eF;have hu:us[0]? =some us[0]:=by simp_all
       rw [hu] at h
       have:=(Zz h).2 rfl
       subst hj;simpa [Addr.add] using this
      ·grind
def WZ {bt N:Nat} {n:Nat} {cs:List ye} (hN:cs.length=N)
  (IH:∀(t:yx) (cs:List ye) (d:xq H) (ps:List xX),flat P n t=true->DataW.trod enc P w 0 (fun _=>true) held bt t cs=some (d,ps)->ap ah m S w (cz P n t d) cs/\aK (cz P n t d)=true/\cs.length=P.cellsOf t):
  ∀(r:List uz) (o:Nat) (xs:List (xq H×List xX)),Ds P (fun u=>flat P n u) r o N=true->r.mapM (fun f=>DataW.trod enc P w 0 (fun _=>true) held bt f.type ((cs.drop f.offset).take (P.cellsOf f.type)))=some xs->
   ap ah m S w ((r.zip (xs.map (·.1))).flatMap fun x=>cz P n x.1.type x.2) (cs.drop o)/\aK ((r.zip (xs.map (·.1))).flatMap fun x=>cz P n x.1.type x.2)=true
 | [],o,xs,hf,h=>by
  have:=yk hf
  rw [yP (by omega)];simp [ap,aK]
 | f::r,o,xs,hf,h=>by
  simp only [Ds,yf] at hf;obtain ⟨e1,e2,e3⟩:=hf;have e1:=yk e1;rw [vK] at h
  cases h2:DataW.trod enc P w 0 (fun _=>true) held bt f.type ((cs.drop f.offset).take (P.cellsOf f.type)) with
  | none=>simp [h2] at h
  | some x=>
   cases h3:r.mapM (fun f=>DataW.trod enc P w 0 (fun _=>true) held bt f.type ((cs.drop f.offset).take (P.cellsOf f.type))) with
   | none=>simp [h2,h3] at h
   | some ys=>
    simp only [h2,h3,xI,wX,wz,yc] at h;subst h;obtain ⟨d,ps⟩:=x;obtain ⟨g1,g2,g3⟩:=IH f.type _ d ps e2 h2;obtain ⟨k1,k2⟩:=WZ hN IH r _ ys e3 h3;rw [e1] at g1;have e:cs.drop o=(cs.drop o).take (P.cellsOf f.type)++cs.drop (o+P.cellsOf f.type):=by rw [<-wQ];exact (xP _ _).symm
    rw [e];exact ⟨kW g1 k1,KJ g2 k2⟩
def ZA {bt sz:Nat} {e:yx} {f:xq H->List AV} {cs:List ye}
  (IH:∀(cs:List ye) (d:xq H) (ps:List xX),DataW.trod enc P w 0 (fun _=>true) held bt e cs=some (d,ps)->ap ah m S w (f d) cs/\aK (f d)=true/\cs.length=sz):
  ∀(k j:Nat) (xs:List (xq H×List xX)),(xV j k).mapM (fun i=>DataW.trod enc P w 0 (fun _=>true) held bt e ((cs.drop (i*sz)).take sz))=some xs->cs.length=(j+k)*sz->
   ap ah m S w ((xs.map (·.1)).flatMap f) (cs.drop (j*sz))/\aK ((xs.map (·.1)).flatMap f)=true
 | 0,j,xs,h,hl=>by
  simp only [tZ,uW,wz,yc] at h;subst h;rw [yP (by rw [hl];simp)]
  simp [ap,aK]
 | k+1,j,xs,h,hl=>by
  rw [vI,vK] at h
  cases h2:DataW.trod enc P w 0 (fun _=>true) held bt e ((cs.drop (j*sz)).take sz) with
  | none=>simp [h2] at h
  | some x=>
   cases h3:(xV (j+1) k).mapM (fun i=>DataW.trod enc P w 0 (fun _=>true) held bt e ((cs.drop (i*sz)).take sz)) with
   | none=>simp [h2,h3] at h
   | some ys=>
    simp only [h2,h3,xI,wX,wz,yc] at h;subst h;obtain ⟨d,ps⟩:=x;obtain ⟨g1,g2,g3⟩:=IH _ d ps h2;obtain ⟨k1,k2⟩:=ZA IH k (j+1) ys h3 (by rw [hl];congr 1;omega)
    have e:cs.drop (j*sz)=(cs.drop (j*sz)).take sz++cs.drop ((j+1)*sz):=by rw [we,Nat.one_mul,<-wQ];exact (xP _ _).symm
    rw [e];exact ⟨kW g1 k1,KJ g2 k2⟩
def Yu (hS:∀b,b<w.heap.size->S b):∀(n bt:Nat) (t:yx) (cs:List ye) (d:xq H) (ps:List xX),flat P n t=true->DataW.trod enc P w 0 (fun _=>true) held bt t cs=some (d,ps)->
  ap ah m S w (cz P n t d) cs/\aK (cz P n t d)=true/\cs.length=P.cellsOf t
 | 0,bt,t,cs,d,ps,hf,h=>by simp [flat] at hf
 | n+1,0,t,cs,d,ps,hf,h=>by simp [DataW.trod] at h
 | n+1,bt+1,t,cs,d,ps,hf,h=>by
  have IH:=Yu hS n bt;unfold DataW.trod at h;simp only [flat] at hf
  split at h
  ·rename_i hu;simp only [hu] at hf;simp only [yc,ym] at h;obtain ⟨rfl,rfl⟩:=h;simp only [cz,hu];exact ⟨by simp [ap,ai],by simp [aK,aX],by rw [yk hf];rfl⟩
  ·rename_i hu;simp only [hu] at hf
   split at h
   ·rename_i hk;simp only [yc,ym] at h;obtain ⟨rfl,rfl⟩:=h;simp only [cz,hu];refine ⟨?_,by simp [aK,aX],by rw [yk hf];rfl⟩
    rw [hk.1];simp [ap,ai]
   ·cases h
  ·rename_i hu;simp only [hu] at hf
   split at h
   ·rename_i hk;simp only [yc,ym] at h;obtain ⟨rfl,rfl⟩:=h;simp only [cz,hu];refine ⟨?_,by simp [aK,aX],by rw [yk hf];rfl⟩
    rw [hk.1];simp [ap,ai]
   ·cases h
  ·rename_i hu;simp only [hu] at hf
   split at h
   ·simp only [yc,ym] at h;obtain ⟨rfl,rfl⟩:=h;simp only [cz,hu];refine ⟨?_,by simp [aK,aX],by rw [yk hf];rfl⟩
    simp only [ap,ai];exact ⟨_,_,rfl,⟨_,rfl,rfl⟩,rfl⟩
   ·cases h
  ·rename_i hu;simp [hu] at hf
  ·rename_i hu;simp [hu] at hf
  ·rename_i hu;simp only [hu,yf] at hf;simp only [yc,ym] at h;obtain ⟨rfl,rfl⟩:=h;simp only [cz,hu];exact ⟨by simp [ap,ai],by simp [aK,aX],by rw [yk hf.1];rfl⟩
  ·rename_i e a len cap hu;simp only [hu,yf] at hf;obtain ⟨f1,f2,f3⟩:=hf;have eF:=rN.1 f2;simp only at h
   split at h
   case isFalse=>cases h
   rename_i hc;simp only [xh] at h
   cases h1:(wO len).mapM fun i=>(w.cells? 0 (a.add (i*P.cellsOf e)) (P.cellsOf e)).bind (DataW.trod enc P w 0 (fun _=>true) held bt e) with
   | none=>rw [h1] at h;simp at h
   | some iT=>
    cases h2:(wO (cap-len)).mapM fun j=>(w.cells? 0 (a.add ((len+j)*P.cellsOf e)) (P.cellsOf e)).bind (DataW.trod enc P w 0 (fun _=>true) held bt e) with
    | none=>rw [h1] at h;simp [h2] at h
    | some rest=>
     rw [h1] at h;simp only [xI,h2,wu,yc,ym] at h;obtain ⟨rfl,rfl⟩:=h;have hIH:=fun cs d ps h=>IH e cs d ps f3 h
     rw [tz] at h1 h2;obtain ⟨k1,k2,k3,k4,k5⟩:=PF (ah:=ah) (m:=m) (S:=S) eF hIH len 0 iT h1;have hrl:rest.length=cap-len:=by rw [KS h2];simp
     have iH:cap≠0->a.spot=none:=by
      intro Sv;rcases xm len with h0 | h0
      ·subst h0;simp only [yd,Nat.sub_zero] at h2;obtain ⟨_,_,_,_,q5⟩:=PF (ah:=ah) (m:=m) (S:=S) eF hIH cap 0 rest h2;exact (q5 (by omega)).resolve_right (by omega)
      ·exact (k5 h0).resolve_right (by omega)
     simp only [cz,hu,yY];refine ⟨?_,by simp [aK,aX],by rw [yk f1];rfl⟩
     simp only [ap];refine ⟨_,_,rfl,?_,rfl⟩;simp only [ai];by_cases Sv:cap=0
     ·subst Sv;have iW:len=0:=by omega
      subst iW;have he:iT=[]:=yD k4;subst he;exact .inr ⟨a,rfl,rfl,rfl⟩
     ·obtain ⟨b,o,sp⟩:=a;have iH:=iH Sv;simp only at iH;subst iH;refine .inl ⟨b,o,cap,by rw [k4],by omega,fun hx=>?_,?_,k2,by simpa using k1⟩
      ·have:rest.length=0:=by simpa using hx
       omega
      ·generalize hg:((iT.map (·.1)).flatMap fun x=>cz P n e x)=l at k1
       cases l with
       | nil=>exact .inl rfl
       | cons c l=>exact .inr (hS b (akl k1))
  ·rename_i qS x1 JS fs hu;simp only [hu] at hf
   split at h
   case isFalse=>cases h
   rename_i hlen
   cases h1:fs.toList.mapM fun f=>DataW.trod enc P w 0 (fun _=>true) held bt f.type ((qS.drop f.offset).take (P.cellsOf f.type)) with
   | none=>rw [h1] at h;simp at h
   | some xs=>
    rw [h1] at h;simp only [wu,yc,ym] at h;obtain ⟨rfl,rfl⟩:=h;obtain ⟨k1,k2⟩:=WZ hlen (fun t cs d ps hf h=>IH t cs d ps hf h) fs.toList 0 xs hf h1;simp only [cz,hu];exact ⟨by simpa using k1,k2,hlen⟩
  ·rename_i qS x1 JS k e hu;simp only [hu,yf] at hf;obtain ⟨f1,f2⟩:=hf;have f1:=yk f1
   split at h
   case isFalse=>cases h
   rename_i hlen
   cases h1:(wO k).mapM fun i=>DataW.trod enc P w 0 (fun _=>true) held bt e ((qS.drop (i*P.cellsOf e)).take (P.cellsOf e)) with
   | none=>rw [h1] at h;simp at h
   | some xs=>
    rw [h1] at h;simp only [wu,yc,ym] at h;obtain ⟨rfl,rfl⟩:=h;rw [tz] at h1;obtain ⟨k1,k2⟩:=ZA (ah:=ah) (m:=m) (S:=S) (fun cs d ps h=>IH e cs d ps f2 h) k 0 xs h1 (by rw [hlen,f1];simp)
    simp only [cz,hu];exact ⟨by simpa using k1,k2,hlen⟩
  all_goals first
   | (cases h;done)
   | (simp_all;done)
def jx (P:y9) (n:Nat) (t:yx) (d:xq H):AV:=
 match P.underlying t with
 | some (.struct _) | some (.array _ _)=> .agg (cz P n t d)
 | _=>(cz P n t d).headD .undef
def amq (hS:∀b,b<w.heap.size->S b) {n base:Nat} {t:yx} {v:ye} {d:xq H} {ps:List xX} (hf:flat P n t=true) (h:DataW.Trod enc P w 0 (fun _=>true) held t v d ps)
  (hv:Value.okWide P w .any base t v):ai ah m S w (jx P n t d) v/\aX (jx P n t d)=true:=by
 obtain ⟨bt,h⟩:=h;obtain ⟨h1,h2,h3⟩:=Yu (ah:=ah) (m:=m) hS n bt t _ d ps hf h;have one:v.cells=#[v]->(∀fs,P.underlying t≠some (.struct fs))->(∀k e,P.underlying t≠some (.array k e))->ai ah m S w (jx P n t d) v/\aX (jx P n t d)=true:=by
  intro hc EX hna;have e:jx P n t d=(cz P n t d).headD .undef:=by
   unfold jx
   grind
  rw [e];rw [hc] at h1;generalize cz P n t d=l at h1 h2
  cases l with
  | nil=>simp [ap] at h1
  | cons x l=>
   simp only [ap] at h1;simp only [aK,yf] at h2
   grind
 cases n with
 | zero=>simp [flat] at hf
 | succ n=>
  unfold Value.okWide at hv;simp only [flat] at hf
  cases hu:P.underlying t with
  | none=>simp [hu] at hf
  | some ty=>
   rw [hu] at hv hf;cases ty<;>simp only [Bool.false_eq_true] at hf hv
   case struct fs=>
    obtain ⟨cs,rfl,_,_⟩:=hv;have e:jx P (n+1) t d= .agg (cz P (n+1) t d):=by simp only [jx,hu]
    rw [e];exact ⟨by simp only [ai];exact ⟨cs,rfl,h1⟩,by simpa only [aX] using h2⟩
   case array k e=>
    obtain ⟨cs,rfl,_,_⟩:=hv;have e:jx P (n+1) t d= .agg (cz P (n+1) t d):=by simp only [jx,hu]
    rw [e];exact ⟨by simp only [ai];exact ⟨cs,rfl,h1⟩,by simpa only [aX] using h2⟩
   all_goals
    refine one ?_ (by simp [hu]) (by simp [hu])
    cases v with
    | agg cs=>exfalso;simp only [Cell.okWide,Cell.ok,hu] at hv
    | _=>rfl
def rW (P:y9) (n:Nat):List yx->List (xq H)->List AV
 | t::ts,d::ds=>jx P n t d::rW P n ts ds
 | _,_=>[]
def Yv (hS:∀b,b<w.heap.size->S b) {n base:Nat}:∀{ts:List yx} {vs:List ye} {ds:List (xq H)} {ps:List xX},ts.all (flat P n)=true->DataW.TrodAll enc P w 0 (fun _=>true) held ts vs ds ps->
  (∀(j:Nat) t v,ts[j]? =some t->vs[j]? =some v->Value.okWide P w .any base t v)->ap ah m S w (rW P n ts ds) vs/\aK (rW P n ts ds)=true
 | [],[],[],_,_,_,_=>by simp [rW,ap,aK]
 | t::ts,v::vs,d::ds,ps,hf,h,hv=>by
  simp only [vX,yf] at hf;obtain ⟨p,q,h1,h2,_⟩:=h;obtain ⟨a1,a2⟩:=amq (ah:=ah) (m:=m) hS hf.1 h1 (hv 0 t v rfl rfl);obtain ⟨b1,b2⟩:=Yv hS hf.2 h2 (fun j t v h1 h2=>hv (j+1) t v h1 h2);simp only [rW,ap,aK,yf]
  grind
 | [],_::_,_,_,_,h,_=>by simp [DataW.TrodAll] at h
 | [],[],_::_,_,_,h,_=>by simp [DataW.TrodAll] at h
 | _::_,[],_,_,_,h,_=>by simp [DataW.TrodAll] at h
 | _::_,_::_,[],_,_,h,_=>by simp [DataW.TrodAll] at h
end
end
section
open Go
section
variable {H:Type} {enc:yx×ye->H} {P:y9} {w w':yg} {held:Bool} {sp:Nat->Bool}
def ag8 (hs:∀b,b<w.heap.size->w'.heap[b]? =w.heap[b]?) {a:vT} {u:ye} (h:w.cell? a=some u):w'.cell? a=some u:=by
 have hb:a.block<w.heap.size:=by
  unfold World.cell? at h
  cases hq:w.heap[a.block]? with
  | none=>simp [hq] at h
  | some o=>exact (xp.1 hq).1
 unfold World.cell? at h ⊢;rw [hs _ hb];exact h
def agH (hs:∀b,b<w.heap.size->w'.heap[b]? =w.heap[b]?) {base:Nat} {a:vT} {n:Nat} {us:List ye} (h:w.cells? base a n=some us):w'.cells? base a n=some us:=by
 unfold World.cells? at h ⊢
 split at h
 ·rename_i hb;rw [yL hb];exact mapM_carry h (fun x y _ _ hx=>ag8 hs hx)
 ·cases h
def amr {a:vT} {n:Nat} (h:0<n):MemPlace.cell a.block (a.off+0)∈MemPlace.row a n:=by
 unfold MemPlace.row;exact List.mem_map.2 ⟨0,List.mem_range.2 h,rfl⟩
def W0 (hs:∀b,b<w.heap.size->w'.heap[b]? =w.heap[b]?):∀(n bt:Nat) (t:yx) (cs:List ye) (d:xq H) (ps:List xX),flat P n t=true->DataW.trod enc P w 0 (fun _=>true) held bt t cs=some (d,ps)->
  (∀p,p∈ps->sp p.block=true)->DataW.trod enc P w' 0 sp held bt t cs=some (d,ps)
 | 0,bt,t,cs,d,ps,hf,h,hp=>by simp [flat] at hf
 | n+1,0,t,cs,d,ps,hf,h,hp=>by simp [DataW.trod] at h
 | n+1,bt+1,t,cs,d,ps,hf,h,hp=>by
  have IH:=W0 hs n bt;have elem:∀{e:yx} {a:vT} {y:xq H×List xX},flat P n e=true->(w.cells? 0 a (P.cellsOf e)).bind (DataW.trod enc P w 0 (fun _=>true) held bt e)=some y->(∀p,p∈y.2->sp p.block=true)->
    (w'.cells? 0 a (P.cellsOf e)).bind (DataW.trod enc P w' 0 sp held bt e)=some y:=by
   intro e a y he h hq
   cases h1:w.cells? 0 a (P.cellsOf e) with
   | none=>simp [h1] at h
   | some us=>
    rw [h1] at h;rw [agH hs h1];simp only [xI] at h ⊢;obtain ⟨d,ps⟩:=y;exact IH e us d ps he h hq
  unfold DataW.trod at h ⊢;simp only [flat] at hf
  split at h
  ·exact h
  ·exact h
  ·exact h
  ·exact h
  ·rename_i hu;simp [hu] at hf
  ·rename_i hu;simp [hu] at hf
  ·exact h
  ·rename_i e a len cap hu;simp only [hu,yf] at hf;obtain ⟨f1,f2,f3⟩:=hf;have eF:=rN.1 f2;simp only at h ⊢
   split at h
   case isFalse=>cases h
   rename_i hc;rw [yL hc];simp only [xh] at h
   cases h1:(wO len).mapM fun i=>(w.cells? 0 (a.add (i*P.cellsOf e)) (P.cellsOf e)).bind (DataW.trod enc P w 0 (fun _=>true) held bt e) with
   | none=>rw [h1] at h;simp at h
   | some iT=>
    cases h2:(wO (cap-len)).mapM fun j=>(w.cells? 0 (a.add ((len+j)*P.cellsOf e)) (P.cellsOf e)).bind (DataW.trod enc P w 0 (fun _=>true) held bt e) with
    | none=>rw [h1] at h;simp [h2] at h
    | some rest=>
     rw [h1] at h;simp only [xI,h2,wu,yc,ym] at h;obtain ⟨rfl,rfl⟩:=h;have k1:((wO len).mapM fun i=>(w'.cells? 0 (a.add (i*P.cellsOf e)) (P.cellsOf e)).bind (DataW.trod enc P w' 0 sp held bt e))=some iT:=
      mapM_carry h1 (fun x y _ hy hx=>elem f3 hx (fun p hq=>hp p (vt _ (vS.2 ⟨y,uf _ hy,hq⟩))))
     have k2:((wO (cap-len)).mapM fun j=>(w'.cells? 0 (a.add ((len+j)*P.cellsOf e)) (P.cellsOf e)).bind (DataW.trod enc P w' 0 sp held bt e))=some rest:=
      mapM_carry h2 (fun x y _ hy hx=>elem f3 hx (fun p hq=>hp p (vt _ (vS.2 ⟨y,vt _ hy,hq⟩))))
     have hr:(if sp a.block=true then (wO (cap-len)).mapM fun j=>(w'.cells? 0 (a.add ((len+j)*P.cellsOf e)) (P.cellsOf e)).bind (DataW.trod enc P w' 0 sp held bt e) else some [])=some rest:=by
      by_cases iH:sp a.block=true
      ·rw [yL iH];exact k2
      ·rw [yF iH];have h0:¬0<(iT.length+rest.length)*P.cellsOf e:=fun h0=>iH (hp _ (uf _ (amr h0)))
       have hz:iT.length+rest.length=0:=by
        rcases xm (iT.length+rest.length) with h | h
        ·exact h
        ·exact (h0 (yaZ h eF)).elim
       have:rest=[]:=yD (by omega)
       rw [this]
     rw [k1];simp only [xI];rw [hr];rfl
  ·rename_i qS x1 JS fs hu;simp only [hu] at hf
   split at h
   case isFalse=>cases h
   rename_i hlen;rw [yL hlen]
   cases h1:fs.toList.mapM fun f=>DataW.trod enc P w 0 (fun _=>true) held bt f.type ((qS.drop f.offset).take (P.cellsOf f.type)) with
   | none=>rw [h1] at h;simp at h
   | some xs=>
    rw [h1] at h;simp only [wu,yc,ym] at h;obtain ⟨rfl,rfl⟩:=h;have qQ:∀(r:List uz) (o:Nat),Ds P (fun u=>flat P n u) r o (P.cellsOf t)=true->∀f,f∈r->flat P n f.type=true:=by
     intro r
     induction r with
     | nil=>intro o _ f hm;cases hm
     | cons g r ih=>
      intro o hq f hm;simp only [Ds,yf] at hq;rcases List.mem_cons.1 hm with rfl | hm
      ·exact hq.2.1
      ·exact ih _ hq.2.2 f hm
    have k1:(fs.toList.mapM fun f=>DataW.trod enc P w' 0 sp held bt f.type ((qS.drop f.offset).take (P.cellsOf f.type)))=some xs:=
     mapM_carry h1 (fun f y hm hy hx=>IH _ _ y.1 y.2 (qQ _ _ hf f hm) hx (fun p hq=>hp p (vS.2 ⟨y,hy,hq⟩)))
    rw [k1];rfl
  ·rename_i qS x1 JS k e hu;simp only [hu,yf] at hf
   split at h
   case isFalse=>cases h
   rename_i hlen;rw [yL hlen]
   cases h1:(wO k).mapM fun i=>DataW.trod enc P w 0 (fun _=>true) held bt e ((qS.drop (i*P.cellsOf e)).take (P.cellsOf e)) with
   | none=>rw [h1] at h;simp at h
   | some xs=>
    rw [h1] at h;simp only [wu,yc,ym] at h;obtain ⟨rfl,rfl⟩:=h;have k1:((wO k).mapM fun i=>DataW.trod enc P w' 0 sp held bt e ((qS.drop (i*P.cellsOf e)).take (P.cellsOf e)))=some xs:=
     mapM_carry h1 (fun i y _ hy hx=>IH _ _ y.1 y.2 hf.2 hx (fun p hq=>hp p (vS.2 ⟨y,hy,hq⟩)))
    rw [k1];rfl
  all_goals first
   | (cases h;done)
   | (simp_all;done)
def V1 (hs:∀b,b<w.heap.size->w'.heap[b]? =w.heap[b]?) {n:Nat}:∀{ts:List yx} {vs:List ye} {ds:List (xq H)} {ps:List xX},ts.all (flat P n)=true->DataW.TrodAll enc P w 0 (fun _=>true) held ts vs ds ps->
  (∀p,p∈ps->sp p.block=true)->DataW.TrodAll enc P w' 0 sp held ts vs ds ps
 | [],[],[],ps,_,h,_=>by simpa only [DataW.TrodAll] using h
 | t::ts,v::vs,d::ds,ps,hf,h,hp=>by
  simp only [vX,yf] at hf;obtain ⟨p,q,⟨bt,h1⟩,h2,rfl⟩:=h;exact ⟨p,q,⟨bt,W0 hs n bt t _ d p hf.1 h1 (fun x hx=>hp x (uf _ hx))⟩,V1 hs hf.2 h2 (fun x hx=>hp x (vt _ hx)),rfl⟩
 | [],_::_,_,_,_,h,_=>by simp [DataW.TrodAll] at h
 | [],[],_::_,_,_,h,_=>by simp [DataW.TrodAll] at h
 | _::_,[],_,_,_,h,_=>by simp [DataW.TrodAll] at h
 | _::_,_::_,[],_,_,h,_=>by simp [DataW.TrodAll] at h
end
end
section
open Go Go.ChangeShapes Go.WideShapes
section
variable {H:Type} {enc:yx×ye->H} {P:y9} {W W':yg}
def aiq (hc:Calm W W') (may:xX->Prop):W.keptBut W' may:=by
 refine ⟨hc.os,hc.output,fun i hi=>?_⟩;rw [hc.same i hi]
 cases hq:W.heap[i]? with
 | none=>rfl
 | some o=>cases o<;>simp
def agI (hc:Calm W W') {b off:Nat} (hb:b<W.heap.size):W'.frozen? ⟨b,off,none⟩=W.frozen? ⟨b,off,none⟩:=by
 unfold World.frozen?;simp only;rw [hc.same b hb]
def akm {fn:Func} {s:ybg} {apart fresh handsOn again:Bool} {args:Array ye} {ds gs:List (xq H)} {before:List xX} {n:Nat} {tb:yx}
  (hW:DataW.Whole enc P fn.params.toList s.vars apart W args.toList ds gs before) (hv:s.vars=[]) (Mf:fn.params.toList.all (flat P n)=true) (hc:Calm W W')
  (kq:s.fn H (ds++gs)={results:=[.lit (.bool true)],args:=ds}) (Aw:fn.resultTypes=#[tb]) (jF:P.underlying tb=some .bool):
  s.post enc P fn apart fresh handsOn again W args (.bool true) W':=by
 have a6:=hW.lt;have hW0:=hW;obtain ⟨p,q,hA,hV,hpq,hz,hn⟩:=hW;rw [hv] at hV;have hq:gs=[]/\q=[]:=by
  cases gs with
  | nil=>exact ⟨rfl,by simpa only [DataW.TrodVars] using hV⟩
  | cons g gs=>simp [DataW.TrodVars] at hV
 obtain ⟨rfl,rfl⟩:=hq;have hbp:before=p:=by rw [hpq];simp
 subst hbp;have gE:∀sp:Nat->Bool,(∀p∈before,sp p.block=true)->DataW.TrodAll enc P W' 0 sp true fn.params.toList args.toList ds before:=fun sp h=>V1 hc.same Mf hA h
 have acD:∀(b:Nat) (sp:Nat->Bool) (hd:Bool),DataW.TrodAll enc P W' b sp hd fn.resultTypes.toList ((Value.bool true).resultList fn.resultTypes.size) [.lit (.bool true)] []:=by
  intro b sp hd;rw [Aw];refine ⟨[],[],⟨1,?_⟩,rfl,rfl⟩;simp [DataW.trod,jF,Value.cells]
 have hold:∀p∈before,(fun b=>decide (b<W.heap.size)) p.block=true:=fun p hp=>by simpa using a6 p hp
 have acE:∀sp:Nat->Bool,DataW.TrodVars enc P W' sp s.vars ([]:List (xq H)) []:=fun sp=>by rw [hv];rfl
 refine ⟨ds,[],before,[],before,[],hW0,by rw [kq];exact acD _ _ _,by rw [kq];exact gE _ hold,by rw [kq];exact acE _,aiq hc _,fun _=>?_⟩
 refine ⟨?_,[.lit (.bool true)]++ds,[],[]++before++[],⟨[]++before,[],trodAll_append (gE _ (fun _ _=>rfl)) (acD _ _ _),acE _,rfl,?_,?_⟩,?_⟩
 ·intro j t r h1 h2;rw [Aw] at h1 h2
  cases j with
  | zero=>
   simp only [List.getElem?_toArray,vn,yc] at h1;simp only [Value.resultList,List.size_toArray,yu,yA,xh,yd,vn,yc] at h2;subst h1;subst h2;simp [Value.okWide,jF,Cell.okWide,Cell.ok]
  | succ j=>simp at h1
 ·intro b off hp;have hp:MemPlace.cell b off∈before:=by simpa using hp
  rw [agI hc (b:=b) (a6 _ hp)];exact hz b off hp
 ·intro ha
  have:=hn ha
  simpa using this
 ·intro p hp _;simpa using hp
def air {O:bq} {n k:Nat} {fn:Func} {s:ybg} {apart fresh handsOn again:Bool} {base:Nat} {args:Array ye} {ds gs:List (xq H)} {before:List xX} {tb:yx}
  (hp:ez O n (rW O.P k fn.params.toList ds) (.bool true)) (A1:O.w0=W) (kq:O.P.funcs[O.ah n]? =some fn) (hb:fn.body.isSome=true) (AU:fn.name≠ "runtime.NumGoroutine")
  (aQ:∀(j:Nat) t v,fn.params[j]? =some t->args[j]? =some v->Value.okWide O.P W .any base t v)
  (hW:DataW.Whole enc O.P fn.params.toList s.vars apart W args.toList ds gs before) (hv:s.vars=[]) (Mf:fn.params.toList.all (flat O.P k)=true)
  (hfs:s.fn H (ds++gs)={results:=[.lit (.bool true)],args:=ds}) (Aw:fn.resultTypes=#[tb]) (jF:O.P.underlying tb=some .bool):
  Calls O.P (O.ah n) args W fun e W'=>∃v,e= .returned v/\s.post enc O.P fn apart fresh handsOn again W args v W':=by
 have hA:=hW;obtain ⟨p,q,hA,_⟩:=hA;obtain ⟨h1,h2⟩:=Yv (ah:=O.ah) (m:=eM) (S:=fun b=>b<W.heap.size) (fun b hb=>hb) Mf hA (fun j t v a b=>aQ j t v (by simpa using a) (by simpa using b));have hi:=hp W (fun b=>b<W.heap.size) args ⟨fun b _=>by rw [A1],by rw [A1];exact yv _⟩ (fun b hb=>hb) h1 h2
 have key:∀e W',Yf O W (fun b=>b<W.heap.size) (.bool true) e W'->∃v,e= .returned v/\s.post enc O.P fn apart fresh handsOn again W args v W':=by
  rintro e W' ⟨u,S',rfl,hc,_,_,_,hr⟩;simp only [mM,gW,ai] at hr;obtain ⟨_,_,hu,_⟩:=hr;subst hu;exact ⟨_,rfl,akm hW hv Mf hc hfs Aw jF⟩
 rcases hi with ⟨_,hi⟩ | ⟨u,w',hi,_⟩
 ·exact callsIn_wide.1 (hi.mono key)
 ·rw [K8 kq hb AU] at hi;cases hi
end
end
section
namespace J1
open Go Go.Proofs
noncomputable def O (W:yg):bq:=⟨Tryz.prog,VE.aT,sD qY.ah,VE.prog,Me qY.cd qY.hd,W⟩
def XM {w:yg} {k:Nat} {os:Array Go.Obj}:Calm w (Go.Sort.grow (w.drewN k) os):=GF (Lib.below_grow w.heap.size w (yv _) k os)
def Yw {W w:yg} (h:Lib.TabIs Tryz.prog W "internal/strconv.uint64pow10" .u64 Lib.pow10Tab) (hg:z8 (O W) w):Lib.TabIs Tryz.prog w "internal/strconv.uint64pow10" .u64 Lib.pow10Tab:=by
 unfold Lib.TabIs World.var? at h ⊢
 cases hn:Tryz.prog.globalNamed "internal/strconv.uint64pow10" with
 | none=>rw [hn] at h;exact h
 | some g=>
  rw [hn] at h;simp only [xI] at h ⊢;have hb:g<W.heap.size:=by
   cases hq:W.heap[g]? with
   | none=>rw [hq] at h;cases h
   | some o=>exact (xp.1 hq).1
  rw [hg.1 g hb];exact h
def asD:∀args w,(callFunc 156 args).run Tryz.prog w= .ok (.enter 156 args) w:=enters_of Tryz.func156 (by kernel_rfl) rfl
def asE:∀args w,(callFunc 171 args).run Tryz.prog w= .ok (.enter 171 args) w:=enters_of Tryz.func171 (by kernel_rfl) rfl
def asF:∀args w,(callFunc 199 args).run Tryz.prog w= .ok (.enter 199 args) w:=enters_of Tryz.func199 (by kernel_rfl) rfl
def asG:∀args w,(callFunc 202 args).run Tryz.prog w= .ok (.enter 202 args) w:=enters_of Tryz.func202 (by kernel_rfl) rfl
def asH:∀args w,(callFunc 203 args).run Tryz.prog w= .ok (.enter 203 args) w:=enters_of Tryz.func203 (by kernel_rfl) rfl
def asI:∀args w,(callFunc 209 args).run Tryz.prog w= .ok (.enter 209 args) w:=enters_of Tryz.func209 (by kernel_rfl) rfl
def asJ:∀args w,(callFunc 217 args).run Tryz.prog w= .ok (.enter 217 args) w:=enters_of Tryz.func217 (by kernel_rfl) rfl
def asK:∀args w,(callFunc 218 args).run Tryz.prog w= .ok (.enter 218 args) w:=enters_of Tryz.func218 (by kernel_rfl) rfl
def asL:∀args w,(callFunc 219 args).run Tryz.prog w= .ok (.enter 219 args) w:=enters_of Tryz.func219 (by kernel_rfl) rfl
def asM:∀args w,(callFunc 226 args).run Tryz.prog w= .ok (.enter 226 args) w:=enters_of Tryz.func226 (by kernel_rfl) rfl
def asN:∀args w,(callFunc 242 args).run Tryz.prog w= .ok (.enter 242 args) w:=enters_of Tryz.func242 (by kernel_rfl) rfl
def asP:∀args w,(callFunc 264 args).run Tryz.prog w= .ok (.enter 264 args) w:=enters_of Tryz.func264 (by kernel_rfl) rfl
def arl (W:yg) (n:Nat) (sp:List AV->Option AV):Prop:=∀ak r,sp ak=some r->ez (O W) n ak r
section
variable {W:yg} {m:Int} (hm:W.cell? ⟨2,0,none⟩=some (.int .i64 m)) (ht:Lib.TabIs Tryz.prog W "internal/strconv.uint64pow10" .u64 Lib.pow10Tab)
include hm ht
def aoH:adp.kS (arl W):=
 (Tr.jP (af7 (O:=O W) (f:=218) (by rfl) asK Tryz.strings_TrimPrefix)
  (Tr.jP (af8 (O:=O W) (f:=202) (by rfl) asG (fun z w hz hg=>(Tryz.af1 z hz w (Yw ht hg)).mono fun _ _ ⟨h1,k,os,h2⟩=>⟨h1,h2▸XM⟩))
  (Tr.jP (agb (O:=O W) (f:=171) (by rfl) asE Tryz.strings_CutPrefix)
  (Tr.jP (ama (O:=O W) (f:=156) (by rfl) asD (a:=⟨2,0,none⟩) (m:=m) hm (fun s sep w hs hc=>Tryz.strings_Cut s sep m w hs hc))
  Tr.je Tr.je) (Tr.jP (akb (O:=O W) (f:=199) (by rfl) asF (fun z w h0 h1 hg=>(Tryz.strconv_Itoa z h0 h1 w (Yw ht hg)).mono fun _ _ ⟨h1,k,os,h2⟩=>⟨h1,h2▸XM⟩))
  Tr.je Tr.je)) (Tr.jP (aii (O:=O W) (f:=209) (by rfl) asI (fun x y w hx hy=>Tryz.bits_Mul64 x y hx hy w))
  (Tr.jP (ag6 (O:=O W) (f:=203) (by rfl) asH Tryz.strings_Repeat)
  Tr.je Tr.je) (Tr.jP (agc (O:=O W) (f:=217) (by rfl) asJ Tryz.strings_HasPrefix)
  Tr.je Tr.je))) (Tr.jP (aik (O:=O W) (f:=250) (by rfl) (fun x y c w h=>Tryz.bits_Add64 x y c h w))
  (Tr.jP (aka (O:=O W) (f:=226) (by rfl) asM (fun s cs w hs iY ha=>Tryz.agp s cs w hs iY ha))
  (Tr.jP (akc (O:=O W) (f:=219) (by rfl) asL (fun s z w hl h=>(Tryz.strconv_Atoi s z hl h w).mono fun _ _ ⟨h1,t,h2⟩=>⟨h1,h2▸GF (Lib.bytesWorld_below _ _ _)⟩))
  Tr.je Tr.je) (Tr.jP (akd (O:=O W) (f:=242) (by rfl) asN (fun x w h0 h1=>Tryz.bits_LeadingZeros64 x w h0 h1))
  Tr.je Tr.je)) (Tr.jP (aij (O:=O W) (f:=264) (by rfl) asP (fun x w h0 h1=>Tryz.bits_Len64 x w h0 h1))
  (Tr.jP (ail (O:=O W) (f:=256) (by rfl) (fun x y b w h=>Tryz.bits_Sub64 x y b h w))
  Tr.je Tr.je) Tr.je)))
def ams:ej (O W) where
 hint n f g h:=Tr.Bt (p:=fun f g=>sD qY.ah g=f) (Pj qY.aoy) h
 mixed:=by kernel_rfl
 prog n F h:=Tr.Bt qY.amo h
 aT n sp ak r h hs:=Tr.Bt (aoH hm ht) h ak r hs
 Ek n sp hp ct ak v an a7 h:=by cases h
end
end J1
end
section
def bj:List Int->Int
 | []=>0
 | a::r=>if a=0 then bj r else a
def O7 {l:List Int} {i:Nat} (h:i<l.length):bj (l.drop i)=if l[i]=0 then bj (l.drop (i+1)) else l[i]:=by
 rw [yJ h,bj]
def fj (lo hi:Int):List Int->Bool
 | []=>false
 | a::r=>if a<lo\/hi<a then true else fj lo hi r
def ais {lo hi:Int} {l:List Int} {i:Nat} (h:i<l.length):fj lo hi (l.drop i)=if l[i]<lo\/hi<l[i] then true else fj lo hi (l.drop (i+1)):=by
 rw [yJ h,fj]
def jf (n:Nat) (lo hi:Int):List (List Int)->Int
 | []=>0
 | r::s=>if r.length≠n then 2 else if fj lo hi r=true then 3 else jf n lo hi s
def W1 {n:Nat} {lo hi:Int} {s:List (List Int)} {i:Nat} (h:i<s.length):
  jf n lo hi (s.drop i)=if s[i].length≠n then 2 else if fj lo hi s[i]=true then 3 else jf n lo hi (s.drop (i+1)):=by
 rw [yJ h,jf]
def nE (s:List (List Int)):Int:=if s.length=0 then 12 else if 16<s.length then 5 else jf s.length (-1000) 1000 s
def oL:List (List Int)->Bool
 | []=>true
 | r::s=>if 18<r.length then false else oL s
def af9 {s:List (List Int)} {i:Nat} (h:i<s.length):oL (s.drop i)=if 18<s[i].length then false else oL (s.drop (i+1)):=by
 rw [yJ h,oL]
def nP (n:Nat) (s:List (List Int)):Bool:=if n<s.length/\s.length<=16\/18<s.length then false else oL s
def P3 {lo hi:Int} {l:List Int} (h:fj lo hi l=false):∀i (bU:i<l.length),lo<=l[i]/\l[i]<=hi:=by
 induction l with
 | nil=>intro i bU;exact absurd bU (tB _)
 | cons a r ih=>
  simp only [fj] at h
  grind
def ait {lo hi:Int} {l:List Int} (h:fj lo hi l=false):∀i,fj lo hi (l.take i)=false:=by
 induction l with
 | nil=>intro i;simp [fj]
 | cons a r ih=>
  intro i;simp only [fj] at h
  split at h
  ·grind
  ·rename_i hc
   cases i with
   | zero=>simp [fj]
   | succ i=>simp only [List.take_succ_cons,fj,hc,y8,ih h i]
def jg (s:List (List Int)) (c r:Int):Int:=(s.getD (r%s.length).toNat []).getD (c%s.length).toNat 0
def amt {n m:Int} (h:0<m):(n.tmod m+m).tmod m=n%m:=by
 have e:n.tmod m=if 0<=n\/m∣n then n%m else n%m-m:=by
  grind
 have h1:=Int.emod_nonneg n (by omega:m≠0);rw [e]
 split
 ·rw [xB (by omega),Int.add_emod_right,yba]
 ·rw [show n%m-m+m=n%m by omega,xB h1,yba]
def XN {n:Nat} {lo hi:Int} {s:List (List Int)} (h:jf n lo hi s=0):∀i (bU:i<s.length),s[i].length=n/\fj lo hi s[i]=false:=by
 induction s with
 | nil=>intro i bU;exact absurd bU (tB _)
 | cons r s ih=>
  simp only [jf] at h
  grind
end
section
def dv:List Int->Nat
 | []=>0
 | a::r=>a.toNat+1000000000*dv r
def kZ:∀(a b:List Int),dv (a++b)=dv a+1000000000^a.length*dv b
 | [],b=>by simp [dv]
 | x::a,b=>by
  simp only [xn,dv,kZ a b,yu,xg,xx]
  grind
def nI {l:List Int} (i:Nat):dv (l.take (i+1))=dv (l.take i)+1000000000^i*(l.getD i 0).toNat:=by
 by_cases h:i<l.length
 ·rw [yT h,kZ,yQ,xQ (by omega)];simp [dv,xU,List.getElem?_eq_getElem h]
 ·rw [yE (by omega),yE (by omega)]
  grind
abbrev dg (l:List Int):Prop:=fj 0 999999999 l=false
def gB {a b:List Int}:dg (a++b)↔dg a/\dg b:=by
 induction a with
 | nil=>simp [dg,fj]
 | cons x a ih=>
  simp only [dg,xn,fj] at ih ⊢
  grind
def jc {x:Int}:dg [x]↔0<=x/\x<1000000000:=by
 simp only [dg,fj]
 grind
def gS {l:List Int} (h:dg l) (i:Nat):0<=l.getD i 0/\l.getD i 0<1000000000:=by
 by_cases hi:i<l.length
 ·have:=P3 h i hi
  grind
 ·grind
def By {l:List Int} (h:dg l) (i:Nat):dg (l.take i):=ait h i
def jh:∀{l:List Int},dg l->dv l<1000000000^l.length
 | [],_=>by simp [dv]
 | x::l,h=>by
  have h':dg ([x]++l):=h;obtain ⟨h1,h2⟩:=gB.1 h';have h1:=jc.1 h1
  have:=jh h2
  simp only [dv,yu,xg];omega
def dL:List Int->List Int
 | []=>[]
 | a::r=>match dL r with | []=>if a=0 then [] else [a] | t::q=>a::t::q
def GH:∀l:List Int,dL (l++[0])=dL l
 | []=>rfl
 | a::l=>by simp only [xn,dL,GH l]
def KK {a:Int} (h:a≠0):∀l:List Int,dL (l++[a])=l++[a]
 | []=>by simp [dL,h]
 | b::l=>by
  simp only [xn,dL,KK h l]
  cases hq:l++[a] with
  | nil=>simp at hq
  | cons t q=>rfl
def rG:∀l:List Int,dv (dL l)=dv l
 | []=>rfl
 | a::l=>by
  have ih:=rG l;simp only [dL,dv]
  split
  ·rename_i h;rw [h] at ih
   split
   ·rename_i h0;subst h0;simp [dv,<-ih]
   ·simp [dv,<-ih]
  ·rename_i t q h;rw [h] at ih;simp only [dv] at ih ⊢;omega
def zF:∀{l:List Int},dg l->dg (dL l)
 | [],_=>rfl
 | a::l,h=>by
  have h':dg ([a]++l):=h;obtain ⟨h1,h2⟩:=gB.1 h';have ih:=zF h2;simp only [dL]
  split
  ·grind
  ·rename_i t q hq;rw [hq] at ih
   exact (gB (a:=[a]) (b:=t::q)).2 ⟨h1,ih⟩
def KT:∀l:List Int,(dL l).length<=l.length
 | []=>yv _
 | a::l=>by
  have ih:=KT l;simp only [dL]
  grind
def snoc {α:Type} (l:List α):l=[]\/∃m a,l=m++[a]:=by
 rcases List.eq_nil_or_concat l with h | ⟨m,a,h⟩
 ·grind
 ·grind
def agJ:∀(n:Nat) (l:List Int),l.length=n->dL (dL l)=dL l:=by
 intro n
 induction n with
 | zero=>intro l h;rw [yD h];rfl
 | succ n ih=>
  intro l h;rcases snoc l with rfl | ⟨m,a,rfl⟩
  ·rfl
  ·by_cases h0:a=0
   ·subst h0;rw [GH]
    grind
   ·rw [KK h0,KK h0]
def ag9 (l:List Int):dL (dL l)=dL l:=agJ _ l rfl
abbrev nz (l:List Int):Prop:=dL l=l
def DF (l:List Int):nz (dL l):=ag9 l
def Mg {l:List Int} (h:nz l) (hd:dg l) (h0:l≠[]):1000000000^(l.length-1)<=dv l:=by
 rcases snoc l with rfl | ⟨m,a,rfl⟩
 ·grind
 ·by_cases ha:a=0
  ·subst ha
   have:=KT m
   have e:=congrArg ybh h;rw [GH] at e
   grind
  ·rw [kZ]
   have:=jc.1 (gB.1 hd).2
   simp only [dv,yW,tr,uS,xE,yV];have h1:1<=a.toNat:=by omega
   have:=yR (1000000000^m.length) h1
   omega
def Ql {l:List Int} (h:nz l) (hd:dg l) (h0:dv l=0):l=[]:=by
 by_cases hl:l=[]
 ·grind
 ·have:=Mg h hd hl
  grind
def QP {a b:List Int} (ha:dg a) (hb:nz b) (cO:dg b) (h:a.length<b.length):dv a<dv b:=by
 have h1:=jh ha;have h2:=Mg hb cO (fun e=>by subst e;simp at h);have h3:1000000000^a.length<=1000000000^(b.length-1):=xA (by decide) (by omega);omega
def dF (m n:Nat):Int:=if m<n then -1 else if n<m then 1 else 0
def aa6 {l:List Int} {i:Nat} (h:i<l.length):dv l=dv (l.take i)+1000000000^i*(l[i].toNat+1000000000*dv (l.drop (i+1))):=by
 have e:l=l.take i++l[i]::l.drop (i+1):=by simp_all
 have:dv l=dv (l.take i++l[i]::l.drop (i+1)):=congrArg dv e
 rw [this,kZ,yQ,xQ (by omega)];rfl
def ZB {a b:List Int} {i:Nat} (ha:dg a) (hb:dg b) (h1:i<a.length) (h2:i<b.length) (he:a.drop (i+1)=b.drop (i+1)) (h:a[i]<b[i]):dv a<dv b:=by
 rw [aa6 h1,aa6 h2,he];have hl:=jh (By ha i);have g1:=P3 ha i h1;have h3:a[i].toNat+1000000000*dv (b.drop (i+1))+1<=b[i].toNat+1000000000*dv (b.drop (i+1)):=by omega
 have:=yR (1000000000^i) h3
 grind
def QQ:∀{l:List Int} {j:Nat} {x:Int},j<l.length->dv (l.set j x)+1000000000^j*(l.getD j 0).toNat=dv l+1000000000^j*x.toNat
 | [],j,x,h=>by simp at h
 | a::l,0,x,_=>by simp [dv];omega
 | a::l,j+1,x,h=>by
  have ih:=QQ (l:=l) (j:=j) (x:=x) (by simpa using h);simp only [tM,dv,tG,xg]
  grind
def LR {l:List Int} (h:dg l) {j:Nat} {x:Int} (hx:0<=x/\x<1000000000):dg (l.set j x):=by
 by_cases hj:j<l.length
 ·rw [List.set_eq_take_append_cons_drop,yL hj];have e:l=l.take (j+1)++l.drop (j+1):=(xP _ _).symm;have hd:dg (l.drop (j+1)):=by rw [e] at h;exact (gB.1 h).2
  exact gB.2 ⟨By h j,(gB (a:=[x]) (b:=l.drop (j+1))).2 ⟨jc.2 hx,hd⟩⟩
 ·rw [List.set_eq_of_length_le (by omega)];exact h
def Yx {l:List Int} {j m:Nat} {x:Int} (h:m≠j):(l.set j x).getD m 0=l.getD m 0:=by grind
def akn {V0 V V' p q A X Y o c s:Nat} (hs:s=o+A*X+c) (bh:V'+p*q*o=V+p*q*(s%1000000000)) (hv:V+p*q*c=V0+p*(A*Y)):
  V'+p*(q*1000000000)*(s/1000000000)=V0+p*(A*(Y+q*X)):=by
 have e:=Nat.mod_add_div s 1000000000;have e2:p*q*s=p*q*(s%1000000000)+p*(q*1000000000)*(s/1000000000):=by
  conv=>lhs;rw [<-e]
  rw [xx,<-xk (p*q),<-xk p q]
 have e3:p*q*s=p*q*o+p*q*(A*X)+p*q*c:=by rw [hs,xx,xx]
 have e4:p*(A*(Y+q*X))=p*(A*Y)+p*q*(A*X):=by
  rw [xx,xx,xk p q,<-xk A q X,xz A q,xk q A X]
 omega
def Yy (n:Nat):dv (yH n 0)=0:=by
 induction n with
 | zero=>rfl
 | succ n ih=>simp [wP,dv,ih]
def Yz (n:Nat):dg (yH n 0):=by
 induction n with
 | zero=>rfl
 | succ n ih=>exact (gB (a:=[0]) (b:=yH n 0)).2 ⟨by decide,ih⟩
end
section
def bv (b:Nat):List Nat->Nat
 | []=>0
 | a::r=>a+b*bv b r
def lo (b:Nat) (l:List Nat):Prop:=∀x,x∈l->x<b
section
variable {b:Nat}
def zV (a:Nat):bv b [a]=a:=by simp [bv]
def pK:∀(l m:List Nat),bv b (l++m)=bv b l+b^l.length*bv b m
 | [],m=>by simp [bv]
 | x::l,m=>by
  simp only [xn,bv,pK l m,yu,xg,xx]
  grind
def gd {l:List Nat} {i:Nat} (h:i<l.length):l[i]=l.getD i 0:=by simp_all
def QR {l:List Nat} {i:Nat} (h:l.length<=i):l.getD i 0=0:=by simp_all
def iP {l:List Nat} (i:Nat):bv b (l.take (i+1))=bv b (l.take i)+b^i*l.getD i 0:=by
 by_cases h:i<l.length
 ·rw [yT h,pK,yQ,xQ (by omega),zV,gd h]
 ·rw [yE (by omega),yE (by omega),QR (by omega),xE,yV]
def LS:lo b []:=fun _ h=>by simp at h
def KU {l m:List Nat}:lo b (l++m)↔lo b l/\lo b m:=by
 constructor
 ·intro h;exact ⟨fun x hx=>h x (by simp [hx]),fun x hx=>h x (by simp [hx])⟩
 ·rintro ⟨h1,h2⟩ x hx;rcases List.mem_append.1 hx with h | h
  ·exact h1 x h
  ·exact h2 x h
def D1 {x:Nat}:lo b [x]↔x<b:=by simp [lo]
def gC (hb:0<b) {l:List Nat} (h:lo b l) (i:Nat):l.getD i 0<b:=by
 by_cases hi:i<l.length
 ·rw [<-gd hi];exact h _ (List.getElem_mem hi)
 ·grind
def zO {l:List Nat} (h:lo b l) (i:Nat):lo b (l.take i):=fun x hx=>h x (List.mem_of_mem_take hx)
def ZC {l:List Nat} (h:lo b l) (i:Nat):lo b (l.drop i):=fun x hx=>h x (List.mem_of_mem_drop hx)
def lm {l:List Nat} (h:lo b l) {i x:Nat} (hx:x<b):lo b (l.set i x):=fun y hy=>by
 rcases List.mem_or_eq_of_mem_set hy with h1 | h1
 ·exact h y h1
 ·omega
def D2 (hb:0<b) (n:Nat):lo b (yH n 0):=fun x hx=>by
 grind
def D3 (n:Nat):bv b (yH n 0)=0:=by
 induction n with
 | zero=>rfl
 | succ n ih=>simp [wP,bv,ih]
def Bz (n m:Nat):(yH n (0:Nat)).getD m 0=0:=by grind
def lC:∀{l:List Nat},lo b l->bv b l<b^l.length
 | [],_=>by simp [bv]
 | x::l,h=>by
  have h1:=h x (by simp);have h2:=lC (l:=l) (fun y hy=>h y (by simp [hy]));simp only [bv,yu,xg,xz _ b]
  have:=yR b (show bv b l+1<=b^l.length from h2)
  grind
def mH:∀{l:List Nat} {i x:Nat},i<l.length->bv b (l.set i x)+b^i*l.getD i 0=bv b l+b^i*x
 | [],i,x,h=>by simp at h
 | a::l,0,x,_=>by simp [bv];omega
 | a::l,i+1,x,h=>by
  have ih:=mH (l:=l) (i:=i) (x:=x) (by simpa using h)
  have:=congrArg (fun t=>b*t) ih
  simp only [xx] at this;simp only [tM,bv,tG,xg,xz _ b,xk] at this ⊢;omega
def nJ {l:List Nat} {i m x:Nat} (h:i≠m):(l.set i x).getD m 0=l.getD m 0:=by simp_all
def aha {l:List Nat} {i x:Nat} (h:i<l.length):(l.set i x).getD i 0=x:=by simp_all
def G0 (l:List Nat) (i:Nat) (h:i<=l.length):bv b l=bv b (l.take i)+b^i*bv b (l.drop i):=by
 have:=pK (b:=b) (l.take i) (l.drop i)
 simp_all
def dM:List Nat->List Nat
 | []=>[]
 | a::r=>match dM r with | []=>if a=0 then [] else [a] | t::q=>a::t::q
def KL:∀l:List Nat,dM (l++[0])=dM l
 | []=>rfl
 | a::l=>by simp only [xn,dM,KL l]
def Dt {a:Nat} (h:a≠0):∀l:List Nat,dM (l++[a])=l++[a]
 | []=>by simp [dM,h]
 | b::l=>by
  simp only [xn,dM,Dt h l]
  cases hq:l++[a] with
  | nil=>simp at hq
  | cons t q=>rfl
abbrev gm (l:List Nat):Prop:=dM l=l
def ahb:∀(n:Nat) (l:List Nat),l.length=n->∃i,i<=n/\dM l=l.take i/\gm (l.take i)/\bv b (l.take i)=bv b l:=by
 intro n
 induction n with
 | zero=>intro l h;rw [yD h];exact ⟨0,yv _,rfl,rfl,rfl⟩
 | succ n ih=>
  intro l h;rcases snoc l with rfl | ⟨m,a,rfl⟩
  ·grind
  ·have hm:m.length=n:=by simp_all
   by_cases h0:a=0
   ·subst h0;obtain ⟨i,h1,h2,h3,h4⟩:=ih m hm;have e:(m++[0]).take i=m.take i:=by grind
    refine ⟨i,by omega,by rw [KL,h2,e],by rw [e];exact h3,?_⟩
    rw [e,h4,pK];simp [bv]
   ·have e:(m++[a]).take (n+1)=m++[a]:=yE (by simp [hm]);exact ⟨n+1,yv _,by rw [e,Dt h0],by rw [e];exact Dt h0 m,by rw [e]⟩
def KV (l:List Nat):∃i,i<=l.length/\dM l=l.take i/\gm (dM l)/\bv b (dM l)=bv b l:=by
 obtain ⟨i,h1,h2,h3,h4⟩:=ahb (b:=b) l.length l rfl
 grind
def zG (l:List Nat):bv b (dM l)=bv b l:=by
 obtain ⟨_,_,_,_,h⟩:=KV (b:=b) l;exact h
def zH (l:List Nat):gm (dM l):=by
 obtain ⟨_,_,_,h,_⟩:=KV (b:=2) l;exact h
def zI {l:List Nat} (h:lo b l):lo b (dM l):=by
 obtain ⟨i,_,h2,_⟩:=KV (b:=b) l;rw [h2];exact zO h i
def aiu (l:List Nat):(dM l).length<=l.length:=by
 obtain ⟨i,_,h2,_⟩:=KV (b:=2) l
 grind
def K9 {l:List Nat} (h:gm l) (h0:l≠[]):l.getD (l.length-1) 0≠0:=by
 rcases snoc l with rfl | ⟨m,a,rfl⟩
 ·grind
 ·intro ha
  have:a=0:=by
   grind
  subst this;have e:=congrArg ybh h;rw [KL] at e
  have:=aiu m
  grind
def QS (hb:0<b) {l:List Nat} (h:gm l) (h0:l≠[]):b^(l.length-1)<=bv b l:=by
 rcases snoc l with rfl | ⟨m,a,rfl⟩
 ·grind
 ·have ha:=K9 h h0;simp [xU] at ha;rw [pK,zV];simp only [yW,tr,uS]
  have:=yR (b^m.length) (show 1<=a by omega)
  omega
def Lx (hb:1<b) {l m:List Nat} (hl:lo b l) (hm:gm m) (h:l.length<m.length):bv b l<bv b m:=by
 have h1:=lC hl;have h2:=QS (b:=b) (by omega) hm (fun e=>by subst e;simp at h);have h3:b^l.length<=b^(m.length-1):=xA (by omega) (by omega);omega
def ZD {l m:List Nat} (hl:lo b l) {i:Nat} (h1:i<l.length) (h2:i<m.length) (he:l.drop (i+1)=m.drop (i+1)) (h:l.getD i 0<m.getD i 0):bv b l<bv b m:=by
 rw [G0 l (i+1) (by omega),G0 m (i+1) (by omega),he,iP,iP]
 have:=lC (zO hl i)
 have:=yR (b^i) (show l.getD i 0+1<=m.getD i 0 from h)
 grind
def aiv (hb:1<b) {l:List Nat} {k:Nat} (h:gm l) (hk:bv b l<b^k):l.length<=k:=by
 by_cases h0:l=[]
 ·grind
 ·have h1:=QS (b:=b) (by omega) h h0;have h2:b^(l.length-1)<b^k:=wc h1 hk
  have:=(Nat.pow_lt_pow_iff_right hb).1 h2
  omega
def W2 {V v1 v2 vr U u0 u1 u2 ur p t r:Nat} (hV:V=(v1*b+v2)*p+vr) (hU:U=((u0*b+u1)*b+u2)*p+ur) (hur:ur<p)
  (ht:t*v1+r=u0*b+u1) (h:r*b+u2<t*v2):U/V<=t-1:=by
 have h1:U<t*V:=by
  have e:t*((v1*b+v2)*p)=((t*v1)*b+t*v2)*p:=by
   grind
  have h2:((u0*b+u1)*b+u2)+1<=(t*v1)*b+t*v2:=by rw [<-ht,we];omega
  have h3:=yU p h2;rw [hV,hU,xx,e]
  grind
 have pz:0<V:=by
  grind
 have:=(Nat.div_lt_iff_lt_mul pz).2 h1
 omega
def XO {V v1 v2 vr U u0 u1 u2 ur p t r:Nat} (hb:0<b) (hV:V=(v1*b+v2)*p+vr) (JT:vr<p) (hU:U=((u0*b+u1)*b+u2)*p+ur) (eI:0<v1) (cT:v2<b) (jF:t<b)
  (ht:t*v1+r=u0*b+u1) (h:b<=r\/t*v2<=r*b+u2):t<=U/V+1:=by
 have h2:t*v2<=r*b+u2:=by
  rcases h with h | h
  ·have:=Nat.mul_le_mul (uo jF) (uo cT)
   have:=yU b h
   omega
  ·exact h
 have h3:t*(v1*b+v2)<=(u0*b+u1)*b+u2:=by
  rw [xx,<-xk,<-ht,we];omega
 have hp:0<p:=by omega
 have ayC:b<=v1*b:=Nat.le_mul_of_pos_left b eI;have pz:0<V:=by
  have:=yaZ (show 0<v1*b+v2 by omega) hp
  omega
 rcases xm t with h0 | h0
 ·grind
 ·obtain ⟨s,rfl⟩:∃s,t=s+1:=⟨t-1,by omega⟩;have h4:s*V<=U:=by
   have h5:V<=(v1*b+v2+1)*p:=by grind
   have h6:=yR s h5;have h7:s*(v1*b+v2+1)<=(s+1)*(v1*b+v2):=by
    grind
   have h8:=yU p (Nat.le_trans h7 h3)
   grind
  exact Nat.succ_le_succ ((tC pz).2 h4)
def O8 {V v1 v2 vr U u0 u1 u2 ur p:Nat} (hV:V=(v1*b+v2)*p+vr) (hU:U=((u0*b+u1)*b+u2)*p+ur) (hur:ur<p) (ze:u2<b) (eI:0<v1):U/V<=(u0*b+u1)/v1:=by
 by_cases pz:V=0
 ·grind
 ·refine (tC eI).2 ?_;have h1:=Nat.div_mul_le_self U V;generalize U/V=q at h1 ⊢;have h2:q*v1*(b*p)<=q*V:=by
   rw [hV,xk]
   grind
  have h3:U<(u0*b+u1+1)*(b*p):=by
   have:(u0*b+u1)*b+u2+1<=(u0*b+u1+1)*b:=by grind
   have:=yU p this
   grind
  have h4:q*v1*(b*p)<(u0*b+u1+1)*(b*p):=by omega
  have:=uT h4
  omega
def XP {V v1 v2 vr U u0 u1 u2 ur p:Nat} (hV:V=(v1*b+v2)*p+vr) (hU:U=((u0*b+u1)*b+u2)*p+ur) (JT:vr<p) (cT:v2<b) (h:U<b*V):u0<=v1:=by
 refine Nat.le_of_lt_succ ?_;have h1:V<(v1+1)*(b*p):=by
  have:v1*b+v2+1<=(v1+1)*b:=by grind
  have:=yU p this
  grind
 have h2:u0*(b*(b*p))<=U:=by
  grind
 have h3:=yR b (uo h1);have e:b*((v1+1)*(b*p))=(v1+1)*(b*(b*p)):=by grind
 rw [e] at h3;have h4:u0*(b*(b*p))<(v1+1)*(b*(b*p)):=wc h2 (Nat.lt_of_lt_of_le h h3);exact uT h4
end
end
section
section
variable {P:aI} {L:Lib} {f:cF} {F:Nat->cF}
def A2 (f:cF) (F:Nat->cF):Prop:=∀c s r,f c s=some r->∃n,F n c s=some r
def Mon (F:Nat->cF):Prop:=∀n m,n<=m->Le (F n) (F m)
def Ku (h:A2 f F) (n:Nat) (ak:List AV) (r:AV) (hr:bN P L f n ak=some r):∃k,bN P L (F k) n ak=some r:=by
 unfold bN at hr ⊢
 cases hL:L.pure n with
 | some sp=>exact ⟨0,by simpa only [hL] using hr⟩
 | none=>
  simp only [hL] at hr ⊢
  cases hP:P n with
  | none=>simp [hP] at hr
  | some G=>
   simp only [hP] at hr ⊢
   cases hf:f G.body ⟨fm 0 ak,[],0,0⟩ with
   | none=>simp [hf] at hr
   | some q=>
    obtain ⟨k,hk⟩:=h _ _ _ hf
    grind
def Pk (h:A2 f F) (hp:Hp) (ct:Nat) (n:Nat) (ak:List AV) (r:AV×Hp×Nat) (hr:iA P L f hp ct n ak=some r):∃k,iA P L (F k) hp ct n ak=some r:=by
 unfold iA at hr ⊢
 cases hL:L.heap n with
 | some sp=>exact ⟨0,by simpa only [hL] using hr⟩
 | none=>
  simp only [hL] at hr ⊢
  cases hP:P n with
  | none=>simp [hP] at hr
  | some G=>
   simp only [hP] at hr ⊢
   cases hf:f G.body ⟨fm 0 ak,hp,ct,ct⟩ with
   | none=>simp [hf] at hr
   | some q=>
    obtain ⟨k,hk⟩:=h _ _ _ hf
    grind
def Wt (h:A2 f F) (hm:Mon F) (hp:Hp) (ct:Nat) (l:Nat) (xs:List AV) (r:AV×Hp×Nat) (hr:mD f hp ct l xs=some r):∃k,mD (F k) hp ct l xs=some r:=by
 have key:∃k,∀g,Le (F k) g->mD g hp ct l xs=some r:=by
  unfold mD at hr
  cases hl:aw hp l with
  | none=>simp [hl] at hr
  | some o=>
   split at hr
   ·rename_i tm ps cK body pe nh
    cases hb:pP tm ps xs with
    | none=>simp [hb] at hr
    | some cu=>
     simp only [hb] at hr
     cases h1:f cK ⟨cu,hp,ct,ct⟩ with
     | none=>simp [h1] at hr
     | some q=>
      obtain ⟨k1,mv⟩:=h _ _ _ h1
      split at hr
      ·rename_i s1 R3
       split at hr
       ·rename_i jm CD CE B3 sR adk
        cases h2:f body ⟨s1.tm,bh s1.hp l (.lp jm CD CE B3 1 sR),s1.ct,s1.ct⟩ with
        | none=>simp [h2] at hr
        | some q2=>
         obtain ⟨k2,sY⟩:=h _ _ _ h2;refine ⟨max k1 k2,fun g hg=>?_⟩;have e1:=hg _ _ _ (hm k1 _ (vH k1 k2) _ _ _ mv);have e2:=hg _ _ _ (hm k2 _ (vz k1 k2) _ _ _ sY);unfold mD
         grind
       ·simp at hr
      ·simp at hr
   ·simp at hr
 obtain ⟨k,hk⟩:=key;exact ⟨k,hk _ (fun _ _ _ h=>h)⟩
def W3 (h:A2 f F) (hm:Mon F) (hp:Hp) (ct:Nat) (m:Md) (fv:AV) (xs:List AV) (r:AV×Hp×Nat) (hr:eG P L f hp ct m fv xs=some r):∃k,eG P L (F k) hp ct m fv xs=some r:=by
 unfold eG at hr ⊢
 split at hr
 ·rename_i n first cap
  cases m with
  | pure=>
   cases hz:cB deep hp (first++(xs++cap)) with
   | none=>simp [hz] at hr
   | some q=>
    simp only [hz] at hr ⊢
    cases hc:bN P L f n q.1 with
    | none=>simp [hc] at hr
    | some u=>
     obtain ⟨k,hk⟩:=Ku h n q.1 u hc
     grind
  | own=>
   cases hz:cB deep hp (first++(xs++cap)) with
   | none=>simp [hz] at hr
   | some q=>
    simp only [hz] at hr ⊢
    cases hc:bN P L f n q.1 with
    | none=>simp [hc] at hr
    | some u=>
     obtain ⟨k,hk⟩:=Ku h n q.1 u hc
     grind
  | heap=>exact Pk h _ _ _ _ _ hr
  | dyn=>
   cases hz:aK (first++(xs++cap)) with
   | true=>
    simp only [hz,yy] at hr ⊢
    cases hc:bN P L f n (first++(xs++cap)) with
    | none=>simp [hc] at hr
    | some u=>
     obtain ⟨k,hk⟩:=Ku h n _ u hc
     grind
   | false=>
    simp only [hz,yM] at hr ⊢;exact Pk h _ _ _ _ _ hr
 ·split at hr
  ·exact Wt h hm _ _ _ _ _ hr
  ·exact Wt h hm _ _ _ _ _ hr
  ·simp at hr
 ·simp at hr
def ako (h:A2 f F) (hm:Mon F) (tm:Env) (hp:Hp) (ct:Nat) (o:Op) (r:AV×Hp×Nat) (hr:bn P L f tm hp ct o=some r):∃k,bn P L (F k) tm hp ct o=some r:=by
 unfold bn at hr ⊢
 split at hr
 ·exact W3 h hm _ _ _ _ _ _ hr
 ·rename_i rs fv xs
  cases hc:eG P L f hp ct .dyn (az tm fv) (di tm xs) with
  | none=>simp [hc] at hr
  | some q=>
   obtain ⟨k,hk⟩:=W3 h hm _ _ _ _ _ _ hc
   grind
 all_goals exact ⟨0,by simpa only using hr⟩
def PG (h:A2 f F) (hm:Mon F):∀(ops:List bg) (s s':St),dw P L f ops s=some s'->∃k,dw P L (F k) ops s=some s'
 | [],s,s',hr=>⟨0,by simpa only [dw] using hr⟩
 | ⟨d,gd,o⟩::r,s,s',hr=>by
  simp only [dw] at hr ⊢
  split at hr
  ·rename_i hw
   cases ho:bn P L f s.tm s.hp s.ct o with
   | none=>simp [ho] at hr
   | some q=>
    obtain ⟨k1,mv⟩:=ako h hm _ _ _ _ _ ho;simp only [ho] at hr;obtain ⟨k2,sY⟩:=PG h hm r _ _ hr;refine ⟨max k1 k2,?_⟩;rw [XF (hm k1 _ (vH k1 k2)) _ _ _ _ _ mv];exact KG (hm k2 _ (vz k1 k2)) r _ _ sY
  ·rename_i hw;exact PG h hm r _ _ hr
  ·simp at hr
def Bq (h:A2 f F) (hm:Mon F):∀(c:VC) (s:St) (r:Ex×St),bD P L f c s=some r->∃k,bD P L (F k) c s=some r
 | .skip,s,r,hr=>⟨0,by simpa only [bD] using hr⟩
 | .aP ops,s,r,hr=>by
  simp only [bD] at hr ⊢
  cases ho:dw P L f ops s with
  | none=>simp [ho] at hr
  | some s'=>
   obtain ⟨k,hk⟩:=PG h hm _ _ _ ho
   grind
 | .seq a b,s,r,hr=>by
  simp only [bD] at hr ⊢
  cases ha:bD P L f a s with
  | none=>simp [ha] at hr
  | some q=>
   obtain ⟨k1,mv⟩:=Bq h hm a s q ha;obtain ⟨ex,s1⟩:=q
   cases ex with
   | normal=>
    simp only [ha] at hr;obtain ⟨k2,sY⟩:=Bq h hm b s1 r hr;refine ⟨max k1 k2,?_⟩;rw [oI (hm k1 _ (vH k1 k2)) a s _ mv];exact oI (hm k2 _ (vz k1 k2)) b s1 r sY
   | ret=>exact ⟨k1,by rw [mv];simpa only [ha] using hr⟩
   | exit id=>exact ⟨k1,by rw [mv];simpa only [ha] using hr⟩
 | .cond x a b,s,r,hr=>by
  simp only [bD] at hr ⊢
  split at hr
  ·rename_i t ht
   cases t with
   | true=>simp only [yy] at hr ⊢;exact Bq h hm a s r hr
   | false=>simp only [yM] at hr ⊢;exact Bq h hm b s r hr
  ·simp at hr
 | .aJ id a,s,r,hr=>by
  simp only [bD] at hr ⊢
  cases ha:bD P L f a s with
  | none=>simp [ha] at hr
  | some q=>
   obtain ⟨k,hk⟩:=Bq h hm a s q ha
   grind
 | .kp live,s,r,hr=>⟨0,by simpa only [bD] using hr⟩
 | .fz ts,s,r,hr=>⟨0,by simpa only [bD] using hr⟩
 | .loop live a,s,r,hr=>by
  simp only [bD] at hr ⊢
  cases ha:bD P L f a (bf live s) with
  | none=>simp [ha] at hr
  | some q=>
   obtain ⟨k1,mv⟩:=Bq h hm a _ q ha;obtain ⟨ex,s1⟩:=q
   cases ex with
   | normal=>
    simp only [ha] at hr;obtain ⟨k2,sY⟩:=h _ _ _ hr;refine ⟨max k1 k2,?_⟩;rw [oI (hm k1 _ (vH k1 k2)) a _ _ mv];exact hm k2 _ (vz k1 k2) _ _ _ sY
   | ret=>exact ⟨k1,by rw [mv];simpa only [ha] using hr⟩
   | exit id=>exact ⟨k1,by rw [mv];simpa only [ha] using hr⟩
 | .rf fv ps cK body,s,r,hr=>by
  simp only [bD] at hr ⊢
  split at hr
  ·rename_i n first cap hx
   split at hr
   ·grind
   ·rename_i hL
    cases hc:iA P L f ((s.ct,.lp s.tm ps cK body 0 .none)::s.hp) (s.ct+1) n (first++(.fn (.y s.ct) [] []::cap)) with
    | none=>simp [hc] at hr
    | some q=>
     obtain ⟨k,hk⟩:=Pk h _ _ _ _ _ hc
     grind
  ·simp at hr
 | .exit id,s,r,hr=>⟨0,by simpa only [bD] using hr⟩
 | .ret,s,r,hr=>⟨0,by simpa only [bD] using hr⟩
end
section
variable (P:aI) (L:Lib)
noncomputable def D:cF:=fun c s=>@dite _ (∃r n,ev P L n c s=some r) (Classical.propDecidable _) (fun h=>some h.choose) (fun _=>none)
variable {P L}
def adq {c:VC} {s:St} {r:Ex×St} {n:Nat} (h:ev P L n c s=some r):D P L c s=some r:=by
 have hx:∃r n,ev P L n c s=some r:=⟨r,n,h⟩;unfold D;obtain ⟨m,hm⟩:=hx.choose_spec;have e1:=Qk P L (vH n m) _ _ _ h;have e2:=Qk P L (vz n m) _ _ _ hm
 grind
def Sw {c:VC} {s:St} {r:Ex×St} (h:D P L c s=some r):∃n,ev P L n c s=some r:=by
 unfold D at h;by_cases hx:∃r n,ev P L n c s=some r
 ·grind
 ·grind
def asQ (n:Nat):Le (ev P L n) (D P L):=fun _ _ _ h=>adq h
def acF:A2 (D P L) (ev P L):=fun _ _ _ h=>Sw h
def aoI:Mon (ev P L):=fun _ _ h=>Qk P L h
def kK (c:VC) (s:St):D P L c s=bD P L (D P L) c s:=by
 cases h:D P L c s with
 | some r=>
  obtain ⟨n,hn⟩:=Sw h
  cases n with
  | zero=>rw [Ha] at hn;cases hn
  | succ n=>rw [Hb] at hn;exact (oI (asQ n) c s r hn).symm
 | none=>
  cases hs:bD P L (D P L) c s with
  | none=>rfl
  | some r=>
   obtain ⟨n,hn⟩:=Bq acF aoI c s r hs;rw [<-Hb] at hn;rw [adq hn] at h;cases h
def aa7 {f:Nat} {ak:List AV} {r:AV} (h:bN P L (D P L) f ak=some r):∃n,TH P L n f ak=some r:=Ku acF f ak r h
end
end
section
open Go (IntKind BinOp UnOp)
section
variable {P:aI} {L:Lib}
structure Has (P:aI) (L:Lib) (n:Nat) (F:aB):Prop where
 pure:L.pure n=none
 heap:L.heap n=none
 code:P n=some F
noncomputable def nU (P:aI) (L:Lib) (r:Option (Ex×St)) (b:VC):Option (Ex×St):=match r with | some (.normal,s)=>D P L b s | r=>r
def r9 (id:Nat) (r:Option (Ex×St)):Option (Ex×St):=match r with | some (.exit j,s)=>bif yt j id then some (.normal,s) else some (.exit j,s) | r=>r
noncomputable def H6 (P:aI) (L:Lib) (live:List Nat) (a:VC) (r:Option (Ex×St)):Option (Ex×St):=match r with | some (.normal,s)=>D P L (.loop live a) s | r=>r
def norm (r:Option St):Option (Ex×St):=match r with | some s=>some (.normal,s) | none=>none
noncomputable def Mh (P:aI) (L:Lib) (v:AV) (a b:VC) (s:St):Option (Ex×St):=match v with | .bool t=>bif t then D P L a s else D P L b s | _=>none
def aoJ (s:St):D P L .skip s=some (.normal,s):=by rw [kK];rfl
def aoK (id:Nat) (s:St):D P L (.exit id) s=some (.exit id,s):=by rw [kK];rfl
def arm (s:St):D P L .ret s=some (.ret,s):=by rw [kK];rfl
def adr (live:List Nat) (s:St):D P L (.kp live) s=some (.normal,bf live s):=by rw [kK];rfl
def asR (ts:List Nat) (s:St):D P L (.fz ts) s=norm (nR ts s):=by rw [kK];rfl
def arn (ops:List bg) (s:St):D P L (.aP ops) s=norm (dw P L (D P L) ops s):=by rw [kK];rfl
def lD (a b:VC) (s:St):D P L (.seq a b) s=nU P L (D P L a s) b:=by
 rw [kK,kK a];simp only [bD,nU]
 cases bD P L (D P L) a s with
 | none=>rfl
 | some q=>
  obtain ⟨e,s1⟩:=q
  cases e with
  | normal=>exact (kK b s1).symm
  | ret=>rfl
  | exit id=>rfl
def aoL (x:X) (a b:VC) (s:St):D P L (.cond x a b) s=Mh P L (az s.tm x) a b s:=by
 rw [kK];simp only [bD,Mh]
 cases az s.tm x with
 | bool t=>
  cases t with
  | true=>exact (kK a s).symm
  | false=>exact (kK b s).symm
 | _=>rfl
def aro (id:Nat) (a:VC) (s:St):D P L (.aJ id a) s=r9 id (D P L a s):=by
 rw [kK,kK a];simp only [bD,r9]
 cases bD P L (D P L) a s with
 | none=>rfl
 | some q=>obtain ⟨e,s1⟩:=q;cases e<;>rfl
def D4 (live:List Nat) (a:VC) (s:St):D P L (.loop live a) s=H6 P L live a (D P L a (bf live s)):=by
 rw [kK,kK a];simp only [bD,H6]
 cases bD P L (D P L) a (bf live s) with
 | none=>rfl
 | some q=>obtain ⟨e,s1⟩:=q;cases e<;>rfl
def gQ (s:St) (b:VC):nU P L (some (.normal,s)) b=D P L b s:=rfl
def amu (s:St) (b:VC):nU P L (some (.ret,s)) b=some (.ret,s):=rfl
def amv (id:Nat) (s:St) (b:VC):nU P L (some (.exit id,s)) b=some (.exit id,s):=rfl
def ZE (live:List Nat) (a:VC) (s:St):H6 P L live a (some (.normal,s))=D P L (.loop live a) s:=rfl
def amw (live:List Nat) (a:VC) (s:St):H6 P L live a (some (.ret,s))=some (.ret,s):=rfl
def amx (live:List Nat) (a:VC) (id:Nat) (s:St):H6 P L live a (some (.exit id,s))=some (.exit id,s):=rfl
def amy (id:Nat) (s:St):r9 id (some (.normal,s))=some (.normal,s):=rfl
def amz (id:Nat) (s:St):r9 id (some (.ret,s))=some (.ret,s):=rfl
def ZF (id:Nat) (s:St):r9 id (some (.exit id,s))=some (.normal,s):=by simp only [r9,vm,yy]
def amA {id j:Nat} (s:St) (h:j≠id):r9 id (some (.exit j,s))=some (.exit j,s):=by
 have:yt j id=false:=by
  cases hq:yt j id with
  | false=>rfl
  | true=>exact absurd (yk hq) h
 simp only [r9,this,yM]
def aoM (s:St):norm (some s)=some (.normal,s):=rfl
def aoN:norm none=none:=rfl
def amB (a b:VC) (s:St):Mh P L (.bool true) a b s=D P L a s:=rfl
def amC (a b:VC) (s:St):Mh P L (.bool false) a b s=D P L b s:=rfl
noncomputable def Ru (P:aI) (L:Lib) (d:Option Nat) (r:List bg) (tm:Env) (base:Nat) (q:gh):Option St:=
 match q with | some (v,hp,ct)=>dw P L (D P L) r ⟨put d v tm,hp,ct,base⟩ | none=>none
noncomputable def BW (P:aI) (L:Lib) (v:AV) (b:Bool) (d:Option Nat) (o:Op) (r:List bg) (s:St):Option St:=
 match v with
 | .bool c=>bif c==b then dw P L (D P L) (⟨d,none,o⟩::r) s else dw P L (D P L) r ⟨put d (.aq []) s.tm,s.hp,s.ct,s.base⟩
 | .aq []=>dw P L (D P L) r ⟨put d (.aq []) s.tm,s.hp,s.ct,s.base⟩
 | _=>none
def amD (s:St):dw P L (D P L) [] s=some s:=rfl
def akp (d:Option Nat) (o:Op) (r:List bg) (tm:Env) (hp:Hp) (ct base:Nat):
  dw P L (D P L) (⟨d,none,o⟩::r) ⟨tm,hp,ct,base⟩=Ru P L d r tm base (bn P L (D P L) tm hp ct o):=by
 simp only [dw,Ru]
 grind
def aiw (d:Option Nat) (t:Nat) (b:Bool) (o:Op) (r:List bg) (tm:Env) (hp:Hp) (ct base:Nat):
  dw P L (D P L) (⟨d,some (t,b),o⟩::r) ⟨tm,hp,ct,base⟩=BW P L (aj tm t) b d o r ⟨tm,hp,ct,base⟩:=by
 simp only [dw,BW]
 cases aj tm t with
 | bool c=>
  simp only
  cases hc:(c==b) with
  | true=>simp only [yy]
  | false=>simp only [yM]
 | aq vs=>cases vs<;>rfl
 | _=>rfl
def amE (d:Option Nat) (r:List bg) (tm:Env) (base:Nat) (v:AV) (hp:Hp) (ct:Nat):Ru P L d r tm base (some (v,hp,ct))=dw P L (D P L) r ⟨put d v tm,hp,ct,base⟩:=rfl
def arp (i:Nat) (v:AV) (tm:Env):put (some i) v tm=(i,v)::tm:=rfl
def arq (v:AV) (tm:Env):put none v tm=tm:=rfl
def akq (d:Option Nat) (o:Op) (r:List bg) (s:St):BW P L (.bool true) true d o r s=dw P L (D P L) (⟨d,none,o⟩::r) s:=rfl
def akr (d:Option Nat) (o:Op) (r:List bg) (s:St):BW P L (.bool false) false d o r s=dw P L (D P L) (⟨d,none,o⟩::r) s:=rfl
def aks (d:Option Nat) (o:Op) (r:List bg) (tm:Env) (hp:Hp) (ct base:Nat):BW P L (.bool true) false d o r ⟨tm,hp,ct,base⟩=dw P L (D P L) r ⟨put d (.aq []) tm,hp,ct,base⟩:=rfl
def akt (d:Option Nat) (o:Op) (r:List bg) (tm:Env) (hp:Hp) (ct base:Nat):BW P L (.bool false) true d o r ⟨tm,hp,ct,base⟩=dw P L (D P L) r ⟨put d (.aq []) tm,hp,ct,base⟩:=rfl
def amF (b:Bool) (d:Option Nat) (o:Op) (r:List bg) (tm:Env) (hp:Hp) (ct base:Nat):BW P L (.aq []) b d o r ⟨tm,hp,ct,base⟩=dw P L (D P L) r ⟨put d (.aq []) tm,hp,ct,base⟩:=rfl
def gR {j i:Nat} (h:j≠i):yt j i=false:=by
 cases hq:yt j i with
 | false=>rfl
 | true=>exact absurd (yk hq) h
def aoO (tm:Env) (i:Nat):az tm (.t i)=aj tm i:=rfl
def aoP (tm:Env) (v:AV):az tm (.c v)=v:=rfl
def aix (tm:Env):di tm []=[]:=rfl
def ahc (tm:Env) (x:X) (r:List X):di tm (x::r)=az tm x::di tm r:=rfl
def aku (i:Nat) (v:AV) (r:Env):aj ((i,v)::r) i=v:=by simp only [aj,vm,yy]
def aiy {j i:Nat} (v:AV) (r:Env) (h:j≠i):aj ((j,v)::r) i=aj r i:=by simp only [aj,gR h,yM]
def rH (i:Nat) (o:Obj) (r:Hp):aw ((i,o)::r) i=some o:=by simp only [aw,vm,yy]
def aiz {j i:Nat} (o:Obj) (r:Hp) (h:j≠i):aw ((j,o)::r) i=aw r i:=by simp only [aw,gR h,yM]
def akv (i:Nat) (o u:Obj) (r:Hp):bh ((i,o)::r) i u=(i,u)::r:=by simp only [bh,vm,yy]
def aiA {j i:Nat} (o u:Obj) (r:Hp) (h:j≠i):bh ((j,o)::r) i u=(j,o)::bh r i u:=by simp only [bh,gR h,yM]
def akw (i:Nat):ep [] i=[]:=rfl
def akx (i:Nat) (o:Obj) (r:Hp):ep ((i,o)::r) i=ep r i:=by simp only [ep,vm,yy]
def aiB {j i:Nat} (o:Obj) (r:Hp) (h:j≠i):ep ((j,o)::r) i=(j,o)::ep r i:=by simp only [ep,gR h,yM]
def rd (hp:Hp) (ct:Nat) (q:Option AV):gh:=match q with | some v=>some (v,hp,ct) | none=>none
def mk (hp:Hp) (ct:Nat) (q:Option (AV×Obj)):gh:=match q with | some (v,b)=>some (v,(ct,b)::hp,ct+1) | none=>none
def asS (hp:Hp) (ct:Nat) (v:AV):rd hp ct (some v)=some (v,hp,ct):=rfl
def asT (hp:Hp) (ct:Nat) (v:AV) (b:Obj):mk hp ct (some (v,b))=some (v,(ct,b)::hp,ct+1):=rfl
def Rv (c a b:AV):Option AV:=match c with | .bool t=>some (bif t then a else b) | _=>none
def JU (k:Nat->Option AV) (n:Option Nat):Option AV:=match n with | some i=>k i | none=>none
def acG (r:Option (List AV)):Option AV:=match r with | some cs=>some (.agg cs) | none=>none
def IT (ne:Bool) (r:Option Bool):Option AV:=match r with | some b=>some (.bool (ne !=b)) | none=>none
def asU:AV->Option AV
 | .ptr id o=>some (.ptr id o)
 | .aO cs=>some (.aO cs)
 | .fn f a b=>some (.fn f a b)
 | _=>none
def IU (i:Nat):AV->Option AV | .aq vs=>vs[i]? | _=>none
section
variable {f:cF} {tm:Env} {hp:Hp} {ct:Nat}
def aoQ (x:X):bn P L f tm hp ct (.bK x)=some (az tm x,hp,ct):=rfl
def amG (c a b:X):bn P L f tm hp ct (.pick c a b)=rd hp ct (Rv (az tm c) (az tm a) (az tm b)):=by
 rfl
def aky (z:List AV) (ps:List (Nat×Nat×X)):bn P L f tm hp ct (.dc z ps)=rd hp ct (acG (fill tm z ps)):=by
 rfl
def ars (sz:Nat) (ag:Bool) (x:X):bn P L f tm hp ct (.ld sz ag x)=rd hp ct (gG hp sz ag (az tm x)):=rfl
def amH (x:X):bn P L f tm hp ct (.Ic x)=rd hp ct (asU (az tm x)):=by
 rfl
def aoR (op:BinOp) (x y:X):bn P L f tm hp ct (.bin op x y)=rd hp ct (binOp op (az tm x) (az tm y)):=rfl
def art (ne:Bool) (k:NO) (x y:X):bn P L f tm hp ct (.eq ne k x y)=rd hp ct (IT ne (iU k (az tm x) (az tm y))):=by
 rfl
def aru (op:UnOp) (x:X):bn P L f tm hp ct (.un op x)=rd hp ct (unOp op (az tm x)):=rfl
def arv (k:Conv) (x:X):bn P L f tm hp ct (.cv k x)=rd hp ct (nX k (az tm x)):=rfl
def aoS (g:Fr) (a b:List X):bn P L f tm hp ct (.oc g a b)=some (.fn g (di tm a) (di tm b),hp,ct):=rfl
def aoT (k:Cut) (x:X) (lo hi:Option X):bn P L f tm hp ct (.dO k x lo hi)=rd hp ct (fe hp k (az tm x) tm lo hi):=rfl
def aoU (k:Nat) (x:X):bn P L f tm hp ct (.off k x)=rd hp ct (z6 k (az tm x)):=rfl
def aoV (o sz:Nat) (ag:Bool) (x:X):bn P L f tm hp ct (.Jm o sz ag x)=rd hp ct (L3 o sz ag (az tm x)):=rfl
def aoW (sz:Nat) (x i:X):bn P L f tm hp ct (.a8 sz x i)=rd hp ct (JU (fun j=>gU sz j (az tm x)) (dD (az tm i))):=by
 rfl
def aoX (n sz:Nat) (x i:X):bn P L f tm hp ct (.sP n sz x i)=rd hp ct (JU (fun j=>HQ n sz j (az tm x)) (dD (az tm i))):=by
 rfl
def aoY (x i:X):bn P L f tm hp ct (.j0 x i)=rd hp ct (JU (fun j=>mf j (az tm x)) (dD (az tm i))):=by
 rfl
def aoZ (n sz:Nat) (ag:Bool) (x i:X):bn P L f tm hp ct (.sQ n sz ag x i)=rd hp ct (JU (fun j=>HR n sz ag j (az tm x)) (dD (az tm i))):=by
 rfl
def ao0 (i:Nat) (x:X):bn P L f tm hp ct (.ext i x)=rd hp ct (IU i (az tm x)):=by
 rfl
def ao1 (k:Nat) (x:X):bn P L f tm hp ct (.len k x)=rd hp ct (gV hp k (az tm x)):=rfl
def ao2 (sz:Nat) (x:X):bn P L f tm hp ct (.box sz x)=mk hp ct (cQ tm hp ct (.box sz x)):=rfl
def amI (n sz:Nat) (z:List AV) (ps:List (Nat×Nat×X)):bn P L f tm hp ct (.bH n sz z ps)=mk hp ct (cQ tm hp ct (.bH n sz z ps)):=rfl
def ao3 (sz cG:Nat) (z:List AV) (l c:X):bn P L f tm hp ct (.fZ sz cG z l c)=mk hp ct (cQ tm hp ct (.fZ sz cG z l c)):=rfl
def ao4:bn P L f tm hp ct .sO=some (.map ct,(ct,.mp true [] [])::hp,ct+1):=rfl
def ao5 (x:X):bn P L f tm hp ct (.oe x)=mk hp ct (cQ tm hp ct (.oe x)):=rfl
def arw (sz:Nat) (x v:X):bn P L f tm hp ct (.st sz x v)=cW tm hp ct (.st sz x v):=rfl
def ao6 (sz cG:Nat) (s x:X):bn P L f tm hp ct (.dl sz cG s x)=cW tm hp ct (.dl sz cG s x):=rfl
def Mi (hp:Hp) (ct:Nat) (r:Option AV):gh:=match r with | some v=>some (shut v,hp,ct) | none=>none
def Nf (hp:Hp) (ct:Nat) (r:Option AV):gh:=match r with | some v=>some (own hp ct v) | none=>none
def Rw (P:aI) (L:Lib) (f:cF) (ct n:Nat) (q:Option (List AV×Hp)):gh:=match q with | some (ak,hp)=>Mi hp ct (bN P L f n ak) | none=>none
def RA (P:aI) (L:Lib) (f:cF) (ct n:Nat) (q:Option (List AV×Hp)):gh:=match q with | some (ak,hp)=>Nf hp ct (bN P L f n ak) | none=>none
def RB (P:aI) (L:Lib) (f:cF) (hp:Hp) (ct:Nat) (fv:AV) (xs:List AV):gh:=eG P L f hp ct .pure fv xs
def RC (P:aI) (L:Lib) (f:cF) (hp:Hp) (ct:Nat) (fv:AV) (xs:List AV):gh:=eG P L f hp ct .own fv xs
def akz (g:X) (xs:List X):bn P L f tm hp ct (.call .pure g xs)=RB P L f hp ct (az tm g) (di tm xs):=rfl
def akA (g:X) (xs:List X):bn P L f tm hp ct (.call .own g xs)=RC P L f hp ct (az tm g) (di tm xs):=rfl
def akB (g:X) (xs:List X):bn P L f tm hp ct (.call .heap g xs)=eG P L f hp ct .heap (az tm g) (di tm xs):=rfl
def amJ (n:Nat) (first cap xs:List AV):RB P L f hp ct (.fn (.f n) first cap) xs=Rw P L f ct n (cB deep hp (first++(xs++cap))):=by
 simp only [RB,eG,Rw,Mi]
 cases cB deep hp (first++(xs++cap)) with
 | none=>rfl
 | some q=>cases bN P L f n q.1<;>rfl
def amK (n:Nat) (first cap xs:List AV):RC P L f hp ct (.fn (.f n) first cap) xs=RA P L f ct n (cB deep hp (first++(xs++cap))):=by
 simp only [RC,eG,RA,Nf]
 cases cB deep hp (first++(xs++cap)) with
 | none=>rfl
 | some q=>cases bN P L f n q.1<;>rfl
def amL (n:Nat) (ak:List AV):Rw P L f ct n (some (ak,hp))=Mi hp ct (bN P L f n ak):=rfl
def amM (n:Nat) (ak:List AV):RA P L f ct n (some (ak,hp))=Nf hp ct (bN P L f n ak):=rfl
def amN (v:AV):Mi hp ct (some v)=some (shut v,hp,ct):=rfl
def ao7 (v:AV):Nf hp ct (some v)=some (own hp ct v):=rfl
def Ng (hp:Hp) (r:Option AV):Option AV:=match r with | some v=>result hp v | none=>none
def fX (rs:List RV) (q:Option (Ex×St)):Option AV:=
 match q with
 | some (.normal,s) | some (.ret,s)=>Ng s.hp (iv s rs)
 | _=>none
def au {n:Nat} {F:aB} (h:Has P L n F) (ak:List AV):bN P L f n ak=fX F.dY (f F.body ⟨fm 0 ak,[],0,0⟩):=by
 simp only [bN,h.pure,h.code]
 cases hq:f F.body ⟨fm 0 ak,[],0,0⟩ with
 | none=>rfl
 | some q=>
  obtain ⟨e,s⟩:=q
  cases e with
  | normal=>rfl
  | ret=>rfl
  | exit id=>rfl
def ao8 (rs:List RV) (s:St):fX rs (some (.normal,s))=Ng s.hp (iv s rs):=rfl
def ao9 (rs:List RV) (s:St):fX rs (some (.ret,s))=Ng s.hp (iv s rs):=rfl
def apa (v:AV):Ng hp (some v)=result hp v:=rfl
def Sx (r:RV) (s:St):iv s [r]=results1 s r:=by
 simp only [iv,kA];cases results1 s r<;>rfl
def ads (r:Option (List AV)):Option AV:=match r with | some vs=>some (.aq vs) | none=>none
def asV (r q:RV) (l:List RV) (s:St):iv s (r::q::l)=ads (kA s (r::q::l)):=by
 simp only [iv,kA];cases results1 s r<;>cases results1 s q<;>cases kA s l<;>rfl
def acH (r:Option AV) (l:Option (List AV)):Option (List AV):=match r,l with | some v,some vs=>some (v::vs) | _,_=>none
def akC (s:St):kA s []=some []:=rfl
def aiC (r:RV) (l:List RV) (s:St):kA s (r::l)=acH (results1 s r) (kA s l):=rfl
def amO (v:AV) (vs:List AV):acH (some v) (some vs)=some (v::vs):=rfl
def apb (vs:List AV):ads (some vs)=some (.aq vs):=rfl
def RD (i:Nat) (s:St):results1 s (.t i)=some (aj s.tm i):=rfl
def arx (a:AV):fm 0 [a]=[(0,a)]:=rfl
def ary (a b:AV):fm 0 [a,b]=[(0,a),(1,b)]:=rfl
def arz (a b c:AV):fm 0 [a,b,c]=[(0,a),(1,b),(2,c)]:=rfl
def arA (a b c d:AV):fm 0 [a,b,c,d]=[(0,a),(1,b),(2,c),(3,d)]:=rfl
def arB (a b c d e:AV):fm 0 [a,b,c,d,e]=[(0,a),(1,b),(2,c),(3,d),(4,e)]:=rfl
def ahd (k:yZ) (n:Int):result hp (.int k n)=some (.int k n):=rfl
def agK (b:Bool):result hp (.bool b)=some (.bool b):=rfl
def ahe (s:List Nat):result hp (.str s)=some (.str s):=rfl
def agL:result hp .ab=some .ab:=rfl
def ahf (e:Bool) (n:Nat) (cs:List AV):result hp (.aH e n cs)=some (.aH e n cs):=rfl
def shut_int (k:yZ) (n:Int):shut (.int k n)= .int k n:=rfl
def shut_bool (b:Bool):shut (.bool b)= .bool b:=rfl
def akD (s:List Nat):shut (.str s)= .str s:=rfl
def aiD:shut .ab= .ab:=rfl
def akE (e:Bool) (n:Nat) (cs:List AV):shut (.aH e n cs)= .aH e n cs:=rfl
def akF (e:Bool) (sz n:Nat) (cs:List AV):shut (.cp e sz n cs)= .aH e n cs:=rfl
def bm (cs:List AV):shut (.agg cs)= .agg cs:=rfl
def amP (g:Fr) (a b:List AV):shut (.fn g a b)= .fn g a b:=rfl
def Bu (vs:List AV):shut (.aq vs)= .aq (B1 vs):=rfl
def aiE:B1 []=[]:=rfl
def ahg (v:AV) (r:List AV):B1 (v::r)=bT v::B1 r:=rfl
def aiF (k:yZ) (n:Int):bT (.int k n)= .int k n:=rfl
def ahh (b:Bool):bT (.bool b)= .bool b:=rfl
def aiG (s:List Nat):bT (.str s)= .str s:=rfl
def ahi:bT .ab= .ab:=rfl
def aiH (e:Bool) (n:Nat) (cs:List AV):bT (.aH e n cs)= .aH e n cs:=rfl
def aiI (e:Bool) (sz n:Nat) (cs:List AV):bT (.cp e sz n cs)= .aH e n cs:=rfl
def pL (cs:List AV):bT (.agg cs)= .agg cs:=rfl
def Sy (n:Nat) (r:List AV) (q:Option (AV×Hp)):Option (List AV×Hp):=match q with | some (v,hp)=>(match cB n hp r with | some (vs,iV)=>some (v::vs,iV) | none=>none) | none=>none
def adt (v:AV) (q:Option (List AV×Hp)):Option (List AV×Hp):=match q with | some (vs,hp)=>some (v::vs,hp) | none=>none
def akG (n:Nat):cB (n+1) hp []=some ([],hp):=rfl
def aiJ (n:Nat) (v:AV) (r:List AV):cB (n+1) hp (v::r)=Sy n r (freeze n hp v):=by
 simp only [cB,Sy];cases freeze n hp v<;>rfl
def apc (n:Nat) (r:List AV) (v:AV):Sy n r (some (v,hp))=adt v (cB n hp r):=by
 rfl
def apd (v:AV) (vs:List AV):adt v (some (vs,hp))=some (v::vs,hp):=rfl
def amQ (n:Nat) (k:yZ) (a:Int):freeze (n+1) hp (.int k a)=some (.int k a,hp):=rfl
def akH (n:Nat) (b:Bool):freeze (n+1) hp (.bool b)=some (.bool b,hp):=rfl
def amR (n:Nat) (s:List Nat):freeze (n+1) hp (.str s)=some (.str s,hp):=rfl
def akI (n:Nat):freeze (n+1) hp .ab=some (.ab,hp):=rfl
def amS (n:Nat) (e:Bool) (k:Nat) (cs:List AV):freeze (n+1) hp (.aH e k cs)=some (.aH e k cs,hp):=rfl
def akJ (n:Nat) (cs:List AV):freeze (n+1) hp (.aO cs)=some (.aO cs,hp):=rfl
end
end
section
variable {hp:Hp}
def ape (a b:AV):Rv (.bool true) a b=some a:=rfl
def apf (a b:AV):Rv (.bool false) a b=some b:=rfl
def arD (k:Nat->Option AV) (n:Nat):JU k (some n)=k n:=rfl
def ahj (k:yZ) (n:Nat):dD (.int k (n:Int))=some n:=rfl
def apg (k:yZ):dD (.int k 0)=some 0:=rfl
def aph (k:yZ):dD (.int k 1)=some 1:=rfl
def api (k:yZ):dD (.int k 2)=some 2:=rfl
def apj (k:yZ):dD (.int k 3)=some 3:=rfl
def apk (k:yZ):dD (.int k 4)=some 4:=rfl
def apl (k:yZ):dD (.int k 5)=some 5:=rfl
def apm (k:yZ):dD (.int k 6)=some 6:=rfl
def apn (k:yZ):dD (.int k 7)=some 7:=rfl
def apo (k:yZ):dD (.int k 8)=some 8:=rfl
def apq (k:yZ):dD (.int k 9)=some 9:=rfl
def amT (cs:List AV):acG (some cs)=some (.agg cs):=rfl
def ZG (k:yZ) (a b:Int):binOp .add (.int k a) (.int k b)=some (.int k (k.wrap (a+b))):=by simp [binOp,kC]
def Ly (k:yZ) (a b:Int):binOp .sub (.int k a) (.int k b)=some (.int k (k.wrap (a-b))):=by simp [binOp,kC]
def ZH (k:yZ) (a b:Int):binOp .mul (.int k a) (.int k b)=some (.int k (k.wrap (a*b))):=by simp [binOp,kC]
def eV (k:yZ) (a b:Int) (h:b≠0):binOp .quo (.int k a) (.int k b)=some (.int k (k.wrap (a.tdiv b))):=by simp [binOp,kC,h]
def fo (k:yZ) (a b:Int) (h:b≠0):binOp .rem (.int k a) (.int k b)=some (.int k (a.tmod b)):=by simp [binOp,kC,h]
def amU (k:yZ) (a b:Int):binOp .eql (.int k a) (.int k b)=some (.bool (decide (a=b))):=by
 simp [binOp,kC,intCmp,BEq.beq]
def amV (k:yZ) (a b:Int):binOp .neq (.int k a) (.int k b)=some (.bool (!decide (a=b))):=by
 simp [binOp,kC,intCmp,bne,BEq.beq]
def amW (k:yZ) (a b:Int):binOp .lss (.int k a) (.int k b)=some (.bool (decide (a<b))):=by simp [binOp,kC,intCmp]
def amX (k:yZ) (a b:Int):binOp .leq (.int k a) (.int k b)=some (.bool (decide (a<=b))):=by simp [binOp,kC,intCmp]
def amY (k:yZ) (a b:Int):binOp .gtr (.int k a) (.int k b)=some (.bool (decide (b<a))):=by simp [binOp,kC,intCmp]
def amZ (k:yZ) (a b:Int):binOp .geq (.int k a) (.int k b)=some (.bool (decide (b<=a))):=by simp [binOp,kC,intCmp]
def apr (k:yZ) (a:Int):unOp .neg (.int k a)=some (.int k (k.wrap (0-a))):=rfl
def aps (b:Bool):unOp .not (.bool b)=some (.bool !b):=rfl
def akK:gV hp 1 .ab=some (.int .i64 0):=rfl
def am0 (e:Bool) (n:Nat) (cs:List AV):gV hp 1 (.aH e n cs)=some (.int .i64 n):=rfl
def am1 (id o n:Nat):gV hp 1 (.aE id o n)=some (.int .i64 n):=rfl
def am2 (s:List Nat):gV hp 0 (.str s)=some (.int .i64 s.length):=rfl
def Lz {sz i n:Nat} (e:Bool) (cs:List AV) (h:i<n):gU sz i (.aH e n cs)=some (.aO (cs.drop (i*sz))):=by
 have hb:yI i n=true:=yz h;simp only [gU]
 grind
def db {sz i n:Nat} (id o:Nat) (h:i<n):gU sz i (.aE id o n)=some (.ptr id (o+i*sz)):=by
 have hb:yI i n=true:=yz h;simp only [gU]
 grind
def La (v:AV) (cs:List AV):gG hp 1 false (.aO (v::cs))=some v:=rfl
def Ox (sz:Nat) (ag:Bool) (o:Nat) (q:Option Obj):Option AV:=match q with | some (.cells _ _ _ _ cs)=>eY sz ag (cs.drop o) | _=>none
def apt (sz:Nat) (ag:Bool) (id o:Nat):gG hp sz ag (.ptr id o)=Ox sz ag o (aw hp id):=by
 rfl
def arE (sz:Nat) (ag:Bool) (o:Nat) (rw pu ex:Bool) (z:Nat) (cs:List AV):Ox sz ag o (some (.cells rw pu ex z cs))=eY sz ag (cs.drop o):=rfl
def arF (sz:Nat) (v:AV) (cs:List AV):eY sz false (v::cs)=some v:=rfl
def asW (a:AV) (l:List AV):IU 0 (.aq (a::l))=some a:=rfl
def ext1 (a b:AV) (l:List AV):IU 1 (.aq (a::b::l))=some b:=rfl
def asX (a b c:AV) (l:List AV):IU 2 (.aq (a::b::c::l))=some c:=rfl
def asY (a b c d:AV) (l:List AV):IU 3 (.aq (a::b::c::d::l))=some d:=rfl
end
def sd:Env->Bool
 | []=>true
 | (_,v)::r=>aX v&&sd r
mutual
def aA:∀{v:AV},aX v=true->refs v=[]
 | .int _ _,_ | .bool _,_ | .dh _ _,_ | .str _,_ | .jU,_ | .aO _,_ | .ab,_ | .aH _ _ _,_ | .ib,_ | .jz,_ | .jj _ _,_ | .undef,_=>rfl
 | .ptr _ _,h | .aE _ _ _,h | .map _,h | .it _,h | .cp _ _ _ _,h=>by simp [aX] at h
 | .fn (.y _) _ _,h=>by simp [aX] at h
 | .fn (.f _) first cap,h=>by
  simp only [aX,yf] at h;simp only [refs,GI h.1,GI h.2,wC]
 | .agg cs,h=>by simp only [aX] at h;simp only [refs,GI h]
 | .aq cs,h=>by simp only [aX] at h;simp only [refs,GI h]
def GI:∀{vs:List AV},aK vs=true->iR vs=[]
 | [],_=>rfl
 | v::r,h=>by
  simp only [aK,yf] at h;simp only [iR,aA h.1,GI h.2,wC]
end
mutual
def aF (f:Nat->Option Nat):∀{v:AV},aX v=true->cd f v=v
 | .int _ _,_ | .bool _,_ | .dh _ _,_ | .str _,_ | .jU,_ | .aO _,_ | .ab,_ | .aH _ _ _,_ | .ib,_ | .jz,_ | .jj _ _,_ | .undef,_=>rfl
 | .ptr _ _,h | .aE _ _ _,h | .map _,h | .it _,h | .cp _ _ _ _,h=>by simp [aX] at h
 | .fn (.y _) _ _,h=>by simp [aX] at h
 | .fn (.f _) first cap,h=>by
  simp only [aX,yf] at h;simp only [cd,GQ f h.1,GQ f h.2]
 | .agg cs,h=>by simp only [aX] at h;simp only [cd,GQ f h]
 | .aq cs,h=>by simp only [aX] at h;simp only [cd,GQ f h]
def GQ (f:Nat->Option Nat):∀{vs:List AV},aK vs=true->fu f vs=vs
 | [],_=>rfl
 | v::r,h=>by
  simp only [aK,yf] at h;simp only [fu,aF f h.1,GQ f h.2]
end
def W4:∀{tm:Env},sd tm=true->iS tm=[]
 | [],_=>rfl
 | (i,v)::r,h=>by
  simp only [sd,yf] at h;simp only [iS,aA h.1,W4 h.2,wC]
def XQ (f:Nat->Option Nat):∀{tm:Env},sd tm=true->jV f tm=tm
 | [],_=>rfl
 | (i,v)::r,h=>by
  simp only [sd,yf] at h;simp only [jV,aF f h.1,XQ f h.2]
def Kv {live:List Nat} {tm:Env} {ct:Nat} (h:sd (dN tm live)=true):bf live ⟨tm,[],ct,0⟩=⟨dN tm live,[],0,0⟩:=by
 simp only [bf,W4 h,iN,wC];simp only [reach,jN,lA,XQ _ h,yA,yV]
def agM {tm:Env} {ct:Nat}:bf [] ⟨tm,[],ct,0⟩=⟨[],[],0,0⟩:=rfl
def G1 {P:aI} {L:Lib} {live:List Nat} {a:VC} (I:Nat->St->Prop) (Q:Ex->St->Prop)
  (step:∀k s,I k s->(∃s' k',D P L a (bf live s)=some (.normal,s')/\k'<k/\I k' s')\/(∃ex s',D P L a (bf live s)=some (ex,s')/\ex≠.normal/\Q ex s')):
  ∀k s,I k s->∃ex s',D P L (.loop live a) s=some (ex,s')/\Q ex s':=by
 intro k
 induction k using Nat.strongRecOn with
 | _ k ih=>
  intro s hI;rw [D4];rcases step k s hI with ⟨s',k',h1,h2,h3⟩ | ⟨ex,s',h1,h2,h3⟩
  ·rw [h1,ZE];exact ih k' h2 s' h3
  ·rw [h1]
   cases ex with
   | normal=>exact absurd rfl h2
   | ret=>exact ⟨.ret,s',rfl,h3⟩
   | exit id=>exact ⟨.exit id,s',rfl,h3⟩
def eh {P:aI} {L:Lib} {live:List Nat} {a:VC} (I:Nat->St->Prop) (Q:Ex->St->Prop)
  (step:∀k s,I k s->(∃s' k',D P L a s=some (.normal,s')/\k'<k/\I k' (bf live s'))\/(∃ex s',D P L a s=some (ex,s')/\ex≠.normal/\Q ex s')):
  ∀k s,I k (bf live s)->∃ex s',D P L (.loop live a) s=some (ex,s')/\Q ex s':=
 G1 (fun k s=>I k (bf live s)) Q (fun k s h=>step k _ h)
def eO {P:aI} {L:Lib} {live:List Nat} {a:VC} {I:Nat->St->Prop} {Q:Ex->St->Prop}
  (step:∀k s,I k s->(∃s' k',D P L a s=some (.normal,s')/\k'<k/\I k' (bf live s'))\/(∃ex s',D P L a s=some (ex,s')/\ex≠.normal/\Q ex s')):
  ∀k s s0,bf live s=s0->I k s0->∃ex s',D P L (.loop live a) s=some (ex,s')/\Q ex s':=fun k s s0 h hi=>eh I Q step k s (h▸hi)
def bI {P:aI} {L:Lib} {c:VC} {s:St} {q:Option (Ex×St)} {I:St->Prop} {Q:Ex->St->Prop} (hq:D P L c s=q) (key:∀s,I s->∃ex s',D P L c s=some (ex,s')/\Q ex s') (hI:I s):
  ∃ex s',q=some (ex,s')/\Q ex s':=by
 rw [<-hq];exact key s hI
def akL (tm:Env):dN tm []=[]:=rfl
def aiK (tm:Env) (i:Nat) (r:List Nat):dN tm (i::r)=(i,aj tm i)::dN tm r:=rfl
def aiL:sd []=true:=rfl
def ahk (i:Nat) (v:AV) (r:Env):sd ((i,v)::r)=(aX v&&sd r):=rfl
def D5 (k:yZ) (n:Int):aX (.int k n)=true:=(rfl)
def am3 (b:Bool):aX (.bool b)=true:=(rfl)
def apu (s:List Nat):aX (.str s)=true:=(rfl)
def am4:aX .ab=true:=(rfl)
def apv (e:Bool) (n:Nat) (cs:List AV):aX (.aH e n cs)=true:=(rfl)
def am5 (cs:List AV):aX (.aO cs)=true:=(rfl)
def akM:aX .undef=true:=(rfl)
attribute [go_sem] deep agM akL aiK aiL ahk D5 am3 apu am4 apv am5 akM Bool.and_true wh
attribute [go_sem] aoJ aoK arm adr asR arn lD aoL aro gQ amu amv ZE amw amx amy amz ZF amA aoM aoN amB amC
 amD akp aiw amE arp arq akq akr aks akt amF aoO aoP aix ahc aku aiy rH aiz akv aiA akw akx aiB
 asS asT aoQ amG aky ars amH aoR art aru arv aoS aoT aoU aoV aoW aoX aoY aoZ ao0 ao1 ao2 amI ao3 ao4 ao5 arw ao6 akz akA akB
 amJ amK amL amM amN ao7 ao8 ao9 apa Sx asV akC aiC amO apb RD arx ary arz arA arB
 ahd agK ahe agL ahf shut_int shut_bool akD aiD akE akF bm amP Bu aiE ahg aiF ahh aiG ahi aiH aiI pL
 akG aiJ apc apd amQ akH amR akI amS akJ
 ape apf arD ahj apg aph api apj apk apl apm apn apo apq amT ZG Ly ZH amU amV amW amX amY amZ apr aps akK am0 am1 am2 La apt arE arF asW ext1 asX asY
 List.nil_append wC xn yo yp Bool.not_true Bool.not_false yaJ uY
end
section
open Go (IntKind)
abbrev aa (n:Int):AV:= .int .i64 n
def cY (v:AV) (cs:List AV):Prop:=(v= .ab/\cs=[])\/∃e,v= .aH e cs.length cs
section
variable {v:AV} {cs:List AV} {hp:Hp}
def cY.len (h:cY v cs) {hp:Hp}:gV hp 1 v=some (.int .i64 (cs.length:Nat)):=by
 rcases h with ⟨rfl,rfl⟩ | ⟨e,rfl⟩<;>rfl
def cY.pu (h:cY v cs):aX v=true:=by
 rcases h with ⟨rfl,rfl⟩ | ⟨e,rfl⟩<;>rfl
def cY.af (h:cY v cs) (n:Nat) {hp:Hp}:freeze (n+1) hp v=some (v,hp):=by
 rcases h with ⟨rfl,rfl⟩ | ⟨e,rfl⟩<;>rfl
def cY.shut (h:cY v cs):shut v=v:=by
 rcases h with ⟨rfl,rfl⟩ | ⟨e,rfl⟩<;>rfl
def cY.bT (h:cY v cs):bT v=v:=by
 rcases h with ⟨rfl,rfl⟩ | ⟨e,rfl⟩<;>rfl
def cY.dY (h:cY v cs) {hp:Hp}:result hp v=some v:=by
 rcases h with ⟨rfl,rfl⟩ | ⟨e,rfl⟩<;>rfl
def cY.a8 (h:cY v cs) {i:Nat} (hi:i<cs.length):gU 1 i v=some (.aO (cs[i]::cs.drop (i+1))):=by
 rcases h with ⟨rfl,rfl⟩ | ⟨e,rfl⟩
 ·grind
 ·rw [Lz e _ hi,Nat.mul_one,yJ hi]
def cY.one (h:cY v cs):br v=true:=by
 rcases h with ⟨rfl,rfl⟩ | ⟨e,rfl⟩<;>rfl
def cY.cells (h:cY v cs):cellsOf v=[v]:=by
 rcases h with ⟨rfl,rfl⟩ | ⟨e,rfl⟩<;>rfl
def LA (e:Bool) (cs:List AV):cY (.aH e cs.length cs) cs:= .inr ⟨e,rfl⟩
def lh:cY .ab []:= .inl ⟨rfl,rfl⟩
end
def bk (v:AV) (l:List Int):Prop:=cY v (l.map aa)
section
variable {v:AV} {l:List Int}
def bk.len (h:bk v l) {hp:Hp}:gV hp 1 v=some (.int .i64 (l.length:Nat)):=by
 have:=cY.len (hp:=hp) h
 grind
def bk.pu (h:bk v l):aX v=true:=cY.pu h
def bk.af (h:bk v l) (n:Nat) {hp:Hp}:freeze (n+1) hp v=some (v,hp):=cY.af h n
def bk.shut (h:bk v l):VE.shut v=v:=cY.shut h
def bk.bT (h:bk v l):VE.bT v=v:=cY.bT h
def bk.dY (h:bk v l) {hp:Hp}:result hp v=some v:=cY.dY h
def bk.one (h:bk v l):br v=true:=cY.one h
def bk.cells (h:bk v l):cellsOf v=[v]:=cY.cells h
def bk.a8 (h:bk v l) {i:Nat} (hi:i<l.length):gU 1 i v=some (.aO (.int .i64 l[i]::(l.map aa).drop (i+1))):=by
 have:=cY.a8 h (i:=i) (by simpa using hi)
 grind
def fb (e:Bool) (l:List Int):bk (.aH e l.length (l.map aa)) l:=by
 have:=LA e (l.map aa)
 rwa [yY] at this
end
def mO {α β:Type} (p:α->β->Prop):List α->List β->Prop
 | [],[]=>True
 | a::r,b::s=>p a b/\mO p r s
 | _,_=>False
section
variable {α β:Type} {p:α->β->Prop}
def mO.len:∀{l:List α} {m:List β},mO p l m->l.length=m.length
 | [],[],_=>rfl
 | _::_,_::_,h=>by rw [yu,yu,h.2.len]
def mO.get:∀{l:List α} {m:List β} (_:mO p l m) {i:Nat} (h1:i<l.length) (h2:i<m.length),p l[i] m[i]
 | a::r,b::s,h,0,_,_=>h.1
 | a::r,b::s,h,i+1,h1,h2=>by
  exact h.2.get (by simpa using h1) (by simpa using h2)
end
def eS (v:AV) (s:List (List Int)):Prop:=∃rows,cY v rows/\mO bk rows s
section
variable {v:AV} {s:List (List Int)}
def eS.len (h:eS v s) {hp:Hp}:gV hp 1 v=some (.int .i64 (s.length:Nat)):=by
 obtain ⟨rows,h1,h2⟩:=h;rw [<-h2.len];exact h1.len
def eS.pu (h:eS v s):aX v=true:=by obtain ⟨rows,h1,h2⟩:=h;exact h1.pu
def eS.af (h:eS v s) (n:Nat) {hp:Hp}:freeze (n+1) hp v=some (v,hp):=by obtain ⟨rows,h1,h2⟩:=h;exact h1.af n
def eS.one (h:eS v s):br v=true:=by obtain ⟨rows,h1,h2⟩:=h;exact h1.one
def eS.a8 (h:eS v s) {i:Nat} (hi:i<s.length):∃r rest,bk r s[i]/\gU 1 i v=some (.aO (r::rest)):=by
 obtain ⟨rows,h1,h2⟩:=h;have bU:i<rows.length:=by rw [h2.len];exact hi
 exact ⟨_,_,h2.get bU hi,h1.a8 bU⟩
def akN:eS .ab []:=⟨[],lh,trivial⟩
end
def wrap64 {n:Int} (h1: -9223372036854775808<=n) (h2:n<9223372036854775808):IntKind.wrap .i64 n=n:=by
 simp only [IntKind.wrap,IntKind.bits,IntKind.signed,wh]
 grind
def wrapN {n:Nat} (h:n<9223372036854775808):IntKind.wrap .i64 (n:Int)=n:=wrap64 (by omega) (by omega)
end
section
open Go (IntKind)
section
variable {P:aI} {L:Lib}
abbrev ae (P:aI) (L:Lib) (f:Nat) (ak:List AV) (r:AV):Prop:=bN P L (D P L) f ak=some r
def UK (h:Has P L 30 qX) (n lo hi:Int):ae P L 30 [aa n,aa lo,aa hi] (aa (if n<lo\/hi<n then 3 else 0)):=by
 unfold ae;rw [au h];by_cases h1:n<lo
 ·simp only [go_sem,ya,qX,h1,true_or,xh]
 ·by_cases h2:hi<n
  ·simp only [go_sem,ya,qX,h1,h2,or_true,xh]
  ·simp only [go_sem,ya,qX,h1,h2,or_self,y8]
def A3 (h:Has P L 31 A0) (b:Bool) (n:Int):ae P L 31 [.bool b,aa n] (aa (if b=true then n else 0)):=by
 unfold ae;rw [au h]
 cases b with
 | true=>simp only [go_sem,ya,A0,xh]
 | false=>simp only [go_sem,ya,A0];rfl
def s34 (h:Has P L 34 CN) (kT:Has P L 31 A0) (n lo hi:Int):ae P L 34 [aa n,aa lo,aa hi] (aa (if n<lo\/hi<n then 3 else 0)):=by
 unfold ae;rw [au h];by_cases h1:n<lo
 ·simp only [go_sem,ya,CN,h1,true_or,xh,A3 kT]
 ·by_cases h2:hi<n
  ·simp only [go_sem,ya,CN,h1,h2,or_true,xh,A3 kT]
  ·simp only [go_sem,ya,CN,h1,h2,or_self,y8,A3 kT];rfl
def zf (h:Has P L 33 JG) {v:AV} {l:List Int} (hv:bk v l) (hl:l.length<=1000000):ae P L 33 [v] (aa (bj l)):=by
 unfold ae;rw [au h];simp only [go_sem,ya,JG,hv.len];have key:=G1 (P:=P) (L:=L) (live:=[5,6,7]) (a:=L9)
  (I:=fun k s=>∃tm ct i,s=⟨tm,[],ct,0⟩/\aj tm 5=v/\aj tm 6=aa l.length/\aj tm 7=aa (i:Nat)/\i+k=l.length/\bj (l.drop i)=bj l)
  (Q:=fun ex s=>∃tm,s=⟨tm,[],0,0⟩/\((ex= .ret/\aj tm 2=aa (bj l))\/(ex= .exit 0/\bj l=0))) ?_ l.length
 ·generalize hq:D P L (.loop [5,6,7] L9) _=q;obtain ⟨ex,s,rfl,tm,rfl,h2⟩:=bI hq key ⟨_,_,0,rfl,rfl,rfl,rfl,by omega,rfl⟩;rcases h2 with ⟨rfl,h2⟩ | ⟨rfl,h2⟩
  ·simp only [go_sem,h2]
  ·rw [h2];simp only [go_sem]
 ·rintro k s ⟨tm,ct,i,rfl,h5,h6,h7,hk,hf⟩;rw [Kv (by simp only [go_sem,h5,h6,h7,hv.pu])];simp only [go_sem,ya,h5,h6,h7,L9];by_cases hi:i<l.length
  ·have bU:(i:Int)<l.length:=by omega
   rw [O7 hi] at hf;by_cases hz:l[i]=0
   ·left
    simp only [go_sem,ya,bU,hv.a8 hi,hz];refine ⟨_,k-1,rfl,by omega,_,_,i+1,rfl,?_⟩;rw [wrap64 (by omega) (by omega)];rw [yL hz] at hf;simp only [go_sem,ya];exact ⟨trivial,trivial,rfl,by omega,hf⟩
   ·right
    simp only [go_sem,ya,bU,hv.a8 hi,hz];rw [yF hz] at hf;refine ⟨_,_,rfl,by simp,_,rfl,.inl ⟨rfl,?_⟩⟩;simp only [go_sem,hf]
  ·right
   have bU:¬(i:Int)<l.length:=by omega
   simp only [go_sem,bU];refine ⟨_,_,rfl,by simp,_,rfl,.inr ⟨rfl,?_⟩⟩;rw [<-hf,yP (by omega)];rfl
def UL {n:Nat} (h:Has P L n JH) {v:AV} {l:List Int} (hv:bk v l) (hl:l.length<=1000000):ae P L n [v] (aa (bj l)):=by
 unfold ae;rw [au h];simp only [go_sem,JH];have key:=G1 (P:=P) (L:=L) (live:=[0,3]) (a:=Ma)
  (I:=fun k s=>∃tm ct i,s=⟨tm,[],ct,0⟩/\aj tm 0=v/\aj tm 3=aa (i:Nat)/\i+k=l.length/\bj (l.drop i)=bj l)
  (Q:=fun ex s=>∃tm,s=⟨tm,[],0,0⟩/\((ex= .ret/\aj tm 2=aa (bj l))\/(ex= .exit 0/\bj l=0))) ?_ l.length
 ·generalize hq:D P L (.loop [0,3] Ma) _=q;obtain ⟨ex,s,rfl,tm,rfl,h2⟩:=bI hq key ⟨_,_,0,rfl,rfl,rfl,by omega,rfl⟩;rcases h2 with ⟨rfl,h2⟩ | ⟨rfl,h2⟩
  ·simp only [go_sem,h2]
  ·rw [h2];simp only [go_sem]
 ·rintro k s ⟨tm,ct,i,rfl,h0,h3,hk,hf⟩;rw [Kv (by simp only [go_sem,h0,h3,hv.pu])];simp only [go_sem,ya,h0,h3,Ma,hv.len];by_cases hi:i<l.length
  ·have bU:(i:Int)<l.length:=by omega
   rw [O7 hi] at hf;by_cases hz:l[i]=0
   ·left
    simp only [go_sem,ya,bU,hv.a8 hi,hz];refine ⟨_,k-1,rfl,by omega,_,_,i+1,rfl,?_⟩;rw [wrap64 (by omega) (by omega)];rw [yL hz] at hf;simp only [go_sem,ya];exact ⟨trivial,rfl,by omega,hf⟩
   ·right
    simp only [go_sem,ya,bU,hv.a8 hi,hz];rw [yF hz] at hf;refine ⟨_,_,rfl,by simp,_,rfl,.inl ⟨rfl,?_⟩⟩;simp only [go_sem,hf]
  ·right
   have bU:¬(i:Int)<l.length:=by omega
   simp only [go_sem,bU];refine ⟨_,_,rfl,by simp,_,rfl,.inr ⟨rfl,?_⟩⟩;rw [<-hf,yP (by omega)];rfl
def UM (h:Has P L 11 hJ) (zg:Has P L 42 JH) {v:AV} {l:List Int} (hv:bk v l) (hl:l.length<=1000000):ae P L 11 [v] (aa (bj l)):=by
 unfold ae;rw [au h];simp only [go_sem,ya,hJ,hv.af,UL zg hv hl]
def adu (h:Has P L 134 Es) {n m:Int} (hm:0<m) (fK:m<=1000000):ae P L 134 [aa n,aa m] (aa (n%m)):=by
 unfold ae;rw [au h];have h1:m≠0:=by omega
 have h2:n.tmod m<m:=Int.tmod_lt_of_pos n hm;have h3: -m<n.tmod m:=by
  have h:=Int.lt_tmod_of_pos n hm;omega
 simp only [go_sem,ya,Es,fo _ _ _ h1,wrap64 (n:=n.tmod m+m) (by omega) (by omega),amt hm]
end
end
end VE
