import Derived.ChangeSlices
import Derived.ChangeReads
import Derived.ChangeSame
import Derived.OpenShut
import Derived.Lib.AtoiErrMem
import Derived.Laws.Externs
import Derived.Attr
import Derived.Test.YtfdcefmdjiokdaaGreatDoorTad
import Derived.Test.YtfdcefmdjiokdaaGreatDoorTab
import Derived.Test.YtfdcefmdjiokdaaGreatDoorTaf
import Derived.Test.YtfdcefmdjiokdaaGreatDoorTag
import Derived.Test.YtfdcefmdjiokdaaGreatDoorTae
set_option linter.all false
set_option maxRecDepth 100000
open Array renaming getElem?_eq_some_iff→xv
open BitVec renaming ofInt→xI,ofInt_natCast→uT,ofNat→uS,toNat_ofNat→vK
open Bool renaming and_eq_true→yg,and_true→vn,false_eq_true→yD,false_or→uj,true_and→wP,true_or→tZ
open Go renaming Addr→uh,ChangeSpec→yct,DataW→xM,Field→uZ,IntKind→y8,MemPlace→wB,Program→y7,TypeId→yF,Value→yh,World→yi
open Int renaming ediv_emod_unique→tI,emod_emod→yco,emod_lt_of_pos→wT,gcd→wR,gcd_dvd_left→tM,gcd_dvd_right→tF,lt_tmod_of_pos→ybe,mul_ediv_cancel'→yaN,natAbs_ediv_of_dvd→uz,natCast_mul→wY,reduceEq→vv,tdiv_eq_ediv_of_dvd→yas,tdiv_eq_ediv_of_nonneg→xL,tmod_eq_emod_of_nonneg→xh,tmod_lt_of_pos→ybd,toNat_natCast→wh
open List renaming all_cons→yaU,any_cons→ybR,append_assoc→xr,append_nil→xW,cons_append→yY,drop→vH,drop_drop→vN,drop_eq_getElem_cons→yO,drop_eq_nil_of_le→y5,drop_zero→yp,eq_nil_of_length_eq_zero→yJ,filter_cons→ybs,filter_eq_nil_iff→tn,flatMap_cons→ybc,getD_cons_succ→yaM,getD_eq_getElem?_getD→xz,getElem?_cons_zero→vP,getElem?_eq_getElem→xV,length→tL,length_append→yR,length_cons→yv,length_map→xo,length_nil→yI,length_range→ybf,length_reverse→yaO,length_singleton→uR,length_take→yT,mapM_cons→um,mapM_nil→yaj,map_append→xu,map_cons→xj,map_take→ybL,mem_append→wx,mem_append_left→ta,mem_append_right→vQ,mem_flatMap→uD,mem_range→yaE,mem_singleton→vI,nil_append→xX,range→xF,range'→xJ,range'_succ→vA,range'_zero→ybp,range_eq_range'→yaB,range_succ→uI,replicate→yC,replicate_succ→wj,reverse_cons→yaa,set_cons_succ→yaT,set_eq_take_append_cons_drop→tA,take_append_drop→wa,take_length→xH,take_of_length_le→yN,take_succ_eq_append_getElem→wJ
open Nat renaming add_mul→we,add_sub_cancel→tz,add_zero→yW,beq→yt,beq_refl→xG,ble→yG,ble_eq_true_of_le→yy,blt→yK,div_add_mod→wb,div_eq_of_lt→xO,div_le_self→wV,div_lt_iff_lt_mul→wu,eq_of_beq_eq_true→yk,eq_zero_or_pos→xn,gcd→wz,gcd_comm→tv,gcd_rec→ycI,le_div_iff_mul_le→uY,le_max_left→uf,le_max_right→vT,le_of_ble_eq_true→yr,le_of_lt→uN,le_refl→yz,lt_of_le_of_lt→xR,lt_of_lt_of_le→yA,lt_of_mul_lt_mul_right→yad,min_eq_left→xD,mod_add_div→uB,mod_eq_of_lt→yL,mod_lt→xE,mul_add→xC,mul_assoc→xm,mul_comm→xA,mul_div_mul_right→yaF,mul_le_mul→wK,mul_le_mul_left→yU,mul_le_mul_right→yS,mul_lt_mul_of_pos_right→xZ,mul_mod_mul_right→tE,mul_one→yj,mul_pos→vS,mul_zero→xx,not_lt_zero→tx,one_mul→ybE,pow_add→xP,pow_le_pow_right→yV,pow_succ→y9,pow_zero→ycu,reduceAdd→yc,reduceEqDiff→ya,reduceLT→yE,reduceLeDiff→ym,reduceMul→xK,strongRecOn→vB,two_pow_pos→xt,zero_add→yf,zero_le→tu
open Option renaming bind_eq_bind→vG,bind_some→xY,getD_some→ui,map_some→wI,pure_def→wM
open Option.some renaming injEq→yd
open Prod.mk renaming injEq→yo
namespace VE
open Go (IntKind)
section
open Go
section
variable (P:y7)
def DT (self:yF->Bool):List uZ->Nat->Nat->Bool
 | [],o,n=>yt o n
 | f::r,o,n=>yt f.offset o&&(self f.type&&DT self r (o+P.cellsOf f.type) n)
def flat:Nat->yF->Bool
 | 0,_=>false
 | n+1,t=>
  match P.underlying t with
  | some .bool | some (.int _) | some (.float _) | some .string=>yt (P.cellsOf t) 1
  | some (.slice e)=>yt (P.cellsOf t) 1&&(yK 0 (P.cellsOf e)&&flat n e)
  | some (.struct fs)=>DT P (fun u=>flat n u) fs.toList 0 (P.cellsOf t)
  | some (.array k e)=>yt (P.cellsOf t) (k*P.cellsOf e)&&flat n e
  | _=>false
def cO {H:Type}:Nat->yF->xM H->List AV
 | 0,_,_=>[]
 | n+1,t,d=>
  match P.underlying t,d with
  | some .bool,.lit (.bool b)=>[.bool b]
  | some (.int k),.lit (.int _ m)=>[.int k m]
  | some (.float k),.lit (.float _ b)=>[.aB k b]
  | some .string,.lit (.string s)=>[.str (s.map UInt8.toNat)]
  | some (.slice _),.nil=>[.af]
  | some (.slice e),.slice jL spare=>[.aC spare.isEmpty jL.length (jL.flatMap fun x=>cO n e x)]
  | some (.struct fs),.agg parts=>(fs.toList.zip parts).flatMap fun x=>cO n x.1.type x.2
  | some (.array _ e),.agg parts=>parts.flatMap fun x=>cO n e x
  | _,_=>[]
end
section
variable {ae:Nat->Nat} {m:Mp} {S:Nat->Prop} {w:yi}
def Yj:∀{a b:List AV} {dD o:Nat},bL ae m S w a dD o->bL ae m S w b dD (o+a.length)->bL ae m S w (a++b) dD o
 | [],b,dD,o,_,h=>by simpa using h
 | x::a,b,dD,o,h1,h2=>by
  exact ⟨h1.1,Yj h1.2 (by rw [yv] at h2;rw [show o+1+a.length=o+(a.length+1) by omega];exact h2)⟩
def Lf:∀{a b:List AV},aF a=true->aF b=true->aF (a++b)=true
 | [],_,_,h=>h
 | x::a,b,h1,h2=>by
  simp only [aF,yY,yg] at h1 ⊢;exact ⟨h1.1,Lf h1.2 h2⟩
def Yk:∀{a:List AV} {us:List yh},av ae m S w a us->a.length=us.length
 | [],us,h=>by simp only [av] at h;subst h;rfl
 | x::a,us,h=>by
  obtain ⟨u,r,rfl,_,h2⟩:=h;simp [Yk h2]
end
section
variable {H:Type} {enc:yF×yh->H} {P:y7} {w:yi} {held:Bool} {ae:Nat->Nat} {m:Mp} {S:Nat->Prop}
def aae {a:uh} {i:Nat} {u:yh} (h:w.cell? (a.add i)=some u):w.cell? ⟨a.block,a.off+i,none⟩=some u/\(i=0->a.spot=none):=by
 by_cases hi:i=0
 ·subst hi;have e:a.add 0=a:=by simp [Addr.add]
  rw [e] at h;have hs:a.spot=none:=by
   cases hq:a.spot with
   | none=>rfl
   | some k=>
    unfold World.cell? at h
    split at h
    ·simp [hq] at h
    all_goals simp_all
  obtain ⟨b,o,sp⟩:=a;simp only at hs;subst hs;exact ⟨by simpa using h,fun _=>rfl⟩
 ·have e:a.add i=⟨a.block,a.off+i,none⟩:=by simp [Addr.add,hi]
  rw [e] at h;exact ⟨h,fun h=>(hi h).elim⟩
def ai7 (a:uh) (i:Nat):(a.add i).block=a.block:=by unfold Addr.add;split<;>rfl
def anB (a:uh) (i:Nat):(a.add i).off=a.off+i:=by unfold Addr.add;split<;>simp_all
def Ly {α β:Type} {f:α->Option β}:∀{l:List α} {r:List β},l.mapM f=some r->r.length=l.length
 | [],r,h=>by simp only [yaj,wM,yd] at h;subst h;rfl
 | x::l,r,h=>by
  rw [um] at h
  cases h1:f x with
  | none=>simp [h1] at h
  | some y=>
   cases h2:l.mapM f with
   | none=>simp [h1,h2] at h
   | some ys=>
    simp only [h1,h2,xY,vG,wM,yd] at h;subst h;simp [Ly h2]
def alf {c:AV} {l:List AV} {b o:Nat} (h:bL ae m S w (c::l) b o):b<w.heap.size:=by
 obtain ⟨⟨u,h1,_⟩,_⟩:=h;unfold World.cell? at h1
 cases hq:w.heap[b]? with
 | none=>simp [hq] at h1
 | some o=>exact (xv.1 hq).1
def Qh {e:yF} {bi sz:Nat} {f:xM H->List AV} {a:uh} (eH:0<sz)
  (IH:∀(cs:List yh) (d:xM H) (ps:List wB),DataW.trod enc P w 0 (fun _=>true) held bi e cs=some (d,ps)->av ae m S w (f d) cs/\aF (f d)=true/\cs.length=sz):
  ∀(k j:Nat) (xs:List (xM H×List wB)),(xJ j k).mapM (fun i=>(w.cells? 0 (a.add (i*sz)) sz).bind (DataW.trod enc P w 0 (fun _=>true) held bi e))=some xs->
   bL ae m S w ((xs.map (·.1)).flatMap f) a.block (a.off+j*sz)/\aF ((xs.map (·.1)).flatMap f)=true/\((xs.map (·.1)).flatMap f).length=k*sz/\xs.length=k/\(0<k->a.spot=none\/0<j)
 | 0,j,xs,h=>by
  simp only [ybp,yaj,wM,yd] at h;subst h;simp [bL,aF]
 | k+1,j,xs,h=>by
  rw [vA,um] at h
  cases h1:(w.cells? 0 (a.add (j*sz)) sz) with
  | none=>simp [h1] at h
  | some us=>
   cases h2:DataW.trod enc P w 0 (fun _=>true) held bi e us with
   | none=>simp [h1,h2] at h
   | some x=>
    cases h3:(xJ (j+1) k).mapM (fun i=>(w.cells? 0 (a.add (i*sz)) sz).bind (DataW.trod enc P w 0 (fun _=>true) held bi e)) with
    | none=>simp [h1,h2,h3] at h
    | some ys=>
     simp only [h1,h2,h3,xY,vG,wM,yd] at h;subst h;obtain ⟨d,ps⟩:=x;obtain ⟨g1,g2,g3⟩:=IH us d ps h2;obtain ⟨k1,k2,k3,k4,_⟩:=Qh eH IH k (j+1) ys h3;obtain ⟨_,c2,c3⟩:=World.cells?_some h1;have hl:(f d).length=sz:=by rw [Yk g1,g3]
     have hc:∀(i:Nat) (u:yh),us[i]? =some u->w.cell? ⟨a.block,a.off+j*sz+i,none⟩=some u:=by
      intro i u hi;have Fq:i<sz:=by grind
      have h:=c3 i Fq;rw [hi] at h
      have:=(aae h).1
      rwa [ai7,anB] at this
     refine ⟨?_,?_,?_,by simp [k4],?_⟩
     ·simp only [xj,ybc];refine Yj (D0 _ us _ g1 hc) ?_
      grind
     ·simp only [xj,ybc];exact Lf g2 k2
     ·grind
     ·intro _;rcases xn j with hj | hj
      ·left
       have h:=c3 0 eH;have hu:us[0]? =some us[0]:=by simp_all
       rw [hu] at h
       have:=(aae h).2 rfl
       subst hj;simpa [Addr.add] using this
      ·grind
def Xu {bi N:Nat} {n:Nat} {cs:List yh} (hN:cs.length=N)
  (IH:∀(t:yF) (cs:List yh) (d:xM H) (ps:List wB),flat P n t=true->DataW.trod enc P w 0 (fun _=>true) held bi t cs=some (d,ps)->av ae m S w (cO P n t d) cs/\aF (cO P n t d)=true/\cs.length=P.cellsOf t):
  ∀(r:List uZ) (o:Nat) (xs:List (xM H×List wB)),DT P (fun u=>flat P n u) r o N=true->r.mapM (fun f=>DataW.trod enc P w 0 (fun _=>true) held bi f.type ((cs.drop f.offset).take (P.cellsOf f.type)))=some xs->
   av ae m S w ((r.zip (xs.map (·.1))).flatMap fun x=>cO P n x.1.type x.2) (cs.drop o)/\aF ((r.zip (xs.map (·.1))).flatMap fun x=>cO P n x.1.type x.2)=true
 | [],o,xs,hf,h=>by
  have:=yk hf
  rw [y5 (by omega)];simp [av,aF]
 | f::r,o,xs,hf,h=>by
  simp only [DT,yg] at hf;obtain ⟨e1,e2,e3⟩:=hf;have e1:=yk e1;rw [um] at h
  cases h2:DataW.trod enc P w 0 (fun _=>true) held bi f.type ((cs.drop f.offset).take (P.cellsOf f.type)) with
  | none=>simp [h2] at h
  | some x=>
   cases h3:r.mapM (fun f=>DataW.trod enc P w 0 (fun _=>true) held bi f.type ((cs.drop f.offset).take (P.cellsOf f.type))) with
   | none=>simp [h2,h3] at h
   | some ys=>
    simp only [h2,h3,xY,vG,wM,yd] at h;subst h;obtain ⟨d,ps⟩:=x;obtain ⟨g1,g2,g3⟩:=IH f.type _ d ps e2 h2;obtain ⟨k1,k2⟩:=Xu hN IH r _ ys e3 h3;rw [e1] at g1;have e:cs.drop o=(cs.drop o).take (P.cellsOf f.type)++cs.drop (o+P.cellsOf f.type):=by rw [<-vN];exact (wa _ _).symm
    rw [e];exact ⟨lh g1 k1,Lf g2 k2⟩
def aaf {bi sz:Nat} {e:yF} {f:xM H->List AV} {cs:List yh}
  (IH:∀(cs:List yh) (d:xM H) (ps:List wB),DataW.trod enc P w 0 (fun _=>true) held bi e cs=some (d,ps)->av ae m S w (f d) cs/\aF (f d)=true/\cs.length=sz):
  ∀(k j:Nat) (xs:List (xM H×List wB)),(xJ j k).mapM (fun i=>DataW.trod enc P w 0 (fun _=>true) held bi e ((cs.drop (i*sz)).take sz))=some xs->cs.length=(j+k)*sz->
   av ae m S w ((xs.map (·.1)).flatMap f) (cs.drop (j*sz))/\aF ((xs.map (·.1)).flatMap f)=true
 | 0,j,xs,h,hl=>by
  simp only [ybp,yaj,wM,yd] at h;subst h;rw [y5 (by rw [hl];simp)]
  simp [av,aF]
 | k+1,j,xs,h,hl=>by
  rw [vA,um] at h
  cases h2:DataW.trod enc P w 0 (fun _=>true) held bi e ((cs.drop (j*sz)).take sz) with
  | none=>simp [h2] at h
  | some x=>
   cases h3:(xJ (j+1) k).mapM (fun i=>DataW.trod enc P w 0 (fun _=>true) held bi e ((cs.drop (i*sz)).take sz)) with
   | none=>simp [h2,h3] at h
   | some ys=>
    simp only [h2,h3,xY,vG,wM,yd] at h;subst h;obtain ⟨d,ps⟩:=x;obtain ⟨g1,g2,g3⟩:=IH _ d ps h2;obtain ⟨k1,k2⟩:=aaf IH k (j+1) ys h3 (by rw [hl];congr 1;omega)
    have e:cs.drop (j*sz)=(cs.drop (j*sz)).take sz++cs.drop ((j+1)*sz):=by rw [we,ybE,<-vN];exact (wa _ _).symm
    rw [e];exact ⟨lh g1 k1,Lf g2 k2⟩
def Zb (hS:∀b,b<w.heap.size->S b):∀(n bi:Nat) (t:yF) (cs:List yh) (d:xM H) (ps:List wB),flat P n t=true->DataW.trod enc P w 0 (fun _=>true) held bi t cs=some (d,ps)->
  av ae m S w (cO P n t d) cs/\aF (cO P n t d)=true/\cs.length=P.cellsOf t
 | 0,bi,t,cs,d,ps,hf,h=>by simp [flat] at hf
 | n+1,0,t,cs,d,ps,hf,h=>by simp [DataW.trod] at h
 | n+1,bi+1,t,cs,d,ps,hf,h=>by
  have IH:=Zb hS n bi;unfold DataW.trod at h;simp only [flat] at hf
  split at h
  ·rename_i hu;simp only [hu] at hf;simp only [yd,yo] at h;obtain ⟨rfl,rfl⟩:=h;simp only [cO,hu];exact ⟨by simp [av,ah],by simp [aF,aV],by rw [yk hf];rfl⟩
  ·rename_i hu;simp only [hu] at hf
   split at h
   ·rename_i hk;simp only [yd,yo] at h;obtain ⟨rfl,rfl⟩:=h;simp only [cO,hu];refine ⟨?_,by simp [aF,aV],by rw [yk hf];rfl⟩
    rw [hk.1];simp [av,ah]
   ·cases h
  ·rename_i hu;simp only [hu] at hf
   split at h
   ·rename_i hk;simp only [yd,yo] at h;obtain ⟨rfl,rfl⟩:=h;simp only [cO,hu];refine ⟨?_,by simp [aF,aV],by rw [yk hf];rfl⟩
    rw [hk.1];simp [av,ah]
   ·cases h
  ·rename_i hu;simp only [hu] at hf
   split at h
   ·simp only [yd,yo] at h;obtain ⟨rfl,rfl⟩:=h;simp only [cO,hu];refine ⟨?_,by simp [aF,aV],by rw [yk hf];rfl⟩
    simp only [av,ah];exact ⟨_,_,rfl,⟨_,rfl,rfl⟩,rfl⟩
   ·cases h
  ·rename_i hu;simp [hu] at hf
  ·rename_i hu;simp [hu] at hf
  ·rename_i hu;simp only [hu,yg] at hf;simp only [yd,yo] at h;obtain ⟨rfl,rfl⟩:=h;simp only [cO,hu];exact ⟨by simp [av,ah],by simp [aF,aV],by rw [yk hf.1];rfl⟩
  ·rename_i e a len cap hu;simp only [hu,yg] at hf;obtain ⟨f1,f2,f3⟩:=hf;have eH:=sR.1 f2;simp only at h
   split at h
   case isFalse=>cases h
   rename_i hc;simp only [xB] at h
   cases h1:(xF len).mapM fun i=>(w.cells? 0 (a.add (i*P.cellsOf e)) (P.cellsOf e)).bind (DataW.trod enc P w 0 (fun _=>true) held bi e) with
   | none=>rw [h1] at h;simp at h
   | some jL=>
    cases h2:(xF (cap-len)).mapM fun j=>(w.cells? 0 (a.add ((len+j)*P.cellsOf e)) (P.cellsOf e)).bind (DataW.trod enc P w 0 (fun _=>true) held bi e) with
    | none=>rw [h1] at h;simp [h2] at h
    | some rest=>
     rw [h1] at h;simp only [xY,h2,wI,yd,yo] at h;obtain ⟨rfl,rfl⟩:=h;have hIH:=fun cs d ps h=>IH e cs d ps f3 h
     rw [yaB] at h1 h2;obtain ⟨k1,k2,k3,k4,k5⟩:=Qh (ae:=ae) (m:=m) (S:=S) eH hIH len 0 jL h1;have hrl:rest.length=cap-len:=by rw [Ly h2];simp
     have jk:cap≠0->a.spot=none:=by
      intro Tk;rcases xn len with h0 | h0
      ·subst h0;simp only [yf,Nat.sub_zero] at h2;obtain ⟨_,_,_,_,q5⟩:=Qh (ae:=ae) (m:=m) (S:=S) eH hIH cap 0 rest h2;exact (q5 (by omega)).resolve_right (by omega)
      ·exact (k5 h0).resolve_right (by omega)
     simp only [cO,hu,xo];refine ⟨?_,by simp [aF,aV],by rw [yk f1];rfl⟩
     simp only [av];refine ⟨_,_,rfl,?_,rfl⟩;simp only [ah];by_cases Tk:cap=0
     ·subst Tk;have iO:len=0:=by omega
      subst iO;have he:jL=[]:=yJ k4;subst he;exact .inr ⟨a,rfl,rfl,rfl⟩
     ·obtain ⟨b,o,sp⟩:=a;have jk:=jk Tk;simp only at jk;subst jk;refine .inl ⟨b,o,cap,by rw [k4],by omega,fun hx=>?_,?_,k2,by simpa using k1⟩
      ·have:rest.length=0:=by simpa using hx
       omega
      ·generalize hg:((jL.map (·.1)).flatMap fun x=>cO P n e x)=l at k1
       cases l with
       | nil=>exact .inl rfl
       | cons c l=>exact .inr (hS b (alf k1))
  ·rename_i rY x1 Ko fs hu;simp only [hu] at hf
   split at h
   case isFalse=>cases h
   rename_i hlen
   cases h1:fs.toList.mapM fun f=>DataW.trod enc P w 0 (fun _=>true) held bi f.type ((rY.drop f.offset).take (P.cellsOf f.type)) with
   | none=>rw [h1] at h;simp at h
   | some xs=>
    rw [h1] at h;simp only [wI,yd,yo] at h;obtain ⟨rfl,rfl⟩:=h;obtain ⟨k1,k2⟩:=Xu hlen (fun t cs d ps hf h=>IH t cs d ps hf h) fs.toList 0 xs hf h1;simp only [cO,hu];exact ⟨by simpa using k1,k2,hlen⟩
  ·rename_i rY x1 Ko k e hu;simp only [hu,yg] at hf;obtain ⟨f1,f2⟩:=hf;have f1:=yk f1
   split at h
   case isFalse=>cases h
   rename_i hlen
   cases h1:(xF k).mapM fun i=>DataW.trod enc P w 0 (fun _=>true) held bi e ((rY.drop (i*P.cellsOf e)).take (P.cellsOf e)) with
   | none=>rw [h1] at h;simp at h
   | some xs=>
    rw [h1] at h;simp only [wI,yd,yo] at h;obtain ⟨rfl,rfl⟩:=h;rw [yaB] at h1;obtain ⟨k1,k2⟩:=aaf (ae:=ae) (m:=m) (S:=S) (fun cs d ps h=>IH e cs d ps f2 h) k 0 xs h1 (by rw [hlen,f1];simp)
    simp only [cO,hu];exact ⟨by simpa using k1,k2,hlen⟩
  all_goals first
   | (cases h;done)
   | (simp_all;done)
def lC (P:y7) (n:Nat) (t:yF) (d:xM H):AV:=
 match P.underlying t with
 | some (.struct _) | some (.array _ _)=> .agg (cO P n t d)
 | _=>(cO P n t d).headD .undef
def anC (hS:∀b,b<w.heap.size->S b) {n base:Nat} {t:yF} {v:yh} {d:xM H} {ps:List wB} (hf:flat P n t=true) (h:DataW.Trod enc P w 0 (fun _=>true) held t v d ps)
  (hv:Value.okWide P w .any base t v):ah ae m S w (lC P n t d) v/\aV (lC P n t d)=true:=by
 obtain ⟨bi,h⟩:=h;obtain ⟨h1,h2,h3⟩:=Zb (ae:=ae) (m:=m) hS n bi t _ d ps hf h;have one:v.cells=#[v]->(∀fs,P.underlying t≠some (.struct fs))->(∀k e,P.underlying t≠some (.array k e))->ah ae m S w (lC P n t d) v/\aV (lC P n t d)=true:=by
  intro hc Fk hna;have e:lC P n t d=(cO P n t d).headD .undef:=by
   unfold lC
   grind
  rw [e];rw [hc] at h1;generalize cO P n t d=l at h1 h2
  cases l with
  | nil=>simp [av] at h1
  | cons x l=>
   simp only [av] at h1;simp only [aF,yg] at h2
   grind
 cases n with
 | zero=>simp [flat] at hf
 | succ n=>
  unfold Value.okWide at hv;simp only [flat] at hf
  cases hu:P.underlying t with
  | none=>simp [hu] at hf
  | some ty=>
   rw [hu] at hv hf;cases ty<;>simp only [yD] at hf hv
   case struct fs=>
    obtain ⟨cs,rfl,_,_⟩:=hv;have e:lC P (n+1) t d= .agg (cO P (n+1) t d):=by simp only [lC,hu]
    rw [e];exact ⟨by simp only [ah];exact ⟨cs,rfl,h1⟩,by simpa only [aV] using h2⟩
   case array k e=>
    obtain ⟨cs,rfl,_,_⟩:=hv;have e:lC P (n+1) t d= .agg (cO P (n+1) t d):=by simp only [lC,hu]
    rw [e];exact ⟨by simp only [ah];exact ⟨cs,rfl,h1⟩,by simpa only [aV] using h2⟩
   all_goals
    refine one ?_ (by simp [hu]) (by simp [hu])
    cases v with
    | agg cs=>exfalso;simp only [Cell.okWide,Cell.ok,hu] at hv
    | _=>rfl
def za (P:y7) (n:Nat):List yF->List (xM H)->List AV
 | t::ts,d::ds=>lC P n t d::za P n ts ds
 | _,_=>[]
def Zc (hS:∀b,b<w.heap.size->S b) {n base:Nat}:∀{ts:List yF} {vs:List yh} {ds:List (xM H)} {ps:List wB},ts.all (flat P n)=true->DataW.TrodAll enc P w 0 (fun _=>true) held ts vs ds ps->
  (∀(j:Nat) t v,ts[j]? =some t->vs[j]? =some v->Value.okWide P w .any base t v)->av ae m S w (za P n ts ds) vs/\aF (za P n ts ds)=true
 | [],[],[],_,_,_,_=>by simp [za,av,aF]
 | t::ts,v::vs,d::ds,ps,hf,h,hv=>by
  simp only [yaU,yg] at hf;obtain ⟨p,q,h1,h2,_⟩:=h;obtain ⟨a1,a2⟩:=anC (ae:=ae) (m:=m) hS hf.1 h1 (hv 0 t v rfl rfl);obtain ⟨b1,b2⟩:=Zc hS hf.2 h2 (fun j t v h1 h2=>hv (j+1) t v h1 h2);simp only [za,av,aF,yg]
  grind
 | [],_::_,_,_,_,h,_=>by simp [DataW.TrodAll] at h
 | [],[],_::_,_,_,h,_=>by simp [DataW.TrodAll] at h
 | _::_,[],_,_,_,h,_=>by simp [DataW.TrodAll] at h
 | _::_,_::_,[],_,_,h,_=>by simp [DataW.TrodAll] at h
end
end
section
open Go
section
variable {H:Type} {enc:yF×yh->H} {P:y7} {w w':yi} {held:Bool} {sp:Nat->Bool}
def ahQ (hs:∀b,b<w.heap.size->w'.heap[b]? =w.heap[b]?) {a:uh} {u:yh} (h:w.cell? a=some u):w'.cell? a=some u:=by
 have hb:a.block<w.heap.size:=by
  unfold World.cell? at h
  cases hq:w.heap[a.block]? with
  | none=>simp [hq] at h
  | some o=>exact (xv.1 hq).1
 unfold World.cell? at h ⊢;rw [hs _ hb];exact h
def ahh (hs:∀b,b<w.heap.size->w'.heap[b]? =w.heap[b]?) {base:Nat} {a:uh} {n:Nat} {us:List yh} (h:w.cells? base a n=some us):w'.cells? base a n=some us:=by
 unfold World.cells? at h ⊢
 split at h
 ·rename_i hb;rw [yM hb];exact mapM_carry h (fun x y _ _ hx=>ahQ hs hx)
 ·cases h
def anD {a:uh} {n:Nat} (h:0<n):MemPlace.cell a.block (a.off+0)∈MemPlace.row a n:=by
 unfold MemPlace.row;exact List.mem_map.2 ⟨0,yaE.2 h,rfl⟩
def Xv (hs:∀b,b<w.heap.size->w'.heap[b]? =w.heap[b]?):∀(n bi:Nat) (t:yF) (cs:List yh) (d:xM H) (ps:List wB),flat P n t=true->DataW.trod enc P w 0 (fun _=>true) held bi t cs=some (d,ps)->
  (∀p,p∈ps->sp p.block=true)->DataW.trod enc P w' 0 sp held bi t cs=some (d,ps)
 | 0,bi,t,cs,d,ps,hf,h,hp=>by simp [flat] at hf
 | n+1,0,t,cs,d,ps,hf,h,hp=>by simp [DataW.trod] at h
 | n+1,bi+1,t,cs,d,ps,hf,h,hp=>by
  have IH:=Xv hs n bi;have elem:∀{e:yF} {a:uh} {y:xM H×List wB},flat P n e=true->(w.cells? 0 a (P.cellsOf e)).bind (DataW.trod enc P w 0 (fun _=>true) held bi e)=some y->(∀p,p∈y.2->sp p.block=true)->
    (w'.cells? 0 a (P.cellsOf e)).bind (DataW.trod enc P w' 0 sp held bi e)=some y:=by
   intro e a y he h hq
   cases h1:w.cells? 0 a (P.cellsOf e) with
   | none=>simp [h1] at h
   | some us=>
    rw [h1] at h;rw [ahh hs h1];simp only [xY] at h ⊢;obtain ⟨d,ps⟩:=y;exact IH e us d ps he h hq
  unfold DataW.trod at h ⊢;simp only [flat] at hf
  split at h
  ·exact h
  ·exact h
  ·exact h
  ·exact h
  ·rename_i hu;simp [hu] at hf
  ·rename_i hu;simp [hu] at hf
  ·exact h
  ·rename_i e a len cap hu;simp only [hu,yg] at hf;obtain ⟨f1,f2,f3⟩:=hf;have eH:=sR.1 f2;simp only at h ⊢
   split at h
   case isFalse=>cases h
   rename_i hc;rw [yM hc];simp only [xB] at h
   cases h1:(xF len).mapM fun i=>(w.cells? 0 (a.add (i*P.cellsOf e)) (P.cellsOf e)).bind (DataW.trod enc P w 0 (fun _=>true) held bi e) with
   | none=>rw [h1] at h;simp at h
   | some jL=>
    cases h2:(xF (cap-len)).mapM fun j=>(w.cells? 0 (a.add ((len+j)*P.cellsOf e)) (P.cellsOf e)).bind (DataW.trod enc P w 0 (fun _=>true) held bi e) with
    | none=>rw [h1] at h;simp [h2] at h
    | some rest=>
     rw [h1] at h;simp only [xY,h2,wI,yd,yo] at h;obtain ⟨rfl,rfl⟩:=h;have k1:((xF len).mapM fun i=>(w'.cells? 0 (a.add (i*P.cellsOf e)) (P.cellsOf e)).bind (DataW.trod enc P w' 0 sp held bi e))=some jL:=
      mapM_carry h1 (fun x y _ hy hx=>elem f3 hx (fun p hq=>hp p (vQ _ (uD.2 ⟨y,ta _ hy,hq⟩))))
     have k2:((xF (cap-len)).mapM fun j=>(w'.cells? 0 (a.add ((len+j)*P.cellsOf e)) (P.cellsOf e)).bind (DataW.trod enc P w' 0 sp held bi e))=some rest:=
      mapM_carry h2 (fun x y _ hy hx=>elem f3 hx (fun p hq=>hp p (vQ _ (uD.2 ⟨y,vQ _ hy,hq⟩))))
     have hr:(if sp a.block=true then (xF (cap-len)).mapM fun j=>(w'.cells? 0 (a.add ((len+j)*P.cellsOf e)) (P.cellsOf e)).bind (DataW.trod enc P w' 0 sp held bi e) else some [])=some rest:=by
      by_cases jk:sp a.block=true
      ·rw [yM jk];exact k2
      ·rw [yB jk];have h0:¬0<(jL.length+rest.length)*P.cellsOf e:=fun h0=>jk (hp _ (ta _ (anD h0)))
       have hz:jL.length+rest.length=0:=by
        rcases xn (jL.length+rest.length) with h | h
        ·exact h
        ·exact (h0 (vS h eH)).elim
       have:rest=[]:=yJ (by omega)
       rw [this]
     rw [k1];simp only [xY];rw [hr];rfl
  ·rename_i rY x1 Ko fs hu;simp only [hu] at hf
   split at h
   case isFalse=>cases h
   rename_i hlen;rw [yM hlen]
   cases h1:fs.toList.mapM fun f=>DataW.trod enc P w 0 (fun _=>true) held bi f.type ((rY.drop f.offset).take (P.cellsOf f.type)) with
   | none=>rw [h1] at h;simp at h
   | some xs=>
    rw [h1] at h;simp only [wI,yd,yo] at h;obtain ⟨rfl,rfl⟩:=h;have mF:∀(r:List uZ) (o:Nat),DT P (fun u=>flat P n u) r o (P.cellsOf t)=true->∀f,f∈r->flat P n f.type=true:=by
     intro r
     induction r with
     | nil=>intro o _ f hm;cases hm
     | cons g r ih=>
      intro o hq f hm;simp only [DT,yg] at hq;rcases List.mem_cons.1 hm with rfl | hm
      ·exact hq.2.1
      ·exact ih _ hq.2.2 f hm
    have k1:(fs.toList.mapM fun f=>DataW.trod enc P w' 0 sp held bi f.type ((rY.drop f.offset).take (P.cellsOf f.type)))=some xs:=
     mapM_carry h1 (fun f y hm hy hx=>IH _ _ y.1 y.2 (mF _ _ hf f hm) hx (fun p hq=>hp p (uD.2 ⟨y,hy,hq⟩)))
    rw [k1];rfl
  ·rename_i rY x1 Ko k e hu;simp only [hu,yg] at hf
   split at h
   case isFalse=>cases h
   rename_i hlen;rw [yM hlen]
   cases h1:(xF k).mapM fun i=>DataW.trod enc P w 0 (fun _=>true) held bi e ((rY.drop (i*P.cellsOf e)).take (P.cellsOf e)) with
   | none=>rw [h1] at h;simp at h
   | some xs=>
    rw [h1] at h;simp only [wI,yd,yo] at h;obtain ⟨rfl,rfl⟩:=h;have k1:((xF k).mapM fun i=>DataW.trod enc P w' 0 sp held bi e ((rY.drop (i*P.cellsOf e)).take (P.cellsOf e)))=some xs:=
     mapM_carry h1 (fun i y _ hy hx=>IH _ _ y.1 y.2 hf.2 hx (fun p hq=>hp p (uD.2 ⟨y,hy,hq⟩)))
    rw [k1];rfl
  all_goals first
   | (cases h;done)
   | (simp_all;done)
def WA (hs:∀b,b<w.heap.size->w'.heap[b]? =w.heap[b]?) {n:Nat}:∀{ts:List yF} {vs:List yh} {ds:List (xM H)} {ps:List wB},ts.all (flat P n)=true->DataW.TrodAll enc P w 0 (fun _=>true) held ts vs ds ps->
  (∀p,p∈ps->sp p.block=true)->DataW.TrodAll enc P w' 0 sp held ts vs ds ps
 | [],[],[],ps,_,h,_=>by simpa only [DataW.TrodAll] using h
 | t::ts,v::vs,d::ds,ps,hf,h,hp=>by
  simp only [yaU,yg] at hf;obtain ⟨p,q,⟨bi,h1⟩,h2,rfl⟩:=h;exact ⟨p,q,⟨bi,Xv hs n bi t _ d p hf.1 h1 (fun x hx=>hp x (ta _ hx))⟩,WA hs hf.2 h2 (fun x hx=>hp x (vQ _ hx)),rfl⟩
 | [],_::_,_,_,_,h,_=>by simp [DataW.TrodAll] at h
 | [],[],_::_,_,_,h,_=>by simp [DataW.TrodAll] at h
 | _::_,[],_,_,_,h,_=>by simp [DataW.TrodAll] at h
 | _::_,_::_,[],_,_,h,_=>by simp [DataW.TrodAll] at h
end
end
section
open Go Go.ChangeShapes Go.WideShapes
section
variable {H:Type} {enc:yF×yh->H} {P:y7} {W W':yi}
def ai8 (hc:Calm W W') (may:wB->Prop):W.keptBut W' may:=by
 refine ⟨hc.os,hc.output,fun i hi=>?_⟩;rw [hc.same i hi]
 cases hq:W.heap[i]? with
 | none=>rfl
 | some o=>cases o<;>simp
def ahi (hc:Calm W W') {b off:Nat} (hb:b<W.heap.size):W'.frozen? ⟨b,off,none⟩=W.frozen? ⟨b,off,none⟩:=by
 unfold World.frozen?;simp only;rw [hc.same b hb]
def alg {fn:Func} {s:yct} {apart fresh handsOn again:Bool} {args:Array yh} {ds gs:List (xM H)} {before:List wB} {n:Nat} {tb:yF}
  (hW:DataW.Whole enc P fn.params.toList s.vars apart W args.toList ds gs before) (hv:s.vars=[]) (MU:fn.params.toList.all (flat P n)=true) (hc:Calm W W')
  (kY:s.fn H (ds++gs)={results:=[.lit (.bool true)],args:=ds}) (mr:fn.resultTypes=#[tb]) (kG:P.underlying tb=some .bool):
  s.post enc P fn apart fresh handsOn again W args (.bool true) W':=by
 have aP:=hW.lt;have hW0:=hW;obtain ⟨p,q,hA,hV,hpq,hz,hn⟩:=hW;rw [hv] at hV;have hq:gs=[]/\q=[]:=by
  cases gs with
  | nil=>exact ⟨rfl,by simpa only [DataW.TrodVars] using hV⟩
  | cons g gs=>simp [DataW.TrodVars] at hV
 obtain ⟨rfl,rfl⟩:=hq;have hbp:before=p:=by rw [hpq];simp
 subst hbp;have fQ:∀sp:Nat->Bool,(∀p∈before,sp p.block=true)->DataW.TrodAll enc P W' 0 sp true fn.params.toList args.toList ds before:=fun sp h=>WA hc.same MU hA h
 have aca:∀(b:Nat) (sp:Nat->Bool) (hd:Bool),DataW.TrodAll enc P W' b sp hd fn.resultTypes.toList ((Value.bool true).resultList fn.resultTypes.size) [.lit (.bool true)] []:=by
  intro b sp hd;rw [mr];refine ⟨[],[],⟨1,?_⟩,rfl,rfl⟩;simp [DataW.trod,kG,Value.cells]
 have hold:∀p∈before,(fun b=>decide (b<W.heap.size)) p.block=true:=fun p hp=>by simpa using aP p hp
 have acb:∀sp:Nat->Bool,DataW.TrodVars enc P W' sp s.vars ([]:List (xM H)) []:=fun sp=>by rw [hv];rfl
 refine ⟨ds,[],before,[],before,[],hW0,by rw [kY];exact aca _ _ _,by rw [kY];exact fQ _ hold,by rw [kY];exact acb _,ai8 hc _,fun _=>?_⟩
 refine ⟨?_,[.lit (.bool true)]++ds,[],[]++before++[],⟨[]++before,[],trodAll_append (fQ _ (fun _ _=>rfl)) (aca _ _ _),acb _,rfl,?_,?_⟩,?_⟩
 ·intro j t r h1 h2;rw [mr] at h1 h2
  cases j with
  | zero=>
   simp only [List.getElem?_toArray,vP,yd] at h1;simp only [Value.resultList,List.size_toArray,yv,yI,xB,yf,vP,yd] at h2;subst h1;subst h2;simp [Value.okWide,kG,Cell.okWide,Cell.ok]
  | succ j=>simp at h1
 ·intro b off hp;have hp:MemPlace.cell b off∈before:=by simpa using hp
  rw [ahi hc (b:=b) (aP _ hp)];exact hz b off hp
 ·intro ha
  have:=hn ha
  simpa using this
 ·intro p hp _;simpa using hp
def ai9 {O:br} {n k:Nat} {fn:Func} {s:yct} {apart fresh handsOn again:Bool} {base:Nat} {args:Array yh} {ds gs:List (xM H)} {before:List wB} {tb:yF}
  (hp:ep O n (za O.P k fn.params.toList ds) (.bool true)) (Bx:O.w0=W) (kY:O.P.funcs[O.ae n]? =some fn) (hb:fn.body.isSome=true) (r7:fn.name≠ "runtime.NumGoroutine")
  (aI:∀(j:Nat) t v,fn.params[j]? =some t->args[j]? =some v->Value.okWide O.P W .any base t v)
  (hW:DataW.Whole enc O.P fn.params.toList s.vars apart W args.toList ds gs before) (hv:s.vars=[]) (MU:fn.params.toList.all (flat O.P k)=true)
  (hfs:s.fn H (ds++gs)={results:=[.lit (.bool true)],args:=ds}) (mr:fn.resultTypes=#[tb]) (kG:O.P.underlying tb=some .bool):
  Calls O.P (O.ae n) args W fun e W'=>∃v,e= .returned v/\s.post enc O.P fn apart fresh handsOn again W args v W':=by
 have hA:=hW;obtain ⟨p,q,hA,_⟩:=hA;obtain ⟨h1,h2⟩:=Zc (ae:=O.ae) (m:=eO) (S:=fun b=>b<W.heap.size) (fun b hb=>hb) MU hA (fun j t v a b=>aI j t v (by simpa using a) (by simpa using b));have hi:=hp W (fun b=>b<W.heap.size) args ⟨fun b _=>by rw [Bx],by rw [Bx];exact yz _⟩ (fun b hb=>hb) h1 h2
 have key:∀e W',YV O W (fun b=>b<W.heap.size) (.bool true) e W'->∃v,e= .returned v/\s.post enc O.P fn apart fresh handsOn again W args v W':=by
  rintro e W' ⟨u,S',rfl,hc,_,_,_,hr⟩;simp only [mU,ie,ah] at hr;obtain ⟨_,_,hu,_⟩:=hr;subst hu;exact ⟨_,rfl,alg hW hv MU hc hfs mr kG⟩
 rcases hi with ⟨_,hi⟩ | ⟨u,w',hi,_⟩
 ·exact callsIn_wide.1 (hi.mono key)
 ·rw [LR kY hb r7] at hi;cases hi
end
end
namespace J1
open Go Go.Proofs
noncomputable def O (W:yi):br:=⟨Tryz.prog,VE.aX,zn nd.ae,VE.prog,MO nd.bU nd.hd,W⟩
def Yl {w:yi} {k:Nat} {os:Array Go.Obj}:Calm w (Go.Sort.grow (w.drewN k) os):=Hc (Lib.below_grow w.heap.size w (yz _) k os)
def Zd {W w:yi} (h:Lib.TabIs Tryz.prog W "internal/strconv.uint64pow10" .u64 Lib.pow10Tab) (hg:AO (O W) w):Lib.TabIs Tryz.prog w "internal/strconv.uint64pow10" .u64 Lib.pow10Tab:=by
 unfold Lib.TabIs World.var? at h ⊢
 cases hn:Tryz.prog.globalNamed "internal/strconv.uint64pow10" with
 | none=>rw [hn] at h;exact h
 | some g=>
  rw [hn] at h;simp only [xY] at h ⊢;have hb:g<W.heap.size:=by
   cases hq:W.heap[g]? with
   | none=>rw [hq] at h;cases h
   | some o=>exact (xv.1 hq).1
  rw [hg.1 g hb];exact h
def auj:∀args w,(callFunc 174 args).run Tryz.prog w= .ok (.enter 174 args) w:=enters_of Tryz.func174 (by kernel_rfl) rfl
def auk:∀args w,(callFunc 173 args).run Tryz.prog w= .ok (.enter 173 args) w:=enters_of Tryz.func173 (by kernel_rfl) rfl
def aul:∀args w,(callFunc 247 args).run Tryz.prog w= .ok (.enter 247 args) w:=enters_of Tryz.func247 (by kernel_rfl) rfl
def aum:∀args w,(callFunc 249 args).run Tryz.prog w= .ok (.enter 249 args) w:=enters_of Tryz.func249 (by kernel_rfl) rfl
def aun:∀args w,(callFunc 250 args).run Tryz.prog w= .ok (.enter 250 args) w:=enters_of Tryz.func250 (by kernel_rfl) rfl
def auo:∀args w,(callFunc 235 args).run Tryz.prog w= .ok (.enter 235 args) w:=enters_of Tryz.func235 (by kernel_rfl) rfl
def aup:∀args w,(callFunc 223 args).run Tryz.prog w= .ok (.enter 223 args) w:=enters_of Tryz.func223 (by kernel_rfl) rfl
def auq:∀args w,(callFunc 224 args).run Tryz.prog w= .ok (.enter 224 args) w:=enters_of Tryz.func224 (by kernel_rfl) rfl
def aur:∀args w,(callFunc 225 args).run Tryz.prog w= .ok (.enter 225 args) w:=enters_of Tryz.func225 (by kernel_rfl) rfl
def aus:∀args w,(callFunc 220 args).run Tryz.prog w= .ok (.enter 220 args) w:=enters_of Tryz.func220 (by kernel_rfl) rfl
def aut:∀args w,(callFunc 280 args).run Tryz.prog w= .ok (.enter 280 args) w:=enters_of Tryz.func280 (by kernel_rfl) rfl
def auu:∀args w,(callFunc 243 args).run Tryz.prog w= .ok (.enter 243 args) w:=enters_of Tryz.func243 (by kernel_rfl) rfl
def anE (b:Nat) (w:yi):(callFunc 274 #[.float .f64 b]).run Tryz.prog w= .ok (.value (.int .u64 b)) w:=by
 rw [run_callFunc_extern Tryz.func274 (by kernel_rfl) (by kernel_rfl) (by kernel_rfl) (e:=Extern.MathFloatBits.float64bits) (by kernel_rfl)];rfl
def ahj (b:Nat) (w:yi):(callFunc 277 #[.int .u64 b]).run Tryz.prog w= .ok (.value (.float .f64 b)) w:=by
 rw [run_callFunc_extern Tryz.func277 (by kernel_rfl) (by kernel_rfl) (by kernel_rfl) (e:=Extern.MathFloatBits.float64frombits) (by kernel_rfl)];rfl
def asX (W:yi) (n:Nat) (sp:List AV->Option AV):Prop:=∀vals r,sp vals=some r->ep (O W) n vals r
section
variable {W:yi} {m:Int} (hm:W.cell? ⟨1,0,none⟩=some (.int .i64 m)) (ht:Lib.TabIs Tryz.prog W "internal/strconv.uint64pow10" .u64 Lib.pow10Tab)
include hm ht
theorem apS:adi.kX (asX W):=
 (Tr.jK (ak6 (O:=O W) (f:=225) (by rfl) aur (fun s z w hl h=>(Tryz.strconv_Atoi s z hl h w).mono fun _ _ ⟨h1,t,h2⟩=>⟨h1,h2▸Hc (Lib.bytesWorld_below _ _ _)⟩))
  (Tr.jK (ahO (O:=O W) (f:=250) (by rfl) aun Tryz.strings_Repeat)
  (Tr.jK (ak5 (O:=O W) (f:=247) (by rfl) aul (fun z w h0 h1 hg=>(Tryz.strconv_Itoa z h0 h1 w (Zd ht hg)).mono fun _ _ ⟨h1,k,os,h2⟩=>⟨h1,h2▸Yl⟩))
  (Tr.jK (agE (O:=O W) (f:=173) (by rfl) auk Tryz.strings_CutPrefix)
  (Tr.jK (anl (O:=O W) (f:=174) (by rfl) auj (a:=⟨1,0,none⟩) (m:=m) hm (fun s sep w hs hc=>Tryz.strings_Cut s sep m w hs hc))
  Tr.iZ Tr.iZ) Tr.iZ) (Tr.jK (agB (O:=O W) (f:=249) (by rfl) aum (fun z w hz hg=>(Tryz.ags z hz w (Zd ht hg)).mono fun _ _ ⟨h1,k,os,h2⟩=>⟨h1,h2▸Yl⟩))
  Tr.iZ Tr.iZ)) (Tr.jK (agF (O:=O W) (f:=223) (by rfl) aup Tryz.strings_HasPrefix)
  (Tr.jK (ai0 (O:=O W) (f:=235) (by rfl) auo (fun x y w hx hy=>Tryz.bits_Mul64 x y hx hy w))
  Tr.iZ Tr.iZ) (Tr.jK (agA (O:=O W) (f:=224) (by rfl) auq Tryz.strings_TrimPrefix)
  Tr.iZ Tr.iZ))) (Tr.jK (ai3 (O:=O W) (f:=270) (by rfl) (fun x y b w h=>Tryz.bits_Sub64 x y b h w))
  (Tr.jK (ak7 (O:=O W) (f:=280) (by rfl) aut (fun x w h0 h1=>Tryz.bits_LeadingZeros64 x w h0 h1))
  (Tr.jK (ak4 (O:=O W) (f:=220) (by rfl) aus (fun s cs w hs qg ha=>Tryz.agS s cs w hs qg ha))
  Tr.iZ Tr.iZ) (Tr.jK (ai2 (O:=O W) (f:=268) (by rfl) (fun x y c w h=>Tryz.bits_Add64 x y c h w))
  Tr.iZ Tr.iZ)) (Tr.jK (ag6 (O:=O W) (f:=274) (by rfl) anE)
  (Tr.jK (ai1 (O:=O W) (f:=243) (by rfl) auu (fun x w h0 h1=>Tryz.bits_Len64 x w h0 h1))
  Tr.iZ Tr.iZ) (Tr.jK (agx (O:=O W) (f:=277) (by rfl) ahj)
  Tr.iZ Tr.iZ))))
theorem anF:gN (O W) where
 hint n f g h:=Tr.B3 (p:=fun f g=>zn nd.ae g=f) (PW nd.apJ) h
 mixed:=by kernel_rfl
 prog n F h:=Tr.B3 nd.anA h
 aX n sp vals r h hs:=Tr.B3 (apS hm ht) h vals r hs
 EM n sp hp ct vals v ao aW h:=by cases h
end
end J1
def bX:List Int->Int
 | []=>0
 | a::r=>if a=0 then bX r else a
def PI {l:List Int} {i:Nat} (h:i<l.length):bX (l.drop i)=if l[i]=0 then bX (l.drop (i+1)) else l[i]:=by
 rw [yO h,bX]
def fD (lo hi:Int):List Int->Bool
 | []=>false
 | a::r=>if a<lo\/hi<a then true else fD lo hi r
def aja {lo hi:Int} {l:List Int} {i:Nat} (h:i<l.length):fD lo hi (l.drop i)=if l[i]<lo\/hi<l[i] then true else fD lo hi (l.drop (i+1)):=by
 rw [yO h,fD]
def jw (n:Nat) (lo hi:Int):List (List Int)->Int
 | []=>0
 | r::s=>if r.length≠n then 2 else if fD lo hi r=true then 3 else jw n lo hi s
def Xw {n:Nat} {lo hi:Int} {s:List (List Int)} {i:Nat} (h:i<s.length):
  jw n lo hi (s.drop i)=if s[i].length≠n then 2 else if fD lo hi s[i]=true then 3 else jw n lo hi (s.drop (i+1)):=by
 rw [yO h,jw]
def iy (s:List (List Int)):Int:=if s.length=0 then 12 else if 16<s.length then 5 else jw s.length (-1000) 1000 s
def pN:List (List Int)->Bool
 | []=>true
 | r::s=>if 18<r.length then false else pN s
def agC {s:List (List Int)} {i:Nat} (h:i<s.length):pN (s.drop i)=if 18<s[i].length then false else pN (s.drop (i+1)):=by
 rw [yO h,pN]
def Ep (n:Nat) (s:List (List Int)):Bool:=if n<s.length/\s.length<=16\/18<s.length then false else pN s
def QH {lo hi:Int} {l:List Int} (h:fD lo hi l=false):∀i (cD:i<l.length),lo<=l[i]/\l[i]<=hi:=by
 induction l with
 | nil=>intro i cD;exact absurd cD (tx _)
 | cons a r ih=>
  simp only [fD] at h
  grind
def ajb {lo hi:Int} {l:List Int} (h:fD lo hi l=false):∀i,fD lo hi (l.take i)=false:=by
 induction l with
 | nil=>intro i;simp [fD]
 | cons a r ih=>
  intro i;simp only [fD] at h
  split at h
  ·grind
  ·rename_i hc
   cases i with
   | zero=>simp [fD]
   | succ i=>simp only [List.take_succ_cons,fD,hc,xk,ih h i]
def jM (s:List (List Int)) (c r:Int):Int:=(s.getD (r%s.length).toNat []).getD (c%s.length).toNat 0
def anG {n m:Int} (h:0<m):(n.tmod m+m).tmod m=n%m:=by
 have e:n.tmod m=if 0<=n\/m∣n then n%m else n%m-m:=by
  grind
 have h1:=Int.emod_nonneg n (by omega:m≠0);rw [e]
 split
 ·rw [xh (by omega),Int.add_emod_right,yco]
 ·rw [show n%m-m+m=n%m by omega,xh h1,yco]
def Hl {n:Nat} {lo hi:Int} {s:List (List Int)} (h:jw n lo hi s=0):∀i (cD:i<s.length),s[i].length=n/\fD lo hi s[i]=false:=by
 induction s with
 | nil=>intro i cD;exact absurd cD (tx _)
 | cons r s ih=>
  simp only [jw] at h
  grind
def dv:List Int->Nat
 | []=>0
 | a::r=>a.toNat+1000000000*dv r
def lU:∀(a b:List Int),dv (a++b)=dv a+1000000000^a.length*dv b
 | [],b=>by simp [dv]
 | x::a,b=>by
  simp only [yY,dv,lU a b,yv,y9,xC]
  grind
def oC {l:List Int} (i:Nat):dv (l.take (i+1))=dv (l.take i)+1000000000^i*(l.getD i 0).toNat:=by
 by_cases h:i<l.length
 ·rw [wJ h,lU,yT,xD (by omega)];simp [dv,xz,xV h]
 ·rw [yN (by omega),yN (by omega)]
  grind
abbrev dg (l:List Int):Prop:=fD 0 999999999 l=false
def gL {a b:List Int}:dg (a++b)↔dg a/\dg b:=by
 induction a with
 | nil=>simp [dg,fD]
 | cons x a ih=>
  simp only [dg,yY,fD] at ih ⊢
  grind
def jH {x:Int}:dg [x]↔0<=x/\x<1000000000:=by
 simp only [dg,fD]
 grind
def hX {l:List Int} (h:dg l) (i:Nat):0<=l.getD i 0/\l.getD i 0<1000000000:=by
 by_cases hi:i<l.length
 ·have:=QH h i hi
  grind
 ·grind
def B8 {l:List Int} (h:dg l) (i:Nat):dg (l.take i):=ajb h i
def jN:∀{l:List Int},dg l->dv l<1000000000^l.length
 | [],_=>by simp [dv]
 | x::l,h=>by
  have h':dg ([x]++l):=h;obtain ⟨h1,h2⟩:=gL.1 h';have h1:=jH.1 h1
  have:=jN h2
  simp only [dv,yv,y9];omega
def dS:List Int->List Int
 | []=>[]
 | a::r=>match dS r with | []=>if a=0 then [] else [a] | t::q=>a::t::q
def He:∀l:List Int,dS (l++[0])=dS l
 | []=>rfl
 | a::l=>by simp only [yY,dS,He l]
def Lg {a:Int} (h:a≠0):∀l:List Int,dS (l++[a])=l++[a]
 | []=>by simp [dS,h]
 | b::l=>by
  simp only [yY,dS,Lg h l]
  cases hq:l++[a] with
  | nil=>simp at hq
  | cons t q=>rfl
def sM:∀l:List Int,dv (dS l)=dv l
 | []=>rfl
 | a::l=>by
  have ih:=sM l;simp only [dS,dv]
  split
  ·rename_i h;rw [h] at ih
   split
   ·rename_i h0;subst h0;simp [dv,<-ih]
   ·simp [dv,<-ih]
  ·rename_i t q h;rw [h] at ih;simp only [dv] at ih ⊢;omega
def An:∀{l:List Int},dg l->dg (dS l)
 | [],_=>rfl
 | a::l,h=>by
  have h':dg ([a]++l):=h;obtain ⟨h1,h2⟩:=gL.1 h';have ih:=An h2;simp only [dS]
  split
  ·grind
  ·rename_i t q hq;rw [hq] at ih
   exact (gL (a:=[a]) (b:=t::q)).2 ⟨h1,ih⟩
def Lz:∀l:List Int,(dS l).length<=l.length
 | []=>yz _
 | a::l=>by
  have ih:=Lz l;simp only [dS]
  grind
def snoc {α:Type} (l:List α):l=[]\/∃m a,l=m++[a]:=by
 rcases List.eq_nil_or_concat l with h | ⟨m,a,h⟩
 ·grind
 ·grind
def ahk:∀(n:Nat) (l:List Int),l.length=n->dS (dS l)=dS l:=by
 intro n
 induction n with
 | zero=>intro l h;rw [yJ h];rfl
 | succ n ih=>
  intro l h;rcases snoc l with rfl | ⟨m,a,rfl⟩
  ·rfl
  ·by_cases h0:a=0
   ·subst h0;rw [He]
    grind
   ·rw [Lg h0,Lg h0]
def ahR (l:List Int):dS (dS l)=dS l:=ahk _ l rfl
abbrev nz (l:List Int):Prop:=dS l=l
def D7 (l:List Int):nz (dS l):=ahR l
def MV {l:List Int} (h:nz l) (hd:dg l) (h0:l≠[]):1000000000^(l.length-1)<=dv l:=by
 rcases snoc l with rfl | ⟨m,a,rfl⟩
 ·grind
 ·by_cases ha:a=0
  ·subst ha
   have:=Lz m
   have e:=congrArg tL h;rw [He] at e
   grind
  ·rw [lU]
   have:=jH.1 (gL.1 hd).2
   simp only [dv,yR,uR,tz,xx,yW];have h1:1<=a.toNat:=by omega
   have:=yU (1000000000^m.length) h1
   omega
def Q2 {l:List Int} (h:nz l) (hd:dg l) (h0:dv l=0):l=[]:=by
 by_cases hl:l=[]
 ·grind
 ·have:=MV h hd hl
  grind
def RG {a b:List Int} (ha:dg a) (hb:nz b) (bQ:dg b) (h:a.length<b.length):dv a<dv b:=by
 have h1:=jN ha;have h2:=MV hb bQ (fun e=>by subst e;simp at h);have h3:1000000000^a.length<=1000000000^(b.length-1):=yV (by decide) (by omega);omega
def dP (m n:Nat):Int:=if m<n then -1 else if n<m then 1 else 0
def aaN {l:List Int} {i:Nat} (h:i<l.length):dv l=dv (l.take i)+1000000000^i*(l[i].toNat+1000000000*dv (l.drop (i+1))):=by
 have e:l=l.take i++l[i]::l.drop (i+1):=by simp_all
 have:dv l=dv (l.take i++l[i]::l.drop (i+1)):=congrArg dv e
 rw [this,lU,yT,xD (by omega)];rfl
def aag {a b:List Int} {i:Nat} (ha:dg a) (hb:dg b) (h1:i<a.length) (h2:i<b.length) (he:a.drop (i+1)=b.drop (i+1)) (h:a[i]<b[i]):dv a<dv b:=by
 rw [aaN h1,aaN h2,he];have hl:=jN (B8 ha i);have g1:=QH ha i h1;have h3:a[i].toNat+1000000000*dv (b.drop (i+1))+1<=b[i].toNat+1000000000*dv (b.drop (i+1)):=by omega
 have:=yU (1000000000^i) h3
 grind
def RH:∀{l:List Int} {j:Nat} {x:Int},j<l.length->dv (l.set j x)+1000000000^j*(l.getD j 0).toNat=dv l+1000000000^j*x.toNat
 | [],j,x,h=>by simp at h
 | a::l,0,x,_=>by simp [dv];omega
 | a::l,j+1,x,h=>by
  have ih:=RH (l:=l) (j:=j) (x:=x) (by simpa using h);simp only [yaT,dv,yaM,y9]
  grind
def Mv {l:List Int} (h:dg l) {j:Nat} {x:Int} (hx:0<=x/\x<1000000000):dg (l.set j x):=by
 by_cases hj:j<l.length
 ·rw [tA,yM hj];have e:l=l.take (j+1)++l.drop (j+1):=(wa _ _).symm;have hd:dg (l.drop (j+1)):=by rw [e] at h;exact (gL.1 h).2
  exact gL.2 ⟨B8 h j,(gL (a:=[x]) (b:=l.drop (j+1))).2 ⟨jH.2 hx,hd⟩⟩
 ·rw [List.set_eq_of_length_le (by omega)];exact h
def Ze {l:List Int} {j m:Nat} {x:Int} (h:m≠j):(l.set j x).getD m 0=l.getD m 0:=by grind
def alh {V0 V V' p q A X Y o c s:Nat} (hs:s=o+A*X+c) (aU:V'+p*q*o=V+p*q*(s%1000000000)) (hv:V+p*q*c=V0+p*(A*Y)):
  V'+p*(q*1000000000)*(s/1000000000)=V0+p*(A*(Y+q*X)):=by
 have e:=uB s 1000000000;have e2:p*q*s=p*q*(s%1000000000)+p*(q*1000000000)*(s/1000000000):=by
  conv=>lhs;rw [<-e]
  rw [xC,<-xm (p*q),<-xm p q]
 have e3:p*q*s=p*q*o+p*q*(A*X)+p*q*c:=by rw [hs,xC,xC]
 have e4:p*(A*(Y+q*X))=p*(A*Y)+p*q*(A*X):=by
  rw [xC,xC,xm p q,<-xm A q X,xA A q,xm q A X]
 omega
def Zf (n:Nat):dv (yC n 0)=0:=by
 induction n with
 | zero=>rfl
 | succ n ih=>simp [wj,dv,ih]
def Zg (n:Nat):dg (yC n 0):=by
 induction n with
 | zero=>rfl
 | succ n ih=>exact (gL (a:=[0]) (b:=yC n 0)).2 ⟨by decide,ih⟩
def bv (b:Nat):List Nat->Nat
 | []=>0
 | a::r=>a+b*bv b r
def lo (b:Nat) (l:List Nat):Prop:=∀x,x∈l->x<b
section
variable {b:Nat}
def AG (a:Nat):bv b [a]=a:=by simp [bv]
def qO:∀(l m:List Nat),bv b (l++m)=bv b l+b^l.length*bv b m
 | [],m=>by simp [bv]
 | x::l,m=>by
  simp only [yY,bv,qO l m,yv,y9,xC]
  grind
def gd {l:List Nat} {i:Nat} (h:i<l.length):l[i]=l.getD i 0:=by simp_all
def RI {l:List Nat} {i:Nat} (h:l.length<=i):l.getD i 0=0:=by simp_all
def iW {l:List Nat} (i:Nat):bv b (l.take (i+1))=bv b (l.take i)+b^i*l.getD i 0:=by
 by_cases h:i<l.length
 ·rw [wJ h,qO,yT,xD (by omega),AG,gd h]
 ·rw [yN (by omega),yN (by omega),RI (by omega),xx,yW]
def Mw:lo b []:=fun _ h=>by simp at h
def LA {l m:List Nat}:lo b (l++m)↔lo b l/\lo b m:=by
 constructor
 ·intro h;exact ⟨fun x hx=>h x (by simp [hx]),fun x hx=>h x (by simp [hx])⟩
 ·rintro ⟨h1,h2⟩ x hx;rcases wx.1 hx with h | h
  ·exact h1 x h
  ·exact h2 x h
def Er {x:Nat}:lo b [x]↔x<b:=by simp [lo]
def gC (hb:0<b) {l:List Nat} (h:lo b l) (i:Nat):l.getD i 0<b:=by
 by_cases hi:i<l.length
 ·rw [<-gd hi];exact h _ (List.getElem_mem hi)
 ·grind
def sT {l:List Nat} (h:lo b l) (i:Nat):lo b (l.take i):=fun x hx=>h x (List.mem_of_mem_take hx)
def aah {l:List Nat} (h:lo b l) (i:Nat):lo b (l.drop i):=fun x hx=>h x (List.mem_of_mem_drop hx)
def me {l:List Nat} (h:lo b l) {i x:Nat} (hx:x<b):lo b (l.set i x):=fun y hy=>by
 rcases List.mem_or_eq_of_mem_set hy with h1 | h1
 ·exact h y h1
 ·omega
def Es (hb:0<b) (n:Nat):lo b (yC n 0):=fun x hx=>by
 grind
def Et (n:Nat):bv b (yC n 0)=0:=by
 induction n with
 | zero=>rfl
 | succ n ih=>simp [wj,bv,ih]
def B9 (n m:Nat):(yC n (0:Nat)).getD m 0=0:=by grind
def lD:∀{l:List Nat},lo b l->bv b l<b^l.length
 | [],_=>by simp [bv]
 | x::l,h=>by
  have h1:=h x (by simp);have h2:=lD (l:=l) (fun y hy=>h y (by simp [hy]));simp only [bv,yv,y9,xA _ b]
  have:=yU b (show bv b l+1<=b^l.length from h2)
  grind
def nE:∀{l:List Nat} {i x:Nat},i<l.length->bv b (l.set i x)+b^i*l.getD i 0=bv b l+b^i*x
 | [],i,x,h=>by simp at h
 | a::l,0,x,_=>by simp [bv];omega
 | a::l,i+1,x,h=>by
  have ih:=nE (l:=l) (i:=i) (x:=x) (by simpa using h)
  have:=congrArg (fun t=>b*t) ih
  simp only [xC] at this;simp only [yaT,bv,yaM,y9,xA _ b,xm] at this ⊢;omega
def oD {l:List Nat} {i m x:Nat} (h:i≠m):(l.set i x).getD m 0=l.getD m 0:=by simp_all
def ahS {l:List Nat} {i x:Nat} (h:i<l.length):(l.set i x).getD i 0=x:=by simp_all
def Hx (l:List Nat) (i:Nat) (h:i<=l.length):bv b l=bv b (l.take i)+b^i*bv b (l.drop i):=by
 have:=qO (b:=b) (l.take i) (l.drop i)
 simp_all
def dT:List Nat->List Nat
 | []=>[]
 | a::r=>match dT r with | []=>if a=0 then [] else [a] | t::q=>a::t::q
def Lh:∀l:List Nat,dT (l++[0])=dT l
 | []=>rfl
 | a::l=>by simp only [yY,dT,Lh l]
def DU {a:Nat} (h:a≠0):∀l:List Nat,dT (l++[a])=l++[a]
 | []=>by simp [dT,h]
 | b::l=>by
  simp only [yY,dT,DU h l]
  cases hq:l++[a] with
  | nil=>simp at hq
  | cons t q=>rfl
abbrev gI (l:List Nat):Prop:=dT l=l
def ahT:∀(n:Nat) (l:List Nat),l.length=n->∃i,i<=n/\dT l=l.take i/\gI (l.take i)/\bv b (l.take i)=bv b l:=by
 intro n
 induction n with
 | zero=>intro l h;rw [yJ h];exact ⟨0,yz _,rfl,rfl,rfl⟩
 | succ n ih=>
  intro l h;rcases snoc l with rfl | ⟨m,a,rfl⟩
  ·grind
  ·have hm:m.length=n:=by simp_all
   by_cases h0:a=0
   ·subst h0;obtain ⟨i,h1,h2,h3,h4⟩:=ih m hm;have e:(m++[0]).take i=m.take i:=by grind
    refine ⟨i,by omega,by rw [Lh,h2,e],by rw [e];exact h3,?_⟩
    rw [e,h4,qO];simp [bv]
   ·have e:(m++[a]).take (n+1)=m++[a]:=yN (by simp [hm]);exact ⟨n+1,yz _,by rw [e,DU h0],by rw [e];exact DU h0 m,by rw [e]⟩
def LB (l:List Nat):∃i,i<=l.length/\dT l=l.take i/\gI (dT l)/\bv b (dT l)=bv b l:=by
 obtain ⟨i,h1,h2,h3,h4⟩:=ahT (b:=b) l.length l rfl
 grind
def Ao (l:List Nat):bv b (dT l)=bv b l:=by
 obtain ⟨_,_,_,_,h⟩:=LB (b:=b) l;exact h
def Ap (l:List Nat):gI (dT l):=by
 obtain ⟨_,_,_,h,_⟩:=LB (b:=2) l;exact h
def Aq {l:List Nat} (h:lo b l):lo b (dT l):=by
 obtain ⟨i,_,h2,_⟩:=LB (b:=b) l;rw [h2];exact sT h i
def ajc (l:List Nat):(dT l).length<=l.length:=by
 obtain ⟨i,_,h2,_⟩:=LB (b:=2) l
 grind
def Hy {l:List Nat} (h:gI l) (h0:l≠[]):l.getD (l.length-1) 0≠0:=by
 rcases snoc l with rfl | ⟨m,a,rfl⟩
 ·grind
 ·intro ha
  have:a=0:=by
   grind
  subst this;have e:=congrArg tL h;rw [Lh] at e
  have:=ajc m
  grind
def RJ (hb:0<b) {l:List Nat} (h:gI l) (h0:l≠[]):b^(l.length-1)<=bv b l:=by
 rcases snoc l with rfl | ⟨m,a,rfl⟩
 ·grind
 ·have ha:=Hy h h0;simp [xz] at ha;rw [qO,AG];simp only [yR,uR,tz]
  have:=yU (b^m.length) (show 1<=a by omega)
  omega
def Me (hb:1<b) {l m:List Nat} (hl:lo b l) (hm:gI m) (h:l.length<m.length):bv b l<bv b m:=by
 have h1:=lD hl;have h2:=RJ (b:=b) (by omega) hm (fun e=>by subst e;simp at h);have h3:b^l.length<=b^(m.length-1):=yV (by omega) (by omega);omega
def aai {l m:List Nat} (hl:lo b l) {i:Nat} (h1:i<l.length) (h2:i<m.length) (he:l.drop (i+1)=m.drop (i+1)) (h:l.getD i 0<m.getD i 0):bv b l<bv b m:=by
 rw [Hx l (i+1) (by omega),Hx m (i+1) (by omega),he,iW,iW]
 have:=lD (sT hl i)
 have:=yU (b^i) (show l.getD i 0+1<=m.getD i 0 from h)
 grind
def ajd (hb:1<b) {l:List Nat} {k:Nat} (h:gI l) (hk:bv b l<b^k):l.length<=k:=by
 by_cases h0:l=[]
 ·grind
 ·have h1:=RJ (b:=b) (by omega) h h0;have h2:b^(l.length-1)<b^k:=xR h1 hk
  have:=(Nat.pow_lt_pow_iff_right hb).1 h2
  omega
def Xx {V v1 v2 vr U u0 u1 u2 ur p t r:Nat} (hV:V=(v1*b+v2)*p+vr) (hU:U=((u0*b+u1)*b+u2)*p+ur) (hur:ur<p)
  (ht:t*v1+r=u0*b+u1) (h:r*b+u2<t*v2):U/V<=t-1:=by
 have h1:U<t*V:=by
  have e:t*((v1*b+v2)*p)=((t*v1)*b+t*v2)*p:=by
   grind
  have h2:((u0*b+u1)*b+u2)+1<=(t*v1)*b+t*v2:=by rw [<-ht,we];omega
  have h3:=yS p h2;rw [hV,hU,xC,e]
  grind
 have qw:0<V:=by
  grind
 have:=(wu qw).2 h1
 omega
def Ym {V v1 v2 vr U u0 u1 u2 ur p t r:Nat} (hb:0<b) (hV:V=(v1*b+v2)*p+vr) (Kp:vr<p) (hU:U=((u0*b+u1)*b+u2)*p+ur) (dY:0<v1) (cA:v2<b) (kG:t<b)
  (ht:t*v1+r=u0*b+u1) (h:b<=r\/t*v2<=r*b+u2):t<=U/V+1:=by
 have h2:t*v2<=r*b+u2:=by
  rcases h with h | h
  ·have:=wK (uN kG) (uN cA)
   have:=yS b h
   omega
  ·exact h
 have h3:t*(v1*b+v2)<=(u0*b+u1)*b+u2:=by
  rw [xC,<-xm,<-ht,we];omega
 have hp:0<p:=by omega
 have azO:b<=v1*b:=Nat.le_mul_of_pos_left b dY;have qw:0<V:=by
  have:=vS (show 0<v1*b+v2 by omega) hp
  omega
 rcases xn t with h0 | h0
 ·grind
 ·obtain ⟨s,rfl⟩:∃s,t=s+1:=⟨t-1,by omega⟩;have h4:s*V<=U:=by
   have h5:V<=(v1*b+v2+1)*p:=by grind
   have h6:=yU s h5;have h7:s*(v1*b+v2+1)<=(s+1)*(v1*b+v2):=by
    grind
   have h8:=yS p (Nat.le_trans h7 h3)
   grind
  exact Nat.succ_le_succ ((uY qw).2 h4)
def PJ {V v1 v2 vr U u0 u1 u2 ur p:Nat} (hV:V=(v1*b+v2)*p+vr) (hU:U=((u0*b+u1)*b+u2)*p+ur) (hur:ur<p) (zP:u2<b) (dY:0<v1):U/V<=(u0*b+u1)/v1:=by
 by_cases qw:V=0
 ·grind
 ·refine (uY dY).2 ?_;have h1:=Nat.div_mul_le_self U V;generalize U/V=q at h1 ⊢;have h2:q*v1*(b*p)<=q*V:=by
   rw [hV,xm]
   grind
  have h3:U<(u0*b+u1+1)*(b*p):=by
   have:(u0*b+u1)*b+u2+1<=(u0*b+u1+1)*b:=by grind
   have:=yS p this
   grind
  have h4:q*v1*(b*p)<(u0*b+u1+1)*(b*p):=by omega
  have:=yad h4
  omega
def Yn {V v1 v2 vr U u0 u1 u2 ur p:Nat} (hV:V=(v1*b+v2)*p+vr) (hU:U=((u0*b+u1)*b+u2)*p+ur) (Kp:vr<p) (cA:v2<b) (h:U<b*V):u0<=v1:=by
 refine Nat.le_of_lt_succ ?_;have h1:V<(v1+1)*(b*p):=by
  have:v1*b+v2+1<=(v1+1)*b:=by grind
  have:=yS p this
  grind
 have h2:u0*(b*(b*p))<=U:=by
  grind
 have h3:=yU b (uN h1);have e:b*((v1+1)*(b*p))=(v1+1)*(b*(b*p)):=by grind
 rw [e] at h3;have h4:u0*(b*(b*p))<(v1+1)*(b*(b*p)):=xR h2 (yA h h3);exact yad h4
end
section
variable {P:aG} {L:Lib} {f:cw} {F:Nat->cw}
def By (f:cw) (F:Nat->cw):Prop:=∀c s r,f c s=some r->∃n,F n c s=some r
def Mon (F:Nat->cw):Prop:=∀n m,n<=m->Le (F n) (F m)
def KX (h:By f F) (n:Nat) (vals:List AV) (r:AV) (hr:bF P L f n vals=some r):∃k,bF P L (F k) n vals=some r:=by
 unfold bF at hr ⊢
 cases hL:L.pure n with
 | some sp=>exact ⟨0,by simpa only [hL] using hr⟩
 | none=>
  simp only [hL] at hr ⊢
  cases hP:P n with
  | none=>simp [hP] at hr
  | some G=>
   simp only [hP] at hr ⊢
   cases hf:f G.body ⟨eh 0 vals,[],0,0⟩ with
   | none=>simp [hf] at hr
   | some q=>
    obtain ⟨k,hk⟩:=h _ _ _ hf
    grind
def PX (h:By f F) (hp:Hp) (ct:Nat) (n:Nat) (vals:List AV) (r:AV×Hp×Nat) (hr:iC P L f hp ct n vals=some r):∃k,iC P L (F k) hp ct n vals=some r:=by
 unfold iC at hr ⊢
 cases hL:L.heap n with
 | some sp=>exact ⟨0,by simpa only [hL] using hr⟩
 | none=>
  simp only [hL] at hr ⊢
  cases hP:P n with
  | none=>simp [hP] at hr
  | some G=>
   simp only [hP] at hr ⊢
   cases hf:f G.body ⟨eh 0 vals,hp,ct,ct⟩ with
   | none=>simp [hf] at hr
   | some q=>
    obtain ⟨k,hk⟩:=h _ _ _ hf
    grind
def W1 (h:By f F) (hm:Mon F) (hp:Hp) (ct:Nat) (l:Nat) (xs:List AV) (r:AV×Hp×Nat) (hr:kJ f hp ct l xs=some r):∃k,kJ (F k) hp ct l xs=some r:=by
 have key:∃k,∀g,Le (F k) g->kJ g hp ct l xs=some r:=by
  unfold kJ at hr
  cases hl:an hp l with
  | none=>simp [hl] at hr
  | some o=>
   split at hr
   ·rename_i tm ps as_ body pe n8
    cases hb:pV tm ps xs with
    | none=>simp [hb] at hr
    | some tm'=>
     simp only [hb] at hr
     cases h1:f as_ ⟨tm',hp,ct,ct⟩ with
     | none=>simp [h1] at hr
     | some q=>
      obtain ⟨k1,fT⟩:=h _ _ _ h1
      split at hr
      ·rename_i s1 SS
       split at hr
       ·rename_i iL rO Bm Cy pn ac4
        cases h2:f body ⟨s1.tm,aU s1.hp l (.lp iL rO Bm Cy 1 pn),s1.ct,s1.ct⟩ with
        | none=>simp [h2] at hr
        | some q2=>
         obtain ⟨k2,iR⟩:=h _ _ _ h2;refine ⟨max k1 k2,fun g hg=>?_⟩;have e1:=hg _ _ _ (hm k1 _ (uf k1 k2) _ _ _ fT);have e2:=hg _ _ _ (hm k2 _ (vT k1 k2) _ _ _ iR);unfold kJ
         grind
       ·simp at hr
      ·simp at hr
   ·simp at hr
 obtain ⟨k,hk⟩:=key;exact ⟨k,hk _ (fun _ _ _ h=>h)⟩
def Xy (h:By f F) (hm:Mon F) (hp:Hp) (ct:Nat) (m:Md) (fv:AV) (xs:List AV) (r:AV×Hp×Nat) (hr:dA P L f hp ct m fv xs=some r):∃k,dA P L (F k) hp ct m fv xs=some r:=by
 unfold dA at hr ⊢
 split at hr
 ·rename_i n first cap
  cases m with
  | pure=>
   cases hz:cB deep hp (first++(xs++cap)) with
   | none=>simp [hz] at hr
   | some q=>
    simp only [hz] at hr ⊢
    cases hc:bF P L f n q.1 with
    | none=>simp [hc] at hr
    | some u=>
     obtain ⟨k,hk⟩:=KX h n q.1 u hc
     grind
  | own=>
   cases hz:cB deep hp (first++(xs++cap)) with
   | none=>simp [hz] at hr
   | some q=>
    simp only [hz] at hr ⊢
    cases hc:bF P L f n q.1 with
    | none=>simp [hc] at hr
    | some u=>
     obtain ⟨k,hk⟩:=KX h n q.1 u hc
     grind
  | heap=>exact PX h _ _ _ _ _ hr
  | dyn=>
   cases hz:aF (first++(xs++cap)) with
   | true=>
    simp only [hz,yx] at hr ⊢
    cases hc:bF P L f n (first++(xs++cap)) with
    | none=>simp [hc] at hr
    | some u=>
     obtain ⟨k,hk⟩:=KX h n _ u hc
     grind
   | false=>
    simp only [hz,yH] at hr ⊢;exact PX h _ _ _ _ _ hr
 ·split at hr
  ·exact W1 h hm _ _ _ _ _ hr
  ·exact W1 h hm _ _ _ _ _ hr
  ·simp at hr
 ·simp at hr
def ali (h:By f F) (hm:Mon F) (tm:Env) (hp:Hp) (ct:Nat) (o:Op) (r:AV×Hp×Nat) (hr:a7 P L f tm hp ct o=some r):∃k,a7 P L (F k) tm hp ct o=some r:=by
 unfold a7 at hr ⊢
 split at hr
 ·exact Xy h hm _ _ _ _ _ _ hr
 ·rename_i rs fv xs
  cases hc:dA P L f hp ct .dyn (az tm fv) (di tm xs) with
  | none=>simp [hc] at hr
  | some q=>
   obtain ⟨k,hk⟩:=Xy h hm _ _ _ _ _ _ hc
   grind
 all_goals exact ⟨0,by simpa only using hr⟩
def Qi (h:By f F) (hm:Mon F):∀(ops:List aY) (s s':St),dB P L f ops s=some s'->∃k,dB P L (F k) ops s=some s'
 | [],s,s',hr=>⟨0,by simpa only [dB] using hr⟩
 | ⟨d,gd,o⟩::r,s,s',hr=>by
  simp only [dB] at hr ⊢
  split at hr
  ·rename_i hw
   cases ho:a7 P L f s.tm s.hp s.ct o with
   | none=>simp [ho] at hr
   | some q=>
    obtain ⟨k1,fT⟩:=ali h hm _ _ _ _ _ ho;simp only [ho] at hr;obtain ⟨k2,iR⟩:=Qi h hm r _ _ hr;refine ⟨max k1 k2,?_⟩;rw [Yf (hm k1 _ (uf k1 k2)) _ _ _ _ _ fT];exact Lb (hm k2 _ (vT k1 k2)) r _ _ iR
  ·rename_i hw;exact Qi h hm r _ _ hr
  ·simp at hr
def BZ (h:By f F) (hm:Mon F):∀(c:VC) (s:St) (r:Ex×St),bt P L f c s=some r->∃k,bt P L (F k) c s=some r
 | .skip,s,r,hr=>⟨0,by simpa only [bt] using hr⟩
 | .jB ops,s,r,hr=>by
  simp only [bt] at hr ⊢
  cases ho:dB P L f ops s with
  | none=>simp [ho] at hr
  | some s'=>
   obtain ⟨k,hk⟩:=Qi h hm _ _ _ ho
   grind
 | .seq a b,s,r,hr=>by
  simp only [bt] at hr ⊢
  cases ha:bt P L f a s with
  | none=>simp [ha] at hr
  | some q=>
   obtain ⟨k1,fT⟩:=BZ h hm a s q ha;obtain ⟨ex,s1⟩:=q
   cases ex with
   | normal=>
    simp only [ha] at hr;obtain ⟨k2,iR⟩:=BZ h hm b s1 r hr;refine ⟨max k1 k2,?_⟩;rw [pJ (hm k1 _ (uf k1 k2)) a s _ fT];exact pJ (hm k2 _ (vT k1 k2)) b s1 r iR
   | ret=>exact ⟨k1,by rw [fT];simpa only [ha] using hr⟩
   | exit id=>exact ⟨k1,by rw [fT];simpa only [ha] using hr⟩
 | .cond x a b,s,r,hr=>by
  simp only [bt] at hr ⊢
  split at hr
  ·rename_i t ht
   cases t with
   | true=>simp only [yx] at hr ⊢;exact BZ h hm a s r hr
   | false=>simp only [yH] at hr ⊢;exact BZ h hm b s r hr
  ·simp at hr
 | .dD id a,s,r,hr=>by
  simp only [bt] at hr ⊢
  cases ha:bt P L f a s with
  | none=>simp [ha] at hr
  | some q=>
   obtain ⟨k,hk⟩:=BZ h hm a s q ha
   grind
 | .kp live,s,r,hr=>⟨0,by simpa only [bt] using hr⟩
 | .fz ts,s,r,hr=>⟨0,by simpa only [bt] using hr⟩
 | .loop live a,s,r,hr=>by
  simp only [bt] at hr ⊢
  cases ha:bt P L f a (aM live s) with
  | none=>simp [ha] at hr
  | some q=>
   obtain ⟨k1,fT⟩:=BZ h hm a _ q ha;obtain ⟨ex,s1⟩:=q
   cases ex with
   | normal=>
    simp only [ha] at hr;obtain ⟨k2,iR⟩:=h _ _ _ hr;refine ⟨max k1 k2,?_⟩;rw [pJ (hm k1 _ (uf k1 k2)) a _ _ fT];exact hm k2 _ (vT k1 k2) _ _ _ iR
   | ret=>exact ⟨k1,by rw [fT];simpa only [ha] using hr⟩
   | exit id=>exact ⟨k1,by rw [fT];simpa only [ha] using hr⟩
 | .rf fv ps as_ body,s,r,hr=>by
  simp only [bt] at hr ⊢
  split at hr
  ·rename_i n first cap hx
   split at hr
   ·grind
   ·rename_i hL
    cases hc:iC P L f ((s.ct,.lp s.tm ps as_ body 0 .none)::s.hp) (s.ct+1) n (first++(.fn (.y s.ct) [] []::cap)) with
    | none=>simp [hc] at hr
    | some q=>
     obtain ⟨k,hk⟩:=PX h _ _ _ _ _ hc
     grind
  ·simp at hr
 | .exit id,s,r,hr=>⟨0,by simpa only [bt] using hr⟩
 | .ret,s,r,hr=>⟨0,by simpa only [bt] using hr⟩
end
section
variable (P:aG) (L:Lib)
noncomputable def D:cw:=fun c s=>@dite _ (∃r n,ev P L n c s=some r) (Classical.propDecidable _) (fun h=>some h.choose) (fun _=>none)
variable {P L}
def adj {c:VC} {s:St} {r:Ex×St} {n:Nat} (h:ev P L n c s=some r):D P L c s=some r:=by
 have hx:∃r n,ev P L n c s=some r:=⟨r,n,h⟩;unfold D;obtain ⟨m,hm⟩:=hx.choose_spec;have e1:=QZ P L (uf n m) _ _ _ h;have e2:=QZ P L (vT n m) _ _ _ hm
 grind
def Tl {c:VC} {s:St} {r:Ex×St} (h:D P L c s=some r):∃n,ev P L n c s=some r:=by
 unfold D at h;by_cases hx:∃r n,ev P L n c s=some r
 ·grind
 ·grind
def auv (n:Nat):Le (ev P L n) (D P L):=fun _ _ _ h=>adj h
def acd:By (D P L) (ev P L):=fun _ _ _ h=>Tl h
def apT:Mon (ev P L):=fun _ _ h=>QZ P L h
def kT (c:VC) (s:St):D P L c s=bt P L (D P L) c s:=by
 cases h:D P L c s with
 | some r=>
  obtain ⟨n,hn⟩:=Tl h
  cases n with
  | zero=>rw [HL] at hn;cases hn
  | succ n=>rw [HM] at hn;exact (pJ (auv n) c s r hn).symm
 | none=>
  cases hs:bt P L (D P L) c s with
  | none=>rfl
  | some r=>
   obtain ⟨n,hn⟩:=BZ acd apT c s r hs;rw [<-HM] at hn;rw [adj hn] at h;cases h
def aaO {f:Nat} {vals:List AV} {r:AV} (h:bF P L (D P L) f vals=some r):∃n,Ux P L n f vals=some r:=KX acd f vals r h
end
section
open Go (IntKind BinOp UnOp)
section
variable {P:aG} {L:Lib}
structure Has (P:aG) (L:Lib) (n:Nat) (F:au):Prop where
 pure:L.pure n=none
 heap:L.heap n=none
 code:P n=some F
noncomputable def mR (P:aG) (L:Lib) (r:Option (Ex×St)) (b:VC):Option (Ex×St):=match r with | some (.normal,s)=>D P L b s | r=>r
def zd (id:Nat) (r:Option (Ex×St)):Option (Ex×St):=match r with | some (.exit j,s)=>bif yt j id then some (.normal,s) else some (.exit j,s) | r=>r
noncomputable def IT (P:aG) (L:Lib) (live:List Nat) (a:VC) (r:Option (Ex×St)):Option (Ex×St):=match r with | some (.normal,s)=>D P L (.loop live a) s | r=>r
def norm (r:Option St):Option (Ex×St):=match r with | some s=>some (.normal,s) | none=>none
noncomputable def MW (P:aG) (L:Lib) (v:AV) (a b:VC) (s:St):Option (Ex×St):=match v with | .bool t=>bif t then D P L a s else D P L b s | _=>none
def apU (s:St):D P L .skip s=some (.normal,s):=by rw [kT];rfl
def apV (id:Nat) (s:St):D P L (.exit id) s=some (.exit id,s):=by rw [kT];rfl
def asY (s:St):D P L .ret s=some (.ret,s):=by rw [kT];rfl
def Tm (live:List Nat) (s:St):D P L (.kp live) s=some (.normal,aM live s):=by rw [kT];rfl
def auw (ts:List Nat) (s:St):D P L (.fz ts) s=norm (oJ ts s):=by rw [kT];rfl
def Sm (ops:List aY) (s:St):D P L (.jB ops) s=norm (dB P L (D P L) ops s):=by rw [kT];rfl
def iE (a b:VC) (s:St):D P L (.seq a b) s=mR P L (D P L a s) b:=by
 rw [kT,kT a];simp only [bt,mR]
 cases bt P L (D P L) a s with
 | none=>rfl
 | some q=>
  obtain ⟨e,s1⟩:=q
  cases e with
  | normal=>exact (kT b s1).symm
  | ret=>rfl
  | exit id=>rfl
def apW (x:X) (a b:VC) (s:St):D P L (.cond x a b) s=MW P L (az s.tm x) a b s:=by
 rw [kT];simp only [bt,MW]
 cases az s.tm x with
 | bool t=>
  cases t with
  | true=>exact (kT a s).symm
  | false=>exact (kT b s).symm
 | _=>rfl
def Sn (id:Nat) (a:VC) (s:St):D P L (.dD id a) s=zd id (D P L a s):=by
 rw [kT,kT a];simp only [bt,zd]
 cases bt P L (D P L) a s with
 | none=>rfl
 | some q=>obtain ⟨e,s1⟩:=q;cases e<;>rfl
def Eu (live:List Nat) (a:VC) (s:St):D P L (.loop live a) s=IT P L live a (D P L a (aM live s)):=by
 rw [kT,kT a];simp only [bt,IT]
 cases bt P L (D P L) a (aM live s) with
 | none=>rfl
 | some q=>obtain ⟨e,s1⟩:=q;cases e<;>rfl
def fF (s:St) (b:VC):mR P L (some (.normal,s)) b=D P L b s:=rfl
def anH (s:St) (b:VC):mR P L (some (.ret,s)) b=some (.ret,s):=rfl
def anI (id:Nat) (s:St) (b:VC):mR P L (some (.exit id,s)) b=some (.exit id,s):=rfl
def aaj (live:List Nat) (a:VC) (s:St):IT P L live a (some (.normal,s))=D P L (.loop live a) s:=rfl
def anJ (live:List Nat) (a:VC) (s:St):IT P L live a (some (.ret,s))=some (.ret,s):=rfl
def anK (live:List Nat) (a:VC) (id:Nat) (s:St):IT P L live a (some (.exit id,s))=some (.exit id,s):=rfl
def Q3 (id:Nat) (s:St):zd id (some (.normal,s))=some (.normal,s):=rfl
def anL (id:Nat) (s:St):zd id (some (.ret,s))=some (.ret,s):=rfl
def Q4 (id:Nat) (s:St):zd id (some (.exit id,s))=some (.normal,s):=by simp only [zd,xG,yx]
def anM {id j:Nat} (s:St) (h:j≠id):zd id (some (.exit j,s))=some (.exit j,s):=by
 have:yt j id=false:=by
  cases hq:yt j id with
  | false=>rfl
  | true=>exact absurd (yk hq) h
 simp only [zd,this,yH]
def aaP (s:St):norm (some s)=some (.normal,s):=rfl
def apX:norm none=none:=rfl
def anN (a b:VC) (s:St):MW P L (.bool true) a b s=D P L a s:=rfl
def anO (a b:VC) (s:St):MW P L (.bool false) a b s=D P L b s:=rfl
noncomputable def So (P:aG) (L:Lib) (d:Option Nat) (r:List aY) (tm:Env) (base:Nat) (q:fS):Option St:=
 match q with | some (v,hp,ct)=>dB P L (D P L) r ⟨put d v tm,hp,ct,base⟩ | none=>none
noncomputable def Cs (P:aG) (L:Lib) (v:AV) (b:Bool) (d:Option Nat) (o:Op) (r:List aY) (s:St):Option St:=
 match v with
 | .bool c=>bif c==b then dB P L (D P L) (⟨d,none,o⟩::r) s else dB P L (D P L) r ⟨put d (.ap []) s.tm,s.hp,s.ct,s.base⟩
 | .ap []=>dB P L (D P L) r ⟨put d (.ap []) s.tm,s.hp,s.ct,s.base⟩
 | _=>none
def aak (s:St):dB P L (D P L) [] s=some s:=rfl
def alj (d:Option Nat) (o:Op) (r:List aY) (tm:Env) (hp:Hp) (ct base:Nat):
  dB P L (D P L) (⟨d,none,o⟩::r) ⟨tm,hp,ct,base⟩=So P L d r tm base (a7 P L (D P L) tm hp ct o):=by
 simp only [dB,So]
 grind
def aje (d:Option Nat) (t:Nat) (b:Bool) (o:Op) (r:List aY) (tm:Env) (hp:Hp) (ct base:Nat):
  dB P L (D P L) (⟨d,some (t,b),o⟩::r) ⟨tm,hp,ct,base⟩=Cs P L (aj tm t) b d o r ⟨tm,hp,ct,base⟩:=by
 simp only [dB,Cs]
 cases aj tm t with
 | bool c=>
  simp only
  cases hc:(c==b) with
  | true=>simp only [yx]
  | false=>simp only [yH]
 | ap vs=>cases vs<;>rfl
 | _=>rfl
def aal (d:Option Nat) (r:List aY) (tm:Env) (base:Nat) (v:AV) (hp:Hp) (ct:Nat):So P L d r tm base (some (v,hp,ct))=dB P L (D P L) r ⟨put d v tm,hp,ct,base⟩:=rfl
def asZ (i:Nat) (v:AV) (tm:Env):put (some i) v tm=(i,v)::tm:=rfl
def ace (v:AV) (tm:Env):put none v tm=tm:=rfl
def alk (d:Option Nat) (o:Op) (r:List aY) (s:St):Cs P L (.bool true) true d o r s=dB P L (D P L) (⟨d,none,o⟩::r) s:=rfl
def alm (d:Option Nat) (o:Op) (r:List aY) (s:St):Cs P L (.bool false) false d o r s=dB P L (D P L) (⟨d,none,o⟩::r) s:=rfl
def aln (d:Option Nat) (o:Op) (r:List aY) (tm:Env) (hp:Hp) (ct base:Nat):Cs P L (.bool true) false d o r ⟨tm,hp,ct,base⟩=dB P L (D P L) r ⟨put d (.ap []) tm,hp,ct,base⟩:=rfl
def alo (d:Option Nat) (o:Op) (r:List aY) (tm:Env) (hp:Hp) (ct base:Nat):Cs P L (.bool false) true d o r ⟨tm,hp,ct,base⟩=dB P L (D P L) r ⟨put d (.ap []) tm,hp,ct,base⟩:=rfl
def anP (b:Bool) (d:Option Nat) (o:Op) (r:List aY) (tm:Env) (hp:Hp) (ct base:Nat):Cs P L (.ap []) b d o r ⟨tm,hp,ct,base⟩=dB P L (D P L) r ⟨put d (.ap []) tm,hp,ct,base⟩:=rfl
def cd {j i:Nat} (h:j≠i):yt j i=false:=by
 cases hq:yt j i with
 | false=>rfl
 | true=>exact absurd (yk hq) h
def apY (tm:Env) (i:Nat):az tm (.t i)=aj tm i:=rfl
def apZ (tm:Env) (v:AV):az tm (.c v)=v:=rfl
def ajf (tm:Env):di tm []=[]:=rfl
def ahU (tm:Env) (x:X) (r:List X):di tm (x::r)=az tm x::di tm r:=rfl
def alp (i:Nat) (v:AV) (r:Env):aj ((i,v)::r) i=v:=by simp only [aj,xG,yx]
def ajg {j i:Nat} (v:AV) (r:Env) (h:j≠i):aj ((j,v)::r) i=aj r i:=by simp only [aj,cd h,yH]
def Hz (i:Nat) (o:Obj) (r:Hp):an ((i,o)::r) i=some o:=by simp only [an,xG,yx]
def ajh {j i:Nat} (o:Obj) (r:Hp) (h:j≠i):an ((j,o)::r) i=an r i:=by simp only [an,cd h,yH]
def Zh (i:Nat) (o u:Obj) (r:Hp):aU ((i,o)::r) i u=(i,u)::r:=by simp only [aU,xG,yx]
def aji {j i:Nat} (o u:Obj) (r:Hp) (h:j≠i):aU ((j,o)::r) i u=(j,o)::aU r i u:=by simp only [aU,cd h,yH]
def alq (i:Nat):da [] i=[]:=rfl
def alr (i:Nat) (o:Obj) (r:Hp):da ((i,o)::r) i=da r i:=by simp only [da,xG,yx]
def ajj {j i:Nat} (o:Obj) (r:Hp) (h:j≠i):da ((j,o)::r) i=(j,o)::da r i:=by simp only [da,cd h,yH]
def rd (hp:Hp) (ct:Nat) (q:Option AV):fS:=match q with | some v=>some (v,hp,ct) | none=>none
def mk (hp:Hp) (ct:Nat) (q:Option (AV×Obj)):fS:=match q with | some (v,b)=>some (v,(ct,b)::hp,ct+1) | none=>none
def auy (hp:Hp) (ct:Nat) (v:AV):rd hp ct (some v)=some (v,hp,ct):=rfl
def auz (hp:Hp) (ct:Nat) (v:AV) (b:Obj):mk hp ct (some (v,b))=some (v,(ct,b)::hp,ct+1):=rfl
def Sr (c a b:AV):Option AV:=match c with | .bool t=>some (bif t then a else b) | _=>none
def Kq (k:Nat->Option AV) (n:Option Nat):Option AV:=match n with | some i=>k i | none=>none
def acf (r:Option (List AV)):Option AV:=match r with | some cs=>some (.agg cs) | none=>none
def Jz (ne:Bool) (r:Option Bool):Option AV:=match r with | some b=>some (.bool (ne !=b)) | none=>none
def auA:AV->Option AV
 | .ptr id o=>some (.ptr id o)
 | .aJ cs=>some (.aJ cs)
 | .fn f a b=>some (.fn f a b)
 | _=>none
def JA (i:Nat):AV->Option AV | .ap vs=>vs[i]? | _=>none
section
variable {f:cw} {tm:Env} {hp:Hp} {ct:Nat}
def ap0 (x:X):a7 P L f tm hp ct (.mC x)=some (az tm x,hp,ct):=rfl
def anQ (c a b:X):a7 P L f tm hp ct (.pick c a b)=rd hp ct (Sr (az tm c) (az tm a) (az tm b)):=by
 rfl
def als (z:List AV) (ps:List (Nat×Nat×X)):a7 P L f tm hp ct (.AL z ps)=rd hp ct (acf (fill tm z ps)):=by
 rfl
def as0 (sz:Nat) (ag:Bool) (x:X):a7 P L f tm hp ct (.ld sz ag x)=rd hp ct (jb hp sz ag (az tm x)):=rfl
def anR (x:X):a7 P L f tm hp ct (.I3 x)=rd hp ct (auA (az tm x)):=by
 rfl
def ap1 (op:BinOp) (x y:X):a7 P L f tm hp ct (.bin op x y)=rd hp ct (binOp op (az tm x) (az tm y)):=rfl
def as3 (ne:Bool) (k:Ov) (x y:X):a7 P L f tm hp ct (.eq ne k x y)=rd hp ct (Jz ne (jS k (az tm x) (az tm y))):=by
 rfl
def as4 (op:UnOp) (x:X):a7 P L f tm hp ct (.un op x)=rd hp ct (unOp op (az tm x)):=rfl
def as5 (k:Conv) (x:X):a7 P L f tm hp ct (.cv k x)=rd hp ct (iG k (az tm x)):=rfl
def ap2 (g:Fr) (a b:List X):a7 P L f tm hp ct (.Ff g a b)=some (.fn g (di tm a) (di tm b),hp,ct):=rfl
def ap3 (k:Cut) (x:X) (lo hi:Option X):a7 P L f tm hp ct (.oY k x lo hi)=rd hp ct (fB hp k (az tm x) tm lo hi):=rfl
def ap4 (k:Nat) (x:X):a7 P L f tm hp ct (.off k x)=rd hp ct (IC k (az tm x)):=rfl
def ap5 (o sz:Nat) (ag:Bool) (x:X):a7 P L f tm hp ct (.JW o sz ag x)=rd hp ct (MI o sz ag (az tm x)):=rfl
def ap6 (sz:Nat) (x i:X):a7 P L f tm hp ct (.bn sz x i)=rd hp ct (Kq (fun j=>ju sz j (az tm x)) (dI (az tm i))):=by
 rfl
def ap7 (n sz:Nat) (x i:X):a7 P L f tm hp ct (.Fg n sz x i)=rd hp ct (Kq (fun j=>ID n sz j (az tm x)) (dI (az tm i))):=by
 rfl
def ap8 (x i:X):a7 P L f tm hp ct (.Fh x i)=rd hp ct (Kq (fun j=>mP j (az tm x)) (dI (az tm i))):=by
 rfl
def ap9 (n sz:Nat) (ag:Bool) (x i:X):a7 P L f tm hp ct (.Bk n sz ag x i)=rd hp ct (Kq (fun j=>IE n sz ag j (az tm x)) (dI (az tm i))):=by
 rfl
def aqa (i:Nat) (x:X):a7 P L f tm hp ct (.ext i x)=rd hp ct (JA i (az tm x)):=by
 rfl
def aqb (k:Nat) (x:X):a7 P L f tm hp ct (.len k x)=rd hp ct (jv hp k (az tm x)):=rfl
def aqc (sz:Nat) (x:X):a7 P L f tm hp ct (.box sz x)=mk hp ct (cN tm hp ct (.box sz x)):=rfl
def anS (n sz:Nat) (z:List AV) (ps:List (Nat×Nat×X)):a7 P L f tm hp ct (.mT n sz z ps)=mk hp ct (cN tm hp ct (.mT n sz z ps)):=rfl
def aqd (sz by':Nat) (z:List AV) (l c:X):a7 P L f tm hp ct (.nU sz by' z l c)=mk hp ct (cN tm hp ct (.nU sz by' z l c)):=rfl
def aqe:a7 P L f tm hp ct .zG=some (.map ct,(ct,.mp true [] [])::hp,ct+1):=rfl
def aqf (x:X):a7 P L f tm hp ct (.pc x)=mk hp ct (cN tm hp ct (.pc x)):=rfl
def as6 (sz:Nat) (x v:X):a7 P L f tm hp ct (.st sz x v)=cJ tm hp ct (.st sz x v):=rfl
def aqg (sz by':Nat) (s x:X):a7 P L f tm hp ct (.cR sz by' s x)=cJ tm hp ct (.cR sz by' s x):=rfl
def MX (hp:Hp) (ct:Nat) (r:Option AV):fS:=match r with | some v=>some (shut v,hp,ct) | none=>none
def N1 (hp:Hp) (ct:Nat) (r:Option AV):fS:=match r with | some v=>some (own hp ct v) | none=>none
def Ss (P:aG) (L:Lib) (f:cw) (ct n:Nat) (q:Option (List AV×Hp)):fS:=match q with | some (vals,hp)=>MX hp ct (bF P L f n vals) | none=>none
def Su (P:aG) (L:Lib) (f:cw) (ct n:Nat) (q:Option (List AV×Hp)):fS:=match q with | some (vals,hp)=>N1 hp ct (bF P L f n vals) | none=>none
def Sv (P:aG) (L:Lib) (f:cw) (hp:Hp) (ct:Nat) (fv:AV) (xs:List AV):fS:=dA P L f hp ct .pure fv xs
def Sw (P:aG) (L:Lib) (f:cw) (hp:Hp) (ct:Nat) (fv:AV) (xs:List AV):fS:=dA P L f hp ct .own fv xs
def alt (g:X) (xs:List X):a7 P L f tm hp ct (.call .pure g xs)=Sv P L f hp ct (az tm g) (di tm xs):=rfl
def alu (g:X) (xs:List X):a7 P L f tm hp ct (.call .own g xs)=Sw P L f hp ct (az tm g) (di tm xs):=rfl
def alv (g:X) (xs:List X):a7 P L f tm hp ct (.call .heap g xs)=dA P L f hp ct .heap (az tm g) (di tm xs):=rfl
def anT (n:Nat) (first cap xs:List AV):Sv P L f hp ct (.fn (.f n) first cap) xs=Ss P L f ct n (cB deep hp (first++(xs++cap))):=by
 simp only [Sv,dA,Ss,MX]
 cases cB deep hp (first++(xs++cap)) with
 | none=>rfl
 | some q=>cases bF P L f n q.1<;>rfl
def anU (n:Nat) (first cap xs:List AV):Sw P L f hp ct (.fn (.f n) first cap) xs=Su P L f ct n (cB deep hp (first++(xs++cap))):=by
 simp only [Sw,dA,Su,N1]
 cases cB deep hp (first++(xs++cap)) with
 | none=>rfl
 | some q=>cases bF P L f n q.1<;>rfl
def anV (n:Nat) (vals:List AV):Ss P L f ct n (some (vals,hp))=MX hp ct (bF P L f n vals):=rfl
def anW (n:Nat) (vals:List AV):Su P L f ct n (some (vals,hp))=N1 hp ct (bF P L f n vals):=rfl
def anX (v:AV):MX hp ct (some v)=some (shut v,hp,ct):=rfl
def aqh (v:AV):N1 hp ct (some v)=some (own hp ct v):=rfl
def N2 (hp:Hp) (r:Option AV):Option AV:=match r with | some v=>result hp v | none=>none
def dV (rs:List RV) (q:Option (Ex×St)):Option AV:=
 match q with
 | some (.normal,s) | some (.ret,s)=>N2 s.hp (gY s rs)
 | _=>none
def aA {n:Nat} {F:au} (h:Has P L n F) (vals:List AV):bF P L f n vals=dV F.dd (f F.body ⟨eh 0 vals,[],0,0⟩):=by
 simp only [bF,h.pure,h.code]
 cases hq:f F.body ⟨eh 0 vals,[],0,0⟩ with
 | none=>rfl
 | some q=>
  obtain ⟨e,s⟩:=q
  cases e with
  | normal=>rfl
  | ret=>rfl
  | exit id=>rfl
def aqi (rs:List RV) (s:St):dV rs (some (.normal,s))=N2 s.hp (gY s rs):=rfl
def aqj (rs:List RV) (s:St):dV rs (some (.ret,s))=N2 s.hp (gY s rs):=rfl
def aqk (v:AV):N2 hp (some v)=result hp v:=rfl
def JB (r:RV) (s:St):gY s [r]=results1 s r:=by
 simp only [gY,li];cases results1 s r<;>rfl
def adk (r:Option (List AV)):Option AV:=match r with | some vs=>some (.ap vs) | none=>none
def auB (r q:RV) (l:List RV) (s:St):gY s (r::q::l)=adk (li s (r::q::l)):=by
 simp only [gY,li];cases results1 s r<;>cases results1 s q<;>cases li s l<;>rfl
def acg (r:Option AV) (l:Option (List AV)):Option (List AV):=match r,l with | some v,some vs=>some (v::vs) | _,_=>none
def alw (s:St):li s []=some []:=rfl
def ajk (r:RV) (l:List RV) (s:St):li s (r::l)=acg (results1 s r) (li s l):=rfl
def anY (v:AV) (vs:List AV):acg (some v) (some vs)=some (v::vs):=rfl
def aql (vs:List AV):adk (some vs)=some (.ap vs):=rfl
def IU (i:Nat) (s:St):results1 s (.t i)=some (aj s.tm i):=rfl
def as7 (a:AV):eh 0 [a]=[(0,a)]:=rfl
def as8 (a b:AV):eh 0 [a,b]=[(0,a),(1,b)]:=rfl
def as9 (a b c:AV):eh 0 [a,b,c]=[(0,a),(1,b),(2,c)]:=rfl
def ata (a b c d:AV):eh 0 [a,b,c,d]=[(0,a),(1,b),(2,c),(3,d)]:=rfl
def atb (a b c d e:AV):eh 0 [a,b,c,d,e]=[(0,a),(1,b),(2,c),(3,d),(4,e)]:=rfl
def ahV (k:y8) (n:Int):result hp (.int k n)=some (.int k n):=rfl
def ahl (b:Bool):result hp (.bool b)=some (.bool b):=rfl
def ahW (s:List Nat):result hp (.str s)=some (.str s):=rfl
def ahm:result hp .af=some .af:=rfl
def ahX (e:Bool) (n:Nat) (cs:List AV):result hp (.aC e n cs)=some (.aC e n cs):=rfl
def shut_int (k:y8) (n:Int):shut (.int k n)= .int k n:=rfl
def shut_bool (b:Bool):shut (.bool b)= .bool b:=rfl
def alx (s:List Nat):shut (.str s)= .str s:=rfl
def ajl:shut .af= .af:=rfl
def aly (e:Bool) (n:Nat) (cs:List AV):shut (.aC e n cs)= .aC e n cs:=rfl
def alz (e:Bool) (sz n:Nat) (cs:List AV):shut (.cf e sz n cs)= .aC e n cs:=rfl
def bg (cs:List AV):shut (.agg cs)= .agg cs:=rfl
def anZ (g:Fr) (a b:List AV):shut (.fn g a b)= .fn g a b:=rfl
def iz (vs:List AV):shut (.ap vs)= .ap (Cv vs):=rfl
def jq:Cv []=[]:=rfl
def jo (v:AV) (r:List AV):Cv (v::r)=bP v::Cv r:=rfl
def ajm (k:y8) (n:Int):bP (.int k n)= .int k n:=rfl
def ahY (b:Bool):bP (.bool b)= .bool b:=rfl
def ajn (s:List Nat):bP (.str s)= .str s:=rfl
def ahZ:bP .af= .af:=rfl
def ajo (e:Bool) (n:Nat) (cs:List AV):bP (.aC e n cs)= .aC e n cs:=rfl
def ajp (e:Bool) (sz n:Nat) (cs:List AV):bP (.cf e sz n cs)= .aC e n cs:=rfl
def qP (cs:List AV):bP (.agg cs)= .agg cs:=rfl
def Tn (n:Nat) (r:List AV) (q:Option (AV×Hp)):Option (List AV×Hp):=match q with | some (v,hp)=>(match cB n hp r with | some (vs,jC)=>some (v::vs,jC) | none=>none) | none=>none
def adl (v:AV) (q:Option (List AV×Hp)):Option (List AV×Hp):=match q with | some (vs,hp)=>some (v::vs,hp) | none=>none
def alA (n:Nat):cB (n+1) hp []=some ([],hp):=rfl
def Yo (n:Nat) (v:AV) (r:List AV):cB (n+1) hp (v::r)=Tn n r (freeze n hp v):=by
 simp only [cB,Tn];cases freeze n hp v<;>rfl
def aaQ (n:Nat) (r:List AV) (v:AV):Tn n r (some (v,hp))=adl v (cB n hp r):=by
 rfl
def aqm (v:AV) (vs:List AV):adl v (some (vs,hp))=some (v::vs,hp):=rfl
def an0 (n:Nat) (k:y8) (a:Int):freeze (n+1) hp (.int k a)=some (.int k a,hp):=rfl
def alB (n:Nat) (b:Bool):freeze (n+1) hp (.bool b)=some (.bool b,hp):=rfl
def an1 (n:Nat) (s:List Nat):freeze (n+1) hp (.str s)=some (.str s,hp):=rfl
def alC (n:Nat):freeze (n+1) hp .af=some (.af,hp):=rfl
def an2 (n:Nat) (e:Bool) (k:Nat) (cs:List AV):freeze (n+1) hp (.aC e k cs)=some (.aC e k cs,hp):=rfl
def alD (n:Nat) (cs:List AV):freeze (n+1) hp (.aJ cs)=some (.aJ cs,hp):=rfl
end
end
section
variable {hp:Hp}
def aqn (a b:AV):Sr (.bool true) a b=some a:=rfl
def aqo (a b:AV):Sr (.bool false) a b=some b:=rfl
def atc (k:Nat->Option AV) (n:Nat):Kq k (some n)=k n:=rfl
def ah0 (k:y8) (n:Nat):dI (.int k (n:Int))=some n:=rfl
def aqp (k:y8):dI (.int k 0)=some 0:=rfl
def aqq (k:y8):dI (.int k 1)=some 1:=rfl
def aqr (k:y8):dI (.int k 2)=some 2:=rfl
def aqs (k:y8):dI (.int k 3)=some 3:=rfl
def aqt (k:y8):dI (.int k 4)=some 4:=rfl
def aqu (k:y8):dI (.int k 5)=some 5:=rfl
def aqv (k:y8):dI (.int k 6)=some 6:=rfl
def aqw (k:y8):dI (.int k 7)=some 7:=rfl
def aqx (k:y8):dI (.int k 8)=some 8:=rfl
def aqy (k:y8):dI (.int k 9)=some 9:=rfl
def an3 (cs:List AV):acf (some cs)=some (.agg cs):=rfl
def aam (k:y8) (a b:Int):binOp .add (.int k a) (.int k b)=some (.int k (k.wrap (a+b))):=by simp [binOp,lA]
def Mf (k:y8) (a b:Int):binOp .sub (.int k a) (.int k b)=some (.int k (k.wrap (a-b))):=by simp [binOp,lA]
def aan (k:y8) (a b:Int):binOp .mul (.int k a) (.int k b)=some (.int k (k.wrap (a*b))):=by simp [binOp,lA]
def eQ (k:y8) (a b:Int) (h:b≠0):binOp .quo (.int k a) (.int k b)=some (.int k (k.wrap (a.tdiv b))):=by simp [binOp,lA,h]
def eI (k:y8) (a b:Int) (h:b≠0):binOp .rem (.int k a) (.int k b)=some (.int k (a.tmod b)):=by simp [binOp,lA,h]
def an4 (k:y8) (a b:Int):binOp .eql (.int k a) (.int k b)=some (.bool (decide (a=b))):=by
 simp [binOp,lA,intCmp,BEq.beq]
def an5 (k:y8) (a b:Int):binOp .neq (.int k a) (.int k b)=some (.bool (!decide (a=b))):=by
 simp [binOp,lA,intCmp,bne,BEq.beq]
def an6 (k:y8) (a b:Int):binOp .lss (.int k a) (.int k b)=some (.bool (decide (a<b))):=by simp [binOp,lA,intCmp]
def an7 (k:y8) (a b:Int):binOp .leq (.int k a) (.int k b)=some (.bool (decide (a<=b))):=by simp [binOp,lA,intCmp]
def an8 (k:y8) (a b:Int):binOp .gtr (.int k a) (.int k b)=some (.bool (decide (b<a))):=by simp [binOp,lA,intCmp]
def an9 (k:y8) (a b:Int):binOp .geq (.int k a) (.int k b)=some (.bool (decide (b<=a))):=by simp [binOp,lA,intCmp]
def aqz (k:y8) (a:Int):unOp .neg (.int k a)=some (.int k (k.wrap (0-a))):=rfl
def aqA (b:Bool):unOp .not (.bool b)=some (.bool !b):=rfl
def alE:jv hp 1 .af=some (.int .i64 0):=rfl
def aoa (e:Bool) (n:Nat) (cs:List AV):jv hp 1 (.aC e n cs)=some (.int .i64 n):=rfl
def aob (id o n:Nat):jv hp 1 (.ay id o n)=some (.int .i64 n):=rfl
def aoc (s:List Nat):jv hp 0 (.str s)=some (.int .i64 s.length):=rfl
def Q5 {sz i n:Nat} (e:Bool) (cs:List AV) (h:i<n):ju sz i (.aC e n cs)=some (.aJ (cs.drop (i*sz))):=by
 have hb:yK i n=true:=yy h;simp only [ju]
 grind
def cU {sz i n:Nat} (id o:Nat) (h:i<n):ju sz i (.ay id o n)=some (.ptr id (o+i*sz)):=by
 have hb:yK i n=true:=yy h;simp only [ju]
 grind
def LU (v:AV) (cs:List AV):jb hp 1 false (.aJ (v::cs))=some v:=rfl
def O5 (sz:Nat) (ag:Bool) (o:Nat) (q:Option Obj):Option AV:=match q with | some (.cells _ _ _ _ cs)=>gl sz ag (cs.drop o) | _=>none
def aqB (sz:Nat) (ag:Bool) (id o:Nat):jb hp sz ag (.ptr id o)=O5 sz ag o (an hp id):=by
 rfl
def atd (sz:Nat) (ag:Bool) (o:Nat) (rw pu ex:Bool) (z:Nat) (cs:List AV):O5 sz ag o (some (.cells rw pu ex z cs))=gl sz ag (cs.drop o):=rfl
def ate (sz:Nat) (v:AV) (cs:List AV):gl sz false (v::cs)=some v:=rfl
def auC (a:AV) (l:List AV):JA 0 (.ap (a::l))=some a:=rfl
def ext1 (a b:AV) (l:List AV):JA 1 (.ap (a::b::l))=some b:=rfl
def auD (a b c:AV) (l:List AV):JA 2 (.ap (a::b::c::l))=some c:=rfl
def auE (a b c d:AV) (l:List AV):JA 3 (.ap (a::b::c::d::l))=some d:=rfl
end
def ze:Env->Bool
 | []=>true
 | (_,v)::r=>aV v&&ze r
mutual
def aE:∀{v:AV},aV v=true->refs v=[]
 | .int _ _,_ | .bool _,_ | .aB _ _,_ | .str _,_ | .kQ,_ | .aJ _,_ | .af,_ | .aC _ _ _,_ | .iF,_ | .jQ,_ | .jz _ _,_ | .undef,_=>rfl
 | .ptr _ _,h | .ay _ _ _,h | .map _,h | .it _,h | .cf _ _ _ _,h=>by simp [aV] at h
 | .fn (.y _) _ _,h=>by simp [aV] at h
 | .fn (.f _) first cap,h=>by
  simp only [aV,yg] at h;simp only [refs,Hf h.1,Hf h.2,xW]
 | .agg cs,h=>by simp only [aV] at h;simp only [refs,Hf h]
 | .ap cs,h=>by simp only [aV] at h;simp only [refs,Hf h]
def Hf:∀{vs:List AV},aF vs=true->eT vs=[]
 | [],_=>rfl
 | v::r,h=>by
  simp only [aF,yg] at h;simp only [eT,aE h.1,Hf h.2,xW]
end
mutual
def aH (f:Nat->Option Nat):∀{v:AV},aV v=true->bU f v=v
 | .int _ _,_ | .bool _,_ | .aB _ _,_ | .str _,_ | .kQ,_ | .aJ _,_ | .af,_ | .aC _ _ _,_ | .iF,_ | .jQ,_ | .jz _ _,_ | .undef,_=>rfl
 | .ptr _ _,h | .ay _ _ _,h | .map _,h | .it _,h | .cf _ _ _ _,h=>by simp [aV] at h
 | .fn (.y _) _ _,h=>by simp [aV] at h
 | .fn (.f _) first cap,h=>by
  simp only [aV,yg] at h;simp only [bU,Hm f h.1,Hm f h.2]
 | .agg cs,h=>by simp only [aV] at h;simp only [bU,Hm f h]
 | .ap cs,h=>by simp only [aV] at h;simp only [bU,Hm f h]
def Hm (f:Nat->Option Nat):∀{vs:List AV},aF vs=true->fJ f vs=vs
 | [],_=>rfl
 | v::r,h=>by
  simp only [aF,yg] at h;simp only [fJ,aH f h.1,Hm f h.2]
end
def Xz:∀{tm:Env},ze tm=true->fA tm=[]
 | [],_=>rfl
 | (i,v)::r,h=>by
  simp only [ze,yg] at h;simp only [fA,aE h.1,Xz h.2,xW]
def Yp (f:Nat->Option Nat):∀{tm:Env},ze tm=true->kR f tm=tm
 | [],_=>rfl
 | (i,v)::r,h=>by
  simp only [ze,yg] at h;simp only [kR,aH f h.1,Yp f h.2]
def KY {live:List Nat} {tm:Env} {ct:Nat} (h:ze (cK tm live)=true):aM live ⟨tm,[],ct,0⟩=⟨cK tm live,[],0,0⟩:=by
 simp only [aM,Xz h,ej,xW];simp only [reach,kL,kh,Yp _ h,yI,yW]
def ahn {tm:Env} {ct:Nat}:aM [] ⟨tm,[],ct,0⟩=⟨[],[],0,0⟩:=rfl
def HA {P:aG} {L:Lib} {live:List Nat} {a:VC} (I:Nat->St->Prop) (Q:Ex->St->Prop)
  (step:∀k s,I k s->(∃s' k',D P L a (aM live s)=some (.normal,s')/\k'<k/\I k' s')\/(∃ex s',D P L a (aM live s)=some (ex,s')/\ex≠.normal/\Q ex s')):
  ∀k s,I k s->∃ex s',D P L (.loop live a) s=some (ex,s')/\Q ex s':=by
 intro k
 induction k using vB with
 | _ k ih=>
  intro s hI;rw [Eu];rcases step k s hI with ⟨s',k',h1,h2,h3⟩ | ⟨ex,s',h1,h2,h3⟩
  ·rw [h1,aaj];exact ih k' h2 s' h3
  ·rw [h1]
   cases ex with
   | normal=>exact absurd rfl h2
   | ret=>exact ⟨.ret,s',rfl,h3⟩
   | exit id=>exact ⟨.exit id,s',rfl,h3⟩
def iU {P:aG} {L:Lib} {live:List Nat} {a:VC} (I:Nat->St->Prop) (Q:Ex->St->Prop)
  (step:∀k s,I k s->(∃s' k',D P L a s=some (.normal,s')/\k'<k/\I k' (aM live s'))\/(∃ex s',D P L a s=some (ex,s')/\ex≠.normal/\Q ex s')):
  ∀k s,I k (aM live s)->∃ex s',D P L (.loop live a) s=some (ex,s')/\Q ex s':=
 HA (fun k s=>I k (aM live s)) Q (fun k s h=>step k _ h)
def dh {P:aG} {L:Lib} {live:List Nat} {a:VC} {I:Nat->St->Prop} {Q:Ex->St->Prop}
  (step:∀k s,I k s->(∃s' k',D P L a s=some (.normal,s')/\k'<k/\I k' (aM live s'))\/(∃ex s',D P L a s=some (ex,s')/\ex≠.normal/\Q ex s')):
  ∀k s s0,aM live s=s0->I k s0->∃ex s',D P L (.loop live a) s=some (ex,s')/\Q ex s':=fun k s s0 h hi=>iU I Q step k s (h▸hi)
def bI {P:aG} {L:Lib} {c:VC} {s:St} {q:Option (Ex×St)} {I:St->Prop} {Q:Ex->St->Prop} (hq:D P L c s=q) (key:∀s,I s->∃ex s',D P L c s=some (ex,s')/\Q ex s') (hI:I s):
  ∃ex s',q=some (ex,s')/\Q ex s':=by
 rw [<-hq];exact key s hI
def alF (tm:Env):cK tm []=[]:=rfl
def ajq (tm:Env) (i:Nat) (r:List Nat):cK tm (i::r)=(i,aj tm i)::cK tm r:=rfl
def ajr:ze []=true:=rfl
def ah1 (i:Nat) (v:AV) (r:Env):ze ((i,v)::r)=(aV v&&ze r):=rfl
def Ev (k:y8) (n:Int):aV (.int k n)=true:=(rfl)
def aod (b:Bool):aV (.bool b)=true:=(rfl)
def aqC (s:List Nat):aV (.str s)=true:=(rfl)
def aoe:aV .af=true:=(rfl)
def aqD (e:Bool) (n:Nat) (cs:List AV):aV (.aC e n cs)=true:=(rfl)
def aof (cs:List AV):aV (.aJ cs)=true:=(rfl)
def alG:aV .undef=true:=(rfl)
attribute [go_sem] deep ahn alF ajq ajr ah1 Ev aod aqC aoe aqD aof alG vn wP
attribute [go_sem] apU apV asY Tm auw Sm iE apW Sn fF anH anI aaj anJ anK Q3 anL Q4 anM aaP apX anN anO
 aak alj aje aal asZ ace alk alm aln alo anP apY apZ ajf ahU alp ajg Hz ajh Zh aji alq alr ajj
 auy auz ap0 anQ als as0 anR ap1 as3 as4 as5 ap2 ap3 ap4 ap5 ap6 ap7 ap8 ap9 aqa aqb aqc anS aqd aqe aqf as6 aqg alt alu alv
 anT anU anV anW anX aqh aqi aqj aqk JB auB alw ajk anY aql IU as7 as8 as9 ata atb
 ahV ahl ahW ahm ahX shut_int shut_bool alx ajl aly alz bg anZ iz jq jo ajm ahY ajn ahZ ajo ajp qP
 alA Yo aaQ aqm an0 alB an1 alC an2 alD
 aqn aqo atc ah0 aqp aqq aqr aqs aqt aqu aqv aqw aqx aqy an3 aam Mf aan an4 an5 an6 an7 an8 an9 aqz aqA alE aoa aob aoc LU aqB atd ate auC ext1 auD auE
 xX xW yY yq yu Bool.not_true Bool.not_false ybY yal
end
abbrev aa (n:Int):AV:= .int .i64 n
def cE (v:AV) (cs:List AV):Prop:=(v= .af/\cs=[])\/∃e,v= .aC e cs.length cs
section
variable {v:AV} {cs:List AV} {hp:Hp}
def cE.len (h:cE v cs) {hp:Hp}:jv hp 1 v=some (.int .i64 (cs.length:Nat)):=by
 rcases h with ⟨rfl,rfl⟩ | ⟨e,rfl⟩<;>rfl
def cE.pu (h:cE v cs):aV v=true:=by
 rcases h with ⟨rfl,rfl⟩ | ⟨e,rfl⟩<;>rfl
def cE.ai (h:cE v cs) (n:Nat) {hp:Hp}:freeze (n+1) hp v=some (v,hp):=by
 rcases h with ⟨rfl,rfl⟩ | ⟨e,rfl⟩<;>rfl
def cE.shut (h:cE v cs):shut v=v:=by
 rcases h with ⟨rfl,rfl⟩ | ⟨e,rfl⟩<;>rfl
def cE.bP (h:cE v cs):bP v=v:=by
 rcases h with ⟨rfl,rfl⟩ | ⟨e,rfl⟩<;>rfl
def cE.dd (h:cE v cs) {hp:Hp}:result hp v=some v:=by
 rcases h with ⟨rfl,rfl⟩ | ⟨e,rfl⟩<;>rfl
def cE.bn (h:cE v cs) {i:Nat} (hi:i<cs.length):ju 1 i v=some (.aJ (cs[i]::cs.drop (i+1))):=by
 rcases h with ⟨rfl,rfl⟩ | ⟨e,rfl⟩
 ·grind
 ·rw [Q5 e _ hi,yj,yO hi]
def cE.one (h:cE v cs):bc v=true:=by
 rcases h with ⟨rfl,rfl⟩ | ⟨e,rfl⟩<;>rfl
def cE.cells (h:cE v cs):cellsOf v=[v]:=by
 rcases h with ⟨rfl,rfl⟩ | ⟨e,rfl⟩<;>rfl
def Ca (e:Bool) (cs:List AV):cE (.aC e cs.length cs) cs:= .inr ⟨e,rfl⟩
def qQ:cE .af []:= .inl ⟨rfl,rfl⟩
end
def a8 (v:AV) (l:List Int):Prop:=cE v (l.map aa)
section
variable {v:AV} {l:List Int}
def a8.len (h:a8 v l) {hp:Hp}:jv hp 1 v=some (.int .i64 (l.length:Nat)):=by
 have:=cE.len (hp:=hp) h
 grind
def a8.pu (h:a8 v l):aV v=true:=cE.pu h
def a8.ai (h:a8 v l) (n:Nat) {hp:Hp}:freeze (n+1) hp v=some (v,hp):=cE.ai h n
def a8.shut (h:a8 v l):VE.shut v=v:=cE.shut h
def a8.bP (h:a8 v l):VE.bP v=v:=cE.bP h
def a8.dd (h:a8 v l) {hp:Hp}:result hp v=some v:=cE.dd h
def a8.one (h:a8 v l):bc v=true:=cE.one h
def a8.cells (h:a8 v l):cellsOf v=[v]:=cE.cells h
def a8.bn (h:a8 v l) {i:Nat} (hi:i<l.length):ju 1 i v=some (.aJ (.int .i64 l[i]::(l.map aa).drop (i+1))):=by
 have:=cE.bn h (i:=i) (by simpa using hi)
 grind
def gZ (e:Bool) (l:List Int):a8 (.aC e l.length (l.map aa)) l:=by
 have:=Ca e (l.map aa)
 rwa [xo] at this
end
def nK {α β:Type} (p:α->β->Prop):List α->List β->Prop
 | [],[]=>True
 | a::r,b::s=>p a b/\nK p r s
 | _,_=>False
section
variable {α β:Type} {p:α->β->Prop}
def nK.len:∀{l:List α} {m:List β},nK p l m->l.length=m.length
 | [],[],_=>rfl
 | _::_,_::_,h=>by rw [yv,yv,h.2.len]
def nK.get:∀{l:List α} {m:List β} (_:nK p l m) {i:Nat} (h1:i<l.length) (h2:i<m.length),p l[i] m[i]
 | a::r,b::s,h,0,_,_=>h.1
 | a::r,b::s,h,i+1,h1,h2=>by
  exact h.2.get (by simpa using h1) (by simpa using h2)
end
def fV (v:AV) (s:List (List Int)):Prop:=∃rows,cE v rows/\nK a8 rows s
section
variable {v:AV} {s:List (List Int)}
def fV.len (h:fV v s) {hp:Hp}:jv hp 1 v=some (.int .i64 (s.length:Nat)):=by
 obtain ⟨rows,h1,h2⟩:=h;rw [<-h2.len];exact h1.len
def fV.pu (h:fV v s):aV v=true:=by obtain ⟨rows,h1,h2⟩:=h;exact h1.pu
def fV.ai (h:fV v s) (n:Nat) {hp:Hp}:freeze (n+1) hp v=some (v,hp):=by obtain ⟨rows,h1,h2⟩:=h;exact h1.ai n
def fV.one (h:fV v s):bc v=true:=by obtain ⟨rows,h1,h2⟩:=h;exact h1.one
def fV.cells (h:fV v s):cellsOf v=[v]:=by obtain ⟨rows,h1,h2⟩:=h;exact h1.cells
def fV.bn (h:fV v s) {i:Nat} (hi:i<s.length):∃r rest,a8 r s[i]/\ju 1 i v=some (.aJ (r::rest)):=by
 obtain ⟨rows,h1,h2⟩:=h;have cD:i<rows.length:=by rw [h2.len];exact hi
 exact ⟨_,_,h2.get cD hi,h1.bn cD⟩
def alH:fV .af []:=⟨[],qQ,trivial⟩
end
def wrap64 {n:Int} (h1: -9223372036854775808<=n) (h2:n<9223372036854775808):IntKind.wrap .i64 n=n:=by
 simp only [IntKind.wrap,IntKind.bits,IntKind.signed,wP]
 grind
def wrapN {n:Nat} (h:n<9223372036854775808):IntKind.wrap .i64 (n:Int)=n:=wrap64 (by omega) (by omega)
section
variable {P:aG} {L:Lib}
abbrev ab (P:aG) (L:Lib) (f:Nat) (vals:List AV) (r:AV):Prop:=bF P L (D P L) f vals=some r
def s30 (h:Has P L 30 Dq) (n lo hi:Int):ab P L 30 [aa n,aa lo,aa hi] (aa (if n<lo\/hi<n then 3 else 0)):=by
 unfold ab;rw [aA h];by_cases h1:n<lo
 ·simp only [go_sem,ya,Dq,h1,true_or,xB]
 ·by_cases h2:hi<n
  ·simp only [go_sem,ya,Dq,h1,h2,or_true,xB]
  ·simp only [go_sem,ya,Dq,h1,h2,or_self,xk]
def O6 (h:Has P L 31 Fw) (b:Bool) (n:Int):ab P L 31 [.bool b,aa n] (aa (if b=true then n else 0)):=by
 unfold ab;rw [aA h]
 cases b with
 | true=>simp only [go_sem,ya,Fw,xB]
 | false=>simp only [go_sem,ya,Fw];rfl
def FK (h:Has P L 33 Fx) {v:AV} {l:List Int} (hv:a8 v l) (hl:l.length<=1000000):ab P L 33 [v] (aa (bX l)):=by
 unfold ab;rw [aA h];simp only [go_sem,ya,Fx,hv.len];have key:=HA (P:=P) (L:=L) (live:=[5,6,7]) (a:=MQ)
  (I:=fun k s=>∃tm ct i,s=⟨tm,[],ct,0⟩/\aj tm 5=v/\aj tm 6=aa l.length/\aj tm 7=aa (i:Nat)/\i+k=l.length/\bX (l.drop i)=bX l)
  (Q:=fun ex s=>∃tm,s=⟨tm,[],0,0⟩/\((ex= .ret/\aj tm 2=aa (bX l))\/(ex= .exit 0/\bX l=0))) ?_ l.length
 ·generalize hq:D P L (.loop [5,6,7] MQ) _=q;obtain ⟨ex,s,rfl,tm,rfl,h2⟩:=bI hq key ⟨_,_,0,rfl,rfl,rfl,rfl,by omega,rfl⟩;rcases h2 with ⟨rfl,h2⟩ | ⟨rfl,h2⟩
  ·simp only [go_sem,h2]
  ·rw [h2];simp only [go_sem]
 ·rintro k s ⟨tm,ct,i,rfl,h5,h6,h7,hk,hf⟩;rw [KY (by simp only [go_sem,h5,h6,h7,hv.pu])];simp only [go_sem,ya,h5,h6,h7,MQ];by_cases hi:i<l.length
  ·have cD:(i:Int)<l.length:=by omega
   rw [PI hi] at hf;by_cases hz:l[i]=0
   ·left
    simp only [go_sem,ya,cD,hv.bn hi,hz];refine ⟨_,k-1,rfl,by omega,_,_,i+1,rfl,?_⟩;rw [wrap64 (by omega) (by omega)];rw [yM hz] at hf;simp only [go_sem,ya];exact ⟨trivial,trivial,rfl,by omega,hf⟩
   ·right
    simp only [go_sem,ya,cD,hv.bn hi,hz];rw [yB hz] at hf;refine ⟨_,_,rfl,by simp,_,rfl,.inl ⟨rfl,?_⟩⟩;simp only [go_sem,hf]
  ·right
   have cD:¬(i:Int)<l.length:=by omega
   simp only [go_sem,cD];refine ⟨_,_,rfl,by simp,_,rfl,.inr ⟨rfl,?_⟩⟩;rw [<-hf,y5 (by omega)];rfl
def s42 {n:Nat} (h:Has P L n Ki) {v:AV} {l:List Int} (hv:a8 v l) (hl:l.length<=1000000):ab P L n [v] (aa (bX l)):=by
 unfold ab;rw [aA h];simp only [go_sem,Ki];have key:=HA (P:=P) (L:=L) (live:=[0,3]) (a:=MR)
  (I:=fun k s=>∃tm ct i,s=⟨tm,[],ct,0⟩/\aj tm 0=v/\aj tm 3=aa (i:Nat)/\i+k=l.length/\bX (l.drop i)=bX l)
  (Q:=fun ex s=>∃tm,s=⟨tm,[],0,0⟩/\((ex= .ret/\aj tm 2=aa (bX l))\/(ex= .exit 0/\bX l=0))) ?_ l.length
 ·generalize hq:D P L (.loop [0,3] MR) _=q;obtain ⟨ex,s,rfl,tm,rfl,h2⟩:=bI hq key ⟨_,_,0,rfl,rfl,rfl,by omega,rfl⟩;rcases h2 with ⟨rfl,h2⟩ | ⟨rfl,h2⟩
  ·simp only [go_sem,h2]
  ·rw [h2];simp only [go_sem]
 ·rintro k s ⟨tm,ct,i,rfl,h0,h3,hk,hf⟩;rw [KY (by simp only [go_sem,h0,h3,hv.pu])];simp only [go_sem,ya,h0,h3,MR,hv.len];by_cases hi:i<l.length
  ·have cD:(i:Int)<l.length:=by omega
   rw [PI hi] at hf;by_cases hz:l[i]=0
   ·left
    simp only [go_sem,ya,cD,hv.bn hi,hz];refine ⟨_,k-1,rfl,by omega,_,_,i+1,rfl,?_⟩;rw [wrap64 (by omega) (by omega)];rw [yM hz] at hf;simp only [go_sem,ya];exact ⟨trivial,rfl,by omega,hf⟩
   ·right
    simp only [go_sem,ya,cD,hv.bn hi,hz];rw [yB hz] at hf;refine ⟨_,_,rfl,by simp,_,rfl,.inl ⟨rfl,?_⟩⟩;simp only [go_sem,hf]
  ·right
   have cD:¬(i:Int)<l.length:=by omega
   simp only [go_sem,cD];refine ⟨_,_,rfl,by simp,_,rfl,.inr ⟨rfl,?_⟩⟩;rw [<-hf,y5 (by omega)];rfl
def s11 (h:Has P L 11 OO) (FL:Has P L 42 Ki) {v:AV} {l:List Int} (hv:a8 v l) (hl:l.length<=1000000):ab P L 11 [v] (aa (bX l)):=by
 unfold ab;rw [aA h];simp only [go_sem,ya,OO,hv.ai,s42 FL hv hl]
def adm (h:Has P L 134 ET) {n m:Int} (hm:0<m) (gm:m<=1000000):ab P L 134 [aa n,aa m] (aa (n%m)):=by
 unfold ab;rw [aA h];have h1:m≠0:=by omega
 have h2:n.tmod m<m:=ybd n hm;have h3: -m<n.tmod m:=by
  have h:=ybe n hm;omega
 simp only [go_sem,ya,ET,eI _ _ _ h1,wrap64 (n:=n.tmod m+m) (by omega) (by omega),anG hm]
end
section
variable {P:aG} {L:Lib} {f:cw} {tm:Env} {hp:Hp} {ct:Nat}
def ajs (k:y8) (n:Int):cellsOf (.int k n)=[.int k n]:=(rfl)
def ah2 (b:Bool):cellsOf (.bool b)=[.bool b]:=(rfl)
def ajt (s:List Nat):cellsOf (.str s)=[.str s]:=(rfl)
def ah3:cellsOf .af=[.af]:=(rfl)
def aju (e:Bool) (n:Nat) (cs:List AV):cellsOf (.aC e n cs)=[.aC e n cs]:=(rfl)
def ajv (id o n:Nat):cellsOf (.ay id o n)=[.ay id o n]:=(rfl)
def ajw (id o:Nat):cellsOf (.ptr id o)=[.ptr id o]:=(rfl)
def alI (g:Fr) (a b:List AV):cellsOf (.fn g a b)=[.fn g a b]:=(rfl)
def ajx (cs:List AV):cellsOf (.agg cs)=cs:=(rfl)
def HO (k:y8) (n:Int):bc (.int k n)=true:=(rfl)
def alJ (b:Bool):bc (.bool b)=true:=(rfl)
def aog (s:List Nat):bc (.str s)=true:=(rfl)
def alK:bc .af=true:=(rfl)
def aoh (e:Bool) (n:Nat) (cs:List AV):bc (.aC e n cs)=true:=(rfl)
def aoi (id o n:Nat):bc (.ay id o n)=true:=(rfl)
def aoj (id o:Nat):bc (.ptr id o)=true:=(rfl)
def aqE (g:Fr) (a b:List AV):bc (.fn g a b)=true:=(rfl)
def alL:bK []=true:=(rfl)
def Yq (v:AV) (r:List AV):bK (v::r)=(bc v&&bK r):=(rfl)
def ajy:aF []=true:=(rfl)
def XA (v:AV) (r:List AV):aF (v::r)=(aV v&&aF r):=(rfl)
def aqF (id o:Nat):aV (.ptr id o)=false:=(rfl)
def aaR (id o n:Nat):aV (.ay id o n)=false:=(rfl)
def atf (g:Nat) (a b:List AV):aV (.fn (.f g) a b)=(aF a&&aF b):=(rfl)
def auF (l:Nat) (a b:List AV):aV (.fn (.y l) a b)=false:=(rfl)
def aqG (cs:List AV):aV (.agg cs)=aF cs:=(rfl)
def aqH (cs:List AV):aV (.ap cs)=aF cs:=(rfl)
def A4 (ct sz:Nat) (cs:List AV):Option (AV×Obj):=bif yt cs.length sz&&bK cs then some (.ptr ct 0,.cells true (aF cs) true sz cs) else none
def aqI (sz:Nat) (x:X):cN tm hp ct (.box sz x)=A4 ct sz (cellsOf (az tm x)):=rfl
def ach {v:AV} (h:bc v=true):A4 ct 1 [v]=some (.ptr ct 0,.cells true (aV v&&true) true 1 [v]):=by
 simp [A4,bK,aF,h]
def aO {cs:List AV} {n:Nat} (hn:cs.length=n) (h:bK cs=true):A4 ct n cs=some (.ptr ct 0,.cells true (aF cs) true n cs):=by
 subst hn;simp [A4,h]
def gW (hp:Hp) (ct id o sz:Nat) (new:List AV) (q:Option Obj):fS:=
 match q with
 | some (.cells true pu ex z cs)=>bif yt new.length sz&&yG (o+sz) cs.length&&bK new then some (.ap [],aU hp id (.cells true (pu&&aF new) ex z (over o new cs)),ct) else none
 | _=>none
def stV (hp:Hp) (ct sz:Nat) (p:AV) (new:List AV):fS:=match p with | .ptr id o=>gW hp ct id o sz new (an hp id) | _=>none
def Zi (sz:Nat) (x v:X):cJ tm hp ct (.st sz x v)=stV hp ct sz (az tm x) (cellsOf (az tm v)):=rfl
def aci (sz id o:Nat) (new:List AV):stV hp ct sz (.ptr id o) new=gW hp ct id o sz new (an hp id):=rfl
def auG {v u:AV} {id z:Nat} {pu ex:Bool} (h:bc v=true):gW hp ct id 0 1 [v] (some (.cells true pu ex z [u]))=some (.ap [],aU hp id (.cells true (pu&&(aV v&&true)) ex z [v]),ct):=by
 simp [gW,bK,aF,h,over];rfl
def ri {new cs:List AV} {id o sz z:Nat} {pu ex:Bool} (h1:new.length=sz) (h2:o+sz<=cs.length) (h:bK new=true):
  gW hp ct id o sz new (some (.cells true pu ex z cs))=some (.ap [],aU hp id (.cells true (pu&&aF new) ex z (over o new cs)),ct):=by
 subst h1;simp [gW,h,yy h2]
def IV (ct n sz:Nat) (q:Option (List AV)):Option (AV×Obj):=match q with | some cs=>bif yt cs.length (n*sz) then some (.ay ct 0 n,.cells true (aF cs) true sz cs) else none | none=>none
def aok (n sz:Nat) (z:List AV) (ps:List (Nat×Nat×X)):cN tm hp ct (.mT n sz z ps)=IV ct n sz (fill tm z ps):=by
 simp only [cN,IV];cases fill tm z ps<;>rfl
def aao {n sz:Nat} {cs:List AV} (h:cs.length=n*sz):IV ct n sz (some cs)=some (.ay ct 0 n,.cells true (aF cs) true sz cs):=by
 simp [IV,h]
def gE (tm:Env) (cs:List AV) (o sz:Nat) (new:List AV) (r:List (Nat×Nat×X)):Option (List AV):=
 bif yt new.length sz&&yG (o+sz) cs.length&&bK new then fill tm (over o new cs) r else none
def alM (cs:List AV):fill tm cs []=some cs:=rfl
def ajz (cs:List AV) (o sz:Nat) (x:X) (r:List (Nat×Nat×X)):fill tm cs ((o,sz,x)::r)=gE tm cs o sz (cellsOf (az tm x)) r:=rfl
def Q6 {cs:List AV} {o:Nat} {v:AV} {r:List (Nat×Nat×X)} (h1:o+1<=cs.length) (h2:bc v=true):gE tm cs o 1 [v] r=fill tm (over o [v] cs) r:=by
 simp [gE,bK,h2,yy h1]
def kK {cs new:List AV} {o sz:Nat} {r:List (Nat×Nat×X)} (h0:new.length=sz) (h1:o+sz<=cs.length) (h2:bK new=true):gE tm cs o sz new r=fill tm (over o new cs) r:=by
 subst h0;simp [gE,h2,yy h1]
def atg (v u:AV) (r:List AV):over 0 [v] (u::r)=v::r:=rfl
def ath (v a u:AV) (r:List AV):over 1 [v] (a::u::r)=a::v::r:=rfl
def ati (v a b u:AV) (r:List AV):over 2 [v] (a::b::u::r)=a::b::v::r:=rfl
def atj (v a b c u:AV) (r:List AV):over 3 [v] (a::b::c::u::r)=a::b::c::v::r:=rfl
def atk (v a b c d u:AV) (r:List AV):over 4 [v] (a::b::c::d::u::r)=a::b::c::d::v::r:=rfl
def atl (v a b c d e u:AV) (r:List AV):over 5 [v] (a::b::c::d::e::u::r)=a::b::c::d::e::v::r:=rfl
def zx (ct sz by':Nat) (zero:List AV) (l c:Option Nat):Option (AV×Obj):=
 match l,c with
 | some l,some c=>bif yG l c&&(yG c room&&(yG (c*by') room&&(yt zero.length sz&&bK zero))) then some (.ay ct 0 l,.cells true (aF zero) (yt l c) sz (yC l zero).flatten) else none
 | _,_=>none
def aqJ (sz by':Nat) (z:List AV) (l c:X):cN tm hp ct (.nU sz by' z l c)=zx ct sz by' z (dI (az tm l)) (dI (az tm c)):=by
 simp only [cN,zx]
 grind
def Ew {sz by' l:Nat} {z:List AV} (h1:l<=1099511627776) (h2:l*by'<=1099511627776) (h3:z.length=sz) (h4:bK z=true):
  zx ct sz by' z (some l) (some l)=some (.ay ct 0 l,.cells true (aF z) true sz (yC l z).flatten):=by
 subst h3;simp [zx,h4,yy (show l<=room from h1),yy (show l*by'<=room from h2),yy (yz l)]
def CZ (hp:Hp) (ct sz by':Nat) (s:AV) (src:Option (Nat×List AV)):fS:=
 match src with
 | none=>none
 | some (m,new)=>
  match s with
  | .af=>
   bif yt m 0 then some (.af,hp,ct)
   else bif yG m room&&(yG (m*by') room&&yK 0 sz) then some (.ay ct 0 m,(ct,.cells true (aF new) false sz new)::hp,ct+1) else none
  | .aC true n cs=>
   bif yt m 0 then some (.aC true n cs,hp,ct)
   else bif yG (n+m) room&&(yG ((n+m)*by') room&&(yt cs.length (n*sz)&&yK 0 sz)) then some (.ay ct 0 (n+m),(ct,.cells true (aF cs&&aF new) false sz (cs++new))::hp,ct+1) else none
  | .ay id o n=>
   match an hp id with
   | some (.cells true pu _ z cs)=>
    bif yt z sz&&(yG (n+m) room&&(yG ((n+m)*by') room&&(yG (o+n*sz) cs.length&&(yK 0 sz&&bK new)))) then
     some (.ay ct 0 (n+m),(ct,.cells true (pu&&aF new) false sz (slice o (n*sz) cs++new))::da hp id,ct+1)
    else none
   | _=>none
  | _=>none
def ajA (sz by':Nat) (s x:X):cJ tm hp ct (.cR sz by' s x)=CZ hp ct sz by' (az tm s) (js hp sz (az tm x)):=by
 simp only [cJ,CZ]
 cases js hp sz (az tm x) with
 | none=>rfl
 | some q=>obtain ⟨m,new⟩:=q;cases az tm s<;>rfl
def ah4 (sz id o n:Nat):js hp sz (.ay id o n)=lY hp sz (.ay id o n):=rfl
def ah5 (sz:Nat) (e:Bool) (n:Nat) (cs:List AV):js hp sz (.aC e n cs)=lY hp sz (.aC e n cs):=rfl
def aho (sz:Nat):js hp sz .af=some (0,[]):=rfl
def Vp (o n sz:Nat) (q:Option Obj):Option (Nat×List AV):=match q with | some (.cells _ _ _ _ cs)=>bif yG (o+n*sz) cs.length then some (n,slice o (n*sz) cs) else none | _=>none
def ahp (sz id o n:Nat):lY hp sz (.ay id o n)=Vp o n sz (an hp id):=rfl
def atm (rw pu ex:Bool) (z:Nat) (v:AV):Vp 0 1 1 (some (.cells rw pu ex z [v]))=some (1,[v]):=rfl
def jW {sz by':Nat} {new:List AV} {m:Nat} (hm:0<m) (h1:m<=1099511627776) (h2:m*by'<=1099511627776) (hs:0<sz):
  CZ hp ct sz by' .af (some (m,new))=some (.ay ct 0 m,(ct,.cells true (aF new) false sz new)::hp,ct+1):=by
 have e1:yt m 0=false:=cd (by omega);have e2:yK 0 sz=true:=yy hs;simp [CZ,e1,e2,yy (show m<=room from h1),yy (show m*by'<=room from h2)]
def jG {sz by' id n m:Nat} {pu ex:Bool} {cs new:List AV} (hg:an hp id=some (.cells true pu ex sz cs)) (hl:cs.length=n*sz) (h1:n+m<=1099511627776) (h2:(n+m)*by'<=1099511627776) (hs:0<sz) (ho:bK new=true):
  CZ hp ct sz by' (.ay id 0 n) (some (m,new))=some (.ay ct 0 (n+m),(ct,.cells true (pu&&aF new) false sz (cs++new))::da hp id,ct+1):=by
 have e2:yK 0 sz=true:=yy hs;simp only [CZ,hg];simp [e2,ho,yy (show n+m<=room from h1),yy (show (n+m)*by'<=room from h2),<-hl,slice,yy (yz cs.length)]
def adn (n:Nat) (g:Nat) (cap:List AV) (q:Option (List AV×Hp)):Option (AV×Hp):=match q with | some (first,hp)=>(match cB n hp cap with | some (M8,jC)=>some (.fn (.f g) first M8,jC) | none=>none) | none=>none
def ado (g:Nat) (first:List AV) (q:Option (List AV×Hp)):Option (AV×Hp):=match q with | some (cap,hp)=>some (.fn (.f g) first cap,hp) | none=>none
def aqK (n g:Nat) (first cap:List AV):freeze (n+1) hp (.fn (.f g) first cap)=adn n g cap (cB n hp first):=rfl
def aqL (n g:Nat) (first cap:List AV):adn n g cap (some (first,hp))=ado g first (cB n hp cap):=rfl
def aqM (g:Nat) (first cap:List AV):ado g first (some (cap,hp))=some (.fn (.f g) first cap,hp):=rfl
def adp (o:Nat) (q:Option (Bool×Nat×List AV×Hp)):Option (AV×Hp):=match q with | some (_,_,cs,hp)=>some (.aJ (cs.drop o),hp) | none=>none
def aol (n id o:Nat):freeze (n+1) hp (.ptr id o)=adp o (qJ n hp id):=rfl
def aqN (o:Nat) (ex:Bool) (sz:Nat) (cs:List AV):adp o (some (ex,sz,cs,hp))=some (.aJ (cs.drop o),hp):=rfl
def lK (o k:Nat) (q:Option (Bool×Nat×List AV×Hp)):Option (AV×Hp):=
 match q with
 | some (ex,sz,cs,hp)=>bif yG (o+k*sz) cs.length then some (.aC (ex&&yK 0 sz&&yt (o+k*sz) cs.length) k (slice o (k*sz) cs),hp) else none
 | none=>none
def Q7 (n id o k:Nat):freeze (n+1) hp (.ay id o k)=lK o k (qJ n hp id):=rfl
def lV {sz k:Nat} {cs:List AV} (ex:Bool) (hl:cs.length=k*sz) (hs:0<sz):lK 0 k (some (ex,sz,cs,hp))=some (.aC ex k cs,hp):=by
 have e2:yK 0 sz=true:=yy hs;simp [lK,<-hl,e2,slice,yy (yz cs.length)]
def JC (n id:Nat) (hp:Hp) (q:Option Obj):Option (Bool×Nat×List AV×Hp):=
 match q with
 | some (.cells rw pu ex sz cs)=>
  bif pu then some (ex,sz,cs,bif rw then aU hp id (.cells false true ex sz cs) else hp)
  else match cB n hp cs with
   | some (dE,ao)=>some (ex,sz,dE,aU ao id (.cells false false ex sz cs))
   | none=>none
 | _=>none
def Q8 (n id:Nat):qJ (n+1) hp id=JC n id hp (an hp id):=rfl
def aaS (n id:Nat) (ex:Bool) (sz:Nat) (cs:List AV):JC n id hp (some (.cells true true ex sz cs))=some (ex,sz,cs,aU hp id (.cells false true ex sz cs)):=rfl
def aaT (n id:Nat) (ex:Bool) (sz:Nat) (cs:List AV):JC n id hp (some (.cells false true ex sz cs))=some (ex,sz,cs,hp):=rfl
def bw (n:Nat) (cs:List AV) (h:cB n hp cs=some (cs,hp)):freeze (n+1) hp (.agg cs)=some (.agg cs,hp):=by
 simp only [freeze,h]
def XB {id n sz:Nat} {ex:Bool} {cs:List AV} (hg:an hp id=some (.cells true true ex sz cs)) (hl:cs.length=n*sz) (hs:0<sz):result hp (.ay id 0 n)=some (.cf ex sz n cs):=by
 have e2:yK 0 sz=true:=yy hs;simp only [result,oF,hg,yf,<-hl,yy (yz cs.length),yx,e2,vn,slice,yp,xH]
 simp
def ajB {k id n sz:Nat} {ex:Bool} {cs:List AV} (hg:an hp id=some (.cells true true ex sz cs)) (hl:cs.length=n*sz) (hs:0<sz):oF k hp (.ay id 0 n)=some (.cf ex sz n cs,da hp id):=by
 have e2:yK 0 sz=true:=yy hs;simp only [oF,hg,yf,<-hl,yy (yz cs.length),yx,e2,vn,slice,yp,xH]
 simp
def agT {id n sz:Nat} {ex:Bool} {cs:List AV} {b:Bool} (hg:an hp id=some (.cells true true ex sz cs)) (hl:cs.length=n*sz) (hs:0<sz):result hp (.ap [.ay id 0 n,.bool b])=some (.ap [.cf ex sz n cs,.bool b]):=by
 have h1:Ce [.ay id 0 n,.bool b]=some [id]:=rfl;simp only [result,h1,qS,ajB hg hl hs];rfl
def agG (b:Bool):result hp (.ap [.af,.bool b])=some (.ap [.af,.bool b]):=rfl
def agH (k:y8) (b:Int):result hp (.ap [.af,.int k b])=some (.ap [.af,.int k b]):=rfl
def agI (e:Bool) (n:Nat) (cs:List AV) (k:y8) (b:Int):result hp (.ap [.aC e n cs,.int k b])=some (.ap [.aC e n cs,.int k b]):=rfl
def ajC (s:St):oJ [] s=some s:=rfl
def Vq (t:Nat) (r:List Nat) (tm:Env) (ct base:Nat) (q:Option (AV×Hp)):Option St:=match q with | some (v,hp)=>oJ r ⟨(t,v)::tm,hp,ct,base⟩ | none=>none
def ah6 (t:Nat) (r:List Nat) (tm:Env) (hp:Hp) (ct base:Nat):oJ (t::r) ⟨tm,hp,ct,base⟩=Vq t r tm ct base (freeze deep hp (aj tm t)):=by
 simp only [oJ,Vq];cases freeze deep hp (aj tm t)<;>rfl
def atn (t:Nat) (r:List Nat) (tm:Env) (ct base:Nat) (v:AV) (hp:Hp):Vq t r tm ct base (some (v,hp))=oJ r ⟨(t,v)::tm,hp,ct,base⟩:=rfl
end
attribute [go_sem] agG agH agI ajs ah2 ajt ah3 aju ajv ajw alI ajx HO alJ aog alK aoh aoi aoj aqE alL Yq
 ajy XA aqF aaR atf auF aqG aqH aqI ach Zi aci auG aok alM ajz atg ath ati atj atk atl aqJ
 ajA ah4 ah5 aho ahp atm aqK aqL aqM aol aqN Q7 lV aao Q6 Q8 aaS aaT ajC ah6 atn
 Bool.and_false Bool.false_and yp eq_self
def Zj:∀hp:Hp,ej 0 hp=[]
 | []=>rfl
 | (id,o)::r=>by
  have:yK id 0=false:=rfl
  simp only [ej,this,yH,Zj r]
def aaU (f:Nat->Option Nat):∀hp:Hp,kh 0 f hp=[]
 | []=>rfl
 | (id,o)::r=>by
  have:yK id 0=false:=rfl
  simp only [kh,this,yH,aaU f r]
def pos (seen:List Nat):Nat->Option Nat:=fun id=>mj id seen 0
def To (tm:Env) (hp:Hp) (seen:List Nat):St:=⟨kR (pos seen) tm,kL hp (pos seen) seen 0 [],seen.length,0⟩
def sh (hp:Hp):Nat->List Nat->List Nat->List Nat:=reach hp 0
def ax (live:List Nat) (tm:Env) (hp:Hp) (ct:Nat):aM live ⟨tm,hp,ct,0⟩=To (cK tm live) hp (sh hp 100000 (fA (cK tm live)) []):=by
 have e:∀seen,jJ 0 seen=pos seen:=fun seen=>by
  funext id
  have:yK id 0=false:=rfl
  simp only [jJ,this,yH,pos]
 simp only [aM,Zj,xW,e,aaU,To,sh,yf]
def ajD:fA []=[]:=rfl
def ah7 (i:Nat) (v:AV) (r:Env):fA ((i,v)::r)=refs v++fA r:=rfl
def alN (k:y8) (n:Int):refs (.int k n)=[]:=rfl
def ajE (b:Bool):refs (.bool b)=[]:=rfl
def alO (s:List Nat):refs (.str s)=[]:=rfl
def ajF:refs .af=[]:=rfl
def alP (e:Bool) (n:Nat) (cs:List AV):refs (.aC e n cs)=[]:=rfl
def ajG (cs:List AV):refs (.aJ cs)=[]:=rfl
def ah8:refs .undef=[]:=rfl
def alQ (id o:Nat):refs (.ptr id o)=[id]:=rfl
def alR (id o n:Nat):refs (.ay id o n)=[id]:=rfl
def aom (g:Nat) (a b:List AV):refs (.fn (.f g) a b)=eT a++eT b:=rfl
def aqO (l:Nat) (a b:List AV):refs (.fn (.y l) a b)=[l]:=rfl
def alS (cs:List AV):refs (.agg cs)=eT cs:=rfl
def ajH:eT []=[]:=rfl
def ah9 (v:AV) (r:List AV):eT (v::r)=refs v++eT r:=rfl
def N3 (hp:Hp) (n id:Nat) (ja seen:List Nat) (q:Option Obj):List Nat:=match q with | some o=>sh hp n (jt o++ja) (seen++[id]) | none=>sh hp n ja seen
def N4 (hp:Hp) (n id:Nat) (ja seen:List Nat) (b:Bool):List Nat:=bif b then sh hp n ja seen else N3 hp n id ja seen (an hp id)
def aon (hp:Hp) (n:Nat) (seen:List Nat):sh hp (n+1) [] seen=seen:=rfl
def alT (hp:Hp) (n id:Nat) (ja seen:List Nat):sh hp (n+1) (id::ja) seen=N4 hp n id ja seen (lF id seen):=by
 have:yK id 0=false:=rfl
 simp only [sh,reach,this,uj,N4,N3]
 cases lF id seen with
 | true=>rfl
 | false=>simp only [yH];cases an hp id<;>rfl
def aqP (hp:Hp) (n id:Nat) (ja seen:List Nat):N4 hp n id ja seen true=sh hp n ja seen:=rfl
def aqQ (hp:Hp) (n id:Nat) (ja seen:List Nat):N4 hp n id ja seen false=N3 hp n id ja seen (an hp id):=rfl
def aqR (hp:Hp) (n id:Nat) (ja seen:List Nat) (o:Obj):N3 hp n id ja seen (some o)=sh hp n (jt o++ja) (seen++[id]):=rfl
def alU (i:Nat):lF i []=false:=rfl
def alV (i:Nat) (r:List Nat):lF i (i::r)=true:=by simp only [lF,xG,yx]
def ajI {i j:Nat} (r:List Nat) (h:j≠i):lF i (j::r)=lF i r:=by simp only [lF,cd h,yH]
def aoo (rw ex:Bool) (sz:Nat) (cs:List AV):jt (.cells rw true ex sz cs)=[]:=rfl
def aop (rw ex:Bool) (sz:Nat) (cs:List AV):jt (.cells rw false ex sz cs)=eT cs:=rfl
def alW (tm:Env) (ps:List Nat) (a b:VC) (st:Nat) (pe:rq):jt (.lp tm ps a b st pe)=fA tm:=rfl
def aoq (i:Nat) (r:List Nat) (k:Nat):mj i (i::r) k=some k:=by simp only [mj,xG,yx]
def alX {i j:Nat} (r:List Nat) (k:Nat) (h:j≠i):mj i (j::r) k=mj i r (k+1):=by simp only [mj,cd h,yH]
def acj (o:Nat) (q:Option Nat):AV:=match q with | some j=> .ptr j o | none=> .undef
def ack (o n:Nat) (q:Option Nat):AV:=match q with | some j=> .ay j o n | none=> .undef
def alY (s:List Nat):kR (pos s) []=[]:=rfl
def ajJ (s:List Nat) (i:Nat) (v:AV) (r:Env):kR (pos s) ((i,v)::r)=(i,bU (pos s) v)::kR (pos s) r:=rfl
def aor (s:List Nat) (k:y8) (n:Int):bU (pos s) (.int k n)= .int k n:=rfl
def alZ (s:List Nat) (b:Bool):bU (pos s) (.bool b)= .bool b:=rfl
def aos (s:List Nat) (t:List Nat):bU (pos s) (.str t)= .str t:=rfl
def al0 (s:List Nat):bU (pos s) .af= .af:=rfl
def aot (s:List Nat) (e:Bool) (n:Nat) (cs:List AV):bU (pos s) (.aC e n cs)= .aC e n cs:=rfl
def al1 (s:List Nat) (cs:List AV):bU (pos s) (.aJ cs)= .aJ cs:=rfl
def ajK (s:List Nat):bU (pos s) .undef= .undef:=rfl
def aou (s:List Nat) (id o:Nat):bU (pos s) (.ptr id o)=acj o (mj id s 0):=rfl
def aov (s:List Nat) (id o n:Nat):bU (pos s) (.ay id o n)=ack o n (mj id s 0):=rfl
def aqS (s:List Nat) (g:Nat) (a b:List AV):bU (pos s) (.fn (.f g) a b)= .fn (.f g) (fJ (pos s) a) (fJ (pos s) b):=rfl
def aow (s:List Nat) (cs:List AV):bU (pos s) (.agg cs)= .agg (fJ (pos s) cs):=rfl
def al2 (s:List Nat):fJ (pos s) []=[]:=rfl
def ajL (s:List Nat) (v:AV) (r:List AV):fJ (pos s) (v::r)=bU (pos s) v::fJ (pos s) r:=rfl
def aox (o j:Nat):acj o (some j)= .ptr j o:=rfl
def aoy (o n j:Nat):ack o n (some j)= .ay j o n:=rfl
def Tp (hp:Hp) (f:Nat->Option Nat) (r:List Nat) (k:Nat) (acc:Hp) (q:Option Obj):Hp:=match q with | some o=>kL hp f r (k+1) ((k,lE f o)::acc) | none=>kL hp f r (k+1) acc
def ajM (hp:Hp) (s:List Nat) (k:Nat) (acc:Hp):kL hp (pos s) [] k acc=acc:=rfl
def aia (hp:Hp) (s:List Nat) (id:Nat) (r:List Nat) (k:Nat) (acc:Hp):kL hp (pos s) (id::r) k acc=Tp hp (pos s) r k acc (an hp id):=by
 simp only [kL,Tp];cases an hp id<;>rfl
def aqT (hp:Hp) (s r:List Nat) (k:Nat) (acc:Hp) (o:Obj):Tp hp (pos s) r k acc (some o)=kL hp (pos s) r (k+1) ((k,lE (pos s) o)::acc):=rfl
def aqU (f:Nat->Option Nat) (rw ex:Bool) (sz:Nat) (cs:List AV):lE f (.cells rw true ex sz cs)= .cells rw true ex sz cs:=rfl
def aqV (f:Nat->Option Nat) (rw ex:Bool) (sz:Nat) (cs:List AV):lE f (.cells rw false ex sz cs)= .cells rw false ex sz (fJ f cs):=rfl
def aoz (f:Nat->Option Nat) (tm:Env) (ps:List Nat) (a b:VC) (st:Nat) (pe:rq):lE f (.lp tm ps a b st pe)= .lp (kR f tm) ps a b st pe:=rfl
def aoA (tm:Env) (hp:Hp) (seen:List Nat):To tm hp seen=⟨kR (pos seen) tm,kL hp (pos seen) seen 0 [],seen.length,0⟩:=rfl
attribute [go_sem] ajD ah7 alN ajE alO ajF alP ajG ah8 alQ alR aom aqO alS ajH ah9 aon alT aqP aqQ aqR
 alU alV ajI aoo aop alW aoq alX alY ajJ aor alZ aos al0 aot al1 ajK aou aov aqS aow al2 ajL aox aoy
 ajM aia aqT aqU aqV aoz aoA yv yI
section
variable {P:aG} {L:Lib}
def al3 {α:Type} {p:α->Bool} {l:List α} {i:Nat} (h:i<l.length):(l.drop i).any p=(p l[i]||(l.drop (i+1)).any p):=by
 rw [yO h,ybR]
def auH (h:Has P L 132 I9) {v:AV} {l:List Int} (hv:a8 v l) (hl:l.length<=1000000) {g:Nat} {cap:List AV} {p:Int->Bool} (hc:aF cap=true)
  (hz:∀x hp,cB deep hp (aa x::cap)=some (aa x::cap,hp)) (hg:∀x,ab P L g (aa x::cap) (.bool (p x))):∃n:Int,ab P L 132 [v,.fn (.f g) [] cap] (aa n)/\decide (0<=n)=l.any p:=by
 have hpf:aV (.fn (.f g) [] cap)=true:=by simp [aV,aF,hc]
 simp only [ab,deep] at hg hz;have key:=HA (P:=P) (L:=L) (live:=[0,1,7,8]) (a:=Mu)
  (I:=fun k s=>∃tm ct i,s=⟨tm,[],ct,0⟩/\aj tm 0=v/\aj tm 1= .fn (.f g) [] cap/\aj tm 7=aa l.length/\aj tm 8=aa (i:Nat)/\i+k=l.length/\(l.drop i).any p=l.any p)
  (Q:=fun ex s=>∃tm,s=⟨tm,[],0,0⟩/\((∃n:Int,ex= .ret/\aj tm 4=aa n/\0<=n/\l.any p=true)\/(ex= .exit 0/\l.any p=false))) ?_ l.length
 ·simp only [ab];rw [aA h];simp only [go_sem,ya,I9,hv.len];generalize hq:D P L (.loop [0,1,7,8] Mu) _=q;obtain ⟨ex,s,rfl,tm,rfl,h2⟩:=bI hq key ⟨_,_,0,rfl,rfl,rfl,rfl,rfl,by omega,rfl⟩;rcases h2 with ⟨n,rfl,h2,h3,h4⟩ | ⟨rfl,h2⟩
  ·exact ⟨n,by simp only [go_sem,h2],by rw [h4];simpa using h3⟩
  ·exact ⟨-1,by simp only [go_sem],by rw [h2];decide⟩
 ·rintro k s ⟨tm,ct,i,rfl,h0,h1,h7,h8,hk,hf⟩;rw [KY (by simp only [go_sem,h0,h1,h7,h8,hv.pu,hpf])];simp only [go_sem,ya,h0,h1,h7,h8,Mu];by_cases hi:i<l.length
  ·have cD:(i:Int)<l.length:=by omega
   rw [al3 hi] at hf
   cases eN:p l[i] with
   | false=>
    left
    simp only [go_sem,ya,cD,hv.bn hi,hz,hg,eN];refine ⟨_,k-1,rfl,by omega,_,_,i+1,rfl,?_⟩;rw [wrap64 (by omega) (by omega)];rw [eN,uj] at hf;simp only [go_sem,ya];exact ⟨trivial,trivial,trivial,rfl,by omega,hf⟩
   | true=>
    right
    simp only [go_sem,ya,cD,hv.bn hi,hz,hg,eN];refine ⟨_,_,rfl,by simp,_,rfl,.inl ⟨i,rfl,?_,by omega,?_⟩⟩
    ·simp only [go_sem]
    ·rw [<-hf,eN,tZ]
  ·right
   have cD:¬(i:Int)<l.length:=by omega
   simp only [go_sem,cD];refine ⟨_,_,rfl,by simp,_,rfl,.inr ⟨rfl,?_⟩⟩;rw [<-hf,y5 (by omega)];rfl
def s95 (h:Has P L 95 OT) (Tq:Has P L 132 I9) {v:AV} {l:List Int} (hv:a8 v l) (hl:l.length<=1000000) {g:Nat} {cap:List AV} {p:Int->Bool} (hc:aF cap=true)
  (hz:∀x hp,cB deep hp (aa x::cap)=some (aa x::cap,hp)) (hg:∀x,ab P L g (aa x::cap) (.bool (p x)))
  (iP:∀n hp,freeze (n+500) hp (.fn (.f g) [] cap)=some (.fn (.f g) [] cap,hp)):ab P L 95 [v,.fn (.f g) [] cap] (.bool (l.any p)):=by
 obtain ⟨n,h1,h2⟩:=auH Tq hv hl hc hz hg;unfold ab at h1 ⊢;rw [aA h];have auI:∀hp,freeze 998 hp (.fn (.f g) [] cap)=some (.fn (.f g) [] cap,hp):=fun hp=>iP 498 hp
 simp only [go_sem,ya,OT,hv.ai,auI,h1,h2]
def s94 (h:Has P L 94 FA) {m:Int} (hm:0<=m) (gm:m<=1000000) (x:Int):ab P L 94 [aa x,.aJ [aa m]] (.bool (decide (x< -m\/m<x))):=by
 unfold ab;rw [aA h];by_cases h1:x< -m
 ·simp only [go_sem,ya,FA,LU,wrap64 (n:=0-m) (by omega) (by omega),show x<0-m by omega,h1,true_or]
 ·by_cases h2:m<x
  ·simp only [go_sem,ya,FA,LU,wrap64 (n:=0-m) (by omega) (by omega),show ¬x<0-m by omega,h1,h2,or_true]
  ·simp only [go_sem,ya,FA,LU,wrap64 (n:=0-m) (by omega) (by omega),show ¬x<0-m by omega,h1,h2,or_self]
def al4 (m:Int) (l:List Int):l.any (fun x=>decide (x< -m\/m<x))=fD (-m) m l:=by
 induction l with
 | nil=>rfl
 | cons a r ih=>
  simp only [ybR,fD,ih]
  grind
structure Sq (P:aG) (L:Lib):Prop where
 Vr:Has P L 32 U5
 Dv:Has P L 31 Fw
 qB:Has P L 33 Fx
 h94:Has P L 94 FA
 h95:Has P L 95 OT
 Tq:Has P L 132 I9
 h4:Has P L 4 c4
 h9:Has P L 9 c9
def s32 (h:Sq P L) {v:AV} {s:List (List Int)} (hv:fV v s) (hl:s.length<=1000000) (hr:∀i (hi:i<s.length),s[i].length<=1000000) {m:Int} (hm:0<=m) (gm:m<=1000000):
  ab P L 32 [v,aa m] (aa (jw s.length (-m) m s)):=by
 have key:=iU (P:=P) (L:=L) (live:=[0,3,9,10,11]) (a:=MP)
  (I:=fun k st=>∃(i:Nat) (rw:Bool),st=⟨[(0,v),(3,.ptr 0 0),(9,v),(10,aa s.length),(11,aa i)],[(0,.cells rw true true 1 [aa m])],1,0⟩/\i+k=s.length/\jw s.length (-m) m (s.drop i)=jw s.length (-m) m s)
  (Q:=fun ex st=>∃tm hp ct,st=⟨tm,hp,ct,0⟩/\((ex= .ret/\aj tm 4=aa (jw s.length (-m) m s))\/(ex= .exit 0/\jw s.length (-m) m s=0))) ?_
 ·unfold ab;rw [aA h.Vr];simp only [go_sem,ya,yc,U5,hv.len];generalize hq:D P L (.loop [0,3,9,10,11] MP) _=q;obtain ⟨ex,st,rfl,tm,hp,ct,rfl,h2⟩:=bI hq (key s.length) ⟨0,true,by simp only [go_sem,ya,yc,ax,aE hv.pu,aH _ hv.pu]<;>rfl,by omega,rfl⟩
  rcases h2 with ⟨rfl,h2⟩ | ⟨rfl,h2⟩
  ·simp only [go_sem,h2]
  ·rw [h2];simp only [go_sem,ax]
 ·rintro k st ⟨i,rw,rfl,hk,hf⟩;simp only [go_sem,ya,MP];by_cases hi:i<s.length
  ·have cD:(i:Int)<s.length:=by omega
   rw [Xw hi] at hf;obtain ⟨r,rest,bW,eE⟩:=hv.bn hi;have hc:ab P L 95 [r,.fn (.f 94) [] [.aJ [aa m]]] (.bool (fD (-m) m s[i])):=by
    rw [<-al4];exact s95 h.h95 h.Tq bW (hr i hi) rfl (fun x hp=>by simp only [go_sem]) (fun x=>s94 h.h94 hm gm x) (fun n hp=>by simp only [go_sem])
   have im:∀a b:Int,ab P L 33 [.aC true 2 [.int .i64 a,.int .i64 b]] (aa (bX [a,b])):=fun a b=>FK h.qB (gZ true [a,b]) (by simp)
   unfold ab at hc im;by_cases h1:s[i].length=s.length
   ·have Br:(s[i].length:Int)=s.length:=by omega
    simp only [h1,ybY,uX,xk] at hf
    cases h2:fD (-m) m s[i] with
    | false=>
     left
     simp only [h2,yD,xk] at hf;cases rw<;>simp only [go_sem,ya,yc,yE,ym,yj,cD,eE,hc,Br,h2,O6 h.Dv,im,bW.len,bW.ai,hv.len,yD,xk,bX,xB]
     all_goals
      refine ⟨_,k-1,rfl,by omega,i+1,false,?_,by omega,hf⟩;rw [wrap64 (by omega) (by omega)];simp only [go_sem,ya,yc,ax,aE hv.pu,aH _ hv.pu];rfl
    | true=>
     right
     simp only [h2,xB] at hf;cases rw<;>simp only [go_sem,ya,yc,yE,ym,yj,cD,eE,hc,Br,h2,O6 h.Dv,im,bW.len,bW.ai,hv.len,yD,xk,bX,xB,vv]
     all_goals
      refine ⟨_,_,rfl,by simp,_,_,_,rfl,.inl ⟨rfl,?_⟩⟩;simp only [go_sem,hf]
   ·right
    have Br:¬(s[i].length:Int)=s.length:=by omega
    simp only [h1,ybY,yal,xB] at hf;cases h2:fD (-m) m s[i]<;>cases rw<;>simp only [go_sem,ya,yc,yE,ym,yj,cD,eE,hc,Br,h2,O6 h.Dv,im,bW.len,bW.ai,hv.len,yD,xk,bX,xB,vv]
    all_goals
     refine ⟨_,_,rfl,by simp,_,_,_,rfl,.inl ⟨rfl,?_⟩⟩;simp only [go_sem,hf]
  ·right
   have cD:¬(i:Int)<s.length:=by omega
   simp only [go_sem,cD];refine ⟨_,_,rfl,by simp,_,_,_,rfl,.inr ⟨rfl,?_⟩⟩;rw [<-hf,y5 (by omega)];rfl
def s2 (h:Has P L 2 c2) {v:AV} {s:List (List Int)} (hv:fV v s) {n:Nat}:ab P L 2 [v,aa n] (.bool (Ep n s)):=by
 have key:=iU (P:=P) (L:=L) (live:=[0,5]) (a:=I7)
  (I:=fun k st=>∃i:Nat,st=⟨[(0,v),(5,aa i)],[],0,0⟩/\i+k=s.length/\s.length<=18/\pN (s.drop i)=pN s)
  (Q:=fun ex st=>∃tm ct,st=⟨tm,[],ct,0⟩/\((ex= .ret/\aj tm 4= .bool (pN s))\/(ex= .exit 0/\pN s=true))) ?_
 ·unfold ab;rw [aA h];unfold Ep;by_cases h1:n<s.length
  ·by_cases h2:s.length<=16
   ·simp only [go_sem,ya,c2,hv.len,show (n:Int)<s.length by omega,show (s.length:Int)<=16 by omega];rw [yM (by omega)]
   ·by_cases h3:18<s.length
    ·simp only [go_sem,ya,c2,hv.len,show (n:Int)<s.length by omega,show ¬(s.length:Int)<=16 by omega,show (18:Int)<s.length by omega];rw [yM (by omega)]
    ·simp only [go_sem,ya,c2,hv.len,show (n:Int)<s.length by omega,show ¬(s.length:Int)<=16 by omega,show ¬(18:Int)<s.length by omega];rw [yB (by omega)];generalize hq:D P L (.loop [0,5] I7) _=q;obtain ⟨ex,st,rfl,tm,ct,rfl,h2⟩:=bI hq (key s.length) ⟨0,by simp only [go_sem,ya,ax,aE hv.pu,aH _ hv.pu]<;>rfl,by omega,by omega,rfl⟩
     rcases h2 with ⟨rfl,h2⟩ | ⟨rfl,h2⟩
     ·simp only [go_sem,h2]
     ·rw [h2];simp only [go_sem]
  ·by_cases h3:18<s.length
   ·simp only [go_sem,ya,c2,hv.len,show ¬(n:Int)<s.length by omega,show (18:Int)<s.length by omega];rw [yM (by omega)]
   ·simp only [go_sem,ya,c2,hv.len,show ¬(n:Int)<s.length by omega,show ¬(18:Int)<s.length by omega];rw [yB (by omega)];generalize hq:D P L (.loop [0,5] I7) _=q;obtain ⟨ex,st,rfl,tm,ct,rfl,h2⟩:=bI hq (key s.length) ⟨0,by simp only [go_sem,ya,ax,aE hv.pu,aH _ hv.pu]<;>rfl,by omega,by omega,rfl⟩
    rcases h2 with ⟨rfl,h2⟩ | ⟨rfl,h2⟩
    ·simp only [go_sem,h2]
    ·rw [h2];simp only [go_sem]
 ·rintro k st ⟨i,rfl,hk,hl,hf⟩;simp only [go_sem,ya,I7,hv.len];by_cases hi:i<s.length
  ·have cD:(i:Int)<s.length:=by omega
   rw [agC hi] at hf;obtain ⟨r,rest,bW,eE⟩:=hv.bn hi;by_cases h1:18<s[i].length
   ·right
    rw [yM h1] at hf;simp only [go_sem,ya,cD,eE,bW.len,show (18:Int)<s[i].length by omega];refine ⟨_,_,rfl,by simp,_,_,rfl,.inl ⟨rfl,?_⟩⟩;simp only [go_sem,<-hf]
   ·left
    rw [yB h1] at hf;simp only [go_sem,ya,cD,eE,bW.len,show ¬(18:Int)<s[i].length by omega];refine ⟨_,k-1,rfl,by omega,i+1,?_,by omega,hl,hf⟩;rw [wrap64 (by omega) (by omega)];simp only [go_sem,ya,ax,aE hv.pu,aH _ hv.pu]<;>rfl
  ·right
   simp only [go_sem,show ¬(i:Int)<s.length by omega];refine ⟨_,_,rfl,by simp,_,_,rfl,.inr ⟨rfl,?_⟩⟩;rw [<-hf,y5 (by omega)];rfl
def s4 (h:Sq P L) {v:AV} {s:List (List Int)} (hv:fV v s) (hl:s.length<=1000000) (hr:∀i (hi:i<s.length),s[i].length<=1000000):ab P L 4 [v] (aa (iy s)):=by
 have hc:=s32 h hv hl hr (m:=1000) (by decide) (by decide);have hf:∀a b c:Int,ab P L 33 [.aC true 3 [.int .i64 a,.int .i64 b,.int .i64 c]] (aa (bX [a,b,c])):=fun a b c=>FK h.qB (gZ true [a,b,c]) (by simp)
 unfold ab at hc hf ⊢;rw [aA h.h4];simp only [go_sem,ya,yc,yE,ym,yj,c4,hv.len,hv.ai,hc,O6 h.Dv,hf];unfold iy;by_cases h1:s.length=0
 ·simp [h1,bX]
 ·by_cases h2:16<s.length
  ·simp [h1,h2,bX,show (16:Int)<s.length by omega]
  ·simp only [h1,h2,bX,show ¬(16:Int)<s.length by omega,show ¬(s.length:Int)=0 by omega,yu,yD,xk,xB]
   split<;>simp_all
def s3 (h:Has P L 3 c3) (FM:Has P L 30 Dq) {v:AV} {s:List (List Int)} (hv:fV v s):ab P L 3 [v] (aa (iy s)):=by
 have inner:∀{i:Nat} (hi:i<s.length),s[i].length=s.length->s.length<=16->∀k st,(∃j:Nat,aM [0,3,4] st=⟨[(0,v),(3,aa i),(4,aa j)],[],0,0⟩/\j+k=s.length/\fD (-1000) 1000 (s[i].drop j)=fD (-1000) 1000 s[i])->
   ∃ex st',D P L (.loop [0,3,4] Nn) st=some (ex,st')/\∃tm ct,st'=⟨tm,[],ct,0⟩/\((ex= .ret/\aj tm 2=aa 3/\fD (-1000) 1000 s[i]=true)\/(ex= .exit 2/\aj tm 0=v/\aj tm 3=aa i/\fD (-1000) 1000 s[i]=false)):=by
  intro i hi hr hl;intro dq sq;generalize bf:aM [0,3,4] sq=s0;revert bf s0 sq dq;apply dh;rintro k st ⟨j,rfl,hk,hf⟩;simp only [go_sem,ya,Nn,hv.len];obtain ⟨r,rest,bW,eE⟩:=hv.bn hi;by_cases hj:j<s.length
  ·have rW:(j:Int)<s.length:=by omega
   have Vs:j<s[i].length:=by omega
   rw [aja Vs] at hf;by_cases h1:s[i][j]< -1000\/1000<s[i][j]
   ·right
    rw [yM h1] at hf;simp only [go_sem,ya,rW,eE,bW.bn Vs,s30 FM,h1,xB,vv];refine ⟨_,_,rfl,by simp,_,_,rfl,.inl ⟨rfl,?_,hf.symm⟩⟩;simp only [go_sem]
   ·left
    rw [yB h1] at hf;simp only [go_sem,ya,rW,eE,bW.bn Vs,s30 FM,h1,xk];refine ⟨_,k-1,rfl,by omega,j+1,?_,by omega,hf⟩;rw [wrap64 (by omega) (by omega)];simp only [go_sem,ya,ax,aE hv.pu,aH _ hv.pu]<;>rfl
  ·right
   simp only [go_sem,show ¬(j:Int)<s.length by omega];refine ⟨_,_,rfl,by simp,_,_,rfl,.inr ⟨rfl,?_,?_,?_⟩⟩
   ·simp only [go_sem,ya]
   ·simp only [go_sem,ya]
   ·rw [<-hf,y5 (by omega)];rfl
 have key:=iU (P:=P) (L:=L) (live:=[0,3]) (a:=No)
  (I:=fun k st=>∃i:Nat,st=⟨[(0,v),(3,aa i)],[],0,0⟩/\i+k=s.length/\s.length<=16/\jw s.length (-1000) 1000 (s.drop i)=jw s.length (-1000) 1000 s)
  (Q:=fun ex st=>∃tm ct,st=⟨tm,[],ct,0⟩/\((ex= .ret/\aj tm 2=aa (jw s.length (-1000) 1000 s))\/(ex= .exit 0/\jw s.length (-1000) 1000 s=0))) ?_
 ·unfold ab;rw [aA h];unfold iy;by_cases h1:s.length=0
  ·simp only [go_sem,ya,c3,hv.len,show (s.length:Int)=0 by omega];rw [yM h1]
  ·rw [yB h1];by_cases h2:16<s.length
   ·simp only [go_sem,ya,c3,hv.len,show ¬(s.length:Int)=0 by omega,show (16:Int)<s.length by omega];rw [yM h2]
   ·simp only [go_sem,ya,c3,hv.len,show ¬(s.length:Int)=0 by omega,show ¬(16:Int)<s.length by omega];rw [yB h2];generalize hq:D P L (.loop [0,3] No) _=q;obtain ⟨ex,st,rfl,tm,ct,rfl,h2⟩:=bI hq (key s.length) ⟨0,by simp only [go_sem,ya,ax,aE hv.pu,aH _ hv.pu]<;>rfl,by omega,by omega,rfl⟩
    rcases h2 with ⟨rfl,h2⟩ | ⟨rfl,h2⟩
    ·simp only [go_sem,h2]
    ·rw [h2];simp only [go_sem]
 ·rintro k st ⟨i,rfl,hk,hl,hf⟩;simp only [go_sem,ya,No,hv.len];by_cases hi:i<s.length
  ·have cD:(i:Int)<s.length:=by omega
   rw [Xw hi] at hf;obtain ⟨r,rest,bW,eE⟩:=hv.bn hi;by_cases h1:s[i].length=s.length
   ·simp only [h1,ybY,uX,xk] at hf;simp only [go_sem,ya,cD,eE,bW.len,hv.len,show (s[i].length:Int)=s.length by omega];generalize hq:D P L (.loop [0,3,4] Nn) _=q;obtain ⟨ex,st,rfl,tm,ct,rfl,h2⟩:=bI hq (inner hi h1 hl s.length) ⟨0,by simp only [go_sem,ya,ax,aE hv.pu,aH _ hv.pu]<;>rfl,by omega,rfl⟩
    rcases h2 with ⟨rfl,h2,h3⟩ | ⟨rfl,h2,h3,h4⟩
    ·right
     rw [yM h3] at hf;exact ⟨_,_,rfl,by simp,_,_,rfl,.inl ⟨rfl,by rw [h2,<-hf]⟩⟩
    ·left
     rw [yB (by simp [h4])] at hf;simp only [go_sem,ya,ax,h2,h3,aE hv.pu,aH _ hv.pu];refine ⟨_,k-1,rfl,by omega,i+1,?_,by omega,hl,hf⟩;rw [wrap64 (by omega) (by omega)];simp only [go_sem,ya,ax,aE hv.pu,aH _ hv.pu]<;>rfl
   ·right
    simp only [h1,ybY,yal,xB] at hf;simp only [go_sem,ya,cD,eE,bW.len,hv.len,show ¬(s[i].length:Int)=s.length by omega];refine ⟨_,_,rfl,by simp,_,_,rfl,.inl ⟨rfl,?_⟩⟩;simp only [go_sem,<-hf]
  ·right
   simp only [go_sem,show ¬(i:Int)<s.length by omega];refine ⟨_,_,rfl,by simp,_,_,rfl,.inr ⟨rfl,?_⟩⟩;rw [<-hf,y5 (by omega)];rfl
end
def kv (k:List (List Int)) (j i:Nat):Int:=(k.getD j []).getD i 0
def XC {lo hi:Int} {l:List Int} (h:fD lo hi l=false) (h0:lo<=0/\0<=hi) (i:Nat):lo<=l.getD i 0/\l.getD i 0<=hi:=by
 by_cases hl:i<l.length
 ·have:=QH h i hl
  grind
 ·grind
def al5 {n:Nat} {lo hi:Int} {k:List (List Int)} (h:jw n lo hi k=0) (h0:lo<=0/\0<=hi) (j i:Nat):lo<=kv k j i/\kv k j i<=hi:=by
 unfold kv;by_cases hl:j<k.length
 ·have:=Hl h j hl
  simp only [xz,xV hl,ui];exact XC this.2 h0 i
 ·grind
def ahq {n:Nat} {lo hi:Int} {s:List (List Int)} (h:jw n lo hi s=0) (h0:lo<=0/\0<=hi) (c r:Int):lo<=jM s c r/\jM s c r<=hi:=by
 unfold jM;by_cases hl:(r%s.length).toNat<s.length
 ·have:=Hl h _ hl
  simp only [xz,xV hl,ui];exact XC this.2 h0 _
 ·grind
section
variable {P:aG} {L:Lib}
def sJ {k:y8} {n:Int} (h:0<=n):dI (.int k n)=some n.toNat:=by
 cases n with
 | ofNat n=>rfl
 | negSucc n=>exact absurd h (by simp)
def al6 {s:List (List Int)} {n:Nat} (hn:s.length=n) (h0:0<n) (hr:∀i (hi:i<s.length),s[i].length=n) (c r:Int):
  ∃(h1:(r%n).toNat<s.length) (h2:(c%n).toNat<(s[(r%n).toNat]'h1).length),jM s c r=(s[(r%n).toNat]'h1)[(c%n).toNat]'h2:=by
 have a2:=wT r (show (0:Int)<n by omega);have b2:=wT c (show (0:Int)<n by omega);unfold jM
 grind
def Bz:List AV->AV
 | []=> .af
 | a::r=> .ay 0 0 (r.length+1)
def FN:List AV->List AV->AV
 | _,[]=> .af
 | [],b::q=> .ay 0 0 (q.length+1)
 | _::_,b::q=> .ay 1 0 (q.length+1)
def sj:List AV->List AV->Hp
 | [],[]=>[]
 | a::r,[]=>[(0,.cells true true false 1 (a::r))]
 | [],b::q=>[(0,.cells true true false 1 (b::q))]
 | a::r,b::q=>[(1,.cells true true false 1 (b::q)),(0,.cells true true false 1 (a::r))]
def BA:List AV->List AV->Nat
 | [],[]=>0
 | _::_,[]=>1
 | [],_::_=>1
 | _::_,_::_=>2
def IW:Bz []= .af:=rfl
def CD (a:AV) (r:List AV):Bz (a::r)= .ay 0 0 (r.length+1):=rfl
def Sx (o:List AV):FN o []= .af:=by cases o<;>rfl
def RL (b:AV) (q:List AV):FN [] (b::q)= .ay 0 0 (q.length+1):=rfl
def RM (a:AV) (r:List AV) (b:AV) (q:List AV):FN (a::r) (b::q)= .ay 1 0 (q.length+1):=rfl
def Mx:sj [] []=[]:=rfl
def Ey (a:AV) (r:List AV):sj (a::r) []=[(0,.cells true true false 1 (a::r))]:=rfl
def RN (b:AV) (q:List AV):sj [] (b::q)=[(0,.cells true true false 1 (b::q))]:=rfl
def RO (a:AV) (r:List AV) (b:AV) (q:List AV):sj (a::r) (b::q)=[(1,.cells true true false 1 (b::q)),(0,.cells true true false 1 (a::r))]:=rfl
def My:BA [] []=0:=rfl
def Iy (a:AV) (r:List AV):BA (a::r) []=1:=rfl
def aaV (b:AV) (q:List AV):BA [] (b::q)=1:=rfl
def aaW (a:AV) (r:List AV) (b:AV) (q:List AV):BA (a::r) (b::q)=2:=rfl
def bq (k id o:Nat):IC k (.ptr id o)=some (.ptr id (o+k)):=rfl
def cm {α:Type} (a:α) (l:List α):vH 1 (a::l)=l:=rfl
def ato {α:Type} (a b:α) (l:List α):vH 2 (a::b::l)=l:=rfl
def acm {α:Type} (a b c:α) (l:List α):vH 3 (a::b::c::l)=l:=rfl
def aaX {k:List (List Int)} {j i:Nat} (hj:j<k.length) (hi:i<k[j].length):k[j][i]=kv k j i:=by
 unfold kv
 grind
abbrev Nm (n:Int):AV:= .agg [aa n,.af]
def qZ (hp:Hp) (ct id:Nat) (a:Int) (x y:AV):gW hp ct id 0 2 [.int .i64 a,.af] (some (.cells true true true 2 [x,y]))=some (.ap [],aU hp id (.cells true true true 2 [.int .i64 a,.af]),ct):=rfl
def eb (b:Bool):Jz false (some b)=some (.bool b):=by cases b<;>rfl
def aaY (f:cw) (tm:Env) (hp:Hp) (ct:Nat) (x y:X):a7 P L f tm hp ct (.mn [x,y])=rd hp ct (min2 (az tm x) (az tm y)):=by
 simp only [a7,rd,bl,di,AM]
 grind
def oH (f:cw) (tm:Env) (hp:Hp) (ct:Nat) (x y:X):a7 P L f tm hp ct (.mx [x,y])=rd hp ct (max2 (az tm x) (az tm y)):=by
 simp only [a7,rd,bl,di,AM]
 grind
def Zk (k k':y8) (x y:Int):min2 (.int k x) (.int k' y)=some (.int k (if y<x then y else x)):=rfl
def ow (k k':y8) (x y:Int):max2 (.int k x) (.int k' y)=some (.int k (if y>x then y else x)):=rfl
def bN (n:Int):Int:=if n<0 then -1 else if n=0 then 0 else 1
def aqW (n:Int):(if (if n<1 then n else 1)> -1 then (if n<1 then n else 1) else -1)=bN n:=by
 unfold bN
 grind
def n117 (h:Has P L 117 Nv) (n:Int):ab P L 117 [aa n] (Nm n):=by
 unfold ab;rw [aA h];simp only [go_sem,ya,yc,ym,Nv,aO,yf,qZ];rfl
def oM (hp:Hp) (p q:Bool):jS .b (.bool p) (.bool q)=some (p==q):=rfl
def iA {n:Nat} {sp:List AV->Option AV} (h:L.pure n=some sp) {f:cw} (vals:List AV):bF P L f n vals=sp vals:=by simp only [bF,h]
abbrev U64 (n:Int):AV:= .int .u64 n
def atp {n:Int} (h1:0<=n) (h2:n<18446744073709551616):IntKind.wrap .u64 n=n:=by
 simp only [IntKind.wrap,IntKind.signed,IntKind.bits]
 grind
def aaZ (n:Int):iG (.toInt .u64) (aa n)=some (U64 (IntKind.wrap .u64 n)):=rfl
def Mz (n:Int):iG (.toInt .i64) (U64 n)=some (aa (IntKind.wrap .i64 n)):=rfl
def Iz (b:Bool):Jz true (some b)=some (.bool (!b)):=by cases b<;>rfl
def bV (a b:AV) (r:List AV):gl 2 true (a::b::r)=some (.agg [a,b]):=rfl
def dJ (a b c d:AV) (r:List AV):gl 4 true (a::b::c::d::r)=some (.agg [a,b,c,d]):=rfl
def ajN {a b:Int} (hb:0<b):(a.tmod b<0->a/b=a.tdiv b-1/\a%b=a.tmod b+b)/\(¬a.tmod b<0->a/b=a.tdiv b/\a%b=a.tmod b):=by
 have h1:=Int.mul_tdiv_add_tmod a b;have h2:a.tmod b<b:=ybd a hb;have h3: -b<a.tmod b:=ybe a hb;refine ⟨fun h=>(tI hb).2 ⟨?_,?_,?_⟩,fun h=>(tI hb).2 ⟨?_,?_,?_⟩⟩
 ·grind
 ·omega
 ·omega
 ·omega
 ·omega
 ·omega
def al7 (a b:Nat) (hb:b≠0):wz b (a%b)=wz a b:=by
 rw [tv b,<-ycI,tv]
end
def cY (a b:Int):Int:=a/(wR a b:Nat)
def db (a b:Int):Int:=b/(wR a b:Nat)
def HP {a b:Int} (hb:0<b):(0:Int)<(wR a b:Nat):=by
 have:=Int.gcd_pos_of_ne_zero_right a (show b≠0 by omega)
 omega
def aa0 (a b:Int):a=(wR a b:Nat)*cY a b:=(yaN (tM a b)).symm
def aa1 (a b:Int):b=(wR a b:Nat)*db a b:=(yaN (tF a b)).symm
def HB {a b:Int} (hb:0<b):0<db a b:=by
 have h1:=HP (a:=a) hb;have h2:=aa1 a b;rcases Int.lt_trichotomy (db a b) 0 with h | h | h
 ·have:=Int.mul_neg_of_pos_of_neg h1 h;omega
 ·grind
 ·exact h
def Zl (a b:Int):(cY a b).natAbs<=a.natAbs:=by
 unfold cY;rw [uz (tM a b)];exact wV _ _
def Zm (a b:Int):(db a b).natAbs<=b.natAbs:=by
 unfold db;rw [uz (tF a b)];exact wV _ _
def oS (a b:Int):List Nat:=if db a b=1 then aT (cY a b) else aT (cY a b)++[47]++aT (db a b)
def acn {a b:Nat} (h:¬a<b):yK a b=false:=by
 cases hb:yK a b with
 | false=>rfl
 | true=>exact absurd (yr hb) (by omega)
def Q9:∀(f n:Nat) (acc:List Nat),n<f->mK f n acc=mK f n []++acc
 | 0,_,_,h=>by omega
 | f+1,n,acc,h=>by
  simp only [mK];by_cases h1:n<10
  ·rw [show yK n 10=true from yy h1];rfl
  ·rw [show yK n 10=false from acn (by omega)];rw [Q9 f (n/10) _ (by omega),Q9 f (n/10) [48+n%10] (by omega)]
   simp
def Qj {f n:Nat} (h:n<10):mK (f+1) n []=[48+n]:=by
 simp only [mK];rw [show yK n 10=true from yy h];rfl
def Rc {f n:Nat} (h:¬n<10) (hf:n<=f):mK (f+1) n []=mK f (n/10) []++[48+n%10]:=by
 rw [<-Q9 f (n/10) _ (by omega)];simp only [mK];rw [show yK n 10=false from acn (by omega)];rfl
def al8:∀(n f:Nat),n<f->mK f n []=aq n:=by
 intro n
 induction n using vB with
 | _ n ih=>
  intro f hf;obtain ⟨g,rfl⟩:∃g,f=g+1:=⟨f-1,by omega⟩;by_cases h:n<10
  ·rw [Qj h];unfold aq;rw [Qj h]
  ·rw [Rc h (by omega),ih (n/10) (by omega) g (by omega)];unfold aq;rw [Rc h (yz n),ih (n/10) (by omega) n (by omega)];rfl
def nn {n:Nat} (h:n<10):aq n=[48+n]:=Qj h
def ox {n:Nat} (h:¬n<10):aq n=aq (n/10)++[48+n%10]:=by
 rw [show aq n=mK (n+1) n [] from rfl,Rc h (yz n),al8 (n/10) n (by omega)]
def pP:∀{k n:Nat},n<10^(k+1)->(aq n).length<=k+1
 | 0,n,h=>by rw [nn (by simpa using h)];simp
 | k+1,n,h=>by
  by_cases h1:n<10
  ·rw [nn h1];simp
  ·rw [ox h1,yR]
   have:n/10<10^(k+1):=by
    grind
   have:=pP this
   grind
def Li {n:Nat} (h:n<18446744073709551616):(aq n).length<=20:=pP (k:=19) (by omega)
def jX (n:Nat):aT (n:Int)=aq n:=rfl
def lW {n:Int} (h:n<0):aT n=45::aq n.natAbs:=by
 cases n with
 | ofNat n=>exact absurd h (by simp)
 | negSucc n=>rfl
def bH:List Nat->Nat
 | []=>0
 | b::r=>if b=47 then 0 else bH r+1
def ahr {s:List Nat} {i:Nat} (h:i<s.length):bH (s.drop i)=if s[i]=47 then 0 else bH (s.drop (i+1))+1:=by
 rw [yO h];rfl
def Hn:∀s:List Nat,bH s<=s.length
 | []=>yz _
 | b::r=>by
  unfold bH
  have:=Hn r
  grind
def dc:List Nat->Bool
 | []=>true
 | b::r=>yG 48 b&&yG b 57&&dc r
def K4:∀(a b:List Nat),dc (a++b)=(dc a&&dc b)
 | [],b=>by simp [dc]
 | x::a,b=>by simp [dc,K4 a b,Bool.and_assoc]
def Ak (n:Nat):dc (aq n)=true:=by
 induction n using vB with
 | _ n ih=>
  by_cases h:n<10
  ·rw [nn h];simp [dc];omega
  ·rw [ox h,K4,ih (n/10) (by omega)];simp [dc];omega
def G9:∀{s:List Nat} (r:List Nat),dc s=true->bH (s++r)=s.length+bH r
 | [],r,_=>by simp
 | b::s,r,h=>by
  simp only [dc,yg] at h;have h1:=yr h.1.1;simp only [yY,bH,yv];rw [yB (by omega),G9 r h.2];omega
def K5:∀(l:List Nat) (a d:Nat),d<10->cL (l++[48+d]) a=(cL l a).map (fun v=>10*v+d)
 | [],a,d,h=>by
  simp only [xX,cL];rw [show yG 48 (48+d)=true from yy (by omega),show yG (48+d) 57=true from yy (by omega)]
  simp
 | b::l,a,d,h=>by
  simp only [yY,cL]
  cases (yG 48 b&&yG b 57) with
  | true=>exact K5 l _ d h
  | false=>rfl
def sK (n:Nat):cL (aq n) 0=some n:=by
 induction n using vB with
 | _ n ih=>
  by_cases h:n<10
  ·rw [nn h]
   have:=K5 [] 0 n h
   simpa [cL] using this
  ·rw [ox h,K5 _ _ _ (by omega),ih (n/10) (by omega)]
   simp;omega
def ajO {s:List Nat} {i a v:Nat} (h:i<s.length) (hv:cL (s.drop i) a=some v):48<=s[i]/\s[i]<=57/\cL (s.drop (i+1)) (10*a+(s[i]-48))=some v:=by
 rw [yO h] at hv;simp only [cL] at hv
 cases hb:(yG 48 s[i]&&yG s[i] 57) with
 | false=>rw [hb] at hv;cases hv
 | true=>
  simp_all
def iI:Nat->Nat->List Nat
 | 0,_=>[]
 | k+1,n=>iI k (n/10)++[48+n%10]
def QI:∀k n,(iI k n).length=k
 | 0,_=>rfl
 | k+1,n=>by simp [iI,QI k]
def LV:∀(k m r:Nat),0<m->r<10^k->aq (m*10^k+r)=aq m++iI k r
 | 0,m,r,_,h=>by simp at h;subst h;simp [iI]
 | k+1,m,r,hm,h=>by
  have h1:m*10^(k+1)+r=(m*10^k)*10+r:=by grind
  have hp:0<m*10^k:=vS hm (Nat.pow_pos (by decide));have e1:(m*10^(k+1)+r)/10=m*10^k+r/10:=by omega
  have e2:(m*10^(k+1)+r)%10=r%10:=by omega
  rw [ox (by omega),e1,e2,LV k m (r/10) hm (by rw [y9] at h;omega)];simp [iI]
def Zn:∀(k r a:Nat),r<10^k->cL (iI k r) a=some (a*10^k+r)
 | 0,r,a,h=>by simp at h;subst h;simp [iI,cL]
 | k+1,r,a,h=>by
  rw [iI,K5 _ _ _ (xE _ (by decide)),Zn k (r/10) a (by omega)];simp only [wI,yd,y9]
  grind
def al9 {m:Nat} (h:1000000000<=m):aq m=aq (m/1000000000)++iI 9 (m%1000000000):=by
 have:=LV 9 (m/1000000000) (m%1000000000) (by omega) (by omega)
 grind
def ig (s:List Nat) (l h:Option Nat):Option AV:=
 match l,h with
 | some l,some h=>bif yG l h&&yG h s.length then some (.str ((s.take h).drop l)) else none
 | _,_=>none
def eF (hp:Hp) (s:List Nat) (tm:Env) (lo hi:Option X):fB hp .str (.str s) tm lo hi=ig s (cC tm 0 lo) (cC tm s.length hi):=by
 unfold ig;simp only [fB]
 grind
def eR (tm:Env) (d:Nat):cC tm d none=some d:=rfl
def dH (tm:Env) (d:Nat) (x:X):cC tm d (some x)=dI (az tm x):=rfl
def ll {s:List Nat} {l h:Nat} (h1:l<=h) (h2:h<=s.length):ig s (some l) (some h)=some (.str ((s.take h).drop l)):=by
 simp [ig,yy h1,yy h2]
def gB {a b:List Nat} (h:a.length+b.length<=9223372036854775807):binOp .add (.str a) (.str b)=some (.str (a++b)):=by
 show IB .add a b=_
 simp only [IB,yy h,yx]
def aoB (k:y8) (n:Int):iG (.toInt .i64) (.int k n)=some (aa (IntKind.wrap .i64 n)):=rfl
def jZ (a b:List Nat):binOp .eql (.str a) (.str b)=some (.bool (cP a b)):=rfl
def pT {s:List Nat} {i:Nat} (h:i<s.length):mP i (.str s)=some (.int .u8 (s[i]:Nat)):=by
 simp only [mP,xV h]
def XD {r:Nat} (h:r<10):ig [48,49,50,51,52,53,54,55,56,57] (some r) (some (r+1))=some (.str [48+r]):=by
 have:r=0\/r=1\/r=2\/r=3\/r=4\/r=5\/r=6\/r=7\/r=8\/r=9:=by omega
 rcases this with rfl | rfl | rfl | rfl | rfl | rfl | rfl | rfl | rfl | rfl<;>rfl
section
variable {P:aG} {L:Lib}
def Tt (h:Has P L 292 zp) {n:Nat} (hn:n<9223372036854775808):ab P L 292 [aa n,aa 1] (.str (aq n)):=by
 have key:=iU (P:=P) (L:=L) (live:=[0,1,5]) (a:=nD)
  (I:=fun k st=>∃(m:Nat) (s:List Nat),st=⟨[(0,aa m),(1,aa 1),(5,.str s)],[],0,0⟩/\m<=n/\m+(1-s.length)=k/\s.length<=20/\((s=[]/\m=n)\/(0<s.length/\(m=0->s=aq n)/\(0<m->aq n=aq m++s))))
  (Q:=fun ex st=>∃tm ct,st=⟨tm,[],ct,0⟩/\ex= .exit 0/\aj tm 5= .str (aq n)) ?_
 ·unfold ab;rw [aA h];simp only [go_sem,zp];generalize hq:D P L (.loop [0,1,5] nD) _=q;obtain ⟨ex,st,rfl,tm,ct,rfl,rfl,h2⟩:=bI hq (key (n+1)) ⟨n,[],by simp only [go_sem,ya,ax]<;>rfl,by omega,rfl,by simp,.inl ⟨rfl,rfl⟩⟩
  simp only [go_sem,ax,h2]
 ·rintro k st ⟨m,s,rfl,hm,hk,hl,hs⟩;by_cases sn:0<m\/s.length<1
  ·left
   have hc:((decide ((0:Int)<m))=true)\/((decide ((0:Int)<m))=false/\((s.length:Nat):Int)<1):=by
    by_cases h0:0<m
    ·exact .inl (xp (by omega))
    ·exact .inr ⟨yX (by omega),by omega⟩
   have hr:((m:Int)).tmod 10=((m%10:Nat):Int):=by rw [xh (by omega)];rfl
   have hq:((m:Int)).tdiv 10=((m/10:Nat):Int):=by rw [xL (by omega)];rfl
   have hd:=XD (r:=m%10) (by omega);have fin:∃s' k',D P L nD ⟨[(0,aa m),(1,aa 1),(5,.str s)],[],0,0⟩=some (.normal,s')/\k'<k/\aM [0,1,5] s'=⟨[(0,aa (m/10:Nat)),(1,aa 1),(5,.str ([48+m%10]++s))],[],0,0⟩/\m/10+(1-([48+m%10]++s).length)=k':=by
    rcases hc with hc | ⟨hc,r5⟩
    ·have hc:(0:Int)<m:=of_decide_eq_true hc
     simp only [go_sem,ya,yc,nD,hc,eI _ _ _ (show (10:Int)≠0 by decide),eQ _ _ _ (show (10:Int)≠0 by decide),hr,hq,wrapN (n:=m%10+1) (by omega),wrap64 (n:=((m/10:Nat):Int)) (by omega) (by omega),eF,dH,show ((m%10:Nat):Int)+1=((m%10+1:Nat):Int) from rfl,hd,gB (a:=[48+m%10]) (b:=s) (by simp;omega)];refine ⟨_,_,rfl,?_,by simp only [go_sem,ya,ax],rfl⟩
     simp;omega
    ·have hc:¬(0:Int)<m:=of_decide_eq_false hc
     simp only [go_sem,ya,yc,nD,hc,r5,eI _ _ _ (show (10:Int)≠0 by decide),eQ _ _ _ (show (10:Int)≠0 by decide),hr,hq,wrapN (n:=m%10+1) (by omega),wrap64 (n:=((m/10:Nat):Int)) (by omega) (by omega),eF,dH,show ((m%10:Nat):Int)+1=((m%10+1:Nat):Int) from rfl,hd,gB (a:=[48+m%10]) (b:=s) (by simp;omega)];refine ⟨_,_,rfl,?_,by simp only [go_sem,ya,ax],rfl⟩
     simp;omega
   obtain ⟨s',k',f1,f2,f3,f4⟩:=fin;refine ⟨s',k',f1,f2,m/10,[48+m%10]++s,f3,by omega,f4,?_,.inr ⟨by simp,fun h0=>?_,fun h0=>?_⟩⟩
   ·have azP:=Li (n:=n) (by omega);rcases hs with ⟨rfl,rfl⟩ | ⟨h1,h2,h3⟩
    ·simp
    ·by_cases h0:0<m
     ·have e:=congrArg tL (h3 h0);have e2:0<(aq m).length:=by
       by_cases h9:m<10
       ·rw [nn h9];simp
       ·rw [ox h9];simp
      simp only [yR] at e
      simp;omega
     ·omega
   ·have h9:m<10:=by omega
    rcases hs with ⟨rfl,rfl⟩ | ⟨h1,h2,h3⟩
    ·rw [nn h9,yL h9];rfl
    ·have:0<m:=by omega
     rw [h3 this,nn h9,yL h9]
   ·have h9:¬m<10:=by omega
    rcases hs with ⟨rfl,rfl⟩ | ⟨h1,h2,h3⟩
    ·rw [ox h9];simp
    ·rw [h3 (by omega),ox h9];simp
  ·right
   simp only [go_sem,ya,nD,show ¬(0:Int)<m by omega,show ¬((s.length:Nat):Int)<1 by omega];refine ⟨_,_,rfl,by simp,_,_,rfl,rfl,?_⟩;simp only [go_sem,ya];rcases hs with ⟨rfl,rfl⟩ | ⟨h1,h2,h3⟩
   ·simp at sn
   ·rw [h2 (by omega)]
def auJ (h:Has P L 291 Jr) {a b:Nat} (ha:a<9223372036854775808) (hb:b<9223372036854775808):ab P L 291 [aa a,aa b] (aa (wz a b)):=by
 have key:=iU (P:=P) (L:=L) (live:=[0,1]) (a:=Im)
  (I:=fun k st=>∃x y:Nat,st=⟨[(0,aa x),(1,aa y)],[],0,0⟩/\y=k/\wz x y=wz a b)
  (Q:=fun ex st=>∃tm ct,st=⟨tm,[],ct,0⟩/\ex= .exit 0/\aj tm 0=aa (wz a b)) ?_
 ·unfold ab;rw [aA h];simp only [go_sem,Jr];generalize hq:D P L (.loop [0,1] Im) _=q;obtain ⟨ex,st,rfl,tm,ct,rfl,rfl,h2⟩:=bI hq (key b) ⟨a,b,by simp only [go_sem,ya,ax]<;>rfl,rfl,rfl⟩
  simp only [go_sem,ax,h2]
 ·rintro k st ⟨x,y,rfl,rfl,hg⟩;by_cases hy:y=0
  ·right
   subst hy;simp only [go_sem,ya,Im,show ¬(0:Int)<((0:Nat):Int) by omega];refine ⟨_,_,rfl,by simp,_,_,rfl,rfl,?_⟩;simp only [go_sem,ya];rw [<-hg,Nat.gcd_zero_right]
  ·left
   have hr:((x:Int)).tmod y=((x%y:Nat):Int):=by rw [xh (by omega)];rfl
   simp only [go_sem,ya,Im,show (0:Int)<y by omega,eI _ _ _ (show (y:Int)≠0 by omega),hr];refine ⟨_,x%y,rfl,xE _ (by omega),y,x%y,by simp only [go_sem,ya,ax],rfl,?_⟩;rw [<-hg,tv y,<-ycI,tv]
def C0 (h:Has P L 272 Jo) {s:List Nat} (hl:s.length<9223372036854775808):ab P L 272 [.str s] (aa (bH s)):=by
 have key:=iU (P:=P) (L:=L) (live:=[0,3]) (a:=Ej)
  (I:=fun k st=>∃i:Nat,st=⟨[(0,.str s),(3,aa i)],[],0,0⟩/\i+k=s.length/\i+bH (s.drop i)=bH s)
  (Q:=fun ex st=>∃tm ct,st=⟨tm,[],ct,0⟩/\((ex= .ret/\aj tm 2=aa (bH s))\/(ex= .exit 0/\aj tm 0= .str s/\bH s=s.length))) ?_
 ·unfold ab;rw [aA h];simp only [go_sem,Jo];generalize hq:D P L (.loop [0,3] Ej) _=q;obtain ⟨ex,st,rfl,tm,ct,rfl,h2⟩:=bI hq (key s.length) ⟨0,by simp only [go_sem,ya,ax]<;>rfl,by omega,by simp⟩
  rcases h2 with ⟨rfl,h2⟩ | ⟨rfl,h2,h3⟩
  ·simp only [go_sem,h2]
  ·simp only [go_sem,ax,h2,h3]
 ·rintro k st ⟨i,rfl,hk,hs⟩;by_cases hi:i<s.length
  ·rw [ahr hi] at hs;by_cases h7:s[i]=47
   ·right
    rw [yM h7] at hs;simp only [go_sem,ya,Ej,show (i:Int)<s.length by omega,pT hi,show ((s[i]:Nat):Int)=47 by omega];refine ⟨_,_,rfl,by simp,_,_,rfl,.inl ⟨rfl,?_⟩⟩;simp only [go_sem];rw [<-hs];rfl
   ·left
    rw [yB h7] at hs;simp only [go_sem,ya,Ej,show (i:Int)<s.length by omega,pT hi,show ¬((s[i]:Nat):Int)=47 by omega];refine ⟨_,k-1,rfl,by omega,i+1,?_,by omega,by omega⟩;rw [wrap64 (by omega) (by omega)];simp only [go_sem,ya,ax]<;>rfl
  ·right
   simp only [go_sem,ya,Ej,show ¬(i:Int)<s.length by omega];refine ⟨_,_,rfl,by simp,_,_,rfl,.inr ⟨rfl,by simp only [go_sem,ya],?_⟩⟩;rw [y5 (by omega)] at hs;simp only [bH] at hs;omega
def JD (h:Has P L 290 E0) {s:List Nat} {v:Nat} (hl:s.length<=18) (hv:cL s 0=some v):ab P L 290 [.str s] (aa v):=by
 have key:=iU (P:=P) (L:=L) (live:=[0,3,4]) (a:=Il)
  (I:=fun k st=>∃i a:Nat,st=⟨[(0,.str s),(3,aa a),(4,aa i)],[],0,0⟩/\i+k=s.length/\a<10^i/\cL (s.drop i) a=some v)
  (Q:=fun ex st=>∃tm ct,st=⟨tm,[],ct,0⟩/\ex= .exit 0/\aj tm 3=aa v) ?_
 ·unfold ab;rw [aA h];simp only [go_sem,E0];generalize hq:D P L (.loop [0,3,4] Il) _=q;obtain ⟨ex,st,rfl,tm,ct,rfl,rfl,h2⟩:=bI hq (key s.length) ⟨0,0,by simp only [go_sem,ya,ax]<;>rfl,by omega,by simp,hv⟩
  simp only [go_sem,ax,h2]
 ·rintro k st ⟨i,a,rfl,hk,ha,hs⟩;by_cases hi:i<s.length
  ·left
   obtain ⟨h1,h2,h3⟩:=ajO hi hs;have hp:10^i<=10^17:=yV (by decide) (by omega);have hb:IntKind.wrap .i64 ((s[i]:Nat):Int)=((s[i]:Nat):Int):=wrap64 (by omega) (by omega)
   simp only [go_sem,ya,Il,show (i:Int)<s.length by omega,pT hi,aoB,hb,wrap64 (n:=10*(a:Int)) (by omega) (by omega),wrap64 (n:=10*(a:Int)+(s[i]:Nat)) (by omega) (by omega),wrap64 (n:=10*(a:Int)+(s[i]:Nat)-48) (by omega) (by omega)];refine ⟨_,k-1,rfl,by omega,i+1,10*a+(s[i]-48),?_,by omega,?_,h3⟩
   ·rw [wrap64 (by omega) (by omega),show 10*(a:Int)+(s[i]:Nat)-48=((10*a+(s[i]-48):Nat):Int) by omega];simp only [go_sem,ya,ax]<;>rfl
   ·rw [y9];omega
  ·right
   simp only [go_sem,ya,Il,show ¬(i:Int)<s.length by omega];refine ⟨_,_,rfl,by simp,_,_,rfl,rfl,?_⟩;rw [y5 (by omega)] at hs;simp only [cL,yd] at hs;subst hs;simp only [go_sem,ya]
def Mg (a:Int):(if 0-a>a then 0-a else a)=(a.natAbs:Int):=by omega
def LW (a b:Int):a.tdiv (wR a b:Nat)=cY a b:=yas (tM a b)
def LX (a b:Int):b.tdiv (wR a b:Nat)=db a b:=yas (tF a b)
def ns (n:Int):(if n<0 then [45] else [])++aq n.natAbs=aT n:=by
 split
 ·rename_i h;rw [lW h];rfl
 ·rename_i h;obtain ⟨m,rfl⟩:∃m:Nat,n=m:=⟨n.toNat,by omega⟩;rfl
def ama {n:Int} (h:n.natAbs<18446744073709551616):(aT n).length<=21:=by
 rw [<-ns]
 have:=Li h
 grind
def aoC {a b:Int} (hb:0<b):oS a b=(if 1<db a b then (aT (cY a b)++[47])++aq (db a b).natAbs else aT (cY a b)):=by
 have h:=HB (a:=a) hb;unfold oS;by_cases h1:db a b=1
 ·grind
 ·rw [yB h1,yM (by omega)];obtain ⟨m,hm⟩:∃m:Nat,db a b=m:=⟨(db a b).toNat,by omega⟩;rw [hm];rfl
def auK (h:Has P L 277 CU) (Tu:Has P L 291 Jr) (nL:Has P L 292 zp) {a b:Int} (ha: -4000000000000000000<=a/\a<=4000000000000000000) (hb:0<b/\b<=4000000000000000000):
  ab P L 277 [aa a,aa b] (.str (oS a b)):=by
 have hn:=Zl a b;have hd:=Zm a b;have hp:=HB (a:=a) hb.1;have e1:=auJ Tu (a:=a.natAbs) (b:=b.natAbs) (by omega) (by omega);have e2:=Tt nL (n:=(cY a b).natAbs) (by omega);have e3:=Tt nL (n:=(db a b).natAbs) (by omega);have hg:=HP (a:=a) hb.1;rw [show ((b.natAbs:Nat):Int)=b by omega,show wz a.natAbs b.natAbs=wR a b from rfl] at e1;rw [show (((db a b).natAbs:Nat):Int)=db a b by omega] at e3;have mD:=ama (n:=cY a b) (by omega);have rS:=Li (n:=(cY a b).natAbs) (by omega);have hl3:=Li (n:=(db a b).natAbs) (by omega);have hT:=aoC (a:=a) hb.1;have hS:=ns (cY a b);unfold ab at e1 e2 e3 ⊢;rw [aA h];by_cases h0:cY a b<0
 ·rw [yM h0] at hS;by_cases h1:1<db a b
  ·rw [yM h1] at hT
   simp only [go_sem,ya,CU,show ¬a< -4000000000000000000 by omega,show ¬4000000000000000000<a by omega,show ¬b< -4000000000000000000 by omega,show ¬4000000000000000000<b by omega,show ¬b<0 by omega,wrap64 (n:=0-a) (by omega) (by omega),oH,ow,Mg,e1,eQ _ _ _ (show ((wR a b:Nat):Int)≠0 by omega),LW,LX,wrap64 (n:=cY a b) (by omega) (by omega),wrap64 (n:=db a b) (by omega) (by omega),h0,wrap64 (n:=0-cY a b) (by omega) (by omega),e2,gB (a:=[45]) (b:=aq (cY a b).natAbs) (by simp;omega),hS,h1,gB (a:=aT (cY a b)) (b:=[47]) (by simp;omega),e3,gB (a:=aT (cY a b)++[47]) (b:=aq (db a b).natAbs) (by simp;omega),hT]
  ·rw [yB h1] at hT
   simp only [go_sem,ya,CU,show ¬a< -4000000000000000000 by omega,show ¬4000000000000000000<a by omega,show ¬b< -4000000000000000000 by omega,show ¬4000000000000000000<b by omega,show ¬b<0 by omega,wrap64 (n:=0-a) (by omega) (by omega),oH,ow,Mg,e1,eQ _ _ _ (show ((wR a b:Nat):Int)≠0 by omega),LW,LX,wrap64 (n:=cY a b) (by omega) (by omega),wrap64 (n:=db a b) (by omega) (by omega),h0,wrap64 (n:=0-cY a b) (by omega) (by omega),e2,gB (a:=[45]) (b:=aq (cY a b).natAbs) (by simp;omega),hS,h1,hT]
 ·rw [yB h0] at hS;by_cases h1:1<db a b
  ·rw [yM h1] at hT
   simp only [go_sem,ya,CU,show ¬a< -4000000000000000000 by omega,show ¬4000000000000000000<a by omega,show ¬b< -4000000000000000000 by omega,show ¬4000000000000000000<b by omega,show ¬b<0 by omega,wrap64 (n:=0-a) (by omega) (by omega),oH,ow,Mg,e1,eQ _ _ _ (show ((wR a b:Nat):Int)≠0 by omega),LW,LX,wrap64 (n:=cY a b) (by omega) (by omega),wrap64 (n:=db a b) (by omega) (by omega),h0,wrap64 (n:=0-cY a b) (by omega) (by omega),e2,gB (a:=[]) (b:=aq (cY a b).natAbs) (by simp;omega),hS,h1,gB (a:=aT (cY a b)) (b:=[47]) (by simp;omega),e3,gB (a:=aT (cY a b)++[47]) (b:=aq (db a b).natAbs) (by simp;omega),hT]
  ·rw [yB h1] at hT
   simp only [go_sem,ya,CU,show ¬a< -4000000000000000000 by omega,show ¬4000000000000000000<a by omega,show ¬b< -4000000000000000000 by omega,show ¬4000000000000000000<b by omega,show ¬b<0 by omega,wrap64 (n:=0-a) (by omega) (by omega),oH,ow,Mg,e1,eQ _ _ _ (show ((wR a b:Nat):Int)≠0 by omega),LW,LX,wrap64 (n:=cY a b) (by omega) (by omega),wrap64 (n:=db a b) (by omega) (by omega),h0,wrap64 (n:=0-cY a b) (by omega) (by omega),e2,gB (a:=[]) (b:=aq (cY a b).natAbs) (by simp;omega),hS,h1,hT]
end
def TT (n:Int) (d:Nat):List Nat:=aT n++(if d=1 then [] else 47::aq d)
def aoD {a b:Int} (hb:0<b):oS a b=TT (cY a b) (db a b).toNat:=by
 have h:=HB (a:=a) hb;unfold oS TT;by_cases h1:db a b=1
 ·grind
 ·rw [yB h1,yB (by omega)];obtain ⟨m,hm⟩:∃m:Nat,db a b=m:=⟨(db a b).toNat,by omega⟩;rw [hm,xr];rfl
def sN (n:Nat):0<(aq n).length:=by
 by_cases h:n<10
 ·rw [nn h];simp
 ·rw [ox h];simp
def HQ:∀(n:Nat),n<10^(aq n).length:=by
 intro n
 induction n using vB with
 | _ n ih=>
  by_cases h:n<10
  ·rw [nn h];simpa using h
  ·have:=ih (n/10) (by omega)
   rw [ox h,yR,uR,y9];omega
def Zo {n:Nat} (h:(aq n).length<=9):n<1000000000:=
 yA (HQ n) (by simpa using yV (show 0<10 by decide) h)
def DX (n:Nat):∃b r,aq n=b::r/\48<=b/\b<=57:=by
 cases hq:aq n with
 | nil=>have:=sN n;rw [hq] at this;simp at this
 | cons b r=>
  have:=Ak n
  rw [hq] at this;simp only [dc,yg] at this
  simp_all
section
variable {P:aG} {L:Lib}
def C1 (s:List Nat):mP 0 (.str (45::s))=some (.int .u8 45):=rfl
def RP (q:Bool) (n:Int) (d:Nat):AV:=if q=true then .ap [aa n,aa d,.bool true] else .ap [aa 0,aa 0,.bool false]
def jx (d:Nat):List Nat:=if d=1 then [] else 47::aq d
def XE (d:Nat):bH (jx d)=0:=by unfold jx;split<;>rfl
def auL (h:Has P L 276 oR) (zy:Has P L 272 Jo) (zA:Has P L 290 E0) {n:Int} {d:Nat} (hl:(TT n d).length<=20000000000):
  ∃q:Bool,ab P L 276 [.str (TT n d)] (RP q n d)/\(q=true->n.natAbs<1000000000/\d<1000000000):=by
 generalize hs:TT n d=s at hl;by_cases mH:20<s.length
 ·refine ⟨false,?_,fun h=>by cases h⟩;unfold ab;rw [aA h];simp only [go_sem,ya,oR,show (20:Int)<s.length by omega];rfl
 ·have hu:∃u,u=aq n.natAbs++jx d:=⟨_,rfl⟩;obtain ⟨u,hu⟩:=hu;have hK:∃K,K=(aq n.natAbs).length:=⟨_,rfl⟩;obtain ⟨K,hK⟩:=hK;have Fo:bH u=K:=by rw [hu,G9 _ (Ak _),XE,hK];rfl
  have hlen:u.length=K+(jx d).length:=by rw [hu,hK,yR]
  have hp:=sN n.natAbs;obtain ⟨b,r,hb,jj,BB⟩:=DX n.natAbs;have Dw:(n<0/\s=45::u)\/(¬n<0/\s=u):=by
   by_cases h0:n<0
   ·left;refine ⟨h0,?_⟩;rw [<-hs,hu,TT,lW h0];rfl
   ·right;refine ⟨h0,?_⟩;rw [<-hs,hu,TT,<-ns,yB h0];rfl
  have hul:u.length<=s.length:=by rcases Dw with ⟨_,e⟩ | ⟨_,e⟩<;>rw [e]<;>simp
  have BC:0<u.length:=by omega
  have qu:u[0]=b:=by
   have:u=b::(r++jx d):=by rw [hu,hb];rfl
   simp [this]
  have e1:=C0 zy (s:=u) (by omega);rw [Fo] at e1;have ef:ig u (some 0) (some K)=some (.str (aq n.natAbs)):=by
   rw [ll (by omega) (by omega),yp,hu,hK,List.take_left]
  unfold ab at e1;by_cases h9:9<K
  ·refine ⟨false,?_,fun h=>by cases h⟩;unfold ab;rw [aA h];rcases Dw with ⟨h0,e⟩ | ⟨h0,e⟩
   ·have mH:¬20<u.length+1:=by rw [e] at mH;exact mH
    have kW:ig (45::u) (some 1) (some (u.length+1))=some (.str u):=by rw [ll (s:=45::u) (l:=1) (h:=u.length+1) (by omega) (by simp)];simp
    rw [e];simp only [go_sem,ya,oR,show ¬(20:Int)<((u.length+1:Nat):Int) by omega,show (0:Int)<((u.length+1:Nat):Int) by omega,C1,eF,eR,dH,kW,e1,show (9:Int)<(K:Int) by omega];rfl
   ·rw [e];simp only [go_sem,ya,oR,show ¬(20:Int)<(u.length:Nat) by omega,show (0:Int)<(u.length:Nat) by omega,pT BC,qu,show ¬((b:Nat):Int)=45 by omega,e1,show (9:Int)<(K:Int) by omega];rfl
  ·by_cases iQ:10<(jx d).length
   ·refine ⟨false,?_,fun h=>by cases h⟩;unfold ab;rw [aA h];rcases Dw with ⟨h0,e⟩ | ⟨h0,e⟩
    ·have mH:¬20<u.length+1:=by rw [e] at mH;exact mH
     have kW:ig (45::u) (some 1) (some (u.length+1))=some (.str u):=by rw [ll (s:=45::u) (l:=1) (h:=u.length+1) (by omega) (by simp)];simp
     rw [e]
     simp only [go_sem,ya,oR,show ¬(20:Int)<((u.length+1:Nat):Int) by omega,show (0:Int)<((u.length+1:Nat):Int) by omega,C1,eF,eR,dH,kW,e1,show ¬(9:Int)<(K:Int) by omega,wrap64 (n:=(u.length:Int)-(K:Int)) (by omega) (by omega),show (10:Int)<(u.length:Int)-(K:Int) by omega];rfl
    ·rw [e]
     simp only [go_sem,ya,oR,show ¬(20:Int)<(u.length:Nat) by omega,show (0:Int)<(u.length:Nat) by omega,pT BC,qu,show ¬((b:Nat):Int)=45 by omega,e1,show ¬(9:Int)<(K:Int) by omega,wrap64 (n:=(u.length:Int)-(K:Int)) (by omega) (by omega),show (10:Int)<(u.length:Int)-(K:Int) by omega];rfl
   ·have e2:=JD zA (s:=aq n.natAbs) (by omega) (sK n.natAbs);unfold ab at e2;have hm:=Zo (n:=n.natAbs) (by omega);by_cases hd:d=1
    ·subst hd;have lS:jx 1=[]:=rfl;refine ⟨true,?_,fun _=>⟨hm,by decide⟩⟩;rw [lS] at hlen;simp only [yI,yW] at hlen;unfold ab;rw [aA h];rcases Dw with ⟨h0,e⟩ | ⟨h0,e⟩
     ·have mH:¬20<u.length+1:=by rw [e] at mH;exact mH
      have kW:ig (45::u) (some 1) (some (u.length+1))=some (.str u):=by rw [ll (s:=45::u) (l:=1) (h:=u.length+1) (by omega) (by simp)];simp
      rw [e]
      simp only [go_sem,ya,oR,show ¬(20:Int)<((u.length+1:Nat):Int) by omega,show (0:Int)<((u.length+1:Nat):Int) by omega,C1,eF,eR,dH,kW,e1,show ¬(9:Int)<(K:Int) by omega,wrap64 (n:=(u.length:Int)-(K:Int)) (by omega) (by omega),show ¬(10:Int)<(u.length:Int)-(K:Int) by omega,ef,e2,show ¬(K:Int)<(u.length:Int) by omega,wrap64 (n:=0-(n.natAbs:Int)) (by omega) (by omega)];rw [show 0-(n.natAbs:Int)=n by omega];rfl
     ·rw [e]
      simp only [go_sem,ya,oR,show ¬(20:Int)<(u.length:Nat) by omega,show (0:Int)<(u.length:Nat) by omega,pT BC,qu,show ¬((b:Nat):Int)=45 by omega,eF,eR,dH,e1,show ¬(9:Int)<(K:Int) by omega,wrap64 (n:=(u.length:Int)-(K:Int)) (by omega) (by omega),show ¬(10:Int)<(u.length:Int)-(K:Int) by omega,ef,e2,show ¬(K:Int)<(u.length:Int) by omega];rw [show (n.natAbs:Int)=n by omega];rfl
    ·have lS:jx d=47::aq d:=yB hd;have Kr:(jx d).length=(aq d).length+1:=by rw [lS];rfl
     have hpd:=sN d;have hd9:=Zo (n:=d) (by omega);have e3:=JD zA (s:=aq d) (by omega) (sK d);unfold ab at e3;have r5:ig u (some (K+1)) (some u.length)=some (.str (aq d)):=by
      rw [ll (by omega) (yz _),xH,hu,lS,hK,show (aq n.natAbs).length+1=(aq n.natAbs++[47]).length by simp,show aq n.natAbs++47::aq d=(aq n.natAbs++[47])++aq d by simp,List.drop_left]
     refine ⟨true,?_,fun _=>⟨hm,hd9⟩⟩;unfold ab;rw [aA h];rcases Dw with ⟨h0,e⟩ | ⟨h0,e⟩
     ·have mH:¬20<u.length+1:=by rw [e] at mH;exact mH
      have kW:ig (45::u) (some 1) (some (u.length+1))=some (.str u):=by rw [ll (s:=45::u) (l:=1) (h:=u.length+1) (by omega) (by simp)];simp
      rw [e]
      simp only [go_sem,ya,oR,show ¬(20:Int)<((u.length+1:Nat):Int) by omega,show (0:Int)<((u.length+1:Nat):Int) by omega,C1,eF,eR,dH,kW,e1,show ¬(9:Int)<(K:Int) by omega,wrap64 (n:=(u.length:Int)-(K:Int)) (by omega) (by omega),show ¬(10:Int)<(u.length:Int)-(K:Int) by omega,ef,e2,show (K:Int)<(u.length:Int) by omega,wrapN (n:=K+1) (by omega),show (K:Int)+1=((K+1:Nat):Int) from rfl,r5,e3,wrap64 (n:=0-(n.natAbs:Int)) (by omega) (by omega)];rw [show 0-(n.natAbs:Int)=n by omega];rfl
     ·rw [e]
      simp only [go_sem,ya,oR,show ¬(20:Int)<(u.length:Nat) by omega,show (0:Int)<(u.length:Nat) by omega,pT BC,qu,show ¬((b:Nat):Int)=45 by omega,eF,eR,dH,e1,show ¬(9:Int)<(K:Int) by omega,wrap64 (n:=(u.length:Int)-(K:Int)) (by omega) (by omega),show ¬(10:Int)<(u.length:Int)-(K:Int) by omega,ef,e2,show (K:Int)<(u.length:Int) by omega,wrapN (n:=K+1) (by omega),show (K:Int)+1=((K+1:Nat):Int) from rfl,r5,e3];rw [show (n.natAbs:Int)=n by omega];rfl
def Tv (h:Has P L 302 rC) {v:AV} {l:List Int} (hv:a8 v l) (i:Nat):ab P L 302 [v,aa i] (aa (l.getD i 0)):=by
 unfold ab;rw [aA h];by_cases hi:i<l.length
 ·simp only [go_sem,ya,rC,hv.len,show (i:Int)<l.length by omega,hv.bn hi];simp [xz,xV hi]
 ·simp only [go_sem,ya,rC,hv.len,show ¬(i:Int)<l.length by omega];simp [xz,List.getElem?_eq_none (Nat.le_of_not_lt hi)]
def aap {hp:Hp} {e:Bool} {n:Nat} {cs:List AV} {tm:Env} {h:Nat} {x:X} (hx:cC tm n (some x)=some h) (hh:h<=n):
  fB hp (.sl 1) (.aC e n cs) tm none (some x)=some (.aC (e&&yt h n) h (cs.take h)):=by
 simp only [fB,hx,eR];simp [yy hh,slice];rw [show yG 0 h=true from yy (tu _)];rfl
def A5 (h:Has P L 300 lJ) {v:AV} {l:List Int} (hv:a8 v l) (hl:l.length<=20000000000):∃r,ab P L 300 [v] r/\a8 r (dS l)/\shut r=r:=by
 rcases hv with ⟨rfl,h0⟩ | ⟨e,rfl⟩
 ·have:l=[]:=by simpa using h0
  subst this;refine ⟨.af,?_,qQ,rfl⟩;unfold ab;rw [aA h];simp only [go_sem,ya,lJ,Eu,Cq,ax,show ¬(0:Int)<0 by decide]
 ·have key:=iU (P:=P) (L:=L) (live:=[0]) (a:=Cq)
   (I:=fun k st=>∃(i:Nat) (e:Bool),st=⟨[(0,.aC e i ((l.take i).map aa))],[],0,0⟩/\i<=l.length/\i=k/\dS (l.take i)=dS l)
   (Q:=fun ex st=>∃tm ct,st=⟨tm,[],ct,0⟩/\ex= .exit 0/\∃i e,aj tm 0= .aC e i ((l.take i).map aa)/\i<=l.length/\l.take i=dS l) ?_
  ·have hlen:(l.map aa).length=l.length:=by simp
   rw [hlen];have jd:∃i e',ab P L 300 [.aC e l.length (l.map aa)] (.aC e' i ((l.take i).map aa))/\i<=l.length/\l.take i=dS l:=by
    unfold ab;rw [aA h];simp only [go_sem,lJ];generalize hq:D P L (.loop [0] Cq) _=q;obtain ⟨ex,st,rfl,tm,ct,rfl,rfl,i,e',h2,h3,h4⟩:=bI hq (key l.length) ⟨l.length,e,by simp only [go_sem,ya,ax,xH],yz _,rfl,by rw [xH]⟩;simp only [go_sem,ax,h2];exact ⟨i,e',rfl,h3,h4⟩
   obtain ⟨i,e',g1,g2,g3⟩:=jd;refine ⟨_,g1,?_,rfl⟩;rw [<-g3]
   have:=gZ e' (l.take i)
   rwa [yT,xD g2] at this
  ·rintro k st ⟨i,e,rfl,hi,rfl,ht⟩
   cases i with
   | zero=>
    right
    simp only [go_sem,ya,Cq,show ¬(0:Int)<((0:Nat):Int) by omega];exact ⟨_,_,rfl,by simp,_,_,rfl,rfl,0,e,by simp only [go_sem,ya],tu _,by simpa [dS] using ht⟩
   | succ i=>
    have zQ:i<l.length:=by omega
    have dz:l.take (i+1)=l.take i++[l[i]]:=wJ zQ;have ir:vH i ((l.take (i+1)).map aa)=[AV.int .i64 l[i]]:=by
     rw [dz,xu,List.drop_left' (by simp;omega)];rfl
    have n9:ju 1 i (.aC e (i+1) ((l.take (i+1)).map aa))=some (.aJ [AV.int .i64 l[i]]):=by
     rw [Q5 e _ (by omega),yj,ir]
    by_cases h0:l[i]=0
    ·left
     have lL:∀tm x,cC tm (i+1) (some x)=some i->fB [] (.sl 1) (.aC e (i+1) ((l.take (i+1)).map aa)) tm none (some x)=some (.aC (e&&yt i (i+1)) i ((l.take i).map aa)):=fun tm x hx=>by
      rw [aap hx (by omega),<-ybL,List.take_take,xD (by omega)]
     simp only [go_sem,ya,Cq,show (0:Int)<((i+1:Nat):Int) by omega,show ((i+1:Nat):Int)-1=(i:Int) by omega,wrapN (n:=i) (by omega),n9,h0,lL,dH];refine ⟨_,i,rfl,by omega,i,_,by simp only [go_sem,ax]<;>rfl,by omega,rfl,?_⟩
     rw [<-ht,dz,h0,He]
    ·right
     simp only [go_sem,ya,Cq,show (0:Int)<((i+1:Nat):Int) by omega,show ((i+1:Nat):Int)-1=(i:Int) by omega,wrapN (n:=i) (by omega),n9,h0];refine ⟨_,_,rfl,by simp,_,_,rfl,rfl,i+1,e,by simp only [go_sem,ya],by omega,?_⟩;rw [<-ht,dz,Lg h0]
end
abbrev uc (n:Nat):AV:= .int .u64 (n:Int)
def bB (v:AV) (l:List Nat):Prop:=cE v (l.map uc)
section
variable {v:AV} {l:List Nat}
def bB.len (h:bB v l) {hp:Hp}:jv hp 1 v=some (.int .i64 (l.length:Nat)):=by
 have:=cE.len (hp:=hp) h
 grind
def bB.pu (h:bB v l):aV v=true:=cE.pu h
def bB.ai (h:bB v l) (n:Nat) {hp:Hp}:freeze (n+1) hp v=some (v,hp):=cE.ai h n
def bB.shut (h:bB v l):VE.shut v=v:=cE.shut h
def bB.bP (h:bB v l):VE.bP v=v:=cE.bP h
def bB.dd (h:bB v l) {hp:Hp}:result hp v=some v:=cE.dd h
def bB.one (h:bB v l):bc v=true:=cE.one h
def bB.bn (h:bB v l) {i:Nat} (hi:i<l.length):ju 1 i v=some (.aJ (uc (l.getD i 0)::(l.map uc).drop (i+1))):=by
 have:=cE.bn h (i:=i) (by simpa using hi)
 grind
def mL (e:Bool) (l:List Nat):bB (.aC e l.length (l.map uc)) l:=by
 have:=Ca e (l.map uc)
 rwa [xo] at this
def pQ:bB .af []:=qQ
end
def kH {hp:Hp} {ct id o:Nat} {v:Nat} {ex:Bool} {l:List Nat} (h:o<l.length):gW hp ct id o 1 [.int .u64 (v:Int)] (some (.cells true true ex 1 (l.map uc)))=some (.ap [],aU hp id (.cells true true ex 1 ((l.set o v).map uc)),ct):=by
 rw [ri (by rfl) (by simp;omega) (by rfl)]
 have:over o [uc v] (l.map uc)=(l.set o v).map uc:=by
  simp only [over,yv,yI,yf];rw [List.map_set,tA,yM (by simpa using h)]
  simp
 rw [this];rfl
def zf {l:List Nat} {o:Nat} (h:o<l.length):vH o (l.map uc)=uc (l.getD o 0)::vH (o+1) (l.map uc):=by
 rw [yO (by simpa using h)]
 grind
def aoE (n:Nat):(yC n [AV.int .u64 0]).flatten=(yC n 0).map uc:=by simp_all
def C2 (ct:Nat) {n:Nat} (h:n<=100000000000):zx ct 1 8 [.int .u64 0] (some n) (some n)=some (.ay ct 0 n,.cells true true true 1 ((yC n 0).map uc)):=by
 rw [Ew (sz:=1) (by omega) (by omega) (by rfl) (by rfl),aoE];rfl
def A6 (hp:Hp) {n:Nat} {l:List Nat} (h:l.length=n) (ex:Bool):lK 0 n (some (ex,1,l.map uc,hp))=some (.aC ex n (l.map uc),hp):=lV ex (by simp [h]) (by decide)
def aco {n:Nat} (h:n<18446744073709551616):IntKind.wrap .u64 (n:Int)=n:=atp (by omega) (by omega)
section
variable {P:aG} {L:Lib} {f:cw}
def jO {a b:Nat} (h:a<b):yK a b=true:=by simp_all
def Ct (h:L.pure 171=some nC) {x y c:Nat} (hx:x<18446744073709551616) (hy:y<18446744073709551616) (hc:c<=1):
  bF P L f 171 [uc x,uc y,uc c]=some (.ap [uc ((x+y+c)%18446744073709551616),uc ((x+y+c)/18446744073709551616)]):=by
 rw [iA h];show (bif yG c 1&&(yK x 18446744073709551616&&yK y 18446744073709551616) then _ else none)=_
 rw [yy hc,jO hx,jO hy];rfl
def RQ (h:L.pure 173=some Az) {x y c:Nat} (hx:x<18446744073709551616) (hy:y<18446744073709551616) (hc:c<=1):
  bF P L f 173 [uc x,uc y,uc c]=some (.ap [uc ((x+18446744073709551616*2-y-c)%18446744073709551616),uc (if y+c<=x then 0 else 1)]):=by
 rw [iA h];show (bif yG c 1&&(yK x 18446744073709551616&&yK y 18446744073709551616) then _ else none)=_
 rw [yy hc,jO hx,jO hy];by_cases hh:y+c<=x
 ·rw [yy hh,yM hh];rfl
 ·have:yG (y+c) x=false:=by
   cases hq:yG (y+c) x with
   | false=>rfl
   | true=>exact absurd (yr hq) hh
  grind
def MA (h:L.pure 143=some qW) {x y:Nat} (hx:x<18446744073709551616) (hy:y<18446744073709551616):
  bF P L f 143 [uc x,uc y]=some (.ap [uc (x*y/18446744073709551616),uc (x*y%18446744073709551616)]):=by
 rw [iA h];show (bif yK x 18446744073709551616&&yK y 18446744073709551616 then _ else none)=_
 rw [jO hx,jO hy];rfl
def amb {hp:Hp} {tm:Env} {x:X} (hx:cC tm 0 (some x)=some 0):fB hp (.sl 1) .af tm none (some x)=some .af:=by
 simp only [fB,hx,eR]
def A7 (h:Has P L 166 A0) {v:AV} {l:List Nat} (hv:bB v l) (hl:l.length<=100000000000):∃r,ab P L 166 [v] r/\bB r (dT l):=by
 rcases hv with ⟨rfl,h0⟩ | ⟨e,rfl⟩
 ·have:l=[]:=by simpa using h0
  subst this;refine ⟨.af,?_,qQ⟩;unfold ab;rw [aA h];simp only [go_sem,ya,A0,Eu,Cn,ax,show ¬(0:Int)<0 by decide,amb,dH]
 ·have key:=iU (P:=P) (L:=L) (live:=[0,3]) (a:=Cn)
   (I:=fun k st=>∃(i:Nat),st=⟨[(0,.aC e l.length (l.map uc)),(3,aa i)],[],0,0⟩/\i<=l.length/\i=k/\dT (l.take i)=dT l)
   (Q:=fun ex st=>∃tm ct,st=⟨tm,[],ct,0⟩/\ex= .exit 0/\∃i:Nat,aj tm 0= .aC e l.length (l.map uc)/\aj tm 3=aa i/\i<=l.length/\l.take i=dT l) ?_
  ·have hlen:(l.map uc).length=l.length:=by simp
   rw [hlen];have jd:∃i e',ab P L 166 [.aC e l.length (l.map uc)] (.aC e' i ((l.take i).map uc))/\i<=l.length/\l.take i=dT l:=by
    unfold ab;rw [aA h];simp only [go_sem,ya,A0];generalize hq:D P L (.loop [0,3] Cn) _=q;obtain ⟨ex,st,rfl,tm,ct,rfl,rfl,i,h2,h3,h4,h5⟩:=bI hq (key l.length) ⟨l.length,by simp only [go_sem,ya,ax],yz _,rfl,by rw [xH]⟩;have lL:∀tm x,cC tm l.length (some x)=some i->fB [] (.sl 1) (.aC e l.length (l.map uc)) tm none (some x)=some (.aC (e&&yt i l.length) i ((l.map uc).take i)):=fun tm x hx=>aap hx h4
    simp only [go_sem,ya,ax,h2,h3,lL,dH];exact ⟨i,_,by rw [ybL],h4,h5⟩
   obtain ⟨i,e',g1,g2,g3⟩:=jd;refine ⟨_,g1,?_⟩;rw [<-g3]
   have:=mL e' (l.take i)
   rwa [yT,xD g2] at this
  ·rintro k st ⟨i,rfl,hi,rfl,ht⟩
   cases i with
   | zero=>
    right
    simp only [go_sem,ya,Cn,show ¬(0:Int)<((0:Nat):Int) by omega];exact ⟨_,_,rfl,by simp,_,_,rfl,rfl,0,by simp only [go_sem,ya],by simp only [go_sem,ya],tu _,by simpa [dT] using ht⟩
   | succ i=>
    have zQ:i<l.length:=by omega
    have dz:l.take (i+1)=l.take i++[l[i]]:=wJ zQ;have n9:=(mL e l).bn zQ;rw [<-gd zQ] at n9;by_cases h0:l[i]=0
    ·left
     simp only [go_sem,ya,Cn,show (0:Int)<((i+1:Nat):Int) by omega,show ((i+1:Nat):Int)-1=(i:Int) by omega,wrapN (n:=i) (by omega),n9,show ((l[i]:Nat):Int)=0 by omega];refine ⟨_,i,rfl,by omega,i,by simp only [go_sem,ya,ax],by omega,rfl,?_⟩;rw [<-ht,dz,h0,Lh]
    ·right
     simp only [go_sem,ya,Cn,show (0:Int)<((i+1:Nat):Int) by omega,show ((i+1:Nat):Int)-1=(i:Int) by omega,wrapN (n:=i) (by omega),n9,show ¬((l[i]:Nat):Int)=0 by omega];refine ⟨_,_,rfl,by simp,_,_,rfl,rfl,i+1,by simp only [go_sem,ya],by simp only [go_sem,ya],by omega,?_⟩;rw [<-ht,dz,DU h0]
end
def Lj (p b s:Nat):p*(s%b)+p*b*(s/b)=p*s:=by
 rw [xm,<-xC,uB]
def ajP {b:Nat} {x y out:List Nat} {i c:Nat} (hi:i<out.length) (hz:out.getD i 0=0) (hv:bv b out+b^i*c=bv b (x.take i)+bv b (y.take i)):
  bv b (out.set i ((x.getD i 0+y.getD i 0+c)%b))+b^(i+1)*((x.getD i 0+y.getD i 0+c)/b)=bv b (x.take (i+1))+bv b (y.take (i+1)):=by
 have h1:=nE (b:=b) (x:=(x.getD i 0+y.getD i 0+c)%b) hi;have h2:=Lj (b^i) b (x.getD i 0+y.getD i 0+c);rw [hz,xx,yW] at h1;rw [iW,iW,y9,h1]
 grind
def ajQ {b:Nat} {x y out:List Nat} {i c z c':Nat} (hi:i<out.length) (hz:out.getD i 0=0) (hs:z+y.getD i 0+c=x.getD i 0+b*c') (hv:bv b out+bv b (y.take i)=bv b (x.take i)+b^i*c):
  bv b (out.set i z)+bv b (y.take (i+1))=bv b (x.take (i+1))+b^(i+1)*c':=by
 have h1:=nE (b:=b) (x:=z) hi;rw [hz,xx,yW] at h1;rw [iW,iW,y9,h1]
 grind
section
variable {P:aG} {L:Lib}
def adq (h:Has P L 158 EV) {v w:AV} {x y:List Nat} (hv:bB v x) (hw:bB w y) (hx:lo 18446744073709551616 x) (hy:lo 18446744073709551616 y) (nx:gI x) (ny:gI y) (lx:x.length<=100000000000) (ly:y.length<=100000000000):
  ab P L 158 [v,w] (aa (dP (bv 18446744073709551616 x) (bv 18446744073709551616 y))):=by
 unfold ab;rw [aA h];by_cases hlen:x.length=y.length
 ·have key:=iU (P:=P) (L:=L) (live:=[0,1,5]) (a:=Cm)
   (I:=fun k st=>∃j:Nat,st=⟨[(0,v),(1,w),(5,aa ((j:Int)-1))],[],0,0⟩/\j<=x.length/\j=k/\x.drop j=y.drop j)
   (Q:=fun ex st=>∃tm ct,st=⟨tm,[],ct,0⟩/\((ex= .ret/\aj tm 4=aa (dP (bv 18446744073709551616 x) (bv 18446744073709551616 y)))\/(ex= .exit 0/\x=y))) ?_
  ·simp only [go_sem,ya,EV,hv.len,hw.len,show (x.length:Int)=y.length by omega];generalize hq:D P L (.loop [0,1,5] Cm) _=q;obtain ⟨ex,st,rfl,tm,ct,rfl,h2⟩:=bI hq (key x.length) ⟨x.length,by
    rw [wrap64 (by omega) (by omega),hlen]
    simp only [go_sem,ya,ax,aE hv.pu,aH _ hv.pu,aE hw.pu,aH _ hw.pu]<;>rfl,yz _,rfl,by rw [y5 (yz _),y5 (by omega)]⟩
   rcases h2 with ⟨rfl,h2⟩ | ⟨rfl,h2⟩
   ·simp only [go_sem,h2]
   ·simp only [go_sem,ax];subst h2;simp [dP]
  ·rintro k st ⟨j,rfl,hj,rfl,he⟩
   cases j with
   | zero=>
    right
    simp only [go_sem,ya,Cm,show ¬(0:Int)<=((0:Nat):Int)-1 by omega];exact ⟨_,_,rfl,by simp,_,_,rfl,.inr ⟨rfl,by simpa using he⟩⟩
   | succ i=>
    have h1:i<x.length:=by omega
    have h2:i<y.length:=by omega
    have Fs:=aai hx h1 h2 he;have aP:=aai hy h2 h1 he.symm;by_cases c0:x.getD i 0=y.getD i 0
    ·left
     simp only [go_sem,ya,Cm,show ((i+1:Nat):Int)-1=(i:Int) by omega,show (0:Int)<=(i:Int) by omega,hv.bn h1,hw.bn h2,c0];refine ⟨_,i,rfl,by omega,i,?_,by omega,rfl,?_⟩
     ·rw [wrap64 (by omega) (by omega)];simp only [go_sem,ya,ax,aE hv.pu,aH _ hv.pu,aE hw.pu,aH _ hw.pu]<;>rfl
     ·rw [yO h1,yO h2,he,gd h1,gd h2,c0]
    ·by_cases c1:x.getD i 0<y.getD i 0
     ·right
      simp only [go_sem,ya,Cm,show ((i+1:Nat):Int)-1=(i:Int) by omega,show (0:Int)<=(i:Int) by omega,hv.bn h1,hw.bn h2,show ¬((x.getD i 0:Nat):Int)=(y.getD i 0:Nat) by omega,show ((x.getD i 0:Nat):Int)<(y.getD i 0:Nat) by omega];refine ⟨_,_,rfl,by simp,_,_,rfl,.inl ⟨rfl,?_⟩⟩;simp only [go_sem];unfold dP;rw [yM (Fs c1)]
     ·right
      simp only [go_sem,ya,Cm,show ((i+1:Nat):Int)-1=(i:Int) by omega,show (0:Int)<=(i:Int) by omega,hv.bn h1,hw.bn h2,show ¬((x.getD i 0:Nat):Int)=(y.getD i 0:Nat) by omega,show ¬((x.getD i 0:Nat):Int)<(y.getD i 0:Nat) by omega];refine ⟨_,_,rfl,by simp,_,_,rfl,.inl ⟨rfl,?_⟩⟩;simp only [go_sem];unfold dP;rw [yB (by omega),yM (by omega)]
 ·by_cases c1:x.length<y.length
  ·have:=Me (b:=18446744073709551616) (by decide) hx ny c1
   simp only [go_sem,ya,EV,hv.len,hw.len,show ¬(x.length:Int)=y.length by omega,show (x.length:Int)<y.length by omega];unfold dP;rw [yM this]
  ·have:=Me (b:=18446744073709551616) (by decide) hy nx (show y.length<x.length by omega)
   simp only [go_sem,ya,EV,hv.len,hw.len,show ¬(x.length:Int)=y.length by omega,show ¬(x.length:Int)<y.length by omega];unfold dP;rw [yB (by omega),yM this]
def aa2 (gG:L.pure 171=some nC) {v w:AV} {x y:List Nat} (hv:bB v x) (hw:bB w y) (hx:lo 18446744073709551616 x) (hy:lo 18446744073709551616 y) (lx:x.length<=99999999999) (ly:y.length<=x.length) {n:Nat} (hn:n=x.length+1):
  ∀k s,(∃(i c:Nat) (out:List Nat),aM [0,1,5,6,21,22] s=⟨[(0,v),(1,w),(5,.ay 0 0 n),(6,uc c),(21,aa x.length),(22,aa i)],[(0,.cells true true true 1 (out.map uc))],1,0⟩/\i+k=x.length/\out.length=n/\c<=1/\lo 18446744073709551616 out/\
    bv 18446744073709551616 out+18446744073709551616^i*c=bv 18446744073709551616 (x.take i)+bv 18446744073709551616 (y.take i)/\(∀m,i<=m->out.getD m 0=0))->
   ∃ex s',D P L (.loop [0,1,5,6,21,22] Cl) s=some (ex,s')/\∃tm c out,s'=⟨tm,[(0,.cells true true true 1 (out.map uc))],1,0⟩/\ex= .exit 0/\aj tm 0=v/\aj tm 5= .ay 0 0 n/\aj tm 6=uc c/\out.length=n/\c<=1/\lo 18446744073709551616 out/\
    bv 18446744073709551616 out+18446744073709551616^x.length*c=bv 18446744073709551616 x+bv 18446744073709551616 y/\out.getD x.length 0=0:=by
 intro dq sq;generalize bf:aM [0,1,5,6,21,22] sq=s0;revert bf s0 sq dq;apply dh;rintro k s ⟨i,c,out,rfl,hk,hlen,hc,aZ,aI,fN⟩;by_cases hi:i<x.length
 ·left
  have hz:=fN i (yz _);have kO:=ajP (x:=x) (y:=y) (show i<out.length by omega) hz aI;have gx:=gC (show 0<18446744073709551616 by decide) hx i;have gy:=gC (show 0<18446744073709551616 by decide) hy i;have e1:=Ct (P:=P) (f:=D P L) gG gx gy hc;have ex:=hv.bn hi;generalize x.getD i 0=p at*
  by_cases hj:i<y.length
  ·have ey:=hw.bn hj;generalize y.getD i 0=q at*
   simp only [go_sem,ya,yj,Cl,hw.len,show (i:Int)<x.length by omega,show (i:Int)<y.length by omega,ex,ey,e1,cU 0 0 (show i<n by omega),yf,kH (l:=out) (o:=i) (by omega)]
   refine ⟨_,k-1,rfl,by omega,i+1,(p+q+c)/18446744073709551616,_,?_,by omega,by simp [hlen],by omega,me aZ (x:=(p+q+c)%18446744073709551616) (i:=i) (by omega),kO,fun m hm=>?_⟩
   ·rw [wrap64 (by omega) (by omega)];simp only [go_sem,ya,yc,ax,aE hv.pu,aH _ hv.pu,aE hw.pu,aH _ hw.pu]<;>rfl
   ·rw [oD (by omega)];exact fN m (by omega)
  ·have fO:y.getD i 0=0:=RI (by omega);rw [fO] at kO e1;rw [show (uc 0)=AV.int .u64 0 from rfl] at e1
   simp only [go_sem,ya,yj,Cl,hw.len,show (i:Int)<x.length by omega,show ¬(i:Int)<y.length by omega,ex,e1,cU 0 0 (show i<n by omega),yf,kH (l:=out) (o:=i) (by omega)]
   refine ⟨_,k-1,rfl,by omega,i+1,(p+0+c)/18446744073709551616,_,?_,by omega,by simp [hlen],by omega,me aZ (x:=(p+0+c)%18446744073709551616) (i:=i) (by omega),kO,fun m hm=>?_⟩
   ·rw [wrap64 (by omega) (by omega)];simp only [go_sem,ya,yc,ax,aE hv.pu,aH _ hv.pu,aE hw.pu,aH _ hw.pu]<;>rfl
   ·rw [oD (by omega)];exact fN m (by omega)
 ·right
  have:i=x.length:=by omega
  subst this;rw [xH,yN ly] at aI;simp only [go_sem,ya,Cl,show ¬(x.length:Int)<x.length by omega];exact ⟨_,_,rfl,by simp,_,c,out,rfl,rfl,by simp only [go_sem,ya],by simp only [go_sem,ya],by simp only [go_sem,ya],hlen,hc,aZ,aI,fN _ (yz _)⟩
def auM (h:Has P L 157 Je) (mv:Has P L 166 A0) (gG:L.pure 171=some nC) {v w:AV} {x y:List Nat} (hv:bB v x) (hw:bB w y) (hx:lo 18446744073709551616 x) (hy:lo 18446744073709551616 y) (lx:x.length<=99999999999) (ly:y.length<=99999999999):
  ∃r out,ab P L 157 [v,w] r/\bB r out/\lo 18446744073709551616 out/\gI out/\bv 18446744073709551616 out=bv 18446744073709551616 x+bv 18446744073709551616 y:=by
 have fin:∀{x y o:List Nat} {n c:Nat},n=x.length+1->x.length<=99999999999->o.length=n->c<=1->lo 18446744073709551616 o->bv 18446744073709551616 o+18446744073709551616^x.length*c=bv 18446744073709551616 x+bv 18446744073709551616 y->o.getD x.length 0=0->
   ∃r,bF P L (D P L) 166 [.aC true n ((o.set x.length c).map uc)]=some r/\bB r (dT (o.set x.length c))/\lo 18446744073709551616 (dT (o.set x.length c))/\gI (dT (o.set x.length c))/\bv 18446744073709551616 (dT (o.set x.length c))=bv 18446744073709551616 x+bv 18446744073709551616 y:=by
  intro x y o n c hn lx hlen hc aZ aI hz;have aU:=nE (b:=18446744073709551616) (l:=o) (i:=x.length) (x:=c) (by omega);rw [hz,xx,yW,aI] at aU;have auN:lo 18446744073709551616 (o.set x.length c):=me aZ (by omega);have hf:=mL true (o.set x.length c);rw [List.length_set,hlen] at hf;obtain ⟨r,e1,hr⟩:=A7 mv hf (by simp;omega);exact ⟨r,e1,hr,Aq auN,Ap _,by rw [Ao];exact aU⟩
 by_cases hl:x.length<y.length
 ·obtain ⟨n,hn⟩:∃n,n=y.length+1:=⟨_,rfl⟩;unfold ab;rw [aA h]
  simp only [go_sem,ya,yc,Je,hv.len,hw.len,show (x.length:Int)<y.length by omega,wrapN (n:=n) (by omega),show (y.length:Int)+1=((y.length+1:Nat):Int) from rfl,<-hn,C2 (n:=n) _ (by omega)];generalize hq:D P L (.loop [0,1,5,6,21,22] Cl) _=q;obtain ⟨ex,s,rfl,tm,c,o,rfl,rfl,t0,t5,t6,hlen,hc,aZ,aI,hz⟩:=bI hq (aa2 (P:=P) (L:=L) gG hw hv hy hx ly (by omega) hn y.length)
   ⟨0,0,yC n 0,by simp only [go_sem,ya,yc,ax,aE hv.pu,aH _ hv.pu,aE hw.pu,aH _ hw.pu]<;>rfl,by omega,by simp,by omega,Es (by decide) n,by rw [Et];simp [bv],fun m _=>B9 n m⟩
  obtain ⟨r,e1,hr,f1,f2,f3⟩:=fin hn ly hlen hc aZ aI hz;refine ⟨r,_,?_,hr,f1,f2,by rw [f3];omega⟩
  simp only [go_sem,ya,yj,ax,aE hw.pu,aH _ hw.pu,hw.len,t0,t5,t6,cU 0 0 (show y.length<n by omega),yf,kH (l:=o) (o:=y.length) (by omega)]
  simp only [go_sem,A6 _ (n:=n) (l:=o.set y.length c) (by simp [hlen]) true,e1,hr.shut,hr.dd]
 ·obtain ⟨n,hn⟩:∃n,n=x.length+1:=⟨_,rfl⟩;unfold ab;rw [aA h]
  simp only [go_sem,ya,yc,Je,hv.len,hw.len,show ¬(x.length:Int)<y.length by omega,wrapN (n:=n) (by omega),show (x.length:Int)+1=((x.length+1:Nat):Int) from rfl,<-hn,C2 (n:=n) _ (by omega)];generalize hq:D P L (.loop [0,1,5,6,21,22] Cl) _=q;obtain ⟨ex,s,rfl,tm,c,o,rfl,rfl,t0,t5,t6,hlen,hc,aZ,aI,hz⟩:=bI hq (aa2 (P:=P) (L:=L) gG hv hw hx hy lx (by omega) hn x.length)
   ⟨0,0,yC n 0,by simp only [go_sem,ya,yc,ax,aE hv.pu,aH _ hv.pu,aE hw.pu,aH _ hw.pu]<;>rfl,by omega,by simp,by omega,Es (by decide) n,by rw [Et];simp [bv],fun m _=>B9 n m⟩
  obtain ⟨r,e1,hr,f1,f2,f3⟩:=fin hn lx hlen hc aZ aI hz;refine ⟨r,_,?_,hr,f1,f2,f3⟩
  simp only [go_sem,ya,yj,ax,aE hv.pu,aH _ hv.pu,hv.len,t0,t5,t6,cU 0 0 (show x.length<n by omega),yf,kH (l:=o) (o:=x.length) (by omega)]
  simp only [go_sem,A6 _ (n:=n) (l:=o.set x.length c) (by simp [hlen]) true,e1,hr.shut,hr.dd]
end
def ajR {b:Nat} {out:List Nat} {p j c t o x y Y bo ba:Nat} (ho:o=out.getD j 0) (hj:j<out.length) (ht:t=o+x*y+c) (hv:bo+p*c=ba+p*(x*Y)) (hb:bo=bv b out) (hp:p=b^j):
  bv b (out.set j (t%b))+p*b*(t/b)=ba+p*(x*(Y+0))+p*(x*y):=by
 have h1:=nE (b:=b) (x:=t%b) hj;have h2:=Lj p b t
 grind
section
variable {P:aG} {L:Lib}
def QJ {x y c:Nat} (hx:x<18446744073709551616) (hy:y<18446744073709551616) (hc:c<=1):
  (x+18446744073709551616*2-y-c)%18446744073709551616+y+c=x+18446744073709551616*(if y+c<=x then 0 else 1):=by grind
def aqX (rD:L.pure 173=some Az) {v w:AV} {x y:List Nat} (hv:bB v x) (hw:bB w y) (hx:lo 18446744073709551616 x) (hy:lo 18446744073709551616 y) (lx:x.length<=99999999999) (ly:y.length<=x.length) (hle:bv 18446744073709551616 y<=bv 18446744073709551616 x) {n:Nat} (hn:n=x.length):
  ∀k s,(∃(i c:Nat) (out:List Nat),aM [0,1,5,6,13,14] s=⟨[(0,v),(1,w),(5,.ay 0 0 n),(6,uc c),(13,aa x.length),(14,aa i)],[(0,.cells true true true 1 (out.map uc))],1,0⟩/\i+k=x.length/\out.length=n/\c<=1/\lo 18446744073709551616 out/\
    bv 18446744073709551616 out+bv 18446744073709551616 (y.take i)=bv 18446744073709551616 (x.take i)+18446744073709551616^i*c/\(∀m,i<=m->out.getD m 0=0))->
   ∃ex s',D P L (.loop [0,1,5,6,13,14] Eg) s=some (ex,s')/\∃tm out,s'=⟨tm,[(0,.cells true true true 1 (out.map uc))],1,0⟩/\ex= .exit 0/\aj tm 5= .ay 0 0 n/\out.length=n/\lo 18446744073709551616 out/\
    bv 18446744073709551616 out+bv 18446744073709551616 y=bv 18446744073709551616 x:=by
 intro dq sq;generalize bf:aM [0,1,5,6,13,14] sq=s0;revert bf s0 sq dq;apply dh;rintro k s ⟨i,c,out,rfl,hk,hlen,hc,aZ,aI,fN⟩;by_cases hi:i<x.length
 ·left
  have hz:=fN i (yz _);have gx:=gC (show 0<18446744073709551616 by decide) hx i;have gy:=gC (show 0<18446744073709551616 by decide) hy i;have so:=QJ gx gy hc;have kO:=ajQ (x:=x) (y:=y) (show i<out.length by omega) hz so aI;have e1:=RQ (P:=P) (f:=D P L) rD gx gy hc;have ex:=hv.bn hi;generalize x.getD i 0=p at*
  have jD:(if y.getD i 0+c<=p then 0 else 1)<=1:=by split<;>omega
  by_cases hj:i<y.length
  ·have ey:=hw.bn hj;generalize y.getD i 0=q at*
   generalize (if q+c<=p then 0 else 1)=c1 at*
   simp only [go_sem,ya,xK,yj,Eg,hw.len,show (i:Int)<x.length by omega,show (i:Int)<y.length by omega,ex,ey,e1,cU 0 0 (show i<n by omega),yf,kH (l:=out) (o:=i) (by omega)]
   refine ⟨_,k-1,rfl,by omega,i+1,c1,_,?_,by omega,by simp [hlen],jD,me aZ (x:=(p+18446744073709551616*2-q-c)%18446744073709551616) (i:=i) (by omega),kO,fun m hm=>?_⟩
   ·rw [wrap64 (by omega) (by omega)];simp only [go_sem,ya,yc,xK,ax,aE hv.pu,aH _ hv.pu,aE hw.pu,aH _ hw.pu]<;>rfl
   ·rw [oD (by omega)];exact fN m (by omega)
  ·have fO:y.getD i 0=0:=RI (by omega);rw [fO] at kO e1 jD;rw [show (uc 0)=AV.int .u64 0 from rfl] at e1;generalize (if 0+c<=p then 0 else 1)=c1 at*
   simp only [go_sem,ya,xK,yj,Eg,hw.len,show (i:Int)<x.length by omega,show ¬(i:Int)<y.length by omega,ex,e1,cU 0 0 (show i<n by omega),yf,kH (l:=out) (o:=i) (by omega)]
   refine ⟨_,k-1,rfl,by omega,i+1,c1,_,?_,by omega,by simp [hlen],jD,me aZ (x:=(p+18446744073709551616*2-0-c)%18446744073709551616) (i:=i) (by omega),kO,fun m hm=>?_⟩
   ·rw [wrap64 (by omega) (by omega)];simp only [go_sem,ya,yc,xK,ax,aE hv.pu,aH _ hv.pu,aE hw.pu,aH _ hw.pu]<;>rfl
   ·rw [oD (by omega)];exact fN m (by omega)
 ·right
  have:i=x.length:=by omega
  subst this;rw [xH,yN ly] at aI;have aP:=lD aZ;rw [hlen,hn] at aP;simp only [go_sem,ya,Eg,show ¬(x.length:Int)<x.length by omega];refine ⟨_,_,rfl,by simp,_,out,rfl,rfl,by simp only [go_sem,ya],hlen,aZ,?_⟩;rcases (show c=0\/c=1 by omega) with rfl | rfl
  ·omega
  ·omega
def adr (h:Has P L 159 NA) (mv:Has P L 166 A0) (rD:L.pure 173=some Az) {v w:AV} {x y:List Nat} (hv:bB v x) (hw:bB w y) (hx:lo 18446744073709551616 x) (hy:lo 18446744073709551616 y) (ny:gI y) (lx:x.length<=99999999999) (hle:bv 18446744073709551616 y<=bv 18446744073709551616 x):
  ∃r out,ab P L 159 [v,w] r/\bB r out/\lo 18446744073709551616 out/\gI out/\bv 18446744073709551616 out+bv 18446744073709551616 y=bv 18446744073709551616 x:=by
 have ly:y.length<=x.length:=by
  by_cases hh:x.length<y.length
  ·have:=Me (b:=18446744073709551616) (by decide) hx ny hh
   omega
  ·omega
 obtain ⟨n,hn⟩:∃n,n=x.length:=⟨_,rfl⟩;unfold ab;rw [aA h]
 simp only [go_sem,ya,yc,NA,hv.len,<-hn,C2 (n:=n) _ (by omega)];generalize hq:D P L (.loop [0,1,5,6,13,14] Eg) _=q;obtain ⟨ex,s,rfl,tm,o,rfl,rfl,t5,hlen,aZ,aI⟩:=bI hq (aqX (P:=P) (L:=L) rD hv hw hx hy lx ly hle hn x.length)
  ⟨0,0,yC n 0,by rw [hn];simp only [go_sem,ya,yc,ax,aE hv.pu,aH _ hv.pu,aE hw.pu,aH _ hw.pu]<;>rfl,by omega,by simp,by omega,Es (by decide) n,by rw [Et];simp [bv],fun m _=>B9 n m⟩
 have hf:=mL true o;rw [hlen] at hf;obtain ⟨r,e1,hr⟩:=A7 mv hf (by omega);refine ⟨r,_,?_,hr,Aq aZ,Ap _,by rw [Ao];exact aI⟩
 simp only [go_sem,yc,ax,t5,A6 _ (n:=n) (l:=o) hlen true,e1,hr.shut,hr.dd]
def amc {x y o c:Nat} (hx:x<18446744073709551616) (hy:y<18446744073709551616) (ho:o<18446744073709551616) (hc:c<18446744073709551616):
  o+x*y+c<18446744073709551616*18446744073709551616/\
  ((x*y%18446744073709551616+o+0)%18446744073709551616+c+0)%18446744073709551616=(o+x*y+c)%18446744073709551616/\
  x*y/18446744073709551616+(x*y%18446744073709551616+o+0)/18446744073709551616+((x*y%18446744073709551616+o+0)%18446744073709551616+c+0)/18446744073709551616=(o+x*y+c)/18446744073709551616:=by
 have h1:=wK (show x<=18446744073709551615 by omega) (show y<=18446744073709551615 by omega)
 grind
def aqY (mw:L.pure 143=some qW) (gG:L.pure 171=some nC) {v w:AV} {x y:List Nat} (hv:bB v x) (hw:bB w y) (hx:lo 18446744073709551616 x) (hy:lo 18446744073709551616 y) (lx:x.length<=49999999999) (ly:y.length<=49999999999) {n i:Nat} (hn:n=x.length+y.length) (hi:i<x.length) {a:Nat} (ha:a<18446744073709551616) {bo:Nat}:
  ∀k s,(∃(j c:Nat) (out:List Nat),aM [1,5,6,7,8,20,21,22,27,28,29] s=⟨[(1,w),(5,.ay 0 0 n),(6,aa i),(7,uc a),(8,uc c),(20,v),(21,aa x.length),(22,aa i),(27,w),(28,aa y.length),(29,aa j)],[(0,.cells true true true 1 (out.map uc))],1,0⟩/\j+k=y.length/\out.length=n/\c<18446744073709551616/\lo 18446744073709551616 out/\
    bv 18446744073709551616 out+18446744073709551616^(i+j)*c=bo+18446744073709551616^i*(a*bv 18446744073709551616 (y.take j))/\(∀m,i+y.length<=m->out.getD m 0=0))->
   ∃ex s',D P L (.loop [1,5,6,7,8,20,21,22,27,28,29] H9) s=some (ex,s')/\∃tm c out,s'=⟨tm,[(0,.cells true true true 1 (out.map uc))],1,0⟩/\ex= .exit 2/\aj tm 1=w/\aj tm 5= .ay 0 0 n/\aj tm 6=aa i/\aj tm 8=uc c/\aj tm 20=v/\aj tm 21=aa x.length/\aj tm 22=aa i/\out.length=n/\c<18446744073709551616/\lo 18446744073709551616 out/\
    bv 18446744073709551616 out+18446744073709551616^(i+y.length)*c=bo+18446744073709551616^i*(a*bv 18446744073709551616 y)/\(∀m,i+y.length<=m->out.getD m 0=0):=by
 intro dq sq;generalize bf:aM [1,5,6,7,8,20,21,22,27,28,29] sq=s0;revert bf s0 sq dq;apply dh;rintro k s ⟨j,c,out,rfl,hk,hlen,hc,aZ,aI,fN⟩;by_cases hj:j<y.length
 ·left
  have Bx:(0:Nat)<18446744073709551616:=by decide
  have gy:=gC Bx hy j;have ni:=gC Bx aZ (i+j);have ey:=hw.bn hj;have e3:=zf (l:=out) (o:=i+j) (by omega);obtain ⟨q,hq⟩:∃q,q=y.getD j 0:=⟨_,rfl⟩;obtain ⟨o,ho⟩:∃o,o=out.getD (i+j) 0:=⟨_,rfl⟩;rw [<-hq] at gy ey;rw [<-ho] at ni e3;obtain ⟨m1,m2,m3⟩:=amc ha gy ni hc;have hpy:a*q<18446744073709551616*18446744073709551616:=by omega
  have f1:=MA (P:=P) (f:=D P L) mw ha gy;have f2:=Ct (P:=P) (f:=D P L) gG (x:=a*q%18446744073709551616) (y:=o) (c:=0) (xE _ Bx) ni (by omega);have f3:=Ct (P:=P) (f:=D P L) gG (x:=(a*q%18446744073709551616+o+0)%18446744073709551616) (y:=c) (c:=0) (xE _ Bx) hc (by omega);obtain ⟨t,ht⟩:∃t,t=o+a*q+c:=⟨_,rfl⟩;have kO:=ajR (b:=18446744073709551616) (out:=out) (p:=18446744073709551616^(i+j)) (j:=i+j) (c:=c) (t:=t) (x:=a) (y:=q) (Y:=0) (ba:=bo+18446744073709551616^i*(a*bv 18446744073709551616 (y.take j))) ho (by omega) ht (by simpa using aI) rfl rfl;rw [m2,<-ht] at f3;rw [<-ht] at m1 m3;obtain ⟨d1,kF⟩:∃d,d=(a*q%18446744073709551616+o+0)/18446744073709551616:=⟨_,rfl⟩;obtain ⟨d2,gT⟩:∃d,d=((a*q%18446744073709551616+o+0)%18446744073709551616+c+0)/18446744073709551616:=⟨_,rfl⟩;rw [<-kF] at f2 m3;rw [<-gT] at f3 m3
  rw [show (uc 0)=AV.int .u64 0 from rfl] at f2 f3;obtain ⟨h1,gV⟩:∃d,d=a*q/18446744073709551616:=⟨_,rfl⟩;rw [<-gV] at f1 m3;have mZ:h1+d1<18446744073709551616:=by omega
  have zL:h1+d1+d2<18446744073709551616:=by omega
  simp only [go_sem,ya,yj,H9,show (j:Int)<y.length by omega,ey,f1,wrapN (n:=i+j) (by omega),show (i:Int)+(j:Int)=((i+j:Nat):Int) from rfl,cU 0 0 (show i+j<n by omega),yf,e3,f2,f3,show (h1:Int)+(d1:Int)=((h1+d1:Nat):Int) from rfl,aco mZ,show ((h1+d1:Nat):Int)+(d2:Int)=((h1+d1+d2:Nat):Int) from rfl,aco zL,kH (l:=out) (o:=i+j) (by omega)]
  refine ⟨_,k-1,rfl,by omega,j+1,h1+d1+d2,_,?_,by omega,by simp [hlen],zL,me aZ (x:=t%18446744073709551616) (i:=i+j) (xE _ Bx),?_,fun m hm=>?_⟩
  ·rw [wrap64 (by omega) (by omega)];simp only [go_sem,ya,yc,ax,aE hv.pu,aH _ hv.pu,aE hw.pu,aH _ hw.pu]<;>rfl
  ·rw [m3,show i+(j+1)=i+j+1 by omega,y9,iW,<-hq,xC a,xC (18446744073709551616^i)];simp only [xx,yW] at kO;rw [kO,xP,<-Nat.add_assoc,xm (18446744073709551616^i),<-xm a,xA a (18446744073709551616^j),xm]
  ·rw [oD (by omega)];exact fN m hm
 ·right
  have:j=y.length:=by omega
  subst this;rw [xH] at aI;simp only [go_sem,ya,H9,show ¬(y.length:Int)<y.length by omega];exact ⟨_,_,rfl,by simp,_,c,out,rfl,rfl,by simp only [go_sem,ya],by simp only [go_sem,ya],by simp only [go_sem,ya],by simp only [go_sem,ya],by simp only [go_sem,ya],by simp only [go_sem,ya],by simp only [go_sem,ya],hlen,hc,aZ,aI,fN⟩
def aqZ (mw:L.pure 143=some qW) (gG:L.pure 171=some nC) {v w:AV} {x y:List Nat} (hv:bB v x) (hw:bB w y) (hx:lo 18446744073709551616 x) (hy:lo 18446744073709551616 y) (lx:x.length<=49999999999) (ly:y.length<=49999999999) {n:Nat} (hn:n=x.length+y.length):
  ∀k s,(∃(i:Nat) (out:List Nat),aM [1,5,20,21,22] s=⟨[(1,w),(5,.ay 0 0 n),(20,v),(21,aa x.length),(22,aa i)],[(0,.cells true true true 1 (out.map uc))],1,0⟩/\i+k=x.length/\out.length=n/\lo 18446744073709551616 out/\
    bv 18446744073709551616 out=bv 18446744073709551616 (x.take i)*bv 18446744073709551616 y/\(∀m,i+y.length<=m->out.getD m 0=0))->
   ∃ex s',D P L (.loop [1,5,20,21,22] Ia) s=some (ex,s')/\∃tm out,s'=⟨tm,[(0,.cells true true true 1 (out.map uc))],1,0⟩/\ex= .exit 0/\aj tm 5= .ay 0 0 n/\out.length=n/\lo 18446744073709551616 out/\
    bv 18446744073709551616 out=bv 18446744073709551616 x*bv 18446744073709551616 y:=by
 intro dq sq;generalize bf:aM [1,5,20,21,22] sq=s0;revert bf s0 sq dq;apply dh;rintro k s ⟨i,out,rfl,hk,hlen,aZ,aI,fN⟩;by_cases hi:i<x.length
 ·left
  have gx:=gC (show 0<18446744073709551616 by decide) hx i;have ex:=hv.bn hi;obtain ⟨a,ha⟩:∃a,a=x.getD i 0:=⟨_,rfl⟩;simp only [go_sem,ya,Ia,hw.len,show (i:Int)<x.length by omega,ex];generalize hq:D P L (.loop [1,5,6,7,8,20,21,22,27,28,29] H9) _=q;obtain ⟨ex,s,rfl,tm,c,rE,rfl,rfl,t1,t5,t6,t8,t20,t21,t22,CE,hc,auO,Sy,JE⟩:=bI hq (aqY (P:=P) (L:=L) mw gG hv hw hx hy lx ly hn hi gx (bo:=bv 18446744073709551616 out) y.length)
   ⟨0,0,out,by simp only [go_sem,ya,yc,ax,aE hv.pu,aH _ hv.pu,aE hw.pu,aH _ hw.pu]<;>rfl,by omega,hlen,by decide,aZ,by simp [bv],fN⟩
  have hz:rE.getD (i+y.length) 0=0:=JE _ (yz _);have aU:=nE (b:=18446744073709551616) (l:=rE) (i:=i+y.length) (x:=c) (by omega);rw [hz,xx,yW,Sy] at aU
  simp only [go_sem,ya,yj,ax,t1,t5,t6,t8,t20,t21,t22,hw.len,aE hv.pu,aH _ hv.pu,aE hw.pu,aH _ hw.pu,wrapN (n:=i+y.length) (by omega),show (i:Int)+(y.length:Int)=((i+y.length:Nat):Int) from rfl,cU 0 0 (show i+y.length<n by omega),yf,kH (l:=rE) (o:=i+y.length) (by omega)];refine ⟨_,k-1,rfl,by omega,i+1,rE.set (i+y.length) c,?_,by omega,by simp [CE],me auO hc,?_,fun m hm=>?_⟩
  ·rw [wrap64 (by omega) (by omega)];simp only [go_sem,ya,yc,ax,aE hv.pu,aH _ hv.pu,aE hw.pu,aH _ hw.pu]<;>rfl
  ·rw [aU,aI,iW,we,<-ha,xm]
  ·rw [oD (by omega)];exact JE m (by omega)
 ·right
  have:i=x.length:=by omega
  subst this;rw [xH] at aI;simp only [go_sem,ya,Ia,show ¬(x.length:Int)<x.length by omega];exact ⟨_,_,rfl,by simp,_,out,rfl,rfl,by simp only [go_sem,ya],hlen,aZ,aI⟩
def auP (h:Has P L 144 Ny) (mv:Has P L 166 A0) (mw:L.pure 143=some qW) (gG:L.pure 171=some nC) {v w:AV} {x y:List Nat} (hv:bB v x) (hw:bB w y) (hx:lo 18446744073709551616 x) (hy:lo 18446744073709551616 y) (lx:x.length<=49999999999) (ly:y.length<=49999999999):
  ∃r out,ab P L 144 [v,w] r/\bB r out/\lo 18446744073709551616 out/\gI out/\bv 18446744073709551616 out=bv 18446744073709551616 x*bv 18446744073709551616 y:=by
 obtain ⟨n,hn⟩:∃n,n=x.length+y.length:=⟨_,rfl⟩;unfold ab;rw [aA h]
 simp only [go_sem,ya,yc,Ny,hv.len,hw.len,wrapN (n:=n) (by omega),show (x.length:Int)+(y.length:Int)=((x.length+y.length:Nat):Int) from rfl,<-hn,C2 (n:=n) _ (by omega)];generalize hq:D P L (.loop [1,5,20,21,22] Ia) _=q;obtain ⟨ex,s,rfl,tm,o,rfl,rfl,t5,hlen,aZ,aI⟩:=bI hq (aqZ (P:=P) (L:=L) mw gG hv hw hx hy lx ly hn x.length)
  ⟨0,yC n 0,by simp only [go_sem,ya,yc,ax,aE hv.pu,aH _ hv.pu,aE hw.pu,aH _ hw.pu]<;>rfl,by omega,by simp,Es (by decide) n,by rw [Et];simp [bv],fun m _=>B9 n m⟩
 have hf:=mL true o;rw [hlen] at hf;obtain ⟨r,e1,hr⟩:=A7 mv hf (by omega);refine ⟨r,_,?_,hr,Aq aZ,Ap _,by rw [Ao];exact aI⟩
 simp only [go_sem,yc,ax,t5,A6 _ (n:=n) (l:=o) hlen true,e1,hr.shut,hr.dd]
end
def MY (n:Int):IntKind.wrap .u64 n=n%18446744073709551616:=by
 simp [IntKind.wrap,IntKind.signed,IntKind.bits]
def wrapM (n:Nat):IntKind.wrap .u64 (n:Int)=((n%18446744073709551616:Nat):Int):=by rw [MY];omega
def oT (a b:Nat):binOp .mul (uc a) (uc b)=some (uc (a*b%18446744073709551616)):=by
 rw [aan,<-wY,wrapM]
def AT (a b:Nat):binOp .add (uc a) (uc b)=some (uc ((a+b)%18446744073709551616)):=by
 rw [aam,<-Int.natCast_add,wrapM]
def C3 {a b c:Nat} (h:(a+18446744073709551616-b)%18446744073709551616=c) (hb:b<=18446744073709551616):binOp .sub (uc a) (uc b)=some (uc c):=by
 rw [Mf,MY]
 grind
def aa3 (k k':y8) (a b:Int):binOp .shl (.int k a) (.int k' b)=B6 .shl k a b:=rfl
def aa4 (k k':y8) (a b:Int):binOp .shr (.int k a) (.int k' b)=B6 .shr k a b:=rfl
def JF (k:y8) (a:Nat) {s:Nat} (hs:s<=64):binOp .shl (.int .u64 (a:Int)) (.int k (s:Int))=some (uc (a*2^s%18446744073709551616)):=by
 rw [aa3];simp only [B6,yB (show ¬(s:Int)<0 by omega),wh,IntKind.bits,xD hs];rw [show ((2:Int)^s)=((2^s:Nat):Int) by simp,<-wY,wrapM]
def JG (k:y8) (a:Nat) {s:Nat} (hs:s<=64):binOp .shr (.int .u64 (a:Int)) (.int k (s:Int))=some (uc (a/2^s)):=by
 rw [aa4];simp only [B6,yB (show ¬(s:Int)<0 by omega),wh,IntKind.bits,xD hs]
 grind
def ads (a:Nat):binOp .and (.int .u64 (a:Int)) (.int .u64 4294967295)=some (uc (a%4294967296)):=by
 show some (AV.int .u64 (IntKind.wrap .u64 ((xI 64 (a:Int)&&&xI 64 4294967295).toNat:Int)))=_
 rw [show xI 64 (a:Int)=uS 64 a from uT 64 a,show xI 64 4294967295=uS 64 4294967295 from rfl];rw [BitVec.toNat_and,vK,vK,show (4294967295%2^64:Nat)=2^32-1 from rfl,Nat.and_two_pow_sub_one_eq_mod,wrapM]
 grind
def O7 {a b:Nat} (ha:a<18446744073709551616) (hb:b<18446744073709551616):binOp .or (.int .u64 (a:Int)) (.int .u64 (b:Int))=some (uc (a|||b)):=by
 show some (AV.int .u64 (IntKind.wrap .u64 ((xI 64 (a:Int)|||xI 64 (b:Int)).toNat:Int)))=_
 congr 2
 rw [show xI 64 (a:Int)=uS 64 a from uT 64 a,show xI 64 (b:Int)=uS 64 b from uT 64 b];rw [BitVec.toNat_or,vK,vK,yL (show a<2^64 from ha),yL (show b<2^64 from hb),wrapM]
 have:a|||b<2^64:=Nat.or_lt_two_pow ha hb
 omega
def RR {p s c:Nat} (h:c<2^s):(p*2^s)|||c=p*2^s+c:=by
 rw [<-Nat.shiftLeft_eq,<-Nat.shiftLeft_add_eq_or_of_lt h]
def PY:∀(f n:Nat),n<2^f->dw f n<=f/\n<2^dw f n/\(0<n->0<dw f n/\2^(dw f n-1)<=n)
 | 0,n,h=>by simp [dw];simpa using h
 | f+1,n,h=>by
  simp only [dw];by_cases h0:n=0
  ·simp_all
  ·rw [cd h0,yH];obtain ⟨h1,h2,h3⟩:=PY f (n/2) (by omega);refine ⟨by omega,?_,fun _=>⟨by omega,?_⟩⟩
   ·grind
   ·rw [Nat.add_sub_cancel_left];by_cases hn:0<n/2
    ·obtain ⟨h4,h5⟩:=h3 hn;obtain ⟨m,hm⟩:∃m,dw f (n/2)=m+1:=⟨dw f (n/2)-1,by omega⟩
     grind
    ·have hz:n/2=0:=by omega
     have:dw f 0=0:=by cases f with
      | zero=>rfl
      | succ f=>rfl
     grind
def QK {y:Nat} (h0:0<y) (h:y<18446744073709551616):64-dw 64 y<64/\9223372036854775808<=y*2^(64-dw 64 y)/\y*2^(64-dw 64 y)<18446744073709551616:=by
 obtain ⟨h1,h2,h3⟩:=PY 64 y h;obtain ⟨h4,h5⟩:=h3 h0;generalize dw 64 y=k at*
 refine ⟨by omega,?_,?_⟩
 ·have:=yS (2^(64-k)) h5
  rw [<-xP,show k-1+(64-k)=63 by omega] at this;exact this
 ·have:=xZ h2 (xt (64-k))
  rw [<-xP,show k+(64-k)=64 by omega] at this;exact this
section
variable {P:aG} {L:Lib} {f:cw}
def aa5 (h:L.pure 167=some EF) {x:Nat} (hx:x<18446744073709551616):bF P L f 167 [uc x]=some (aa (64-dw 64 x:Nat)):=by
 rw [iA h];show (bif yK x 18446744073709551616 then _ else none)=_
 rw [jO hx];rfl
def ajS {b v1 v2 u u2 t r:Nat} (cA:v2<b) (kG:t<b) (ht:t*v1+r=u) (h:b<=r\/t*v2<=b*r+u2):t*(v1*b+v2)<=u*b+u2:=by
 have h2:t*v2<=b*r+u2:=by
  rcases h with h | h
  ·have:=wK (uN kG) (uN cA)
   have:=yU b h
   omega
  ·exact h
 rw [xC,<-xm,<-ht,we,xA r b];omega
def atq (n:Nat):iG (.toInt .u64) (.int .i64 (n:Int))=some (uc (n%18446744073709551616)):=by
 show some (AV.int .u64 (IntKind.wrap .u64 (n:Int)))=_
 rw [wrapM]
def W2 {y v1 v2 u u2 q r:Nat} (hy:y=v1*4294967296+v2) (cA:v2<4294967296) (FO:0<v1) (dY:v1<4294967296) (hu:u<y) (zP:u2<4294967296) (hq:q*v1+r=u) (hr:r<4294967296) (hQ:(u*4294967296+u2)/y<=q):
  (4294967296<=q\/4294967296*r+u2<q*v2->0<q/\(q-1)*v1+(r+v1)=u/\(u*4294967296+u2)/y<=q-1/\(4294967296<=r+v1->(u*4294967296+u2)/y=q-1))/\
  (¬4294967296<=q->q*v2<=4294967296*r+u2->(u*4294967296+u2)/y=q):=by
 have fO:0<y:=by omega
 have O8:∀t s,t*v1+s=u->4294967296<=t->s<4294967296:=fun t s h1 h2=>by
  have:=yS v1 h2
  grind
 have aa6:∀t s,t*v1+s=u->t<4294967296->(4294967296<=s\/t*v2<=4294967296*s+u2)->(u*4294967296+u2)/y<=t->(u*4294967296+u2)/y=t:=fun t s h1 h2 h3 h4=>by
  have:=ajS cA h2 h1 h3
  rw [<-hy] at this
  have:=(uY fO).2 this
  omega
 constructor
 ·intro h;have bf:0<q:=by
   grind
  have h1:(q-1)*v1+(r+v1)=u:=by
   obtain ⟨p,rfl⟩:∃p,q=p+1:=⟨q-1,by omega⟩
   grind
  have h2:(u*4294967296+u2)/y<=q-1:=by
   have aP:u*4294967296+u2<q*y:=by
    rcases h with h | h
    ·have h3:u*4294967296+u2<4294967296*y:=by omega
     exact yA h3 (yS y h)
    ·rw [hy,xC,<-xm,<-hq,we,xA r];omega
   have:=(wu fO).2 aP
   omega
  exact ⟨bf,h1,h2,fun h3=>aa6 _ _ h1 (by
   by_cases hb:4294967296<=q-1
   ·have:=O8 _ _ h1 hb;omega
   ·omega) (.inl h3) h2⟩
 ·intro h1 h2;exact aa6 q r hq (by omega) (.inr h2) hQ
def aq0 {y s v1 v2 u u2 z:Nat} (hy:y=v1*4294967296+v2) (cA:v2<4294967296) (FO:0<v1) (dY:v1<4294967296) (hu:u<y) (zP:u2<4294967296):
  ∀k st,(∃q r:Nat,aM [2,8,9,10,11,13,14,15,16] st=⟨[(2,uc y),(8,uc s),(9,uc v1),(10,uc v2),(11,uc u),(13,uc u2),(14,uc z),(15,uc q),(16,uc r)],[],0,0⟩/\q*v1+r=u/\r<4294967296/\(u*4294967296+u2)/y<=q/\q=k)->
   ∃ex st',D P L (.loop [2,8,9,10,11,13,14,15,16] AA) st=some (ex,st')/\∃tm ct,st'=⟨tm,[],ct,0⟩/\ex= .exit 0/\aj tm 2=uc y/\aj tm 8=uc s/\aj tm 9=uc v1/\aj tm 10=uc v2/\aj tm 11=uc u/\aj tm 13=uc u2/\aj tm 14=uc z/\aj tm 15=uc ((u*4294967296+u2)/y):=by
 intro dq sq;generalize bf:aM [2,8,9,10,11,13,14,15,16] sq=s0;revert bf s0 sq dq;apply dh;rintro k st ⟨q,r,rfl,hq,hr,hQ,rfl⟩;obtain ⟨g1,g2⟩:=W2 hy cA FO dY hu zP hq hr hQ;have hqb:q*1<=q*v1:=yU q FO;have auQ:=yS 4294967296 (show v1<=4294967295 by omega);have oc:q<18446744073709551616:=by omega
 have US:=yU 4294967296 (show r<=4294967295 by omega);have e1:=oT 4294967296 r;rw [show uc 4294967296=AV.int .u64 4294967296 from rfl,yL (show 4294967296*r<18446744073709551616 by omega)] at e1;have e2:=AT (4294967296*r) u2;rw [yL (show 4294967296*r+u2<18446744073709551616 by omega)] at e2;have e4:=AT r v1;rw [yL (show r+v1<18446744073709551616 by omega)] at e4;by_cases hc:4294967296<=q\/4294967296*r+u2<q*v2
 ·obtain ⟨h0,h1,h2,h3⟩:=g1 hc;have e3:binOp .sub (uc q) (.int .u64 1)=some (uc (q-1)):=C3 (b:=1) (by omega) (by omega);by_cases hb:4294967296<=r+v1
  ·right
   have zR:=h3 hb;rcases (show 4294967296<=q\/(¬4294967296<=q/\4294967296*r+u2<q*v2) by omega) with t1 | ⟨t1,t2⟩
   ·simp only [go_sem,ya,AA,show (4294967296:Int)<=(q:Int) by omega,e3,e4,show (4294967296:Int)<=((r+v1:Nat):Int) by omega];exact ⟨_,_,rfl,by simp,_,_,rfl,rfl,by simp only [go_sem,ya],by simp only [go_sem,ya],by simp only [go_sem,ya],by simp only [go_sem,ya],by simp only [go_sem,ya],by simp only [go_sem,ya],by simp only [go_sem,ya],by rw [zR];simp only [go_sem,ya]⟩
   ·have Vt:=wK (show q<=4294967295 by omega) (show v2<=4294967295 by omega);have e5:=oT q v2;rw [yL (show q*v2<18446744073709551616 by omega)] at e5;simp only [go_sem,ya,AA,show ¬(4294967296:Int)<=(q:Int) by omega,e5,e1,e2,show ((4294967296*r+u2:Nat):Int)<((q*v2:Nat):Int) by omega,e3,e4,show (4294967296:Int)<=((r+v1:Nat):Int) by omega];exact ⟨_,_,rfl,by simp,_,_,rfl,rfl,by simp only [go_sem,ya],by simp only [go_sem,ya],by simp only [go_sem,ya],by simp only [go_sem,ya],by simp only [go_sem,ya],by simp only [go_sem,ya],by simp only [go_sem,ya],by rw [zR];simp only [go_sem,ya]⟩
  ·left
   rcases (show 4294967296<=q\/(¬4294967296<=q/\4294967296*r+u2<q*v2) by omega) with t1 | ⟨t1,t2⟩
   ·simp only [go_sem,ya,AA,show (4294967296:Int)<=(q:Int) by omega,e3,e4,show ¬(4294967296:Int)<=((r+v1:Nat):Int) by omega];exact ⟨_,q-1,rfl,by omega,q-1,r+v1,by simp only [go_sem,ya,ax],h1,by omega,h2,rfl⟩
   ·have Vt:=wK (show q<=4294967295 by omega) (show v2<=4294967295 by omega);have e5:=oT q v2;rw [yL (show q*v2<18446744073709551616 by omega)] at e5;simp only [go_sem,ya,AA,show ¬(4294967296:Int)<=(q:Int) by omega,e5,e1,e2,show ((4294967296*r+u2:Nat):Int)<((q*v2:Nat):Int) by omega,e3,e4,show ¬(4294967296:Int)<=((r+v1:Nat):Int) by omega];exact ⟨_,q-1,rfl,by omega,q-1,r+v1,by simp only [go_sem,ya,ax],h1,by omega,h2,rfl⟩
 ·right
  have zR:=g2 (by omega) (by omega);have e5:=oT q v2;rw [yL (show q*v2<18446744073709551616 by omega)] at e5;simp only [go_sem,ya,AA,show ¬(4294967296:Int)<=(q:Int) by omega,e5,e1,e2,show ¬((4294967296*r+u2:Nat):Int)<((q*v2:Nat):Int) by omega];exact ⟨_,_,rfl,by simp,_,_,rfl,rfl,by simp only [go_sem,ya],by simp only [go_sem,ya],by simp only [go_sem,ya],by simp only [go_sem,ya],by simp only [go_sem,ya],by simp only [go_sem,ya],by simp only [go_sem,ya],by rw [zR];simp only [go_sem,ya]⟩
def aq1 {y s v1 v2 u u2 z:Nat} (hy:y=v1*4294967296+v2) (cA:v2<4294967296) (FO:0<v1) (dY:v1<4294967296) (hu:u<y) (zP:u2<4294967296):
  ∀k st,(∃q r:Nat,aM [2,8,9,10,14,15,16,17,18] st=⟨[(2,uc y),(8,uc s),(9,uc v1),(10,uc v2),(14,uc u2),(15,uc z),(16,uc r),(17,uc u),(18,uc q)],[],0,0⟩/\q*v1+r=u/\r<4294967296/\(u*4294967296+u2)/y<=q/\q=k)->
   ∃ex st',D P L (.loop [2,8,9,10,14,15,16,17,18] AB) st=some (ex,st')/\∃tm ct,st'=⟨tm,[],ct,0⟩/\ex= .exit 2/\aj tm 2=uc y/\aj tm 8=uc s/\aj tm 9=uc v1/\aj tm 10=uc v2/\aj tm 14=uc u2/\aj tm 15=uc z/\aj tm 17=uc u/\aj tm 18=uc ((u*4294967296+u2)/y):=by
 intro dq sq;generalize bf:aM [2,8,9,10,14,15,16,17,18] sq=s0;revert bf s0 sq dq;apply dh;rintro k st ⟨q,r,rfl,hq,hr,hQ,rfl⟩;obtain ⟨g1,g2⟩:=W2 hy cA FO dY hu zP hq hr hQ;have hqb:q*1<=q*v1:=yU q FO;have auQ:=yS 4294967296 (show v1<=4294967295 by omega);have oc:q<18446744073709551616:=by omega
 have US:=yU 4294967296 (show r<=4294967295 by omega);have e1:=oT 4294967296 r;rw [show uc 4294967296=AV.int .u64 4294967296 from rfl,yL (show 4294967296*r<18446744073709551616 by omega)] at e1;have e2:=AT (4294967296*r) u2;rw [yL (show 4294967296*r+u2<18446744073709551616 by omega)] at e2;have e4:=AT r v1;rw [yL (show r+v1<18446744073709551616 by omega)] at e4;by_cases hc:4294967296<=q\/4294967296*r+u2<q*v2
 ·obtain ⟨h0,h1,h2,h3⟩:=g1 hc;have e3:binOp .sub (uc q) (.int .u64 1)=some (uc (q-1)):=C3 (b:=1) (by omega) (by omega);by_cases hb:4294967296<=r+v1
  ·right
   have zR:=h3 hb;rcases (show 4294967296<=q\/(¬4294967296<=q/\4294967296*r+u2<q*v2) by omega) with t1 | ⟨t1,t2⟩
   ·simp only [go_sem,ya,AB,show (4294967296:Int)<=(q:Int) by omega,e3,e4,show (4294967296:Int)<=((r+v1:Nat):Int) by omega];exact ⟨_,_,rfl,by simp,_,_,rfl,rfl,by simp only [go_sem,ya],by simp only [go_sem,ya],by simp only [go_sem,ya],by simp only [go_sem,ya],by simp only [go_sem,ya],by simp only [go_sem,ya],by simp only [go_sem,ya],by rw [zR];simp only [go_sem,ya]⟩
   ·have Vt:=wK (show q<=4294967295 by omega) (show v2<=4294967295 by omega);have e5:=oT q v2;rw [yL (show q*v2<18446744073709551616 by omega)] at e5;simp only [go_sem,ya,AB,show ¬(4294967296:Int)<=(q:Int) by omega,e5,e1,e2,show ((4294967296*r+u2:Nat):Int)<((q*v2:Nat):Int) by omega,e3,e4,show (4294967296:Int)<=((r+v1:Nat):Int) by omega];exact ⟨_,_,rfl,by simp,_,_,rfl,rfl,by simp only [go_sem,ya],by simp only [go_sem,ya],by simp only [go_sem,ya],by simp only [go_sem,ya],by simp only [go_sem,ya],by simp only [go_sem,ya],by simp only [go_sem,ya],by rw [zR];simp only [go_sem,ya]⟩
  ·left
   rcases (show 4294967296<=q\/(¬4294967296<=q/\4294967296*r+u2<q*v2) by omega) with t1 | ⟨t1,t2⟩
   ·simp only [go_sem,ya,AB,show (4294967296:Int)<=(q:Int) by omega,e3,e4,show ¬(4294967296:Int)<=((r+v1:Nat):Int) by omega];exact ⟨_,q-1,rfl,by omega,q-1,r+v1,by simp only [go_sem,ya,ax],h1,by omega,h2,rfl⟩
   ·have Vt:=wK (show q<=4294967295 by omega) (show v2<=4294967295 by omega);have e5:=oT q v2;rw [yL (show q*v2<18446744073709551616 by omega)] at e5;simp only [go_sem,ya,AB,show ¬(4294967296:Int)<=(q:Int) by omega,e5,e1,e2,show ((4294967296*r+u2:Nat):Int)<((q*v2:Nat):Int) by omega,e3,e4,show ¬(4294967296:Int)<=((r+v1:Nat):Int) by omega];exact ⟨_,q-1,rfl,by omega,q-1,r+v1,by simp only [go_sem,ya,ax],h1,by omega,h2,rfl⟩
 ·right
  have zR:=g2 (by omega) (by omega);have e5:=oT q v2;rw [yL (show q*v2<18446744073709551616 by omega)] at e5;simp only [go_sem,ya,AB,show ¬(4294967296:Int)<=(q:Int) by omega,e5,e1,e2,show ¬((4294967296*r+u2:Nat):Int)<((q*v2:Nat):Int) by omega];exact ⟨_,_,rfl,by simp,_,_,rfl,rfl,by simp only [go_sem,ya],by simp only [go_sem,ya],by simp only [go_sem,ya],by simp only [go_sem,ya],by simp only [go_sem,ya],by simp only [go_sem,ya],by simp only [go_sem,ya],by rw [zR];simp only [go_sem,ya]⟩
def acp (a:Nat):binOp .shr (.int .u64 (a:Int)) (.int .u64 32)=some (uc (a/4294967296)):=JG .u64 a (s:=32) (by decide)
def adt (a:Nat) {b:Nat} (ha:a<18446744073709551616) (hb:0<b):binOp .quo (uc a) (uc b)=some (uc (a/b)):=by
 rw [eQ _ _ _ (by omega),xL (by omega),<-Int.natCast_ediv,wrapM,yL];exact xR (wV a b) ha
def auR (a:Nat) {b:Nat} (hb:0<b):binOp .rem (uc a) (uc b)=some (uc (a%b)):=by
 rw [eI _ _ _ (by omega),xh (by omega),<-Int.natCast_emod]
def ajT {hi lo y s u z Y:Nat} (hs:s<64) (aZ:lo<18446744073709551616) (hY:Y=y*2^s) (hu:u=hi*2^s+lo/2^(64-s)) (hz:z=lo*2^s%18446744073709551616):
  (hi*18446744073709551616+lo)*2^s=u*18446744073709551616+z:=by
 have e:18446744073709551616=2^(64-s)*2^s:=by rw [<-xP,show 64-s+s=64 by omega]
 have h1:lo*2^s/18446744073709551616=lo/2^(64-s):=by
  rw [e,yaF _ _ (xt s)]
 grind
def Yr {Y q a b:Nat} (h1:a<Y) (h2:b<4294967296) (h3:q=(a*4294967296+b)/Y):q<4294967296:=by
 rw [h3];exact (wu (by omega)).2 (by omega)
def amd {u w x z z0 z1 q0 q1 Y:Nat} (kF:q1*Y+w=u*4294967296+z1) (fW:q0*Y+x=w*4294967296+z0) (hz:z=z1*4294967296+z0):u*18446744073709551616+z=(q1*4294967296+q0)*Y+x:=by grind
def aib {q1 q0:Nat} (h1:q1<4294967296) (h0:q0<4294967296):q1*4294967296<18446744073709551616/\q1*4294967296+q0<18446744073709551616:=by omega
def adu (h:Has P L 165 Jf) (JH:L.pure 167=some EF) {hi lo y:Nat} (fN:hi<y) (aZ:lo<18446744073709551616) (hy:y<18446744073709551616):
  ab P L 165 [uc hi,uc lo,uc y] (.ap [uc ((hi*18446744073709551616+lo)/y),uc ((hi*18446744073709551616+lo)%y)]):=by
 have fO:0<y:=by omega
 by_cases h0:hi=0
 ·subst h0;have e1:=adt lo aZ fO;have e2:=auR lo fO;rw [Nat.zero_mul,yf];unfold ab;rw [aA h];simp only [go_sem,ya,Jf,show ¬(y:Int)=0 by omega,show ¬(y:Int)<=0 by omega,show ((0:Nat):Int)=0 from rfl,e1,e2];rfl
 ·obtain ⟨s,hs⟩:∃s,s=64-dw 64 y:=⟨_,rfl⟩;have hl:=aa5 (P:=P) (f:=D P L) JH hy;obtain ⟨l1,l2,l3⟩:=QK fO hy;rw [<-hs] at hl l1 l2 l3;obtain ⟨Y,hY⟩:∃Y,Y=y*2^s:=⟨_,rfl⟩;obtain ⟨u,hu⟩:∃u,u=hi*2^s+lo/2^(64-s):=⟨_,rfl⟩;obtain ⟨z,hz⟩:∃z,z=lo*2^s%18446744073709551616:=⟨_,rfl⟩;have hdiv:=ajT l1 aZ hY hu hz;rw [<-hY] at l2 l3;have hp:=xt s;obtain ⟨v1,dY⟩:∃v,v=Y/4294967296:=⟨_,rfl⟩;obtain ⟨v2,cA⟩:∃v,v=Y%4294967296:=⟨_,rfl⟩;have hYv:Y=v1*4294967296+v2:=by omega
  obtain ⟨z1,lP⟩:∃v,v=z/4294967296:=⟨_,rfl⟩;obtain ⟨z0,kZ⟩:∃v,v=z%4294967296:=⟨_,rfl⟩;have FP:z<18446744073709551616:=by omega
  have hhY:hi*2^s<Y:=by rw [hY];exact xZ fN hp
  have eZ:lo/2^(64-s)<2^s:=by
   refine (wu (xt _)).2 ?_;rw [<-xP,show s+(64-s)=64 by omega];exact aZ
  have nZ:hi*2^s|||lo/2^(64-s)=u:=by rw [RR eZ,hu]
  have hN:hi*18446744073709551616+lo<y*18446744073709551616:=by
   have:=yS 18446744073709551616 (show hi+1<=y from fN)
   omega
  have Vu:u<Y:=by
   have h1:=xZ hN hp;rw [hdiv,Nat.mul_right_comm,<-hY] at h1;omega
  obtain ⟨q1,ff⟩:∃q,q=(u*4294967296+z1)/Y:=⟨_,rfl⟩;obtain ⟨w,hw⟩:∃q,q=(u*4294967296+z1)%Y:=⟨_,rfl⟩;obtain ⟨q0,bf⟩:∃q,q=(w*4294967296+z0)/Y:=⟨_,rfl⟩;obtain ⟨x,hx⟩:∃q,q=(w*4294967296+z0)%Y:=⟨_,rfl⟩;have O9:w<Y:=by rw [hw];exact xE _ (by omega)
  have Vw:x<Y:=by rw [hx];exact xE _ (by omega)
  have kF:=wb (u*4294967296+z1) Y;rw [<-ff,<-hw,xA] at kF;have fW:=wb (w*4294967296+z0) Y;rw [<-bf,<-hx,xA] at fW;have auS:=Yr Vu (show z1<4294967296 by omega) ff;have auT:=Yr O9 (show z0<4294967296 by omega) bf;obtain ⟨td1,td2⟩:=aib auS auT;have my:(hi*18446744073709551616+lo)*2^s=(q1*4294967296+q0)*Y+x:=by
   rw [hdiv];exact amd kF fW (by omega)
  have r1:(hi*18446744073709551616+lo)/y=q1*4294967296+q0:=by
   rw [<-yaF _ _ hp,my,<-hY,xA _ Y,Nat.mul_add_div (by omega),xO Vw,yW]
  have r2:x/2^s=(hi*18446744073709551616+lo)%y:=by
   have h1:x=(hi*18446744073709551616+lo)*2^s%(y*2^s):=by
    rw [my,<-hY,xA _ Y,Nat.mul_add_mod,yL Vw]
   rw [h1,tE,Nat.mul_div_cancel _ hp]
  have o1:=JF .u64 y (s:=s) (by omega);rw [<-hY,yL l3] at o1;have o2:=acp Y;rw [<-dY] at o2;have o3:=ads Y;rw [<-cA] at o3;have o4:=JF .u64 hi (s:=s) (by omega);rw [yL (show hi*2^s<18446744073709551616 by omega)] at o4;have o5:binOp .sub (.int .u64 64) (uc s)=some (uc (64-s)):=C3 (a:=64) (by omega) (by omega);have o6:=JG .u64 lo (s:=64-s) (by omega);have o7:=O7 (a:=hi*2^s) (b:=lo/2^(64-s)) (by omega) (xR (wV _ _) aZ);rw [nZ] at o7;have o8:=JF .u64 lo (s:=s) (by omega);rw [<-hz] at o8;have o9:=acp z;rw [<-lP] at o9;have o10:=ads z;rw [<-kZ] at o10;have E3:0<v1:=by omega
  have acq:∀{a:Nat},a<Y->binOp .quo (uc a) (uc v1)=some (uc (a/v1))/\binOp .mul (uc (a/v1)) (uc v1)=some (uc (a/v1*v1))/\binOp .sub (uc a) (uc (a/v1*v1))=some (uc (a%v1)):=fun {a} ha=>by
   have h1:=wb a v1;rw [xA] at h1;have h2:=oT (a/v1) v1;generalize a/v1*v1=m at*
   rw [yL (show m<18446744073709551616 by omega)] at h2;exact ⟨adt a (by omega) E3,h2,C3 (by omega) (by omega)⟩
  obtain ⟨g1,g2,g3⟩:=acq Vu;obtain ⟨g4,g5,g6⟩:=acq O9;have first:∀{a b:Nat},b<4294967296->(a*4294967296+b)/Y<=a/v1:=fun {a b} hb=>by
   have:=PJ (b:=4294967296) (V:=Y) (v1:=v1) (v2:=v2) (vr:=0) (U:=a*4294967296+b) (u0:=0) (u1:=a) (u2:=b) (ur:=0) (p:=1) (by omega) (by omega) (by decide) hb E3
   simpa using this
  have back:∀{a b q x:Nat},a*4294967296+b=q*Y+x->x<Y->binOp .mul (uc a) (.int .u64 4294967296)=some (uc (a*4294967296%18446744073709551616))/\binOp .add (uc (a*4294967296%18446744073709551616)) (uc b)=some (uc ((a*4294967296%18446744073709551616+b)%18446744073709551616))/\
    binOp .mul (uc q) (uc Y)=some (uc (q*Y%18446744073709551616))/\binOp .sub (uc ((a*4294967296%18446744073709551616+b)%18446744073709551616)) (uc (q*Y%18446744073709551616))=some (uc x):=fun {a b q x} h1 h2=>by
   refine ⟨oT a 4294967296,AT _ _,oT q Y,C3 ?_ (by omega)⟩;generalize q*Y=m at*
   omega
  obtain ⟨k1,k2,k3,k4⟩:=back kF.symm O9;obtain ⟨k5,k6,k7,k8⟩:=back fW.symm Vw;have m1:=oT q1 4294967296;rw [yL td1,show uc 4294967296=AV.int .u64 4294967296 from rfl] at m1;have m2:=AT (q1*4294967296) q0;rw [yL td2] at m2;have m3:=JG .u64 x (s:=s) (by omega);rw [r1,<-r2];unfold ab;rw [aA h];simp only [go_sem,ya,Jf,show ¬(y:Int)=0 by omega,show ¬(y:Int)<=(hi:Int) by omega,show ¬(hi:Int)=0 by omega,hl,atq,yL (show s<18446744073709551616 by omega),o1,o2,o3,o4,o5,o6,o7,o8,o9,o10,g1,g2,g3];generalize kI:D P L (.loop [2,8,9,10,11,13,14,15,16] AA) _=qq
  obtain ⟨ex,st,rfl,tm,ct,rfl,rfl,t2,t8,t9,t10,t11,t13,t14,t15⟩:=bI kI (aq0 (P:=P) (L:=L) (s:=s) (z:=z0) hYv (by omega) E3 (by omega) Vu (show z1<4294967296 by omega) (u/v1)) ⟨u/v1,u%v1,by simp only [go_sem,ya,ax],by rw [xA];exact wb u v1,by have:=xE u E3;omega,first (by omega),rfl⟩
  rw [<-ff] at t15;simp only [go_sem,ya,ax,t2,t8,t9,t10,t11,t13,t14,t15,k1,k2,k3,k4,g4,g5,g6];generalize C4:D P L (.loop [2,8,9,10,14,15,16,17,18] AB) _=Vx;obtain ⟨ex,st,rfl,nV,ct2,rfl,rfl,t2,t8,t9,t10,t14,t15,t17,t18⟩:=bI C4 (aq1 (P:=P) (L:=L) (s:=s) (z:=q1) hYv (by omega) E3 (by omega) O9 (show z0<4294967296 by omega) (w/v1)) ⟨w/v1,w%v1,by simp only [go_sem,ya,ax],by rw [xA];exact wb w v1,by have:=xE w E3;omega,first (by omega),rfl⟩
  rw [<-bf] at t18;simp only [go_sem,ya,ax,t2,t8,t14,t15,t17,t18,m1,m2,k5,k6,k7,k8,m3];rfl
end
mutual
def below (n:Nat):AV->Prop
 | .ptr id _=>id<n
 | .ay id _ _=>id<n
 | .map id=>id<n
 | .it id=>id<n
 | .fn (.f _) first cap=>j8 n first/\j8 n cap
 | .fn (.y l) first cap=>l<n/\first=[]/\cap=[]
 | .agg cs=>j8 n cs
 | .ap cs=>j8 n cs
 | _=>True
def j8 (n:Nat):List AV->Prop
 | []=>True
 | v::r=>below n v/\j8 n r
end
def jI (n:Nat):Env->Prop
 | []=>True
 | (_,v)::r=>below n v/\jI n r
def mN (n:Nat):Obj->Prop
 | .cells _ pu _ _ cs=>pu=true\/j8 n cs
 | .mp _ ks vs=>j8 n ks/\j8 n vs
 | .si _ _=>True
 | .lp tm _ _ _ _ _=>jI n tm
def pX (b n:Nat):Hp->Prop
 | []=>True
 | (id,o)::r=>id<b/\mN n o/\pX b n r
mutual
def Ys {f:Nat->Option Nat} {n:Nat} (hf:∀x,x<n->f x=some x):∀{v:AV},below n v->bU f v=v
 | .int _ _,_ | .bool _,_ | .aB _ _,_ | .str _,_ | .kQ,_ | .aJ _,_ | .af,_ | .aC _ _ _,_ | .iF,_ | .jQ,_ | .jz _ _,_ | .undef,_ | .cf _ _ _ _,_=>rfl
 | .ptr id o,h=>by simp only [bU,hf id h]
 | .ay id o k,h=>by simp only [bU,hf id h]
 | .map id,h=>by simp only [bU,hf id h]
 | .it id,h=>by simp only [bU,hf id h]
 | .fn (.y l) first cap,h=>by
  obtain ⟨h1,rfl,rfl⟩:=h;simp only [bU,hf l h1,fJ]
 | .fn (.f _) first cap,h=>by
  simp only [bU,Ag hf h.1,Ag hf h.2]
 | .agg cs,h=>by simp only [below] at h;simp only [bU,Ag hf h]
 | .ap cs,h=>by simp only [below] at h;simp only [bU,Ag hf h]
def Ag {f:Nat->Option Nat} {n:Nat} (hf:∀x,x<n->f x=some x):∀{vs:List AV},j8 n vs->fJ f vs=vs
 | [],_=>rfl
 | v::r,h=>by simp only [fJ,Ys hf h.1,Ag hf h.2]
end
def Lk {f:Nat->Option Nat} {n:Nat} (hf:∀x,x<n->f x=some x):∀{tm:Env},jI n tm->kR f tm=tm
 | [],_=>rfl
 | (_,v)::r,h=>by simp only [kR,Ys hf h.1,Lk hf h.2]
def aic {f:Nat->Option Nat} {n:Nat} (hf:∀x,x<n->f x=some x):∀{o:Obj},mN n o->lE f o=o
 | .cells _ pu _ _ cs,h=>by
  cases pu with
  | true=>rfl
  | false=>simp only [mN,yD,ycp] at h;simp only [lE,yH,Ag hf h]
 | .mp _ ks vs,h=>by simp only [lE,Ag hf h.1,Ag hf h.2]
 | .si _ _,_=>rfl
 | .lp tm _ _ _ _ _,h=>by simp only [mN] at h;simp only [lE,Lk hf h]
mutual
def XF {n:Nat}:∀{v:AV},below n v->∀x,x∈refs v->x<n
 | .int _ _,_,x,h | .bool _,_,x,h | .aB _ _,_,x,h | .str _,_,x,h | .kQ,_,x,h | .aJ _,_,x,h | .af,_,x,h | .aC _ _ _,_,x,h | .iF,_,x,h | .jQ,_,x,h | .jz _ _,_,x,h | .undef,_,x,h | .cf _ _ _ _,_,x,h=>by simp [refs] at h
 | .ptr id o,h,x,hx=>by simp only [refs,vI] at hx;subst hx;exact h
 | .ay id o k,h,x,hx=>by simp only [refs,vI] at hx;subst hx;exact h
 | .map id,h,x,hx=>by simp only [refs,vI] at hx;subst hx;exact h
 | .it id,h,x,hx=>by simp only [refs,vI] at hx;subst hx;exact h
 | .fn (.y l) first cap,h,x,hx=>by simp only [refs,vI] at hx;subst hx;exact h.1
 | .fn (.f _) first cap,h,x,hx=>by
  simp only [refs,wx] at hx;exact hx.elim (Ad h.1 x) (Ad h.2 x)
 | .agg cs,h,x,hx=>by simp only [below] at h;simp only [refs] at hx;exact Ad h x hx
 | .ap cs,h,x,hx=>by simp only [below] at h;simp only [refs] at hx;exact Ad h x hx
def Ad {n:Nat}:∀{vs:List AV},j8 n vs->∀x,x∈eT vs->x<n
 | [],_,x,h=>by simp [eT] at h
 | v::r,h,x,hx=>by
  simp only [eT,wx] at hx;exact hx.elim (XF h.1 x) (Ad h.2 x)
end
def Ha {n:Nat}:∀{tm:Env},jI n tm->∀x,x∈fA tm->x<n
 | [],_,x,h=>by simp [fA] at h
 | (_,v)::r,h,x,hx=>by
  simp only [fA,wx] at hx;exact hx.elim (XF h.1 x) (Ha h.2 x)
def PK {n:Nat}:∀{o:Obj},mN n o->∀x,x∈jt o->x<n
 | .cells _ pu _ _ cs,h,x,hx=>by
  cases pu with
  | true=>simp [jt] at hx
  | false=>simp only [mN,yD,ycp] at h;exact Ad h x hx
 | .mp _ ks vs,h,x,hx=>by
  simp only [jt,wx] at hx;exact hx.elim (Ad h.1 x) (Ad h.2 x)
 | .si _ _,_,x,hx=>by simp [jt] at hx
 | .lp tm _ _ _ _ _,h,x,hx=>by simp only [mN] at h;exact Ha h x hx
def bh (B:Nat):List (List AV)->Hp
 | []=>[]
 | cs::r=>(B+r.length,.cells true true true 1 cs)::bh B r
def CF (B:Nat):List (List AV)->Hp->Hp
 | [],acc=>acc
 | cs::r,acc=>CF (B+1) r ((B,.cells true true true 1 cs)::acc)
def XG:∀(l:List (List AV)) (B:Nat) (x:List AV) (acc:Hp),CF B (l++[x]) acc=(B+l.length,.cells true true true 1 x)::CF B l acc
 | [],B,x,acc=>rfl
 | c::l,B,x,acc=>by
  simp only [yY,CF,XG l,yv]
  grind
def Qk (B:Nat) (acc:Hp):∀rs:List (List AV),CF B rs.reverse acc=bh B rs++acc
 | []=>rfl
 | c::r=>by
  simp only [yaa,XG,Qk B acc r,yaO,bh,yY]
def LC {B:Nat} {old:Hp}:∀{rs:List (List AV)} {i:Nat} (h:i<rs.length),an (bh B rs++old) (B+i)=some (.cells true true true 1 (rs.reverse[i]'(by simpa using h)))
 | c::r,i,h=>by
  simp only [bh,yY,yaa];by_cases hi:i=r.length
  ·subst hi;rw [an,xG,yx]
   simp
  ·have aP:i<r.length:=by grind
   rw [an,cd (by omega),yH,LC aP]
   grind
def qH {B:Nat} {old:Hp}:∀{rs:List (List AV)} {x:Nat},x<B->an (bh B rs++old) x=an old x
 | [],x,_=>rfl
 | c::r,x,h=>by
  simp only [bh,yY];rw [an,cd (by omega),yH,qH h]
def Pz {B:Nat} {old:Hp} {o:Obj}:∀{rs:List (List AV)} {x:Nat},x<B->aU (bh B rs++old) x o=bh B rs++aU old x o
 | [],x,_=>rfl
 | c::r,x,h=>by
  simp only [bh,yY];rw [aU,cd (by omega),yH,Pz h]
def WB {B:Nat} {old:Hp}:∀{rs:List (List AV)} {x:Nat},x<B->da (bh B rs++old) x=bh B rs++da old x
 | [],x,_=>rfl
 | c::r,x,h=>by
  simp only [bh,yY];rw [da,cd (by omega),yH,WB h]
def mf {a b:Nat} (h:a<b):yK a b=true:=by simp_all
def AH {a b:Nat} (h:b<=a):yK a b=false:=by
 cases hq:yK a b with
 | false=>rfl
 | true=>have:=yr hq;omega
def G6 {B:Nat} {old:Hp}:∀rs:List (List AV),ej B (bh B rs++old)=ej B old
 | []=>rfl
 | c::r=>by
  simp only [bh,yY];rw [ej,AH (by omega),yH,G6 r]
def PZ {B:Nat} {old:Hp} {f:Nat->Option Nat}:∀rs:List (List AV),kh B f (bh B rs++old)=kh B f old
 | []=>rfl
 | c::r=>by
  simp only [bh,yY];rw [kh,AH (by omega),yH,PZ r]
def PL {B n:Nat} {f:Nat->Option Nat} (hf:∀x,x<n->f x=some x):∀{old:Hp},pX B n old->kh B f old=old
 | [],_=>rfl
 | (id,o)::r,h=>by
  rw [kh,mf h.1,yx,aic hf h.2.1,PL hf h.2.2]
def aid {B s x:Nat} (h:B+s<=x):lF x (xJ B s)=false:=by
 induction s generalizing B with
 | zero=>rfl
 | succ s ih=>rw [vA,lF,cd (by omega),yH,ih (by omega)]
def Ll {hp:Hp} {B R:Nat} (je:∀i,i<R->∃rw ex sz cs,an hp (B+i)=some (.cells rw true ex sz cs)):
  ∀(W:List Nat) (bi s:Nat),W.length<bi->s<=R->W.filter (fun x=> !yK x B)=xJ (B+s) (R-s)->reach hp B bi W (xJ B s)=xJ B R
 | [],0,s,hf,_,_=>by simp at hf
 | [],bi+1,s,hf,hs,h=>by
  have:R-s=0:=by
   grind
  rw [reach,show R=s by omega]
 | id::W,0,s,hf,_,_=>by simp at hf
 | id::W,bi+1,s,hf,hs,h=>by
  have rU:W.length<bi:=by simp_all
  rw [reach];by_cases hid:id<B
  ·rw [mf hid,tZ,yx];rw [ybs,mf hid] at h;exact Ll je W bi s rU hs (by simpa using h)
  ·rw [ybs,AH (by omega)] at h;have hRs:R-s=(R-s-1)+1:=by
    have:=congrArg tL h
    grind
   rw [hRs,vA] at h;injection h with h1 h2
   subst h1;rw [AH (by omega),uj,aid (yz _),yH];obtain ⟨rw,ex,sz,cs,ho⟩:=je s (by omega);simp only [ho,jt,yx,xX];have e:xJ B s++[B+s]=xJ B (s+1):=by rw [List.range'_concat];simp
   rw [e];exact Ll je W bi (s+1) rU (by omega) (by rw [h2,show R-s-1=R-(s+1) by omega,show B+s+1=B+(s+1) by omega])
def aie {B s i k:Nat} (h:i<s):mj (B+i) (xJ B s) k=some (k+i):=by
 induction s generalizing B i k with
 | zero=>omega
 | succ s ih=>
  rw [vA,mj];by_cases hi:i=0
  ·simp_all
  ·rw [cd (by omega),yH]
   have:=ih (B:=B+1) (i:=i-1) (k:=k+1) (by omega)
   grind
def W3 {B R x:Nat} (h:x<B+R):jJ B (xJ B R) x=some x:=by
 unfold jJ;by_cases hx:x<B
 ·rw [mf hx,yx]
 ·rw [AH (by omega),yH]
  have:=aie (B:=B) (s:=R) (i:=x-B) (k:=B) (by omega)
  grind
def P0 {hp:Hp} {f:Nat->Option Nat}:∀(ro:List (List AV)) (B:Nat) (acc:Hp),(∀i (h:i<ro.length),an hp (B+i)=some (.cells true true true 1 ro[i]))->kL hp f (xJ B ro.length) B acc=CF B ro acc
 | [],B,acc,_=>rfl
 | c::r,B,acc,h=>by
  have h0:=h 0 (by simp);simp only [yW,List.getElem_cons_zero] at h0;rw [yv,vA,kL];simp only [h0,lE,yx,CF]
  exact P0 r (B+1) _ (fun i hi=>by
   have:=h (i+1) (by simpa using hi)
   rw [show B+1+i=B+(i+1) by omega,this]
   simp)
def agU {live:List Nat} {tm:Env} {B ct:Nat} {old:Hp} {rs:List (List AV)} (ht:jI B (cK tm live)) (ho:pX B (B+rs.length) old) (hl:(fA (cK tm live)).length+(ej B old).length<100000)
  (hr:(ej B old).filter (fun x=> !yK x B)=xJ B rs.length):aM live ⟨tm,bh B rs++old,ct,B⟩=⟨cK tm live,bh B rs++old,B+rs.length,B⟩:=by
 have je:∀i (h:i<rs.length),an (bh B rs++old) (B+i)=some (.cells true true true 1 (rs.reverse[i]'(by simpa using h))):=fun i h=>LC h
 have MJ:reach (bh B rs++old) B 100000 (fA (cK tm live)++ej B (bh B rs++old)) []=xJ B rs.length:=by
  have:=Ll (hp:=bh B rs++old) (B:=B) (R:=rs.length) (fun i hi=>⟨_,_,_,_,je i hi⟩) (fA (cK tm live)++ej B (bh B rs++old)) 100000 0 (by rw [G6,yR];exact hl) (tu _) (by
   rw [List.filter_append,G6,hr,tn.2 (fun x hx=>by
    have:=Ha ht x hx
    simp [mf this])]
   simp)
  grind
 have hid:∀x,x<B+rs.length->jJ B (xJ B rs.length) x=some x:=fun x hx=>W3 hx
 have hn:=P0 (hp:=bh B rs++old) (f:=jJ B (xJ B rs.length)) rs.reverse B old (fun i hi=>je i (by simpa using hi));rw [yaO] at hn;simp only [aM,MJ,PZ,PL hid ho,hn,Qk,List.length_range']
 rw [Lk (n:=B) (fun x hx=>hid x (by omega)) ht]
def XH {B b n:Nat} (hb:b<=B):∀{H:Hp},pX b n H->∀x,x∈ej B H->x<n
 | [],_,x,hx=>by simp [ej] at hx
 | (id,o)::r,h,x,hx=>by
  rw [ej,mf (by have:=h.1;omega),yx,wx] at hx;exact hx.elim (PK h.2.1 x) (XH hb h.2.2 x)
def W4 {live:List Nat} {tm:Env} {B ct:Nat} {old:Hp} (ht:jI B (cK tm live)) (ho:pX B B old) (hl:(fA (cK tm live)).length+(ej B old).length<100000):
  aM live ⟨tm,old,ct,B⟩=⟨cK tm live,old,B,B⟩:=by
 have:=agU (rs:=[]) (ct:=ct) ht (by simpa using ho) hl (by
  rw [tn.2 (fun x hx=>by have:=XH (yz B) ho x hx;simp [mf this])]
  rfl)
 simpa [bh] using this
section
variable {P:aG} {L:Lib}
def HR {n:Nat} {F:au} (h:Has P L n F) {hp:Hp} {ct:Nat} {vals:List AV} {ex:Ex} {s:St} {v:AV} (hD:D P L F.body ⟨eh 0 vals,hp,ct,ct⟩=some (ex,s)) (he:ex= .normal\/ex= .ret) (hr:gY s F.dd=some v):
  iC P L (D P L) hp ct n vals=some (v,s.hp,s.ct):=by
 simp only [iC,h.heap,h.code,hD]
 grind
def ame {hp:Hp} {ct l:Nat} {xs:List AV} {tm tm' iL nV:Env} {ps rO Bn:List Nat} {a b a1 b1 a2 b2:VC} {pe pn pe2:rq} {s1 s2:St}
  (h1:an hp l=some (.lp tm ps a b 0 pe)) (h2:pV tm ps xs=some tm') (h3:D P L a ⟨tm',hp,ct,ct⟩=some (.normal,s1)) (h4:an s1.hp l=some (.lp iL rO a1 b1 0 pn))
  (h5:D P L b ⟨s1.tm,aU s1.hp l (.lp iL rO a1 b1 1 pn),s1.ct,s1.ct⟩=some (.normal,s2)) (h6:an s2.hp l=some (.lp nV Bn a2 b2 1 pe2)):
  kJ (D P L) hp ct l xs=some (.bool true,aU s2.hp l (.lp nV Bn a2 b2 0 .none),s2.ct):=by
 simp only [kJ,h1,h2,h3,h4,h5,h6]
def atr {f:X} {ps:List Nat} {as_ body:VC} {s:St} {n:Nat} {first cap:List AV} {v:AV} {hp:Hp} {ct:Nat} {tm:Env} {ps':List Nat} {a b:VC} {st:Nat}
  (h1:az s.tm f= .fn (.f n) first cap) (h2:L.heap n=none) (h3:iC P L (D P L) ((s.ct,.lp s.tm ps as_ body 0 .none)::s.hp) (s.ct+1) n (first++(.fn (.y s.ct) [] []::cap))=some (v,hp,ct))
  (h4:an hp s.ct=some (.lp tm ps' a b st .none)) (h5:st≠1):D P L (.rf f ps as_ body) s=some (.normal,⟨s.tm,da hp s.ct,ct,s.base⟩):=by
 rw [kT];simp only [bt,h1,h2,h3,h4,cd h5,yH]
def fR (B n R:Nat):List AV:=(xF R).map (fun i=> .ay (B+i) 0 n)++yC (n-R) .af
def kj (zero:AV) (val:Nat->Nat->AV) (n r c:Nat):List AV:=(xF c).map (fun c=>val c r)++yC (n-c) zero
def fI (val:Nat->Nat->AV) (n:Nat):Nat->List (List AV)
 | 0=>[]
 | r+1=>((xF n).map fun c=>val c r)::fI val n r
def B2 (val:Nat->Nat->AV) (n:Nat):∀r,(fI val n r).length=r
 | 0=>rfl
 | r+1=>by rw [fI,yv,B2 val n r]
def amf {B n R:Nat} (h:R<=n):(fR B n R).length=n:=by simp [fR];omega
def amg {zero:AV} {val:Nat->Nat->AV} {n r c:Nat} (h:c<=n):(kj zero val n r c).length=n:=by simp [kj];omega
def Zp {l:List AV} {k:Nat} {v z:AV}:over l.length [v] (l++yC (k+1) z)=l++[v]++yC k z:=by
 simp only [over,List.take_left',yv,yI,yf,wj]
 simp_all
def ajU {B n R:Nat} (h:R<n):over R [.ay (B+R) 0 n] (fR B n R)=fR B n (R+1):=by
 have:=Zp (l:=(xF R).map (fun i=>AV.ay (B+i) 0 n)) (k:=n-R-1) (v:= .ay (B+R) 0 n) (z:= .af)
 simp only [xo,ybf] at this;rw [show n-R-1+1=n-R by omega] at this;rw [fR,this,fR,uI,xu];rfl
def Yt {zero:AV} {val:Nat->Nat->AV} {n r c:Nat} (h:c<n):over c [val c r] (kj zero val n r c)=kj zero val n r (c+1):=by
 have:=Zp (l:=(xF c).map (fun c=>val c r)) (k:=n-c-1) (v:=val c r) (z:=zero)
 simp only [xo,ybf] at this;rw [show n-c-1+1=n-c by omega] at this;rw [kj,this,kj,uI,xu];rfl
def ajV {zero:AV} {val:Nat->Nat->AV} {n r:Nat}:kj zero val n r n=(xF n).map fun c=>val c r:=by simp [kj]
def ajW {zero:AV} {val:Nat->Nat->AV} {n r:Nat}:kj zero val n r 0=yC n zero:=by simp [kj]
def QM (z:AV):∀n,(yC n [z]).flatten=yC n z
 | 0=>rfl
 | n+1=>by rw [wj,List.flatten_cons,QM z n,wj];rfl
def jE (b n:Nat) (fnv:AV):Env:=[(11,.fn (.f 133) [] [.aJ [.int .i64 n]]),(10,.int .i64 n),(5,.ptr (b+3) 0),(9,.ay (b+2) 0 n),(8,.int .i64 n),(4,.af),(3,.ptr (b+1) 0),(2,.ptr b 0),(0,.int .i64 n),(1,fnv)]
def WC {B b n:Nat} (hb:b<=B):∀{H:Hp},pX b n H->∀x,x∈ej B H->x<n
 | [],_,x,hx=>by simp [ej] at hx
 | (id,o)::r,h,x,hx=>by
  rw [ej,mf (by have:=h.1;omega),yx,wx] at hx;exact hx.elim (PK h.2.1 x) (WC hb h.2.2 x)
def W5 {b b' n n':Nat} (hb:b<=b') (hn:∀o,mN n o->mN n' o):∀{H:Hp},pX b n H->pX b' n' H
 | [],_=>trivial
 | (id,o)::r,h=>⟨yA h.1 hb,hn o h.2.1,W5 hb hn h.2.2⟩
mutual
def Lm {n n':Nat} (h:n<=n'):∀{v:AV},below n v->below n' v
 | .int _ _,_ | .bool _,_ | .aB _ _,_ | .str _,_ | .kQ,_ | .aJ _,_ | .af,_ | .aC _ _ _,_ | .iF,_ | .jQ,_ | .jz _ _,_ | .undef,_ | .cf _ _ _ _,_=>trivial
 | .ptr _ _,k=>yA k h
 | .ay _ _ _,k=>yA k h
 | .map _,k=>yA k h
 | .it _,k=>yA k h
 | .fn (.f _) _ _,k=>⟨Ae h k.1,Ae h k.2⟩
 | .fn (.y _) _ _,k=>⟨yA k.1 h,k.2⟩
 | .agg cs,k=>by simp only [below] at k ⊢;exact Ae h k
 | .ap cs,k=>by simp only [below] at k ⊢;exact Ae h k
def Ae {n n':Nat} (h:n<=n'):∀{vs:List AV},j8 n vs->j8 n' vs
 | [],_=>trivial
 | _::_,k=>⟨Lm h k.1,Ae h k.2⟩
end
def PM {n n':Nat} (h:n<=n'):∀{tm:Env},jI n tm->jI n' tm
 | [],_=>trivial
 | (_,_)::_,k=>⟨Lm h k.1,PM h k.2⟩
def ahs {n n':Nat} (h:n<=n'):∀{o:Obj},mN n o->mN n' o
 | .cells _ pu _ _ cs,k=>k.imp id (Ae h)
 | .mp _ ks vs,k=>⟨Ae h k.1,Ae h k.2⟩
 | .si _ _,_=>trivial
 | .lp tm _ _ _ _ _,k=>by simp only [mN] at k ⊢;exact PM h k
mutual
def pL {n:Nat}:∀{v:AV},aV v=true->below n v
 | .int _ _,_ | .bool _,_ | .aB _ _,_ | .str _,_ | .kQ,_ | .aJ _,_ | .af,_ | .aC _ _ _,_ | .iF,_ | .jQ,_ | .jz _ _,_ | .undef,_=>trivial
 | .cf _ _ _ _,_=>trivial
 | .ptr _ _,h | .ay _ _ _,h | .map _,h | .it _,h=>by simp [aV] at h
 | .fn (.y _) _ _,h=>by simp [aV] at h
 | .fn (.f _) _ _,h=>by
  simp only [aV,yg] at h;exact ⟨DO h.1,DO h.2⟩
 | .agg cs,h=>by simp only [aV] at h;simp only [below];exact DO h
 | .ap cs,h=>by simp only [aV] at h;simp only [below];exact DO h
def DO {n:Nat}:∀{vs:List AV},aF vs=true->j8 n vs
 | [],_=>trivial
 | _::_,h=>by
  simp only [aF,yg] at h;exact ⟨pL h.1,DO h.2⟩
end
structure MZ (b:Nat) (fnv:AV) (H:Hp):Prop where
 fv:below b fnv
 fl:(refs fnv).length<=1000
 one:bc fnv=true
 hb:pX b b H
 hl:∀B,(ej B H).length<=1000
def aif {B n R:Nat}:j8 (B+R) (fR B n R):=by
 have cR:∀{a c:List AV},j8 (B+R) a->j8 (B+R) c->j8 (B+R) (a++c):=by
  intro a c
  induction a with
  | nil=>intro _ h;exact h
  | cons x a ih=>intro h1 h2;exact ⟨h1.1,ih h1.2 h2⟩
 have hm:∀l:List Nat,(∀i,i∈l->i<R)->j8 (B+R) (l.map fun i=>AV.ay (B+i) 0 n):=by
  intro l
  induction l with
  | nil=>intro _;trivial
  | cons x l ih=>intro h;exact ⟨by have:=h x (by simp);show B+x<B+R;omega,ih (fun i hi=>h i (by simp [hi]))⟩
 refine cR (hm _ (fun i hi=>yaE.1 hi)) (DO ?_)
 induction n-R with
 | zero=>rfl
 | succ k ih=>rw [wj];exact ih
def ajX {B n R:Nat}:eT (fR B n R)=xJ B R:=by
 unfold fR;have cR:∀a c:List AV,eT (a++c)=eT a++eT c:=by
  intro a c
  induction a with
  | nil=>rfl
  | cons x a ih=>simp only [yY,eT,ih,xr]
 have hm:∀l:List Nat,eT (l.map fun i=>AV.ay (B+i) 0 n)=l.map (B+·):=by
  intro l
  induction l with
  | nil=>rfl
  | cons x l ih=>simp only [xj,eT,refs,ih];rfl
 have hr:eT (yC (n-R) AV.af)=[]:=by
  induction n-R with
  | zero=>rfl
  | succ k ih=>rw [wj];exact ih
 rw [cR,hm,hr,xW,List.range'_eq_map_range]
end
section
variable {pre x post:List Nat} {i:Nat}
def oE:(pre++x++post).length=pre.length+x.length+post.length:=by grind
def Cb (h:i<x.length):(pre++x++post).getD (pre.length+i) 0=x.getD i 0:=by grind
def Mh (a:Nat) (h:i<x.length):(pre++x++post).set (pre.length+i) a=pre++x.set i a++post:=by simp_all
end
def mg (n:Nat) (k:y8) (a:Int):below n (.int k a)=True:=rfl
def mO (n id o k:Nat):below n (.ay id o k)=(id<n):=rfl
def ma (n:Nat):jI n []=True:=rfl
def lX (n i:Nat) (v:AV) (r:Env):jI n ((i,v)::r)=(below n v/\jI n r):=rfl
def pR {live:List Nat} {tm:Env} {ct:Nat} {a b:List AV} (ht:jI 2 (cK tm live)) (hl:(fA (cK tm live)).length<100000):
  aM live ⟨tm,[(1,.cells true true true 1 a),(0,.cells true true true 1 b)],ct,2⟩=⟨cK tm live,[(1,.cells true true true 1 a),(0,.cells true true true 1 b)],2,2⟩:=
 W4 ht ⟨by omega,.inl rfl,by omega,.inl rfl,trivial⟩ (by
  have:ej 2 [(1,Obj.cells true true true 1 a),(0,Obj.cells true true true 1 b)]=[]:=rfl
  rw [this,yI,yW];exact hl)
section
variable {P:aG} {L:Lib}
def aih {x s c:Nat} (hs:s<64) (hx:x<18446744073709551616) (hc:c<2^s):
  c|||(x*2^s%18446744073709551616)<18446744073709551616/\c<18446744073709551616/\x/2^(64-s)<2^s/\(c|||(x*2^s%18446744073709551616))+18446744073709551616*(x/2^(64-s))=x*2^s+c:=by
 have e:18446744073709551616=2^(64-s)*2^s:=by rw [<-xP,show 64-s+s=64 by omega]
 have h1:x*2^s%18446744073709551616=(x%2^(64-s))*2^s:=by rw [e,tE]
 have h2:x/2^(64-s)<2^s:=by
  refine (wu (xt _)).2 ?_
  grind
 have h3:c|||(x*2^s%18446744073709551616)=(x%2^(64-s))*2^s+c:=by rw [h1,Nat.or_comm,RR hc]
 have h4:(x%2^(64-s))*2^s+c<18446744073709551616:=by
  have:=yS (2^s) (show x%2^(64-s)+1<=2^(64-s) from xE _ (xt _))
  grind
 have h5:=uB x (2^(64-s))
 grind
def aq2 {v:AV} {w:List Nat} (hv:bB v w) (hw:lo 18446744073709551616 w) (lw:w.length<=99999999999) {s n:Nat} (hs:s<64) (hn:n=w.length+1):
  ∀k st,(∃(i:Nat) (out:List Nat),aM [1,5,12,13,14] st=⟨[(1,aa s),(5,.ay 0 0 n),(12,v),(13,aa w.length),(14,aa i)],[(0,.cells true true true 1 (out.map uc))],1,0⟩/\i+k=w.length/\out.length=n/\lo 18446744073709551616 out/\bv 18446744073709551616 out=bv 18446744073709551616 (w.take i)*2^s/\out.getD i 0<2^s/\(∀m,i<m->out.getD m 0=0))->
   ∃ex st',D P L (.loop [1,5,12,13,14] Eh) st=some (ex,st')/\∃tm out,st'=⟨tm,[(0,.cells true true true 1 (out.map uc))],1,0⟩/\ex= .exit 0/\aj tm 5= .ay 0 0 n/\out.length=n/\lo 18446744073709551616 out/\bv 18446744073709551616 out=bv 18446744073709551616 w*2^s:=by
 intro dq sq;generalize bf:aM [1,5,12,13,14] sq=s0;revert bf s0 sq dq;apply dh;rintro k st ⟨i,out,rfl,hk,hlen,aZ,aI,hc,fN⟩;by_cases hi:i<w.length
 ·left
  have gx:=gC (show 0<18446744073709551616 by decide) hw i;have ex:=hv.bn hi;have ec:=zf (l:=out) (o:=i) (by omega);have aU:=nE (b:=18446744073709551616) (l:=out) (i:=i) (x:=out.getD i 0|||(w.getD i 0*2^s%18446744073709551616)) (by omega);have hz:out.getD (i+1) 0=0:=fN _ (by omega);have dz:=iW (b:=18446744073709551616) (l:=w) i;generalize out.getD i 0=c at*
  generalize w.getD i 0=x at*
  obtain ⟨s1,s2,s3,s4⟩:=aih hs gx hc;have o1:=JF .i64 x (s:=s) (by omega);have o2:=O7 s2 (xE (x*2^s) (by decide));have o3:binOp .sub (.int .i64 64) (aa s)=some (aa (64-s:Nat)):=by
   rw [Mf,wrap64 (by omega) (by omega)];congr 2;omega
  have o4:=JG .i64 x (s:=64-s) (by omega);generalize jD:c|||(x*2^s%18446744073709551616)=c' at*
  by_cases h0:0<s
  ·have M0:=nE (b:=18446744073709551616) (l:=out.set i c') (i:=i+1) (x:=x/2^(64-s)) (by simp;omega);rw [oD (by omega),hz,xx,yW] at M0;have auU:x/2^(64-s)<18446744073709551616:=xR (wV _ _) gx;generalize x/2^(64-s)=y at*
   simp only [go_sem,ya,yj,Eh,show (i:Int)<w.length by omega,ex,cU 0 0 (show i<n by omega),yf,ec,o1,o2,kH (l:=out) (o:=i) (by omega),show (0:Int)<(s:Int) by omega,show (i:Int)+1=((i+1:Nat):Int) from rfl,wrapN (n:=i+1) (by omega),o3,o4,cU 0 0 (show i+1<n by omega),kH (l:=out.set i c') (o:=i+1) (by simp;omega)];refine ⟨_,k-1,rfl,by omega,i+1,(out.set i c').set (i+1) y,by simp only [go_sem,ya,yc,ax,aE hv.pu,aH _ hv.pu]<;>rfl,by omega,by simp [hlen],me (me aZ s1) auU,?_,by rw [ahS (by simp;omega)];exact s3,fun m hm=>by rw [oD (by omega),oD (by omega)];exact fN m (by omega)⟩
   rw [dz,we,M0,<-aI,y9,xm,xm (18446744073709551616^i)];have e:=congrArg (fun t=>18446744073709551616^i*t) s4;simp only [xC] at e;generalize 18446744073709551616^i*(18446744073709551616*y)=p1 at*
   generalize 18446744073709551616^i*(x*2^s)=p2 at*
   generalize 18446744073709551616^i*c'=p3 at*
   omega
  ·have kE:s=0:=by omega
   subst kE;have kW:c=0:=by simpa using hc
   have zS:x/2^(64-0)=0:=xO gx;rw [zS,xx,yW,ycu,yj] at s4
   simp only [go_sem,ya,yj,Eh,show (i:Int)<w.length by omega,ex,cU 0 0 (show i<n by omega),yf,ec,o1,o2,kH (l:=out) (o:=i) (by omega),show ¬(0:Int)<((0:Nat):Int) by omega,show (i:Int)+1=((i+1:Nat):Int) from rfl,wrapN (n:=i+1) (by omega)];refine ⟨_,k-1,rfl,by omega,i+1,out.set i c',by simp only [go_sem,ya,yc,ax,aE hv.pu,aH _ hv.pu]<;>rfl,by omega,by simp [hlen],me aZ s1,?_,by rw [oD (by omega),hz];exact xt _,fun m hm=>by rw [oD (by omega)];exact fN m (by omega)⟩
   rw [ycu,yj] at aI ⊢;rw [dz,<-aI];rw [kW,xx,yW] at aU;rw [aU,s4,kW,yW]
 ·right
  have:i=w.length:=by omega
  subst this;rw [xH] at aI;simp only [go_sem,ya,Eh,show ¬(w.length:Int)<w.length by omega];exact ⟨_,_,rfl,by simp,_,out,rfl,rfl,by simp only [go_sem,ya],hlen,aZ,aI⟩
def adv (h:Has P L 168 NC) {v:AV} {w:List Nat} (hv:bB v w) (hw:lo 18446744073709551616 w) (lw:w.length<=99999999999) {s:Nat} (hs:s<64):
  ∃out,ab P L 168 [v,aa s] (.cf true 1 (w.length+1) (out.map uc))/\out.length=w.length+1/\lo 18446744073709551616 out/\bv 18446744073709551616 out=bv 18446744073709551616 w*2^s:=by
 obtain ⟨n,hn⟩:∃n,n=w.length+1:=⟨_,rfl⟩;unfold ab;rw [aA h]
 simp only [go_sem,ya,yc,NC,hv.len,wrapN (n:=n) (by omega),show (w.length:Int)+1=((w.length+1:Nat):Int) from rfl,<-hn,C2 (n:=n) _ (by omega)];generalize hq:D P L (.loop [1,5,12,13,14] Eh) _=q;obtain ⟨ex,st,rfl,tm,o,rfl,rfl,t5,hlen,aZ,aI⟩:=bI hq (aq2 (P:=P) (L:=L) hv hw lw hs hn w.length)
  ⟨0,yC n 0,by simp only [go_sem,ya,yc,ax,aE hv.pu,aH _ hv.pu]<;>rfl,by omega,by simp,Es (by decide) n,by rw [Et];simp [bv],by rw [B9];exact xt _,fun m _=>B9 n m⟩
 refine ⟨o,?_,hlen,aZ,aI⟩;simp only [go_sem,yc,ax,t5];exact XB (Hz _ _ _) (by simp [hlen]) (by decide)
end
abbrev H2 (a b:List Nat):Hp:=[(1,.cells true true true 1 (a.map uc)),(0,.cells true true true 1 (b.map uc))]
structure gQ (x vs:List Nat) (n v1 v2 u0 u1 u2:Nat):Prop where
 n2:2<=n
 nb:n<=99999999999
 lx:x.length=n+1
 lv:vs.length=n
 gx:lo 18446744073709551616 x
 gv:lo 18446744073709551616 vs
 dY:vs.getD (n-1) 0=v1
 cA:vs.getD (n-2) 0=v2
 h0:x.getD n 0=u0
 h1:x.getD (n-1) 0=u1
 h2:x.getD (n-2) 0=u2
 pos:0<v1
 lt:bv 18446744073709551616 x<18446744073709551616*bv 18446744073709551616 vs
def ats (b p a v1 v2:Nat):a+p*v2+p*b*v1=(v1*b+v2)*p+a:=by grind
def att (b p a v0 v1 v2:Nat):a+p*v2+p*b*v1+p*b*b*v0=((v0*b+v1)*b+v2)*p+a:=by grind
section
variable {x vs:List Nat} {n v1 v2 u0 u1 u2:Nat}
def gQ.Ks (h:gQ x vs n v1 v2 u0 u1 u2):v1<18446744073709551616:=h.dY▸gC (by decide) h.gv _
def gQ.Dx (h:gQ x vs n v1 v2 u0 u1 u2):v2<18446744073709551616:=h.cA▸gC (by decide) h.gv _
def gQ.Kt (h:gQ x vs n v1 v2 u0 u1 u2):u1<18446744073709551616:=h.h1▸gC (by decide) h.gx _
def gQ.Ku (h:gQ x vs n v1 v2 u0 u1 u2):u2<18446744073709551616:=h.h2▸gC (by decide) h.gx _
def gQ.parts (h:gQ x vs n v1 v2 u0 u1 u2):∃p vr ur,bv 18446744073709551616 vs=(v1*18446744073709551616+v2)*p+vr/\vr<p/\bv 18446744073709551616 x=((u0*18446744073709551616+u1)*18446744073709551616+u2)*p+ur/\ur<p:=by
 obtain ⟨m,hm⟩:∃m,n=m+2:=⟨n-2,by have:=h.n2;omega⟩;subst hm;have e1:=iW (b:=18446744073709551616) (l:=vs) (m+1);have e2:=iW (b:=18446744073709551616) (l:=vs) m;have f0:=iW (b:=18446744073709551616) (l:=x) (m+2);have f1:=iW (b:=18446744073709551616) (l:=x) (m+1);have f2:=iW (b:=18446744073709551616) (l:=x) m;have dY:vs.getD (m+1) 0=v1:=h.dY;have cA:vs.getD m 0=v2:=h.cA;have h0:x.getD (m+2) 0=u0:=h.h0;have h1:x.getD (m+1) 0=u1:=h.h1;have h2:x.getD m 0=u2:=h.h2
 rw [yN (by have:=h.lv;omega),dY,e2,cA] at e1
 rw [yN (by have:=h.lx;omega),h0,f1,h1,f2,h2] at f0;have g1:=lD (sT h.gv m)
 rw [yT,xD (by have:=h.lv;omega)] at g1;have g2:=lD (sT h.gx m)
 rw [yT,xD (by have:=h.lx;omega)] at g2;refine ⟨18446744073709551616^m,_,_,?_,g1,?_,g2⟩
 ·grind
 ·grind
def gQ.down (h:gQ x vs n v1 v2 u0 u1 u2) {t r:Nat} (ht:t*v1+r=u0*18446744073709551616+u1) (hr:r*18446744073709551616+u2<t*v2):bv 18446744073709551616 x/bv 18446744073709551616 vs<=t-1:=by
 obtain ⟨p,vr,ur,h1,h2,h3,h4⟩:=h.parts;exact Xx h1 h3 h4 ht hr
def gQ.stop (h:gQ x vs n v1 v2 u0 u1 u2) {t r:Nat} (kG:t<18446744073709551616) (ht:t*v1+r=u0*18446744073709551616+u1) (hr:18446744073709551616<=r\/t*v2<=r*18446744073709551616+u2):t<=bv 18446744073709551616 x/bv 18446744073709551616 vs+1:=by
 obtain ⟨p,vr,ur,h1,h2,h3,h4⟩:=h.parts;exact Ym (by decide) h1 h2 h3 h.pos h.Dx kG ht hr
def gQ.first (h:gQ x vs n v1 v2 u0 u1 u2):bv 18446744073709551616 x/bv 18446744073709551616 vs<=(u0*18446744073709551616+u1)/v1:=by
 obtain ⟨p,vr,ur,h1,h2,h3,h4⟩:=h.parts;exact PJ h1 h3 h4 h.Ku h.pos
def gQ.top (h:gQ x vs n v1 v2 u0 u1 u2):u0<=v1:=by
 obtain ⟨p,vr,ur,h1,h2,h3,h4⟩:=h.parts;exact Yn h1 h3 h2 h.Dx h.lt
def gQ.digit (h:gQ x vs n v1 v2 u0 u1 u2):bv 18446744073709551616 x/bv 18446744073709551616 vs<18446744073709551616:=by
 refine (wu ?_).2 h.lt;rcases xn (bv 18446744073709551616 vs) with h0 | h0
 ·have:=h.lt;rw [h0] at this;simp at this
 ·exact h0
end
section
variable {P:aG} {L:Lib}
def aa7 (mw:L.pure 143=some qW) (gG:L.pure 171=some nC) {w:AV} {x vs pre post qs:List Nat} (hw:bB w vs) {n v1 v2 u0 u1 u2:Nat} (hl:gQ x vs n v1 v2 u0 u1 u2):
  ∀k s,(∃q r:Nat,aM [0,1,5,6,7,8] s=⟨[(0,.ay 0 pre.length (n+1)),(1,w),(5,aa n),(6,uc q),(7,uc (r%18446744073709551616)),(8,uc (r/18446744073709551616))],H2 qs (pre++x++post),2,2⟩/\q*v1+r=u0*18446744073709551616+u1/\r<2*18446744073709551616/\q<18446744073709551616/\bv 18446744073709551616 x/bv 18446744073709551616 vs<=q/\q=k)->
   ∃ex s',D P L (.loop [0,1,5,6,7,8] sY) s=some (ex,s')/\∃tm q,s'=⟨tm,H2 qs (pre++x++post),2,2⟩/\ex= .exit 0/\aj tm 0= .ay 0 pre.length (n+1)/\aj tm 1=w/\aj tm 5=aa n/\aj tm 6=uc q/\q<18446744073709551616/\bv 18446744073709551616 x/bv 18446744073709551616 vs<=q/\q<=bv 18446744073709551616 x/bv 18446744073709551616 vs+1:=by
 intro dq sq;generalize bf:aM [0,1,5,6,7,8] sq=s0;revert bf s0 sq dq;apply dh;rintro k s ⟨q,r,rfl,hq,hr,oc,hQ,rfl⟩;have dn:=hl.n2;have px:=hl.nb;by_cases lS:r<18446744073709551616
 ·have FQ:r%18446744073709551616=r:=yL lS;have BD:r/18446744073709551616=0:=xO lS;rw [FQ,BD];have E4:=hl.Ks;have Tw:=hl.Dx;have adw:=hl.Ku;have py:=hw.bn (i:=n-2) (by have:=hl.lv;omega);have eP:=hw.bn (i:=n-1) (by have:=hl.lv;omega);rw [hl.cA] at py;rw [hl.dY] at eP;have ss:=zf (l:=pre++x++post) (o:=pre.length+(n-2)) (by rw [oE];have:=hl.lx;omega)
  rw [Cb (by have:=hl.lx;omega),hl.h2] at ss;have f1:=MA (P:=P) (f:=D P L) mw oc Tw;have f2:=Ct (P:=P) (f:=D P L) gG (x:=r) (y:=v1) (c:=0) lS E4 (by omega);rw [show (uc 0)=AV.int .u64 0 from rfl] at f2;have fg:=wb (q*v2) 18446744073709551616;have aZ:=xE (q*v2) (show 0<18446744073709551616 by decide);obtain ⟨H,hH⟩:∃H,H=q*v2/18446744073709551616:=⟨_,rfl⟩;obtain ⟨G,hG⟩:∃G,G=q*v2%18446744073709551616:=⟨_,rfl⟩;rw [<-hH,<-hG] at f1 fg;rw [<-hG] at aZ;have zT:(n:Int)-2=((n-2:Nat):Int):=by omega
  have pC:(n:Int)-1=((n-1:Nat):Int):=by omega
  by_cases c1:H<r
  ·right
   simp only [go_sem,ya,sY,H2,show ((0:Nat):Int)=0 from rfl,zT,wrapN (n:=n-2) (by omega),py,f1,show (H:Int)<(r:Int) by omega];exact ⟨_,_,rfl,by simp,_,q,rfl,rfl,by simp only [go_sem,ya],by simp only [go_sem,ya],by simp only [go_sem,ya],by simp only [go_sem,ya],oc,hQ,hl.stop oc hq (.inr (by omega))⟩
  ·by_cases c2:H=r/\G<=u2
   ·right
    obtain ⟨c2,c3⟩:=c2
    simp only [go_sem,ya,sY,H2,show ((0:Nat):Int)=0 from rfl,zT,wrapN (n:=n-2) (by omega),py,f1,show (H:Int)=(r:Int) by omega];simp only [show ¬(r:Int)<(r:Int) by omega,yu]
    simp only [go_sem,ya,yj,zT,wrapN (n:=n-2) (by omega),cU 0 pre.length (show n-2<n+1 by omega),ss,show (G:Int)<=(u2:Int) by omega];exact ⟨_,_,rfl,by simp,_,q,rfl,rfl,by simp only [go_sem,ya],by simp only [go_sem,ya],by simp only [go_sem,ya],by simp only [go_sem,ya],oc,hQ,hl.stop oc hq (.inr (by omega))⟩
   ·left
    have Fs:r*18446744073709551616+u2<q*v2:=by omega
    have bf:0<q:=by
     rcases xn q with h0 | h0
     ·subst h0;omega
     ·exact h0
    have e3:binOp .sub (uc q) (.int .u64 1)=some (uc (q-1)):=C3 (b:=1) (by omega) (by omega);have h1:(q-1)*v1+(r+v1)=u0*18446744073709551616+u1:=by
     obtain ⟨p,rfl⟩:∃p,q=p+1:=⟨q-1,by omega⟩;rw [we,ybE] at hq;rw [tz];omega
    have zU:=hl.down hq Fs;rw [yW] at f2;by_cases c3:H=r
    ·have c4:¬G<=u2:=fun h=>c2 ⟨c3,h⟩
     subst c3
     simp only [go_sem,ya,xK,yj,sY,H2,show ((0:Nat):Int)=0 from rfl,zT,pC,wrapN (n:=n-2) (by omega),wrapN (n:=n-1) (by omega),py,eP,f1,f2,show ¬(H:Int)<(H:Int) by omega,cU 0 pre.length (show n-2<n+1 by omega),ss,show ¬(G:Int)<=(u2:Int) by omega,e3];refine ⟨_,q-1,rfl,by omega,q-1,H+v1,?_,h1,by omega,by omega,zU,rfl⟩;rw [pR (by simp only [go_sem,ya,yE,mg,mO,ma,lX,pL hw.pu,wZ]) (by simp only [go_sem,ya,yc,yE,aE hw.pu])];simp only [go_sem,ya]
    ·simp only [go_sem,ya,xK,sY,H2,show ((0:Nat):Int)=0 from rfl,zT,pC,wrapN (n:=n-2) (by omega),wrapN (n:=n-1) (by omega),py,eP,f1,f2,show ¬(H:Int)<(r:Int) by omega,show ¬(H:Int)=(r:Int) by omega,e3];refine ⟨_,q-1,rfl,by omega,q-1,r+v1,?_,h1,by omega,by omega,zU,rfl⟩;rw [pR (by simp only [go_sem,ya,yE,mg,mO,ma,lX,pL hw.pu,wZ]) (by simp only [go_sem,ya,yc,yE,aE hw.pu])];simp only [go_sem,ya]
 ·right
  have BD:r/18446744073709551616=1:=by omega
  rw [BD];simp only [go_sem,ya,sY,H2,show ((1:Nat):Int)=1 from rfl,vv];exact ⟨_,_,rfl,by simp,_,q,rfl,rfl,by simp only [go_sem,ya],by simp only [go_sem,ya],by simp only [go_sem,ya],by simp only [go_sem,ya],oc,hQ,hl.stop oc hq (.inl (by omega))⟩
end
def ajY {b p x y z nj c bo zV ca q v X Y:Nat} (h1:q*v+c=b*ca+nj) (h2:z+nj+bo=x+b*zV) (h3:Y+q*X=y+p*(c+bo)) (W:Nat) (hW:W+p*x=Y+p*z):
  W+q*(X+p*v)=y+p*b*(ca+zV):=by grind
def ajZ {q v c:Nat} (hq:q<18446744073709551616) (hv:v<18446744073709551616) (hc:c<18446744073709551616):
  q*v+c=18446744073709551616*(q*v/18446744073709551616+(q*v%18446744073709551616+c+0)/18446744073709551616)+(q*v%18446744073709551616+c+0)%18446744073709551616/\
  q*v/18446744073709551616+(q*v%18446744073709551616+c+0)/18446744073709551616<18446744073709551616:=by
 have h:=wK (show q<=18446744073709551615 by omega) (show v<=18446744073709551615 by omega)
 grind
section
variable {P:aG} {L:Lib}
def aq3 (mw:L.pure 143=some qW) (gG:L.pure 171=some nC) (rD:L.pure 173=some Az) {w:AV} {x vs pre post qs:List Nat} (hw:bB w vs) {n:Nat} (px:n<=99999999999) (lv:vs.length=n) (gv:lo 18446744073709551616 vs) {q:Nat} (hq:q<18446744073709551616):
  ∀k s,(∃(i c bo:Nat) (y:List Nat),aM [0,1,5,6,11,12,104,105] s=⟨[(0,.ay 0 pre.length (n+1)),(1,w),(5,aa n),(6,uc q),(11,uc bo),(12,uc c),(104,aa n),(105,aa i)],H2 qs (pre++y++post),2,2⟩/\i+k=n/\y.length=n+1/\lo 18446744073709551616 y/\c<18446744073709551616/\bo<=1/\
    bv 18446744073709551616 y+q*bv 18446744073709551616 (vs.take i)=bv 18446744073709551616 x+18446744073709551616^i*(c+bo))->
   ∃ex s',D P L (.loop [0,1,5,6,11,12,104,105] Ib) s=some (ex,s')/\∃tm c bo y,s'=⟨tm,H2 qs (pre++y++post),2,2⟩/\ex= .exit 2/\aj tm 0= .ay 0 pre.length (n+1)/\aj tm 1=w/\aj tm 5=aa n/\aj tm 6=uc q/\aj tm 11=uc bo/\aj tm 12=uc c/\y.length=n+1/\lo 18446744073709551616 y/\c<18446744073709551616/\bo<=1/\
    bv 18446744073709551616 y+q*bv 18446744073709551616 vs=bv 18446744073709551616 x+18446744073709551616^n*(c+bo):=by
 intro dq sq;generalize bf:aM [0,1,5,6,11,12,104,105] sq=s0;revert bf s0 sq dq;apply dh;rintro k s ⟨i,c,bo,y,rfl,hk,ly,gy,hc,jl,aI⟩;by_cases hi:i<n
 ·left
  have df:(0:Nat)<18446744073709551616:=by decide
  have qC:=gC df gv i;have pD:=gC df gy i;have ev:=hw.bn (i:=i) (by omega);have ey:=zf (l:=pre++y++post) (o:=pre.length+i) (by rw [oE];omega);rw [Cb (by omega)] at ey;have dz:=iW (b:=18446744073709551616) (l:=vs) i;obtain ⟨a,ha⟩:∃a,a=vs.getD i 0:=⟨_,rfl⟩;obtain ⟨d,hd⟩:∃d,d=y.getD i 0:=⟨_,rfl⟩;rw [<-ha] at qC ev dz;rw [<-hd] at pD ey;obtain ⟨m1,m2⟩:=ajZ hq qC hc;have f1:=MA (P:=P) (f:=D P L) mw hq qC;have f2:=Ct (P:=P) (f:=D P L) gG (x:=q*a%18446744073709551616) (y:=c) (c:=0) (xE _ df) hc (by omega);obtain ⟨nj,adx⟩:∃t,t=(q*a%18446744073709551616+c+0)%18446744073709551616:=⟨_,rfl⟩;obtain ⟨c1,ef⟩:∃t,t=(q*a%18446744073709551616+c+0)/18446744073709551616:=⟨_,rfl⟩;have ady:nj<18446744073709551616:=by rw [adx];exact xE _ df
  rw [<-adx,<-ef] at f2 m1;rw [<-ef] at m2;obtain ⟨h1,gV⟩:∃t,t=q*a/18446744073709551616:=⟨_,rfl⟩;rw [<-gV] at f1 m1 m2;rw [show (uc 0)=AV.int .u64 0 from rfl] at f2;have f3:=RQ (P:=P) (f:=D P L) rD pD ady jl;have fX:=QJ pD ady jl;obtain ⟨z,hz⟩:∃t,t=(d+18446744073709551616*2-nj-bo)%18446744073709551616:=⟨_,rfl⟩;obtain ⟨b',bQ⟩:∃t,t=(if nj+bo<=d then 0 else 1):=⟨_,rfl⟩;have jj:b'<=1:=by rw [bQ];split<;>omega
  have FP:z<18446744073709551616:=by rw [hz];exact xE _ df
  rw [<-hz,<-bQ] at f3 fX;have f4:binOp .add (uc h1) (uc c1)=some (uc (h1+c1)):=by
   rw [AT,yL m2]
  have aU:=nE (b:=18446744073709551616) (l:=y) (i:=i) (x:=z) (by omega);rw [<-hd] at aU;have aQ:=fun (hp:Hp) (ct:Nat)=>kH (hp:=hp) (ct:=ct) (id:=0) (v:=z) (ex:=true) (l:=pre++y++post) (o:=pre.length+i) (by rw [oE];omega)
  have nM:=Mh (pre:=pre) (x:=y) (post:=post) (i:=i) z (by omega);simp only [go_sem,ya,yj,Ib,H2,show (i:Int)<(n:Int) by omega,ev,f1,f2,f4,cU 0 pre.length (show i<n+1 by omega),ey,f3,aQ,nM];refine ⟨_,k-1,rfl,by omega,i+1,h1+c1,b',y.set i z,?_,by omega,by simp [ly],me gy FP,m2,jj,?_⟩
  ·rw [pR (by simp only [go_sem,ya,yE,mg,mO,ma,lX,pL hw.pu,wZ]) (by simp only [go_sem,ya,yc,yE,aE hw.pu])];rw [wrap64 (by omega) (by omega)];simp only [go_sem,ya]<;>rfl
  ·rw [dz,y9];exact ajY m1 fX aI _ aU
 ·right
  have:i=n:=by omega
  subst this;rw [yN (by omega)] at aI;simp only [go_sem,ya,Ib,H2,show ¬(i:Int)<(i:Int) by omega];exact ⟨_,_,rfl,by simp,_,c,bo,y,rfl,rfl,by simp only [go_sem,ya],by simp only [go_sem,ya],by simp only [go_sem,ya],by simp only [go_sem,ya],by simp only [go_sem,ya],by simp only [go_sem,ya],ly,gy,hc,jl,aI⟩
def aq4 (gG:L.pure 171=some nC) {w:AV} {y0 vs pre post qs:List Nat} (hw:bB w vs) {n:Nat} (px:n<=99999999999) (lv:vs.length=n) (gv:lo 18446744073709551616 vs) {q:Nat}:
  ∀k s,(∃(i c:Nat) (y:List Nat),aM [0,1,5,6,17,156,157] s=⟨[(0,.ay 0 pre.length (n+1)),(1,w),(5,aa n),(6,uc q),(17,uc c),(156,aa n),(157,aa i)],H2 qs (pre++y++post),2,2⟩/\i+k=n/\y.length=n+1/\lo 18446744073709551616 y/\c<=1/\
    bv 18446744073709551616 y+18446744073709551616^i*c=bv 18446744073709551616 y0+bv 18446744073709551616 (vs.take i))->
   ∃ex s',D P L (.loop [0,1,5,6,17,156,157] Ic) s=some (ex,s')/\∃tm c y,s'=⟨tm,H2 qs (pre++y++post),2,2⟩/\ex= .exit 4/\aj tm 0= .ay 0 pre.length (n+1)/\aj tm 5=aa n/\aj tm 6=uc q/\aj tm 17=uc c/\y.length=n+1/\lo 18446744073709551616 y/\c<=1/\
    bv 18446744073709551616 y+18446744073709551616^n*c=bv 18446744073709551616 y0+bv 18446744073709551616 vs:=by
 intro dq sq;generalize bf:aM [0,1,5,6,17,156,157] sq=s0;revert bf s0 sq dq;apply dh;rintro k s ⟨i,c,y,rfl,hk,ly,gy,hc,aI⟩;by_cases hi:i<n
 ·left
  have df:(0:Nat)<18446744073709551616:=by decide
  have qC:=gC df gv i;have pD:=gC df gy i;have ev:=hw.bn (i:=i) (by omega);have ey:=zf (l:=pre++y++post) (o:=pre.length+i) (by rw [oE];omega);rw [Cb (by omega)] at ey;have dz:=iW (b:=18446744073709551616) (l:=vs) i;obtain ⟨a,ha⟩:∃a,a=vs.getD i 0:=⟨_,rfl⟩;obtain ⟨d,hd⟩:∃d,d=y.getD i 0:=⟨_,rfl⟩;rw [<-ha] at qC ev dz;rw [<-hd] at pD ey;have f1:=Ct (P:=P) (f:=D P L) gG pD qC hc;have aU:=nE (b:=18446744073709551616) (l:=y) (i:=i) (x:=(d+a+c)%18446744073709551616) (by omega);rw [<-hd] at aU;have jk:=Lj (18446744073709551616^i) 18446744073709551616 (d+a+c);have jD:(d+a+c)/18446744073709551616<=1:=by omega
  have FP:(d+a+c)%18446744073709551616<18446744073709551616:=xE _ df;generalize (d+a+c)%18446744073709551616=z at*
  generalize (d+a+c)/18446744073709551616=c' at*
  have aQ:=fun (hp:Hp) (ct:Nat)=>kH (hp:=hp) (ct:=ct) (id:=0) (v:=z) (ex:=true) (l:=pre++y++post) (o:=pre.length+i) (by rw [oE];omega)
  have nM:=Mh (pre:=pre) (x:=y) (post:=post) (i:=i) z (by omega);simp only [go_sem,ya,yj,Ic,H2,show (i:Int)<(n:Int) by omega,ev,f1,cU 0 pre.length (show i<n+1 by omega),ey,aQ,nM];refine ⟨_,k-1,rfl,by omega,i+1,c',y.set i z,?_,by omega,by simp [ly],me gy FP,jD,?_⟩
  ·rw [pR (by simp only [go_sem,ya,yE,mg,mO,ma,lX,pL hw.pu,wZ]) (by simp only [go_sem,ya,yc,yE,aE hw.pu])];rw [wrap64 (by omega) (by omega)];simp only [go_sem,ya]<;>rfl
  ·rw [dz,y9];rw [xC,xC] at jk;omega
 ·right
  have:i=n:=by omega
  subst this;rw [yN (by omega)] at aI;simp only [go_sem,ya,Ic,H2,show ¬(i:Int)<(i:Int) by omega];exact ⟨_,_,rfl,by simp,_,c,y,rfl,rfl,by simp only [go_sem,ya],by simp only [go_sem,ya],by simp only [go_sem,ya],by simp only [go_sem,ya],ly,gy,hc,aI⟩
end
end VE
