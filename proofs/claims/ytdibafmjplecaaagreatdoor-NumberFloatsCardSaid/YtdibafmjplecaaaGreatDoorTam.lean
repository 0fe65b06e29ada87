import Derived.ChangeSlices
import Derived.ChangeReads
import Derived.ChangeSame
import Derived.OpenShut
import Derived.Lib.AtoiErrMem
import Derived.Laws.Externs
import Derived.Attr
import Derived.Test.YtdibafmjplecaaaGreatDoorTad
import Derived.Test.YtdibafmjplecaaaGreatDoorTab
import Derived.Test.YtdibafmjplecaaaGreatDoorTaf
import Derived.Test.YtdibafmjplecaaaGreatDoorTal
import Derived.Test.YtdibafmjplecaaaGreatDoorTae
set_option linter.all false
set_option maxRecDepth 100000
open Array renaming getElem?_eq_some_iff→xo
open BitVec renaming ofInt→xC,ofInt_natCast→uW,ofNat→uV,toNat_ofNat→vC
open Bool renaming and_eq_true→yf,and_self→uz,and_true→uT,false_and→wB,false_eq_true→yC,false_or→uU,true_and→wK
open Go renaming Addr→vY,ChangeSpec→ybW,DataW→xJ,Field→td,IntKind→xc,MemPlace→wq,Program→y8,TypeId→yx,Value→yg,World→yi
open Int renaming ediv_emod_unique→tD,gcd→wE,gcd_dvd_left→tH,gcd_dvd_right→tA,mul_ediv_cancel'→yay,natAbs_ediv_of_dvd→uo,natCast_mul→wG,tdiv_eq_ediv_of_dvd→yag,tdiv_eq_ediv_of_nonneg→xE,tmod_eq_emod_of_nonneg→xz,toNat_natCast→wo
open List renaming all_cons→ybv,append_assoc→xx,append_nil→xZ,cons_append→xh,drop→vZ,drop_drop→vN,drop_eq_getElem_cons→yX,drop_eq_nil_of_le→xk,drop_left'→tN,drop_zero→yu,eq_nil_of_length_eq_zero→yD,filter_cons→yaV,filter_eq_nil_iff→yai,flatMap_cons→yaK,getD_cons_succ→yax,getD_eq_getElem?_getD→xG,getElem?_cons_zero→vE,getElem?_eq_getElem→wx,length→tG,length_append→y5,length_cons→yO,length_map→xt,length_nil→yR,length_reverse→yaz,length_singleton→uS,length_take→yW,mapM_cons→ud,mapM_nil→yaa,map_append→xI,map_cons→xi,map_take→ybp,mem_append→wy,mem_append_left→tf,mem_append_right→vG,mem_flatMap→uB,mem_singleton→vz,nil_append→xT,range→wZ,range'→xY,range'_succ→ve,range'_zero→yaT,range_eq_range'→yap,replicate→yL,replicate_succ→vB,reverse_cons→yaL,set_append_right→yam,set_cons_succ→yaE,set_eq_take_append_cons_drop→tv,take_append_drop→xR,take_length→xH,take_of_length_le→yQ,take_succ_eq_append_getElem→wD
open Nat renaming add_mul→xS,add_sub_cancel→ug,add_zero→yV,beq→yq,beq_refl→wu,ble→yy,ble_eq_true_of_le→yt,blt→yK,div_add_mod→xF,div_eq_of_lt→xD,div_le_self→wI,div_lt_iff_lt_mul→xy,eq_of_beq_eq_true→yj,eq_zero_or_pos→xe,gcd→wm,gcd_comm→tr,gcd_rec→ycj,le_div_iff_mul_le→ta,le_max_left→vW,le_max_right→vK,le_of_ble_eq_true→yp,le_of_lt→ua,le_refl→yB,lt_of_le_of_lt→xB,lt_of_lt_of_le→yE,lt_of_mul_lt_mul_right→tV,min_eq_left→xA,mod_add_div→vH,mod_eq_of_lt→yF,mod_lt→xu,mul_add→xr,mul_assoc→xd,mul_comm→xg,mul_div_mul_right→yas,mul_le_mul→wa,mul_le_mul_left→yS,mul_le_mul_right→yU,mul_lt_mul_of_pos_right→xQ,mul_mod_mul_right→tc,mul_one→ym,mul_pos→wY,mul_zero→xp,one_mul→ybC,or_comm→yck,pow_add→xn,pow_le_pow_right→yT,pow_succ→yZ,pow_zero→vL,reduceAdd→yd,reduceEqDiff→ya,reduceLT→yI,reduceMul→xN,strongRecOn→vh,sub_zero→ybV,two_pow_pos→y9,zero_add→yh,zero_le→uN,zero_mul→wh
open Option renaming bind_eq_bind→vv,bind_some→xX,map_some→wz,pure_def→wA
open Option.some renaming injEq→yb
open Prod.mk renaming injEq→yk
namespace VE
open Go (IntKind)
section
open Go
section
variable (P:y8)
def CJ (self:yx->Bool):List td->Nat->Nat->Bool
 | [],o,n=>yq o n
 | f::r,o,n=>yq f.offset o&&(self f.type&&CJ self r (o+P.cellsOf f.type) n)
def flat:Nat->yx->Bool
 | 0,_=>false
 | n+1,t=>
  match P.underlying t with
  | some .bool | some (.int _) | some (.float _) | some .string=>yq (P.cellsOf t) 1
  | some (.slice e)=>yq (P.cellsOf t) 1&&(yK 0 (P.cellsOf e)&&flat n e)
  | some (.struct fs)=>CJ P (fun u=>flat n u) fs.toList 0 (P.cellsOf t)
  | some (.array k e)=>yq (P.cellsOf t) (k*P.cellsOf e)&&flat n e
  | _=>false
def cD {H:Type}:Nat->yx->xJ H->List AV
 | 0,_,_=>[]
 | n+1,t,d=>
  match P.underlying t,d with
  | some .bool,.lit (.bool b)=>[.bool b]
  | some (.int k),.lit (.int _ m)=>[.int k m]
  | some (.float k),.lit (.float _ b)=>[.aw k b]
  | some .string,.lit (.string s)=>[.str (s.map UInt8.toNat)]
  | some (.slice _),.nil=>[.ae]
  | some (.slice e),.slice iX spare=>[.aC spare.isEmpty iX.length (iX.flatMap fun x=>cD n e x)]
  | some (.struct fs),.agg parts=>(fs.toList.zip parts).flatMap fun x=>cD n x.1.type x.2
  | some (.array _ e),.agg parts=>parts.flatMap fun x=>cD n e x
  | _,_=>[]
end
section
variable {af:Nat->Nat} {m:Mp} {S:Nat->Prop} {w:yi}
def Z8:∀{a b:List AV} {dj o:Nat},bK af m S w a dj o->bK af m S w b dj (o+a.length)->bK af m S w (a++b) dj o
 | [],b,dj,o,_,h=>by simpa using h
 | x::a,b,dj,o,h1,h2=>by
  exact ⟨h1.1,Z8 h1.2 (by rw [yO] at h2;rw [show o+1+a.length=o+(a.length+1) by omega];exact h2)⟩
def JM:∀{a b:List AV},aI a=true->aI b=true->aI (a++b)=true
 | [],_,_,h=>h
 | x::a,b,h1,h2=>by
  simp only [aI,xh,yf] at h1 ⊢;exact ⟨h1.1,JM h1.2 h2⟩
def Z9:∀{a:List AV} {us:List yg},au af m S w a us->a.length=us.length
 | [],us,h=>by simp only [au] at h;subst h;rfl
 | x::a,us,h=>by
  obtain ⟨u,r,rfl,_,h2⟩:=h;simp [Z9 h2]
end
section
variable {H:Type} {enc:yx×yg->H} {P:y8} {w:yi} {held:Bool} {af:Nat->Nat} {m:Mp} {S:Nat->Prop}
def aek {a:vY} {i:Nat} {u:yg} (h:w.cell? (a.add i)=some u):w.cell? ⟨a.block,a.off+i,none⟩=some u/\(i=0->a.spot=none):=by
 by_cases hi:i=0
 ·subst hi;have e:a.add 0=a:=by simp [Addr.add]
  rw [e] at h;have hs:a.spot=none:=by
   cases hq:a.spot with
   | none=>rfl
   | some k=>
    unfold World.cell? at h
    split at h
    ·simp [hq] at h
    all_goals simp_all
  obtain ⟨b,o,sp⟩:=a;simp only at hs;subst hs;exact ⟨by simpa using h,fun _=>rfl⟩
 ·have e:a.add i=⟨a.block,a.off+i,none⟩:=by simp [Addr.add,hi]
  rw [e] at h;exact ⟨h,fun h=>(hi h).elim⟩
def anx (a:vY) (i:Nat):(a.add i).block=a.block:=by unfold Addr.add;split<;>rfl
def aro (a:vY) (i:Nat):(a.add i).off=a.off+i:=by unfold Addr.add;split<;>simp_all
def JY {α β:Type} {f:α->Option β}:∀{l:List α} {r:List β},l.mapM f=some r->r.length=l.length
 | [],r,h=>by simp only [yaa,wA,yb] at h;subst h;rfl
 | x::l,r,h=>by
  rw [ud] at h
  cases h1:f x with
  | none=>simp [h1] at h
  | some y=>
   cases h2:l.mapM f with
   | none=>simp [h1,h2] at h
   | some ys=>
    simp only [h1,h2,xX,vv,wA,yb] at h;subst h;simp [JY h2]
def aps {c:AV} {l:List AV} {b o:Nat} (h:bK af m S w (c::l) b o):b<w.heap.size:=by
 obtain ⟨⟨u,h1,_⟩,_⟩:=h;unfold World.cell? at h1
 cases hq:w.heap[b]? with
 | none=>simp [hq] at h1
 | some o=>exact (xo.1 hq).1
def O3 {e:yx} {bi sz:Nat} {f:xJ H->List AV} {a:vY} (ej:0<sz)
  (IH:∀(cs:List yg) (d:xJ H) (ps:List wq),DataW.trod enc P w 0 (fun _=>true) held bi e cs=some (d,ps)->au af m S w (f d) cs/\aI (f d)=true/\cs.length=sz):
  ∀(k j:Nat) (xs:List (xJ H×List wq)),(xY j k).mapM (fun i=>(w.cells? 0 (a.add (i*sz)) sz).bind (DataW.trod enc P w 0 (fun _=>true) held bi e))=some xs->
   bK af m S w ((xs.map (·.1)).flatMap f) a.block (a.off+j*sz)/\aI ((xs.map (·.1)).flatMap f)=true/\((xs.map (·.1)).flatMap f).length=k*sz/\xs.length=k/\(0<k->a.spot=none\/0<j)
 | 0,j,xs,h=>by
  simp only [yaT,yaa,wA,yb] at h;subst h;simp [bK,aI]
 | k+1,j,xs,h=>by
  rw [ve,ud] at h
  cases h1:(w.cells? 0 (a.add (j*sz)) sz) with
  | none=>simp [h1] at h
  | some us=>
   cases h2:DataW.trod enc P w 0 (fun _=>true) held bi e us with
   | none=>simp [h1,h2] at h
   | some x=>
    cases h3:(xY (j+1) k).mapM (fun i=>(w.cells? 0 (a.add (i*sz)) sz).bind (DataW.trod enc P w 0 (fun _=>true) held bi e)) with
    | none=>simp [h1,h2,h3] at h
    | some ys=>
     simp only [h1,h2,h3,xX,vv,wA,yb] at h;subst h;obtain ⟨d,ps⟩:=x;obtain ⟨g1,g2,g3⟩:=IH us d ps h2;obtain ⟨k1,k2,k3,k4,_⟩:=O3 ej IH k (j+1) ys h3;obtain ⟨_,c2,c3⟩:=World.cells?_some h1;have hl:(f d).length=sz:=by rw [Z9 g1,g3]
     have hc:∀(i:Nat) (u:yg),us[i]? =some u->w.cell? ⟨a.block,a.off+j*sz+i,none⟩=some u:=by
      intro i u hi;have Ek:i<sz:=by grind
      have h:=c3 i Ek;rw [hi] at h
      have:=(aek h).1
      rwa [anx,aro] at this
     refine ⟨?_,?_,?_,by simp [k4],?_⟩
     ·simp only [xi,yaK];refine Z8 (CP _ us _ g1 hc) ?_
      grind
     ·simp only [xi,yaK];exact JM g2 k2
     ·grind
     ·intro _;rcases xe j with hj | hj
      ·left
       have h:=c3 0 ej;have hu:us[0]? =some us[0]:=by simp_all
       rw [hu] at h
       have:=(aek h).2 rfl
       subst hj;simpa [Addr.add] using this
      ·grind
def Zn {bi N:Nat} {n:Nat} {cs:List yg} (hN:cs.length=N)
  (IH:∀(t:yx) (cs:List yg) (d:xJ H) (ps:List wq),flat P n t=true->DataW.trod enc P w 0 (fun _=>true) held bi t cs=some (d,ps)->au af m S w (cD P n t d) cs/\aI (cD P n t d)=true/\cs.length=P.cellsOf t):
  ∀(r:List td) (o:Nat) (xs:List (xJ H×List wq)),CJ P (fun u=>flat P n u) r o N=true->r.mapM (fun f=>DataW.trod enc P w 0 (fun _=>true) held bi f.type ((cs.drop f.offset).take (P.cellsOf f.type)))=some xs->
   au af m S w ((r.zip (xs.map (·.1))).flatMap fun x=>cD P n x.1.type x.2) (cs.drop o)/\aI ((r.zip (xs.map (·.1))).flatMap fun x=>cD P n x.1.type x.2)=true
 | [],o,xs,hf,h=>by
  have:=yj hf
  rw [xk (by omega)];simp [au,aI]
 | f::r,o,xs,hf,h=>by
  simp only [CJ,yf] at hf;obtain ⟨e1,e2,e3⟩:=hf;have e1:=yj e1;rw [ud] at h
  cases h2:DataW.trod enc P w 0 (fun _=>true) held bi f.type ((cs.drop f.offset).take (P.cellsOf f.type)) with
  | none=>simp [h2] at h
  | some x=>
   cases h3:r.mapM (fun f=>DataW.trod enc P w 0 (fun _=>true) held bi f.type ((cs.drop f.offset).take (P.cellsOf f.type))) with
   | none=>simp [h2,h3] at h
   | some ys=>
    simp only [h2,h3,xX,vv,wA,yb] at h;subst h;obtain ⟨d,ps⟩:=x;obtain ⟨g1,g2,g3⟩:=IH f.type _ d ps e2 h2;obtain ⟨k1,k2⟩:=Zn hN IH r _ ys e3 h3;rw [e1] at g1;have e:cs.drop o=(cs.drop o).take (P.cellsOf f.type)++cs.drop (o+P.cellsOf f.type):=by rw [<-vN];exact (xR _ _).symm
    rw [e];exact ⟨jU g1 k1,JM g2 k2⟩
def ael {bi sz:Nat} {e:yx} {f:xJ H->List AV} {cs:List yg}
  (IH:∀(cs:List yg) (d:xJ H) (ps:List wq),DataW.trod enc P w 0 (fun _=>true) held bi e cs=some (d,ps)->au af m S w (f d) cs/\aI (f d)=true/\cs.length=sz):
  ∀(k j:Nat) (xs:List (xJ H×List wq)),(xY j k).mapM (fun i=>DataW.trod enc P w 0 (fun _=>true) held bi e ((cs.drop (i*sz)).take sz))=some xs->cs.length=(j+k)*sz->
   au af m S w ((xs.map (·.1)).flatMap f) (cs.drop (j*sz))/\aI ((xs.map (·.1)).flatMap f)=true
 | 0,j,xs,h,hl=>by
  simp only [yaT,yaa,wA,yb] at h;subst h;rw [xk (by rw [hl];simp)]
  simp [au,aI]
 | k+1,j,xs,h,hl=>by
  rw [ve,ud] at h
  cases h2:DataW.trod enc P w 0 (fun _=>true) held bi e ((cs.drop (j*sz)).take sz) with
  | none=>simp [h2] at h
  | some x=>
   cases h3:(xY (j+1) k).mapM (fun i=>DataW.trod enc P w 0 (fun _=>true) held bi e ((cs.drop (i*sz)).take sz)) with
   | none=>simp [h2,h3] at h
   | some ys=>
    simp only [h2,h3,xX,vv,wA,yb] at h;subst h;obtain ⟨d,ps⟩:=x;obtain ⟨g1,g2,g3⟩:=IH _ d ps h2;obtain ⟨k1,k2⟩:=ael IH k (j+1) ys h3 (by rw [hl];congr 1;omega)
    have e:cs.drop (j*sz)=(cs.drop (j*sz)).take sz++cs.drop ((j+1)*sz):=by rw [xS,ybC,<-vN];exact (xR _ _).symm
    rw [e];exact ⟨jU g1 k1,JM g2 k2⟩
def aaU (hS:∀b,b<w.heap.size->S b):∀(n bi:Nat) (t:yx) (cs:List yg) (d:xJ H) (ps:List wq),flat P n t=true->DataW.trod enc P w 0 (fun _=>true) held bi t cs=some (d,ps)->
  au af m S w (cD P n t d) cs/\aI (cD P n t d)=true/\cs.length=P.cellsOf t
 | 0,bi,t,cs,d,ps,hf,h=>by simp [flat] at hf
 | n+1,0,t,cs,d,ps,hf,h=>by simp [DataW.trod] at h
 | n+1,bi+1,t,cs,d,ps,hf,h=>by
  have IH:=aaU hS n bi;unfold DataW.trod at h;simp only [flat] at hf
  split at h
  ·rename_i hu;simp only [hu] at hf;simp only [yb,yk] at h;obtain ⟨rfl,rfl⟩:=h;simp only [cD,hu];exact ⟨by simp [au,ah],by simp [aI,bh],by rw [yj hf];rfl⟩
  ·rename_i hu;simp only [hu] at hf
   split at h
   ·rename_i hk;simp only [yb,yk] at h;obtain ⟨rfl,rfl⟩:=h;simp only [cD,hu];refine ⟨?_,by simp [aI,bh],by rw [yj hf];rfl⟩
    rw [hk.1];simp [au,ah]
   ·cases h
  ·rename_i hu;simp only [hu] at hf
   split at h
   ·rename_i hk;simp only [yb,yk] at h;obtain ⟨rfl,rfl⟩:=h;simp only [cD,hu];refine ⟨?_,by simp [aI,bh],by rw [yj hf];rfl⟩
    rw [hk.1];simp [au,ah]
   ·cases h
  ·rename_i hu;simp only [hu] at hf
   split at h
   ·simp only [yb,yk] at h;obtain ⟨rfl,rfl⟩:=h;simp only [cD,hu];refine ⟨?_,by simp [aI,bh],by rw [yj hf];rfl⟩
    simp only [au,ah];exact ⟨_,_,rfl,⟨_,rfl,rfl⟩,rfl⟩
   ·cases h
  ·rename_i hu;simp [hu] at hf
  ·rename_i hu;simp [hu] at hf
  ·rename_i hu;simp only [hu,yf] at hf;simp only [yb,yk] at h;obtain ⟨rfl,rfl⟩:=h;simp only [cD,hu];exact ⟨by simp [au,ah],by simp [aI,bh],by rw [yj hf.1];rfl⟩
  ·rename_i e a len cap hu;simp only [hu,yf] at hf;obtain ⟨f1,f2,f3⟩:=hf;have ej:=rK.1 f2;simp only at h
   split at h
   case isFalse=>cases h
   rename_i hc;simp only [xO] at h
   cases h1:(wZ len).mapM fun i=>(w.cells? 0 (a.add (i*P.cellsOf e)) (P.cellsOf e)).bind (DataW.trod enc P w 0 (fun _=>true) held bi e) with
   | none=>rw [h1] at h;simp at h
   | some iX=>
    cases h2:(wZ (cap-len)).mapM fun j=>(w.cells? 0 (a.add ((len+j)*P.cellsOf e)) (P.cellsOf e)).bind (DataW.trod enc P w 0 (fun _=>true) held bi e) with
    | none=>rw [h1] at h;simp [h2] at h
    | some rest=>
     rw [h1] at h;simp only [xX,h2,wz,yb,yk] at h;obtain ⟨rfl,rfl⟩:=h;have hIH:=fun cs d ps h=>IH e cs d ps f3 h
     rw [yap] at h1 h2;obtain ⟨k1,k2,k3,k4,k5⟩:=O3 (af:=af) (m:=m) (S:=S) ej hIH len 0 iX h1;have hrl:rest.length=cap-len:=by rw [JY h2];simp
     have iy:cap≠0->a.spot=none:=by
      intro Wa;rcases xe len with h0 | h0
      ·subst h0;simp only [yh,ybV] at h2;obtain ⟨_,_,_,_,q5⟩:=O3 (af:=af) (m:=m) (S:=S) ej hIH cap 0 rest h2;exact (q5 (by omega)).resolve_right (by omega)
      ·exact (k5 h0).resolve_right (by omega)
     simp only [cD,hu,xt];refine ⟨?_,by simp [aI,bh],by rw [yj f1];rfl⟩
     simp only [au];refine ⟨_,_,rfl,?_,rfl⟩;simp only [ah];by_cases Wa:cap=0
     ·subst Wa;have iP:len=0:=by omega
      subst iP;have he:iX=[]:=yD k4;subst he;exact .inr ⟨a,rfl,rfl,rfl⟩
     ·obtain ⟨b,o,sp⟩:=a;have iy:=iy Wa;simp only at iy;subst iy;refine .inl ⟨b,o,cap,by rw [k4],by omega,fun hx=>?_,?_,k2,by simpa using k1⟩
      ·have:rest.length=0:=by simpa using hx
       omega
      ·generalize hg:((iX.map (·.1)).flatMap fun x=>cD P n e x)=l at k1
       cases l with
       | nil=>exact .inl rfl
       | cons c l=>exact .inr (hS b (aps k1))
  ·rename_i qW x1 I5 fs hu;simp only [hu] at hf
   split at h
   case isFalse=>cases h
   rename_i hlen
   cases h1:fs.toList.mapM fun f=>DataW.trod enc P w 0 (fun _=>true) held bi f.type ((qW.drop f.offset).take (P.cellsOf f.type)) with
   | none=>rw [h1] at h;simp at h
   | some xs=>
    rw [h1] at h;simp only [wz,yb,yk] at h;obtain ⟨rfl,rfl⟩:=h;obtain ⟨k1,k2⟩:=Zn hlen (fun t cs d ps hf h=>IH t cs d ps hf h) fs.toList 0 xs hf h1;simp only [cD,hu];exact ⟨by simpa using k1,k2,hlen⟩
  ·rename_i qW x1 I5 k e hu;simp only [hu,yf] at hf;obtain ⟨f1,f2⟩:=hf;have f1:=yj f1
   split at h
   case isFalse=>cases h
   rename_i hlen
   cases h1:(wZ k).mapM fun i=>DataW.trod enc P w 0 (fun _=>true) held bi e ((qW.drop (i*P.cellsOf e)).take (P.cellsOf e)) with
   | none=>rw [h1] at h;simp at h
   | some xs=>
    rw [h1] at h;simp only [wz,yb,yk] at h;obtain ⟨rfl,rfl⟩:=h;rw [yap] at h1;obtain ⟨k1,k2⟩:=ael (af:=af) (m:=m) (S:=S) (fun cs d ps h=>IH e cs d ps f2 h) k 0 xs h1 (by rw [hlen,f1];simp)
    simp only [cD,hu];exact ⟨by simpa using k1,k2,hlen⟩
  all_goals first
   | (cases h;done)
   | (simp_all;done)
def kh (P:y8) (n:Nat) (t:yx) (d:xJ H):AV:=
 match P.underlying t with
 | some (.struct _) | some (.array _ _)=> .agg (cD P n t d)
 | _=>(cD P n t d).headD .undef
def arp (hS:∀b,b<w.heap.size->S b) {n base:Nat} {t:yx} {v:yg} {d:xJ H} {ps:List wq} (hf:flat P n t=true) (h:DataW.Trod enc P w 0 (fun _=>true) held t v d ps)
  (hv:Value.okWide P w .any base t v):ah af m S w (kh P n t d) v/\bh (kh P n t d)=true:=by
 obtain ⟨bi,h⟩:=h;obtain ⟨h1,h2,h3⟩:=aaU (af:=af) (m:=m) hS n bi t _ d ps hf h;have one:v.cells=#[v]->(∀fs,P.underlying t≠some (.struct fs))->(∀k e,P.underlying t≠some (.array k e))->ah af m S w (kh P n t d) v/\bh (kh P n t d)=true:=by
  intro hc Eg hna;have e:kh P n t d=(cD P n t d).headD .undef:=by
   unfold kh
   grind
  rw [e];rw [hc] at h1;generalize cD P n t d=l at h1 h2
  cases l with
  | nil=>simp [au] at h1
  | cons x l=>
   simp only [au] at h1;simp only [aI,yf] at h2
   grind
 cases n with
 | zero=>simp [flat] at hf
 | succ n=>
  unfold Value.okWide at hv;simp only [flat] at hf
  cases hu:P.underlying t with
  | none=>simp [hu] at hf
  | some ty=>
   rw [hu] at hv hf;cases ty<;>simp only [yC] at hf hv
   case struct fs=>
    obtain ⟨cs,rfl,_,_⟩:=hv;have e:kh P (n+1) t d= .agg (cD P (n+1) t d):=by simp only [kh,hu]
    rw [e];exact ⟨by simp only [ah];exact ⟨cs,rfl,h1⟩,by simpa only [bh] using h2⟩
   case array k e=>
    obtain ⟨cs,rfl,_,_⟩:=hv;have e:kh P (n+1) t d= .agg (cD P (n+1) t d):=by simp only [kh,hu]
    rw [e];exact ⟨by simp only [ah];exact ⟨cs,rfl,h1⟩,by simpa only [bh] using h2⟩
   all_goals
    refine one ?_ (by simp [hu]) (by simp [hu])
    cases v with
    | agg cs=>exfalso;simp only [Cell.okWide,Cell.ok,hu] at hv
    | _=>rfl
def rQ (P:y8) (n:Nat):List yx->List (xJ H)->List AV
 | t::ts,d::ds=>kh P n t d::rQ P n ts ds
 | _,_=>[]
def aaV (hS:∀b,b<w.heap.size->S b) {n base:Nat}:∀{ts:List yx} {vs:List yg} {ds:List (xJ H)} {ps:List wq},ts.all (flat P n)=true->DataW.TrodAll enc P w 0 (fun _=>true) held ts vs ds ps->
  (∀(j:Nat) t v,ts[j]? =some t->vs[j]? =some v->Value.okWide P w .any base t v)->au af m S w (rQ P n ts ds) vs/\aI (rQ P n ts ds)=true
 | [],[],[],_,_,_,_=>by simp [rQ,au,aI]
 | t::ts,v::vs,d::ds,ps,hf,h,hv=>by
  simp only [ybv,yf] at hf;obtain ⟨p,q,h1,h2,_⟩:=h;obtain ⟨a1,a2⟩:=arp (af:=af) (m:=m) hS hf.1 h1 (hv 0 t v rfl rfl);obtain ⟨b1,b2⟩:=aaV hS hf.2 h2 (fun j t v h1 h2=>hv (j+1) t v h1 h2);simp only [rQ,au,aI,yf]
  grind
 | [],_::_,_,_,_,h,_=>by simp [DataW.TrodAll] at h
 | [],[],_::_,_,_,h,_=>by simp [DataW.TrodAll] at h
 | _::_,[],_,_,_,h,_=>by simp [DataW.TrodAll] at h
 | _::_,_::_,[],_,_,h,_=>by simp [DataW.TrodAll] at h
end
end
section
open Go
section
variable {H:Type} {enc:yx×yg->H} {P:y8} {w w':yi} {held:Bool} {sp:Nat->Bool}
def amp (hs:∀b,b<w.heap.size->w'.heap[b]? =w.heap[b]?) {a:vY} {u:yg} (h:w.cell? a=some u):w'.cell? a=some u:=by
 have hb:a.block<w.heap.size:=by
  unfold World.cell? at h
  cases hq:w.heap[a.block]? with
  | none=>simp [hq] at h
  | some o=>exact (xo.1 hq).1
 unfold World.cell? at h ⊢;rw [hs _ hb];exact h
def alR (hs:∀b,b<w.heap.size->w'.heap[b]? =w.heap[b]?) {base:Nat} {a:vY} {n:Nat} {us:List yg} (h:w.cells? base a n=some us):w'.cells? base a n=some us:=by
 unfold World.cells? at h ⊢
 split at h
 ·rename_i hb;rw [yG hb];exact mapM_carry h (fun x y _ _ hx=>amp hs hx)
 ·cases h
def arq {a:vY} {n:Nat} (h:0<n):MemPlace.cell a.block (a.off+0)∈MemPlace.row a n:=by
 unfold MemPlace.row;exact List.mem_map.2 ⟨0,List.mem_range.2 h,rfl⟩
def Zo (hs:∀b,b<w.heap.size->w'.heap[b]? =w.heap[b]?):∀(n bi:Nat) (t:yx) (cs:List yg) (d:xJ H) (ps:List wq),flat P n t=true->DataW.trod enc P w 0 (fun _=>true) held bi t cs=some (d,ps)->
  (∀p,p∈ps->sp p.block=true)->DataW.trod enc P w' 0 sp held bi t cs=some (d,ps)
 | 0,bi,t,cs,d,ps,hf,h,hp=>by simp [flat] at hf
 | n+1,0,t,cs,d,ps,hf,h,hp=>by simp [DataW.trod] at h
 | n+1,bi+1,t,cs,d,ps,hf,h,hp=>by
  have IH:=Zo hs n bi;have elem:∀{e:yx} {a:vY} {y:xJ H×List wq},flat P n e=true->(w.cells? 0 a (P.cellsOf e)).bind (DataW.trod enc P w 0 (fun _=>true) held bi e)=some y->(∀p,p∈y.2->sp p.block=true)->
    (w'.cells? 0 a (P.cellsOf e)).bind (DataW.trod enc P w' 0 sp held bi e)=some y:=by
   intro e a y he h hq
   cases h1:w.cells? 0 a (P.cellsOf e) with
   | none=>simp [h1] at h
   | some us=>
    rw [h1] at h;rw [alR hs h1];simp only [xX] at h ⊢;obtain ⟨d,ps⟩:=y;exact IH e us d ps he h hq
  unfold DataW.trod at h ⊢;simp only [flat] at hf
  split at h
  ·exact h
  ·exact h
  ·exact h
  ·exact h
  ·rename_i hu;simp [hu] at hf
  ·rename_i hu;simp [hu] at hf
  ·exact h
  ·rename_i e a len cap hu;simp only [hu,yf] at hf;obtain ⟨f1,f2,f3⟩:=hf;have ej:=rK.1 f2;simp only at h ⊢
   split at h
   case isFalse=>cases h
   rename_i hc;rw [yG hc];simp only [xO] at h
   cases h1:(wZ len).mapM fun i=>(w.cells? 0 (a.add (i*P.cellsOf e)) (P.cellsOf e)).bind (DataW.trod enc P w 0 (fun _=>true) held bi e) with
   | none=>rw [h1] at h;simp at h
   | some iX=>
    cases h2:(wZ (cap-len)).mapM fun j=>(w.cells? 0 (a.add ((len+j)*P.cellsOf e)) (P.cellsOf e)).bind (DataW.trod enc P w 0 (fun _=>true) held bi e) with
    | none=>rw [h1] at h;simp [h2] at h
    | some rest=>
     rw [h1] at h;simp only [xX,h2,wz,yb,yk] at h;obtain ⟨rfl,rfl⟩:=h;have k1:((wZ len).mapM fun i=>(w'.cells? 0 (a.add (i*P.cellsOf e)) (P.cellsOf e)).bind (DataW.trod enc P w' 0 sp held bi e))=some iX:=
      mapM_carry h1 (fun x y _ hy hx=>elem f3 hx (fun p hq=>hp p (vG _ (uB.2 ⟨y,tf _ hy,hq⟩))))
     have k2:((wZ (cap-len)).mapM fun j=>(w'.cells? 0 (a.add ((len+j)*P.cellsOf e)) (P.cellsOf e)).bind (DataW.trod enc P w' 0 sp held bi e))=some rest:=
      mapM_carry h2 (fun x y _ hy hx=>elem f3 hx (fun p hq=>hp p (vG _ (uB.2 ⟨y,vG _ hy,hq⟩))))
     have hr:(if sp a.block=true then (wZ (cap-len)).mapM fun j=>(w'.cells? 0 (a.add ((len+j)*P.cellsOf e)) (P.cellsOf e)).bind (DataW.trod enc P w' 0 sp held bi e) else some [])=some rest:=by
      by_cases iy:sp a.block=true
      ·rw [yG iy];exact k2
      ·rw [yv iy];have h0:¬0<(iX.length+rest.length)*P.cellsOf e:=fun h0=>iy (hp _ (tf _ (arq h0)))
       have hz:iX.length+rest.length=0:=by
        rcases xe (iX.length+rest.length) with h | h
        ·exact h
        ·exact (h0 (wY h ej)).elim
       have:rest=[]:=yD (by omega)
       rw [this]
     rw [k1];simp only [xX];rw [hr];rfl
  ·rename_i qW x1 I5 fs hu;simp only [hu] at hf
   split at h
   case isFalse=>cases h
   rename_i hlen;rw [yG hlen]
   cases h1:fs.toList.mapM fun f=>DataW.trod enc P w 0 (fun _=>true) held bi f.type ((qW.drop f.offset).take (P.cellsOf f.type)) with
   | none=>rw [h1] at h;simp at h
   | some xs=>
    rw [h1] at h;simp only [wz,yb,yk] at h;obtain ⟨rfl,rfl⟩:=h;have mb:∀(r:List td) (o:Nat),CJ P (fun u=>flat P n u) r o (P.cellsOf t)=true->∀f,f∈r->flat P n f.type=true:=by
     intro r
     induction r with
     | nil=>intro o _ f hm;cases hm
     | cons g r ih=>
      intro o hq f hm;simp only [CJ,yf] at hq;rcases List.mem_cons.1 hm with rfl | hm
      ·exact hq.2.1
      ·exact ih _ hq.2.2 f hm
    have k1:(fs.toList.mapM fun f=>DataW.trod enc P w' 0 sp held bi f.type ((qW.drop f.offset).take (P.cellsOf f.type)))=some xs:=
     mapM_carry h1 (fun f y hm hy hx=>IH _ _ y.1 y.2 (mb _ _ hf f hm) hx (fun p hq=>hp p (uB.2 ⟨y,hy,hq⟩)))
    rw [k1];rfl
  ·rename_i qW x1 I5 k e hu;simp only [hu,yf] at hf
   split at h
   case isFalse=>cases h
   rename_i hlen;rw [yG hlen]
   cases h1:(wZ k).mapM fun i=>DataW.trod enc P w 0 (fun _=>true) held bi e ((qW.drop (i*P.cellsOf e)).take (P.cellsOf e)) with
   | none=>rw [h1] at h;simp at h
   | some xs=>
    rw [h1] at h;simp only [wz,yb,yk] at h;obtain ⟨rfl,rfl⟩:=h;have k1:((wZ k).mapM fun i=>DataW.trod enc P w' 0 sp held bi e ((qW.drop (i*P.cellsOf e)).take (P.cellsOf e)))=some xs:=
     mapM_carry h1 (fun i y _ hy hx=>IH _ _ y.1 y.2 hf.2 hx (fun p hq=>hp p (uB.2 ⟨y,hy,hq⟩)))
    rw [k1];rfl
  all_goals first
   | (cases h;done)
   | (simp_all;done)
def YB (hs:∀b,b<w.heap.size->w'.heap[b]? =w.heap[b]?) {n:Nat}:∀{ts:List yx} {vs:List yg} {ds:List (xJ H)} {ps:List wq},ts.all (flat P n)=true->DataW.TrodAll enc P w 0 (fun _=>true) held ts vs ds ps->
  (∀p,p∈ps->sp p.block=true)->DataW.TrodAll enc P w' 0 sp held ts vs ds ps
 | [],[],[],ps,_,h,_=>by simpa only [DataW.TrodAll] using h
 | t::ts,v::vs,d::ds,ps,hf,h,hp=>by
  simp only [ybv,yf] at hf;obtain ⟨p,q,⟨bi,h1⟩,h2,rfl⟩:=h;exact ⟨p,q,⟨bi,Zo hs n bi t _ d p hf.1 h1 (fun x hx=>hp x (tf _ hx))⟩,YB hs hf.2 h2 (fun x hx=>hp x (vG _ hx)),rfl⟩
 | [],_::_,_,_,_,h,_=>by simp [DataW.TrodAll] at h
 | [],[],_::_,_,_,h,_=>by simp [DataW.TrodAll] at h
 | _::_,[],_,_,_,h,_=>by simp [DataW.TrodAll] at h
 | _::_,_::_,[],_,_,h,_=>by simp [DataW.TrodAll] at h
end
end
section
open Go Go.ChangeShapes Go.WideShapes
section
variable {H:Type} {enc:yx×yg->H} {P:y8} {W W':yi}
def anz (hc:Calm W W') (may:wq->Prop):W.keptBut W' may:=by
 refine ⟨hc.os,hc.output,fun i hi=>?_⟩;rw [hc.same i hi]
 cases hq:W.heap[i]? with
 | none=>rfl
 | some o=>cases o<;>simp
def alS (hc:Calm W W') {b off:Nat} (hb:b<W.heap.size):W'.frozen? ⟨b,off,none⟩=W.frozen? ⟨b,off,none⟩:=by
 unfold World.frozen?;simp only;rw [hc.same b hb]
def apt {fn:Func} {s:ybW} {apart fresh handsOn again:Bool} {args:Array yg} {ds gs:List (xJ H)} {before:List wq} {n:Nat} {tb:yx}
  (hW:DataW.Whole enc P fn.params.toList s.vars apart W args.toList ds gs before) (hv:s.vars=[]) (K8:fn.params.toList.all (flat P n)=true) (hc:Calm W W')
  (jS:s.fn H (ds++gs)={results:=[.lit (.bool true)],args:=ds}) (DW:fn.resultTypes=#[tb]) (jC:P.underlying tb=some .bool):
  s.post enc P fn apart fresh handsOn again W args (.bool true) W':=by
 have aG:=hW.lt;have hW0:=hW;obtain ⟨p,q,hA,hV,hpq,hz,hn⟩:=hW;rw [hv] at hV;have hq:gs=[]/\q=[]:=by
  cases gs with
  | nil=>exact ⟨rfl,by simpa only [DataW.TrodVars] using hV⟩
  | cons g gs=>simp [DataW.TrodVars] at hV
 obtain ⟨rfl,rfl⟩:=hq;have hbp:before=p:=by rw [hpq];simp
 subst hbp;have fy:∀sp:Nat->Bool,(∀p∈before,sp p.block=true)->DataW.TrodAll enc P W' 0 sp true fn.params.toList args.toList ds before:=fun sp h=>YB hc.same K8 hA h
 have agI:∀(b:Nat) (sp:Nat->Bool) (hd:Bool),DataW.TrodAll enc P W' b sp hd fn.resultTypes.toList ((Value.bool true).resultList fn.resultTypes.size) [.lit (.bool true)] []:=by
  intro b sp hd;rw [DW];refine ⟨[],[],⟨1,?_⟩,rfl,rfl⟩;simp [DataW.trod,jC,Value.cells]
 have hold:∀p∈before,(fun b=>decide (b<W.heap.size)) p.block=true:=fun p hp=>by simpa using aG p hp
 have agJ:∀sp:Nat->Bool,DataW.TrodVars enc P W' sp s.vars ([]:List (xJ H)) []:=fun sp=>by rw [hv];rfl
 refine ⟨ds,[],before,[],before,[],hW0,by rw [jS];exact agI _ _ _,by rw [jS];exact fy _ hold,by rw [jS];exact agJ _,anz hc _,fun _=>?_⟩
 refine ⟨?_,[.lit (.bool true)]++ds,[],[]++before++[],⟨[]++before,[],trodAll_append (fy _ (fun _ _=>rfl)) (agI _ _ _),agJ _,rfl,?_,?_⟩,?_⟩
 ·intro j t r h1 h2;rw [DW] at h1 h2
  cases j with
  | zero=>
   simp only [List.getElem?_toArray,vE,yb] at h1;simp only [Value.resultList,List.size_toArray,yO,yR,xO,yh,vE,yb] at h2;subst h1;subst h2;simp [Value.okWide,jC,Cell.okWide,Cell.ok]
  | succ j=>simp at h1
 ·intro b off hp;have hp:MemPlace.cell b off∈before:=by simpa using hp
  rw [alS hc (b:=b) (aG _ hp)];exact hz b off hp
 ·intro ha
  have:=hn ha
  simpa using this
 ·intro p hp _;simpa using hp
def anA {O:a8} {n k:Nat} {fn:Func} {s:ybW} {apart fresh handsOn again:Bool} {base:Nat} {args:Array yg} {ds gs:List (xJ H)} {before:List wq} {tb:yx}
  (hp:dN O n (rQ O.P k fn.params.toList ds) (.bool true)) (Ay:O.w0=W) (jS:O.P.funcs[O.af n]? =some fn) (hb:fn.body.isSome=true) (q8:fn.name≠ "runtime.NumGoroutine")
  (aH:∀(j:Nat) t v,fn.params[j]? =some t->args[j]? =some v->Value.okWide O.P W .any base t v)
  (hW:DataW.Whole enc O.P fn.params.toList s.vars apart W args.toList ds gs before) (hv:s.vars=[]) (K8:fn.params.toList.all (flat O.P k)=true)
  (hfs:s.fn H (ds++gs)={results:=[.lit (.bool true)],args:=ds}) (DW:fn.resultTypes=#[tb]) (jC:O.P.underlying tb=some .bool):
  Calls O.P (O.af n) args W fun e W'=>∃v,e= .returned v/\s.post enc O.P fn apart fresh handsOn again W args v W':=by
 have hA:=hW;obtain ⟨p,q,hA,_⟩:=hA;obtain ⟨h1,h2⟩:=aaV (af:=O.af) (m:=eB) (S:=fun b=>b<W.heap.size) (fun b hb=>hb) K8 hA (fun j t v a b=>aH j t v (by simpa using a) (by simpa using b));have hi:=hp W (fun b=>b<W.heap.size) args ⟨fun b _=>by rw [Ay],by rw [Ay];exact yB _⟩ (fun b hb=>hb) h1 h2
 have key:∀e W',aaD O W (fun b=>b<W.heap.size) (.bool true) e W'->∃v,e= .returned v/\s.post enc O.P fn apart fresh handsOn again W args v W':=by
  rintro e W' ⟨u,S',rfl,hc,_,_,_,hr⟩;simp only [lV,gE,ah] at hr;obtain ⟨_,_,hu,_⟩:=hr;subst hu;exact ⟨_,rfl,apt hW hv K8 hc hfs DW jC⟩
 rcases hi with ⟨_,hi⟩ | ⟨u,w',hi,_⟩
 ·exact callsIn_wide.1 (hi.mono key)
 ·rw [CQ jS hb q8] at hi;cases hi
end
end
namespace J1
open Go Go.Proofs
noncomputable def O (W:yi):a8:=⟨Tryz.prog,VE.az,sc lF.af,VE.prog,K5 lF.bT lF.hd,W⟩
def aaa {w:yi} {k:Nat} {os:Array Go.Obj}:Calm w (Go.Sort.grow (w.drewN k) os):=FP (Lib.below_grow w.heap.size w (yB _) k os)
def aaW {W w:yi} (h:Lib.TabIs Tryz.prog W "internal/strconv.uint64pow10" .u64 Lib.pow10Tab) (hg:zN (O W) w):Lib.TabIs Tryz.prog w "internal/strconv.uint64pow10" .u64 Lib.pow10Tab:=by
 unfold Lib.TabIs World.var? at h ⊢
 cases hn:Tryz.prog.globalNamed "internal/strconv.uint64pow10" with
 | none=>rw [hn] at h;exact h
 | some g=>
  rw [hn] at h;simp only [xX] at h ⊢;have hb:g<W.heap.size:=by
   cases hq:W.heap[g]? with
   | none=>rw [hq] at h;cases h
   | some o=>exact (xo.1 hq).1
  rw [hg.1 g hb];exact h
def ay9:∀args w,(callFunc 123 args).run Tryz.prog w= .ok (.enter 123 args) w:=enters_of Tryz.func123 (by kernel_rfl) rfl
def aza:∀args w,(callFunc 122 args).run Tryz.prog w= .ok (.enter 122 args) w:=enters_of Tryz.func122 (by kernel_rfl) rfl
def azb:∀args w,(callFunc 168 args).run Tryz.prog w= .ok (.enter 168 args) w:=enters_of Tryz.func168 (by kernel_rfl) rfl
def azc:∀args w,(callFunc 170 args).run Tryz.prog w= .ok (.enter 170 args) w:=enters_of Tryz.func170 (by kernel_rfl) rfl
def azd:∀args w,(callFunc 171 args).run Tryz.prog w= .ok (.enter 171 args) w:=enters_of Tryz.func171 (by kernel_rfl) rfl
def aze:∀args w,(callFunc 186 args).run Tryz.prog w= .ok (.enter 186 args) w:=enters_of Tryz.func186 (by kernel_rfl) rfl
def azf:∀args w,(callFunc 180 args).run Tryz.prog w= .ok (.enter 180 args) w:=enters_of Tryz.func180 (by kernel_rfl) rfl
def azg:∀args w,(callFunc 181 args).run Tryz.prog w= .ok (.enter 181 args) w:=enters_of Tryz.func181 (by kernel_rfl) rfl
def azh:∀args w,(callFunc 182 args).run Tryz.prog w= .ok (.enter 182 args) w:=enters_of Tryz.func182 (by kernel_rfl) rfl
def azi:∀args w,(callFunc 179 args).run Tryz.prog w= .ok (.enter 179 args) w:=enters_of Tryz.func179 (by kernel_rfl) rfl
def azj:∀args w,(callFunc 204 args).run Tryz.prog w= .ok (.enter 204 args) w:=enters_of Tryz.func204 (by kernel_rfl) rfl
def azk:∀args w,(callFunc 131 args).run Tryz.prog w= .ok (.enter 131 args) w:=enters_of Tryz.func131 (by kernel_rfl) rfl
def ars (b:Nat) (w:yi):(callFunc 191 #[.float .f64 b]).run Tryz.prog w= .ok (.value (.int .u64 b)) w:=by
 rw [run_callFunc_extern Tryz.func191 (by kernel_rfl) (by kernel_rfl) (by kernel_rfl) (e:=Extern.MathFloatBits.float64bits) (by kernel_rfl)];rfl
def alT (b:Nat) (w:yi):(callFunc 194 #[.int .u64 b]).run Tryz.prog w= .ok (.value (.float .f64 b)) w:=by
 rw [run_callFunc_extern Tryz.func194 (by kernel_rfl) (by kernel_rfl) (by kernel_rfl) (e:=Extern.MathFloatBits.float64frombits) (by kernel_rfl)];rfl
def axW (W:yi) (n:Nat) (sp:List AV->Option AV):Prop:=∀ao r,sp ao=some r->dN (O W) n ao r
section
variable {W:yi} {m:Int} (hm:W.cell? ⟨3,0,none⟩=some (.int .i64 m)) (ht:Lib.TabIs Tryz.prog W "internal/strconv.uint64pow10" .u64 Lib.pow10Tab)
include hm ht
theorem au0:ahK.kL (axW W):=
 (Tr.iW (aph (O:=O W) (f:=182) (by rfl) azh (fun s z w hl h=>(Tryz.strconv_Atoi s z hl h w).mono fun _ _ ⟨h1,t,h2⟩=>⟨h1,h2▸FP (Lib.bytesWorld_below _ _ _)⟩))
  (Tr.iW (amn (O:=O W) (f:=171) (by rfl) azd Tryz.strings_Repeat)
  (Tr.iW (apg (O:=O W) (f:=168) (by rfl) azb (fun z w h0 h1 hg=>(Tryz.strconv_Itoa z h0 h1 w (aaW ht hg)).mono fun _ _ ⟨h1,k,os,h2⟩=>⟨h1,h2▸aaa⟩))
  (Tr.iW (ali (O:=O W) (f:=122) (by rfl) aza Tryz.strings_CutPrefix)
  (Tr.iW (aq8 (O:=O W) (f:=123) (by rfl) ay9 (a:=⟨3,0,none⟩) (m:=m) hm (fun s sep w hs hc=>Tryz.strings_Cut s sep m w hs hc))
  Tr.ib Tr.ib) Tr.ib) (Tr.iW (alg (O:=O W) (f:=170) (by rfl) azc (fun z w hz hg=>(Tryz.ak8 z hz w (aaW ht hg)).mono fun _ _ ⟨h1,k,os,h2⟩=>⟨h1,h2▸aaa⟩))
  Tr.ib Tr.ib)) (Tr.iW (alj (O:=O W) (f:=180) (by rfl) azf Tryz.strings_HasPrefix)
  (Tr.iW (anq (O:=O W) (f:=186) (by rfl) aze (fun x y w hx hy=>Tryz.bits_Mul64 x y hx hy w))
  Tr.ib Tr.ib) (Tr.iW (alf (O:=O W) (f:=181) (by rfl) azg Tryz.strings_TrimPrefix)
  Tr.ib Tr.ib))) (Tr.iW (ant (O:=O W) (f:=226) (by rfl) (fun x y b w h=>Tryz.bits_Sub64 x y b h w))
  (Tr.iW (api (O:=O W) (f:=204) (by rfl) azj (fun x w h0 h1=>Tryz.bits_LeadingZeros64 x w h0 h1))
  (Tr.iW (apf (O:=O W) (f:=179) (by rfl) azi (fun s cs w hs Aq ha=>Tryz.alw s cs w hs Aq ha))
  Tr.ib Tr.ib) (Tr.iW (ans (O:=O W) (f:=224) (by rfl) (fun x y c w h=>Tryz.bits_Add64 x y c h w))
  Tr.ib Tr.ib)) (Tr.iW (alG (O:=O W) (f:=191) (by rfl) ars)
  (Tr.iW (anr (O:=O W) (f:=131) (by rfl) azk (fun x w h0 h1=>Tryz.bits_Len64 x w h0 h1))
  Tr.ib Tr.ib) (Tr.iW (ald (O:=O W) (f:=194) (by rfl) alT)
  Tr.ib Tr.ib))))
theorem art:ef (O W) where
 hint n f g h:=Tr.A3 (p:=fun f g=>sc lF.af g=f) (OJ lF.atw) h
 mixed:=by kernel_rfl
 prog n F h:=Tr.A3 lF.arn h
 az n sp ao r h hs:=Tr.A3 (au0 hm ht) h ao r hs
 Dp n sp hp ct ao v ap aX h:=by cases h
end
end J1
def fG:List Int->Int
 | []=>0
 | a::r=>if a=0 then fG r else a
def alU {l:List Int} {i:Nat} (h:i<l.length):fG (l.drop i)=if l[i]=0 then fG (l.drop (i+1)) else l[i]:=by
 rw [yX h,fG]
def mL (lo hi:Int):List Int->Bool
 | []=>false
 | a::r=>if a<lo\/hi<a then true else mL lo hi r
def aaX {lo hi:Int} {l:List Int} (h:mL lo hi l=false):∀i (fB:i<l.length),lo<=l[i]/\l[i]<=hi:=by
 induction l with
 | nil=>intro i fB;exact absurd fB (Nat.not_lt_zero _)
 | cons a r ih=>
  simp only [mL] at h
  grind
def anB {lo hi:Int} {l:List Int} (h:mL lo hi l=false):∀i,mL lo hi (l.take i)=false:=by
 induction l with
 | nil=>intro i;simp [mL]
 | cons a r ih=>
  intro i;simp only [mL] at h
  split at h
  ·grind
  ·rename_i hc
   cases i with
   | zero=>simp [mL]
   | succ i=>simp only [List.take_succ_cons,mL,hc,xj,ih h i]
def dv:List Int->Nat
 | []=>0
 | a::r=>a.toNat+1000000000*dv r
def kN:∀(a b:List Int),dv (a++b)=dv a+1000000000^a.length*dv b
 | [],b=>by simp [dv]
 | x::a,b=>by
  simp only [xh,dv,kN a b,yO,yZ,xr]
  grind
def nL {l:List Int} (i:Nat):dv (l.take (i+1))=dv (l.take i)+1000000000^i*(l.getD i 0).toNat:=by
 by_cases h:i<l.length
 ·rw [wD h,kN,yW,xA (by omega)];simp [dv,xG,wx h]
 ·rw [yQ (by omega),yQ (by omega)]
  grind
abbrev dg (l:List Int):Prop:=mL 0 999999999 l=false
def fW {a b:List Int}:dg (a++b)↔dg a/\dg b:=by
 induction a with
 | nil=>simp [dg,mL]
 | cons x a ih=>
  simp only [dg,xh,mL] at ih ⊢
  grind
def iV {x:Int}:dg [x]↔0<=x/\x<1000000000:=by
 simp only [dg,mL]
 grind
def gA {l:List Int} (h:dg l) (i:Nat):0<=l.getD i 0/\l.getD i 0<1000000000:=by
 by_cases hi:i<l.length
 ·have:=aaX h i hi
  grind
 ·grind
def A7 {l:List Int} (h:dg l) (i:Nat):dg (l.take i):=anB h i
def iY:∀{l:List Int},dg l->dv l<1000000000^l.length
 | [],_=>by simp [dv]
 | x::l,h=>by
  have h':dg ([x]++l):=h;obtain ⟨h1,h2⟩:=fW.1 h';have h1:=iV.1 h1
  have:=iY h2
  simp only [dv,yO,yZ];omega
def dD:List Int->List Int
 | []=>[]
 | a::r=>match dD r with | []=>if a=0 then [] else [a] | t::q=>a::t::q
def FR:∀l:List Int,dD (l++[0])=dD l
 | []=>rfl
 | a::l=>by simp only [xh,dD,FR l]
def JN {a:Int} (h:a≠0):∀l:List Int,dD (l++[a])=l++[a]
 | []=>by simp [dD,h]
 | b::l=>by
  simp only [xh,dD,JN h l]
  cases hq:l++[a] with
  | nil=>simp at hq
  | cons t q=>rfl
def rF:∀l:List Int,dv (dD l)=dv l
 | []=>rfl
 | a::l=>by
  have ih:=rF l;simp only [dD,dv]
  split
  ·rename_i h;rw [h] at ih
   split
   ·rename_i h0;subst h0;simp [dv,<-ih]
   ·simp [dv,<-ih]
  ·rename_i t q h;rw [h] at ih;simp only [dv] at ih ⊢;omega
def zn:∀{l:List Int},dg l->dg (dD l)
 | [],_=>rfl
 | a::l,h=>by
  have h':dg ([a]++l):=h;obtain ⟨h1,h2⟩:=fW.1 h';have ih:=zn h2;simp only [dD]
  split
  ·grind
  ·rename_i t q hq;rw [hq] at ih
   exact (fW (a:=[a]) (b:=t::q)).2 ⟨h1,ih⟩
def JZ:∀l:List Int,(dD l).length<=l.length
 | []=>yB _
 | a::l=>by
  have ih:=JZ l;simp only [dD]
  grind
def snoc {α:Type} (l:List α):l=[]\/∃m a,l=m++[a]:=by
 rcases List.eq_nil_or_concat l with h | ⟨m,a,h⟩
 ·grind
 ·grind
def alV:∀(n:Nat) (l:List Int),l.length=n->dD (dD l)=dD l:=by
 intro n
 induction n with
 | zero=>intro l h;rw [yD h];rfl
 | succ n ih=>
  intro l h;rcases snoc l with rfl | ⟨m,a,rfl⟩
  ·rfl
  ·by_cases h0:a=0
   ·subst h0;rw [FR]
    grind
   ·rw [JN h0,JN h0]
def amq (l:List Int):dD (dD l)=dD l:=alV _ l rfl
abbrev nz (l:List Int):Prop:=dD l=l
def CV (l:List Int):nz (dD l):=amq l
def K9 {l:List Int} (h:nz l) (hd:dg l) (h0:l≠[]):1000000000^(l.length-1)<=dv l:=by
 rcases snoc l with rfl | ⟨m,a,rfl⟩
 ·grind
 ·by_cases ha:a=0
  ·subst ha
   have:=JZ m
   have e:=congrArg tG h;rw [FR] at e
   grind
  ·rw [kN]
   have:=iV.1 (fW.1 hd).2
   simp only [dv,y5,uS,ug,xp,yV];have h1:1<=a.toNat:=by omega
   have:=yS (1000000000^m.length) h1
   omega
def PK {l:List Int} (h:nz l) (hd:dg l) (h0:dv l=0):l=[]:=by
 by_cases hl:l=[]
 ·grind
 ·have:=K9 h hd hl
  grind
def Qb {a b:List Int} (ha:dg a) (hb:nz b) (bC:dg b) (h:a.length<b.length):dv a<dv b:=by
 have h1:=iY ha;have h2:=K9 hb bC (fun e=>by subst e;simp at h);have h3:1000000000^a.length<=1000000000^(b.length-1):=yT (by decide) (by omega);omega
def dA (m n:Nat):Int:=if m<n then -1 else if n<m then 1 else 0
def aft {l:List Int} {i:Nat} (h:i<l.length):dv l=dv (l.take i)+1000000000^i*(l[i].toNat+1000000000*dv (l.drop (i+1))):=by
 have e:l=l.take i++l[i]::l.drop (i+1):=by simp_all
 have:dv l=dv (l.take i++l[i]::l.drop (i+1)):=congrArg dv e
 rw [this,kN,yW,xA (by omega)];rfl
def aem {a b:List Int} {i:Nat} (ha:dg a) (hb:dg b) (h1:i<a.length) (h2:i<b.length) (he:a.drop (i+1)=b.drop (i+1)) (h:a[i]<b[i]):dv a<dv b:=by
 rw [aft h1,aft h2,he];have hl:=iY (A7 ha i);have g1:=aaX ha i h1;have h3:a[i].toNat+1000000000*dv (b.drop (i+1))+1<=b[i].toNat+1000000000*dv (b.drop (i+1)):=by omega
 have:=yS (1000000000^i) h3
 grind
def Qc:∀{l:List Int} {j:Nat} {x:Int},j<l.length->dv (l.set j x)+1000000000^j*(l.getD j 0).toNat=dv l+1000000000^j*x.toNat
 | [],j,x,h=>by simp at h
 | a::l,0,x,_=>by simp [dv];omega
 | a::l,j+1,x,h=>by
  have ih:=Qc (l:=l) (j:=j) (x:=x) (by simpa using h);simp only [yaE,dv,yax,yZ]
  grind
def KL {l:List Int} (h:dg l) {j:Nat} {x:Int} (hx:0<=x/\x<1000000000):dg (l.set j x):=by
 by_cases hj:j<l.length
 ·rw [tv,yG hj];have e:l=l.take (j+1)++l.drop (j+1):=(xR _ _).symm;have hd:dg (l.drop (j+1)):=by rw [e] at h;exact (fW.1 h).2
  exact fW.2 ⟨A7 h j,(fW (a:=[x]) (b:=l.drop (j+1))).2 ⟨iV.2 hx,hd⟩⟩
 ·rw [List.set_eq_of_length_le (by omega)];exact h
def aaY {l:List Int} {j m:Nat} {x:Int} (h:m≠j):(l.set j x).getD m 0=l.getD m 0:=by grind
def apu {V0 V V' p q A X Y o c s:Nat} (hs:s=o+A*X+c) (bf:V'+p*q*o=V+p*q*(s%1000000000)) (hv:V+p*q*c=V0+p*(A*Y)):
  V'+p*(q*1000000000)*(s/1000000000)=V0+p*(A*(Y+q*X)):=by
 have e:=vH s 1000000000;have e2:p*q*s=p*q*(s%1000000000)+p*(q*1000000000)*(s/1000000000):=by
  conv=>lhs;rw [<-e]
  rw [xr,<-xd (p*q),<-xd p q]
 have e3:p*q*s=p*q*o+p*q*(A*X)+p*q*c:=by rw [hs,xr,xr]
 have e4:p*(A*(Y+q*X))=p*(A*Y)+p*q*(A*X):=by
  rw [xr,xr,xd p q,<-xd A q X,xg A q,xd q A X]
 omega
def aaZ (n:Nat):dv (yL n 0)=0:=by
 induction n with
 | zero=>rfl
 | succ n ih=>simp [vB,dv,ih]
def aa0 (n:Nat):dg (yL n 0):=by
 induction n with
 | zero=>rfl
 | succ n ih=>exact (fW (a:=[0]) (b:=yL n 0)).2 ⟨by decide,ih⟩
def bv (b:Nat):List Nat->Nat
 | []=>0
 | a::r=>a+b*bv b r
def lo (b:Nat) (l:List Nat):Prop:=∀x,x∈l->x<b
section
variable {b:Nat}
def zI (a:Nat):bv b [a]=a:=by simp [bv]
def pY:∀(l m:List Nat),bv b (l++m)=bv b l+b^l.length*bv b m
 | [],m=>by simp [bv]
 | x::l,m=>by
  simp only [xh,bv,pY l m,yO,yZ,xr]
  grind
def gd {l:List Nat} {i:Nat} (h:i<l.length):l[i]=l.getD i 0:=by simp_all
def Qd {l:List Nat} {i:Nat} (h:l.length<=i):l.getD i 0=0:=by simp_all
def iH {l:List Nat} (i:Nat):bv b (l.take (i+1))=bv b (l.take i)+b^i*l.getD i 0:=by
 by_cases h:i<l.length
 ·rw [wD h,pY,yW,xA (by omega),zI,gd h]
 ·rw [yQ (by omega),yQ (by omega),Qd (by omega),xp,yV]
def KM:lo b []:=fun _ h=>by simp at h
def J0 {l m:List Nat}:lo b (l++m)↔lo b l/\lo b m:=by
 constructor
 ·intro h;exact ⟨fun x hx=>h x (by simp [hx]),fun x hx=>h x (by simp [hx])⟩
 ·rintro ⟨h1,h2⟩ x hx;rcases wy.1 hx with h | h
  ·exact h1 x h
  ·exact h2 x h
def C9 {x:Nat}:lo b [x]↔x<b:=by simp [lo]
def fY (hb:0<b) {l:List Nat} (h:lo b l) (i:Nat):l.getD i 0<b:=by
 by_cases hi:i<l.length
 ·rw [<-gd hi];exact h _ (List.getElem_mem hi)
 ·grind
def zA {l:List Nat} (h:lo b l) (i:Nat):lo b (l.take i):=fun x hx=>h x (List.mem_of_mem_take hx)
def aen {l:List Nat} (h:lo b l) (i:Nat):lo b (l.drop i):=fun x hx=>h x (List.mem_of_mem_drop hx)
def kW {l:List Nat} (h:lo b l) {i x:Nat} (hx:x<b):lo b (l.set i x):=fun y hy=>by
 rcases List.mem_or_eq_of_mem_set hy with h1 | h1
 ·exact h y h1
 ·omega
def Da (hb:0<b) (n:Nat):lo b (yL n 0):=fun x hx=>by
 grind
def Db (n:Nat):bv b (yL n 0)=0:=by
 induction n with
 | zero=>rfl
 | succ n ih=>simp [vB,bv,ih]
def A8 (n m:Nat):(yL n (0:Nat)).getD m 0=0:=by grind
def kZ:∀{l:List Nat},lo b l->bv b l<b^l.length
 | [],_=>by simp [bv]
 | x::l,h=>by
  have h1:=h x (by simp);have h2:=kZ (l:=l) (fun y hy=>h y (by simp [hy]));simp only [bv,yO,yZ,xg _ b]
  have:=yS b (show bv b l+1<=b^l.length from h2)
  grind
def mC:∀{l:List Nat} {i x:Nat},i<l.length->bv b (l.set i x)+b^i*l.getD i 0=bv b l+b^i*x
 | [],i,x,h=>by simp at h
 | a::l,0,x,_=>by simp [bv];omega
 | a::l,i+1,x,h=>by
  have ih:=mC (l:=l) (i:=i) (x:=x) (by simpa using h)
  have:=congrArg (fun t=>b*t) ih
  simp only [xr] at this;simp only [yaE,bv,yax,yZ,xg _ b,xd] at this ⊢;omega
def nM {l:List Nat} {i m x:Nat} (h:i≠m):(l.set i x).getD m 0=l.getD m 0:=by simp_all
def amr {l:List Nat} {i x:Nat} (h:i<l.length):(l.set i x).getD i 0=x:=by simp_all
def F9 (l:List Nat) (i:Nat) (h:i<=l.length):bv b l=bv b (l.take i)+b^i*bv b (l.drop i):=by
 have:=pY (b:=b) (l.take i) (l.drop i)
 simp_all
def dE:List Nat->List Nat
 | []=>[]
 | a::r=>match dE r with | []=>if a=0 then [] else [a] | t::q=>a::t::q
def JO:∀l:List Nat,dE (l++[0])=dE l
 | []=>rfl
 | a::l=>by simp only [xh,dE,JO l]
def CK {a:Nat} (h:a≠0):∀l:List Nat,dE (l++[a])=l++[a]
 | []=>by simp [dE,h]
 | b::l=>by
  simp only [xh,dE,CK h l]
  cases hq:l++[a] with
  | nil=>simp at hq
  | cons t q=>rfl
abbrev fT (l:List Nat):Prop:=dE l=l
def ams:∀(n:Nat) (l:List Nat),l.length=n->∃i,i<=n/\dE l=l.take i/\fT (l.take i)/\bv b (l.take i)=bv b l:=by
 intro n
 induction n with
 | zero=>intro l h;rw [yD h];exact ⟨0,yB _,rfl,rfl,rfl⟩
 | succ n ih=>
  intro l h;rcases snoc l with rfl | ⟨m,a,rfl⟩
  ·grind
  ·have hm:m.length=n:=by simp_all
   by_cases h0:a=0
   ·subst h0;obtain ⟨i,h1,h2,h3,h4⟩:=ih m hm;have e:(m++[0]).take i=m.take i:=by grind
    refine ⟨i,by omega,by rw [JO,h2,e],by rw [e];exact h3,?_⟩
    rw [e,h4,pY];simp [bv]
   ·have e:(m++[a]).take (n+1)=m++[a]:=yQ (by simp [hm]);exact ⟨n+1,yB _,by rw [e,CK h0],by rw [e];exact CK h0 m,by rw [e]⟩
def J3 (l:List Nat):∃i,i<=l.length/\dE l=l.take i/\fT (dE l)/\bv b (dE l)=bv b l:=by
 obtain ⟨i,h1,h2,h3,h4⟩:=ams (b:=b) l.length l rfl
 grind
def zo (l:List Nat):bv b (dE l)=bv b l:=by
 obtain ⟨_,_,_,_,h⟩:=J3 (b:=b) l;exact h
def zp (l:List Nat):fT (dE l):=by
 obtain ⟨_,_,_,h,_⟩:=J3 (b:=2) l;exact h
def zq {l:List Nat} (h:lo b l):lo b (dE l):=by
 obtain ⟨i,_,h2,_⟩:=J3 (b:=b) l;rw [h2];exact zA h i
def anC (l:List Nat):(dE l).length<=l.length:=by
 obtain ⟨i,_,h2,_⟩:=J3 (b:=2) l
 grind
def Kf {l:List Nat} (h:fT l) (h0:l≠[]):l.getD (l.length-1) 0≠0:=by
 rcases snoc l with rfl | ⟨m,a,rfl⟩
 ·grind
 ·intro ha
  have:a=0:=by
   grind
  subst this;have e:=congrArg tG h;rw [JO] at e
  have:=anC m
  grind
def Qe (hb:0<b) {l:List Nat} (h:fT l) (h0:l≠[]):b^(l.length-1)<=bv b l:=by
 rcases snoc l with rfl | ⟨m,a,rfl⟩
 ·grind
 ·have ha:=Kf h h0;simp [xG] at ha;rw [pY,zI];simp only [y5,uS,ug]
  have:=yS (b^m.length) (show 1<=a by omega)
  omega
def Kw (hb:1<b) {l m:List Nat} (hl:lo b l) (hm:fT m) (h:l.length<m.length):bv b l<bv b m:=by
 have h1:=kZ hl;have h2:=Qe (b:=b) (by omega) hm (fun e=>by subst e;simp at h);have h3:b^l.length<=b^(m.length-1):=yT (by omega) (by omega);omega
def aeo {l m:List Nat} (hl:lo b l) {i:Nat} (h1:i<l.length) (h2:i<m.length) (he:l.drop (i+1)=m.drop (i+1)) (h:l.getD i 0<m.getD i 0):bv b l<bv b m:=by
 rw [F9 l (i+1) (by omega),F9 m (i+1) (by omega),he,iH,iH]
 have:=kZ (zA hl i)
 have:=yS (b^i) (show l.getD i 0+1<=m.getD i 0 from h)
 grind
def anD (hb:1<b) {l:List Nat} {k:Nat} (h:fT l) (hk:bv b l<b^k):l.length<=k:=by
 by_cases h0:l=[]
 ·grind
 ·have h1:=Qe (b:=b) (by omega) h h0;have h2:b^(l.length-1)<b^k:=xB h1 hk
  have:=(Nat.pow_lt_pow_iff_right hb).1 h2
  omega
def Zp {V v1 v2 vr U u0 u1 u2 ur p t r:Nat} (hV:V=(v1*b+v2)*p+vr) (hU:U=((u0*b+u1)*b+u2)*p+ur) (hur:ur<p)
  (ht:t*v1+r=u0*b+u1) (h:r*b+u2<t*v2):U/V<=t-1:=by
 have h1:U<t*V:=by
  have e:t*((v1*b+v2)*p)=((t*v1)*b+t*v2)*p:=by
   grind
  have h2:((u0*b+u1)*b+u2)+1<=(t*v1)*b+t*v2:=by rw [<-ht,xS];omega
  have h3:=yU p h2;rw [hV,hU,xr,e]
  grind
 have pO:0<V:=by
  grind
 have:=(xy pO).2 h1
 omega
def aab {V v1 v2 vr U u0 u1 u2 ur p t r:Nat} (hb:0<b) (hV:V=(v1*b+v2)*p+vr) (I6:vr<p) (hU:U=((u0*b+u1)*b+u2)*p+ur) (eC:0<v1) (cC:v2<b) (jC:t<b)
  (ht:t*v1+r=u0*b+u1) (h:b<=r\/t*v2<=r*b+u2):t<=U/V+1:=by
 have h2:t*v2<=r*b+u2:=by
  rcases h with h | h
  ·have:=wa (ua jC) (ua cC)
   have:=yU b h
   omega
  ·exact h
 have h3:t*(v1*b+v2)<=(u0*b+u1)*b+u2:=by
  rw [xr,<-xd,<-ht,xS];omega
 have hp:0<p:=by omega
 have aGu:b<=v1*b:=Nat.le_mul_of_pos_left b eC;have pO:0<V:=by
  have:=wY (show 0<v1*b+v2 by omega) hp
  omega
 rcases xe t with h0 | h0
 ·grind
 ·obtain ⟨s,rfl⟩:∃s,t=s+1:=⟨t-1,by omega⟩;have h4:s*V<=U:=by
   have h5:V<=(v1*b+v2+1)*p:=by grind
   have h6:=yS s h5;have h7:s*(v1*b+v2+1)<=(s+1)*(v1*b+v2):=by
    grind
   have h8:=yU p (Nat.le_trans h7 h3)
   grind
  exact Nat.succ_le_succ ((ta pO).2 h4)
def Oz {V v1 v2 vr U u0 u1 u2 ur p:Nat} (hV:V=(v1*b+v2)*p+vr) (hU:U=((u0*b+u1)*b+u2)*p+ur) (hur:ur<p) (sS:u2<b) (eC:0<v1):U/V<=(u0*b+u1)/v1:=by
 by_cases pO:V=0
 ·grind
 ·refine (ta eC).2 ?_;have h1:=Nat.div_mul_le_self U V;generalize U/V=q at h1 ⊢;have h2:q*v1*(b*p)<=q*V:=by
   rw [hV,xd]
   grind
  have h3:U<(u0*b+u1+1)*(b*p):=by
   have:(u0*b+u1)*b+u2+1<=(u0*b+u1+1)*b:=by grind
   have:=yU p this
   grind
  have h4:q*v1*(b*p)<(u0*b+u1+1)*(b*p):=by omega
  have:=tV h4
  omega
def aac {V v1 v2 vr U u0 u1 u2 ur p:Nat} (hV:V=(v1*b+v2)*p+vr) (hU:U=((u0*b+u1)*b+u2)*p+ur) (I6:vr<p) (cC:v2<b) (h:U<b*V):u0<=v1:=by
 refine Nat.le_of_lt_succ ?_;have h1:V<(v1+1)*(b*p):=by
  have:v1*b+v2+1<=(v1+1)*b:=by grind
  have:=yU p this
  grind
 have h2:u0*(b*(b*p))<=U:=by
  grind
 have h3:=yS b (ua h1);have e:b*((v1+1)*(b*p))=(v1+1)*(b*(b*p)):=by grind
 rw [e] at h3;have h4:u0*(b*(b*p))<(v1+1)*(b*(b*p)):=xB h2 (yE h h3);exact tV h4
end
section
variable {P:aK} {L:Lib} {f:cm} {F:Nat->cm}
def Az (f:cm) (F:Nat->cm):Prop:=∀c s r,f c s=some r->∃n,F n c s=some r
def Mon (F:Nat->cm):Prop:=∀n m,n<=m->Le (F n) (F m)
def Jz (h:Az f F) (n:Nat) (ao:List AV) (r:AV) (hr:bG P L f n ao=some r):∃k,bG P L (F k) n ao=some r:=by
 unfold bG at hr ⊢
 cases hL:L.pure n with
 | some sp=>exact ⟨0,by simpa only [hL] using hr⟩
 | none=>
  simp only [hL] at hr ⊢
  cases hP:P n with
  | none=>simp [hP] at hr
  | some G=>
   simp only [hP] at hr ⊢
   cases hf:f G.body ⟨dR 0 ao,[],0,0⟩ with
   | none=>simp [hf] at hr
   | some q=>
    obtain ⟨k,hk⟩:=h _ _ _ hf
    grind
def OK (h:Az f F) (hp:Hp) (ct:Nat) (n:Nat) (ao:List AV) (r:AV×Hp×Nat) (hr:gY P L f hp ct n ao=some r):∃k,gY P L (F k) hp ct n ao=some r:=by
 unfold gY at hr ⊢
 cases hL:L.heap n with
 | some sp=>exact ⟨0,by simpa only [hL] using hr⟩
 | none=>
  simp only [hL] at hr ⊢
  cases hP:P n with
  | none=>simp [hP] at hr
  | some G=>
   simp only [hP] at hr ⊢
   cases hf:f G.body ⟨dR 0 ao,hp,ct,ct⟩ with
   | none=>simp [hf] at hr
   | some q=>
    obtain ⟨k,hk⟩:=h _ _ _ hf
    grind
def YW (h:Az f F) (hm:Mon F) (hp:Hp) (ct:Nat) (l:Nat) (xs:List AV) (r:AV×Hp×Nat) (hr:mu f hp ct l xs=some r):∃k,mu (F k) hp ct l xs=some r:=by
 have key:∃k,∀g,Le (F k) g->mu g hp ct l xs=some r:=by
  unfold mu at hr
  cases hl:aA hp l with
  | none=>simp [hl] at hr
  | some o=>
   split at hr
   ·rename_i tm ps cr body pe nj
    cases hb:p7 tm ps xs with
    | none=>simp [hb] at hr
    | some bU=>
     simp only [hb] at hr
     cases h1:f cr ⟨bU,hp,ct,ct⟩ with
     | none=>simp [h1] at hr
     | some q=>
      obtain ⟨k1,fC⟩:=h _ _ _ h1
      split at hr
      ·rename_i s1 Rh
       split at hr
       ·rename_i jd B8 Am Bx sI aht
        cases h2:f body ⟨s1.tm,bf s1.hp l (.lp jd B8 Am Bx 1 sI),s1.ct,s1.ct⟩ with
        | none=>simp [h2] at hr
        | some q2=>
         obtain ⟨k2,gU⟩:=h _ _ _ h2;refine ⟨max k1 k2,fun g hg=>?_⟩;have e1:=hg _ _ _ (hm k1 _ (vW k1 k2) _ _ _ fC);have e2:=hg _ _ _ (hm k2 _ (vK k1 k2) _ _ _ gU);unfold mu
         grind
       ·simp at hr
      ·simp at hr
   ·simp at hr
 obtain ⟨k,hk⟩:=key;exact ⟨k,hk _ (fun _ _ _ h=>h)⟩
def Zq (h:Az f F) (hm:Mon F) (hp:Hp) (ct:Nat) (m:Md) (fv:AV) (xs:List AV) (r:AV×Hp×Nat) (hr:ep P L f hp ct m fv xs=some r):∃k,ep P L (F k) hp ct m fv xs=some r:=by
 unfold ep at hr ⊢
 split at hr
 ·rename_i n first cap
  cases m with
  | pure=>
   cases hz:cA deep hp (first++(xs++cap)) with
   | none=>simp [hz] at hr
   | some q=>
    simp only [hz] at hr ⊢
    cases hc:bG P L f n q.1 with
    | none=>simp [hc] at hr
    | some u=>
     obtain ⟨k,hk⟩:=Jz h n q.1 u hc
     grind
  | own=>
   cases hz:cA deep hp (first++(xs++cap)) with
   | none=>simp [hz] at hr
   | some q=>
    simp only [hz] at hr ⊢
    cases hc:bG P L f n q.1 with
    | none=>simp [hc] at hr
    | some u=>
     obtain ⟨k,hk⟩:=Jz h n q.1 u hc
     grind
  | heap=>exact OK h _ _ _ _ _ hr
  | dyn=>
   cases hz:aI (first++(xs++cap)) with
   | true=>
    simp only [hz,yz] at hr ⊢
    cases hc:bG P L f n (first++(xs++cap)) with
    | none=>simp [hc] at hr
    | some u=>
     obtain ⟨k,hk⟩:=Jz h n _ u hc
     grind
   | false=>
    simp only [hz,yY] at hr ⊢;exact OK h _ _ _ _ _ hr
 ·split at hr
  ·exact YW h hm _ _ _ _ _ hr
  ·exact YW h hm _ _ _ _ _ hr
  ·simp at hr
 ·simp at hr
def apv (h:Az f F) (hm:Mon F) (tm:Env) (hp:Hp) (ct:Nat) (o:Op) (r:AV×Hp×Nat) (hr:a7 P L f tm hp ct o=some r):∃k,a7 P L (F k) tm hp ct o=some r:=by
 unfold a7 at hr ⊢
 split at hr
 ·exact Zq h hm _ _ _ _ _ _ hr
 ·rename_i rs fv xs
  cases hc:ep P L f hp ct .dyn (ay tm fv) (cW tm xs) with
  | none=>simp [hc] at hr
  | some q=>
   obtain ⟨k,hk⟩:=Zq h hm _ _ _ _ _ _ hc
   grind
 all_goals exact ⟨0,by simpa only using hr⟩
def O4 (h:Az f F) (hm:Mon F):∀(ops:List aZ) (s s':St),db P L f ops s=some s'->∃k,db P L (F k) ops s=some s'
 | [],s,s',hr=>⟨0,by simpa only [db] using hr⟩
 | ⟨d,gd,o⟩::r,s,s',hr=>by
  simp only [db] at hr ⊢
  split at hr
  ·rename_i hw
   cases ho:a7 P L f s.tm s.hp s.ct o with
   | none=>simp [ho] at hr
   | some q=>
    obtain ⟨k1,fC⟩:=apv h hm _ _ _ _ _ ho;simp only [ho] at hr;obtain ⟨k2,gU⟩:=O4 h hm r _ _ hr;refine ⟨max k1 k2,?_⟩;rw [Z4 (hm k1 _ (vW k1 k2)) _ _ _ _ _ fC];exact JJ (hm k2 _ (vK k1 k2)) r _ _ gU
  ·rename_i hw;exact O4 h hm r _ _ hr
  ·simp at hr
def AZ (h:Az f F) (hm:Mon F):∀(c:VC) (s:St) (r:Ex×St),bA P L f c s=some r->∃k,bA P L (F k) c s=some r
 | .skip,s,r,hr=>⟨0,by simpa only [bA] using hr⟩
 | .mY ops,s,r,hr=>by
  simp only [bA] at hr ⊢
  cases ho:db P L f ops s with
  | none=>simp [ho] at hr
  | some s'=>
   obtain ⟨k,hk⟩:=O4 h hm _ _ _ ho
   grind
 | .seq a b,s,r,hr=>by
  simp only [bA] at hr ⊢
  cases ha:bA P L f a s with
  | none=>simp [ha] at hr
  | some q=>
   obtain ⟨k1,fC⟩:=AZ h hm a s q ha;obtain ⟨ex,s1⟩:=q
   cases ex with
   | normal=>
    simp only [ha] at hr;obtain ⟨k2,gU⟩:=AZ h hm b s1 r hr;refine ⟨max k1 k2,?_⟩;rw [oP (hm k1 _ (vW k1 k2)) a s _ fC];exact oP (hm k2 _ (vK k1 k2)) b s1 r gU
   | ret=>exact ⟨k1,by rw [fC];simpa only [ha] using hr⟩
   | exit id=>exact ⟨k1,by rw [fC];simpa only [ha] using hr⟩
 | .cond x a b,s,r,hr=>by
  simp only [bA] at hr ⊢
  split at hr
  ·rename_i t ht
   cases t with
   | true=>simp only [yz] at hr ⊢;exact AZ h hm a s r hr
   | false=>simp only [yY] at hr ⊢;exact AZ h hm b s r hr
  ·simp at hr
 | .dj id a,s,r,hr=>by
  simp only [bA] at hr ⊢
  cases ha:bA P L f a s with
  | none=>simp [ha] at hr
  | some q=>
   obtain ⟨k,hk⟩:=AZ h hm a s q ha
   grind
 | .kp live,s,r,hr=>⟨0,by simpa only [bA] using hr⟩
 | .fz ts,s,r,hr=>⟨0,by simpa only [bA] using hr⟩
 | .loop live a,s,r,hr=>by
  simp only [bA] at hr ⊢
  cases ha:bA P L f a (aQ live s) with
  | none=>simp [ha] at hr
  | some q=>
   obtain ⟨k1,fC⟩:=AZ h hm a _ q ha;obtain ⟨ex,s1⟩:=q
   cases ex with
   | normal=>
    simp only [ha] at hr;obtain ⟨k2,gU⟩:=h _ _ _ hr;refine ⟨max k1 k2,?_⟩;rw [oP (hm k1 _ (vW k1 k2)) a _ _ fC];exact hm k2 _ (vK k1 k2) _ _ _ gU
   | ret=>exact ⟨k1,by rw [fC];simpa only [ha] using hr⟩
   | exit id=>exact ⟨k1,by rw [fC];simpa only [ha] using hr⟩
 | .rf fv ps cr body,s,r,hr=>by
  simp only [bA] at hr ⊢
  split at hr
  ·rename_i n first cap hx
   split at hr
   ·grind
   ·rename_i hL
    cases hc:gY P L f ((s.ct,.lp s.tm ps cr body 0 .none)::s.hp) (s.ct+1) n (first++(.fn (.y s.ct) [] []::cap)) with
    | none=>simp [hc] at hr
    | some q=>
     obtain ⟨k,hk⟩:=OK h _ _ _ _ _ hc
     grind
  ·simp at hr
 | .exit id,s,r,hr=>⟨0,by simpa only [bA] using hr⟩
 | .ret,s,r,hr=>⟨0,by simpa only [bA] using hr⟩
end
section
variable (P:aK) (L:Lib)
noncomputable def D:cm:=fun c s=>@dite _ (∃r n,ev P L n c s=some r) (Classical.propDecidable _) (fun h=>some h.choose) (fun _=>none)
variable {P L}
def aiz {c:VC} {s:St} {r:Ex×St} {n:Nat} (h:ev P L n c s=some r):D P L c s=some r:=by
 have hx:∃r n,ev P L n c s=some r:=⟨r,n,h⟩;unfold D;obtain ⟨m,hm⟩:=hx.choose_spec;have e1:=PI P L (vW n m) _ _ _ h;have e2:=PI P L (vK n m) _ _ _ hm
 grind
def Wb {c:VC} {s:St} {r:Ex×St} (h:D P L c s=some r):∃n,ev P L n c s=some r:=by
 unfold D at h;by_cases hx:∃r n,ev P L n c s=some r
 ·grind
 ·grind
def azl (n:Nat):Le (ev P L n) (D P L):=fun _ _ _ h=>aiz h
def agK:Az (D P L) (ev P L):=fun _ _ _ h=>Wb h
def au1:Mon (ev P L):=fun _ _ h=>PI P L h
def kD (c:VC) (s:St):D P L c s=bA P L (D P L) c s:=by
 cases h:D P L c s with
 | some r=>
  obtain ⟨n,hn⟩:=Wb h
  cases n with
  | zero=>rw [Gk] at hn;cases hn
  | succ n=>rw [Gl] at hn;exact (oP (azl n) c s r hn).symm
 | none=>
  cases hs:bA P L (D P L) c s with
  | none=>rfl
  | some r=>
   obtain ⟨n,hn⟩:=AZ agK au1 c s r hs;rw [<-Gl] at hn;rw [aiz hn] at h;cases h
def afu {f:Nat} {ao:List AV} {r:AV} (h:bG P L (D P L) f ao=some r):∃n,W2 P L n f ao=some r:=Jz agK f ao r h
end
section
open Go (IntKind BinOp UnOp)
section
variable {P:aK} {L:Lib}
structure Has (P:aK) (L:Lib) (n:Nat) (F:aD):Prop where
 pure:L.pure n=none
 heap:L.heap n=none
 code:P n=some F
noncomputable def kj (P:aK) (L:Lib) (r:Option (Ex×St)) (b:VC):Option (Ex×St):=match r with | some (.normal,s)=>D P L b s | r=>r
def rT (id:Nat) (r:Option (Ex×St)):Option (Ex×St):=match r with | some (.exit j,s)=>bif yq j id then some (.normal,s) else some (.exit j,s) | r=>r
noncomputable def Hi (P:aK) (L:Lib) (live:List Nat) (a:VC) (r:Option (Ex×St)):Option (Ex×St):=match r with | some (.normal,s)=>D P L (.loop live a) s | r=>r
def norm (r:Option St):Option (Ex×St):=match r with | some s=>some (.normal,s) | none=>none
noncomputable def La (P:aK) (L:Lib) (v:AV) (a b:VC) (s:St):Option (Ex×St):=match v with | .bool t=>bif t then D P L a s else D P L b s | _=>none
def au2 (s:St):D P L .skip s=some (.normal,s):=by rw [kD];rfl
def au3 (id:Nat) (s:St):D P L (.exit id) s=some (.exit id,s):=by rw [kD];rfl
def axX (s:St):D P L .ret s=some (.ret,s):=by rw [kD];rfl
def aiA (live:List Nat) (s:St):D P L (.kp live) s=some (.normal,aQ live s):=by rw [kD];rfl
def azm (ts:List Nat) (s:St):D P L (.fz ts) s=norm (nS ts s):=by rw [kD];rfl
def axY (ops:List aZ) (s:St):D P L (.mY ops) s=norm (db P L (D P L) ops s):=by rw [kD];rfl
def jq (a b:VC) (s:St):D P L (.seq a b) s=kj P L (D P L a s) b:=by
 rw [kD,kD a];simp only [bA,kj]
 cases bA P L (D P L) a s with
 | none=>rfl
 | some q=>
  obtain ⟨e,s1⟩:=q
  cases e with
  | normal=>exact (kD b s1).symm
  | ret=>rfl
  | exit id=>rfl
def au4 (x:X) (a b:VC) (s:St):D P L (.cond x a b) s=La P L (ay s.tm x) a b s:=by
 rw [kD];simp only [bA,La]
 cases ay s.tm x with
 | bool t=>
  cases t with
  | true=>exact (kD a s).symm
  | false=>exact (kD b s).symm
 | _=>rfl
def axZ (id:Nat) (a:VC) (s:St):D P L (.dj id a) s=rT id (D P L a s):=by
 rw [kD,kD a];simp only [bA,rT]
 cases bA P L (D P L) a s with
 | none=>rfl
 | some q=>obtain ⟨e,s1⟩:=q;cases e<;>rfl
def Dc (live:List Nat) (a:VC) (s:St):D P L (.loop live a) s=Hi P L live a (D P L a (aQ live s)):=by
 rw [kD,kD a];simp only [bA,Hi]
 cases bA P L (D P L) a (aQ live s) with
 | none=>rfl
 | some q=>obtain ⟨e,s1⟩:=q;cases e<;>rfl
def fp (s:St) (b:VC):kj P L (some (.normal,s)) b=D P L b s:=rfl
def aru (s:St) (b:VC):kj P L (some (.ret,s)) b=some (.ret,s):=rfl
def arv (id:Nat) (s:St) (b:VC):kj P L (some (.exit id,s)) b=some (.exit id,s):=rfl
def aep (live:List Nat) (a:VC) (s:St):Hi P L live a (some (.normal,s))=D P L (.loop live a) s:=rfl
def arw (live:List Nat) (a:VC) (s:St):Hi P L live a (some (.ret,s))=some (.ret,s):=rfl
def arx (live:List Nat) (a:VC) (id:Nat) (s:St):Hi P L live a (some (.exit id,s))=some (.exit id,s):=rfl
def ary (id:Nat) (s:St):rT id (some (.normal,s))=some (.normal,s):=rfl
def arz (id:Nat) (s:St):rT id (some (.ret,s))=some (.ret,s):=rfl
def aeq (id:Nat) (s:St):rT id (some (.exit id,s))=some (.normal,s):=by simp only [rT,wu,yz]
def arA {id j:Nat} (s:St) (h:j≠id):rT id (some (.exit j,s))=some (.exit j,s):=by
 have:yq j id=false:=by
  cases hq:yq j id with
  | false=>rfl
  | true=>exact absurd (yj hq) h
 simp only [rT,this,yY]
def au5 (s:St):norm (some s)=some (.normal,s):=rfl
def au6:norm none=none:=rfl
def arB (a b:VC) (s:St):La P L (.bool true) a b s=D P L a s:=rfl
def arC (a b:VC) (s:St):La P L (.bool false) a b s=D P L b s:=rfl
noncomputable def QI (P:aK) (L:Lib) (d:Option Nat) (r:List aZ) (tm:Env) (base:Nat) (q:fQ):Option St:=
 match q with | some (v,hp,ct)=>db P L (D P L) r ⟨put d v tm,hp,ct,base⟩ | none=>none
noncomputable def Bo (P:aK) (L:Lib) (v:AV) (b:Bool) (d:Option Nat) (o:Op) (r:List aZ) (s:St):Option St:=
 match v with
 | .bool c=>bif c==b then db P L (D P L) (⟨d,none,o⟩::r) s else db P L (D P L) r ⟨put d (.aa []) s.tm,s.hp,s.ct,s.base⟩
 | .aa []=>db P L (D P L) r ⟨put d (.aa []) s.tm,s.hp,s.ct,s.base⟩
 | _=>none
def arD (s:St):db P L (D P L) [] s=some s:=rfl
def apw (d:Option Nat) (o:Op) (r:List aZ) (tm:Env) (hp:Hp) (ct base:Nat):
  db P L (D P L) (⟨d,none,o⟩::r) ⟨tm,hp,ct,base⟩=QI P L d r tm base (a7 P L (D P L) tm hp ct o):=by
 simp only [db,QI]
 grind
def anE (d:Option Nat) (t:Nat) (b:Bool) (o:Op) (r:List aZ) (tm:Env) (hp:Hp) (ct base:Nat):
  db P L (D P L) (⟨d,some (t,b),o⟩::r) ⟨tm,hp,ct,base⟩=Bo P L (aj tm t) b d o r ⟨tm,hp,ct,base⟩:=by
 simp only [db,Bo]
 cases aj tm t with
 | bool c=>
  simp only
  cases hc:(c==b) with
  | true=>simp only [yz]
  | false=>simp only [yY]
 | aa vs=>cases vs<;>rfl
 | _=>rfl
def arE (d:Option Nat) (r:List aZ) (tm:Env) (base:Nat) (v:AV) (hp:Hp) (ct:Nat):QI P L d r tm base (some (v,hp,ct))=db P L (D P L) r ⟨put d v tm,hp,ct,base⟩:=rfl
def ax0 (i:Nat) (v:AV) (tm:Env):put (some i) v tm=(i,v)::tm:=rfl
def ax1 (v:AV) (tm:Env):put none v tm=tm:=rfl
def apx (d:Option Nat) (o:Op) (r:List aZ) (s:St):Bo P L (.bool true) true d o r s=db P L (D P L) (⟨d,none,o⟩::r) s:=rfl
def apy (d:Option Nat) (o:Op) (r:List aZ) (s:St):Bo P L (.bool false) false d o r s=db P L (D P L) (⟨d,none,o⟩::r) s:=rfl
def apz (d:Option Nat) (o:Op) (r:List aZ) (tm:Env) (hp:Hp) (ct base:Nat):Bo P L (.bool true) false d o r ⟨tm,hp,ct,base⟩=db P L (D P L) r ⟨put d (.aa []) tm,hp,ct,base⟩:=rfl
def apA (d:Option Nat) (o:Op) (r:List aZ) (tm:Env) (hp:Hp) (ct base:Nat):Bo P L (.bool false) true d o r ⟨tm,hp,ct,base⟩=db P L (D P L) r ⟨put d (.aa []) tm,hp,ct,base⟩:=rfl
def arF (b:Bool) (d:Option Nat) (o:Op) (r:List aZ) (tm:Env) (hp:Hp) (ct base:Nat):Bo P L (.aa []) b d o r ⟨tm,hp,ct,base⟩=db P L (D P L) r ⟨put d (.aa []) tm,hp,ct,base⟩:=rfl
def gn {j i:Nat} (h:j≠i):yq j i=false:=by
 cases hq:yq j i with
 | false=>rfl
 | true=>exact absurd (yj hq) h
def au7 (tm:Env) (i:Nat):ay tm (.t i)=aj tm i:=rfl
def au8 (tm:Env) (v:AV):ay tm (.c v)=v:=rfl
def anF (tm:Env):cW tm []=[]:=rfl
def amt (tm:Env) (x:X) (r:List X):cW tm (x::r)=ay tm x::cW tm r:=rfl
def apB (i:Nat) (v:AV) (r:Env):aj ((i,v)::r) i=v:=by simp only [aj,wu,yz]
def anG {j i:Nat} (v:AV) (r:Env) (h:j≠i):aj ((j,v)::r) i=aj r i:=by simp only [aj,gn h,yY]
def Pu (i:Nat) (o:Obj) (r:Hp):aA ((i,o)::r) i=some o:=by simp only [aA,wu,yz]
def anH {j i:Nat} (o:Obj) (r:Hp) (h:j≠i):aA ((j,o)::r) i=aA r i:=by simp only [aA,gn h,yY]
def apC (i:Nat) (o u:Obj) (r:Hp):bf ((i,o)::r) i u=(i,u)::r:=by simp only [bf,wu,yz]
def anI {j i:Nat} (o u:Obj) (r:Hp) (h:j≠i):bf ((j,o)::r) i u=(j,o)::bf r i u:=by simp only [bf,gn h,yY]
def apD (i:Nat):dX [] i=[]:=rfl
def apE (i:Nat) (o:Obj) (r:Hp):dX ((i,o)::r) i=dX r i:=by simp only [dX,wu,yz]
def anJ {j i:Nat} (o:Obj) (r:Hp) (h:j≠i):dX ((j,o)::r) i=(j,o)::dX r i:=by simp only [dX,gn h,yY]
def rd (hp:Hp) (ct:Nat) (q:Option AV):fQ:=match q with | some v=>some (v,hp,ct) | none=>none
def mk (hp:Hp) (ct:Nat) (q:Option (AV×Obj)):fQ:=match q with | some (v,b)=>some (v,(ct,b)::hp,ct+1) | none=>none
def azn (hp:Hp) (ct:Nat) (v:AV):rd hp ct (some v)=some (v,hp,ct):=rfl
def azo (hp:Hp) (ct:Nat) (v:AV) (b:Obj):mk hp ct (some (v,b))=some (v,(ct,b)::hp,ct+1):=rfl
def QJ (c a b:AV):Option AV:=match c with | .bool t=>some (bif t then a else b) | _=>none
def I7 (k:Nat->Option AV) (n:Option Nat):Option AV:=match n with | some i=>k i | none=>none
def agL (r:Option (List AV)):Option AV:=match r with | some cs=>some (.agg cs) | none=>none
def Ib (ne:Bool) (r:Option Bool):Option AV:=match r with | some b=>some (.bool (ne !=b)) | none=>none
def azp:AV->Option AV
 | .ptr id o=>some (.ptr id o)
 | .b7 cs=>some (.b7 cs)
 | .fn f a b=>some (.fn f a b)
 | _=>none
def Ic (i:Nat):AV->Option AV | .aa vs=>vs[i]? | _=>none
section
variable {f:cm} {tm:Env} {hp:Hp} {ct:Nat}
def au9 (x:X):a7 P L f tm hp ct (.pG x)=some (ay tm x,hp,ct):=rfl
def arG (c a b:X):a7 P L f tm hp ct (.pick c a b)=rd hp ct (QJ (ay tm c) (ay tm a) (ay tm b)):=by
 rfl
def apF (z:List AV) (ps:List (Nat×Nat×X)):a7 P L f tm hp ct (.Bt z ps)=rd hp ct (agL (fill tm z ps)):=by
 rfl
def ax2 (sz:Nat) (ag:Bool) (x:X):a7 P L f tm hp ct (.ld sz ag x)=rd hp ct (iM hp sz ag (ay tm x)):=rfl
def arH (x:X):a7 P L f tm hp ct (.Hs x)=rd hp ct (azp (ay tm x)):=by
 rfl
def ava (op:BinOp) (x y:X):a7 P L f tm hp ct (.bin op x y)=rd hp ct (binOp op (ay tm x) (ay tm y)):=rfl
def ax3 (ne:Bool) (k:Nt) (x y:X):a7 P L f tm hp ct (.eq ne k x y)=rd hp ct (Ib ne (ja k (ay tm x) (ay tm y))):=by
 rfl
def ax4 (op:UnOp) (x:X):a7 P L f tm hp ct (.un op x)=rd hp ct (unOp op (ay tm x)):=rfl
def ax5 (k:Conv) (x:X):a7 P L f tm hp ct (.cv k x)=rd hp ct (fZ k (ay tm x)):=rfl
def avb (g:Fr) (a b:List X):a7 P L f tm hp ct (.Ea g a b)=some (.fn g (cW tm a) (cW tm b),hp,ct):=rfl
def avc (k:Cut) (x:X) (lo hi:Option X):a7 P L f tm hp ct (.og k x lo hi)=rd hp ct (eV hp k (ay tm x) tm lo hi):=rfl
def avd (k:Nat) (x:X):a7 P L f tm hp ct (.off k x)=rd hp ct (G5 k (ay tm x)):=rfl
def ave (o sz:Nat) (ag:Bool) (x:X):a7 P L f tm hp ct (.IB o sz ag x)=rd hp ct (KV o sz ag (ay tm x)):=rfl
def avf (sz:Nat) (x i:X):a7 P L f tm hp ct (.cd sz x i)=rd hp ct (I7 (fun j=>j8 sz j (ay tm x)) (dw (ay tm i))):=by
 rfl
def avg (n sz:Nat) (x i:X):a7 P L f tm hp ct (.Eb n sz x i)=rd hp ct (I7 (fun j=>KW n sz j (ay tm x)) (dw (ay tm i))):=by
 rfl
def avh (x i:X):a7 P L f tm hp ct (.Ec x i)=rd hp ct (I7 (fun j=>lS j (ay tm x)) (dw (ay tm i))):=by
 rfl
def avi (n sz:Nat) (ag:Bool) (x i:X):a7 P L f tm hp ct (.Ed n sz ag x i)=rd hp ct (I7 (fun j=>KX n sz ag j (ay tm x)) (dw (ay tm i))):=by
 rfl
def avj (i:Nat) (x:X):a7 P L f tm hp ct (.ext i x)=rd hp ct (Ic i (ay tm x)):=by
 rfl
def avk (k:Nat) (x:X):a7 P L f tm hp ct (.len k x)=rd hp ct (jo hp k (ay tm x)):=rfl
def avl (sz:Nat) (x:X):a7 P L f tm hp ct (.box sz x)=mk hp ct (cB tm hp ct (.box sz x)):=rfl
def arI (n sz:Nat) (z:List AV) (ps:List (Nat×Nat×X)):a7 P L f tm hp ct (.lf n sz z ps)=mk hp ct (cB tm hp ct (.lf n sz z ps)):=rfl
def avm (sz bV:Nat) (z:List AV) (l c:X):a7 P L f tm hp ct (.mX sz bV z l c)=mk hp ct (cB tm hp ct (.mX sz bV z l c)):=rfl
def avn:a7 P L f tm hp ct .sH=some (.map ct,(ct,.mp true [] [])::hp,ct+1):=rfl
def avo (x:X):a7 P L f tm hp ct (.ol x)=mk hp ct (cB tm hp ct (.ol x)):=rfl
def ax6 (sz:Nat) (x v:X):a7 P L f tm hp ct (.st sz x v)=cw tm hp ct (.st sz x v):=rfl
def avp (sz bV:Nat) (s x:X):a7 P L f tm hp ct (.aT sz bV s x)=cw tm hp ct (.aT sz bV s x):=rfl
def Lb (hp:Hp) (ct:Nat) (r:Option AV):fQ:=match r with | some v=>some (shut v,hp,ct) | none=>none
def MW (hp:Hp) (ct:Nat) (r:Option AV):fQ:=match r with | some v=>some (own hp ct v) | none=>none
def QK (P:aK) (L:Lib) (f:cm) (ct n:Nat) (q:Option (List AV×Hp)):fQ:=match q with | some (ao,hp)=>Lb hp ct (bG P L f n ao) | none=>none
def QL (P:aK) (L:Lib) (f:cm) (ct n:Nat) (q:Option (List AV×Hp)):fQ:=match q with | some (ao,hp)=>MW hp ct (bG P L f n ao) | none=>none
def QM (P:aK) (L:Lib) (f:cm) (hp:Hp) (ct:Nat) (fv:AV) (xs:List AV):fQ:=ep P L f hp ct .pure fv xs
def QN (P:aK) (L:Lib) (f:cm) (hp:Hp) (ct:Nat) (fv:AV) (xs:List AV):fQ:=ep P L f hp ct .own fv xs
def apG (g:X) (xs:List X):a7 P L f tm hp ct (.call .pure g xs)=QM P L f hp ct (ay tm g) (cW tm xs):=rfl
def apH (g:X) (xs:List X):a7 P L f tm hp ct (.call .own g xs)=QN P L f hp ct (ay tm g) (cW tm xs):=rfl
def apI (g:X) (xs:List X):a7 P L f tm hp ct (.call .heap g xs)=ep P L f hp ct .heap (ay tm g) (cW tm xs):=rfl
def arJ (n:Nat) (first cap xs:List AV):QM P L f hp ct (.fn (.f n) first cap) xs=QK P L f ct n (cA deep hp (first++(xs++cap))):=by
 simp only [QM,ep,QK,Lb]
 cases cA deep hp (first++(xs++cap)) with
 | none=>rfl
 | some q=>cases bG P L f n q.1<;>rfl
def arK (n:Nat) (first cap xs:List AV):QN P L f hp ct (.fn (.f n) first cap) xs=QL P L f ct n (cA deep hp (first++(xs++cap))):=by
 simp only [QN,ep,QL,MW]
 cases cA deep hp (first++(xs++cap)) with
 | none=>rfl
 | some q=>cases bG P L f n q.1<;>rfl
def arL (n:Nat) (ao:List AV):QK P L f ct n (some (ao,hp))=Lb hp ct (bG P L f n ao):=rfl
def arM (n:Nat) (ao:List AV):QL P L f ct n (some (ao,hp))=MW hp ct (bG P L f n ao):=rfl
def arN (v:AV):Lb hp ct (some v)=some (shut v,hp,ct):=rfl
def avq (v:AV):MW hp ct (some v)=some (own hp ct v):=rfl
def MX (hp:Hp) (r:Option AV):Option AV:=match r with | some v=>result hp v | none=>none
def cX (rs:List RV) (q:Option (Ex×St)):Option AV:=
 match q with
 | some (.normal,s) | some (.ret,s)=>MX s.hp (gX s rs)
 | _=>none
def aF {n:Nat} {F:aD} (h:Has P L n F) (ao:List AV):bG P L f n ao=cX F.cZ (f F.body ⟨dR 0 ao,[],0,0⟩):=by
 simp only [bG,h.pure,h.code]
 cases hq:f F.body ⟨dR 0 ao,[],0,0⟩ with
 | none=>rfl
 | some q=>
  obtain ⟨e,s⟩:=q
  cases e with
  | normal=>rfl
  | ret=>rfl
  | exit id=>rfl
def avr (rs:List RV) (s:St):cX rs (some (.normal,s))=MX s.hp (gX s rs):=rfl
def avt (rs:List RV) (s:St):cX rs (some (.ret,s))=MX s.hp (gX s rs):=rfl
def avu (v:AV):MX hp (some v)=result hp v:=rfl
def Wc (r:RV) (s:St):gX s [r]=results1 s r:=by
 simp only [gX,jV];cases results1 s r<;>rfl
def aiB (r:Option (List AV)):Option AV:=match r with | some vs=>some (.aa vs) | none=>none
def azq (r q:RV) (l:List RV) (s:St):gX s (r::q::l)=aiB (jV s (r::q::l)):=by
 simp only [gX,jV];cases results1 s r<;>cases results1 s q<;>cases jV s l<;>rfl
def agM (r:Option AV) (l:Option (List AV)):Option (List AV):=match r,l with | some v,some vs=>some (v::vs) | _,_=>none
def apJ (s:St):jV s []=some []:=rfl
def anK (r:RV) (l:List RV) (s:St):jV s (r::l)=agM (results1 s r) (jV s l):=rfl
def arO (v:AV) (vs:List AV):agM (some v) (some vs)=some (v::vs):=rfl
def avv (vs:List AV):aiB (some vs)=some (.aa vs):=rfl
def QO (i:Nat) (s:St):results1 s (.t i)=some (aj s.tm i):=rfl
def ax7 (a:AV):dR 0 [a]=[(0,a)]:=rfl
def ax8 (a b:AV):dR 0 [a,b]=[(0,a),(1,b)]:=rfl
def ax9 (a b c:AV):dR 0 [a,b,c]=[(0,a),(1,b),(2,c)]:=rfl
def aya (a b c d:AV):dR 0 [a,b,c,d]=[(0,a),(1,b),(2,c),(3,d)]:=rfl
def ayb (a b c d e:AV):dR 0 [a,b,c,d,e]=[(0,a),(1,b),(2,c),(3,d),(4,e)]:=rfl
def amu (k:xc) (n:Int):result hp (.int k n)=some (.int k n):=rfl
def alW (b:Bool):result hp (.bool b)=some (.bool b):=rfl
def amv (s:List Nat):result hp (.str s)=some (.str s):=rfl
def alX:result hp .ae=some .ae:=rfl
def amw (e:Bool) (n:Nat) (cs:List AV):result hp (.aC e n cs)=some (.aC e n cs):=rfl
def shut_int (k:xc) (n:Int):shut (.int k n)= .int k n:=rfl
def shut_bool (b:Bool):shut (.bool b)= .bool b:=rfl
def apK (s:List Nat):shut (.str s)= .str s:=rfl
def anL:shut .ae= .ae:=rfl
def apL (e:Bool) (n:Nat) (cs:List AV):shut (.aC e n cs)= .aC e n cs:=rfl
def apM (e:Bool) (sz n:Nat) (cs:List AV):shut (.bE e sz n cs)= .aC e n cs:=rfl
def bt (cs:List AV):shut (.agg cs)= .agg cs:=rfl
def arP (g:Fr) (a b:List AV):shut (.fn g a b)= .fn g a b:=rfl
def iU (vs:List AV):shut (.aa vs)= .aa (Bu vs):=rfl
def iT:Bu []=[]:=rfl
def iS (v:AV) (r:List AV):Bu (v::r)=bR v::Bu r:=rfl
def anM (k:xc) (n:Int):bR (.int k n)= .int k n:=rfl
def amx (b:Bool):bR (.bool b)= .bool b:=rfl
def anN (s:List Nat):bR (.str s)= .str s:=rfl
def amy:bR .ae= .ae:=rfl
def anO (e:Bool) (n:Nat) (cs:List AV):bR (.aC e n cs)= .aC e n cs:=rfl
def anP (e:Bool) (sz n:Nat) (cs:List AV):bR (.bE e sz n cs)= .aC e n cs:=rfl
def pZ (cs:List AV):bR (.agg cs)= .agg cs:=rfl
def We (n:Nat) (r:List AV) (q:Option (AV×Hp)):Option (List AV×Hp):=match q with | some (v,hp)=>(match cA n hp r with | some (vs,iO)=>some (v::vs,iO) | none=>none) | none=>none
def aiC (v:AV) (q:Option (List AV×Hp)):Option (List AV×Hp):=match q with | some (vs,hp)=>some (v::vs,hp) | none=>none
def apN (n:Nat):cA (n+1) hp []=some ([],hp):=rfl
def anQ (n:Nat) (v:AV) (r:List AV):cA (n+1) hp (v::r)=We n r (freeze n hp v):=by
 simp only [cA,We];cases freeze n hp v<;>rfl
def avw (n:Nat) (r:List AV) (v:AV):We n r (some (v,hp))=aiC v (cA n hp r):=by
 rfl
def avx (v:AV) (vs:List AV):aiC v (some (vs,hp))=some (v::vs,hp):=rfl
def arQ (n:Nat) (k:xc) (a:Int):freeze (n+1) hp (.int k a)=some (.int k a,hp):=rfl
def apO (n:Nat) (b:Bool):freeze (n+1) hp (.bool b)=some (.bool b,hp):=rfl
def arR (n:Nat) (s:List Nat):freeze (n+1) hp (.str s)=some (.str s,hp):=rfl
def apP (n:Nat):freeze (n+1) hp .ae=some (.ae,hp):=rfl
def arS (n:Nat) (e:Bool) (k:Nat) (cs:List AV):freeze (n+1) hp (.aC e k cs)=some (.aC e k cs,hp):=rfl
def apQ (n:Nat) (cs:List AV):freeze (n+1) hp (.b7 cs)=some (.b7 cs,hp):=rfl
end
end
section
variable {hp:Hp}
def avy (a b:AV):QJ (.bool true) a b=some a:=rfl
def avz (a b:AV):QJ (.bool false) a b=some b:=rfl
def ayc (k:Nat->Option AV) (n:Nat):I7 k (some n)=k n:=rfl
def amz (k:xc) (n:Nat):dw (.int k (n:Int))=some n:=rfl
def avA (k:xc):dw (.int k 0)=some 0:=rfl
def avB (k:xc):dw (.int k 1)=some 1:=rfl
def avC (k:xc):dw (.int k 2)=some 2:=rfl
def avD (k:xc):dw (.int k 3)=some 3:=rfl
def avE (k:xc):dw (.int k 4)=some 4:=rfl
def avF (k:xc):dw (.int k 5)=some 5:=rfl
def avG (k:xc):dw (.int k 6)=some 6:=rfl
def avH (k:xc):dw (.int k 7)=some 7:=rfl
def avI (k:xc):dw (.int k 8)=some 8:=rfl
def avJ (k:xc):dw (.int k 9)=some 9:=rfl
def arT (cs:List AV):agL (some cs)=some (.agg cs):=rfl
def aer (k:xc) (a b:Int):binOp .add (.int k a) (.int k b)=some (.int k (k.wrap (a+b))):=by simp [binOp,j0]
def Kx (k:xc) (a b:Int):binOp .sub (.int k a) (.int k b)=some (.int k (k.wrap (a-b))):=by simp [binOp,j0]
def aes (k:xc) (a b:Int):binOp .mul (.int k a) (.int k b)=some (.int k (k.wrap (a*b))):=by simp [binOp,j0]
def eH (k:xc) (a b:Int) (h:b≠0):binOp .quo (.int k a) (.int k b)=some (.int k (k.wrap (a.tdiv b))):=by simp [binOp,j0,h]
def eP (k:xc) (a b:Int) (h:b≠0):binOp .rem (.int k a) (.int k b)=some (.int k (a.tmod b)):=by simp [binOp,j0,h]
def arU (k:xc) (a b:Int):binOp .eql (.int k a) (.int k b)=some (.bool (decide (a=b))):=by
 simp [binOp,j0,intCmp,BEq.beq]
def arV (k:xc) (a b:Int):binOp .neq (.int k a) (.int k b)=some (.bool (!decide (a=b))):=by
 simp [binOp,j0,intCmp,bne,BEq.beq]
def arW (k:xc) (a b:Int):binOp .lss (.int k a) (.int k b)=some (.bool (decide (a<b))):=by simp [binOp,j0,intCmp]
def arX (k:xc) (a b:Int):binOp .leq (.int k a) (.int k b)=some (.bool (decide (a<=b))):=by simp [binOp,j0,intCmp]
def arY (k:xc) (a b:Int):binOp .gtr (.int k a) (.int k b)=some (.bool (decide (b<a))):=by simp [binOp,j0,intCmp]
def arZ (k:xc) (a b:Int):binOp .geq (.int k a) (.int k b)=some (.bool (decide (b<=a))):=by simp [binOp,j0,intCmp]
def avK (k:xc) (a:Int):unOp .neg (.int k a)=some (.int k (k.wrap (0-a))):=rfl
def avL (b:Bool):unOp .not (.bool b)=some (.bool !b):=rfl
def apR:jo hp 1 .ae=some (.int .i64 0):=rfl
def ar0 (e:Bool) (n:Nat) (cs:List AV):jo hp 1 (.aC e n cs)=some (.int .i64 n):=rfl
def ar1 (id o n:Nat):jo hp 1 (.aE id o n)=some (.int .i64 n):=rfl
def ar2 (s:List Nat):jo hp 0 (.str s)=some (.int .i64 s.length):=rfl
def aet {sz i n:Nat} (e:Bool) (cs:List AV) (h:i<n):j8 sz i (.aC e n cs)=some (.b7 (cs.drop (i*sz))):=by
 have hb:yK i n=true:=yt h;simp only [j8]
 grind
def cP {sz i n:Nat} (id o:Nat) (h:i<n):j8 sz i (.aE id o n)=some (.ptr id (o+i*sz)):=by
 have hb:yK i n=true:=yt h;simp only [j8]
 grind
def apS (v:AV) (cs:List AV):iM hp 1 false (.b7 (v::cs))=some v:=rfl
def N3 (sz:Nat) (ag:Bool) (o:Nat) (q:Option Obj):Option AV:=match q with | some (.cells _ _ _ _ cs)=>il sz ag (cs.drop o) | _=>none
def avM (sz:Nat) (ag:Bool) (id o:Nat):iM hp sz ag (.ptr id o)=N3 sz ag o (aA hp id):=by
 rfl
def ayd (sz:Nat) (ag:Bool) (o:Nat) (rw pu ex:Bool) (z:Nat) (cs:List AV):N3 sz ag o (some (.cells rw pu ex z cs))=il sz ag (cs.drop o):=rfl
def aye (sz:Nat) (v:AV) (cs:List AV):il sz false (v::cs)=some v:=rfl
def azr (a:AV) (l:List AV):Ic 0 (.aa (a::l))=some a:=rfl
def ext1 (a b:AV) (l:List AV):Ic 1 (.aa (a::b::l))=some b:=rfl
def azs (a b c:AV) (l:List AV):Ic 2 (.aa (a::b::c::l))=some c:=rfl
def azt (a b c d:AV) (l:List AV):Ic 3 (.aa (a::b::c::d::l))=some d:=rfl
end
def rU:Env->Bool
 | []=>true
 | (_,v)::r=>bh v&&rU r
mutual
def aO:∀{v:AV},bh v=true->refs v=[]
 | .int _ _,_ | .bool _,_ | .aw _ _,_ | .str _,_ | .km,_ | .b7 _,_ | .ae,_ | .aC _ _ _,_ | .ic,_ | .ju,_ | .iL _ _,_ | .undef,_=>rfl
 | .ptr _ _,h | .aE _ _ _,h | .map _,h | .it _,h | .bE _ _ _ _,h=>by simp [bh] at h
 | .fn (.y _) _ _,h=>by simp [bh] at h
 | .fn (.f _) first cap,h=>by
  simp only [bh,yf] at h;simp only [refs,FT h.1,FT h.2,xZ]
 | .agg cs,h=>by simp only [bh] at h;simp only [refs,FT h]
 | .aa cs,h=>by simp only [bh] at h;simp only [refs,FT h]
def FT:∀{vs:List AV},aI vs=true->iJ vs=[]
 | [],_=>rfl
 | v::r,h=>by
  simp only [aI,yf] at h;simp only [iJ,aO h.1,FT h.2,xZ]
end
mutual
def aV (f:Nat->Option Nat):∀{v:AV},bh v=true->bT f v=v
 | .int _ _,_ | .bool _,_ | .aw _ _,_ | .str _,_ | .km,_ | .b7 _,_ | .ae,_ | .aC _ _ _,_ | .ic,_ | .ju,_ | .iL _ _,_ | .undef,_=>rfl
 | .ptr _ _,h | .aE _ _ _,h | .map _,h | .it _,h | .bE _ _ _ _,h=>by simp [bh] at h
 | .fn (.y _) _ _,h=>by simp [bh] at h
 | .fn (.f _) first cap,h=>by
  simp only [bh,yf] at h;simp only [bT,FZ f h.1,FZ f h.2]
 | .agg cs,h=>by simp only [bh] at h;simp only [bT,FZ f h]
 | .aa cs,h=>by simp only [bh] at h;simp only [bT,FZ f h]
def FZ (f:Nat->Option Nat):∀{vs:List AV},aI vs=true->fe f vs=vs
 | [],_=>rfl
 | v::r,h=>by
  simp only [aI,yf] at h;simp only [fe,aV f h.1,FZ f h.2]
end
def Zr:∀{tm:Env},rU tm=true->iK tm=[]
 | [],_=>rfl
 | (i,v)::r,h=>by
  simp only [rU,yf] at h;simp only [iK,aO h.1,Zr h.2,xZ]
def aad (f:Nat->Option Nat):∀{tm:Env},rU tm=true->jK f tm=tm
 | [],_=>rfl
 | (i,v)::r,h=>by
  simp only [rU,yf] at h;simp only [jK,aV f h.1,aad f h.2]
def alx {live:List Nat} {tm:Env} {ct:Nat} (h:rU (dF tm live)=true):aQ live ⟨tm,[],ct,0⟩=⟨dF tm live,[],0,0⟩:=by
 simp only [aQ,Zr h,iF,xZ];simp only [reach,jF,kY,aad _ h,yR,yV]
def alY {tm:Env} {ct:Nat}:aQ [] ⟨tm,[],ct,0⟩=⟨[],[],0,0⟩:=rfl
def aa1 {P:aK} {L:Lib} {live:List Nat} {a:VC} (I:Nat->St->Prop) (Q:Ex->St->Prop)
  (step:∀k s,I k s->(∃s' k',D P L a (aQ live s)=some (.normal,s')/\k'<k/\I k' s')\/(∃ex s',D P L a (aQ live s)=some (ex,s')/\ex≠.normal/\Q ex s')):
  ∀k s,I k s->∃ex s',D P L (.loop live a) s=some (ex,s')/\Q ex s':=by
 intro k
 induction k using vh with
 | _ k ih=>
  intro s hI;rw [Dc];rcases step k s hI with ⟨s',k',h1,h2,h3⟩ | ⟨ex,s',h1,h2,h3⟩
  ·rw [h1,aep];exact ih k' h2 s' h3
  ·rw [h1]
   cases ex with
   | normal=>exact absurd rfl h2
   | ret=>exact ⟨.ret,s',rfl,h3⟩
   | exit id=>exact ⟨.exit id,s',rfl,h3⟩
def kO {P:aK} {L:Lib} {live:List Nat} {a:VC} (I:Nat->St->Prop) (Q:Ex->St->Prop)
  (step:∀k s,I k s->(∃s' k',D P L a s=some (.normal,s')/\k'<k/\I k' (aQ live s'))\/(∃ex s',D P L a s=some (ex,s')/\ex≠.normal/\Q ex s')):
  ∀k s,I k (aQ live s)->∃ex s',D P L (.loop live a) s=some (ex,s')/\Q ex s':=
 aa1 (fun k s=>I k (aQ live s)) Q (fun k s h=>step k _ h)
def dh {P:aK} {L:Lib} {live:List Nat} {a:VC} {I:Nat->St->Prop} {Q:Ex->St->Prop}
  (step:∀k s,I k s->(∃s' k',D P L a s=some (.normal,s')/\k'<k/\I k' (aQ live s'))\/(∃ex s',D P L a s=some (ex,s')/\ex≠.normal/\Q ex s')):
  ∀k s s0,aQ live s=s0->I k s0->∃ex s',D P L (.loop live a) s=some (ex,s')/\Q ex s':=fun k s s0 h hi=>kO I Q step k s (h▸hi)
def b6 {P:aK} {L:Lib} {c:VC} {s:St} {q:Option (Ex×St)} {I:St->Prop} {Q:Ex->St->Prop} (hq:D P L c s=q) (key:∀s,I s->∃ex s',D P L c s=some (ex,s')/\Q ex s') (hI:I s):
  ∃ex s',q=some (ex,s')/\Q ex s':=by
 rw [<-hq];exact key s hI
def apT (tm:Env):dF tm []=[]:=rfl
def anR (tm:Env) (i:Nat) (r:List Nat):dF tm (i::r)=(i,aj tm i)::dF tm r:=rfl
def anS:rU []=true:=rfl
def amA (i:Nat) (v:AV) (r:Env):rU ((i,v)::r)=(bh v&&rU r):=rfl
def afv (k:xc) (n:Int):bh (.int k n)=true:=(rfl)
def ar3 (b:Bool):bh (.bool b)=true:=(rfl)
def avN (s:List Nat):bh (.str s)=true:=(rfl)
def ar4:bh .ae=true:=(rfl)
def avO (e:Bool) (n:Nat) (cs:List AV):bh (.aC e n cs)=true:=(rfl)
def ar5 (cs:List AV):bh (.b7 cs)=true:=(rfl)
def apU:bh .undef=true:=(rfl)
attribute [go_sem] deep alY apT anR anS amA afv ar3 avN ar4 avO ar5 apU uT wK
attribute [go_sem] au2 au3 axX aiA azm axY jq au4 axZ fp aru arv aep arw arx ary arz aeq arA au5 au6 arB arC
 arD apw anE arE ax0 ax1 apx apy apz apA arF au7 au8 anF amt apB anG Pu anH apC anI apD apE anJ
 azn azo au9 arG apF ax2 arH ava ax3 ax4 ax5 avb avc avd ave avf avg avh avi avj avk avl arI avm avn avo ax6 avp apG apH apI
 arJ arK arL arM arN avq avr avt avu Wc azq apJ anK arO avv QO ax7 ax8 ax9 aya ayb
 amu alW amv alX amw shut_int shut_bool apK anL apL apM bt arP iU iT iS anM amx anN amy anO anP pZ
 apN anQ avw avx arQ apO arR apP arS apQ
 avy avz ayc amz avA avB avC avD avE avF avG avH avI avJ arT aer Kx aes arU arV arW arX arY arZ avK avL apR ar0 ar1 ar2 apS avM ayd aye azr ext1 azs azt
 xT xZ xh yo yr Bool.not_true Bool.not_false ne_eq not_false_eq_true
end
abbrev ab (n:Int):AV:= .int .i64 n
def cE (v:AV) (cs:List AV):Prop:=(v= .ae/\cs=[])\/∃e,v= .aC e cs.length cs
section
variable {v:AV} {cs:List AV} {hp:Hp}
def cE.len (h:cE v cs) {hp:Hp}:jo hp 1 v=some (.int .i64 (cs.length:Nat)):=by
 rcases h with ⟨rfl,rfl⟩ | ⟨e,rfl⟩<;>rfl
def cE.pu (h:cE v cs):bh v=true:=by
 rcases h with ⟨rfl,rfl⟩ | ⟨e,rfl⟩<;>rfl
def cE.an (h:cE v cs) (n:Nat) {hp:Hp}:freeze (n+1) hp v=some (v,hp):=by
 rcases h with ⟨rfl,rfl⟩ | ⟨e,rfl⟩<;>rfl
def cE.shut (h:cE v cs):shut v=v:=by
 rcases h with ⟨rfl,rfl⟩ | ⟨e,rfl⟩<;>rfl
def cE.bR (h:cE v cs):bR v=v:=by
 rcases h with ⟨rfl,rfl⟩ | ⟨e,rfl⟩<;>rfl
def cE.cZ (h:cE v cs) {hp:Hp}:result hp v=some v:=by
 rcases h with ⟨rfl,rfl⟩ | ⟨e,rfl⟩<;>rfl
def cE.cd (h:cE v cs) {i:Nat} (hi:i<cs.length):j8 1 i v=some (.b7 (cs[i]::cs.drop (i+1))):=by
 rcases h with ⟨rfl,rfl⟩ | ⟨e,rfl⟩
 ·grind
 ·rw [aet e _ hi,ym,yX hi]
def cE.one (h:cE v cs):dV v=true:=by
 rcases h with ⟨rfl,rfl⟩ | ⟨e,rfl⟩<;>rfl
def cE.cells (h:cE v cs):cellsOf v=[v]:=by
 rcases h with ⟨rfl,rfl⟩ | ⟨e,rfl⟩<;>rfl
def PL (e:Bool) (cs:List AV):cE (.aC e cs.length cs) cs:= .inr ⟨e,rfl⟩
def zt:cE .ae []:= .inl ⟨rfl,rfl⟩
end
def bn (v:AV) (l:List Int):Prop:=cE v (l.map ab)
section
variable {v:AV} {l:List Int}
def bn.len (h:bn v l) {hp:Hp}:jo hp 1 v=some (.int .i64 (l.length:Nat)):=by
 have:=cE.len (hp:=hp) h
 grind
def bn.pu (h:bn v l):bh v=true:=cE.pu h
def bn.an (h:bn v l) (n:Nat) {hp:Hp}:freeze (n+1) hp v=some (v,hp):=cE.an h n
def bn.shut (h:bn v l):VE.shut v=v:=cE.shut h
def bn.bR (h:bn v l):VE.bR v=v:=cE.bR h
def bn.cZ (h:bn v l) {hp:Hp}:result hp v=some v:=cE.cZ h
def bn.one (h:bn v l):dV v=true:=cE.one h
def bn.cells (h:bn v l):cellsOf v=[v]:=cE.cells h
def bn.cd (h:bn v l) {i:Nat} (hi:i<l.length):j8 1 i v=some (.b7 (.int .i64 l[i]::(l.map ab).drop (i+1))):=by
 have:=cE.cd h (i:=i) (by simpa using hi)
 grind
def lM (e:Bool) (l:List Int):bn (.aC e l.length (l.map ab)) l:=by
 have:=PL e (l.map ab)
 rwa [xt] at this
end
def Ab {α β:Type} (p:α->β->Prop):List α->List β->Prop
 | [],[]=>True
 | a::r,b::s=>p a b/\Ab p r s
 | _,_=>False
def IsS (v:AV) (s:List (List Int)):Prop:=∃rows,cE v rows/\Ab bn rows s
def wrap64 {n:Int} (h1: -9223372036854775808<=n) (h2:n<9223372036854775808):IntKind.wrap .i64 n=n:=by
 simp only [IntKind.wrap,IntKind.bits,IntKind.signed,wK]
 grind
def wrapN {n:Nat} (h:n<9223372036854775808):IntKind.wrap .i64 (n:Int)=n:=wrap64 (by omega) (by omega)
section
variable {P:aK} {L:Lib}
abbrev ai (P:aK) (L:Lib) (f:Nat) (ao:List AV) (r:AV):Prop:=bG P L (D P L) f ao=some r
end
section
variable {P:aK} {L:Lib} {f:cm} {tm:Env} {hp:Hp} {ct:Nat}
def anT (k:xc) (n:Int):cellsOf (.int k n)=[.int k n]:=(rfl)
def amB (b:Bool):cellsOf (.bool b)=[.bool b]:=(rfl)
def anU (s:List Nat):cellsOf (.str s)=[.str s]:=(rfl)
def amC:cellsOf .ae=[.ae]:=(rfl)
def anV (e:Bool) (n:Nat) (cs:List AV):cellsOf (.aC e n cs)=[.aC e n cs]:=(rfl)
def anW (id o n:Nat):cellsOf (.aE id o n)=[.aE id o n]:=(rfl)
def anX (id o:Nat):cellsOf (.ptr id o)=[.ptr id o]:=(rfl)
def apV (g:Fr) (a b:List AV):cellsOf (.fn g a b)=[.fn g a b]:=(rfl)
def anY (cs:List AV):cellsOf (.agg cs)=cs:=(rfl)
def aeu (k:xc) (n:Int):dV (.int k n)=true:=(rfl)
def apW (b:Bool):dV (.bool b)=true:=(rfl)
def ar6 (s:List Nat):dV (.str s)=true:=(rfl)
def apX:dV .ae=true:=(rfl)
def ar7 (e:Bool) (n:Nat) (cs:List AV):dV (.aC e n cs)=true:=(rfl)
def ar8 (id o n:Nat):dV (.aE id o n)=true:=(rfl)
def ar9 (id o:Nat):dV (.ptr id o)=true:=(rfl)
def avP (g:Fr) (a b:List AV):dV (.fn g a b)=true:=(rfl)
def apY:cF []=true:=(rfl)
def aae (v:AV) (r:List AV):cF (v::r)=(dV v&&cF r):=(rfl)
def anZ:aI []=true:=(rfl)
def amD (v:AV) (r:List AV):aI (v::r)=(bh v&&aI r):=(rfl)
def avQ (id o:Nat):bh (.ptr id o)=false:=(rfl)
def avR (id o n:Nat):bh (.aE id o n)=false:=(rfl)
def ayf (g:Nat) (a b:List AV):bh (.fn (.f g) a b)=(aI a&&aI b):=(rfl)
def azu (l:Nat) (a b:List AV):bh (.fn (.y l) a b)=false:=(rfl)
def avS (cs:List AV):bh (.agg cs)=aI cs:=(rfl)
def avT (cs:List AV):bh (.aa cs)=aI cs:=(rfl)
def DX (ct sz:Nat) (cs:List AV):Option (AV×Obj):=bif yq cs.length sz&&cF cs then some (.ptr ct 0,.cells true (aI cs) true sz cs) else none
def avU (sz:Nat) (x:X):cB tm hp ct (.box sz x)=DX ct sz (cellsOf (ay tm x)):=rfl
def ayg {v:AV} (h:dV v=true):DX ct 1 [v]=some (.ptr ct 0,.cells true (bh v&&true) true 1 [v]):=by
 simp [DX,cF,aI,h]
def aY {cs:List AV} {n:Nat} (hn:cs.length=n) (h:cF cs=true):DX ct n cs=some (.ptr ct 0,.cells true (aI cs) true n cs):=by
 subst hn;simp [DX,h]
def jT (hp:Hp) (ct id o sz:Nat) (new:List AV) (q:Option Obj):fQ:=
 match q with
 | some (.cells true pu ex z cs)=>bif yq new.length sz&&yy (o+sz) cs.length&&cF new then some (.aa [],bf hp id (.cells true (pu&&aI new) ex z (over o new cs)),ct) else none
 | _=>none
def stV (hp:Hp) (ct sz:Nat) (p:AV) (new:List AV):fQ:=match p with | .ptr id o=>jT hp ct id o sz new (aA hp id) | _=>none
def aa2 (sz:Nat) (x v:X):cw tm hp ct (.st sz x v)=stV hp ct sz (ay tm x) (cellsOf (ay tm v)):=rfl
def agN (sz id o:Nat) (new:List AV):stV hp ct sz (.ptr id o) new=jT hp ct id o sz new (aA hp id):=rfl
def azv {v u:AV} {id z:Nat} {pu ex:Bool} (h:dV v=true):jT hp ct id 0 1 [v] (some (.cells true pu ex z [u]))=some (.aa [],bf hp id (.cells true (pu&&(bh v&&true)) ex z [v]),ct):=by
 simp [jT,cF,aI,h,over];rfl
def Lc {new cs:List AV} {id o sz z:Nat} {pu ex:Bool} (h1:new.length=sz) (h2:o+sz<=cs.length) (h:cF new=true):
  jT hp ct id o sz new (some (.cells true pu ex z cs))=some (.aa [],bf hp id (.cells true (pu&&aI new) ex z (over o new cs)),ct):=by
 subst h1;simp [jT,h,yt h2]
def Hj (ct n sz:Nat) (q:Option (List AV)):Option (AV×Obj):=match q with | some cs=>bif yq cs.length (n*sz) then some (.aE ct 0 n,.cells true (aI cs) true sz cs) else none | none=>none
def asa (n sz:Nat) (z:List AV) (ps:List (Nat×Nat×X)):cB tm hp ct (.lf n sz z ps)=Hj ct n sz (fill tm z ps):=by
 simp only [cB,Hj];cases fill tm z ps<;>rfl
def aev {n sz:Nat} {cs:List AV} (h:cs.length=n*sz):Hj ct n sz (some cs)=some (.aE ct 0 n,.cells true (aI cs) true sz cs):=by
 simp [Hj,h]
def rV (tm:Env) (cs:List AV) (o sz:Nat) (new:List AV) (r:List (Nat×Nat×X)):Option (List AV):=
 bif yq new.length sz&&yy (o+sz) cs.length&&cF new then fill tm (over o new cs) r else none
def apZ (cs:List AV):fill tm cs []=some cs:=rfl
def an0 (cs:List AV) (o sz:Nat) (x:X) (r:List (Nat×Nat×X)):fill tm cs ((o,sz,x)::r)=rV tm cs o sz (cellsOf (ay tm x)) r:=rfl
def PM {cs:List AV} {o:Nat} {v:AV} {r:List (Nat×Nat×X)} (h1:o+1<=cs.length) (h2:dV v=true):rV tm cs o 1 [v] r=fill tm (over o [v] cs) r:=by
 simp [rV,cF,h2,yt h1]
def aew {cs new:List AV} {o sz:Nat} {r:List (Nat×Nat×X)} (h0:new.length=sz) (h1:o+sz<=cs.length) (h2:cF new=true):rV tm cs o sz new r=fill tm (over o new cs) r:=by
 subst h0;simp [rV,h2,yt h1]
def ayh (v u:AV) (r:List AV):over 0 [v] (u::r)=v::r:=rfl
def ayi (v a u:AV) (r:List AV):over 1 [v] (a::u::r)=a::v::r:=rfl
def ayj (v a b u:AV) (r:List AV):over 2 [v] (a::b::u::r)=a::b::v::r:=rfl
def ayk (v a b c u:AV) (r:List AV):over 3 [v] (a::b::c::u::r)=a::b::c::v::r:=rfl
def ayl (v a b c d u:AV) (r:List AV):over 4 [v] (a::b::c::d::u::r)=a::b::c::d::v::r:=rfl
def aym (v a b c d e u:AV) (r:List AV):over 5 [v] (a::b::c::d::e::u::r)=a::b::c::d::e::v::r:=rfl
def Ac (ct sz bV:Nat) (zero:List AV) (l c:Option Nat):Option (AV×Obj):=
 match l,c with
 | some l,some c=>bif yy l c&&(yy c room&&(yy (c*bV) room&&(yq zero.length sz&&cF zero))) then some (.aE ct 0 l,.cells true (aI zero) (yq l c) sz (yL l zero).flatten) else none
 | _,_=>none
def avV (sz bV:Nat) (z:List AV) (l c:X):cB tm hp ct (.mX sz bV z l c)=Ac ct sz bV z (dw (ay tm l)) (dw (ay tm c)):=by
 simp only [cB,Ac]
 grind
def KN {sz bV l:Nat} {z:List AV} (h1:l<=1099511627776) (h2:l*bV<=1099511627776) (h3:z.length=sz) (h4:cF z=true):
  Ac ct sz bV z (some l) (some l)=some (.aE ct 0 l,.cells true (aI z) true sz (yL l z).flatten):=by
 subst h3;simp [Ac,h4,yt (show l<=room from h1),yt (show l*bV<=room from h2),yt (yB l)]
def BW (hp:Hp) (ct sz bV:Nat) (s:AV) (src:Option (Nat×List AV)):fQ:=
 match src with
 | none=>none
 | some (m,new)=>
  match s with
  | .ae=>
   bif yq m 0 then some (.ae,hp,ct)
   else bif yy m room&&(yy (m*bV) room&&yK 0 sz) then some (.aE ct 0 m,(ct,.cells true (aI new) false sz new)::hp,ct+1) else none
  | .aC true n cs=>
   bif yq m 0 then some (.aC true n cs,hp,ct)
   else bif yy (n+m) room&&(yy ((n+m)*bV) room&&(yq cs.length (n*sz)&&yK 0 sz)) then some (.aE ct 0 (n+m),(ct,.cells true (aI cs&&aI new) false sz (cs++new))::hp,ct+1) else none
  | .aE id o n=>
   match aA hp id with
   | some (.cells true pu _ z cs)=>
    bif yq z sz&&(yy (n+m) room&&(yy ((n+m)*bV) room&&(yy (o+n*sz) cs.length&&(yK 0 sz&&cF new)))) then
     some (.aE ct 0 (n+m),(ct,.cells true (pu&&aI new) false sz (slice o (n*sz) cs++new))::dX hp id,ct+1)
    else none
   | _=>none
  | _=>none
def an1 (sz bV:Nat) (s x:X):cw tm hp ct (.aT sz bV s x)=BW hp ct sz bV (ay tm s) (iI hp sz (ay tm x)):=by
 simp only [cw,BW]
 cases iI hp sz (ay tm x) with
 | none=>rfl
 | some q=>obtain ⟨m,new⟩:=q;cases ay tm s<;>rfl
def amE (sz id o n:Nat):iI hp sz (.aE id o n)=kS hp sz (.aE id o n):=rfl
def amF (sz:Nat) (e:Bool) (n:Nat) (cs:List AV):iI hp sz (.aC e n cs)=kS hp sz (.aC e n cs):=rfl
def alZ (sz:Nat):iI hp sz .ae=some (0,[]):=rfl
def atC (o n sz:Nat) (q:Option Obj):Option (Nat×List AV):=match q with | some (.cells _ _ _ _ cs)=>bif yy (o+n*sz) cs.length then some (n,slice o (n*sz) cs) else none | _=>none
def al0 (sz id o n:Nat):kS hp sz (.aE id o n)=atC o n sz (aA hp id):=rfl
def ayn (rw pu ex:Bool) (z:Nat) (v:AV):atC 0 1 1 (some (.cells rw pu ex z [v]))=some (1,[v]):=rfl
def kP {sz bV:Nat} {new:List AV} {m:Nat} (hm:0<m) (h1:m<=1099511627776) (h2:m*bV<=1099511627776) (hs:0<sz):
  BW hp ct sz bV .ae (some (m,new))=some (.aE ct 0 m,(ct,.cells true (aI new) false sz new)::hp,ct+1):=by
 have e1:yq m 0=false:=gn (by omega);have e2:yK 0 sz=true:=yt hs;simp [BW,e1,e2,yt (show m<=room from h1),yt (show m*bV<=room from h2)]
def jX {sz bV id n m:Nat} {pu ex:Bool} {cs new:List AV} (hg:aA hp id=some (.cells true pu ex sz cs)) (hl:cs.length=n*sz) (h1:n+m<=1099511627776) (h2:(n+m)*bV<=1099511627776) (hs:0<sz) (ho:cF new=true):
  BW hp ct sz bV (.aE id 0 n) (some (m,new))=some (.aE ct 0 (n+m),(ct,.cells true (pu&&aI new) false sz (cs++new))::dX hp id,ct+1):=by
 have e2:yK 0 sz=true:=yt hs;simp only [BW,hg];simp [e2,ho,yt (show n+m<=room from h1),yt (show (n+m)*bV<=room from h2),<-hl,slice,yt (yB cs.length)]
def aiD (n:Nat) (g:Nat) (cap:List AV) (q:Option (List AV×Hp)):Option (AV×Hp):=match q with | some (first,hp)=>(match cA n hp cap with | some (Lq,iO)=>some (.fn (.f g) first Lq,iO) | none=>none) | none=>none
def aiE (g:Nat) (first:List AV) (q:Option (List AV×Hp)):Option (AV×Hp):=match q with | some (cap,hp)=>some (.fn (.f g) first cap,hp) | none=>none
def avW (n g:Nat) (first cap:List AV):freeze (n+1) hp (.fn (.f g) first cap)=aiD n g cap (cA n hp first):=rfl
def avX (n g:Nat) (first cap:List AV):aiD n g cap (some (first,hp))=aiE g first (cA n hp cap):=rfl
def avY (g:Nat) (first cap:List AV):aiE g first (some (cap,hp))=some (.fn (.f g) first cap,hp):=rfl
def aiF (o:Nat) (q:Option (Bool×Nat×List AV×Hp)):Option (AV×Hp):=match q with | some (_,_,cs,hp)=>some (.b7 (cs.drop o),hp) | none=>none
def asb (n id o:Nat):freeze (n+1) hp (.ptr id o)=aiF o (pV n hp id):=rfl
def avZ (o:Nat) (ex:Bool) (sz:Nat) (cs:List AV):aiF o (some (ex,sz,cs,hp))=some (.b7 (cs.drop o),hp):=rfl
def kE (o k:Nat) (q:Option (Bool×Nat×List AV×Hp)):Option (AV×Hp):=
 match q with
 | some (ex,sz,cs,hp)=>bif yy (o+k*sz) cs.length then some (.aC (ex&&yK 0 sz&&yq (o+k*sz) cs.length) k (slice o (k*sz) cs),hp) else none
 | none=>none
def asc (n id o k:Nat):freeze (n+1) hp (.aE id o k)=kE o k (pV n hp id):=rfl
def rG {sz k:Nat} {cs:List AV} (ex:Bool) (hl:cs.length=k*sz) (hs:0<sz):kE 0 k (some (ex,sz,cs,hp))=some (.aC ex k cs,hp):=by
 have e2:yK 0 sz=true:=yt hs;simp [kE,<-hl,e2,slice,yt (yB cs.length)]
def Wf (n id:Nat) (hp:Hp) (q:Option Obj):Option (Bool×Nat×List AV×Hp):=
 match q with
 | some (.cells rw pu ex sz cs)=>
  bif pu then some (ex,sz,cs,bif rw then bf hp id (.cells false true ex sz cs) else hp)
  else match cA n hp cs with
   | some (dH,ap)=>some (ex,sz,dH,bf ap id (.cells false false ex sz cs))
   | none=>none
 | _=>none
def asd (n id:Nat):pV (n+1) hp id=Wf n id hp (aA hp id):=rfl
def av0 (n id:Nat) (ex:Bool) (sz:Nat) (cs:List AV):Wf n id hp (some (.cells true true ex sz cs))=some (ex,sz,cs,bf hp id (.cells false true ex sz cs)):=rfl
def av1 (n id:Nat) (ex:Bool) (sz:Nat) (cs:List AV):Wf n id hp (some (.cells false true ex sz cs))=some (ex,sz,cs,hp):=rfl
def b5 (n:Nat) (cs:List AV) (h:cA n hp cs=some (cs,hp)):freeze (n+1) hp (.agg cs)=some (.agg cs,hp):=by
 simp only [freeze,h]
def Zs {id n sz:Nat} {ex:Bool} {cs:List AV} (hg:aA hp id=some (.cells true true ex sz cs)) (hl:cs.length=n*sz) (hs:0<sz):result hp (.aE id 0 n)=some (.bE ex sz n cs):=by
 have e2:yK 0 sz=true:=yt hs;simp only [result,Bb,hg,yh,<-hl,yt (yB cs.length),yz,e2,uT,slice,yu,xH]
 simp
def alk (b:Bool):result hp (.aa [.ae,.bool b])=some (.aa [.ae,.bool b]):=rfl
def alm (k:xc) (b:Int):result hp (.aa [.ae,.int k b])=some (.aa [.ae,.int k b]):=rfl
def aln (e:Bool) (n:Nat) (cs:List AV) (k:xc) (b:Int):result hp (.aa [.aC e n cs,.int k b])=some (.aa [.aC e n cs,.int k b]):=rfl
def an2 (s:St):nS [] s=some s:=rfl
def XP (t:Nat) (r:List Nat) (tm:Env) (ct base:Nat) (q:Option (AV×Hp)):Option St:=match q with | some (v,hp)=>nS r ⟨(t,v)::tm,hp,ct,base⟩ | none=>none
def amG (t:Nat) (r:List Nat) (tm:Env) (hp:Hp) (ct base:Nat):nS (t::r) ⟨tm,hp,ct,base⟩=XP t r tm ct base (freeze deep hp (aj tm t)):=by
 simp only [nS,XP];cases freeze deep hp (aj tm t)<;>rfl
def ayo (t:Nat) (r:List Nat) (tm:Env) (ct base:Nat) (v:AV) (hp:Hp):XP t r tm ct base (some (v,hp))=nS r ⟨(t,v)::tm,hp,ct,base⟩:=rfl
end
attribute [go_sem] alk alm aln anT amB anU amC anV anW anX apV anY aeu apW ar6 apX ar7 ar8 ar9 avP apY aae
 anZ amD avQ avR ayf azu avS avT avU ayg aa2 agN azv asa apZ an0 ayh ayi ayj ayk ayl aym avV
 an1 amE amF alZ al0 ayn avW avX avY asb avZ asc rG aev PM asd av0 av1 an2 amG ayo
 Bool.and_false wB yu eq_self
def aa3:∀hp:Hp,iF 0 hp=[]
 | []=>rfl
 | (id,o)::r=>by
  have:yK id 0=false:=rfl
  simp only [iF,this,yY,aa3 r]
def afw (f:Nat->Option Nat):∀hp:Hp,kY 0 f hp=[]
 | []=>rfl
 | (id,o)::r=>by
  have:yK id 0=false:=rfl
  simp only [kY,this,yY,afw f r]
def pos (seen:List Nat):Nat->Option Nat:=fun id=>lh id seen 0
def Wg (tm:Env) (hp:Hp) (seen:List Nat):St:=⟨jK (pos seen) tm,jF hp (pos seen) seen 0 [],seen.length,0⟩
def rh (hp:Hp):Nat->List Nat->List Nat->List Nat:=reach hp 0
def aB (live:List Nat) (tm:Env) (hp:Hp) (ct:Nat):aQ live ⟨tm,hp,ct,0⟩=Wg (dF tm live) hp (rh hp 100000 (iK (dF tm live)) []):=by
 have e:∀seen,jE 0 seen=pos seen:=fun seen=>by
  funext id
  have:yK id 0=false:=rfl
  simp only [jE,this,yY,pos]
 simp only [aQ,aa3,xZ,e,afw,Wg,rh,yh]
def an3:iK []=[]:=rfl
def amH (i:Nat) (v:AV) (r:Env):iK ((i,v)::r)=refs v++iK r:=rfl
def ap0 (k:xc) (n:Int):refs (.int k n)=[]:=rfl
def an4 (b:Bool):refs (.bool b)=[]:=rfl
def ap1 (s:List Nat):refs (.str s)=[]:=rfl
def an5:refs .ae=[]:=rfl
def ap2 (e:Bool) (n:Nat) (cs:List AV):refs (.aC e n cs)=[]:=rfl
def an6 (cs:List AV):refs (.b7 cs)=[]:=rfl
def amI:refs .undef=[]:=rfl
def ap3 (id o:Nat):refs (.ptr id o)=[id]:=rfl
def ap4 (id o n:Nat):refs (.aE id o n)=[id]:=rfl
def ase (g:Nat) (a b:List AV):refs (.fn (.f g) a b)=iJ a++iJ b:=rfl
def av2 (l:Nat) (a b:List AV):refs (.fn (.y l) a b)=[l]:=rfl
def ap5 (cs:List AV):refs (.agg cs)=iJ cs:=rfl
def an7:iJ []=[]:=rfl
def amJ (v:AV) (r:List AV):iJ (v::r)=refs v++iJ r:=rfl
def MY (hp:Hp) (n id:Nat) (ie seen:List Nat) (q:Option Obj):List Nat:=match q with | some o=>rh hp n (nQ o++ie) (seen++[id]) | none=>rh hp n ie seen
def MZ (hp:Hp) (n id:Nat) (ie seen:List Nat) (b:Bool):List Nat:=bif b then rh hp n ie seen else MY hp n id ie seen (aA hp id)
def asf (hp:Hp) (n:Nat) (seen:List Nat):rh hp (n+1) [] seen=seen:=rfl
def ap6 (hp:Hp) (n id:Nat) (ie seen:List Nat):rh hp (n+1) (id::ie) seen=MZ hp n id ie seen (kx id seen):=by
 have:yK id 0=false:=rfl
 simp only [rh,reach,this,uU,MZ,MY]
 cases kx id seen with
 | true=>rfl
 | false=>simp only [yY];cases aA hp id<;>rfl
def av3 (hp:Hp) (n id:Nat) (ie seen:List Nat):MZ hp n id ie seen true=rh hp n ie seen:=rfl
def av4 (hp:Hp) (n id:Nat) (ie seen:List Nat):MZ hp n id ie seen false=MY hp n id ie seen (aA hp id):=rfl
def av5 (hp:Hp) (n id:Nat) (ie seen:List Nat) (o:Obj):MY hp n id ie seen (some o)=rh hp n (nQ o++ie) (seen++[id]):=rfl
def ap7 (i:Nat):kx i []=false:=rfl
def ap8 (i:Nat) (r:List Nat):kx i (i::r)=true:=by simp only [kx,wu,yz]
def an8 {i j:Nat} (r:List Nat) (h:j≠i):kx i (j::r)=kx i r:=by simp only [kx,gn h,yY]
def asg (rw ex:Bool) (sz:Nat) (cs:List AV):nQ (.cells rw true ex sz cs)=[]:=rfl
def ash (rw ex:Bool) (sz:Nat) (cs:List AV):nQ (.cells rw false ex sz cs)=iJ cs:=rfl
def ap9 (tm:Env) (ps:List Nat) (a b:VC) (st:Nat) (pe:r7):nQ (.lp tm ps a b st pe)=iK tm:=rfl
def asi (i:Nat) (r:List Nat) (k:Nat):lh i (i::r) k=some k:=by simp only [lh,wu,yz]
def aqa {i j:Nat} (r:List Nat) (k:Nat) (h:j≠i):lh i (j::r) k=lh i r (k+1):=by simp only [lh,gn h,yY]
def agO (o:Nat) (q:Option Nat):AV:=match q with | some j=> .ptr j o | none=> .undef
def agP (o n:Nat) (q:Option Nat):AV:=match q with | some j=> .aE j o n | none=> .undef
def aqb (s:List Nat):jK (pos s) []=[]:=rfl
def an9 (s:List Nat) (i:Nat) (v:AV) (r:Env):jK (pos s) ((i,v)::r)=(i,bT (pos s) v)::jK (pos s) r:=rfl
def asj (s:List Nat) (k:xc) (n:Int):bT (pos s) (.int k n)= .int k n:=rfl
def aqc (s:List Nat) (b:Bool):bT (pos s) (.bool b)= .bool b:=rfl
def asl (s:List Nat) (t:List Nat):bT (pos s) (.str t)= .str t:=rfl
def aqd (s:List Nat):bT (pos s) .ae= .ae:=rfl
def asm (s:List Nat) (e:Bool) (n:Nat) (cs:List AV):bT (pos s) (.aC e n cs)= .aC e n cs:=rfl
def aqe (s:List Nat) (cs:List AV):bT (pos s) (.b7 cs)= .b7 cs:=rfl
def aoa (s:List Nat):bT (pos s) .undef= .undef:=rfl
def asn (s:List Nat) (id o:Nat):bT (pos s) (.ptr id o)=agO o (lh id s 0):=rfl
def aso (s:List Nat) (id o n:Nat):bT (pos s) (.aE id o n)=agP o n (lh id s 0):=rfl
def av6 (s:List Nat) (g:Nat) (a b:List AV):bT (pos s) (.fn (.f g) a b)= .fn (.f g) (fe (pos s) a) (fe (pos s) b):=rfl
def asp (s:List Nat) (cs:List AV):bT (pos s) (.agg cs)= .agg (fe (pos s) cs):=rfl
def aqf (s:List Nat):fe (pos s) []=[]:=rfl
def aob (s:List Nat) (v:AV) (r:List AV):fe (pos s) (v::r)=bT (pos s) v::fe (pos s) r:=rfl
def asq (o j:Nat):agO o (some j)= .ptr j o:=rfl
def asr (o n j:Nat):agP o n (some j)= .aE j o n:=rfl
def Wh (hp:Hp) (f:Nat->Option Nat) (r:List Nat) (k:Nat) (acc:Hp) (q:Option Obj):Hp:=match q with | some o=>jF hp f r (k+1) ((k,kw f o)::acc) | none=>jF hp f r (k+1) acc
def aoc (hp:Hp) (s:List Nat) (k:Nat) (acc:Hp):jF hp (pos s) [] k acc=acc:=rfl
def amK (hp:Hp) (s:List Nat) (id:Nat) (r:List Nat) (k:Nat) (acc:Hp):jF hp (pos s) (id::r) k acc=Wh hp (pos s) r k acc (aA hp id):=by
 simp only [jF,Wh];cases aA hp id<;>rfl
def av7 (hp:Hp) (s r:List Nat) (k:Nat) (acc:Hp) (o:Obj):Wh hp (pos s) r k acc (some o)=jF hp (pos s) r (k+1) ((k,kw (pos s) o)::acc):=rfl
def av8 (f:Nat->Option Nat) (rw ex:Bool) (sz:Nat) (cs:List AV):kw f (.cells rw true ex sz cs)= .cells rw true ex sz cs:=rfl
def av9 (f:Nat->Option Nat) (rw ex:Bool) (sz:Nat) (cs:List AV):kw f (.cells rw false ex sz cs)= .cells rw false ex sz (fe f cs):=rfl
def ass (f:Nat->Option Nat) (tm:Env) (ps:List Nat) (a b:VC) (st:Nat) (pe:r7):kw f (.lp tm ps a b st pe)= .lp (jK f tm) ps a b st pe:=rfl
def ast (tm:Env) (hp:Hp) (seen:List Nat):Wg tm hp seen=⟨jK (pos seen) tm,jF hp (pos seen) seen 0 [],seen.length,0⟩:=rfl
attribute [go_sem] an3 amH ap0 an4 ap1 an5 ap2 an6 amI ap3 ap4 ase av2 ap5 an7 amJ asf ap6 av3 av4 av5
 ap7 ap8 an8 asg ash ap9 asi aqa aqb an9 asj aqc asl aqd asm aqe aoa asn aso av6 asp aqf aob asq asr
 aoc amK av7 av8 av9 ass ast yO yR
section
variable {P:aK} {L:Lib}
def bI (k id o:Nat):G5 k (.ptr id o)=some (.ptr id (o+k)):=rfl
def cx {α:Type} (a:α) (l:List α):vZ 1 (a::l)=l:=rfl
def ayp {α:Type} (a b:α) (l:List α):vZ 2 (a::b::l)=l:=rfl
def agQ {α:Type} (a b c:α) (l:List α):vZ 3 (a::b::c::l)=l:=rfl
abbrev Nm (n:Int):AV:= .agg [ab n,.ae]
def qd (hp:Hp) (ct id:Nat) (a:Int) (x y:AV):jT hp ct id 0 2 [.int .i64 a,.ae] (some (.cells true true true 2 [x,y]))=some (.aa [],bf hp id (.cells true true true 2 [.int .i64 a,.ae]),ct):=rfl
def dM (b:Bool):Ib false (some b)=some (.bool b):=by cases b<;>rfl
def afx (f:cm) (tm:Env) (hp:Hp) (ct:Nat) (x y:X):a7 P L f tm hp ct (.mn [x,y])=rd hp ct (min2 (ay tm x) (ay tm y)):=by
 simp only [a7,rd,bl,cW,zL]
 grind
def lQ (f:cm) (tm:Env) (hp:Hp) (ct:Nat) (x y:X):a7 P L f tm hp ct (.mx [x,y])=rd hp ct (max2 (ay tm x) (ay tm y)):=by
 simp only [a7,rd,bl,cW,zL]
 grind
def aa4 (k k':xc) (x y:Int):min2 (.int k x) (.int k' y)=some (.int k (if y<x then y else x)):=rfl
def nE (k k':xc) (x y:Int):max2 (.int k x) (.int k' y)=some (.int k (if y>x then y else x)):=rfl
def bL (n:Int):Int:=if n<0 then -1 else if n=0 then 0 else 1
def awa (n:Int):(if (if n<1 then n else 1)> -1 then (if n<1 then n else 1) else -1)=bL n:=by
 unfold bL
 grind
def n117 (h:Has P L 117 LC) (n:Int):ai P L 117 [ab n] (Nm n):=by
 unfold ai;rw [aF h];simp only [go_sem,ya,yd,Nat.reduceLeDiff,LC,aY,yh,qd];rfl
def nV (hp:Hp) (p q:Bool):ja .b (.bool p) (.bool q)=some (p==q):=rfl
def gK {n:Nat} {sp:List AV->Option AV} (h:L.pure n=some sp) {f:cm} (ao:List AV):bG P L f n ao=sp ao:=by simp only [bG,h]
abbrev U64 (n:Int):AV:= .int .u64 n
def ayq {n:Int} (h1:0<=n) (h2:n<18446744073709551616):IntKind.wrap .u64 n=n:=by
 simp only [IntKind.wrap,IntKind.signed,IntKind.bits]
 grind
def afy (n:Int):fZ (.toInt .u64) (ab n)=some (U64 (IntKind.wrap .u64 n)):=rfl
def KO (n:Int):fZ (.toInt .i64) (U64 n)=some (ab (IntKind.wrap .i64 n)):=rfl
def GZ (b:Bool):Ib true (some b)=some (.bool (!b)):=by cases b<;>rfl
def cf (a b:AV) (r:List AV):il 2 true (a::b::r)=some (.agg [a,b]):=rfl
def dO (a b c d:AV) (r:List AV):il 4 true (a::b::c::d::r)=some (.agg [a,b,c,d]):=rfl
def aod {a b:Int} (hb:0<b):(a.tmod b<0->a/b=a.tdiv b-1/\a%b=a.tmod b+b)/\(¬a.tmod b<0->a/b=a.tdiv b/\a%b=a.tmod b):=by
 have h1:=Int.mul_tdiv_add_tmod a b;have h2:a.tmod b<b:=Int.tmod_lt_of_pos a hb;have h3: -b<a.tmod b:=Int.lt_tmod_of_pos a hb;refine ⟨fun h=>(tD hb).2 ⟨?_,?_,?_⟩,fun h=>(tD hb).2 ⟨?_,?_,?_⟩⟩
 ·grind
 ·omega
 ·omega
 ·omega
 ·omega
 ·omega
def aqg (a b:Nat) (hb:b≠0):wm b (a%b)=wm a b:=by
 rw [tr b,<-ycj,tr]
end
def cT (a b:Int):Int:=a/(wE a b:Nat)
def cY (a b:Int):Int:=b/(wE a b:Nat)
def Ky {a b:Int} (hb:0<b):(0:Int)<(wE a b:Nat):=by
 have:=Int.gcd_pos_of_ne_zero_right a (show b≠0 by omega)
 omega
def awb (a b:Int):a=(wE a b:Nat)*cT a b:=(yay (tH a b)).symm
def awc (a b:Int):b=(wE a b:Nat)*cY a b:=(yay (tA a b)).symm
def Ga {a b:Int} (hb:0<b):0<cY a b:=by
 have h1:=Ky (a:=a) hb;have h2:=awc a b;rcases Int.lt_trichotomy (cY a b) 0 with h | h | h
 ·have:=Int.mul_neg_of_pos_of_neg h1 h;omega
 ·grind
 ·exact h
def aa5 (a b:Int):(cT a b).natAbs<=a.natAbs:=by
 unfold cT;rw [uo (tH a b)];exact wI _ _
def aa6 (a b:Int):(cY a b).natAbs<=b.natAbs:=by
 unfold cY;rw [uo (tA a b)];exact wI _ _
def n7 (a b:Int):List Nat:=if cY a b=1 then aW (cT a b) else aW (cT a b)++[47]++aW (cY a b)
def agR {a b:Nat} (h:¬a<b):yK a b=false:=by
 cases hb:yK a b with
 | false=>rfl
 | true=>exact absurd (yp hb) (by omega)
def PN:∀(f n:Nat) (acc:List Nat),n<f->lL f n acc=lL f n []++acc
 | 0,_,_,h=>by omega
 | f+1,n,acc,h=>by
  simp only [lL];by_cases h1:n<10
  ·rw [show yK n 10=true from yt h1];rfl
  ·rw [show yK n 10=false from agR (by omega)];rw [PN f (n/10) _ (by omega),PN f (n/10) [48+n%10] (by omega)]
   simp
def O5 {f n:Nat} (h:n<10):lL (f+1) n []=[48+n]:=by
 simp only [lL];rw [show yK n 10=true from yt h];rfl
def PO {f n:Nat} (h:¬n<10) (hf:n<=f):lL (f+1) n []=lL f (n/10) []++[48+n%10]:=by
 rw [<-PN f (n/10) _ (by omega)];simp only [lL];rw [show yK n 10=false from agR (by omega)];rfl
def aqh:∀(n f:Nat),n<f->lL f n []=ax n:=by
 intro n
 induction n using vh with
 | _ n ih=>
  intro f hf;obtain ⟨g,rfl⟩:∃g,f=g+1:=⟨f-1,by omega⟩;by_cases h:n<10
  ·rw [O5 h];unfold ax;rw [O5 h]
  ·rw [PO h (by omega),ih (n/10) (by omega) g (by omega)];unfold ax;rw [PO h (yB n),ih (n/10) (by omega) n (by omega)];rfl
def nD {n:Nat} (h:n<10):ax n=[48+n]:=O5 h
def oU {n:Nat} (h:¬n<10):ax n=ax (n/10)++[48+n%10]:=by
 rw [show ax n=lL (n+1) n [] from rfl,PO h (yB n),aqh (n/10) n (by omega)]
def oV:∀{k n:Nat},n<10^(k+1)->(ax n).length<=k+1
 | 0,n,h=>by rw [nD (by simpa using h)];simp
 | k+1,n,h=>by
  by_cases h1:n<10
  ·rw [nD h1];simp
  ·rw [oU h1,y5]
   have:n/10<10^(k+1):=by
    grind
   have:=oV this
   grind
def JP {n:Nat} (h:n<18446744073709551616):(ax n).length<=20:=oV (k:=19) (by omega)
def kQ (n:Nat):aW (n:Int)=ax n:=rfl
def nF {n:Int} (h:n<0):aW n=45::ax n.natAbs:=by
 cases n with
 | ofNat n=>exact absurd h (by simp)
 | negSucc n=>rfl
def bJ:List Nat->Nat
 | []=>0
 | b::r=>if b=47 then 0 else bJ r+1
def al1 {s:List Nat} {i:Nat} (h:i<s.length):bJ (s.drop i)=if s[i]=47 then 0 else bJ (s.drop (i+1))+1:=by
 rw [yX h];rfl
def F0:∀s:List Nat,bJ s<=s.length
 | []=>yB _
 | b::r=>by
  unfold bJ
  have:=F0 r
  grind
def cN:List Nat->Bool
 | []=>true
 | b::r=>yy 48 b&&yy b 57&&cN r
def JB:∀(a b:List Nat),cN (a++b)=(cN a&&cN b)
 | [],b=>by simp [cN]
 | x::a,b=>by simp [cN,JB a b,Bool.and_assoc]
def F1 (n:Nat):cN (ax n)=true:=by
 induction n using vh with
 | _ n ih=>
  by_cases h:n<10
  ·rw [nD h];simp [cN];omega
  ·rw [oU h,JB,ih (n/10) (by omega)];simp [cN];omega
def JC:∀{s:List Nat} (r:List Nat),cN s=true->bJ (s++r)=s.length+bJ r
 | [],r,_=>by simp
 | b::s,r,h=>by
  simp only [cN,yf] at h;have h1:=yp h.1.1;simp only [xh,bJ,yO];rw [yv (by omega),JC r h.2];omega
def JD:∀(l:List Nat) (a d:Nat),d<10->cy (l++[48+d]) a=(cy l a).map (fun v=>10*v+d)
 | [],a,d,h=>by
  simp only [xT,cy];rw [show yy 48 (48+d)=true from yt (by omega),show yy (48+d) 57=true from yt (by omega)]
  simp
 | b::l,a,d,h=>by
  simp only [xh,cy]
  cases (yy 48 b&&yy b 57) with
  | true=>exact JD l _ d h
  | false=>rfl
def CN (n:Nat):cy (ax n) 0=some n:=by
 induction n using vh with
 | _ n ih=>
  by_cases h:n<10
  ·rw [nD h]
   have:=JD [] 0 n h
   simpa [cy] using this
  ·rw [oU h,JD _ _ _ (by omega),ih (n/10) (by omega)]
   simp;omega
def aoe {s:List Nat} {i a v:Nat} (h:i<s.length) (hv:cy (s.drop i) a=some v):48<=s[i]/\s[i]<=57/\cy (s.drop (i+1)) (10*a+(s[i]-48))=some v:=by
 rw [yX h] at hv;simp only [cy] at hv
 cases hb:(yy 48 s[i]&&yy s[i] 57) with
 | false=>rw [hb] at hv;cases hv
 | true=>
  simp_all
def gP:Nat->Nat->List Nat
 | 0,_=>[]
 | k+1,n=>gP k (n/10)++[48+n%10]
def Pv:∀k n,(gP k n).length=k
 | 0,_=>rfl
 | k+1,n=>by simp [gP,Pv k]
def Kg:∀(k m r:Nat),0<m->r<10^k->ax (m*10^k+r)=ax m++gP k r
 | 0,m,r,_,h=>by simp at h;subst h;simp [gP]
 | k+1,m,r,hm,h=>by
  have h1:m*10^(k+1)+r=(m*10^k)*10+r:=by grind
  have hp:0<m*10^k:=wY hm (Nat.pow_pos (by decide));have e1:(m*10^(k+1)+r)/10=m*10^k+r/10:=by omega
  have e2:(m*10^(k+1)+r)%10=r%10:=by omega
  rw [oU (by omega),e1,e2,Kg k m (r/10) hm (by rw [yZ] at h;omega)];simp [gP]
def aa7:∀(k r a:Nat),r<10^k->cy (gP k r) a=some (a*10^k+r)
 | 0,r,a,h=>by simp at h;subst h;simp [gP,cy]
 | k+1,r,a,h=>by
  rw [gP,JD _ _ _ (xu _ (by decide)),aa7 k (r/10) a (by omega)];simp only [wz,yb,yZ]
  grind
def aqi {m:Nat} (h:1000000000<=m):ax m=ax (m/1000000000)++gP 9 (m%1000000000):=by
 have:=Kg 9 (m/1000000000) (m%1000000000) (by omega) (by omega)
 grind
def gF (s:List Nat) (l h:Option Nat):Option AV:=
 match l,h with
 | some l,some h=>bif yy l h&&yy h s.length then some (.str ((s.take h).drop l)) else none
 | _,_=>none
def eb (hp:Hp) (s:List Nat) (tm:Env) (lo hi:Option X):eV hp .str (.str s) tm lo hi=gF s (cM tm 0 lo) (cM tm s.length hi):=by
 unfold gF;simp only [eV]
 grind
def eE (tm:Env) (d:Nat):cM tm d none=some d:=rfl
def df (tm:Env) (d:Nat) (x:X):cM tm d (some x)=dw (ay tm x):=rfl
def jY {s:List Nat} {l h:Nat} (h1:l<=h) (h2:h<=s.length):gF s (some l) (some h)=some (.str ((s.take h).drop l)):=by
 simp [gF,yt h1,yt h2]
def fN {a b:List Nat} (h:a.length+b.length<=9223372036854775807):binOp .add (.str a) (.str b)=some (.str (a++b)):=by
 show G4 .add a b=_
 simp only [G4,yt h,yz]
def asu (k:xc) (n:Int):fZ (.toInt .i64) (.int k n)=some (ab (IntKind.wrap .i64 n)):=rfl
def jk (a b:List Nat):binOp .eql (.str a) (.str b)=some (.bool (cG a b)):=rfl
def oY {s:List Nat} {i:Nat} (h:i<s.length):lS i (.str s)=some (.int .u8 (s[i]:Nat)):=by
 simp only [lS,wx h]
def Zt {r:Nat} (h:r<10):gF [48,49,50,51,52,53,54,55,56,57] (some r) (some (r+1))=some (.str [48+r]):=by
 have:r=0\/r=1\/r=2\/r=3\/r=4\/r=5\/r=6\/r=7\/r=8\/r=9:=by omega
 rcases this with rfl | rfl | rfl | rfl | rfl | rfl | rfl | rfl | rfl | rfl<;>rfl
section
variable {P:aK} {L:Lib}
def Wi (h:Has P L 292 sf) {n:Nat} (hn:n<9223372036854775808):ai P L 292 [ab n,ab 1] (.str (ax n)):=by
 have key:=kO (P:=P) (L:=L) (live:=[0,1,5]) (a:=mB)
  (I:=fun k st=>∃(m:Nat) (s:List Nat),st=⟨[(0,ab m),(1,ab 1),(5,.str s)],[],0,0⟩/\m<=n/\m+(1-s.length)=k/\s.length<=20/\((s=[]/\m=n)\/(0<s.length/\(m=0->s=ax n)/\(0<m->ax n=ax m++s))))
  (Q:=fun ex st=>∃tm ct,st=⟨tm,[],ct,0⟩/\ex= .exit 0/\aj tm 5= .str (ax n)) ?_
 ·unfold ai;rw [aF h];simp only [go_sem,sf];generalize hq:D P L (.loop [0,1,5] mB) _=q;obtain ⟨ex,st,rfl,tm,ct,rfl,rfl,h2⟩:=b6 hq (key (n+1)) ⟨n,[],by simp only [go_sem,ya,aB]<;>rfl,by omega,rfl,by simp,.inl ⟨rfl,rfl⟩⟩
  simp only [go_sem,aB,h2]
 ·rintro k st ⟨m,s,rfl,hm,hk,hl,hs⟩;by_cases ri:0<m\/s.length<1
  ·left
   have hc:((decide ((0:Int)<m))=true)\/((decide ((0:Int)<m))=false/\((s.length:Nat):Int)<1):=by
    by_cases h0:0<m
    ·exact .inl (xa (by omega))
    ·exact .inr ⟨yM (by omega),by omega⟩
   have hr:((m:Int)).tmod 10=((m%10:Nat):Int):=by rw [xz (by omega)];rfl
   have hq:((m:Int)).tdiv 10=((m/10:Nat):Int):=by rw [xE (by omega)];rfl
   have hd:=Zt (r:=m%10) (by omega);have fin:∃s' k',D P L mB ⟨[(0,ab m),(1,ab 1),(5,.str s)],[],0,0⟩=some (.normal,s')/\k'<k/\aQ [0,1,5] s'=⟨[(0,ab (m/10:Nat)),(1,ab 1),(5,.str ([48+m%10]++s))],[],0,0⟩/\m/10+(1-([48+m%10]++s).length)=k':=by
    rcases hc with hc | ⟨hc,qZ⟩
    ·have hc:(0:Int)<m:=of_decide_eq_true hc
     simp only [go_sem,ya,yd,mB,hc,eP _ _ _ (show (10:Int)≠0 by decide),eH _ _ _ (show (10:Int)≠0 by decide),hr,hq,wrapN (n:=m%10+1) (by omega),wrap64 (n:=((m/10:Nat):Int)) (by omega) (by omega),eb,df,show ((m%10:Nat):Int)+1=((m%10+1:Nat):Int) from rfl,hd,fN (a:=[48+m%10]) (b:=s) (by simp;omega)];refine ⟨_,_,rfl,?_,by simp only [go_sem,ya,aB],rfl⟩
     simp;omega
    ·have hc:¬(0:Int)<m:=of_decide_eq_false hc
     simp only [go_sem,ya,yd,mB,hc,qZ,eP _ _ _ (show (10:Int)≠0 by decide),eH _ _ _ (show (10:Int)≠0 by decide),hr,hq,wrapN (n:=m%10+1) (by omega),wrap64 (n:=((m/10:Nat):Int)) (by omega) (by omega),eb,df,show ((m%10:Nat):Int)+1=((m%10+1:Nat):Int) from rfl,hd,fN (a:=[48+m%10]) (b:=s) (by simp;omega)];refine ⟨_,_,rfl,?_,by simp only [go_sem,ya,aB],rfl⟩
     simp;omega
   obtain ⟨s',k',f1,f2,f3,f4⟩:=fin;refine ⟨s',k',f1,f2,m/10,[48+m%10]++s,f3,by omega,f4,?_,.inr ⟨by simp,fun h0=>?_,fun h0=>?_⟩⟩
   ·have aGv:=JP (n:=n) (by omega);rcases hs with ⟨rfl,rfl⟩ | ⟨h1,h2,h3⟩
    ·simp
    ·by_cases h0:0<m
     ·have e:=congrArg tG (h3 h0);have e2:0<(ax m).length:=by
       by_cases h9:m<10
       ·rw [nD h9];simp
       ·rw [oU h9];simp
      simp only [y5] at e
      simp;omega
     ·omega
   ·have h9:m<10:=by omega
    rcases hs with ⟨rfl,rfl⟩ | ⟨h1,h2,h3⟩
    ·rw [nD h9,yF h9];rfl
    ·have:0<m:=by omega
     rw [h3 this,nD h9,yF h9]
   ·have h9:¬m<10:=by omega
    rcases hs with ⟨rfl,rfl⟩ | ⟨h1,h2,h3⟩
    ·rw [oU h9];simp
    ·rw [h3 (by omega),oU h9];simp
  ·right
   simp only [go_sem,ya,mB,show ¬(0:Int)<m by omega,show ¬((s.length:Nat):Int)<1 by omega];refine ⟨_,_,rfl,by simp,_,_,rfl,rfl,?_⟩;simp only [go_sem,ya];rcases hs with ⟨rfl,rfl⟩ | ⟨h1,h2,h3⟩
   ·simp at ri
   ·rw [h2 (by omega)]
def azw (h:Has P L 291 HM) {a b:Nat} (ha:a<9223372036854775808) (hb:b<9223372036854775808):ai P L 291 [ab a,ab b] (ab (wm a b)):=by
 have key:=kO (P:=P) (L:=L) (live:=[0,1]) (a:=GP)
  (I:=fun k st=>∃x y:Nat,st=⟨[(0,ab x),(1,ab y)],[],0,0⟩/\y=k/\wm x y=wm a b)
  (Q:=fun ex st=>∃tm ct,st=⟨tm,[],ct,0⟩/\ex= .exit 0/\aj tm 0=ab (wm a b)) ?_
 ·unfold ai;rw [aF h];simp only [go_sem,HM];generalize hq:D P L (.loop [0,1] GP) _=q;obtain ⟨ex,st,rfl,tm,ct,rfl,rfl,h2⟩:=b6 hq (key b) ⟨a,b,by simp only [go_sem,ya,aB]<;>rfl,rfl,rfl⟩
  simp only [go_sem,aB,h2]
 ·rintro k st ⟨x,y,rfl,rfl,hg⟩;by_cases hy:y=0
  ·right
   subst hy;simp only [go_sem,ya,GP,show ¬(0:Int)<((0:Nat):Int) by omega];refine ⟨_,_,rfl,by simp,_,_,rfl,rfl,?_⟩;simp only [go_sem,ya];rw [<-hg,Nat.gcd_zero_right]
  ·left
   have hr:((x:Int)).tmod y=((x%y:Nat):Int):=by rw [xz (by omega)];rfl
   simp only [go_sem,ya,GP,show (0:Int)<y by omega,eP _ _ _ (show (y:Int)≠0 by omega),hr];refine ⟨_,x%y,rfl,xu _ (by omega),y,x%y,by simp only [go_sem,ya,aB],rfl,?_⟩;rw [<-hg,tr y,<-ycj,tr]
def BX (h:Has P L 272 HI) {s:List Nat} (hl:s.length<9223372036854775808):ai P L 272 [.str s] (ab (bJ s)):=by
 have key:=kO (P:=P) (L:=L) (live:=[0,3]) (a:=C3)
  (I:=fun k st=>∃i:Nat,st=⟨[(0,.str s),(3,ab i)],[],0,0⟩/\i+k=s.length/\i+bJ (s.drop i)=bJ s)
  (Q:=fun ex st=>∃tm ct,st=⟨tm,[],ct,0⟩/\((ex= .ret/\aj tm 2=ab (bJ s))\/(ex= .exit 0/\aj tm 0= .str s/\bJ s=s.length))) ?_
 ·unfold ai;rw [aF h];simp only [go_sem,HI];generalize hq:D P L (.loop [0,3] C3) _=q;obtain ⟨ex,st,rfl,tm,ct,rfl,h2⟩:=b6 hq (key s.length) ⟨0,by simp only [go_sem,ya,aB]<;>rfl,by omega,by simp⟩
  rcases h2 with ⟨rfl,h2⟩ | ⟨rfl,h2,h3⟩
  ·simp only [go_sem,h2]
  ·simp only [go_sem,aB,h2,h3]
 ·rintro k st ⟨i,rfl,hk,hs⟩;by_cases hi:i<s.length
  ·rw [al1 hi] at hs;by_cases h7:s[i]=47
   ·right
    rw [yG h7] at hs;simp only [go_sem,ya,C3,show (i:Int)<s.length by omega,oY hi,show ((s[i]:Nat):Int)=47 by omega];refine ⟨_,_,rfl,by simp,_,_,rfl,.inl ⟨rfl,?_⟩⟩;simp only [go_sem];rw [<-hs];rfl
   ·left
    rw [yv h7] at hs;simp only [go_sem,ya,C3,show (i:Int)<s.length by omega,oY hi,show ¬((s[i]:Nat):Int)=47 by omega];refine ⟨_,k-1,rfl,by omega,i+1,?_,by omega,by omega⟩;rw [wrap64 (by omega) (by omega)];simp only [go_sem,ya,aB]<;>rfl
  ·right
   simp only [go_sem,ya,C3,show ¬(i:Int)<s.length by omega];refine ⟨_,_,rfl,by simp,_,_,rfl,.inr ⟨rfl,by simp only [go_sem,ya],?_⟩⟩;rw [xk (by omega)] at hs;simp only [bJ] at hs;omega
def Ie (h:Has P L 290 DA) {s:List Nat} {v:Nat} (hl:s.length<=18) (hv:cy s 0=some v):ai P L 290 [.str s] (ab v):=by
 have key:=kO (P:=P) (L:=L) (live:=[0,3,4]) (a:=GO)
  (I:=fun k st=>∃i a:Nat,st=⟨[(0,.str s),(3,ab a),(4,ab i)],[],0,0⟩/\i+k=s.length/\a<10^i/\cy (s.drop i) a=some v)
  (Q:=fun ex st=>∃tm ct,st=⟨tm,[],ct,0⟩/\ex= .exit 0/\aj tm 3=ab v) ?_
 ·unfold ai;rw [aF h];simp only [go_sem,DA];generalize hq:D P L (.loop [0,3,4] GO) _=q;obtain ⟨ex,st,rfl,tm,ct,rfl,rfl,h2⟩:=b6 hq (key s.length) ⟨0,0,by simp only [go_sem,ya,aB]<;>rfl,by omega,by simp,hv⟩
  simp only [go_sem,aB,h2]
 ·rintro k st ⟨i,a,rfl,hk,ha,hs⟩;by_cases hi:i<s.length
  ·left
   obtain ⟨h1,h2,h3⟩:=aoe hi hs;have hp:10^i<=10^17:=yT (by decide) (by omega);have hb:IntKind.wrap .i64 ((s[i]:Nat):Int)=((s[i]:Nat):Int):=wrap64 (by omega) (by omega)
   simp only [go_sem,ya,GO,show (i:Int)<s.length by omega,oY hi,asu,hb,wrap64 (n:=10*(a:Int)) (by omega) (by omega),wrap64 (n:=10*(a:Int)+(s[i]:Nat)) (by omega) (by omega),wrap64 (n:=10*(a:Int)+(s[i]:Nat)-48) (by omega) (by omega)];refine ⟨_,k-1,rfl,by omega,i+1,10*a+(s[i]-48),?_,by omega,?_,h3⟩
   ·rw [wrap64 (by omega) (by omega),show 10*(a:Int)+(s[i]:Nat)-48=((10*a+(s[i]-48):Nat):Int) by omega];simp only [go_sem,ya,aB]<;>rfl
   ·rw [yZ];omega
  ·right
   simp only [go_sem,ya,GO,show ¬(i:Int)<s.length by omega];refine ⟨_,_,rfl,by simp,_,_,rfl,rfl,?_⟩;rw [xk (by omega)] at hs;simp only [cy,yb] at hs;subst hs;simp only [go_sem,ya]
def Kz (a:Int):(if 0-a>a then 0-a else a)=(a.natAbs:Int):=by omega
def Kh (a b:Int):a.tdiv (wE a b:Nat)=cT a b:=yag (tH a b)
def Ki (a b:Int):b.tdiv (wE a b:Nat)=cY a b:=yag (tA a b)
def mq (n:Int):(if n<0 then [45] else [])++ax n.natAbs=aW n:=by
 split
 ·rename_i h;rw [nF h];rfl
 ·rename_i h;obtain ⟨m,rfl⟩:∃m:Nat,n=m:=⟨n.toNat,by omega⟩;rfl
def aqj {n:Int} (h:n.natAbs<18446744073709551616):(aW n).length<=21:=by
 rw [<-mq]
 have:=JP h
 grind
def asv {a b:Int} (hb:0<b):n7 a b=(if 1<cY a b then (aW (cT a b)++[47])++ax (cY a b).natAbs else aW (cT a b)):=by
 have h:=Ga (a:=a) hb;unfold n7;by_cases h1:cY a b=1
 ·grind
 ·rw [yv h1,yG (by omega)];obtain ⟨m,hm⟩:∃m:Nat,cY a b=m:=⟨(cY a b).toNat,by omega⟩;rw [hm];rfl
def azx (h:Has P L 277 BO) (Wj:Has P L 291 HM) (mM:Has P L 292 sf) {a b:Int} (ha: -4000000000000000000<=a/\a<=4000000000000000000) (hb:0<b/\b<=4000000000000000000):
  ai P L 277 [ab a,ab b] (.str (n7 a b)):=by
 have hn:=aa5 a b;have hd:=aa6 a b;have hp:=Ga (a:=a) hb.1;have e1:=azw Wj (a:=a.natAbs) (b:=b.natAbs) (by omega) (by omega);have e2:=Wi mM (n:=(cT a b).natAbs) (by omega);have e3:=Wi mM (n:=(cY a b).natAbs) (by omega);have hg:=Ky (a:=a) hb.1;rw [show ((b.natAbs:Nat):Int)=b by omega,show wm a.natAbs b.natAbs=wE a b from rfl] at e1;rw [show (((cY a b).natAbs:Nat):Int)=cY a b by omega] at e3;have ma:=aqj (n:=cT a b) (by omega);have qU:=JP (n:=(cT a b).natAbs) (by omega);have hl3:=JP (n:=(cY a b).natAbs) (by omega);have hT:=asv (a:=a) hb.1;have hS:=mq (cT a b);unfold ai at e1 e2 e3 ⊢;rw [aF h];by_cases h0:cT a b<0
 ·rw [yG h0] at hS;by_cases h1:1<cY a b
  ·rw [yG h1] at hT
   simp only [go_sem,ya,BO,show ¬a< -4000000000000000000 by omega,show ¬4000000000000000000<a by omega,show ¬b< -4000000000000000000 by omega,show ¬4000000000000000000<b by omega,show ¬b<0 by omega,wrap64 (n:=0-a) (by omega) (by omega),lQ,nE,Kz,e1,eH _ _ _ (show ((wE a b:Nat):Int)≠0 by omega),Kh,Ki,wrap64 (n:=cT a b) (by omega) (by omega),wrap64 (n:=cY a b) (by omega) (by omega),h0,wrap64 (n:=0-cT a b) (by omega) (by omega),e2,fN (a:=[45]) (b:=ax (cT a b).natAbs) (by simp;omega),hS,h1,fN (a:=aW (cT a b)) (b:=[47]) (by simp;omega),e3,fN (a:=aW (cT a b)++[47]) (b:=ax (cY a b).natAbs) (by simp;omega),hT]
  ·rw [yv h1] at hT
   simp only [go_sem,ya,BO,show ¬a< -4000000000000000000 by omega,show ¬4000000000000000000<a by omega,show ¬b< -4000000000000000000 by omega,show ¬4000000000000000000<b by omega,show ¬b<0 by omega,wrap64 (n:=0-a) (by omega) (by omega),lQ,nE,Kz,e1,eH _ _ _ (show ((wE a b:Nat):Int)≠0 by omega),Kh,Ki,wrap64 (n:=cT a b) (by omega) (by omega),wrap64 (n:=cY a b) (by omega) (by omega),h0,wrap64 (n:=0-cT a b) (by omega) (by omega),e2,fN (a:=[45]) (b:=ax (cT a b).natAbs) (by simp;omega),hS,h1,hT]
 ·rw [yv h0] at hS;by_cases h1:1<cY a b
  ·rw [yG h1] at hT
   simp only [go_sem,ya,BO,show ¬a< -4000000000000000000 by omega,show ¬4000000000000000000<a by omega,show ¬b< -4000000000000000000 by omega,show ¬4000000000000000000<b by omega,show ¬b<0 by omega,wrap64 (n:=0-a) (by omega) (by omega),lQ,nE,Kz,e1,eH _ _ _ (show ((wE a b:Nat):Int)≠0 by omega),Kh,Ki,wrap64 (n:=cT a b) (by omega) (by omega),wrap64 (n:=cY a b) (by omega) (by omega),h0,wrap64 (n:=0-cT a b) (by omega) (by omega),e2,fN (a:=[]) (b:=ax (cT a b).natAbs) (by simp;omega),hS,h1,fN (a:=aW (cT a b)) (b:=[47]) (by simp;omega),e3,fN (a:=aW (cT a b)++[47]) (b:=ax (cY a b).natAbs) (by simp;omega),hT]
  ·rw [yv h1] at hT
   simp only [go_sem,ya,BO,show ¬a< -4000000000000000000 by omega,show ¬4000000000000000000<a by omega,show ¬b< -4000000000000000000 by omega,show ¬4000000000000000000<b by omega,show ¬b<0 by omega,wrap64 (n:=0-a) (by omega) (by omega),lQ,nE,Kz,e1,eH _ _ _ (show ((wE a b:Nat):Int)≠0 by omega),Kh,Ki,wrap64 (n:=cT a b) (by omega) (by omega),wrap64 (n:=cY a b) (by omega) (by omega),h0,wrap64 (n:=0-cT a b) (by omega) (by omega),e2,fN (a:=[]) (b:=ax (cT a b).natAbs) (by simp;omega),hS,h1,hT]
end
def TT (n:Int) (d:Nat):List Nat:=aW n++(if d=1 then [] else 47::ax d)
def asw {a b:Int} (hb:0<b):n7 a b=TT (cT a b) (cY a b).toNat:=by
 have h:=Ga (a:=a) hb;unfold n7 TT;by_cases h1:cY a b=1
 ·grind
 ·rw [yv h1,yv (by omega)];obtain ⟨m,hm⟩:∃m:Nat,cY a b=m:=⟨(cY a b).toNat,by omega⟩;rw [hm,xx];rfl
def zu (n:Nat):0<(ax n).length:=by
 by_cases h:n<10
 ·rw [nD h];simp
 ·rw [oU h];simp
def Gn:∀(n:Nat),n<10^(ax n).length:=by
 intro n
 induction n using vh with
 | _ n ih=>
  by_cases h:n<10
  ·rw [nD h];simpa using h
  ·have:=ih (n/10) (by omega)
   rw [oU h,y5,uS,yZ];omega
def aa8 {n:Nat} (h:(ax n).length<=9):n<1000000000:=
 yE (Gn n) (by simpa using yT (show 0<10 by decide) h)
def F2 (n:Nat):∃b r,ax n=b::r/\48<=b/\b<=57:=by
 cases hq:ax n with
 | nil=>have:=zu n;rw [hq] at this;simp at this
 | cons b r=>
  have:=F1 n
  rw [hq] at this;simp only [cN,yf] at this
  simp_all
section
variable {P:aK} {L:Lib}
def BY (s:List Nat):lS 0 (.str (45::s))=some (.int .u8 45):=rfl
def Qf (q:Bool) (n:Int) (d:Nat):AV:=if q=true then .aa [ab n,ab d,.bool true] else .aa [ab 0,ab 0,.bool false]
def rW (d:Nat):List Nat:=if d=1 then [] else 47::ax d
def amL (d:Nat):bJ (rW d)=0:=by unfold rW;split<;>rfl
def azy (h:Has P L 276 nZ) (ss:Has P L 272 HI) (su:Has P L 290 DA) {n:Int} {d:Nat} (hl:(TT n d).length<=20000000000):
  ∃q:Bool,ai P L 276 [.str (TT n d)] (Qf q n d)/\(q=true->n.natAbs<1000000000/\d<1000000000):=by
 generalize hs:TT n d=s at hl;by_cases mg:20<s.length
 ·refine ⟨false,?_,fun h=>by cases h⟩;unfold ai;rw [aF h];simp only [go_sem,ya,nZ,show (20:Int)<s.length by omega];rfl
 ·have hu:∃u,u=ax n.natAbs++rW d:=⟨_,rfl⟩;obtain ⟨u,hu⟩:=hu;have hK:∃K,K=(ax n.natAbs).length:=⟨_,rfl⟩;obtain ⟨K,hK⟩:=hK;have Ei:bJ u=K:=by rw [hu,JC _ (F1 _),amL,hK];rfl
  have hlen:u.length=K+(rW d).length:=by rw [hu,hK,y5]
  have hp:=zu n.natAbs;obtain ⟨b,r,hb,jP,N4⟩:=F2 n.natAbs;have Cr:(n<0/\s=45::u)\/(¬n<0/\s=u):=by
   by_cases h0:n<0
   ·left;refine ⟨h0,?_⟩;rw [<-hs,hu,TT,nF h0];rfl
   ·right;refine ⟨h0,?_⟩;rw [<-hs,hu,TT,<-mq,yv h0];rfl
  have hul:u.length<=s.length:=by rcases Cr with ⟨_,e⟩ | ⟨_,e⟩<;>rw [e]<;>simp
  have AA:0<u.length:=by omega
  have pL:u[0]=b:=by
   have:u=b::(r++rW d):=by rw [hu,hb];rfl
   simp [this]
  have e1:=BX ss (s:=u) (by omega);rw [Ei] at e1;have dP:gF u (some 0) (some K)=some (.str (ax n.natAbs)):=by
   rw [jY (by omega) (by omega),yu,hu,hK,List.take_left]
  unfold ai at e1;by_cases h9:9<K
  ·refine ⟨false,?_,fun h=>by cases h⟩;unfold ai;rw [aF h];rcases Cr with ⟨h0,e⟩ | ⟨h0,e⟩
   ·have mg:¬20<u.length+1:=by rw [e] at mg;exact mg
    have jQ:gF (45::u) (some 1) (some (u.length+1))=some (.str u):=by rw [jY (s:=45::u) (l:=1) (h:=u.length+1) (by omega) (by simp)];simp
    rw [e];simp only [go_sem,ya,nZ,show ¬(20:Int)<((u.length+1:Nat):Int) by omega,show (0:Int)<((u.length+1:Nat):Int) by omega,BY,eb,eE,df,jQ,e1,show (9:Int)<(K:Int) by omega];rfl
   ·rw [e];simp only [go_sem,ya,nZ,show ¬(20:Int)<(u.length:Nat) by omega,show (0:Int)<(u.length:Nat) by omega,oY AA,pL,show ¬((b:Nat):Int)=45 by omega,e1,show (9:Int)<(K:Int) by omega];rfl
  ·by_cases gT:10<(rW d).length
   ·refine ⟨false,?_,fun h=>by cases h⟩;unfold ai;rw [aF h];rcases Cr with ⟨h0,e⟩ | ⟨h0,e⟩
    ·have mg:¬20<u.length+1:=by rw [e] at mg;exact mg
     have jQ:gF (45::u) (some 1) (some (u.length+1))=some (.str u):=by rw [jY (s:=45::u) (l:=1) (h:=u.length+1) (by omega) (by simp)];simp
     rw [e]
     simp only [go_sem,ya,nZ,show ¬(20:Int)<((u.length+1:Nat):Int) by omega,show (0:Int)<((u.length+1:Nat):Int) by omega,BY,eb,eE,df,jQ,e1,show ¬(9:Int)<(K:Int) by omega,wrap64 (n:=(u.length:Int)-(K:Int)) (by omega) (by omega),show (10:Int)<(u.length:Int)-(K:Int) by omega];rfl
    ·rw [e]
     simp only [go_sem,ya,nZ,show ¬(20:Int)<(u.length:Nat) by omega,show (0:Int)<(u.length:Nat) by omega,oY AA,pL,show ¬((b:Nat):Int)=45 by omega,e1,show ¬(9:Int)<(K:Int) by omega,wrap64 (n:=(u.length:Int)-(K:Int)) (by omega) (by omega),show (10:Int)<(u.length:Int)-(K:Int) by omega];rfl
   ·have e2:=Ie su (s:=ax n.natAbs) (by omega) (CN n.natAbs);unfold ai at e2;have hm:=aa8 (n:=n.natAbs) (by omega);by_cases hd:d=1
    ·subst hd;have kK:rW 1=[]:=rfl;refine ⟨true,?_,fun _=>⟨hm,by decide⟩⟩;rw [kK] at hlen;simp only [yR,yV] at hlen;unfold ai;rw [aF h];rcases Cr with ⟨h0,e⟩ | ⟨h0,e⟩
     ·have mg:¬20<u.length+1:=by rw [e] at mg;exact mg
      have jQ:gF (45::u) (some 1) (some (u.length+1))=some (.str u):=by rw [jY (s:=45::u) (l:=1) (h:=u.length+1) (by omega) (by simp)];simp
      rw [e]
      simp only [go_sem,ya,nZ,show ¬(20:Int)<((u.length+1:Nat):Int) by omega,show (0:Int)<((u.length+1:Nat):Int) by omega,BY,eb,eE,df,jQ,e1,show ¬(9:Int)<(K:Int) by omega,wrap64 (n:=(u.length:Int)-(K:Int)) (by omega) (by omega),show ¬(10:Int)<(u.length:Int)-(K:Int) by omega,dP,e2,show ¬(K:Int)<(u.length:Int) by omega,wrap64 (n:=0-(n.natAbs:Int)) (by omega) (by omega)];rw [show 0-(n.natAbs:Int)=n by omega];rfl
     ·rw [e]
      simp only [go_sem,ya,nZ,show ¬(20:Int)<(u.length:Nat) by omega,show (0:Int)<(u.length:Nat) by omega,oY AA,pL,show ¬((b:Nat):Int)=45 by omega,eb,eE,df,e1,show ¬(9:Int)<(K:Int) by omega,wrap64 (n:=(u.length:Int)-(K:Int)) (by omega) (by omega),show ¬(10:Int)<(u.length:Int)-(K:Int) by omega,dP,e2,show ¬(K:Int)<(u.length:Int) by omega];rw [show (n.natAbs:Int)=n by omega];rfl
    ·have kK:rW d=47::ax d:=yv hd;have I8:(rW d).length=(ax d).length+1:=by rw [kK];rfl
     have hpd:=zu d;have hd9:=aa8 (n:=d) (by omega);have e3:=Ie su (s:=ax d) (by omega) (CN d);unfold ai at e3;have qZ:gF u (some (K+1)) (some u.length)=some (.str (ax d)):=by
      rw [jY (by omega) (yB _),xH,hu,kK,hK,show (ax n.natAbs).length+1=(ax n.natAbs++[47]).length by simp,show ax n.natAbs++47::ax d=(ax n.natAbs++[47])++ax d by simp,List.drop_left]
     refine ⟨true,?_,fun _=>⟨hm,hd9⟩⟩;unfold ai;rw [aF h];rcases Cr with ⟨h0,e⟩ | ⟨h0,e⟩
     ·have mg:¬20<u.length+1:=by rw [e] at mg;exact mg
      have jQ:gF (45::u) (some 1) (some (u.length+1))=some (.str u):=by rw [jY (s:=45::u) (l:=1) (h:=u.length+1) (by omega) (by simp)];simp
      rw [e]
      simp only [go_sem,ya,nZ,show ¬(20:Int)<((u.length+1:Nat):Int) by omega,show (0:Int)<((u.length+1:Nat):Int) by omega,BY,eb,eE,df,jQ,e1,show ¬(9:Int)<(K:Int) by omega,wrap64 (n:=(u.length:Int)-(K:Int)) (by omega) (by omega),show ¬(10:Int)<(u.length:Int)-(K:Int) by omega,dP,e2,show (K:Int)<(u.length:Int) by omega,wrapN (n:=K+1) (by omega),show (K:Int)+1=((K+1:Nat):Int) from rfl,qZ,e3,wrap64 (n:=0-(n.natAbs:Int)) (by omega) (by omega)];rw [show 0-(n.natAbs:Int)=n by omega];rfl
     ·rw [e]
      simp only [go_sem,ya,nZ,show ¬(20:Int)<(u.length:Nat) by omega,show (0:Int)<(u.length:Nat) by omega,oY AA,pL,show ¬((b:Nat):Int)=45 by omega,eb,eE,df,e1,show ¬(9:Int)<(K:Int) by omega,wrap64 (n:=(u.length:Int)-(K:Int)) (by omega) (by omega),show ¬(10:Int)<(u.length:Int)-(K:Int) by omega,dP,e2,show (K:Int)<(u.length:Int) by omega,wrapN (n:=K+1) (by omega),show (K:Int)+1=((K+1:Nat):Int) from rfl,qZ,e3];rw [show (n.natAbs:Int)=n by omega];rfl
def Wk (h:Has P L 302 qF) {v:AV} {l:List Int} (hv:bn v l) (i:Nat):ai P L 302 [v,ab i] (ab (l.getD i 0)):=by
 unfold ai;rw [aF h];by_cases hi:i<l.length
 ·simp only [go_sem,ya,qF,hv.len,show (i:Int)<l.length by omega,hv.cd hi];simp [xG,wx hi]
 ·simp only [go_sem,ya,qF,hv.len,show ¬(i:Int)<l.length by omega];simp [xG,List.getElem?_eq_none (Nat.le_of_not_lt hi)]
def aex {hp:Hp} {e:Bool} {n:Nat} {cs:List AV} {tm:Env} {h:Nat} {x:X} (hx:cM tm n (some x)=some h) (hh:h<=n):
  eV hp (.sl 1) (.aC e n cs) tm none (some x)=some (.aC (e&&yq h n) h (cs.take h)):=by
 simp only [eV,hx,eE];simp [yt hh,slice];rw [show yy 0 h=true from yt (uN _)];rfl
def Ad (h:Has P L 300 kC) {v:AV} {l:List Int} (hv:bn v l) (hl:l.length<=20000000000):∃r,ai P L 300 [v] r/\bn r (dD l)/\shut r=r:=by
 rcases hv with ⟨rfl,h0⟩ | ⟨e,rfl⟩
 ·have:l=[]:=by simpa using h0
  subst this;refine ⟨.ae,?_,zt,rfl⟩;unfold ai;rw [aF h];simp only [go_sem,ya,kC,Dc,Bn,aB,show ¬(0:Int)<0 by decide]
 ·have key:=kO (P:=P) (L:=L) (live:=[0]) (a:=Bn)
   (I:=fun k st=>∃(i:Nat) (e:Bool),st=⟨[(0,.aC e i ((l.take i).map ab))],[],0,0⟩/\i<=l.length/\i=k/\dD (l.take i)=dD l)
   (Q:=fun ex st=>∃tm ct,st=⟨tm,[],ct,0⟩/\ex= .exit 0/\∃i e,aj tm 0= .aC e i ((l.take i).map ab)/\i<=l.length/\l.take i=dD l) ?_
  ·have hlen:(l.map ab).length=l.length:=by simp
   rw [hlen];have ij:∃i e',ai P L 300 [.aC e l.length (l.map ab)] (.aC e' i ((l.take i).map ab))/\i<=l.length/\l.take i=dD l:=by
    unfold ai;rw [aF h];simp only [go_sem,kC];generalize hq:D P L (.loop [0] Bn) _=q;obtain ⟨ex,st,rfl,tm,ct,rfl,rfl,i,e',h2,h3,h4⟩:=b6 hq (key l.length) ⟨l.length,e,by simp only [go_sem,ya,aB,xH],yB _,rfl,by rw [xH]⟩;simp only [go_sem,aB,h2];exact ⟨i,e',rfl,h3,h4⟩
   obtain ⟨i,e',g1,g2,g3⟩:=ij;refine ⟨_,g1,?_,rfl⟩;rw [<-g3]
   have:=lM e' (l.take i)
   rwa [yW,xA g2] at this
  ·rintro k st ⟨i,e,rfl,hi,rfl,ht⟩
   cases i with
   | zero=>
    right
    simp only [go_sem,ya,Bn,show ¬(0:Int)<((0:Nat):Int) by omega];exact ⟨_,_,rfl,by simp,_,_,rfl,rfl,0,e,by simp only [go_sem,ya],uN _,by simpa [dD] using ht⟩
   | succ i=>
    have I9:i<l.length:=by omega
    have dY:l.take (i+1)=l.take i++[l[i]]:=wD I9;have iz:vZ i ((l.take (i+1)).map ab)=[AV.int .i64 l[i]]:=by
     rw [dY,xI,tN (by simp;omega)];rfl
    have nl:j8 1 i (.aC e (i+1) ((l.take (i+1)).map ab))=some (.b7 [AV.int .i64 l[i]]):=by
     rw [aet e _ (by omega),ym,iz]
    by_cases h0:l[i]=0
    ·left
     have kF:∀tm x,cM tm (i+1) (some x)=some i->eV [] (.sl 1) (.aC e (i+1) ((l.take (i+1)).map ab)) tm none (some x)=some (.aC (e&&yq i (i+1)) i ((l.take i).map ab)):=fun tm x hx=>by
      rw [aex hx (by omega),<-ybp,List.take_take,xA (by omega)]
     simp only [go_sem,ya,Bn,show (0:Int)<((i+1:Nat):Int) by omega,show ((i+1:Nat):Int)-1=(i:Int) by omega,wrapN (n:=i) (by omega),nl,h0,kF,df];refine ⟨_,i,rfl,by omega,i,_,by simp only [go_sem,aB]<;>rfl,by omega,rfl,?_⟩
     rw [<-ht,dY,h0,FR]
    ·right
     simp only [go_sem,ya,Bn,show (0:Int)<((i+1:Nat):Int) by omega,show ((i+1:Nat):Int)-1=(i:Int) by omega,wrapN (n:=i) (by omega),nl,h0];refine ⟨_,_,rfl,by simp,_,_,rfl,rfl,i+1,e,by simp only [go_sem,ya],by omega,?_⟩;rw [<-ht,dY,JN h0]
end
abbrev uc (n:Nat):AV:= .int .u64 (n:Int)
def bM (v:AV) (l:List Nat):Prop:=cE v (l.map uc)
section
variable {v:AV} {l:List Nat}
def bM.len (h:bM v l) {hp:Hp}:jo hp 1 v=some (.int .i64 (l.length:Nat)):=by
 have:=cE.len (hp:=hp) h
 grind
def bM.pu (h:bM v l):bh v=true:=cE.pu h
def bM.an (h:bM v l) (n:Nat) {hp:Hp}:freeze (n+1) hp v=some (v,hp):=cE.an h n
def bM.shut (h:bM v l):VE.shut v=v:=cE.shut h
def bM.bR (h:bM v l):VE.bR v=v:=cE.bR h
def bM.cZ (h:bM v l) {hp:Hp}:result hp v=some v:=cE.cZ h
def bM.one (h:bM v l):dV v=true:=cE.one h
def bM.cd (h:bM v l) {i:Nat} (hi:i<l.length):j8 1 i v=some (.b7 (uc (l.getD i 0)::(l.map uc).drop (i+1))):=by
 have:=cE.cd h (i:=i) (by simpa using hi)
 grind
def lO (e:Bool) (l:List Nat):bM (.aC e l.length (l.map uc)) l:=by
 have:=PL e (l.map uc)
 rwa [xt] at this
def oW:bM .ae []:=zt
end
def jD {hp:Hp} {ct id o:Nat} {v:Nat} {ex:Bool} {l:List Nat} (h:o<l.length):jT hp ct id o 1 [.int .u64 (v:Int)] (some (.cells true true ex 1 (l.map uc)))=some (.aa [],bf hp id (.cells true true ex 1 ((l.set o v).map uc)),ct):=by
 rw [Lc (by rfl) (by simp;omega) (by rfl)]
 have:over o [uc v] (l.map uc)=(l.set o v).map uc:=by
  simp only [over,yO,yR,yh];rw [List.map_set,tv,yG (by simpa using h)]
  simp
 rw [this];rfl
def rX {l:List Nat} {o:Nat} (h:o<l.length):vZ o (l.map uc)=uc (l.getD o 0)::vZ (o+1) (l.map uc):=by
 rw [yX (by simpa using h)]
 grind
def asx (n:Nat):(yL n [AV.int .u64 0]).flatten=(yL n 0).map uc:=by simp_all
def BZ (ct:Nat) {n:Nat} (h:n<=100000000000):Ac ct 1 8 [.int .u64 0] (some n) (some n)=some (.aE ct 0 n,.cells true true true 1 ((yL n 0).map uc)):=by
 rw [KN (sz:=1) (by omega) (by omega) (by rfl) (by rfl),asx];rfl
def Ae (hp:Hp) {n:Nat} {l:List Nat} (h:l.length=n) (ex:Bool):kE 0 n (some (ex,1,l.map uc,hp))=some (.aC ex n (l.map uc),hp):=rG ex (by simp [h]) (by decide)
def agS {n:Nat} (h:n<18446744073709551616):IntKind.wrap .u64 (n:Int)=n:=ayq (by omega) (by omega)
section
variable {P:aK} {L:Lib} {f:cm}
def jI {a b:Nat} (h:a<b):yK a b=true:=by simp_all
def Bp (h:L.pure 171=some mA) {x y c:Nat} (hx:x<18446744073709551616) (hy:y<18446744073709551616) (hc:c<=1):
  bG P L f 171 [uc x,uc y,uc c]=some (.aa [uc ((x+y+c)%18446744073709551616),uc ((x+y+c)/18446744073709551616)]):=by
 rw [gK h];show (bif yy c 1&&(yK x 18446744073709551616&&yK y 18446744073709551616) then _ else none)=_
 rw [yt hc,jI hx,jI hy];rfl
def Qg (h:L.pure 173=some zE) {x y c:Nat} (hx:x<18446744073709551616) (hy:y<18446744073709551616) (hc:c<=1):
  bG P L f 173 [uc x,uc y,uc c]=some (.aa [uc ((x+18446744073709551616*2-y-c)%18446744073709551616),uc (if y+c<=x then 0 else 1)]):=by
 rw [gK h];show (bif yy c 1&&(yK x 18446744073709551616&&yK y 18446744073709551616) then _ else none)=_
 rw [yt hc,jI hx,jI hy];by_cases hh:y+c<=x
 ·rw [yt hh,yG hh];rfl
 ·have:yy (y+c) x=false:=by
   cases hq:yy (y+c) x with
   | false=>rfl
   | true=>exact absurd (yp hq) hh
  grind
def KQ (h:L.pure 143=some p8) {x y:Nat} (hx:x<18446744073709551616) (hy:y<18446744073709551616):
  bG P L f 143 [uc x,uc y]=some (.aa [uc (x*y/18446744073709551616),uc (x*y%18446744073709551616)]):=by
 rw [gK h];show (bif yK x 18446744073709551616&&yK y 18446744073709551616 then _ else none)=_
 rw [jI hx,jI hy];rfl
def aqk {hp:Hp} {tm:Env} {x:X} (hx:cM tm 0 (some x)=some 0):eV hp (.sl 1) .ae tm none (some x)=some .ae:=by
 simp only [eV,hx,eE]
def Af (h:Has P L 166 zW) {v:AV} {l:List Nat} (hv:bM v l) (hl:l.length<=100000000000):∃r,ai P L 166 [v] r/\bM r (dE l):=by
 rcases hv with ⟨rfl,h0⟩ | ⟨e,rfl⟩
 ·have:l=[]:=by simpa using h0
  subst this;refine ⟨.ae,?_,zt⟩;unfold ai;rw [aF h];simp only [go_sem,ya,zW,Dc,Bk,aB,show ¬(0:Int)<0 by decide,aqk,df]
 ·have key:=kO (P:=P) (L:=L) (live:=[0,3]) (a:=Bk)
   (I:=fun k st=>∃(i:Nat),st=⟨[(0,.aC e l.length (l.map uc)),(3,ab i)],[],0,0⟩/\i<=l.length/\i=k/\dE (l.take i)=dE l)
   (Q:=fun ex st=>∃tm ct,st=⟨tm,[],ct,0⟩/\ex= .exit 0/\∃i:Nat,aj tm 0= .aC e l.length (l.map uc)/\aj tm 3=ab i/\i<=l.length/\l.take i=dE l) ?_
  ·have hlen:(l.map uc).length=l.length:=by simp
   rw [hlen];have ij:∃i e',ai P L 166 [.aC e l.length (l.map uc)] (.aC e' i ((l.take i).map uc))/\i<=l.length/\l.take i=dE l:=by
    unfold ai;rw [aF h];simp only [go_sem,ya,zW];generalize hq:D P L (.loop [0,3] Bk) _=q;obtain ⟨ex,st,rfl,tm,ct,rfl,rfl,i,h2,h3,h4,h5⟩:=b6 hq (key l.length) ⟨l.length,by simp only [go_sem,ya,aB],yB _,rfl,by rw [xH]⟩;have kF:∀tm x,cM tm l.length (some x)=some i->eV [] (.sl 1) (.aC e l.length (l.map uc)) tm none (some x)=some (.aC (e&&yq i l.length) i ((l.map uc).take i)):=fun tm x hx=>aex hx h4
    simp only [go_sem,ya,aB,h2,h3,kF,df];exact ⟨i,_,by rw [ybp],h4,h5⟩
   obtain ⟨i,e',g1,g2,g3⟩:=ij;refine ⟨_,g1,?_⟩;rw [<-g3]
   have:=lO e' (l.take i)
   rwa [yW,xA g2] at this
  ·rintro k st ⟨i,rfl,hi,rfl,ht⟩
   cases i with
   | zero=>
    right
    simp only [go_sem,ya,Bk,show ¬(0:Int)<((0:Nat):Int) by omega];exact ⟨_,_,rfl,by simp,_,_,rfl,rfl,0,by simp only [go_sem,ya],by simp only [go_sem,ya],uN _,by simpa [dE] using ht⟩
   | succ i=>
    have I9:i<l.length:=by omega
    have dY:l.take (i+1)=l.take i++[l[i]]:=wD I9;have nl:=(lO e l).cd I9;rw [<-gd I9] at nl;by_cases h0:l[i]=0
    ·left
     simp only [go_sem,ya,Bk,show (0:Int)<((i+1:Nat):Int) by omega,show ((i+1:Nat):Int)-1=(i:Int) by omega,wrapN (n:=i) (by omega),nl,show ((l[i]:Nat):Int)=0 by omega];refine ⟨_,i,rfl,by omega,i,by simp only [go_sem,ya,aB],by omega,rfl,?_⟩;rw [<-ht,dY,h0,JO]
    ·right
     simp only [go_sem,ya,Bk,show (0:Int)<((i+1:Nat):Int) by omega,show ((i+1:Nat):Int)-1=(i:Int) by omega,wrapN (n:=i) (by omega),nl,show ¬((l[i]:Nat):Int)=0 by omega];refine ⟨_,_,rfl,by simp,_,_,rfl,rfl,i+1,by simp only [go_sem,ya],by simp only [go_sem,ya],by omega,?_⟩;rw [<-ht,dY,CK h0]
end
def JQ (p b s:Nat):p*(s%b)+p*b*(s/b)=p*s:=by
 rw [xd,<-xr,vH]
def aof {b:Nat} {x y out:List Nat} {i c:Nat} (hi:i<out.length) (hz:out.getD i 0=0) (hv:bv b out+b^i*c=bv b (x.take i)+bv b (y.take i)):
  bv b (out.set i ((x.getD i 0+y.getD i 0+c)%b))+b^(i+1)*((x.getD i 0+y.getD i 0+c)/b)=bv b (x.take (i+1))+bv b (y.take (i+1)):=by
 have h1:=mC (b:=b) (x:=(x.getD i 0+y.getD i 0+c)%b) hi;have h2:=JQ (b^i) b (x.getD i 0+y.getD i 0+c);rw [hz,xp,yV] at h1;rw [iH,iH,yZ,h1]
 grind
def aog {b:Nat} {x y out:List Nat} {i c z c':Nat} (hi:i<out.length) (hz:out.getD i 0=0) (hs:z+y.getD i 0+c=x.getD i 0+b*c') (hv:bv b out+bv b (y.take i)=bv b (x.take i)+b^i*c):
  bv b (out.set i z)+bv b (y.take (i+1))=bv b (x.take (i+1))+b^(i+1)*c':=by
 have h1:=mC (b:=b) (x:=z) hi;rw [hz,xp,yV] at h1;rw [iH,iH,yZ,h1]
 grind
section
variable {P:aK} {L:Lib}
def aiG (h:Has P L 158 Du) {v w:AV} {x y:List Nat} (hv:bM v x) (hw:bM w y) (hx:lo 18446744073709551616 x) (hy:lo 18446744073709551616 y) (nx:fT x) (ny:fT y) (lx:x.length<=100000000000) (ly:y.length<=100000000000):
  ai P L 158 [v,w] (ab (dA (bv 18446744073709551616 x) (bv 18446744073709551616 y))):=by
 unfold ai;rw [aF h];by_cases hlen:x.length=y.length
 ·have key:=kO (P:=P) (L:=L) (live:=[0,1,5]) (a:=Bj)
   (I:=fun k st=>∃j:Nat,st=⟨[(0,v),(1,w),(5,ab ((j:Int)-1))],[],0,0⟩/\j<=x.length/\j=k/\x.drop j=y.drop j)
   (Q:=fun ex st=>∃tm ct,st=⟨tm,[],ct,0⟩/\((ex= .ret/\aj tm 4=ab (dA (bv 18446744073709551616 x) (bv 18446744073709551616 y)))\/(ex= .exit 0/\x=y))) ?_
  ·simp only [go_sem,ya,Du,hv.len,hw.len,show (x.length:Int)=y.length by omega];generalize hq:D P L (.loop [0,1,5] Bj) _=q;obtain ⟨ex,st,rfl,tm,ct,rfl,h2⟩:=b6 hq (key x.length) ⟨x.length,by
    rw [wrap64 (by omega) (by omega),hlen]
    simp only [go_sem,ya,aB,aO hv.pu,aV _ hv.pu,aO hw.pu,aV _ hw.pu]<;>rfl,yB _,rfl,by rw [xk (yB _),xk (by omega)]⟩
   rcases h2 with ⟨rfl,h2⟩ | ⟨rfl,h2⟩
   ·simp only [go_sem,h2]
   ·simp only [go_sem,aB];subst h2;simp [dA]
  ·rintro k st ⟨j,rfl,hj,rfl,he⟩
   cases j with
   | zero=>
    right
    simp only [go_sem,ya,Bj,show ¬(0:Int)<=((0:Nat):Int)-1 by omega];exact ⟨_,_,rfl,by simp,_,_,rfl,.inr ⟨rfl,by simpa using he⟩⟩
   | succ i=>
    have h1:i<x.length:=by omega
    have h2:i<y.length:=by omega
    have El:=aeo hx h1 h2 he;have aG:=aeo hy h2 h1 he.symm;by_cases c0:x.getD i 0=y.getD i 0
    ·left
     simp only [go_sem,ya,Bj,show ((i+1:Nat):Int)-1=(i:Int) by omega,show (0:Int)<=(i:Int) by omega,hv.cd h1,hw.cd h2,c0];refine ⟨_,i,rfl,by omega,i,?_,by omega,rfl,?_⟩
     ·rw [wrap64 (by omega) (by omega)];simp only [go_sem,ya,aB,aO hv.pu,aV _ hv.pu,aO hw.pu,aV _ hw.pu]<;>rfl
     ·rw [yX h1,yX h2,he,gd h1,gd h2,c0]
    ·by_cases c1:x.getD i 0<y.getD i 0
     ·right
      simp only [go_sem,ya,Bj,show ((i+1:Nat):Int)-1=(i:Int) by omega,show (0:Int)<=(i:Int) by omega,hv.cd h1,hw.cd h2,show ¬((x.getD i 0:Nat):Int)=(y.getD i 0:Nat) by omega,show ((x.getD i 0:Nat):Int)<(y.getD i 0:Nat) by omega];refine ⟨_,_,rfl,by simp,_,_,rfl,.inl ⟨rfl,?_⟩⟩;simp only [go_sem];unfold dA;rw [yG (El c1)]
     ·right
      simp only [go_sem,ya,Bj,show ((i+1:Nat):Int)-1=(i:Int) by omega,show (0:Int)<=(i:Int) by omega,hv.cd h1,hw.cd h2,show ¬((x.getD i 0:Nat):Int)=(y.getD i 0:Nat) by omega,show ¬((x.getD i 0:Nat):Int)<(y.getD i 0:Nat) by omega];refine ⟨_,_,rfl,by simp,_,_,rfl,.inl ⟨rfl,?_⟩⟩;simp only [go_sem];unfold dA;rw [yv (by omega),yG (by omega)]
 ·by_cases c1:x.length<y.length
  ·have:=Kw (b:=18446744073709551616) (by decide) hx ny c1
   simp only [go_sem,ya,Du,hv.len,hw.len,show ¬(x.length:Int)=y.length by omega,show (x.length:Int)<y.length by omega];unfold dA;rw [yG this]
  ·have:=Kw (b:=18446744073709551616) (by decide) hy nx (show y.length<x.length by omega)
   simp only [go_sem,ya,Du,hv.len,hw.len,show ¬(x.length:Int)=y.length by omega,show ¬(x.length:Int)<y.length by omega];unfold dA;rw [yv (by omega),yG this]
def afz (fP:L.pure 171=some mA) {v w:AV} {x y:List Nat} (hv:bM v x) (hw:bM w y) (hx:lo 18446744073709551616 x) (hy:lo 18446744073709551616 y) (lx:x.length<=99999999999) (ly:y.length<=x.length) {n:Nat} (hn:n=x.length+1):
  ∀k s,(∃(i c:Nat) (out:List Nat),aQ [0,1,5,6,21,22] s=⟨[(0,v),(1,w),(5,.aE 0 0 n),(6,uc c),(21,ab x.length),(22,ab i)],[(0,.cells true true true 1 (out.map uc))],1,0⟩/\i+k=x.length/\out.length=n/\c<=1/\lo 18446744073709551616 out/\
    bv 18446744073709551616 out+18446744073709551616^i*c=bv 18446744073709551616 (x.take i)+bv 18446744073709551616 (y.take i)/\(∀m,i<=m->out.getD m 0=0))->
   ∃ex s',D P L (.loop [0,1,5,6,21,22] Bi) s=some (ex,s')/\∃tm c out,s'=⟨tm,[(0,.cells true true true 1 (out.map uc))],1,0⟩/\ex= .exit 0/\aj tm 0=v/\aj tm 5= .aE 0 0 n/\aj tm 6=uc c/\out.length=n/\c<=1/\lo 18446744073709551616 out/\
    bv 18446744073709551616 out+18446744073709551616^x.length*c=bv 18446744073709551616 x+bv 18446744073709551616 y/\out.getD x.length 0=0:=by
 intro dq sq;generalize bq:aQ [0,1,5,6,21,22] sq=s0;revert bq s0 sq dq;apply dh;rintro k s ⟨i,c,out,rfl,hk,hlen,hc,a6,aH,fk⟩;by_cases hi:i<x.length
 ·left
  have hz:=fk i (yB _);have jJ:=aof (x:=x) (y:=y) (show i<out.length by omega) hz aH;have gx:=fY (show 0<18446744073709551616 by decide) hx i;have gy:=fY (show 0<18446744073709551616 by decide) hy i;have e1:=Bp (P:=P) (f:=D P L) fP gx gy hc;have ex:=hv.cd hi;generalize x.getD i 0=p at*
  by_cases hj:i<y.length
  ·have ey:=hw.cd hj;generalize y.getD i 0=q at*
   simp only [go_sem,ya,ym,Bi,hw.len,show (i:Int)<x.length by omega,show (i:Int)<y.length by omega,ex,ey,e1,cP 0 0 (show i<n by omega),yh,jD (l:=out) (o:=i) (by omega)]
   refine ⟨_,k-1,rfl,by omega,i+1,(p+q+c)/18446744073709551616,_,?_,by omega,by simp [hlen],by omega,kW a6 (x:=(p+q+c)%18446744073709551616) (i:=i) (by omega),jJ,fun m hm=>?_⟩
   ·rw [wrap64 (by omega) (by omega)];simp only [go_sem,ya,yd,aB,aO hv.pu,aV _ hv.pu,aO hw.pu,aV _ hw.pu]<;>rfl
   ·rw [nM (by omega)];exact fk m (by omega)
  ·have fm:y.getD i 0=0:=Qd (by omega);rw [fm] at jJ e1;rw [show (uc 0)=AV.int .u64 0 from rfl] at e1
   simp only [go_sem,ya,ym,Bi,hw.len,show (i:Int)<x.length by omega,show ¬(i:Int)<y.length by omega,ex,e1,cP 0 0 (show i<n by omega),yh,jD (l:=out) (o:=i) (by omega)]
   refine ⟨_,k-1,rfl,by omega,i+1,(p+0+c)/18446744073709551616,_,?_,by omega,by simp [hlen],by omega,kW a6 (x:=(p+0+c)%18446744073709551616) (i:=i) (by omega),jJ,fun m hm=>?_⟩
   ·rw [wrap64 (by omega) (by omega)];simp only [go_sem,ya,yd,aB,aO hv.pu,aV _ hv.pu,aO hw.pu,aV _ hw.pu]<;>rfl
   ·rw [nM (by omega)];exact fk m (by omega)
 ·right
  have:i=x.length:=by omega
  subst this;rw [xH,yQ ly] at aH;simp only [go_sem,ya,Bi,show ¬(x.length:Int)<x.length by omega];exact ⟨_,_,rfl,by simp,_,c,out,rfl,rfl,by simp only [go_sem,ya],by simp only [go_sem,ya],by simp only [go_sem,ya],hlen,hc,a6,aH,fk _ (yB _)⟩
def azz (h:Has P L 157 HA) (lz:Has P L 166 zW) (fP:L.pure 171=some mA) {v w:AV} {x y:List Nat} (hv:bM v x) (hw:bM w y) (hx:lo 18446744073709551616 x) (hy:lo 18446744073709551616 y) (lx:x.length<=99999999999) (ly:y.length<=99999999999):
  ∃r out,ai P L 157 [v,w] r/\bM r out/\lo 18446744073709551616 out/\fT out/\bv 18446744073709551616 out=bv 18446744073709551616 x+bv 18446744073709551616 y:=by
 have fin:∀{x y o:List Nat} {n c:Nat},n=x.length+1->x.length<=99999999999->o.length=n->c<=1->lo 18446744073709551616 o->bv 18446744073709551616 o+18446744073709551616^x.length*c=bv 18446744073709551616 x+bv 18446744073709551616 y->o.getD x.length 0=0->
   ∃r,bG P L (D P L) 166 [.aC true n ((o.set x.length c).map uc)]=some r/\bM r (dE (o.set x.length c))/\lo 18446744073709551616 (dE (o.set x.length c))/\fT (dE (o.set x.length c))/\bv 18446744073709551616 (dE (o.set x.length c))=bv 18446744073709551616 x+bv 18446744073709551616 y:=by
  intro x y o n c hn lx hlen hc a6 aH hz;have bf:=mC (b:=18446744073709551616) (l:=o) (i:=x.length) (x:=c) (by omega);rw [hz,xp,yV,aH] at bf;have azA:lo 18446744073709551616 (o.set x.length c):=kW a6 (by omega);have hf:=lO true (o.set x.length c);rw [List.length_set,hlen] at hf;obtain ⟨r,e1,hr⟩:=Af lz hf (by simp;omega);exact ⟨r,e1,hr,zq azA,zp _,by rw [zo];exact bf⟩
 by_cases hl:x.length<y.length
 ·obtain ⟨n,hn⟩:∃n,n=y.length+1:=⟨_,rfl⟩;unfold ai;rw [aF h]
  simp only [go_sem,ya,yd,HA,hv.len,hw.len,show (x.length:Int)<y.length by omega,wrapN (n:=n) (by omega),show (y.length:Int)+1=((y.length+1:Nat):Int) from rfl,<-hn,BZ (n:=n) _ (by omega)];generalize hq:D P L (.loop [0,1,5,6,21,22] Bi) _=q;obtain ⟨ex,s,rfl,tm,c,o,rfl,rfl,t0,t5,t6,hlen,hc,a6,aH,hz⟩:=b6 hq (afz (P:=P) (L:=L) fP hw hv hy hx ly (by omega) hn y.length)
   ⟨0,0,yL n 0,by simp only [go_sem,ya,yd,aB,aO hv.pu,aV _ hv.pu,aO hw.pu,aV _ hw.pu]<;>rfl,by omega,by simp,by omega,Da (by decide) n,by rw [Db];simp [bv],fun m _=>A8 n m⟩
  obtain ⟨r,e1,hr,f1,f2,f3⟩:=fin hn ly hlen hc a6 aH hz;refine ⟨r,_,?_,hr,f1,f2,by rw [f3];omega⟩
  simp only [go_sem,ya,ym,aB,aO hw.pu,aV _ hw.pu,hw.len,t0,t5,t6,cP 0 0 (show y.length<n by omega),yh,jD (l:=o) (o:=y.length) (by omega)]
  simp only [go_sem,Ae _ (n:=n) (l:=o.set y.length c) (by simp [hlen]) true,e1,hr.shut,hr.cZ]
 ·obtain ⟨n,hn⟩:∃n,n=x.length+1:=⟨_,rfl⟩;unfold ai;rw [aF h]
  simp only [go_sem,ya,yd,HA,hv.len,hw.len,show ¬(x.length:Int)<y.length by omega,wrapN (n:=n) (by omega),show (x.length:Int)+1=((x.length+1:Nat):Int) from rfl,<-hn,BZ (n:=n) _ (by omega)];generalize hq:D P L (.loop [0,1,5,6,21,22] Bi) _=q;obtain ⟨ex,s,rfl,tm,c,o,rfl,rfl,t0,t5,t6,hlen,hc,a6,aH,hz⟩:=b6 hq (afz (P:=P) (L:=L) fP hv hw hx hy lx (by omega) hn x.length)
   ⟨0,0,yL n 0,by simp only [go_sem,ya,yd,aB,aO hv.pu,aV _ hv.pu,aO hw.pu,aV _ hw.pu]<;>rfl,by omega,by simp,by omega,Da (by decide) n,by rw [Db];simp [bv],fun m _=>A8 n m⟩
  obtain ⟨r,e1,hr,f1,f2,f3⟩:=fin hn lx hlen hc a6 aH hz;refine ⟨r,_,?_,hr,f1,f2,f3⟩
  simp only [go_sem,ya,ym,aB,aO hv.pu,aV _ hv.pu,hv.len,t0,t5,t6,cP 0 0 (show x.length<n by omega),yh,jD (l:=o) (o:=x.length) (by omega)]
  simp only [go_sem,Ae _ (n:=n) (l:=o.set x.length c) (by simp [hlen]) true,e1,hr.shut,hr.cZ]
end
def aoh {b:Nat} {out:List Nat} {p j c t o x y Y bo ba:Nat} (ho:o=out.getD j 0) (hj:j<out.length) (ht:t=o+x*y+c) (hv:bo+p*c=ba+p*(x*Y)) (hb:bo=bv b out) (hp:p=b^j):
  bv b (out.set j (t%b))+p*b*(t/b)=ba+p*(x*(Y+0))+p*(x*y):=by
 have h1:=mC (b:=b) (x:=t%b) hj;have h2:=JQ p b t
 grind
section
variable {P:aK} {L:Lib}
def Pw {x y c:Nat} (hx:x<18446744073709551616) (hy:y<18446744073709551616) (hc:c<=1):
  (x+18446744073709551616*2-y-c)%18446744073709551616+y+c=x+18446744073709551616*(if y+c<=x then 0 else 1):=by grind
def awd (qH:L.pure 173=some zE) {v w:AV} {x y:List Nat} (hv:bM v x) (hw:bM w y) (hx:lo 18446744073709551616 x) (hy:lo 18446744073709551616 y) (lx:x.length<=99999999999) (ly:y.length<=x.length) (hle:bv 18446744073709551616 y<=bv 18446744073709551616 x) {n:Nat} (hn:n=x.length):
  ∀k s,(∃(i c:Nat) (out:List Nat),aQ [0,1,5,6,13,14] s=⟨[(0,v),(1,w),(5,.aE 0 0 n),(6,uc c),(13,ab x.length),(14,ab i)],[(0,.cells true true true 1 (out.map uc))],1,0⟩/\i+k=x.length/\out.length=n/\c<=1/\lo 18446744073709551616 out/\
    bv 18446744073709551616 out+bv 18446744073709551616 (y.take i)=bv 18446744073709551616 (x.take i)+18446744073709551616^i*c/\(∀m,i<=m->out.getD m 0=0))->
   ∃ex s',D P L (.loop [0,1,5,6,13,14] C1) s=some (ex,s')/\∃tm out,s'=⟨tm,[(0,.cells true true true 1 (out.map uc))],1,0⟩/\ex= .exit 0/\aj tm 5= .aE 0 0 n/\out.length=n/\lo 18446744073709551616 out/\
    bv 18446744073709551616 out+bv 18446744073709551616 y=bv 18446744073709551616 x:=by
 intro dq sq;generalize bq:aQ [0,1,5,6,13,14] sq=s0;revert bq s0 sq dq;apply dh;rintro k s ⟨i,c,out,rfl,hk,hlen,hc,a6,aH,fk⟩;by_cases hi:i<x.length
 ·left
  have hz:=fk i (yB _);have gx:=fY (show 0<18446744073709551616 by decide) hx i;have gy:=fY (show 0<18446744073709551616 by decide) hy i;have rk:=Pw gx gy hc;have jJ:=aog (x:=x) (y:=y) (show i<out.length by omega) hz rk aH;have e1:=Qg (P:=P) (f:=D P L) qH gx gy hc;have ex:=hv.cd hi;generalize x.getD i 0=p at*
  have mh:(if y.getD i 0+c<=p then 0 else 1)<=1:=by split<;>omega
  by_cases hj:i<y.length
  ·have ey:=hw.cd hj;generalize y.getD i 0=q at*
   generalize (if q+c<=p then 0 else 1)=c1 at*
   simp only [go_sem,ya,xN,ym,C1,hw.len,show (i:Int)<x.length by omega,show (i:Int)<y.length by omega,ex,ey,e1,cP 0 0 (show i<n by omega),yh,jD (l:=out) (o:=i) (by omega)]
   refine ⟨_,k-1,rfl,by omega,i+1,c1,_,?_,by omega,by simp [hlen],mh,kW a6 (x:=(p+18446744073709551616*2-q-c)%18446744073709551616) (i:=i) (by omega),jJ,fun m hm=>?_⟩
   ·rw [wrap64 (by omega) (by omega)];simp only [go_sem,ya,yd,xN,aB,aO hv.pu,aV _ hv.pu,aO hw.pu,aV _ hw.pu]<;>rfl
   ·rw [nM (by omega)];exact fk m (by omega)
  ·have fm:y.getD i 0=0:=Qd (by omega);rw [fm] at jJ e1 mh;rw [show (uc 0)=AV.int .u64 0 from rfl] at e1;generalize (if 0+c<=p then 0 else 1)=c1 at*
   simp only [go_sem,ya,xN,ym,C1,hw.len,show (i:Int)<x.length by omega,show ¬(i:Int)<y.length by omega,ex,e1,cP 0 0 (show i<n by omega),yh,jD (l:=out) (o:=i) (by omega)]
   refine ⟨_,k-1,rfl,by omega,i+1,c1,_,?_,by omega,by simp [hlen],mh,kW a6 (x:=(p+18446744073709551616*2-0-c)%18446744073709551616) (i:=i) (by omega),jJ,fun m hm=>?_⟩
   ·rw [wrap64 (by omega) (by omega)];simp only [go_sem,ya,yd,xN,aB,aO hv.pu,aV _ hv.pu,aO hw.pu,aV _ hw.pu]<;>rfl
   ·rw [nM (by omega)];exact fk m (by omega)
 ·right
  have:i=x.length:=by omega
  subst this;rw [xH,yQ ly] at aH;have aG:=kZ a6;rw [hlen,hn] at aG;simp only [go_sem,ya,C1,show ¬(x.length:Int)<x.length by omega];refine ⟨_,_,rfl,by simp,_,out,rfl,rfl,by simp only [go_sem,ya],hlen,a6,?_⟩;rcases (show c=0\/c=1 by omega) with rfl | rfl
  ·omega
  ·omega
def aiH (h:Has P L 159 LI) (lz:Has P L 166 zW) (qH:L.pure 173=some zE) {v w:AV} {x y:List Nat} (hv:bM v x) (hw:bM w y) (hx:lo 18446744073709551616 x) (hy:lo 18446744073709551616 y) (ny:fT y) (lx:x.length<=99999999999) (hle:bv 18446744073709551616 y<=bv 18446744073709551616 x):
  ∃r out,ai P L 159 [v,w] r/\bM r out/\lo 18446744073709551616 out/\fT out/\bv 18446744073709551616 out+bv 18446744073709551616 y=bv 18446744073709551616 x:=by
 have ly:y.length<=x.length:=by
  by_cases hh:x.length<y.length
  ·have:=Kw (b:=18446744073709551616) (by decide) hx ny hh
   omega
  ·omega
 obtain ⟨n,hn⟩:∃n,n=x.length:=⟨_,rfl⟩;unfold ai;rw [aF h]
 simp only [go_sem,ya,yd,LI,hv.len,<-hn,BZ (n:=n) _ (by omega)];generalize hq:D P L (.loop [0,1,5,6,13,14] C1) _=q;obtain ⟨ex,s,rfl,tm,o,rfl,rfl,t5,hlen,a6,aH⟩:=b6 hq (awd (P:=P) (L:=L) qH hv hw hx hy lx ly hle hn x.length)
  ⟨0,0,yL n 0,by rw [hn];simp only [go_sem,ya,yd,aB,aO hv.pu,aV _ hv.pu,aO hw.pu,aV _ hw.pu]<;>rfl,by omega,by simp,by omega,Da (by decide) n,by rw [Db];simp [bv],fun m _=>A8 n m⟩
 have hf:=lO true o;rw [hlen] at hf;obtain ⟨r,e1,hr⟩:=Af lz hf (by omega);refine ⟨r,_,?_,hr,zq a6,zp _,by rw [zo];exact aH⟩
 simp only [go_sem,yd,aB,t5,Ae _ (n:=n) (l:=o) hlen true,e1,hr.shut,hr.cZ]
def aql {x y o c:Nat} (hx:x<18446744073709551616) (hy:y<18446744073709551616) (ho:o<18446744073709551616) (hc:c<18446744073709551616):
  o+x*y+c<18446744073709551616*18446744073709551616/\
  ((x*y%18446744073709551616+o+0)%18446744073709551616+c+0)%18446744073709551616=(o+x*y+c)%18446744073709551616/\
  x*y/18446744073709551616+(x*y%18446744073709551616+o+0)/18446744073709551616+((x*y%18446744073709551616+o+0)%18446744073709551616+c+0)/18446744073709551616=(o+x*y+c)/18446744073709551616:=by
 have h1:=wa (show x<=18446744073709551615 by omega) (show y<=18446744073709551615 by omega)
 grind
def awe (lA:L.pure 143=some p8) (fP:L.pure 171=some mA) {v w:AV} {x y:List Nat} (hv:bM v x) (hw:bM w y) (hx:lo 18446744073709551616 x) (hy:lo 18446744073709551616 y) (lx:x.length<=49999999999) (ly:y.length<=49999999999) {n i:Nat} (hn:n=x.length+y.length) (hi:i<x.length) {a:Nat} (ha:a<18446744073709551616) {bo:Nat}:
  ∀k s,(∃(j c:Nat) (out:List Nat),aQ [1,5,6,7,8,20,21,22,27,28,29] s=⟨[(1,w),(5,.aE 0 0 n),(6,ab i),(7,uc a),(8,uc c),(20,v),(21,ab x.length),(22,ab i),(27,w),(28,ab y.length),(29,ab j)],[(0,.cells true true true 1 (out.map uc))],1,0⟩/\j+k=y.length/\out.length=n/\c<18446744073709551616/\lo 18446744073709551616 out/\
    bv 18446744073709551616 out+18446744073709551616^(i+j)*c=bo+18446744073709551616^i*(a*bv 18446744073709551616 (y.take j))/\(∀m,i+y.length<=m->out.getD m 0=0))->
   ∃ex s',D P L (.loop [1,5,6,7,8,20,21,22,27,28,29] GB) s=some (ex,s')/\∃tm c out,s'=⟨tm,[(0,.cells true true true 1 (out.map uc))],1,0⟩/\ex= .exit 2/\aj tm 1=w/\aj tm 5= .aE 0 0 n/\aj tm 6=ab i/\aj tm 8=uc c/\aj tm 20=v/\aj tm 21=ab x.length/\aj tm 22=ab i/\out.length=n/\c<18446744073709551616/\lo 18446744073709551616 out/\
    bv 18446744073709551616 out+18446744073709551616^(i+y.length)*c=bo+18446744073709551616^i*(a*bv 18446744073709551616 y)/\(∀m,i+y.length<=m->out.getD m 0=0):=by
 intro dq sq;generalize bq:aQ [1,5,6,7,8,20,21,22,27,28,29] sq=s0;revert bq s0 sq dq;apply dh;rintro k s ⟨j,c,out,rfl,hk,hlen,hc,a6,aH,fk⟩;by_cases hj:j<y.length
 ·left
  have Ay:(0:Nat)<18446744073709551616:=by decide
  have gy:=fY Ay hy j;have mi:=fY Ay a6 (i+j);have ey:=hw.cd hj;have e3:=rX (l:=out) (o:=i+j) (by omega);obtain ⟨q,hq⟩:∃q,q=y.getD j 0:=⟨_,rfl⟩;obtain ⟨o,ho⟩:∃o,o=out.getD (i+j) 0:=⟨_,rfl⟩;rw [<-hq] at gy ey;rw [<-ho] at mi e3;obtain ⟨m1,m2,m3⟩:=aql ha gy mi hc;have hpy:a*q<18446744073709551616*18446744073709551616:=by omega
  have f1:=KQ (P:=P) (f:=D P L) lA ha gy;have f2:=Bp (P:=P) (f:=D P L) fP (x:=a*q%18446744073709551616) (y:=o) (c:=0) (xu _ Ay) mi (by omega);have f3:=Bp (P:=P) (f:=D P L) fP (x:=(a*q%18446744073709551616+o+0)%18446744073709551616) (y:=c) (c:=0) (xu _ Ay) hc (by omega);obtain ⟨t,ht⟩:∃t,t=o+a*q+c:=⟨_,rfl⟩;have jJ:=aoh (b:=18446744073709551616) (out:=out) (p:=18446744073709551616^(i+j)) (j:=i+j) (c:=c) (t:=t) (x:=a) (y:=q) (Y:=0) (ba:=bo+18446744073709551616^i*(a*bv 18446744073709551616 (y.take j))) ho (by omega) ht (by simpa using aH) rfl rfl;rw [m2,<-ht] at f3;rw [<-ht] at m1 m3;obtain ⟨d1,jy⟩:∃d,d=(a*q%18446744073709551616+o+0)/18446744073709551616:=⟨_,rfl⟩;obtain ⟨d2,fK⟩:∃d,d=((a*q%18446744073709551616+o+0)%18446744073709551616+c+0)/18446744073709551616:=⟨_,rfl⟩;rw [<-jy] at f2 m3;rw [<-fK] at f3 m3
  rw [show (uc 0)=AV.int .u64 0 from rfl] at f2 f3;obtain ⟨h1,gl⟩:∃d,d=a*q/18446744073709551616:=⟨_,rfl⟩;rw [<-gl] at f1 m3;have kH:h1+d1<18446744073709551616:=by omega
  have sO:h1+d1+d2<18446744073709551616:=by omega
  simp only [go_sem,ya,ym,GB,show (j:Int)<y.length by omega,ey,f1,wrapN (n:=i+j) (by omega),show (i:Int)+(j:Int)=((i+j:Nat):Int) from rfl,cP 0 0 (show i+j<n by omega),yh,e3,f2,f3,show (h1:Int)+(d1:Int)=((h1+d1:Nat):Int) from rfl,agS kH,show ((h1+d1:Nat):Int)+(d2:Int)=((h1+d1+d2:Nat):Int) from rfl,agS sO,jD (l:=out) (o:=i+j) (by omega)]
  refine ⟨_,k-1,rfl,by omega,j+1,h1+d1+d2,_,?_,by omega,by simp [hlen],sO,kW a6 (x:=t%18446744073709551616) (i:=i+j) (xu _ Ay),?_,fun m hm=>?_⟩
  ·rw [wrap64 (by omega) (by omega)];simp only [go_sem,ya,yd,aB,aO hv.pu,aV _ hv.pu,aO hw.pu,aV _ hw.pu]<;>rfl
  ·rw [m3,show i+(j+1)=i+j+1 by omega,yZ,iH,<-hq,xr a,xr (18446744073709551616^i)];simp only [xp,yV] at jJ;rw [jJ,xn,<-Nat.add_assoc,xd (18446744073709551616^i),<-xd a,xg a (18446744073709551616^j),xd]
  ·rw [nM (by omega)];exact fk m hm
 ·right
  have:j=y.length:=by omega
  subst this;rw [xH] at aH;simp only [go_sem,ya,GB,show ¬(y.length:Int)<y.length by omega];exact ⟨_,_,rfl,by simp,_,c,out,rfl,rfl,by simp only [go_sem,ya],by simp only [go_sem,ya],by simp only [go_sem,ya],by simp only [go_sem,ya],by simp only [go_sem,ya],by simp only [go_sem,ya],by simp only [go_sem,ya],hlen,hc,a6,aH,fk⟩
def awf (lA:L.pure 143=some p8) (fP:L.pure 171=some mA) {v w:AV} {x y:List Nat} (hv:bM v x) (hw:bM w y) (hx:lo 18446744073709551616 x) (hy:lo 18446744073709551616 y) (lx:x.length<=49999999999) (ly:y.length<=49999999999) {n:Nat} (hn:n=x.length+y.length):
  ∀k s,(∃(i:Nat) (out:List Nat),aQ [1,5,20,21,22] s=⟨[(1,w),(5,.aE 0 0 n),(20,v),(21,ab x.length),(22,ab i)],[(0,.cells true true true 1 (out.map uc))],1,0⟩/\i+k=x.length/\out.length=n/\lo 18446744073709551616 out/\
    bv 18446744073709551616 out=bv 18446744073709551616 (x.take i)*bv 18446744073709551616 y/\(∀m,i+y.length<=m->out.getD m 0=0))->
   ∃ex s',D P L (.loop [1,5,20,21,22] GC) s=some (ex,s')/\∃tm out,s'=⟨tm,[(0,.cells true true true 1 (out.map uc))],1,0⟩/\ex= .exit 0/\aj tm 5= .aE 0 0 n/\out.length=n/\lo 18446744073709551616 out/\
    bv 18446744073709551616 out=bv 18446744073709551616 x*bv 18446744073709551616 y:=by
 intro dq sq;generalize bq:aQ [1,5,20,21,22] sq=s0;revert bq s0 sq dq;apply dh;rintro k s ⟨i,out,rfl,hk,hlen,a6,aH,fk⟩;by_cases hi:i<x.length
 ·left
  have gx:=fY (show 0<18446744073709551616 by decide) hx i;have ex:=hv.cd hi;obtain ⟨a,ha⟩:∃a,a=x.getD i 0:=⟨_,rfl⟩;simp only [go_sem,ya,GC,hw.len,show (i:Int)<x.length by omega,ex];generalize hq:D P L (.loop [1,5,6,7,8,20,21,22,27,28,29] GB) _=q;obtain ⟨ex,s,rfl,tm,c,qI,rfl,rfl,t1,t5,t6,t8,t20,t21,t22,QP,hc,azB,QQ,Ig⟩:=b6 hq (awe (P:=P) (L:=L) lA fP hv hw hx hy lx ly hn hi gx (bo:=bv 18446744073709551616 out) y.length)
   ⟨0,0,out,by simp only [go_sem,ya,yd,aB,aO hv.pu,aV _ hv.pu,aO hw.pu,aV _ hw.pu]<;>rfl,by omega,hlen,by decide,a6,by simp [bv],fk⟩
  have hz:qI.getD (i+y.length) 0=0:=Ig _ (yB _);have bf:=mC (b:=18446744073709551616) (l:=qI) (i:=i+y.length) (x:=c) (by omega);rw [hz,xp,yV,QQ] at bf
  simp only [go_sem,ya,ym,aB,t1,t5,t6,t8,t20,t21,t22,hw.len,aO hv.pu,aV _ hv.pu,aO hw.pu,aV _ hw.pu,wrapN (n:=i+y.length) (by omega),show (i:Int)+(y.length:Int)=((i+y.length:Nat):Int) from rfl,cP 0 0 (show i+y.length<n by omega),yh,jD (l:=qI) (o:=i+y.length) (by omega)];refine ⟨_,k-1,rfl,by omega,i+1,qI.set (i+y.length) c,?_,by omega,by simp [QP],kW azB hc,?_,fun m hm=>?_⟩
  ·rw [wrap64 (by omega) (by omega)];simp only [go_sem,ya,yd,aB,aO hv.pu,aV _ hv.pu,aO hw.pu,aV _ hw.pu]<;>rfl
  ·rw [bf,aH,iH,xS,<-ha,xd]
  ·rw [nM (by omega)];exact Ig m (by omega)
 ·right
  have:i=x.length:=by omega
  subst this;rw [xH] at aH;simp only [go_sem,ya,GC,show ¬(x.length:Int)<x.length by omega];exact ⟨_,_,rfl,by simp,_,out,rfl,rfl,by simp only [go_sem,ya],hlen,a6,aH⟩
def azC (h:Has P L 144 LH) (lz:Has P L 166 zW) (lA:L.pure 143=some p8) (fP:L.pure 171=some mA) {v w:AV} {x y:List Nat} (hv:bM v x) (hw:bM w y) (hx:lo 18446744073709551616 x) (hy:lo 18446744073709551616 y) (lx:x.length<=49999999999) (ly:y.length<=49999999999):
  ∃r out,ai P L 144 [v,w] r/\bM r out/\lo 18446744073709551616 out/\fT out/\bv 18446744073709551616 out=bv 18446744073709551616 x*bv 18446744073709551616 y:=by
 obtain ⟨n,hn⟩:∃n,n=x.length+y.length:=⟨_,rfl⟩;unfold ai;rw [aF h]
 simp only [go_sem,ya,yd,LH,hv.len,hw.len,wrapN (n:=n) (by omega),show (x.length:Int)+(y.length:Int)=((x.length+y.length:Nat):Int) from rfl,<-hn,BZ (n:=n) _ (by omega)];generalize hq:D P L (.loop [1,5,20,21,22] GC) _=q;obtain ⟨ex,s,rfl,tm,o,rfl,rfl,t5,hlen,a6,aH⟩:=b6 hq (awf (P:=P) (L:=L) lA fP hv hw hx hy lx ly hn x.length)
  ⟨0,yL n 0,by simp only [go_sem,ya,yd,aB,aO hv.pu,aV _ hv.pu,aO hw.pu,aV _ hw.pu]<;>rfl,by omega,by simp,Da (by decide) n,by rw [Db];simp [bv],fun m _=>A8 n m⟩
 have hf:=lO true o;rw [hlen] at hf;obtain ⟨r,e1,hr⟩:=Af lz hf (by omega);refine ⟨r,_,?_,hr,zq a6,zp _,by rw [zo];exact aH⟩
 simp only [go_sem,yd,aB,t5,Ae _ (n:=n) (l:=o) hlen true,e1,hr.shut,hr.cZ]
end
def Ld (n:Int):IntKind.wrap .u64 n=n%18446744073709551616:=by
 simp [IntKind.wrap,IntKind.signed,IntKind.bits]
def wrapM (n:Nat):IntKind.wrap .u64 (n:Int)=((n%18446744073709551616:Nat):Int):=by rw [Ld];omega
def n8 (a b:Nat):binOp .mul (uc a) (uc b)=some (uc (a*b%18446744073709551616)):=by
 rw [aes,<-wG,wrapM]
def zS (a b:Nat):binOp .add (uc a) (uc b)=some (uc ((a+b)%18446744073709551616)):=by
 rw [aer,<-Int.natCast_add,wrapM]
def B0 {a b c:Nat} (h:(a+18446744073709551616-b)%18446744073709551616=c) (hb:b<=18446744073709551616):binOp .sub (uc a) (uc b)=some (uc c):=by
 rw [Kx,Ld]
 grind
def afA (k k':xc) (a b:Int):binOp .shl (.int k a) (.int k' b)=A5 .shl k a b:=rfl
def afB (k k':xc) (a b:Int):binOp .shr (.int k a) (.int k' b)=A5 .shr k a b:=rfl
def Ih (k:xc) (a:Nat) {s:Nat} (hs:s<=64):binOp .shl (.int .u64 (a:Int)) (.int k (s:Int))=some (uc (a*2^s%18446744073709551616)):=by
 rw [afA];simp only [A5,yv (show ¬(s:Int)<0 by omega),wo,IntKind.bits,xA hs];rw [show ((2:Int)^s)=((2^s:Nat):Int) by simp,<-wG,wrapM]
def Ii (k:xc) (a:Nat) {s:Nat} (hs:s<=64):binOp .shr (.int .u64 (a:Int)) (.int k (s:Int))=some (uc (a/2^s)):=by
 rw [afB];simp only [A5,yv (show ¬(s:Int)<0 by omega),wo,IntKind.bits,xA hs]
 grind
def aiI (a:Nat):binOp .and (.int .u64 (a:Int)) (.int .u64 4294967295)=some (uc (a%4294967296)):=by
 show some (AV.int .u64 (IntKind.wrap .u64 ((xC 64 (a:Int)&&&xC 64 4294967295).toNat:Int)))=_
 rw [show xC 64 (a:Int)=uV 64 a from uW 64 a,show xC 64 4294967295=uV 64 4294967295 from rfl];rw [BitVec.toNat_and,vC,vC,show (4294967295%2^64:Nat)=2^32-1 from rfl,Nat.and_two_pow_sub_one_eq_mod,wrapM]
 grind
def N5 {a b:Nat} (ha:a<18446744073709551616) (hb:b<18446744073709551616):binOp .or (.int .u64 (a:Int)) (.int .u64 (b:Int))=some (uc (a|||b)):=by
 show some (AV.int .u64 (IntKind.wrap .u64 ((xC 64 (a:Int)|||xC 64 (b:Int)).toNat:Int)))=_
 congr 2
 rw [show xC 64 (a:Int)=uV 64 a from uW 64 a,show xC 64 (b:Int)=uV 64 b from uW 64 b];rw [BitVec.toNat_or,vC,vC,yF (show a<2^64 from ha),yF (show b<2^64 from hb),wrapM]
 have:a|||b<2^64:=Nat.or_lt_two_pow ha hb
 omega
def Qh {p s c:Nat} (h:c<2^s):(p*2^s)|||c=p*2^s+c:=by
 rw [<-Nat.shiftLeft_eq,<-Nat.shiftLeft_add_eq_or_of_lt h]
def OL:∀(f n:Nat),n<2^f->dG f n<=f/\n<2^dG f n/\(0<n->0<dG f n/\2^(dG f n-1)<=n)
 | 0,n,h=>by simp [dG];simpa using h
 | f+1,n,h=>by
  simp only [dG];by_cases h0:n=0
  ·simp_all
  ·rw [gn h0,yY];obtain ⟨h1,h2,h3⟩:=OL f (n/2) (by omega);refine ⟨by omega,?_,fun _=>⟨by omega,?_⟩⟩
   ·grind
   ·rw [Nat.add_sub_cancel_left];by_cases hn:0<n/2
    ·obtain ⟨h4,h5⟩:=h3 hn;obtain ⟨m,hm⟩:∃m,dG f (n/2)=m+1:=⟨dG f (n/2)-1,by omega⟩
     grind
    ·have hz:n/2=0:=by omega
     have:dG f 0=0:=by cases f with
      | zero=>rfl
      | succ f=>rfl
     grind
def Px {y:Nat} (h0:0<y) (h:y<18446744073709551616):64-dG 64 y<64/\9223372036854775808<=y*2^(64-dG 64 y)/\y*2^(64-dG 64 y)<18446744073709551616:=by
 obtain ⟨h1,h2,h3⟩:=OL 64 y h;obtain ⟨h4,h5⟩:=h3 h0;generalize dG 64 y=k at*
 refine ⟨by omega,?_,?_⟩
 ·have:=yU (2^(64-k)) h5
  rw [<-xn,show k-1+(64-k)=63 by omega] at this;exact this
 ·have:=xQ h2 (y9 (64-k))
  rw [<-xn,show k+(64-k)=64 by omega] at this;exact this
section
variable {P:aK} {L:Lib} {f:cm}
def afC (h:L.pure 167=some Dk) {x:Nat} (hx:x<18446744073709551616):bG P L f 167 [uc x]=some (ab (64-dG 64 x:Nat)):=by
 rw [gK h];show (bif yK x 18446744073709551616 then _ else none)=_
 rw [jI hx];rfl
def aoi {b v1 v2 u u2 t r:Nat} (cC:v2<b) (jC:t<b) (ht:t*v1+r=u) (h:b<=r\/t*v2<=b*r+u2):t*(v1*b+v2)<=u*b+u2:=by
 have h2:t*v2<=b*r+u2:=by
  rcases h with h | h
  ·have:=wa (ua jC) (ua cC)
   have:=yS b h
   omega
  ·exact h
 rw [xr,<-xd,<-ht,xS,xg r b];omega
def ayr (n:Nat):fZ (.toInt .u64) (.int .i64 (n:Int))=some (uc (n%18446744073709551616)):=by
 show some (AV.int .u64 (IntKind.wrap .u64 (n:Int)))=_
 rw [wrapM]
def YX {y v1 v2 u u2 q r:Nat} (hy:y=v1*4294967296+v2) (cC:v2<4294967296) (Ey:0<v1) (eC:v1<4294967296) (hu:u<y) (sS:u2<4294967296) (hq:q*v1+r=u) (hr:r<4294967296) (hQ:(u*4294967296+u2)/y<=q):
  (4294967296<=q\/4294967296*r+u2<q*v2->0<q/\(q-1)*v1+(r+v1)=u/\(u*4294967296+u2)/y<=q-1/\(4294967296<=r+v1->(u*4294967296+u2)/y=q-1))/\
  (¬4294967296<=q->q*v2<=4294967296*r+u2->(u*4294967296+u2)/y=q):=by
 have fm:0<y:=by omega
 have N6:∀t s,t*v1+s=u->4294967296<=t->s<4294967296:=fun t s h1 h2=>by
  have:=yU v1 h2
  grind
 have afD:∀t s,t*v1+s=u->t<4294967296->(4294967296<=s\/t*v2<=4294967296*s+u2)->(u*4294967296+u2)/y<=t->(u*4294967296+u2)/y=t:=fun t s h1 h2 h3 h4=>by
  have:=aoi cC h2 h1 h3
  rw [<-hy] at this
  have:=(ta fm).2 this
  omega
 constructor
 ·intro h;have bq:0<q:=by
   grind
  have h1:(q-1)*v1+(r+v1)=u:=by
   obtain ⟨p,rfl⟩:∃p,q=p+1:=⟨q-1,by omega⟩
   grind
  have h2:(u*4294967296+u2)/y<=q-1:=by
   have aG:u*4294967296+u2<q*y:=by
    rcases h with h | h
    ·have h3:u*4294967296+u2<4294967296*y:=by omega
     exact yE h3 (yU y h)
    ·rw [hy,xr,<-xd,<-hq,xS,xg r];omega
   have:=(xy fm).2 aG
   omega
  exact ⟨bq,h1,h2,fun h3=>afD _ _ h1 (by
   by_cases hb:4294967296<=q-1
   ·have:=N6 _ _ h1 hb;omega
   ·omega) (.inl h3) h2⟩
 ·intro h1 h2;exact afD q r hq (by omega) (.inr h2) hQ
def awg {y s v1 v2 u u2 z:Nat} (hy:y=v1*4294967296+v2) (cC:v2<4294967296) (Ey:0<v1) (eC:v1<4294967296) (hu:u<y) (sS:u2<4294967296):
  ∀k st,(∃q r:Nat,aQ [2,8,9,10,11,13,14,15,16] st=⟨[(2,uc y),(8,uc s),(9,uc v1),(10,uc v2),(11,uc u),(13,uc u2),(14,uc z),(15,uc q),(16,uc r)],[],0,0⟩/\q*v1+r=u/\r<4294967296/\(u*4294967296+u2)/y<=q/\q=k)->
   ∃ex st',D P L (.loop [2,8,9,10,11,13,14,15,16] zF) st=some (ex,st')/\∃tm ct,st'=⟨tm,[],ct,0⟩/\ex= .exit 0/\aj tm 2=uc y/\aj tm 8=uc s/\aj tm 9=uc v1/\aj tm 10=uc v2/\aj tm 11=uc u/\aj tm 13=uc u2/\aj tm 14=uc z/\aj tm 15=uc ((u*4294967296+u2)/y):=by
 intro dq sq;generalize bq:aQ [2,8,9,10,11,13,14,15,16] sq=s0;revert bq s0 sq dq;apply dh;rintro k st ⟨q,r,rfl,hq,hr,hQ,rfl⟩;obtain ⟨g1,g2⟩:=YX hy cC Ey eC hu sS hq hr hQ;have hqb:q*1<=q*v1:=yS q Ey;have azD:=yU 4294967296 (show v1<=4294967295 by omega);have nn:q<18446744073709551616:=by omega
 have Xp:=yS 4294967296 (show r<=4294967295 by omega);have e1:=n8 4294967296 r;rw [show uc 4294967296=AV.int .u64 4294967296 from rfl,yF (show 4294967296*r<18446744073709551616 by omega)] at e1;have e2:=zS (4294967296*r) u2;rw [yF (show 4294967296*r+u2<18446744073709551616 by omega)] at e2;have e4:=zS r v1;rw [yF (show r+v1<18446744073709551616 by omega)] at e4;by_cases hc:4294967296<=q\/4294967296*r+u2<q*v2
 ·obtain ⟨h0,h1,h2,h3⟩:=g1 hc;have e3:binOp .sub (uc q) (.int .u64 1)=some (uc (q-1)):=B0 (b:=1) (by omega) (by omega);by_cases hb:4294967296<=r+v1
  ·right
   have sT:=h3 hb;rcases (show 4294967296<=q\/(¬4294967296<=q/\4294967296*r+u2<q*v2) by omega) with t1 | ⟨t1,t2⟩
   ·simp only [go_sem,ya,zF,show (4294967296:Int)<=(q:Int) by omega,e3,e4,show (4294967296:Int)<=((r+v1:Nat):Int) by omega];exact ⟨_,_,rfl,by simp,_,_,rfl,rfl,by simp only [go_sem,ya],by simp only [go_sem,ya],by simp only [go_sem,ya],by simp only [go_sem,ya],by simp only [go_sem,ya],by simp only [go_sem,ya],by simp only [go_sem,ya],by rw [sT];simp only [go_sem,ya]⟩
   ·have XQ:=wa (show q<=4294967295 by omega) (show v2<=4294967295 by omega);have e5:=n8 q v2;rw [yF (show q*v2<18446744073709551616 by omega)] at e5;simp only [go_sem,ya,zF,show ¬(4294967296:Int)<=(q:Int) by omega,e5,e1,e2,show ((4294967296*r+u2:Nat):Int)<((q*v2:Nat):Int) by omega,e3,e4,show (4294967296:Int)<=((r+v1:Nat):Int) by omega];exact ⟨_,_,rfl,by simp,_,_,rfl,rfl,by simp only [go_sem,ya],by simp only [go_sem,ya],by simp only [go_sem,ya],by simp only [go_sem,ya],by simp only [go_sem,ya],by simp only [go_sem,ya],by simp only [go_sem,ya],by rw [sT];simp only [go_sem,ya]⟩
  ·left
   rcases (show 4294967296<=q\/(¬4294967296<=q/\4294967296*r+u2<q*v2) by omega) with t1 | ⟨t1,t2⟩
   ·simp only [go_sem,ya,zF,show (4294967296:Int)<=(q:Int) by omega,e3,e4,show ¬(4294967296:Int)<=((r+v1:Nat):Int) by omega];exact ⟨_,q-1,rfl,by omega,q-1,r+v1,by simp only [go_sem,ya,aB],h1,by omega,h2,rfl⟩
   ·have XQ:=wa (show q<=4294967295 by omega) (show v2<=4294967295 by omega);have e5:=n8 q v2;rw [yF (show q*v2<18446744073709551616 by omega)] at e5;simp only [go_sem,ya,zF,show ¬(4294967296:Int)<=(q:Int) by omega,e5,e1,e2,show ((4294967296*r+u2:Nat):Int)<((q*v2:Nat):Int) by omega,e3,e4,show ¬(4294967296:Int)<=((r+v1:Nat):Int) by omega];exact ⟨_,q-1,rfl,by omega,q-1,r+v1,by simp only [go_sem,ya,aB],h1,by omega,h2,rfl⟩
 ·right
  have sT:=g2 (by omega) (by omega);have e5:=n8 q v2;rw [yF (show q*v2<18446744073709551616 by omega)] at e5;simp only [go_sem,ya,zF,show ¬(4294967296:Int)<=(q:Int) by omega,e5,e1,e2,show ¬((4294967296*r+u2:Nat):Int)<((q*v2:Nat):Int) by omega];exact ⟨_,_,rfl,by simp,_,_,rfl,rfl,by simp only [go_sem,ya],by simp only [go_sem,ya],by simp only [go_sem,ya],by simp only [go_sem,ya],by simp only [go_sem,ya],by simp only [go_sem,ya],by simp only [go_sem,ya],by rw [sT];simp only [go_sem,ya]⟩
def awh {y s v1 v2 u u2 z:Nat} (hy:y=v1*4294967296+v2) (cC:v2<4294967296) (Ey:0<v1) (eC:v1<4294967296) (hu:u<y) (sS:u2<4294967296):
  ∀k st,(∃q r:Nat,aQ [2,8,9,10,14,15,16,17,18] st=⟨[(2,uc y),(8,uc s),(9,uc v1),(10,uc v2),(14,uc u2),(15,uc z),(16,uc r),(17,uc u),(18,uc q)],[],0,0⟩/\q*v1+r=u/\r<4294967296/\(u*4294967296+u2)/y<=q/\q=k)->
   ∃ex st',D P L (.loop [2,8,9,10,14,15,16,17,18] zG) st=some (ex,st')/\∃tm ct,st'=⟨tm,[],ct,0⟩/\ex= .exit 2/\aj tm 2=uc y/\aj tm 8=uc s/\aj tm 9=uc v1/\aj tm 10=uc v2/\aj tm 14=uc u2/\aj tm 15=uc z/\aj tm 17=uc u/\aj tm 18=uc ((u*4294967296+u2)/y):=by
 intro dq sq;generalize bq:aQ [2,8,9,10,14,15,16,17,18] sq=s0;revert bq s0 sq dq;apply dh;rintro k st ⟨q,r,rfl,hq,hr,hQ,rfl⟩;obtain ⟨g1,g2⟩:=YX hy cC Ey eC hu sS hq hr hQ;have hqb:q*1<=q*v1:=yS q Ey;have azD:=yU 4294967296 (show v1<=4294967295 by omega);have nn:q<18446744073709551616:=by omega
 have Xp:=yS 4294967296 (show r<=4294967295 by omega);have e1:=n8 4294967296 r;rw [show uc 4294967296=AV.int .u64 4294967296 from rfl,yF (show 4294967296*r<18446744073709551616 by omega)] at e1;have e2:=zS (4294967296*r) u2;rw [yF (show 4294967296*r+u2<18446744073709551616 by omega)] at e2;have e4:=zS r v1;rw [yF (show r+v1<18446744073709551616 by omega)] at e4;by_cases hc:4294967296<=q\/4294967296*r+u2<q*v2
 ·obtain ⟨h0,h1,h2,h3⟩:=g1 hc;have e3:binOp .sub (uc q) (.int .u64 1)=some (uc (q-1)):=B0 (b:=1) (by omega) (by omega);by_cases hb:4294967296<=r+v1
  ·right
   have sT:=h3 hb;rcases (show 4294967296<=q\/(¬4294967296<=q/\4294967296*r+u2<q*v2) by omega) with t1 | ⟨t1,t2⟩
   ·simp only [go_sem,ya,zG,show (4294967296:Int)<=(q:Int) by omega,e3,e4,show (4294967296:Int)<=((r+v1:Nat):Int) by omega];exact ⟨_,_,rfl,by simp,_,_,rfl,rfl,by simp only [go_sem,ya],by simp only [go_sem,ya],by simp only [go_sem,ya],by simp only [go_sem,ya],by simp only [go_sem,ya],by simp only [go_sem,ya],by simp only [go_sem,ya],by rw [sT];simp only [go_sem,ya]⟩
   ·have XQ:=wa (show q<=4294967295 by omega) (show v2<=4294967295 by omega);have e5:=n8 q v2;rw [yF (show q*v2<18446744073709551616 by omega)] at e5;simp only [go_sem,ya,zG,show ¬(4294967296:Int)<=(q:Int) by omega,e5,e1,e2,show ((4294967296*r+u2:Nat):Int)<((q*v2:Nat):Int) by omega,e3,e4,show (4294967296:Int)<=((r+v1:Nat):Int) by omega];exact ⟨_,_,rfl,by simp,_,_,rfl,rfl,by simp only [go_sem,ya],by simp only [go_sem,ya],by simp only [go_sem,ya],by simp only [go_sem,ya],by simp only [go_sem,ya],by simp only [go_sem,ya],by simp only [go_sem,ya],by rw [sT];simp only [go_sem,ya]⟩
  ·left
   rcases (show 4294967296<=q\/(¬4294967296<=q/\4294967296*r+u2<q*v2) by omega) with t1 | ⟨t1,t2⟩
   ·simp only [go_sem,ya,zG,show (4294967296:Int)<=(q:Int) by omega,e3,e4,show ¬(4294967296:Int)<=((r+v1:Nat):Int) by omega];exact ⟨_,q-1,rfl,by omega,q-1,r+v1,by simp only [go_sem,ya,aB],h1,by omega,h2,rfl⟩
   ·have XQ:=wa (show q<=4294967295 by omega) (show v2<=4294967295 by omega);have e5:=n8 q v2;rw [yF (show q*v2<18446744073709551616 by omega)] at e5;simp only [go_sem,ya,zG,show ¬(4294967296:Int)<=(q:Int) by omega,e5,e1,e2,show ((4294967296*r+u2:Nat):Int)<((q*v2:Nat):Int) by omega,e3,e4,show ¬(4294967296:Int)<=((r+v1:Nat):Int) by omega];exact ⟨_,q-1,rfl,by omega,q-1,r+v1,by simp only [go_sem,ya,aB],h1,by omega,h2,rfl⟩
 ·right
  have sT:=g2 (by omega) (by omega);have e5:=n8 q v2;rw [yF (show q*v2<18446744073709551616 by omega)] at e5;simp only [go_sem,ya,zG,show ¬(4294967296:Int)<=(q:Int) by omega,e5,e1,e2,show ¬((4294967296*r+u2:Nat):Int)<((q*v2:Nat):Int) by omega];exact ⟨_,_,rfl,by simp,_,_,rfl,rfl,by simp only [go_sem,ya],by simp only [go_sem,ya],by simp only [go_sem,ya],by simp only [go_sem,ya],by simp only [go_sem,ya],by simp only [go_sem,ya],by simp only [go_sem,ya],by rw [sT];simp only [go_sem,ya]⟩
def agT (a:Nat):binOp .shr (.int .u64 (a:Int)) (.int .u64 32)=some (uc (a/4294967296)):=Ii .u64 a (s:=32) (by decide)
def aiJ (a:Nat) {b:Nat} (ha:a<18446744073709551616) (hb:0<b):binOp .quo (uc a) (uc b)=some (uc (a/b)):=by
 rw [eH _ _ _ (by omega),xE (by omega),<-Int.natCast_ediv,wrapM,yF];exact xB (wI a b) ha
def azE (a:Nat) {b:Nat} (hb:0<b):binOp .rem (uc a) (uc b)=some (uc (a%b)):=by
 rw [eP _ _ _ (by omega),xz (by omega),<-Int.natCast_emod]
def aoj {hi lo y s u z Y:Nat} (hs:s<64) (a6:lo<18446744073709551616) (hY:Y=y*2^s) (hu:u=hi*2^s+lo/2^(64-s)) (hz:z=lo*2^s%18446744073709551616):
  (hi*18446744073709551616+lo)*2^s=u*18446744073709551616+z:=by
 have e:18446744073709551616=2^(64-s)*2^s:=by rw [<-xn,show 64-s+s=64 by omega]
 have h1:lo*2^s/18446744073709551616=lo/2^(64-s):=by
  rw [e,yas _ _ (y9 s)]
 grind
def aaf {Y q a b:Nat} (h1:a<Y) (h2:b<4294967296) (h3:q=(a*4294967296+b)/Y):q<4294967296:=by
 rw [h3];exact (xy (by omega)).2 (by omega)
def aqm {u w x z z0 z1 q0 q1 Y:Nat} (jy:q1*Y+w=u*4294967296+z1) (fU:q0*Y+x=w*4294967296+z0) (hz:z=z1*4294967296+z0):u*18446744073709551616+z=(q1*4294967296+q0)*Y+x:=by grind
def amM {q1 q0:Nat} (h1:q1<4294967296) (h0:q0<4294967296):q1*4294967296<18446744073709551616/\q1*4294967296+q0<18446744073709551616:=by omega
def aiK (h:Has P L 165 HB) (Ij:L.pure 167=some Dk) {hi lo y:Nat} (fk:hi<y) (a6:lo<18446744073709551616) (hy:y<18446744073709551616):
  ai P L 165 [uc hi,uc lo,uc y] (.aa [uc ((hi*18446744073709551616+lo)/y),uc ((hi*18446744073709551616+lo)%y)]):=by
 have fm:0<y:=by omega
 by_cases h0:hi=0
 ·subst h0;have e1:=aiJ lo a6 fm;have e2:=azE lo fm;rw [wh,yh];unfold ai;rw [aF h];simp only [go_sem,ya,HB,show ¬(y:Int)=0 by omega,show ¬(y:Int)<=0 by omega,show ((0:Nat):Int)=0 from rfl,e1,e2];rfl
 ·obtain ⟨s,hs⟩:∃s,s=64-dG 64 y:=⟨_,rfl⟩;have hl:=afC (P:=P) (f:=D P L) Ij hy;obtain ⟨l1,l2,l3⟩:=Px fm hy;rw [<-hs] at hl l1 l2 l3;obtain ⟨Y,hY⟩:∃Y,Y=y*2^s:=⟨_,rfl⟩;obtain ⟨u,hu⟩:∃u,u=hi*2^s+lo/2^(64-s):=⟨_,rfl⟩;obtain ⟨z,hz⟩:∃z,z=lo*2^s%18446744073709551616:=⟨_,rfl⟩;have hdiv:=aoj l1 a6 hY hu hz;rw [<-hY] at l2 l3;have hp:=y9 s;obtain ⟨v1,eC⟩:∃v,v=Y/4294967296:=⟨_,rfl⟩;obtain ⟨v2,cC⟩:∃v,v=Y%4294967296:=⟨_,rfl⟩;have hYv:Y=v1*4294967296+v2:=by omega
  obtain ⟨z1,kI⟩:∃v,v=z/4294967296:=⟨_,rfl⟩;obtain ⟨z0,lG⟩:∃v,v=z%4294967296:=⟨_,rfl⟩;have Ez:z<18446744073709551616:=by omega
  have hhY:hi*2^s<Y:=by rw [hY];exact xQ fk hp
  have gR:lo/2^(64-s)<2^s:=by
   refine (xy (y9 _)).2 ?_;rw [<-xn,show s+(64-s)=64 by omega];exact a6
  have nf:hi*2^s|||lo/2^(64-s)=u:=by rw [Qh gR,hu]
  have hN:hi*18446744073709551616+lo<y*18446744073709551616:=by
   have:=yU 18446744073709551616 (show hi+1<=y from fk)
   omega
  have XR:u<Y:=by
   have h1:=xQ hN hp;rw [hdiv,Nat.mul_right_comm,<-hY] at h1;omega
  obtain ⟨q1,eZ⟩:∃q,q=(u*4294967296+z1)/Y:=⟨_,rfl⟩;obtain ⟨w,hw⟩:∃q,q=(u*4294967296+z1)%Y:=⟨_,rfl⟩;obtain ⟨q0,bq⟩:∃q,q=(w*4294967296+z0)/Y:=⟨_,rfl⟩;obtain ⟨x,hx⟩:∃q,q=(w*4294967296+z0)%Y:=⟨_,rfl⟩;have N7:w<Y:=by rw [hw];exact xu _ (by omega)
  have XS:x<Y:=by rw [hx];exact xu _ (by omega)
  have jy:=xF (u*4294967296+z1) Y;rw [<-eZ,<-hw,xg] at jy;have fU:=xF (w*4294967296+z0) Y;rw [<-bq,<-hx,xg] at fU;have azF:=aaf XR (show z1<4294967296 by omega) eZ;have azG:=aaf N7 (show z0<4294967296 by omega) bq;obtain ⟨td1,td2⟩:=amM azF azG;have lB:(hi*18446744073709551616+lo)*2^s=(q1*4294967296+q0)*Y+x:=by
   rw [hdiv];exact aqm jy fU (by omega)
  have r1:(hi*18446744073709551616+lo)/y=q1*4294967296+q0:=by
   rw [<-yas _ _ hp,lB,<-hY,xg _ Y,Nat.mul_add_div (by omega),xD XS,yV]
  have r2:x/2^s=(hi*18446744073709551616+lo)%y:=by
   have h1:x=(hi*18446744073709551616+lo)*2^s%(y*2^s):=by
    rw [lB,<-hY,xg _ Y,Nat.mul_add_mod,yF XS]
   rw [h1,tc,Nat.mul_div_cancel _ hp]
  have o1:=Ih .u64 y (s:=s) (by omega);rw [<-hY,yF l3] at o1;have o2:=agT Y;rw [<-eC] at o2;have o3:=aiI Y;rw [<-cC] at o3;have o4:=Ih .u64 hi (s:=s) (by omega);rw [yF (show hi*2^s<18446744073709551616 by omega)] at o4;have o5:binOp .sub (.int .u64 64) (uc s)=some (uc (64-s)):=B0 (a:=64) (by omega) (by omega);have o6:=Ii .u64 lo (s:=64-s) (by omega);have o7:=N5 (a:=hi*2^s) (b:=lo/2^(64-s)) (by omega) (xB (wI _ _) a6);rw [nf] at o7;have o8:=Ih .u64 lo (s:=s) (by omega);rw [<-hz] at o8;have o9:=agT z;rw [<-kI] at o9;have o10:=aiI z;rw [<-lG] at o10;have DY:0<v1:=by omega
  have agU:∀{a:Nat},a<Y->binOp .quo (uc a) (uc v1)=some (uc (a/v1))/\binOp .mul (uc (a/v1)) (uc v1)=some (uc (a/v1*v1))/\binOp .sub (uc a) (uc (a/v1*v1))=some (uc (a%v1)):=fun {a} ha=>by
   have h1:=xF a v1;rw [xg] at h1;have h2:=n8 (a/v1) v1;generalize a/v1*v1=m at*
   rw [yF (show m<18446744073709551616 by omega)] at h2;exact ⟨aiJ a (by omega) DY,h2,B0 (by omega) (by omega)⟩
  obtain ⟨g1,g2,g3⟩:=agU XR;obtain ⟨g4,g5,g6⟩:=agU N7;have first:∀{a b:Nat},b<4294967296->(a*4294967296+b)/Y<=a/v1:=fun {a b} hb=>by
   have:=Oz (b:=4294967296) (V:=Y) (v1:=v1) (v2:=v2) (vr:=0) (U:=a*4294967296+b) (u0:=0) (u1:=a) (u2:=b) (ur:=0) (p:=1) (by omega) (by omega) (by decide) hb DY
   simpa using this
  have back:∀{a b q x:Nat},a*4294967296+b=q*Y+x->x<Y->binOp .mul (uc a) (.int .u64 4294967296)=some (uc (a*4294967296%18446744073709551616))/\binOp .add (uc (a*4294967296%18446744073709551616)) (uc b)=some (uc ((a*4294967296%18446744073709551616+b)%18446744073709551616))/\
    binOp .mul (uc q) (uc Y)=some (uc (q*Y%18446744073709551616))/\binOp .sub (uc ((a*4294967296%18446744073709551616+b)%18446744073709551616)) (uc (q*Y%18446744073709551616))=some (uc x):=fun {a b q x} h1 h2=>by
   refine ⟨n8 a 4294967296,zS _ _,n8 q Y,B0 ?_ (by omega)⟩;generalize q*Y=m at*
   omega
  obtain ⟨k1,k2,k3,k4⟩:=back jy.symm N7;obtain ⟨k5,k6,k7,k8⟩:=back fU.symm XS;have m1:=n8 q1 4294967296;rw [yF td1,show uc 4294967296=AV.int .u64 4294967296 from rfl] at m1;have m2:=zS (q1*4294967296) q0;rw [yF td2] at m2;have m3:=Ii .u64 x (s:=s) (by omega);rw [r1,<-r2];unfold ai;rw [aF h];simp only [go_sem,ya,HB,show ¬(y:Int)=0 by omega,show ¬(y:Int)<=(hi:Int) by omega,show ¬(hi:Int)=0 by omega,hl,ayr,yF (show s<18446744073709551616 by omega),o1,o2,o3,o4,o5,o6,o7,o8,o9,o10,g1,g2,g3];generalize lH:D P L (.loop [2,8,9,10,11,13,14,15,16] zF) _=qq
  obtain ⟨ex,st,rfl,tm,ct,rfl,rfl,t2,t8,t9,t10,t11,t13,t14,t15⟩:=b6 lH (awg (P:=P) (L:=L) (s:=s) (z:=z0) hYv (by omega) DY (by omega) XR (show z1<4294967296 by omega) (u/v1)) ⟨u/v1,u%v1,by simp only [go_sem,ya,aB],by rw [xg];exact xF u v1,by have:=xu u DY;omega,first (by omega),rfl⟩
  rw [<-eZ] at t15;simp only [go_sem,ya,aB,t2,t8,t9,t10,t11,t13,t14,t15,k1,k2,k3,k4,g4,g5,g6];generalize B1:D P L (.loop [2,8,9,10,14,15,16,17,18] zG) _=XT;obtain ⟨ex,st,rfl,qP,ct2,rfl,rfl,t2,t8,t9,t10,t14,t15,t17,t18⟩:=b6 B1 (awh (P:=P) (L:=L) (s:=s) (z:=q1) hYv (by omega) DY (by omega) N7 (show z0<4294967296 by omega) (w/v1)) ⟨w/v1,w%v1,by simp only [go_sem,ya,aB],by rw [xg];exact xF w v1,by have:=xu w DY;omega,first (by omega),rfl⟩
  rw [<-bq] at t18;simp only [go_sem,ya,aB,t2,t8,t14,t15,t17,t18,m1,m2,k5,k6,k7,k8,m3];rfl
end
mutual
def below (n:Nat):AV->Prop
 | .ptr id _=>id<n
 | .aE id _ _=>id<n
 | .map id=>id<n
 | .it id=>id<n
 | .fn (.f _) first cap=>ph n first/\ph n cap
 | .fn (.y l) first cap=>l<n/\first=[]/\cap=[]
 | .agg cs=>ph n cs
 | .aa cs=>ph n cs
 | _=>True
def ph (n:Nat):List AV->Prop
 | []=>True
 | v::r=>below n v/\ph n r
end
def pk (n:Nat):Env->Prop
 | []=>True
 | (_,v)::r=>below n v/\pk n r
def Bq (n:Nat):Obj->Prop
 | .cells _ pu _ _ cs=>pu=true\/ph n cs
 | .mp _ ks vs=>ph n ks/\ph n vs
 | .si _ _=>True
 | .lp tm _ _ _ _ _=>pk n tm
def G0 (b n:Nat):Hp->Prop
 | []=>True
 | (id,o)::r=>id<b/\Bq n o/\G0 b n r
mutual
def aag {f:Nat->Option Nat} {n:Nat} (hf:∀x,x<n->f x=some x):∀{v:AV},below n v->bT f v=v
 | .int _ _,_ | .bool _,_ | .aw _ _,_ | .str _,_ | .km,_ | .b7 _,_ | .ae,_ | .aC _ _ _,_ | .ic,_ | .ju,_ | .iL _ _,_ | .undef,_ | .bE _ _ _ _,_=>rfl
 | .ptr id o,h=>by simp only [bT,hf id h]
 | .aE id o k,h=>by simp only [bT,hf id h]
 | .map id,h=>by simp only [bT,hf id h]
 | .it id,h=>by simp only [bT,hf id h]
 | .fn (.y l) first cap,h=>by
  obtain ⟨h1,rfl,rfl⟩:=h;simp only [bT,hf l h1,fe]
 | .fn (.f _) first cap,h=>by
  simp only [bT,zg hf h.1,zg hf h.2]
 | .agg cs,h=>by simp only [below] at h;simp only [bT,zg hf h]
 | .aa cs,h=>by simp only [below] at h;simp only [bT,zg hf h]
def zg {f:Nat->Option Nat} {n:Nat} (hf:∀x,x<n->f x=some x):∀{vs:List AV},ph n vs->fe f vs=vs
 | [],_=>rfl
 | v::r,h=>by simp only [fe,aag hf h.1,zg hf h.2]
end
def OM {f:Nat->Option Nat} {n:Nat} (hf:∀x,x<n->f x=some x):∀{tm:Env},pk n tm->jK f tm=tm
 | [],_=>rfl
 | (_,v)::r,h=>by simp only [jK,aag hf h.1,OM hf h.2]
def amN {f:Nat->Option Nat} {n:Nat} (hf:∀x,x<n->f x=some x):∀{o:Obj},Bq n o->kw f o=o
 | .cells _ pu _ _ cs,h=>by
  cases pu with
  | true=>rfl
  | false=>simp only [Bq,yC,ybT] at h;simp only [kw,yY,zg hf h]
 | .mp _ ks vs,h=>by simp only [kw,zg hf h.1,zg hf h.2]
 | .si _ _,_=>rfl
 | .lp tm _ _ _ _ _,h=>by simp only [Bq] at h;simp only [kw,OM hf h]
mutual
def Zu {n:Nat}:∀{v:AV},below n v->∀x,x∈refs v->x<n
 | .int _ _,_,x,h | .bool _,_,x,h | .aw _ _,_,x,h | .str _,_,x,h | .km,_,x,h | .b7 _,_,x,h | .ae,_,x,h | .aC _ _ _,_,x,h | .ic,_,x,h | .ju,_,x,h | .iL _ _,_,x,h | .undef,_,x,h | .bE _ _ _ _,_,x,h=>by simp [refs] at h
 | .ptr id o,h,x,hx=>by simp only [refs,vz] at hx;subst hx;exact h
 | .aE id o k,h,x,hx=>by simp only [refs,vz] at hx;subst hx;exact h
 | .map id,h,x,hx=>by simp only [refs,vz] at hx;subst hx;exact h
 | .it id,h,x,hx=>by simp only [refs,vz] at hx;subst hx;exact h
 | .fn (.y l) first cap,h,x,hx=>by simp only [refs,vz] at hx;subst hx;exact h.1
 | .fn (.f _) first cap,h,x,hx=>by
  simp only [refs,wy] at hx;exact hx.elim (ze h.1 x) (ze h.2 x)
 | .agg cs,h,x,hx=>by simp only [below] at h;simp only [refs] at hx;exact ze h x hx
 | .aa cs,h,x,hx=>by simp only [below] at h;simp only [refs] at hx;exact ze h x hx
def ze {n:Nat}:∀{vs:List AV},ph n vs->∀x,x∈iJ vs->x<n
 | [],_,x,h=>by simp [iJ] at h
 | v::r,h,x,hx=>by
  simp only [iJ,wy] at hx;exact hx.elim (Zu h.1 x) (ze h.2 x)
end
def OA {n:Nat}:∀{tm:Env},pk n tm->∀x,x∈iK tm->x<n
 | [],_,x,h=>by simp [iK] at h
 | (_,v)::r,h,x,hx=>by
  simp only [iK,wy] at hx;exact hx.elim (Zu h.1 x) (OA h.2 x)
def al2 {n:Nat}:∀{o:Obj},Bq n o->∀x,x∈nQ o->x<n
 | .cells _ pu _ _ cs,h,x,hx=>by
  cases pu with
  | true=>simp [nQ] at hx
  | false=>simp only [Bq,yC,ybT] at h;exact ze h x hx
 | .mp _ ks vs,h,x,hx=>by
  simp only [nQ,wy] at hx;exact hx.elim (ze h.1 x) (ze h.2 x)
 | .si _ _,_,x,hx=>by simp [nQ] at hx
 | .lp tm _ _ _ _ _,h,x,hx=>by simp only [Bq] at h;exact OA h x hx
def jr (B:Nat):List (List AV)->Hp
 | []=>[]
 | cs::r=>(B+r.length,.cells true true true 1 cs)::jr B r
def BD (B:Nat):List (List AV)->Hp->Hp
 | [],acc=>acc
 | cs::r,acc=>BD (B+1) r ((B,.cells true true true 1 cs)::acc)
def Zv:∀(l:List (List AV)) (B:Nat) (x:List AV) (acc:Hp),BD B (l++[x]) acc=(B+l.length,.cells true true true 1 x)::BD B l acc
 | [],B,x,acc=>rfl
 | c::l,B,x,acc=>by
  simp only [xh,BD,Zv l,yO]
  grind
def aah (B:Nat) (acc:Hp):∀rs:List (List AV),BD B rs.reverse acc=jr B rs++acc
 | []=>rfl
 | c::r=>by
  simp only [yaL,Zv,aah B acc r,yaz,jr,xh]
def aai {B:Nat} {old:Hp}:∀{rs:List (List AV)} {i:Nat} (h:i<rs.length),aA (jr B rs++old) (B+i)=some (.cells true true true 1 (rs.reverse[i]'(by simpa using h)))
 | c::r,i,h=>by
  simp only [jr,xh,yaL];by_cases hi:i=r.length
  ·subst hi;rw [aA,wu,yz]
   simp
  ·have aG:i<r.length:=by grind
   rw [aA,gn (by omega),yY,aai aG]
   grind
def Br {a b:Nat} (h:a<b):yK a b=true:=by simp_all
def G1 {a b:Nat} (h:b<=a):yK a b=false:=by
 cases hq:yK a b with
 | false=>rfl
 | true=>have:=yp hq;omega
def Oq {B:Nat} {old:Hp}:∀rs:List (List AV),iF B (jr B rs++old)=iF B old
 | []=>rfl
 | c::r=>by
  simp only [jr,xh];rw [iF,G1 (by omega),yY,Oq r]
def Zw {B:Nat} {old:Hp} {f:Nat->Option Nat}:∀rs:List (List AV),kY B f (jr B rs++old)=kY B f old
 | []=>rfl
 | c::r=>by
  simp only [jr,xh];rw [kY,G1 (by omega),yY,Zw r]
def YY {B n:Nat} {f:Nat->Option Nat} (hf:∀x,x<n->f x=some x):∀{old:Hp},G0 B n old->kY B f old=old
 | [],_=>rfl
 | (id,o)::r,h=>by
  rw [kY,Br h.1,yz,amN hf h.2.1,YY hf h.2.2]
def amO {B s x:Nat} (h:B+s<=x):kx x (xY B s)=false:=by
 induction s generalizing B with
 | zero=>rfl
 | succ s ih=>rw [ve,kx,gn (by omega),yY,ih (by omega)]
def ON {hp:Hp} {B R:Nat} (DZ:∀i,i<R->∃rw ex sz cs,aA hp (B+i)=some (.cells rw true ex sz cs)):
  ∀(W:List Nat) (bi s:Nat),W.length<bi->s<=R->W.filter (fun x=> !yK x B)=xY (B+s) (R-s)->reach hp B bi W (xY B s)=xY B R
 | [],0,s,hf,_,_=>by simp at hf
 | [],bi+1,s,hf,hs,h=>by
  have:R-s=0:=by
   grind
  rw [reach,show R=s by omega]
 | id::W,0,s,hf,_,_=>by simp at hf
 | id::W,bi+1,s,hf,hs,h=>by
  have As:W.length<bi:=by simp_all
  rw [reach];by_cases hid:id<B
  ·rw [Br hid,Bool.true_or,yz];rw [yaV,Br hid] at h;exact ON DZ W bi s As hs (by simpa using h)
  ·rw [yaV,G1 (by omega)] at h;have hRs:R-s=(R-s-1)+1:=by
    have:=congrArg tG h
    grind
   rw [hRs,ve] at h;injection h with h1 h2
   subst h1;rw [G1 (by omega),uU,amO (yB _),yY];obtain ⟨rw,ex,sz,cs,ho⟩:=DZ s (by omega);simp only [ho,nQ,yz,xT];have e:xY B s++[B+s]=xY B (s+1):=by rw [List.range'_concat];simp
   rw [e];exact ON DZ W bi (s+1) As (by omega) (by rw [h2,show R-s-1=R-(s+1) by omega,show B+s+1=B+(s+1) by omega])
def amP {B s i k:Nat} (h:i<s):lh (B+i) (xY B s) k=some (k+i):=by
 induction s generalizing B i k with
 | zero=>omega
 | succ s ih=>
  rw [ve,lh];by_cases hi:i=0
  ·simp_all
  ·rw [gn (by omega),yY]
   have:=ih (B:=B+1) (i:=i-1) (k:=k+1) (by omega)
   grind
def al3 {B R x:Nat} (h:x<B+R):jE B (xY B R) x=some x:=by
 unfold jE;by_cases hx:x<B
 ·rw [Br hx,yz]
 ·rw [G1 (by omega),yY]
  have:=amP (B:=B) (s:=R) (i:=x-B) (k:=B) (by omega)
  grind
def Zx {hp:Hp} {f:Nat->Option Nat}:∀(ro:List (List AV)) (B:Nat) (acc:Hp),(∀i (h:i<ro.length),aA hp (B+i)=some (.cells true true true 1 ro[i]))->jF hp f (xY B ro.length) B acc=BD B ro acc
 | [],B,acc,_=>rfl
 | c::r,B,acc,h=>by
  have h0:=h 0 (by simp);simp only [yV,List.getElem_cons_zero] at h0;rw [yO,ve,jF];simp only [h0,kw,yz,BD]
  exact Zx r (B+1) _ (fun i hi=>by
   have:=h (i+1) (by simpa using hi)
   rw [show B+1+i=B+(i+1) by omega,this]
   simp)
def aly {live:List Nat} {tm:Env} {B ct:Nat} {old:Hp} {rs:List (List AV)} (ht:pk B (dF tm live)) (ho:G0 B (B+rs.length) old) (hl:(iK (dF tm live)).length+(iF B old).length<100000)
  (hr:(iF B old).filter (fun x=> !yK x B)=xY B rs.length):aQ live ⟨tm,jr B rs++old,ct,B⟩=⟨dF tm live,jr B rs++old,B+rs.length,B⟩:=by
 have DZ:∀i (h:i<rs.length),aA (jr B rs++old) (B+i)=some (.cells true true true 1 (rs.reverse[i]'(by simpa using h))):=fun i h=>aai h
 have af1:reach (jr B rs++old) B 100000 (iK (dF tm live)++iF B (jr B rs++old)) []=xY B rs.length:=by
  have:=ON (hp:=jr B rs++old) (B:=B) (R:=rs.length) (fun i hi=>⟨_,_,_,_,DZ i hi⟩) (iK (dF tm live)++iF B (jr B rs++old)) 100000 0 (by rw [Oq,y5];exact hl) (uN _) (by
   rw [List.filter_append,Oq,hr,yai.2 (fun x hx=>by
    have:=OA ht x hx
    simp [Br this])]
   simp)
  grind
 have hid:∀x,x<B+rs.length->jE B (xY B rs.length) x=some x:=fun x hx=>al3 hx
 have hn:=Zx (hp:=jr B rs++old) (f:=jE B (xY B rs.length)) rs.reverse B old (fun i hi=>DZ i (by simpa using hi));rw [yaz] at hn;simp only [aQ,af1,Zw,YY hid ho,hn,aah,List.length_range']
 rw [OM (n:=B) (fun x hx=>hid x (by omega)) ht]
def Zy {B b n:Nat} (hb:b<=B):∀{H:Hp},G0 b n H->∀x,x∈iF B H->x<n
 | [],_,x,hx=>by simp [iF] at hx
 | (id,o)::r,h,x,hx=>by
  rw [iF,Br (by have:=h.1;omega),yz,wy] at hx;exact hx.elim (al2 h.2.1 x) (Zy hb h.2.2 x)
def YZ {live:List Nat} {tm:Env} {B ct:Nat} {old:Hp} (ht:pk B (dF tm live)) (ho:G0 B B old) (hl:(iK (dF tm live)).length+(iF B old).length<100000):
  aQ live ⟨tm,old,ct,B⟩=⟨dF tm live,old,B,B⟩:=by
 have:=aly (rs:=[]) (ct:=ct) ht (by simpa using ho) hl (by
  rw [yai.2 (fun x hx=>by have:=Zy (yB B) ho x hx;simp [Br this])]
  rfl)
 simpa [jr] using this
section
variable {P:aK} {L:Lib}
def aey {n:Nat} {F:aD} (h:Has P L n F) {hp:Hp} {ct:Nat} {ao:List AV} {ex:Ex} {s:St} {v:AV} (hD:D P L F.body ⟨dR 0 ao,hp,ct,ct⟩=some (ex,s)) (he:ex= .normal\/ex= .ret) (hr:gX s F.cZ=some v):
  gY P L (D P L) hp ct n ao=some (v,s.hp,s.ct):=by
 simp only [gY,h.heap,h.code,hD]
 grind
mutual
def oR {n:Nat}:∀{v:AV},bh v=true->below n v
 | .int _ _,_ | .bool _,_ | .aw _ _,_ | .str _,_ | .km,_ | .b7 _,_ | .ae,_ | .aC _ _ _,_ | .ic,_ | .ju,_ | .iL _ _,_ | .undef,_=>trivial
 | .bE _ _ _ _,_=>trivial
 | .ptr _ _,h | .aE _ _ _,h | .map _,h | .it _,h=>by simp [bh] at h
 | .fn (.y _) _ _,h=>by simp [bh] at h
 | .fn (.f _) _ _,h=>by
  simp only [bh,yf] at h;exact ⟨FN h.1,FN h.2⟩
 | .agg cs,h=>by simp only [bh] at h;simp only [below];exact FN h
 | .aa cs,h=>by simp only [bh] at h;simp only [below];exact FN h
def FN {n:Nat}:∀{vs:List AV},aI vs=true->ph n vs
 | [],_=>trivial
 | _::_,h=>by
  simp only [aI,yf] at h;exact ⟨oR h.1,FN h.2⟩
end
end
section
variable {pre x post:List Nat} {i:Nat}
def nN:(pre++x++post).length=pre.length+x.length+post.length:=by grind
def A9 (h:i<x.length):(pre++x++post).getD (pre.length+i) 0=x.getD i 0:=by grind
def KA (a:Nat) (h:i<x.length):(pre++x++post).set (pre.length+i) a=pre++x.set i a++post:=by simp_all
end
def kX (n:Nat) (k:xc) (a:Int):below n (.int k a)=True:=rfl
def lR (n id o k:Nat):below n (.aE id o k)=(id<n):=rfl
def kT (n:Nat):pk n []=True:=rfl
def kR (n i:Nat) (v:AV) (r:Env):pk n ((i,v)::r)=(below n v/\pk n r):=rfl
def oX {live:List Nat} {tm:Env} {ct:Nat} {a b:List AV} (ht:pk 2 (dF tm live)) (hl:(iK (dF tm live)).length<100000):
  aQ live ⟨tm,[(1,.cells true true true 1 a),(0,.cells true true true 1 b)],ct,2⟩=⟨dF tm live,[(1,.cells true true true 1 a),(0,.cells true true true 1 b)],2,2⟩:=
 YZ ht ⟨by omega,.inl rfl,by omega,.inl rfl,trivial⟩ (by
  have:iF 2 [(1,Obj.cells true true true 1 a),(0,Obj.cells true true true 1 b)]=[]:=rfl
  rw [this,yR,yV];exact hl)
section
variable {P:aK} {L:Lib}
def amQ {x s c:Nat} (hs:s<64) (hx:x<18446744073709551616) (hc:c<2^s):
  c|||(x*2^s%18446744073709551616)<18446744073709551616/\c<18446744073709551616/\x/2^(64-s)<2^s/\(c|||(x*2^s%18446744073709551616))+18446744073709551616*(x/2^(64-s))=x*2^s+c:=by
 have e:18446744073709551616=2^(64-s)*2^s:=by rw [<-xn,show 64-s+s=64 by omega]
 have h1:x*2^s%18446744073709551616=(x%2^(64-s))*2^s:=by rw [e,tc]
 have h2:x/2^(64-s)<2^s:=by
  refine (xy (y9 _)).2 ?_
  grind
 have h3:c|||(x*2^s%18446744073709551616)=(x%2^(64-s))*2^s+c:=by rw [h1,yck,Qh hc]
 have h4:(x%2^(64-s))*2^s+c<18446744073709551616:=by
  have:=yU (2^s) (show x%2^(64-s)+1<=2^(64-s) from xu _ (y9 _))
  grind
 have h5:=vH x (2^(64-s))
 grind
def awi {v:AV} {w:List Nat} (hv:bM v w) (hw:lo 18446744073709551616 w) (lw:w.length<=99999999999) {s n:Nat} (hs:s<64) (hn:n=w.length+1):
  ∀k st,(∃(i:Nat) (out:List Nat),aQ [1,5,12,13,14] st=⟨[(1,ab s),(5,.aE 0 0 n),(12,v),(13,ab w.length),(14,ab i)],[(0,.cells true true true 1 (out.map uc))],1,0⟩/\i+k=w.length/\out.length=n/\lo 18446744073709551616 out/\bv 18446744073709551616 out=bv 18446744073709551616 (w.take i)*2^s/\out.getD i 0<2^s/\(∀m,i<m->out.getD m 0=0))->
   ∃ex st',D P L (.loop [1,5,12,13,14] C2) st=some (ex,st')/\∃tm out,st'=⟨tm,[(0,.cells true true true 1 (out.map uc))],1,0⟩/\ex= .exit 0/\aj tm 5= .aE 0 0 n/\out.length=n/\lo 18446744073709551616 out/\bv 18446744073709551616 out=bv 18446744073709551616 w*2^s:=by
 intro dq sq;generalize bq:aQ [1,5,12,13,14] sq=s0;revert bq s0 sq dq;apply dh;rintro k st ⟨i,out,rfl,hk,hlen,a6,aH,hc,fk⟩;by_cases hi:i<w.length
 ·left
  have gx:=fY (show 0<18446744073709551616 by decide) hw i;have ex:=hv.cd hi;have ec:=rX (l:=out) (o:=i) (by omega);have bf:=mC (b:=18446744073709551616) (l:=out) (i:=i) (x:=out.getD i 0|||(w.getD i 0*2^s%18446744073709551616)) (by omega);have hz:out.getD (i+1) 0=0:=fk _ (by omega);have dY:=iH (b:=18446744073709551616) (l:=w) i;generalize out.getD i 0=c at*
  generalize w.getD i 0=x at*
  obtain ⟨s1,s2,s3,s4⟩:=amQ hs gx hc;have o1:=Ih .i64 x (s:=s) (by omega);have o2:=N5 s2 (xu (x*2^s) (by decide));have o3:binOp .sub (.int .i64 64) (ab s)=some (ab (64-s:Nat)):=by
   rw [Kx,wrap64 (by omega) (by omega)];congr 2;omega
  have o4:=Ii .i64 x (s:=64-s) (by omega);generalize mh:c|||(x*2^s%18446744073709551616)=c' at*
  by_cases h0:0<s
  ·have Lf:=mC (b:=18446744073709551616) (l:=out.set i c') (i:=i+1) (x:=x/2^(64-s)) (by simp;omega);rw [nM (by omega),hz,xp,yV] at Lf;have azH:x/2^(64-s)<18446744073709551616:=xB (wI _ _) gx;generalize x/2^(64-s)=y at*
   simp only [go_sem,ya,ym,C2,show (i:Int)<w.length by omega,ex,cP 0 0 (show i<n by omega),yh,ec,o1,o2,jD (l:=out) (o:=i) (by omega),show (0:Int)<(s:Int) by omega,show (i:Int)+1=((i+1:Nat):Int) from rfl,wrapN (n:=i+1) (by omega),o3,o4,cP 0 0 (show i+1<n by omega),jD (l:=out.set i c') (o:=i+1) (by simp;omega)];refine ⟨_,k-1,rfl,by omega,i+1,(out.set i c').set (i+1) y,by simp only [go_sem,ya,yd,aB,aO hv.pu,aV _ hv.pu]<;>rfl,by omega,by simp [hlen],kW (kW a6 s1) azH,?_,by rw [amr (by simp;omega)];exact s3,fun m hm=>by rw [nM (by omega),nM (by omega)];exact fk m (by omega)⟩
   rw [dY,xS,Lf,<-aH,yZ,xd,xd (18446744073709551616^i)];have e:=congrArg (fun t=>18446744073709551616^i*t) s4;simp only [xr] at e;generalize 18446744073709551616^i*(18446744073709551616*y)=p1 at*
   generalize 18446744073709551616^i*(x*2^s)=p2 at*
   generalize 18446744073709551616^i*c'=p3 at*
   omega
  ·have sJ:s=0:=by omega
   subst sJ;have jQ:c=0:=by simpa using hc
   have pP:x/2^(64-0)=0:=xD gx;rw [pP,xp,yV,vL,ym] at s4
   simp only [go_sem,ya,ym,C2,show (i:Int)<w.length by omega,ex,cP 0 0 (show i<n by omega),yh,ec,o1,o2,jD (l:=out) (o:=i) (by omega),show ¬(0:Int)<((0:Nat):Int) by omega,show (i:Int)+1=((i+1:Nat):Int) from rfl,wrapN (n:=i+1) (by omega)];refine ⟨_,k-1,rfl,by omega,i+1,out.set i c',by simp only [go_sem,ya,yd,aB,aO hv.pu,aV _ hv.pu]<;>rfl,by omega,by simp [hlen],kW a6 s1,?_,by rw [nM (by omega),hz];exact y9 _,fun m hm=>by rw [nM (by omega)];exact fk m (by omega)⟩
   rw [vL,ym] at aH ⊢;rw [dY,<-aH];rw [jQ,xp,yV] at bf;rw [bf,s4,jQ,yV]
 ·right
  have:i=w.length:=by omega
  subst this;rw [xH] at aH;simp only [go_sem,ya,C2,show ¬(w.length:Int)<w.length by omega];exact ⟨_,_,rfl,by simp,_,out,rfl,rfl,by simp only [go_sem,ya],hlen,a6,aH⟩
def aiL (h:Has P L 168 LK) {v:AV} {w:List Nat} (hv:bM v w) (hw:lo 18446744073709551616 w) (lw:w.length<=99999999999) {s:Nat} (hs:s<64):
  ∃out,ai P L 168 [v,ab s] (.bE true 1 (w.length+1) (out.map uc))/\out.length=w.length+1/\lo 18446744073709551616 out/\bv 18446744073709551616 out=bv 18446744073709551616 w*2^s:=by
 obtain ⟨n,hn⟩:∃n,n=w.length+1:=⟨_,rfl⟩;unfold ai;rw [aF h]
 simp only [go_sem,ya,yd,LK,hv.len,wrapN (n:=n) (by omega),show (w.length:Int)+1=((w.length+1:Nat):Int) from rfl,<-hn,BZ (n:=n) _ (by omega)];generalize hq:D P L (.loop [1,5,12,13,14] C2) _=q;obtain ⟨ex,st,rfl,tm,o,rfl,rfl,t5,hlen,a6,aH⟩:=b6 hq (awi (P:=P) (L:=L) hv hw lw hs hn w.length)
  ⟨0,yL n 0,by simp only [go_sem,ya,yd,aB,aO hv.pu,aV _ hv.pu]<;>rfl,by omega,by simp,Da (by decide) n,by rw [Db];simp [bv],by rw [A8];exact y9 _,fun m _=>A8 n m⟩
 refine ⟨o,?_,hlen,a6,aH⟩;simp only [go_sem,yd,aB,t5];exact Zs (Pu _ _ _) (by simp [hlen]) (by decide)
end
abbrev H2 (a b:List Nat):Hp:=[(1,.cells true true true 1 (a.map uc)),(0,.cells true true true 1 (b.map uc))]
structure gj (x vs:List Nat) (n v1 v2 u0 u1 u2:Nat):Prop where
 n2:2<=n
 nb:n<=99999999999
 lx:x.length=n+1
 lv:vs.length=n
 gx:lo 18446744073709551616 x
 gv:lo 18446744073709551616 vs
 eC:vs.getD (n-1) 0=v1
 cC:vs.getD (n-2) 0=v2
 h0:x.getD n 0=u0
 h1:x.getD (n-1) 0=u1
 h2:x.getD (n-2) 0=u2
 pos:0<v1
 lt:bv 18446744073709551616 x<18446744073709551616*bv 18446744073709551616 vs
def ays (b p a v1 v2:Nat):a+p*v2+p*b*v1=(v1*b+v2)*p+a:=by grind
def ayt (b p a v0 v1 v2:Nat):a+p*v2+p*b*v1+p*b*b*v0=((v0*b+v1)*b+v2)*p+a:=by grind
section
variable {x vs:List Nat} {n v1 v2 u0 u1 u2:Nat}
def gj.Ja (h:gj x vs n v1 v2 u0 u1 u2):v1<18446744073709551616:=h.eC▸fY (by decide) h.gv _
def gj.Cs (h:gj x vs n v1 v2 u0 u1 u2):v2<18446744073709551616:=h.cC▸fY (by decide) h.gv _
def gj.Jb (h:gj x vs n v1 v2 u0 u1 u2):u1<18446744073709551616:=h.h1▸fY (by decide) h.gx _
def gj.Jc (h:gj x vs n v1 v2 u0 u1 u2):u2<18446744073709551616:=h.h2▸fY (by decide) h.gx _
def gj.parts (h:gj x vs n v1 v2 u0 u1 u2):∃p vr ur,bv 18446744073709551616 vs=(v1*18446744073709551616+v2)*p+vr/\vr<p/\bv 18446744073709551616 x=((u0*18446744073709551616+u1)*18446744073709551616+u2)*p+ur/\ur<p:=by
 obtain ⟨m,hm⟩:∃m,n=m+2:=⟨n-2,by have:=h.n2;omega⟩;subst hm;have e1:=iH (b:=18446744073709551616) (l:=vs) (m+1);have e2:=iH (b:=18446744073709551616) (l:=vs) m;have f0:=iH (b:=18446744073709551616) (l:=x) (m+2);have f1:=iH (b:=18446744073709551616) (l:=x) (m+1);have f2:=iH (b:=18446744073709551616) (l:=x) m;have eC:vs.getD (m+1) 0=v1:=h.eC;have cC:vs.getD m 0=v2:=h.cC;have h0:x.getD (m+2) 0=u0:=h.h0;have h1:x.getD (m+1) 0=u1:=h.h1;have h2:x.getD m 0=u2:=h.h2
 rw [yQ (by have:=h.lv;omega),eC,e2,cC] at e1
 rw [yQ (by have:=h.lx;omega),h0,f1,h1,f2,h2] at f0;have g1:=kZ (zA h.gv m)
 rw [yW,xA (by have:=h.lv;omega)] at g1;have g2:=kZ (zA h.gx m)
 rw [yW,xA (by have:=h.lx;omega)] at g2;refine ⟨18446744073709551616^m,_,_,?_,g1,?_,g2⟩
 ·grind
 ·grind
def gj.down (h:gj x vs n v1 v2 u0 u1 u2) {t r:Nat} (ht:t*v1+r=u0*18446744073709551616+u1) (hr:r*18446744073709551616+u2<t*v2):bv 18446744073709551616 x/bv 18446744073709551616 vs<=t-1:=by
 obtain ⟨p,vr,ur,h1,h2,h3,h4⟩:=h.parts;exact Zp h1 h3 h4 ht hr
def gj.stop (h:gj x vs n v1 v2 u0 u1 u2) {t r:Nat} (jC:t<18446744073709551616) (ht:t*v1+r=u0*18446744073709551616+u1) (hr:18446744073709551616<=r\/t*v2<=r*18446744073709551616+u2):t<=bv 18446744073709551616 x/bv 18446744073709551616 vs+1:=by
 obtain ⟨p,vr,ur,h1,h2,h3,h4⟩:=h.parts;exact aab (by decide) h1 h2 h3 h.pos h.Cs jC ht hr
def gj.first (h:gj x vs n v1 v2 u0 u1 u2):bv 18446744073709551616 x/bv 18446744073709551616 vs<=(u0*18446744073709551616+u1)/v1:=by
 obtain ⟨p,vr,ur,h1,h2,h3,h4⟩:=h.parts;exact Oz h1 h3 h4 h.Jc h.pos
def gj.top (h:gj x vs n v1 v2 u0 u1 u2):u0<=v1:=by
 obtain ⟨p,vr,ur,h1,h2,h3,h4⟩:=h.parts;exact aac h1 h3 h2 h.Cs h.lt
def gj.digit (h:gj x vs n v1 v2 u0 u1 u2):bv 18446744073709551616 x/bv 18446744073709551616 vs<18446744073709551616:=by
 refine (xy ?_).2 h.lt;rcases xe (bv 18446744073709551616 vs) with h0 | h0
 ·have:=h.lt;rw [h0] at this;simp at this
 ·exact h0
end
section
variable {P:aK} {L:Lib}
def afE (lA:L.pure 143=some p8) (fP:L.pure 171=some mA) {w:AV} {x vs pre post qs:List Nat} (hw:bM w vs) {n v1 v2 u0 u1 u2:Nat} (hl:gj x vs n v1 v2 u0 u1 u2):
  ∀k s,(∃q r:Nat,aQ [0,1,5,6,7,8] s=⟨[(0,.aE 0 pre.length (n+1)),(1,w),(5,ab n),(6,uc q),(7,uc (r%18446744073709551616)),(8,uc (r/18446744073709551616))],H2 qs (pre++x++post),2,2⟩/\q*v1+r=u0*18446744073709551616+u1/\r<2*18446744073709551616/\q<18446744073709551616/\bv 18446744073709551616 x/bv 18446744073709551616 vs<=q/\q=k)->
   ∃ex s',D P L (.loop [0,1,5,6,7,8] rO) s=some (ex,s')/\∃tm q,s'=⟨tm,H2 qs (pre++x++post),2,2⟩/\ex= .exit 0/\aj tm 0= .aE 0 pre.length (n+1)/\aj tm 1=w/\aj tm 5=ab n/\aj tm 6=uc q/\q<18446744073709551616/\bv 18446744073709551616 x/bv 18446744073709551616 vs<=q/\q<=bv 18446744073709551616 x/bv 18446744073709551616 vs+1:=by
 intro dq sq;generalize bq:aQ [0,1,5,6,7,8] sq=s0;revert bq s0 sq dq;apply dh;rintro k s ⟨q,r,rfl,hq,hr,nn,hQ,rfl⟩;have cU:=hl.n2;have oC:=hl.nb;by_cases kK:r<18446744073709551616
 ·have EA:r%18446744073709551616=r:=yF kK;have AB:r/18446744073709551616=0:=xD kK;rw [EA,AB];have D0:=hl.Ja;have Wl:=hl.Cs;have aiM:=hl.Jc;have oH:=hw.cd (i:=n-2) (by have:=hl.lv;omega);have eD:=hw.cd (i:=n-1) (by have:=hl.lv;omega);rw [hl.cC] at oH;rw [hl.eC] at eD;have rm:=rX (l:=pre++x++post) (o:=pre.length+(n-2)) (by rw [nN];have:=hl.lx;omega)
  rw [A9 (by have:=hl.lx;omega),hl.h2] at rm;have f1:=KQ (P:=P) (f:=D P L) lA nn Wl;have f2:=Bp (P:=P) (f:=D P L) fP (x:=r) (y:=v1) (c:=0) kK D0 (by omega);rw [show (uc 0)=AV.int .u64 0 from rfl] at f2;have dZ:=xF (q*v2) 18446744073709551616;have a6:=xu (q*v2) (show 0<18446744073709551616 by decide);obtain ⟨H,hH⟩:∃H,H=q*v2/18446744073709551616:=⟨_,rfl⟩;obtain ⟨G,hG⟩:∃G,G=q*v2%18446744073709551616:=⟨_,rfl⟩;rw [<-hH,<-hG] at f1 dZ;rw [<-hG] at a6;have sU:(n:Int)-2=((n-2:Nat):Int):=by omega
  have oI:(n:Int)-1=((n-1:Nat):Int):=by omega
  by_cases c1:H<r
  ·right
   simp only [go_sem,ya,rO,H2,show ((0:Nat):Int)=0 from rfl,sU,wrapN (n:=n-2) (by omega),oH,f1,show (H:Int)<(r:Int) by omega];exact ⟨_,_,rfl,by simp,_,q,rfl,rfl,by simp only [go_sem,ya],by simp only [go_sem,ya],by simp only [go_sem,ya],by simp only [go_sem,ya],nn,hQ,hl.stop nn hq (.inr (by omega))⟩
  ·by_cases c2:H=r/\G<=u2
   ·right
    obtain ⟨c2,c3⟩:=c2
    simp only [go_sem,ya,rO,H2,show ((0:Nat):Int)=0 from rfl,sU,wrapN (n:=n-2) (by omega),oH,f1,show (H:Int)=(r:Int) by omega];simp only [show ¬(r:Int)<(r:Int) by omega,yr]
    simp only [go_sem,ya,ym,sU,wrapN (n:=n-2) (by omega),cP 0 pre.length (show n-2<n+1 by omega),rm,show (G:Int)<=(u2:Int) by omega];exact ⟨_,_,rfl,by simp,_,q,rfl,rfl,by simp only [go_sem,ya],by simp only [go_sem,ya],by simp only [go_sem,ya],by simp only [go_sem,ya],nn,hQ,hl.stop nn hq (.inr (by omega))⟩
   ·left
    have El:r*18446744073709551616+u2<q*v2:=by omega
    have bq:0<q:=by
     rcases xe q with h0 | h0
     ·subst h0;omega
     ·exact h0
    have e3:binOp .sub (uc q) (.int .u64 1)=some (uc (q-1)):=B0 (b:=1) (by omega) (by omega);have h1:(q-1)*v1+(r+v1)=u0*18446744073709551616+u1:=by
     obtain ⟨p,rfl⟩:∃p,q=p+1:=⟨q-1,by omega⟩;rw [xS,ybC] at hq;rw [ug];omega
    have sW:=hl.down hq El;rw [yV] at f2;by_cases c3:H=r
    ·have c4:¬G<=u2:=fun h=>c2 ⟨c3,h⟩
     subst c3
     simp only [go_sem,ya,xN,ym,rO,H2,show ((0:Nat):Int)=0 from rfl,sU,oI,wrapN (n:=n-2) (by omega),wrapN (n:=n-1) (by omega),oH,eD,f1,f2,show ¬(H:Int)<(H:Int) by omega,cP 0 pre.length (show n-2<n+1 by omega),rm,show ¬(G:Int)<=(u2:Int) by omega,e3];refine ⟨_,q-1,rfl,by omega,q-1,H+v1,?_,h1,by omega,by omega,sW,rfl⟩;rw [oX (by simp only [go_sem,ya,yI,kX,lR,kT,kR,oR hw.pu,wN]) (by simp only [go_sem,ya,yd,yI,aO hw.pu])];simp only [go_sem,ya]
    ·simp only [go_sem,ya,xN,rO,H2,show ((0:Nat):Int)=0 from rfl,sU,oI,wrapN (n:=n-2) (by omega),wrapN (n:=n-1) (by omega),oH,eD,f1,f2,show ¬(H:Int)<(r:Int) by omega,show ¬(H:Int)=(r:Int) by omega,e3];refine ⟨_,q-1,rfl,by omega,q-1,r+v1,?_,h1,by omega,by omega,sW,rfl⟩;rw [oX (by simp only [go_sem,ya,yI,kX,lR,kT,kR,oR hw.pu,wN]) (by simp only [go_sem,ya,yd,yI,aO hw.pu])];simp only [go_sem,ya]
 ·right
  have AB:r/18446744073709551616=1:=by omega
  rw [AB];simp only [go_sem,ya,rO,H2,show ((1:Nat):Int)=1 from rfl,Int.reduceEq];exact ⟨_,_,rfl,by simp,_,q,rfl,rfl,by simp only [go_sem,ya],by simp only [go_sem,ya],by simp only [go_sem,ya],by simp only [go_sem,ya],nn,hQ,hl.stop nn hq (.inl (by omega))⟩
end
def aok {b p x y z mj c bo sX ca q v X Y:Nat} (h1:q*v+c=b*ca+mj) (h2:z+mj+bo=x+b*sX) (h3:Y+q*X=y+p*(c+bo)) (W:Nat) (hW:W+p*x=Y+p*z):
  W+q*(X+p*v)=y+p*b*(ca+sX):=by grind
def aol {q v c:Nat} (hq:q<18446744073709551616) (hv:v<18446744073709551616) (hc:c<18446744073709551616):
  q*v+c=18446744073709551616*(q*v/18446744073709551616+(q*v%18446744073709551616+c+0)/18446744073709551616)+(q*v%18446744073709551616+c+0)%18446744073709551616/\
  q*v/18446744073709551616+(q*v%18446744073709551616+c+0)/18446744073709551616<18446744073709551616:=by
 have h:=wa (show q<=18446744073709551615 by omega) (show v<=18446744073709551615 by omega)
 grind
section
variable {P:aK} {L:Lib}
def awj (lA:L.pure 143=some p8) (fP:L.pure 171=some mA) (qH:L.pure 173=some zE) {w:AV} {x vs pre post qs:List Nat} (hw:bM w vs) {n:Nat} (oC:n<=99999999999) (lv:vs.length=n) (gv:lo 18446744073709551616 vs) {q:Nat} (hq:q<18446744073709551616):
  ∀k s,(∃(i c bo:Nat) (y:List Nat),aQ [0,1,5,6,11,12,104,105] s=⟨[(0,.aE 0 pre.length (n+1)),(1,w),(5,ab n),(6,uc q),(11,uc bo),(12,uc c),(104,ab n),(105,ab i)],H2 qs (pre++y++post),2,2⟩/\i+k=n/\y.length=n+1/\lo 18446744073709551616 y/\c<18446744073709551616/\bo<=1/\
    bv 18446744073709551616 y+q*bv 18446744073709551616 (vs.take i)=bv 18446744073709551616 x+18446744073709551616^i*(c+bo))->
   ∃ex s',D P L (.loop [0,1,5,6,11,12,104,105] GD) s=some (ex,s')/\∃tm c bo y,s'=⟨tm,H2 qs (pre++y++post),2,2⟩/\ex= .exit 2/\aj tm 0= .aE 0 pre.length (n+1)/\aj tm 1=w/\aj tm 5=ab n/\aj tm 6=uc q/\aj tm 11=uc bo/\aj tm 12=uc c/\y.length=n+1/\lo 18446744073709551616 y/\c<18446744073709551616/\bo<=1/\
    bv 18446744073709551616 y+q*bv 18446744073709551616 vs=bv 18446744073709551616 x+18446744073709551616^n*(c+bo):=by
 intro dq sq;generalize bq:aQ [0,1,5,6,11,12,104,105] sq=s0;revert bq s0 sq dq;apply dh;rintro k s ⟨i,c,bo,y,rfl,hk,ly,gy,hc,iA,aH⟩;by_cases hi:i<n
 ·left
  have da:(0:Nat)<18446744073709551616:=by decide
  have pQ:=fY da gv i;have oJ:=fY da gy i;have ev:=hw.cd (i:=i) (by omega);have ey:=rX (l:=pre++y++post) (o:=pre.length+i) (by rw [nN];omega);rw [A9 (by omega)] at ey;have dY:=iH (b:=18446744073709551616) (l:=vs) i;obtain ⟨a,ha⟩:∃a,a=vs.getD i 0:=⟨_,rfl⟩;obtain ⟨d,hd⟩:∃d,d=y.getD i 0:=⟨_,rfl⟩;rw [<-ha] at pQ ev dY;rw [<-hd] at oJ ey;obtain ⟨m1,m2⟩:=aol hq pQ hc;have f1:=KQ (P:=P) (f:=D P L) lA hq pQ;have f2:=Bp (P:=P) (f:=D P L) fP (x:=q*a%18446744073709551616) (y:=c) (c:=0) (xu _ da) hc (by omega);obtain ⟨mj,aiN⟩:∃t,t=(q*a%18446744073709551616+c+0)%18446744073709551616:=⟨_,rfl⟩;obtain ⟨c1,dP⟩:∃t,t=(q*a%18446744073709551616+c+0)/18446744073709551616:=⟨_,rfl⟩;have aiO:mj<18446744073709551616:=by rw [aiN];exact xu _ da
  rw [<-aiN,<-dP] at f2 m1;rw [<-dP] at m2;obtain ⟨h1,gl⟩:∃t,t=q*a/18446744073709551616:=⟨_,rfl⟩;rw [<-gl] at f1 m1 m2;rw [show (uc 0)=AV.int .u64 0 from rfl] at f2;have f3:=Qg (P:=P) (f:=D P L) qH oJ aiO iA;have fo:=Pw oJ aiO iA;obtain ⟨z,hz⟩:∃t,t=(d+18446744073709551616*2-mj-bo)%18446744073709551616:=⟨_,rfl⟩;obtain ⟨b',bC⟩:∃t,t=(if mj+bo<=d then 0 else 1):=⟨_,rfl⟩;have jP:b'<=1:=by rw [bC];split<;>omega
  have Ez:z<18446744073709551616:=by rw [hz];exact xu _ da
  rw [<-hz,<-bC] at f3 fo;have f4:binOp .add (uc h1) (uc c1)=some (uc (h1+c1)):=by
   rw [zS,yF m2]
  have bf:=mC (b:=18446744073709551616) (l:=y) (i:=i) (x:=z) (by omega);rw [<-hd] at bf;have aU:=fun (hp:Hp) (ct:Nat)=>jD (hp:=hp) (ct:=ct) (id:=0) (v:=z) (ex:=true) (l:=pre++y++post) (o:=pre.length+i) (by rw [nN];omega)
  have mN:=KA (pre:=pre) (x:=y) (post:=post) (i:=i) z (by omega);simp only [go_sem,ya,ym,GD,H2,show (i:Int)<(n:Int) by omega,ev,f1,f2,f4,cP 0 pre.length (show i<n+1 by omega),ey,f3,aU,mN];refine ⟨_,k-1,rfl,by omega,i+1,h1+c1,b',y.set i z,?_,by omega,by simp [ly],kW gy Ez,m2,jP,?_⟩
  ·rw [oX (by simp only [go_sem,ya,yI,kX,lR,kT,kR,oR hw.pu,wN]) (by simp only [go_sem,ya,yd,yI,aO hw.pu])];rw [wrap64 (by omega) (by omega)];simp only [go_sem,ya]<;>rfl
  ·rw [dY,yZ];exact aok m1 fo aH _ bf
 ·right
  have:i=n:=by omega
  subst this;rw [yQ (by omega)] at aH;simp only [go_sem,ya,GD,H2,show ¬(i:Int)<(i:Int) by omega];exact ⟨_,_,rfl,by simp,_,c,bo,y,rfl,rfl,by simp only [go_sem,ya],by simp only [go_sem,ya],by simp only [go_sem,ya],by simp only [go_sem,ya],by simp only [go_sem,ya],by simp only [go_sem,ya],ly,gy,hc,iA,aH⟩
def awk (fP:L.pure 171=some mA) {w:AV} {y0 vs pre post qs:List Nat} (hw:bM w vs) {n:Nat} (oC:n<=99999999999) (lv:vs.length=n) (gv:lo 18446744073709551616 vs) {q:Nat}:
  ∀k s,(∃(i c:Nat) (y:List Nat),aQ [0,1,5,6,17,156,157] s=⟨[(0,.aE 0 pre.length (n+1)),(1,w),(5,ab n),(6,uc q),(17,uc c),(156,ab n),(157,ab i)],H2 qs (pre++y++post),2,2⟩/\i+k=n/\y.length=n+1/\lo 18446744073709551616 y/\c<=1/\
    bv 18446744073709551616 y+18446744073709551616^i*c=bv 18446744073709551616 y0+bv 18446744073709551616 (vs.take i))->
   ∃ex s',D P L (.loop [0,1,5,6,17,156,157] GF) s=some (ex,s')/\∃tm c y,s'=⟨tm,H2 qs (pre++y++post),2,2⟩/\ex= .exit 4/\aj tm 0= .aE 0 pre.length (n+1)/\aj tm 5=ab n/\aj tm 6=uc q/\aj tm 17=uc c/\y.length=n+1/\lo 18446744073709551616 y/\c<=1/\
    bv 18446744073709551616 y+18446744073709551616^n*c=bv 18446744073709551616 y0+bv 18446744073709551616 vs:=by
 intro dq sq;generalize bq:aQ [0,1,5,6,17,156,157] sq=s0;revert bq s0 sq dq;apply dh;rintro k s ⟨i,c,y,rfl,hk,ly,gy,hc,aH⟩;by_cases hi:i<n
 ·left
  have da:(0:Nat)<18446744073709551616:=by decide
  have pQ:=fY da gv i;have oJ:=fY da gy i;have ev:=hw.cd (i:=i) (by omega);have ey:=rX (l:=pre++y++post) (o:=pre.length+i) (by rw [nN];omega);rw [A9 (by omega)] at ey;have dY:=iH (b:=18446744073709551616) (l:=vs) i;obtain ⟨a,ha⟩:∃a,a=vs.getD i 0:=⟨_,rfl⟩;obtain ⟨d,hd⟩:∃d,d=y.getD i 0:=⟨_,rfl⟩;rw [<-ha] at pQ ev dY;rw [<-hd] at oJ ey;have f1:=Bp (P:=P) (f:=D P L) fP oJ pQ hc;have bf:=mC (b:=18446744073709551616) (l:=y) (i:=i) (x:=(d+a+c)%18446744073709551616) (by omega);rw [<-hd] at bf;have iy:=JQ (18446744073709551616^i) 18446744073709551616 (d+a+c);have mh:(d+a+c)/18446744073709551616<=1:=by omega
  have Ez:(d+a+c)%18446744073709551616<18446744073709551616:=xu _ da;generalize (d+a+c)%18446744073709551616=z at*
  generalize (d+a+c)/18446744073709551616=c' at*
  have aU:=fun (hp:Hp) (ct:Nat)=>jD (hp:=hp) (ct:=ct) (id:=0) (v:=z) (ex:=true) (l:=pre++y++post) (o:=pre.length+i) (by rw [nN];omega)
  have mN:=KA (pre:=pre) (x:=y) (post:=post) (i:=i) z (by omega);simp only [go_sem,ya,ym,GF,H2,show (i:Int)<(n:Int) by omega,ev,f1,cP 0 pre.length (show i<n+1 by omega),ey,aU,mN];refine ⟨_,k-1,rfl,by omega,i+1,c',y.set i z,?_,by omega,by simp [ly],kW gy Ez,mh,?_⟩
  ·rw [oX (by simp only [go_sem,ya,yI,kX,lR,kT,kR,oR hw.pu,wN]) (by simp only [go_sem,ya,yd,yI,aO hw.pu])];rw [wrap64 (by omega) (by omega)];simp only [go_sem,ya]<;>rfl
  ·rw [dY,yZ];rw [xr,xr] at iy;omega
 ·right
  have:i=n:=by omega
  subst this;rw [yQ (by omega)] at aH;simp only [go_sem,ya,GF,H2,show ¬(i:Int)<(i:Int) by omega];exact ⟨_,_,rfl,by simp,_,c,y,rfl,rfl,by simp only [go_sem,ya],by simp only [go_sem,ya],by simp only [go_sem,ya],by simp only [go_sem,ya],ly,gy,hc,aH⟩
end
def step_end {A V q Y B bo:Nat} (hV:0<V) (h:Y+q*V=A+B*bo) (h1:A/V<=q) (h2:q<=A/V+1) (hY:Y<B) (hVB:V<=B) (iA:bo<=1):
  (bo=0->q=A/V/\Y=A%V)/\(bo=1->q=A/V+1/\Y+V=B+A%V):=by
 have dZ:=xF A V;have hm:=xu A hV;generalize A/V=Q at*
 have hq:q=Q\/q=Q+1:=by omega
 constructor
 ·rintro rfl;rcases hq with rfl | rfl
  ·grind
  ·grind
 ·grind
section
variable {P:aK} {L:Lib}
structure Wd (P:aK) (L:Lib):Prop where
 lA:L.pure 143=some p8
 fP:L.pure 171=some mA
 qH:L.pure 173=some zE
 Ij:L.pure 167=some Dk
 aiP:Has P L 165 HB
 lz:Has P L 166 zW
 aiQ:Has P L 168 LK
 azI:Has P L 169 qB
 aiR:Has P L 158 Du
 azJ:Has P L 157 HA
 aiS:Has P L 159 LI
 azK:Has P L 144 LH
 Wm:Has P L 137 Hx
def aq:VC->VC
 | .seq _ b=>b
 | c=>c
def awl (h:Wd P L) {w:AV} {x vs pre post qs:List Nat} (hw:bM w vs) {n v1 v2 u0 u1 u2:Nat} (hl:gj x vs n v1 v2 u0 u1 u2) {q:Nat} (hq:q<18446744073709551616) (eZ:bv 18446744073709551616 x/bv 18446744073709551616 vs<=q) (rn:q<=bv 18446744073709551616 x/bv 18446744073709551616 vs+1):
  ∃tm x',D P L (aq (aq (aq (aq (aq (aq qB.body)))))) ⟨[(0,.aE 0 pre.length (n+1)),(1,w),(5,ab n),(6,uc q)],H2 qs (pre++x++post),2,2⟩=some (.ret,⟨tm,H2 qs (pre++x'++post),2,2⟩)/\aj tm 4=uc (bv 18446744073709551616 x/bv 18446744073709551616 vs)/\x'.length=n+1/\lo 18446744073709551616 x'/\bv 18446744073709551616 x'=bv 18446744073709551616 x%bv 18446744073709551616 vs:=by
 have cU:=hl.n2;have oC:=hl.nb;have da:(0:Nat)<18446744073709551616:=by decide
 have hV:0<bv 18446744073709551616 vs:=by
  rcases xe (bv 18446744073709551616 vs) with h0 | h0
  ·have:=hl.lt;rw [h0] at this;simp at this
  ·exact h0
 have rq:below 2 w:=oR hw.pu;have Jd:=kZ hl.gv;rw [hl.lv] at Jd;have aGw:18446744073709551616^n<=18446744073709551616^(n+1):=yT (by decide) (by omega);have aGx:aq (aq (aq (aq (aq (aq qB.body)))))=aq (aq (aq (aq (aq (aq qB.body))))):=rfl;simp only [go_sem,ya,qB,aq,H2];generalize lH:D P L (.loop [0,1,5,6,11,12,104,105] GD) _=qq;obtain ⟨ex,s,rfl,tm,c,bo,y,rfl,rfl,t0,t1,t5,t6,t11,t12,ly,gy,hc,iA,aH⟩:=b6 lH (awj (P:=P) (L:=L) h.lA h.fP h.qH hw oC hl.lv hl.gv hq (x:=x) (pre:=pre) (post:=post) (qs:=qs) n) ⟨0,0,0,x,by
  rw [oX (by simp only [go_sem,ya,yI,kX,lR,kT,kR,rq,wN]) (by simp only [go_sem,ya,yd,yI,aO hw.pu])]
  simp only [go_sem,ya]<;>rfl,by omega,hl.lx,hl.gx,da,by omega,by simp [bv]⟩
 have XU:=fY da gy n;have ey:=rX (l:=pre++y++post) (o:=pre.length+n) (by rw [nN];omega);rw [A9 (by omega)] at ey;obtain ⟨d,hd⟩:∃d,d=y.getD n 0:=⟨_,rfl⟩;rw [<-hd] at XU ey;have f3:=Qg (P:=P) (f:=D P L) h.qH XU hc iA;have fo:=Pw XU hc iA;obtain ⟨z,hz⟩:∃t,t=(d+18446744073709551616*2-c-bo)%18446744073709551616:=⟨_,rfl⟩;obtain ⟨b',bC⟩:∃t,t=(if c+bo<=d then 0 else 1):=⟨_,rfl⟩;have jP:b'<=1:=by rw [bC];split<;>omega
 have Ez:z<18446744073709551616:=by rw [hz];exact xu _ da
 rw [<-hz,<-bC] at f3 fo;have bf:=mC (b:=18446744073709551616) (l:=y) (i:=n) (x:=z) (by omega);rw [<-hd] at bf;have aU:=fun (hp:Hp) (ct:Nat)=>jD (hp:=hp) (ct:=ct) (id:=0) (v:=z) (ex:=true) (l:=pre++y++post) (o:=pre.length+n) (by rw [nN];omega)
 have mN:=KA (pre:=pre) (x:=y) (post:=post) (i:=n) z (by omega);have Ct:lo 18446744073709551616 (y.set n z):=kW gy Ez;have AD:(y.set n z).length=n+1:=by simp [ly]
 have hY:=kZ Ct;rw [AD] at hY;have azL:bv 18446744073709551616 (y.set n z)+q*bv 18446744073709551616 vs=bv 18446744073709551616 x+18446744073709551616^(n+1)*b':=by
  have e2:=congrArg (fun t=>18446744073709551616^n*t) fo;rw [yZ,xd];simp only [xr] at e2 aH;generalize 18446744073709551616^n*(18446744073709551616*b')=p1 at*
  generalize 18446744073709551616^n*z=p2 at*
  generalize 18446744073709551616^n*d=p3 at*
  generalize 18446744073709551616^n*c=p4 at*
  generalize 18446744073709551616^n*bo=p5 at*
  omega
 obtain ⟨s0,s1⟩:=step_end hV azL eZ rn hY (by omega) jP;simp only [go_sem,ya,yd,yI,ym,oX,kX,lR,kT,kR,rq,wN,aO hw.pu,t0,t1,t5,t6,t11,t12,cP 0 pre.length (show n<n+1 by omega),ey,f3,aU,mN];by_cases lG:b'=0
 ·obtain ⟨e1,e2⟩:=s0 lG;simp only [go_sem,ya,show (b':Int)=0 by omega];exact ⟨_,y.set n z,rfl,by rw [<-e1];simp only [go_sem],AD,Ct,e2⟩
 ·obtain ⟨e1,e2⟩:=s1 (by omega);simp only [go_sem,ya,show ¬(b':Int)=0 by omega];generalize B1:D P L (.loop [0,1,5,6,17,156,157] GF) _=XT;obtain ⟨ex,s,rfl,qP,c2,y2,rfl,rfl,t0,t5,t6,t17,XV,N8,qZ,ayu⟩:=b6 B1 (awk (P:=P) (L:=L) h.fP hw oC hl.lv hl.gv (y0:=y.set n z) (pre:=pre) (post:=post) (qs:=qs) (q:=q) n) ⟨0,0,y.set n z,by
   rw [oX (by simp only [go_sem,ya,yI,kX,lR,kT,kR,rq,wN]) (by simp only [go_sem,ya,yd,yI,aO hw.pu])]
   simp only [go_sem,ya]<;>rfl,by omega,AD,Ct,by omega,by simp [bv]⟩
  have azM:=fY da N8 n;have XW:=rX (l:=pre++y2++post) (o:=pre.length+n) (by rw [nN];omega);rw [A9 (by omega)] at XW;obtain ⟨d2,fK⟩:∃d,d=y2.getD n 0:=⟨_,rfl⟩;rw [<-fK] at azM XW;have f4:=zS d2 c2;have Lf:=mC (b:=18446744073709551616) (l:=y2) (i:=n) (x:=(d2+c2)%18446744073709551616) (by omega);rw [<-fK] at Lf;have iy:=JQ (18446744073709551616^n) 18446744073709551616 (d2+c2);have azN:(d2+c2)%18446744073709551616<18446744073709551616:=xu _ da;have hc3:(d2+c2)/18446744073709551616<=1:=by omega
  generalize (d2+c2)%18446744073709551616=z2 at*
  generalize (d2+c2)/18446744073709551616=c3 at*
  have M0:=fun (hp:Hp) (ct:Nat)=>jD (hp:=hp) (ct:=ct) (id:=0) (v:=z2) (ex:=true) (l:=pre++y2++post) (o:=pre.length+n) (by rw [nN];omega)
  have Lg:=KA (pre:=pre) (x:=y2) (post:=post) (i:=n) z2 (by omega);have N9:lo 18446744073709551616 (y2.set n z2):=kW N8 azN;have Je:(y2.set n z2).length=n+1:=by simp [XV]
  have hY3:=kZ N9;rw [Je] at hY3;have bq:0<q:=by rw [e1];exact Nat.succ_pos _
  have hq3:bv 18446744073709551616 x/bv 18446744073709551616 vs=q-1:=by rw [e1,ug]
  have f5:binOp .sub (uc q) (.int .u64 1)=some (uc (q-1)):=B0 (b:=1) (by omega) (by omega);simp only [go_sem,ya,yd,yI,ym,oX,kX,lR,kT,kR,wN,t0,t5,t6,t17,cP 0 pre.length (show n<n+1 by omega),XW,f4,M0,Lg,f5];refine ⟨_,y2.set n z2,rfl,by rw [hq3];simp only [go_sem],Je,N9,?_⟩;have e3:bv 18446744073709551616 (y2.set n z2)+18446744073709551616^(n+1)*c3=18446744073709551616^(n+1)+bv 18446744073709551616 x%bv 18446744073709551616 vs:=by
   rw [<-e2,<-ayu,yZ];rw [xr] at iy;omega
  rcases (show c3=0\/c3=1 by omega) with rfl | rfl
  ·omega
  ·omega
def azO (h:Wd P L) {w:AV} {x vs pre post qs:List Nat} (hw:bM w vs) {n v1 v2 u0 u1 u2:Nat} (hl:gj x vs n v1 v2 u0 u1 u2):
  ∃x',gY P L (D P L) (H2 qs (pre++x++post)) 2 169 [.aE 0 pre.length (n+1),w]=some (uc (bv 18446744073709551616 x/bv 18446744073709551616 vs),H2 qs (pre++x'++post),2)/\x'.length=n+1/\lo 18446744073709551616 x'/\bv 18446744073709551616 x'=bv 18446744073709551616 x%bv 18446744073709551616 vs:=by
 have cU:=hl.n2;have oC:=hl.nb;have rq:below 2 w:=oR hw.pu;have oI:(n:Int)-1=((n-1:Nat):Int):=by omega
 have eD:=hw.cd (i:=n-1) (by have:=hl.lv;omega);rw [hl.eC] at eD;have AE:=rX (l:=pre++x++post) (o:=pre.length+n) (by rw [nN];have:=hl.lx;omega)
 rw [A9 (by have:=hl.lx;omega),hl.h0] at AE;have AF:=rX (l:=pre++x++post) (o:=pre.length+(n-1)) (by rw [nN];have:=hl.lx;omega)
 rw [A9 (by have:=hl.lx;omega),hl.h1] at AF;have D0:=hl.Ja;have M1:=hl.Jb;have mO:=hl.top;have ij:∃tm x',D P L qB.body ⟨dR 0 [.aE 0 pre.length (n+1),w],H2 qs (pre++x++post),2,2⟩=some (.ret,⟨tm,H2 qs (pre++x'++post),2,2⟩)/\aj tm 4=uc (bv 18446744073709551616 x/bv 18446744073709551616 vs)/\x'.length=n+1/\lo 18446744073709551616 x'/\bv 18446744073709551616 x'=bv 18446744073709551616 x%bv 18446744073709551616 vs:=by
  have behind:∀(jd:Env) (q:Nat),aj jd 0= .aE 0 pre.length (n+1)->aj jd 1=w->aj jd 5=ab n->aj jd 6=uc q->q<18446744073709551616->bv 18446744073709551616 x/bv 18446744073709551616 vs<=q->q<=bv 18446744073709551616 x/bv 18446744073709551616 vs+1->
    ∃tm x',kj P L (kj P L (rT 0 (some (Ex.exit 0,⟨jd,H2 qs (pre++x++post),2,2⟩))) (.kp [0,1,5,6])) (aq (aq (aq (aq (aq (aq qB.body))))))=some (.ret,⟨tm,H2 qs (pre++x'++post),2,2⟩)/\aj tm 4=uc (bv 18446744073709551616 x/bv 18446744073709551616 vs)/\x'.length=n+1/\lo 18446744073709551616 x'/\bv 18446744073709551616 x'=bv 18446744073709551616 x%bv 18446744073709551616 vs:=by
   intro jd q t0 t1 t5 t6 g1 g2 g3;have hk:dF jd [0,1,5,6]=[(0,.aE 0 pre.length (n+1)),(1,w),(5,ab n),(6,uc q)]:=by simp only [go_sem,t0,t1,t5,t6]
   rw [aeq,fp,aiA,oX (by rw [hk];simp only [go_sem,yI,kX,lR,kT,kR,rq,wN]) (by rw [hk];simp only [go_sem,yd,yI,aO hw.pu]),fp,hk];exact awl h hw hl g1 g2 g3
  by_cases hc:u0<v1
  ·have f1:=aiK h.aiP h.Ij (P:=P) (L:=L) hc M1 D0;have dZ:=xF (u0*18446744073709551616+u1) v1;have kG:=xu (u0*18446744073709551616+u1) hl.pos;have nn:(u0*18446744073709551616+u1)/v1<18446744073709551616:=by
    refine (xy hl.pos).2 ?_
    have:=yU 18446744073709551616 (show u0+1<=v1 from hc)
    rw [xg 18446744073709551616 v1];omega
   have KR:=hl.first;rw [xg] at dZ;generalize (u0*18446744073709551616+u1)/v1=q0 at*
   generalize (u0*18446744073709551616+u1)%v1=r0 at*
   simp only [go_sem,ya,ym,qB,H2,hw.len,hl.lv,oI,wrapN (n:=n-1) (by omega),eD,cP 0 pre.length (show n<n+1 by omega),cP 0 pre.length (show n-1<n+1 by omega),AE,AF,show ¬(v1:Int)<=(u0:Int) by omega,f1];generalize lH:D P L (.loop [0,1,5,6,7,8] rO) _=qq;obtain ⟨ex,s,rfl,jd,q,rfl,rfl,t0,t1,t5,t6,g1,g2,g3⟩:=b6 lH (afE (P:=P) (L:=L) h.lA h.fP hw hl (pre:=pre) (post:=post) (qs:=qs) q0) ⟨q0,r0,by
    rw [oX (by simp only [go_sem,ya,yI,kX,lR,kT,kR,rq,wN]) (by simp only [go_sem,ya,yd,yI,aO hw.pu])];rw [yF (show r0<18446744073709551616 by omega),xD (show r0<18446744073709551616 by omega)]
    simp only [go_sem,ya]<;>rfl,dZ,by omega,nn,KR,rfl⟩
   exact behind jd q t0 t1 t5 t6 g1 g2 g3
  ·have nj:u0=v1:=by omega
   have f1:=Bp (P:=P) (f:=D P L) h.fP M1 D0 (c:=0) (by omega);rw [yV,show (uc 0)=AV.int .u64 0 from rfl] at f1;have M2:=hl.digit
   simp only [go_sem,ya,ym,qB,H2,hw.len,hl.lv,oI,wrapN (n:=n-1) (by omega),eD,cP 0 pre.length (show n<n+1 by omega),cP 0 pre.length (show n-1<n+1 by omega),AE,AF,show (v1:Int)<=(u0:Int) by omega,f1];generalize lH:D P L (.loop [0,1,5,6,7,8] rO) _=qq;obtain ⟨ex,s,rfl,jd,q,rfl,rfl,t0,t1,t5,t6,g1,g2,g3⟩:=b6 lH (afE (P:=P) (L:=L) h.lA h.fP hw hl (pre:=pre) (post:=post) (qs:=qs) 18446744073709551615) ⟨18446744073709551615,u1+v1,by
    rw [oX (by simp only [go_sem,ya,yI,kX,lR,kT,kR,rq,wN]) (by simp only [go_sem,ya,yd,yI,aO hw.pu])]
    simp only [go_sem,ya]<;>rfl,by rw [nj];omega,by omega,by decide,by omega,rfl⟩
   exact behind jd q t0 t1 t5 t6 g1 g2 g3
 obtain ⟨tm,x',g1,g2,g3,g4,g5⟩:=ij;refine ⟨x',?_,g3,g4,g5⟩;exact aey h.azI g1 (.inr rfl) (by show gX _ [RV.t 4]=_;rw [Wc,QO,g2])
end
def WN (v:AV) (m:Nat):Prop:=∃l,bM v l/\lo 18446744073709551616 l/\fT l/\bv 18446744073709551616 l=m
def aqn (i:Nat) (q:List Nat) (x:Nat):(yL (i+1) 0++q).set i x=yL i 0++x::q:=by
 rw [List.replicate_succ',xx]
 simp_all
def KB {b:Nat} {l:List Nat} {i:Nat} (h:i<l.length):bv b (l.drop i)=l.getD i 0+b*bv b (l.drop (i+1)):=by
 rw [yX h,gd h];rfl
def Qi {v w:AV} {x y:List Nat} (hv:bM v x) (hw:bM w y) (hp:Hp):result hp (.aa [v,w])=some (.aa [v,w]):=by
 rcases hv with ⟨rfl,_⟩ | ⟨e,rfl⟩<;>rcases hw with ⟨rfl,_⟩ | ⟨e',rfl⟩<;>rfl
def asy {hp:Hp} {id n l h:Nat} {pu ex:Bool} {cs:List AV} {tm:Env} {x y:X} (hg:aA hp id=some (.cells true pu ex 1 cs)) (hx:cM tm 0 (some x)=some l) (hy:cM tm n (some y)=some h) (h1:l<h) (h2:h<=n):
  eV hp (.sl 1) (.aE id 0 n) tm (some x) (some y)=some (.aE id l (h-l)):=by
 simp only [eV,hg,hx,hy,yt (ua h1),yt h2,wu,uz,yz,gn (Nat.ne_of_lt h1),wB,yY,yh,ym]
def aa9 {hp:Hp} {id n h:Nat} {pu ex:Bool} {cs:List AV} {tm:Env} {y:X} (hg:aA hp id=some (.cells true pu ex 1 cs)) (hy:cM tm n (some y)=some h) (h1:0<h) (h2:h<=n):
  eV hp (.sl 1) (.aE id 0 n) tm none (some y)=some (.aE id 0 h):=by
 have hx:cM tm 0 none=some 0:=rfl;simp only [eV,hg,hx,hy,yt (uN h),yt h2,wu,uz,yz,gn (show (0:Nat)≠h by omega),wB,yY,wh,yV,ybV]
def agV (P:aK) (L:Lib) (f:cm) (hp:Hp) (ct n:Nat) (xs:List AV):ep P L f hp ct .heap (.fn (.f n) [] []) xs=gY P L f hp ct n xs:=by
 simp only [ep,xT,xZ]
section
variable {P:aK} {L:Lib}
def awm (h:Wd P L) {v w:AV} {x:List Nat} (hv:bM v x) (hx:lo 18446744073709551616 x) (lx:x.length<=99999999999) {d:Nat} (hw:bM w [d]) (fU:0<d) (XX:d<18446744073709551616) {n:Nat} (hn:n=x.length):
  ∀k s,(∃(i r:Nat) (q:List Nat),aQ [0,1,6,7,8] s=⟨[(0,v),(1,w),(6,.aE 0 0 n),(7,uc r),(8,ab ((i:Int)-1))],[(0,.cells true true true 1 ((yL i 0++q).map uc))],1,0⟩/\i=k/\i+q.length=n/\lo 18446744073709551616 q/\r<d/\bv 18446744073709551616 (x.drop i)=bv 18446744073709551616 q*d+r)->
   ∃ex s',D P L (.loop [0,1,6,7,8] Gz) s=some (ex,s')/\∃tm r q,s'=⟨tm,[(0,.cells true true true 1 (q.map uc))],1,0⟩/\ex= .exit 0/\aj tm 6= .aE 0 0 n/\aj tm 7=uc r/\q.length=n/\lo 18446744073709551616 q/\r<d/\bv 18446744073709551616 x=bv 18446744073709551616 q*d+r:=by
 intro dq sq;generalize bq:aQ [0,1,6,7,8] sq=s0;revert bq s0 sq dq;apply dh;rintro k s ⟨i,r,q,rfl,rfl,hlen,a6,hr,aH⟩
 cases i with
 | zero=>
  right
  simp only [go_sem,ya,Gz,show ¬(0:Int)<=((0:Nat):Int)-1 by omega];exact ⟨_,_,rfl,by simp,_,r,q,rfl,rfl,by simp only [go_sem,ya],by simp only [go_sem,ya],by omega,a6,hr,by simpa using aH⟩
 | succ i=>
  left
  have gx:=fY (show 0<18446744073709551616 by decide) hx i;have e1:=hv.cd (i:=i) (by omega);have e2:=hw.cd (i:=0) (by simp);have iz:=KB (b:=18446744073709551616) (l:=x) (i:=i) (by omega);rw [show ([d]:List Nat).getD 0 0=d from rfl] at e2;generalize x.getD i 0=a at*
  have e3:=aiK (P:=P) (L:=L) h.aiP h.Ij hr gx XX;have dZ:=xF (r*18446744073709551616+a) d;have kG:=xu (r*18446744073709551616+a) fU;have nn:(r*18446744073709551616+a)/d<18446744073709551616:=by
   refine (xy fU).2 ?_;omega
  generalize (r*18446744073709551616+a)/d=q1 at*
  generalize (r*18446744073709551616+a)%d=r1 at*
  have aU:=fun (hp:Hp) (ct:Nat)=>jD (hp:=hp) (ct:=ct) (id:=0) (v:=q1) (ex:=true) (l:=yL (i+1) 0++q) (o:=i) (by simp;omega)
  simp only [go_sem,ya,ym,Gz,show ((i+1:Nat):Int)-1=(i:Int) by omega,show (0:Int)<=(i:Int) by omega,e1,e2,e3,cP 0 0 (show i<n by omega),yh,aU,aqn];refine ⟨_,i,rfl,by omega,i,r1,q1::q,?_,rfl,by simp;omega,J0.2 ⟨C9.2 nn,a6⟩,kG,?_⟩
  ·rw [wrap64 (by omega) (by omega)];simp only [go_sem,ya,yd,aB,aO hv.pu,aV _ hv.pu,aO hw.pu,aV _ hw.pu]<;>rfl
  ·rw [iz,aH];simp only [bv];rw [xS,xr,<-xd 18446744073709551616];rw [xg d q1] at dZ;omega
def aom {s u u1:Nat} (hs:s<64) (hu:u<18446744073709551616):u/2^s<18446744073709551616/\(0<s->u/2^s|||(u1*2^(64-s)%18446744073709551616)<18446744073709551616)/\
  (if 0<s then (u/2^s|||(u1*2^(64-s)%18446744073709551616)) else u/2^s)*2^s+u%2^s=u+18446744073709551616*(u1%2^s):=by
 have e:18446744073709551616=2^s*2^(64-s):=by rw [<-xn,show s+(64-s)=64 by omega]
 have h1:u1*2^(64-s)%18446744073709551616=(u1%2^s)*2^(64-s):=by rw [e,tc]
 have hp:=y9 s;have h2:u/2^s<2^(64-s):=by
  refine (xy hp).2 ?_
  grind
 have h3:u/2^s|||(u1*2^(64-s)%18446744073709551616)=(u1%2^s)*2^(64-s)+u/2^s:=by rw [h1,yck,Qh h2]
 have h4:(u1%2^s)*2^(64-s)+u/2^s<18446744073709551616:=by
  have:=yU (2^(64-s)) (show u1%2^s+1<=2^s from xu _ hp)
  grind
 have h5:=vH u (2^s)
 grind
def awn {us qs:List Nat} {n la m s:Nat} (hs:s<64) (lu:us.length=la) (gu:lo 18446744073709551616 us) (hn:n<la) (Jf:la<=100000000000):
  ∀k st,(∃(i:Nat) (rs:List Nat),aQ [9,11,12,13,96,97] st=⟨[(9,ab s),(11,.aE 0 0 la),(12,ab n),(13,.aE 1 0 m),(96,ab n),(97,ab i)],H2 qs (rs++us.drop i),2,0⟩/\i+k=n/\rs.length=i/\lo 18446744073709551616 rs/\bv 18446744073709551616 rs*2^s+us.getD 0 0%2^s=bv 18446744073709551616 (us.take i)+18446744073709551616^i*(us.getD i 0%2^s))->
   ∃ex st',D P L (.loop [9,11,12,13,96,97] C0) st=some (ex,st')/\∃tm rs,st'=⟨tm,H2 qs (rs++us.drop n),2,0⟩/\ex= .exit 4/\aj tm 11= .aE 0 0 la/\aj tm 12=ab n/\aj tm 13= .aE 1 0 m/\rs.length=n/\lo 18446744073709551616 rs/\bv 18446744073709551616 rs*2^s+us.getD 0 0%2^s=bv 18446744073709551616 (us.take n)+18446744073709551616^n*(us.getD n 0%2^s):=by
 intro dq sq;generalize bq:aQ [9,11,12,13,96,97] sq=s0;revert bq s0 sq dq;apply dh;rintro k st ⟨i,rs,rfl,hk,lr,gr,aH⟩;by_cases hi:i<n
 ·left
  have da:(0:Nat)<18446744073709551616:=by decide
  have g0:=fY da gu i;have g1:=fY da gu (i+1);have d0:us.drop i=us.getD i 0::us.getD (i+1) 0::us.drop (i+2):=by
   rw [yX (show i<us.length by omega),yX (show i+1<us.length by omega),gd,gd]
  have dY:=iH (b:=18446744073709551616) (l:=us) i;have ig:∀r,r<18446744073709551616->r*2^s+us.getD i 0%2^s=us.getD i 0+18446744073709551616*(us.getD (i+1) 0%2^s)->lo 18446744073709551616 (rs++[r])/\bv 18446744073709551616 (rs++[r])*2^s+us.getD 0 0%2^s=bv 18446744073709551616 (us.take (i+1))+18446744073709551616^(i+1)*(us.getD (i+1) 0%2^s):=fun r h1 h2=>by
   refine ⟨J0.2 ⟨gr,C9.2 h1⟩,?_⟩;rw [pY,zI,lr,dY,xS,yZ,xd,xd];have e2:=congrArg (fun t=>18446744073709551616^i*t) h2;simp only [xr] at e2;generalize 18446744073709551616^i*(r*2^s)=p1 at*
   generalize 18446744073709551616^i*(us.getD i 0%2^s)=p2 at*
   generalize 18446744073709551616^i*us.getD i 0=p3 at*
   generalize 18446744073709551616^i*(18446744073709551616*(us.getD (i+1) 0%2^s))=p4 at*
   omega
  have Wn:us.drop (i+1)=us.getD (i+1) 0::us.drop (i+2):=by
   rw [yX (show i+1<us.length by omega),gd]
  generalize us.getD i 0=a at*
  obtain ⟨c,hc⟩:∃c,c=us.getD (i+1) 0:=⟨_,rfl⟩;rw [<-hc] at g1 d0 Wn ig;generalize us.drop (i+2)=dr at*
  rw [d0];obtain ⟨n1,n2,n3⟩:=aom (u1:=c) hs g0;have o1:=Ii .i64 a (s:=s) (by omega);have o2:=Ih .i64 c (s:=64-s) (by omega);have o3:binOp .sub (.int .i64 64) (ab s)=some (ab (64-s:Nat)):=by
   rw [Kx,wrap64 (by omega) (by omega)];congr 2;omega
  have o4:=N5 n1 (xu (c*2^(64-s)) da);have sa:∀z y,(rs++z::y).set i a=rs++a::y:=fun z y=>by rw [yam _ _ (by omega),lr];simp
  have e0:∀z y,vZ i ((rs++z::y).map uc)=uc z::y.map uc:=fun z y=>by
   rw [xI,tN (by simp [lr])];rfl
  have e1:∀z y u,vZ (i+1) ((rs++z::y::u).map uc)=uc y::u.map uc:=fun z y u=>by
   rw [show rs++z::y::u=(rs++[z])++y::u by simp,xI,tN (by simp [lr])];rfl
  have Eo:∀(hp:Hp) (ct x z:Nat) (y:List Nat),jT hp ct 0 i 1 [.int .u64 (x:Int)] (some (.cells true true true 1 ((rs++z::y).map uc)))=some (.aa [],bf hp 0 (.cells true true true 1 ((rs++x::y).map uc)),ct):=fun hp ct x z y=>by
   rw [jD (by simp;omega),yam _ _ (by omega),lr];simp
  by_cases h0:0<s
  ·rw [yG h0] at n3;obtain ⟨f1,f2⟩:=ig _ (n2 h0) n3;generalize a/2^s=a1 at*
   generalize a1|||(c*2^(64-s)%18446744073709551616)=r at*
   simp only [go_sem,ya,ym,C0,H2,show (i:Int)<(n:Int) by omega,cP 0 0 (show i<la by omega),yh,e0,o1,Eo,show (0:Int)<(s:Int) by omega,show (i:Int)+1=((i+1:Nat):Int) from rfl,wrapN (n:=i+1) (by omega),show ((i+1:Nat):Int)<(la:Int) by omega,cP 0 0 (show i+1<la by omega),e1,o3,o2,o4];refine ⟨_,k-1,rfl,by omega,i+1,rs++[r],by simp only [go_sem,ya,yd,aB];rw [Wn];simp,by omega,by simp [lr],f1,by rw [<-hc];exact f2⟩
  ·rw [yv h0] at n3;obtain ⟨f1,f2⟩:=ig _ n1 n3;generalize a/2^s=a1 at*
   simp only [go_sem,ya,ym,C0,H2,show (i:Int)<(n:Int) by omega,cP 0 0 (show i<la by omega),yh,e0,o1,Eo,show ¬(0:Int)<(s:Int) by omega,show (i:Int)+1=((i+1:Nat):Int) from rfl,wrapN (n:=i+1) (by omega)];refine ⟨_,k-1,rfl,by omega,i+1,rs++[a1],by simp only [go_sem,ya,yd,aB];rw [Wn];simp,by omega,by simp [lr],f1,by rw [<-hc];exact f2⟩
 ·right
  have:i=n:=by omega
  subst this;simp only [go_sem,ya,C0,H2,show ¬(i:Int)<(i:Int) by omega];exact ⟨_,_,rfl,by simp,_,rs,rfl,rfl,by simp only [go_sem,ya],by simp only [go_sem,ya],by simp only [go_sem,ya],lr,gr,aH⟩
end
end VE
