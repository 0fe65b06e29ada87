import Derived.ChangeSlices
import Derived.ChangeReads
import Derived.ChangeSame
import Derived.OpenShut
import Derived.Lib.AtoiErrMem
import Derived.Laws.Externs
import Derived.Attr
import Derived.Test.YtfdcefmdjiokdaaGreatDoorUad
import Derived.Test.YtfdcefmdjiokdaaGreatDoorUab
import Derived.Test.YtfdcefmdjiokdaaGreatDoorUaf
import Derived.Test.YtfdcefmdjiokdaaGreatDoorUag
import Derived.Test.YtfdcefmdjiokdaaGreatDoorUae
set_option linter.all false
set_option maxRecDepth 100000
open Array renaming getElem?_eq_some_iff→xu
open BitVec renaming ofInt→xH,ofInt_natCast→tg,ofNat→tf,toNat_ofNat→vP
open Bool renaming and_eq_true→yg,and_true→vR,false_eq_true→yD,false_or→uA,true_and→wF,true_or→ybD
open Go renaming Addr→uy,ChangeSpec→ycI,DataW→xM,Field→tq,IntKind→y8,MemPlace→wE,Program→y5,TypeId→yC,Value→yh,World→yi
open Int renaming ediv_emod_unique→tS,emod_emod→ycG,emod_lt_of_pos→vv,gcd→wT,gcd_dvd_left→tW,gcd_dvd_right→tO,lt_tmod_of_pos→ybp,mul_ediv_cancel'→yaV,natAbs_ediv_of_dvd→uJ,natCast_mul→wN,reduceEq→vM,tdiv_eq_ediv_of_dvd→yaC,tdiv_eq_ediv_of_nonneg→xJ,tmod_eq_emod_of_nonneg→xr,tmod_lt_of_pos→ybo,toNat_natCast→wo
open List renaming all_cons→yci,any_cons→ycj,append_assoc→xt,append_nil→xX,cons_append→yX,drop→vL,drop_drop→ub,drop_eq_getElem_cons→yP,drop_eq_nil_of_le→y9,drop_zero→yo,eq_nil_of_length_eq_zero→yH,filter_cons→ybE,filter_eq_nil_iff→tD,flatMap_cons→ybn,getD_cons_succ→yaU,getD_eq_getElem?_getD→xx,getElem?_cons_zero→vU,getElem?_eq_getElem→xW,length→tV,length_append→yR,length_cons→yz,length_map→xo,length_nil→yK,length_range→ybr,length_reverse→yaW,length_singleton→td,length_take→yO,mapM_cons→uD,mapM_nil→yau,map_append→xC,map_cons→xm,map_take→ycc,mem_append→wC,mem_append_left→tr,mem_append_right→vV,mem_flatMap→uP,mem_range→tL,mem_singleton→vO,nil_append→xY,range→xG,range'→xI,range'_succ→vB,range'_zero→ybz,range_eq_range'→yaL,range_succ→tF,replicate→yy,replicate_succ→wq,reverse_cons→ybq,set_cons_succ→ybe,set_eq_take_append_cons_drop→tJ,take_append_drop→wa,take_length→xK,take_of_length_le→yM,take_succ_eq_append_getElem→wK
open Nat renaming add_mul→wh,add_sub_cancel→tI,add_zero→yW,beq→yr,beq_refl→xz,ble→yF,ble_eq_true_of_le→yv,blt→yJ,div_add_mod→xV,div_eq_of_lt→xP,div_le_self→wV,div_lt_iff_lt_mul→wz,eq_of_beq_eq_true→yj,eq_zero_or_pos→xi,gcd→wD,gcd_comm→tH,gcd_rec→ycV,le_div_iff_mul_le→tp,le_max_left→ux,le_max_right→vZ,le_of_ble_eq_true→yq,le_of_lt→uZ,le_refl→yA,lt_of_le_of_lt→we,lt_of_lt_of_le→yu,lt_of_mul_lt_mul_right→yap,min_eq_left→xF,mod_add_div→uL,mod_eq_of_lt→yL,mod_lt→xE,mul_add→xB,mul_assoc→xp,mul_comm→xy,mul_div_mul_right→yaO,mul_le_mul→wW,mul_le_mul_left→yS,mul_le_mul_right→yQ,mul_lt_mul_of_pos_right→xS,mul_mod_mul_right→tN,mul_one→yk,mul_pos→vK,mul_zero→xD,not_lt_zero→tn,one_mul→ybV,pow_add→xL,pow_le_pow_right→yV,pow_succ→y7,pow_zero→ycJ,reduceAdd→yd,reduceEqDiff→ya,reduceLT→yI,reduceLeDiff→yp,reduceMul→xQ,strongRecOn→vC,two_pow_pos→xn,zero_add→yf,zero_le→tG
open Option renaming bind_eq_bind→vJ,bind_some→xZ,getD_some→uz,map_some→wJ,pure_def→wQ
open Option.some renaming injEq→yb
open Prod.mk renaming injEq→ym
namespace VE
open Go (IntKind)
section
open Go
section
variable (P:y5)
def Dh (self:yC->Bool):List tq->Nat->Nat->Bool
 | [],o,n=>yr o n
 | f::r,o,n=>yr f.offset o&&(self f.type&&Dh self r (o+P.cellsOf f.type) n)
def flat:Nat->yC->Bool
 | 0,_=>false
 | n+1,t=>
  match P.underlying t with
  | some .bool | some (.int _) | some (.float _) | some .string=>yr (P.cellsOf t) 1
  | some (.slice e)=>yr (P.cellsOf t) 1&&(yJ 0 (P.cellsOf e)&&flat n e)
  | some (.struct fs)=>Dh P (fun u=>flat n u) fs.toList 0 (P.cellsOf t)
  | some (.array k e)=>yr (P.cellsOf t) (k*P.cellsOf e)&&flat n e
  | _=>false
def cM {H:Type}:Nat->yC->xM H->List AV
 | 0,_,_=>[]
 | n+1,t,d=>
  match P.underlying t,d with
  | some .bool,.lit (.bool b)=>[.bool b]
  | some (.int k),.lit (.int _ m)=>[.int k m]
  | some (.float k),.lit (.float _ b)=>[.aK k b]
  | some .string,.lit (.string s)=>[.str (s.map UInt8.toNat)]
  | some (.slice _),.nil=>[.ae]
  | some (.slice e),.slice jz spare=>[.aA spare.isEmpty jz.length (jz.flatMap fun x=>cM n e x)]
  | some (.struct fs),.agg parts=>(fs.toList.zip parts).flatMap fun x=>cM n x.1.type x.2
  | some (.array _ e),.agg parts=>parts.flatMap fun x=>cM n e x
  | _,_=>[]
end
section
variable {ab:Nat->Nat} {m:Mp} {S:Nat->Prop} {w:yi}
def Xh:∀{a b:List AV} {dt o:Nat},bI ab m S w a dt o->bI ab m S w b dt (o+a.length)->bI ab m S w (a++b) dt o
 | [],b,dt,o,_,h=>by simpa using h
 | x::a,b,dt,o,h1,h2=>by
  exact ⟨h1.1,Xh h1.2 (by rw [yz] at h2;rw [show o+1+a.length=o+(a.length+1) by omega];exact h2)⟩
def Kg:∀{a b:List AV},aD a=true->aD b=true->aD (a++b)=true
 | [],_,_,h=>h
 | x::a,b,h1,h2=>by
  simp only [aD,yX,yg] at h1 ⊢;exact ⟨h1.1,Kg h1.2 h2⟩
def Xi:∀{a:List AV} {us:List yh},aq ab m S w a us->a.length=us.length
 | [],us,h=>by simp only [aq] at h;subst h;rfl
 | x::a,us,h=>by
  obtain ⟨u,r,rfl,_,h2⟩:=h;simp [Xi h2]
end
section
variable {H:Type} {enc:yC×yh->H} {P:y5} {w:yi} {held:Bool} {ab:Nat->Nat} {m:Mp} {S:Nat->Prop}
def Y3 {a:uy} {i:Nat} {u:yh} (h:w.cell? (a.add i)=some u):w.cell? ⟨a.block,a.off+i,none⟩=some u/\(i=0->a.spot=none):=by
 by_cases hi:i=0
 ·subst hi;have e:a.add 0=a:=by simp [Addr.add]
  rw [e] at h;have hs:a.spot=none:=by
   cases hq:a.spot with
   | none=>rfl
   | some k=>
    unfold World.cell? at h
    split at h
    ·simp [hq] at h
    all_goals simp_all
  obtain ⟨b,o,sp⟩:=a;simp only at hs;subst hs;exact ⟨by simpa using h,fun _=>rfl⟩
 ·have e:a.add i=⟨a.block,a.off+i,none⟩:=by simp [Addr.add,hi]
  rw [e] at h;exact ⟨h,fun h=>(hi h).elim⟩
def ahH (a:uy) (i:Nat):(a.add i).block=a.block:=by unfold Addr.add;split<;>rfl
def amg (a:uy) (i:Nat):(a.add i).off=a.off+i:=by unfold Addr.add;split<;>simp_all
def Kz {α β:Type} {f:α->Option β}:∀{l:List α} {r:List β},l.mapM f=some r->r.length=l.length
 | [],r,h=>by simp only [yau,wQ,yb] at h;subst h;rfl
 | x::l,r,h=>by
  rw [uD] at h
  cases h1:f x with
  | none=>simp [h1] at h
  | some y=>
   cases h2:l.mapM f with
   | none=>simp [h1,h2] at h
   | some ys=>
    simp only [h1,h2,xZ,vJ,wQ,yb] at h;subst h;simp [Kz h2]
def ajS {c:AV} {l:List AV} {b o:Nat} (h:bI ab m S w (c::l) b o):b<w.heap.size:=by
 obtain ⟨⟨u,h1,_⟩,_⟩:=h;unfold World.cell? at h1
 cases hq:w.heap[b]? with
 | none=>simp [hq] at h1
 | some o=>exact (xu.1 hq).1
def Pv {e:yC} {bg sz:Nat} {f:xM H->List AV} {a:uy} (ek:0<sz)
  (IH:∀(cs:List yh) (d:xM H) (ps:List wE),DataW.trod enc P w 0 (fun _=>true) held bg e cs=some (d,ps)->aq ab m S w (f d) cs/\aD (f d)=true/\cs.length=sz):
  ∀(k j:Nat) (xs:List (xM H×List wE)),(xI j k).mapM (fun i=>(w.cells? 0 (a.add (i*sz)) sz).bind (DataW.trod enc P w 0 (fun _=>true) held bg e))=some xs->
   bI ab m S w ((xs.map (·.1)).flatMap f) a.block (a.off+j*sz)/\aD ((xs.map (·.1)).flatMap f)=true/\((xs.map (·.1)).flatMap f).length=k*sz/\xs.length=k/\(0<k->a.spot=none\/0<j)
 | 0,j,xs,h=>by
  simp only [ybz,yau,wQ,yb] at h;subst h;simp [bI,aD]
 | k+1,j,xs,h=>by
  rw [vB,uD] at h
  cases h1:(w.cells? 0 (a.add (j*sz)) sz) with
  | none=>simp [h1] at h
  | some us=>
   cases h2:DataW.trod enc P w 0 (fun _=>true) held bg e us with
   | none=>simp [h1,h2] at h
   | some x=>
    cases h3:(xI (j+1) k).mapM (fun i=>(w.cells? 0 (a.add (i*sz)) sz).bind (DataW.trod enc P w 0 (fun _=>true) held bg e)) with
    | none=>simp [h1,h2,h3] at h
    | some ys=>
     simp only [h1,h2,h3,xZ,vJ,wQ,yb] at h;subst h;obtain ⟨d,ps⟩:=x;obtain ⟨g1,g2,g3⟩:=IH us d ps h2;obtain ⟨k1,k2,k3,k4,_⟩:=Pv ek IH k (j+1) ys h3;obtain ⟨_,c2,c3⟩:=World.cells?_some h1;have hl:(f d).length=sz:=by rw [Xi g1,g3]
     have hc:∀(i:Nat) (u:yh),us[i]? =some u->w.cell? ⟨a.block,a.off+j*sz+i,none⟩=some u:=by
      intro i u hi;have EH:i<sz:=by grind
      have h:=c3 i EH;rw [hi] at h
      have:=(Y3 h).1
      rwa [ahH,amg] at this
     refine ⟨?_,?_,?_,by simp [k4],?_⟩
     ·simp only [xm,ybn];refine Xh (Ds _ us _ g1 hc) ?_
      grind
     ·simp only [xm,ybn];exact Kg g2 k2
     ·grind
     ·intro _;rcases xi j with hj | hj
      ·left
       have h:=c3 0 ek;have hu:us[0]? =some us[0]:=by simp_all
       rw [hu] at h
       have:=(Y3 h).2 rfl
       subst hj;simpa [Addr.add] using this
      ·grind
def Ws {bg N:Nat} {n:Nat} {cs:List yh} (hN:cs.length=N)
  (IH:∀(t:yC) (cs:List yh) (d:xM H) (ps:List wE),flat P n t=true->DataW.trod enc P w 0 (fun _=>true) held bg t cs=some (d,ps)->aq ab m S w (cM P n t d) cs/\aD (cM P n t d)=true/\cs.length=P.cellsOf t):
  ∀(r:List tq) (o:Nat) (xs:List (xM H×List wE)),Dh P (fun u=>flat P n u) r o N=true->r.mapM (fun f=>DataW.trod enc P w 0 (fun _=>true) held bg f.type ((cs.drop f.offset).take (P.cellsOf f.type)))=some xs->
   aq ab m S w ((r.zip (xs.map (·.1))).flatMap fun x=>cM P n x.1.type x.2) (cs.drop o)/\aD ((r.zip (xs.map (·.1))).flatMap fun x=>cM P n x.1.type x.2)=true
 | [],o,xs,hf,h=>by
  have:=yj hf
  rw [y9 (by omega)];simp [aq,aD]
 | f::r,o,xs,hf,h=>by
  simp only [Dh,yg] at hf;obtain ⟨e1,e2,e3⟩:=hf;have e1:=yj e1;rw [uD] at h
  cases h2:DataW.trod enc P w 0 (fun _=>true) held bg f.type ((cs.drop f.offset).take (P.cellsOf f.type)) with
  | none=>simp [h2] at h
  | some x=>
   cases h3:r.mapM (fun f=>DataW.trod enc P w 0 (fun _=>true) held bg f.type ((cs.drop f.offset).take (P.cellsOf f.type))) with
   | none=>simp [h2,h3] at h
   | some ys=>
    simp only [h2,h3,xZ,vJ,wQ,yb] at h;subst h;obtain ⟨d,ps⟩:=x;obtain ⟨g1,g2,g3⟩:=IH f.type _ d ps e2 h2;obtain ⟨k1,k2⟩:=Ws hN IH r _ ys e3 h3;rw [e1] at g1;have e:cs.drop o=(cs.drop o).take (P.cellsOf f.type)++cs.drop (o+P.cellsOf f.type):=by rw [<-ub];exact (wa _ _).symm
    rw [e];exact ⟨kS g1 k1,Kg g2 k2⟩
def Y4 {bg sz:Nat} {e:yC} {f:xM H->List AV} {cs:List yh}
  (IH:∀(cs:List yh) (d:xM H) (ps:List wE),DataW.trod enc P w 0 (fun _=>true) held bg e cs=some (d,ps)->aq ab m S w (f d) cs/\aD (f d)=true/\cs.length=sz):
  ∀(k j:Nat) (xs:List (xM H×List wE)),(xI j k).mapM (fun i=>DataW.trod enc P w 0 (fun _=>true) held bg e ((cs.drop (i*sz)).take sz))=some xs->cs.length=(j+k)*sz->
   aq ab m S w ((xs.map (·.1)).flatMap f) (cs.drop (j*sz))/\aD ((xs.map (·.1)).flatMap f)=true
 | 0,j,xs,h,hl=>by
  simp only [ybz,yau,wQ,yb] at h;subst h;rw [y9 (by rw [hl];simp)]
  simp [aq,aD]
 | k+1,j,xs,h,hl=>by
  rw [vB,uD] at h
  cases h2:DataW.trod enc P w 0 (fun _=>true) held bg e ((cs.drop (j*sz)).take sz) with
  | none=>simp [h2] at h
  | some x=>
   cases h3:(xI (j+1) k).mapM (fun i=>DataW.trod enc P w 0 (fun _=>true) held bg e ((cs.drop (i*sz)).take sz)) with
   | none=>simp [h2,h3] at h
   | some ys=>
    simp only [h2,h3,xZ,vJ,wQ,yb] at h;subst h;obtain ⟨d,ps⟩:=x;obtain ⟨g1,g2,g3⟩:=IH _ d ps h2;obtain ⟨k1,k2⟩:=Y4 IH k (j+1) ys h3 (by rw [hl];congr 1;omega)
    have e:cs.drop (j*sz)=(cs.drop (j*sz)).take sz++cs.drop ((j+1)*sz):=by rw [wh,ybV,<-ub];exact (wa _ _).symm
    rw [e];exact ⟨kS g1 k1,Kg g2 k2⟩
def X6 (hS:∀b,b<w.heap.size->S b):∀(n bg:Nat) (t:yC) (cs:List yh) (d:xM H) (ps:List wE),flat P n t=true->DataW.trod enc P w 0 (fun _=>true) held bg t cs=some (d,ps)->
  aq ab m S w (cM P n t d) cs/\aD (cM P n t d)=true/\cs.length=P.cellsOf t
 | 0,bg,t,cs,d,ps,hf,h=>by simp [flat] at hf
 | n+1,0,t,cs,d,ps,hf,h=>by simp [DataW.trod] at h
 | n+1,bg+1,t,cs,d,ps,hf,h=>by
  have IH:=X6 hS n bg;unfold DataW.trod at h;simp only [flat] at hf
  split at h
  ·rename_i hu;simp only [hu] at hf;simp only [yb,ym] at h;obtain ⟨rfl,rfl⟩:=h;simp only [cM,hu];exact ⟨by simp [aq,af],by simp [aD,aW],by rw [yj hf];rfl⟩
  ·rename_i hu;simp only [hu] at hf
   split at h
   ·rename_i hk;simp only [yb,ym] at h;obtain ⟨rfl,rfl⟩:=h;simp only [cM,hu];refine ⟨?_,by simp [aD,aW],by rw [yj hf];rfl⟩
    rw [hk.1];simp [aq,af]
   ·cases h
  ·rename_i hu;simp only [hu] at hf
   split at h
   ·rename_i hk;simp only [yb,ym] at h;obtain ⟨rfl,rfl⟩:=h;simp only [cM,hu];refine ⟨?_,by simp [aD,aW],by rw [yj hf];rfl⟩
    rw [hk.1];simp [aq,af]
   ·cases h
  ·rename_i hu;simp only [hu] at hf
   split at h
   ·simp only [yb,ym] at h;obtain ⟨rfl,rfl⟩:=h;simp only [cM,hu];refine ⟨?_,by simp [aD,aW],by rw [yj hf];rfl⟩
    simp only [aq,af];exact ⟨_,_,rfl,⟨_,rfl,rfl⟩,rfl⟩
   ·cases h
  ·rename_i hu;simp [hu] at hf
  ·rename_i hu;simp [hu] at hf
  ·rename_i hu;simp only [hu,yg] at hf;simp only [yb,ym] at h;obtain ⟨rfl,rfl⟩:=h;simp only [cM,hu];exact ⟨by simp [aq,af],by simp [aD,aW],by rw [yj hf.1];rfl⟩
  ·rename_i e a len cap hu;simp only [hu,yg] at hf;obtain ⟨f1,f2,f3⟩:=hf;have ek:=sJ.1 f2;simp only at h
   split at h
   case isFalse=>cases h
   rename_i hc;simp only [xA] at h
   cases h1:(xG len).mapM fun i=>(w.cells? 0 (a.add (i*P.cellsOf e)) (P.cellsOf e)).bind (DataW.trod enc P w 0 (fun _=>true) held bg e) with
   | none=>rw [h1] at h;simp at h
   | some jz=>
    cases h2:(xG (cap-len)).mapM fun j=>(w.cells? 0 (a.add ((len+j)*P.cellsOf e)) (P.cellsOf e)).bind (DataW.trod enc P w 0 (fun _=>true) held bg e) with
    | none=>rw [h1] at h;simp [h2] at h
    | some rest=>
     rw [h1] at h;simp only [xZ,h2,wJ,yb,ym] at h;obtain ⟨rfl,rfl⟩:=h;have hIH:=fun cs d ps h=>IH e cs d ps f3 h
     rw [yaL] at h1 h2;obtain ⟨k1,k2,k3,k4,k5⟩:=Pv (ab:=ab) (m:=m) (S:=S) ek hIH len 0 jz h1;have hrl:rest.length=cap-len:=by rw [Kz h2];simp
     have jd:cap≠0->a.spot=none:=by
      intro Se;rcases xi len with h0 | h0
      ·subst h0;simp only [yf,Nat.sub_zero] at h2;obtain ⟨_,_,_,_,q5⟩:=Pv (ab:=ab) (m:=m) (S:=S) ek hIH cap 0 rest h2;exact (q5 (by omega)).resolve_right (by omega)
      ·exact (k5 h0).resolve_right (by omega)
     simp only [cM,hu,xo];refine ⟨?_,by simp [aD,aW],by rw [yj f1];rfl⟩
     simp only [aq];refine ⟨_,_,rfl,?_,rfl⟩;simp only [af];by_cases Se:cap=0
     ·subst Se;have jt:len=0:=by omega
      subst jt;have he:jz=[]:=yH k4;subst he;exact .inr ⟨a,rfl,rfl,rfl⟩
     ·obtain ⟨b,o,sp⟩:=a;have jd:=jd Se;simp only at jd;subst jd;refine .inl ⟨b,o,cap,by rw [k4],by omega,fun hx=>?_,?_,k2,by simpa using k1⟩
      ·have:rest.length=0:=by simpa using hx
       omega
      ·generalize hg:((jz.map (·.1)).flatMap fun x=>cM P n e x)=l at k1
       cases l with
       | nil=>exact .inl rfl
       | cons c l=>exact .inr (hS b (ajS k1))
  ·rename_i rM x1 Ju fs hu;simp only [hu] at hf
   split at h
   case isFalse=>cases h
   rename_i hlen
   cases h1:fs.toList.mapM fun f=>DataW.trod enc P w 0 (fun _=>true) held bg f.type ((rM.drop f.offset).take (P.cellsOf f.type)) with
   | none=>rw [h1] at h;simp at h
   | some xs=>
    rw [h1] at h;simp only [wJ,yb,ym] at h;obtain ⟨rfl,rfl⟩:=h;obtain ⟨k1,k2⟩:=Ws hlen (fun t cs d ps hf h=>IH t cs d ps hf h) fs.toList 0 xs hf h1;simp only [cM,hu];exact ⟨by simpa using k1,k2,hlen⟩
  ·rename_i rM x1 Ju k e hu;simp only [hu,yg] at hf;obtain ⟨f1,f2⟩:=hf;have f1:=yj f1
   split at h
   case isFalse=>cases h
   rename_i hlen
   cases h1:(xG k).mapM fun i=>DataW.trod enc P w 0 (fun _=>true) held bg e ((rM.drop (i*P.cellsOf e)).take (P.cellsOf e)) with
   | none=>rw [h1] at h;simp at h
   | some xs=>
    rw [h1] at h;simp only [wJ,yb,ym] at h;obtain ⟨rfl,rfl⟩:=h;rw [yaL] at h1;obtain ⟨k1,k2⟩:=Y4 (ab:=ab) (m:=m) (S:=S) (fun cs d ps h=>IH e cs d ps f2 h) k 0 xs h1 (by rw [hlen,f1];simp)
    simp only [cM,hu];exact ⟨by simpa using k1,k2,hlen⟩
  all_goals first
   | (cases h;done)
   | (simp_all;done)
def lj (P:y5) (n:Nat) (t:yC) (d:xM H):AV:=
 match P.underlying t with
 | some (.struct _) | some (.array _ _)=> .agg (cM P n t d)
 | _=>(cM P n t d).headD .undef
def amh (hS:∀b,b<w.heap.size->S b) {n base:Nat} {t:yC} {v:yh} {d:xM H} {ps:List wE} (hf:flat P n t=true) (h:DataW.Trod enc P w 0 (fun _=>true) held t v d ps)
  (hv:Value.okWide P w .any base t v):af ab m S w (lj P n t d) v/\aW (lj P n t d)=true:=by
 obtain ⟨bg,h⟩:=h;obtain ⟨h1,h2,h3⟩:=X6 (ab:=ab) (m:=m) hS n bg t _ d ps hf h;have one:v.cells=#[v]->(∀fs,P.underlying t≠some (.struct fs))->(∀k e,P.underlying t≠some (.array k e))->af ab m S w (lj P n t d) v/\aW (lj P n t d)=true:=by
  intro hc ED hna;have e:lj P n t d=(cM P n t d).headD .undef:=by
   unfold lj
   grind
  rw [e];rw [hc] at h1;generalize cM P n t d=l at h1 h2
  cases l with
  | nil=>simp [aq] at h1
  | cons x l=>
   simp only [aq] at h1;simp only [aD,yg] at h2
   grind
 cases n with
 | zero=>simp [flat] at hf
 | succ n=>
  unfold Value.okWide at hv;simp only [flat] at hf
  cases hu:P.underlying t with
  | none=>simp [hu] at hf
  | some ty=>
   rw [hu] at hv hf;cases ty<;>simp only [yD] at hf hv
   case struct fs=>
    obtain ⟨cs,rfl,_,_⟩:=hv;have e:lj P (n+1) t d= .agg (cM P (n+1) t d):=by simp only [lj,hu]
    rw [e];exact ⟨by simp only [af];exact ⟨cs,rfl,h1⟩,by simpa only [aW] using h2⟩
   case array k e=>
    obtain ⟨cs,rfl,_,_⟩:=hv;have e:lj P (n+1) t d= .agg (cM P (n+1) t d):=by simp only [lj,hu]
    rw [e];exact ⟨by simp only [af];exact ⟨cs,rfl,h1⟩,by simpa only [aW] using h2⟩
   all_goals
    refine one ?_ (by simp [hu]) (by simp [hu])
    cases v with
    | agg cs=>exfalso;simp only [Cell.okWide,Cell.ok,hu] at hv
    | _=>rfl
def sR (P:y5) (n:Nat):List yC->List (xM H)->List AV
 | t::ts,d::ds=>lj P n t d::sR P n ts ds
 | _,_=>[]
def X7 (hS:∀b,b<w.heap.size->S b) {n base:Nat}:∀{ts:List yC} {vs:List yh} {ds:List (xM H)} {ps:List wE},ts.all (flat P n)=true->DataW.TrodAll enc P w 0 (fun _=>true) held ts vs ds ps->
  (∀(j:Nat) t v,ts[j]? =some t->vs[j]? =some v->Value.okWide P w .any base t v)->aq ab m S w (sR P n ts ds) vs/\aD (sR P n ts ds)=true
 | [],[],[],_,_,_,_=>by simp [sR,aq,aD]
 | t::ts,v::vs,d::ds,ps,hf,h,hv=>by
  simp only [yci,yg] at hf;obtain ⟨p,q,h1,h2,_⟩:=h;obtain ⟨a1,a2⟩:=amh (ab:=ab) (m:=m) hS hf.1 h1 (hv 0 t v rfl rfl);obtain ⟨b1,b2⟩:=X7 hS hf.2 h2 (fun j t v h1 h2=>hv (j+1) t v h1 h2);simp only [sR,aq,aD,yg]
  grind
 | [],_::_,_,_,_,h,_=>by simp [DataW.TrodAll] at h
 | [],[],_::_,_,_,h,_=>by simp [DataW.TrodAll] at h
 | _::_,[],_,_,_,h,_=>by simp [DataW.TrodAll] at h
 | _::_,_::_,[],_,_,h,_=>by simp [DataW.TrodAll] at h
end
end
section
open Go
section
variable {H:Type} {enc:yC×yh->H} {P:y5} {w w':yi} {held:Bool} {sp:Nat->Bool}
def ags (hs:∀b,b<w.heap.size->w'.heap[b]? =w.heap[b]?) {a:uy} {u:yh} (h:w.cell? a=some u):w'.cell? a=some u:=by
 have hb:a.block<w.heap.size:=by
  unfold World.cell? at h
  cases hq:w.heap[a.block]? with
  | none=>simp [hq] at h
  | some o=>exact (xu.1 hq).1
 unfold World.cell? at h ⊢;rw [hs _ hb];exact h
def afS (hs:∀b,b<w.heap.size->w'.heap[b]? =w.heap[b]?) {base:Nat} {a:uy} {n:Nat} {us:List yh} (h:w.cells? base a n=some us):w'.cells? base a n=some us:=by
 unfold World.cells? at h ⊢
 split at h
 ·rename_i hb;rw [yN hb];exact mapM_carry h (fun x y _ _ hx=>ags hs hx)
 ·cases h
def ami {a:uy} {n:Nat} (h:0<n):MemPlace.cell a.block (a.off+0)∈MemPlace.row a n:=by
 unfold MemPlace.row;exact List.mem_map.2 ⟨0,tL.2 h,rfl⟩
def Wt (hs:∀b,b<w.heap.size->w'.heap[b]? =w.heap[b]?):∀(n bg:Nat) (t:yC) (cs:List yh) (d:xM H) (ps:List wE),flat P n t=true->DataW.trod enc P w 0 (fun _=>true) held bg t cs=some (d,ps)->
  (∀p,p∈ps->sp p.block=true)->DataW.trod enc P w' 0 sp held bg t cs=some (d,ps)
 | 0,bg,t,cs,d,ps,hf,h,hp=>by simp [flat] at hf
 | n+1,0,t,cs,d,ps,hf,h,hp=>by simp [DataW.trod] at h
 | n+1,bg+1,t,cs,d,ps,hf,h,hp=>by
  have IH:=Wt hs n bg;have elem:∀{e:yC} {a:uy} {y:xM H×List wE},flat P n e=true->(w.cells? 0 a (P.cellsOf e)).bind (DataW.trod enc P w 0 (fun _=>true) held bg e)=some y->(∀p,p∈y.2->sp p.block=true)->
    (w'.cells? 0 a (P.cellsOf e)).bind (DataW.trod enc P w' 0 sp held bg e)=some y:=by
   intro e a y he h hq
   cases h1:w.cells? 0 a (P.cellsOf e) with
   | none=>simp [h1] at h
   | some us=>
    rw [h1] at h;rw [afS hs h1];simp only [xZ] at h ⊢;obtain ⟨d,ps⟩:=y;exact IH e us d ps he h hq
  unfold DataW.trod at h ⊢;simp only [flat] at hf
  split at h
  ·exact h
  ·exact h
  ·exact h
  ·exact h
  ·rename_i hu;simp [hu] at hf
  ·rename_i hu;simp [hu] at hf
  ·exact h
  ·rename_i e a len cap hu;simp only [hu,yg] at hf;obtain ⟨f1,f2,f3⟩:=hf;have ek:=sJ.1 f2;simp only at h ⊢
   split at h
   case isFalse=>cases h
   rename_i hc;rw [yN hc];simp only [xA] at h
   cases h1:(xG len).mapM fun i=>(w.cells? 0 (a.add (i*P.cellsOf e)) (P.cellsOf e)).bind (DataW.trod enc P w 0 (fun _=>true) held bg e) with
   | none=>rw [h1] at h;simp at h
   | some jz=>
    cases h2:(xG (cap-len)).mapM fun j=>(w.cells? 0 (a.add ((len+j)*P.cellsOf e)) (P.cellsOf e)).bind (DataW.trod enc P w 0 (fun _=>true) held bg e) with
    | none=>rw [h1] at h;simp [h2] at h
    | some rest=>
     rw [h1] at h;simp only [xZ,h2,wJ,yb,ym] at h;obtain ⟨rfl,rfl⟩:=h;have k1:((xG len).mapM fun i=>(w'.cells? 0 (a.add (i*P.cellsOf e)) (P.cellsOf e)).bind (DataW.trod enc P w' 0 sp held bg e))=some jz:=
      mapM_carry h1 (fun x y _ hy hx=>elem f3 hx (fun p hq=>hp p (vV _ (uP.2 ⟨y,tr _ hy,hq⟩))))
     have k2:((xG (cap-len)).mapM fun j=>(w'.cells? 0 (a.add ((len+j)*P.cellsOf e)) (P.cellsOf e)).bind (DataW.trod enc P w' 0 sp held bg e))=some rest:=
      mapM_carry h2 (fun x y _ hy hx=>elem f3 hx (fun p hq=>hp p (vV _ (uP.2 ⟨y,vV _ hy,hq⟩))))
     have hr:(if sp a.block=true then (xG (cap-len)).mapM fun j=>(w'.cells? 0 (a.add ((len+j)*P.cellsOf e)) (P.cellsOf e)).bind (DataW.trod enc P w' 0 sp held bg e) else some [])=some rest:=by
      by_cases jd:sp a.block=true
      ·rw [yN jd];exact k2
      ·rw [yB jd];have h0:¬0<(jz.length+rest.length)*P.cellsOf e:=fun h0=>jd (hp _ (tr _ (ami h0)))
       have hz:jz.length+rest.length=0:=by
        rcases xi (jz.length+rest.length) with h | h
        ·exact h
        ·exact (h0 (vK h ek)).elim
       have:rest=[]:=yH (by omega)
       rw [this]
     rw [k1];simp only [xZ];rw [hr];rfl
  ·rename_i rM x1 Ju fs hu;simp only [hu] at hf
   split at h
   case isFalse=>cases h
   rename_i hlen;rw [yN hlen]
   cases h1:fs.toList.mapM fun f=>DataW.trod enc P w 0 (fun _=>true) held bg f.type ((rM.drop f.offset).take (P.cellsOf f.type)) with
   | none=>rw [h1] at h;simp at h
   | some xs=>
    rw [h1] at h;simp only [wJ,yb,ym] at h;obtain ⟨rfl,rfl⟩:=h;have nS:∀(r:List tq) (o:Nat),Dh P (fun u=>flat P n u) r o (P.cellsOf t)=true->∀f,f∈r->flat P n f.type=true:=by
     intro r
     induction r with
     | nil=>intro o _ f hm;cases hm
     | cons g r ih=>
      intro o hq f hm;simp only [Dh,yg] at hq;rcases List.mem_cons.1 hm with rfl | hm
      ·exact hq.2.1
      ·exact ih _ hq.2.2 f hm
    have k1:(fs.toList.mapM fun f=>DataW.trod enc P w' 0 sp held bg f.type ((rM.drop f.offset).take (P.cellsOf f.type)))=some xs:=
     mapM_carry h1 (fun f y hm hy hx=>IH _ _ y.1 y.2 (nS _ _ hf f hm) hx (fun p hq=>hp p (uP.2 ⟨y,hy,hq⟩)))
    rw [k1];rfl
  ·rename_i rM x1 Ju k e hu;simp only [hu,yg] at hf
   split at h
   case isFalse=>cases h
   rename_i hlen;rw [yN hlen]
   cases h1:(xG k).mapM fun i=>DataW.trod enc P w 0 (fun _=>true) held bg e ((rM.drop (i*P.cellsOf e)).take (P.cellsOf e)) with
   | none=>rw [h1] at h;simp at h
   | some xs=>
    rw [h1] at h;simp only [wJ,yb,ym] at h;obtain ⟨rfl,rfl⟩:=h;have k1:((xG k).mapM fun i=>DataW.trod enc P w' 0 sp held bg e ((rM.drop (i*P.cellsOf e)).take (P.cellsOf e)))=some xs:=
     mapM_carry h1 (fun i y _ hy hx=>IH _ _ y.1 y.2 hf.2 hx (fun p hq=>hp p (uP.2 ⟨y,hy,hq⟩)))
    rw [k1];rfl
  all_goals first
   | (cases h;done)
   | (simp_all;done)
def Vw (hs:∀b,b<w.heap.size->w'.heap[b]? =w.heap[b]?) {n:Nat}:∀{ts:List yC} {vs:List yh} {ds:List (xM H)} {ps:List wE},ts.all (flat P n)=true->DataW.TrodAll enc P w 0 (fun _=>true) held ts vs ds ps->
  (∀p,p∈ps->sp p.block=true)->DataW.TrodAll enc P w' 0 sp held ts vs ds ps
 | [],[],[],ps,_,h,_=>by simpa only [DataW.TrodAll] using h
 | t::ts,v::vs,d::ds,ps,hf,h,hp=>by
  simp only [yci,yg] at hf;obtain ⟨p,q,⟨bg,h1⟩,h2,rfl⟩:=h;exact ⟨p,q,⟨bg,Wt hs n bg t _ d p hf.1 h1 (fun x hx=>hp x (tr _ hx))⟩,Vw hs hf.2 h2 (fun x hx=>hp x (vV _ hx)),rfl⟩
 | [],_::_,_,_,_,h,_=>by simp [DataW.TrodAll] at h
 | [],[],_::_,_,_,h,_=>by simp [DataW.TrodAll] at h
 | _::_,[],_,_,_,h,_=>by simp [DataW.TrodAll] at h
 | _::_,_::_,[],_,_,h,_=>by simp [DataW.TrodAll] at h
end
end
section
open Go Go.ChangeShapes Go.WideShapes
section
variable {H:Type} {enc:yC×yh->H} {P:y5} {W W':yi}
def ahI (hc:Calm W W') (may:wE->Prop):W.keptBut W' may:=by
 refine ⟨hc.os,hc.output,fun i hi=>?_⟩;rw [hc.same i hi]
 cases hq:W.heap[i]? with
 | none=>rfl
 | some o=>cases o<;>simp
def afT (hc:Calm W W') {b off:Nat} (hb:b<W.heap.size):W'.frozen? ⟨b,off,none⟩=W.frozen? ⟨b,off,none⟩:=by
 unfold World.frozen?;simp only;rw [hc.same b hb]
def ajT {fn:Func} {s:ycI} {apart fresh handsOn again:Bool} {args:Array yh} {ds gs:List (xM H)} {before:List wE} {n:Nat} {tb:yC}
  (hW:DataW.Whole enc P fn.params.toList s.vars apart W args.toList ds gs before) (hv:s.vars=[]) (L5:fn.params.toList.all (flat P n)=true) (hc:Calm W W')
  (kM:s.fn H (ds++gs)={results:=[.lit (.bool true)],args:=ds}) (pQ:fn.resultTypes=#[tb]) (jX:P.underlying tb=some .bool):
  s.post enc P fn apart fresh handsOn again W args (.bool true) W':=by
 have aR:=hW.lt;have hW0:=hW;obtain ⟨p,q,hA,hV,hpq,hz,hn⟩:=hW;rw [hv] at hV;have hq:gs=[]/\q=[]:=by
  cases gs with
  | nil=>exact ⟨rfl,by simpa only [DataW.TrodVars] using hV⟩
  | cons g gs=>simp [DataW.TrodVars] at hV
 obtain ⟨rfl,rfl⟩:=hq;have hbp:before=p:=by rw [hpq];simp
 subst hbp;have fL:∀sp:Nat->Bool,(∀p∈before,sp p.block=true)->DataW.TrodAll enc P W' 0 sp true fn.params.toList args.toList ds before:=fun sp h=>Vw hc.same L5 hA h
 have aaL:∀(b:Nat) (sp:Nat->Bool) (hd:Bool),DataW.TrodAll enc P W' b sp hd fn.resultTypes.toList ((Value.bool true).resultList fn.resultTypes.size) [.lit (.bool true)] []:=by
  intro b sp hd;rw [pQ];refine ⟨[],[],⟨1,?_⟩,rfl,rfl⟩;simp [DataW.trod,jX,Value.cells]
 have hold:∀p∈before,(fun b=>decide (b<W.heap.size)) p.block=true:=fun p hp=>by simpa using aR p hp
 have aaM:∀sp:Nat->Bool,DataW.TrodVars enc P W' sp s.vars ([]:List (xM H)) []:=fun sp=>by rw [hv];rfl
 refine ⟨ds,[],before,[],before,[],hW0,by rw [kM];exact aaL _ _ _,by rw [kM];exact fL _ hold,by rw [kM];exact aaM _,ahI hc _,fun _=>?_⟩
 refine ⟨?_,[.lit (.bool true)]++ds,[],[]++before++[],⟨[]++before,[],trodAll_append (fL _ (fun _ _=>rfl)) (aaL _ _ _),aaM _,rfl,?_,?_⟩,?_⟩
 ·intro j t r h1 h2;rw [pQ] at h1 h2
  cases j with
  | zero=>
   simp only [List.getElem?_toArray,vU,yb] at h1;simp only [Value.resultList,List.size_toArray,yz,yK,xA,yf,vU,yb] at h2;subst h1;subst h2;simp [Value.okWide,jX,Cell.okWide,Cell.ok]
  | succ j=>simp at h1
 ·intro b off hp;have hp:MemPlace.cell b off∈before:=by simpa using hp
  rw [afT hc (b:=b) (aR _ hp)];exact hz b off hp
 ·intro ha
  have:=hn ha
  simpa using this
 ·intro p hp _;simpa using hp
def ahJ {O:bk} {n k:Nat} {fn:Func} {s:ycI} {apart fresh handsOn again:Bool} {base:Nat} {args:Array yh} {ds gs:List (xM H)} {before:List wE} {tb:yC}
  (hp:dV O n (sR O.P k fn.params.toList ds) (.bool true)) (rW:O.w0=W) (kM:O.P.funcs[O.ab n]? =some fn) (hb:fn.body.isSome=true) (rQ:fn.name≠ "runtime.NumGoroutine")
  (aG:∀(j:Nat) t v,fn.params[j]? =some t->args[j]? =some v->Value.okWide O.P W .any base t v)
  (hW:DataW.Whole enc O.P fn.params.toList s.vars apart W args.toList ds gs before) (hv:s.vars=[]) (L5:fn.params.toList.all (flat O.P k)=true)
  (hfs:s.fn H (ds++gs)={results:=[.lit (.bool true)],args:=ds}) (pQ:fn.resultTypes=#[tb]) (jX:O.P.underlying tb=some .bool):
  Calls O.P (O.ab n) args W fun e W'=>∃v,e= .returned v/\s.post enc O.P fn apart fresh handsOn again W args v W':=by
 have hA:=hW;obtain ⟨p,q,hA,_⟩:=hA;obtain ⟨h1,h2⟩:=X7 (ab:=O.ab) (m:=eC) (S:=fun b=>b<W.heap.size) (fun b hb=>hb) L5 hA (fun j t v a b=>aG j t v (by simpa using a) (by simpa using b));have hi:=hp W (fun b=>b<W.heap.size) args ⟨fun b _=>by rw [rW],by rw [rW];exact yA _⟩ (fun b hb=>hb) h1 h2
 have key:∀e W',XQ O W (fun b=>b<W.heap.size) (.bool true) e W'->∃v,e= .returned v/\s.post enc O.P fn apart fresh handsOn again W args v W':=by
  rintro e W' ⟨u,S',rfl,hc,_,_,_,hr⟩;simp only [mL,ia,af] at hr;obtain ⟨_,_,hu,_⟩:=hr;subst hu;exact ⟨_,rfl,ajT hW hv L5 hc hfs pQ jX⟩
 rcases hi with ⟨_,hi⟩ | ⟨u,w',hi,_⟩
 ·exact callsIn_wide.1 (hi.mono key)
 ·rw [KQ kM hb rQ] at hi;cases hi
end
end
namespace J1
open Go Go.Proofs
noncomputable def O (W:yi):bk:=⟨Tryz.prog,VE.aX,zf mU.ab,VE.prog,LY mU.bS mU.hd,W⟩
def Xj {w:yi} {k:Nat} {os:Array Go.Obj}:Calm w (Go.Sort.grow (w.drewN k) os):=Gu (Lib.below_grow w.heap.size w (yA _) k os)
def X8 {W w:yi} (h:Lib.TabIs Tryz.prog W "internal/strconv.uint64pow10" .u64 Lib.pow10Tab) (hg:Az (O W) w):Lib.TabIs Tryz.prog w "internal/strconv.uint64pow10" .u64 Lib.pow10Tab:=by
 unfold Lib.TabIs World.var? at h ⊢
 cases hn:Tryz.prog.globalNamed "internal/strconv.uint64pow10" with
 | none=>rw [hn] at h;exact h
 | some g=>
  rw [hn] at h;simp only [xZ] at h ⊢;have hb:g<W.heap.size:=by
   cases hq:W.heap[g]? with
   | none=>rw [hq] at h;cases h
   | some o=>exact (xu.1 hq).1
  rw [hg.1 g hb];exact h
def asA:∀args w,(callFunc 174 args).run Tryz.prog w= .ok (.enter 174 args) w:=enters_of Tryz.func174 (by kernel_rfl) rfl
def asB:∀args w,(callFunc 173 args).run Tryz.prog w= .ok (.enter 173 args) w:=enters_of Tryz.func173 (by kernel_rfl) rfl
def asC:∀args w,(callFunc 247 args).run Tryz.prog w= .ok (.enter 247 args) w:=enters_of Tryz.func247 (by kernel_rfl) rfl
def asD:∀args w,(callFunc 249 args).run Tryz.prog w= .ok (.enter 249 args) w:=enters_of Tryz.func249 (by kernel_rfl) rfl
def asE:∀args w,(callFunc 250 args).run Tryz.prog w= .ok (.enter 250 args) w:=enters_of Tryz.func250 (by kernel_rfl) rfl
def asF:∀args w,(callFunc 235 args).run Tryz.prog w= .ok (.enter 235 args) w:=enters_of Tryz.func235 (by kernel_rfl) rfl
def asG:∀args w,(callFunc 223 args).run Tryz.prog w= .ok (.enter 223 args) w:=enters_of Tryz.func223 (by kernel_rfl) rfl
def asH:∀args w,(callFunc 224 args).run Tryz.prog w= .ok (.enter 224 args) w:=enters_of Tryz.func224 (by kernel_rfl) rfl
def asI:∀args w,(callFunc 225 args).run Tryz.prog w= .ok (.enter 225 args) w:=enters_of Tryz.func225 (by kernel_rfl) rfl
def asJ:∀args w,(callFunc 220 args).run Tryz.prog w= .ok (.enter 220 args) w:=enters_of Tryz.func220 (by kernel_rfl) rfl
def asK:∀args w,(callFunc 280 args).run Tryz.prog w= .ok (.enter 280 args) w:=enters_of Tryz.func280 (by kernel_rfl) rfl
def asL:∀args w,(callFunc 243 args).run Tryz.prog w= .ok (.enter 243 args) w:=enters_of Tryz.func243 (by kernel_rfl) rfl
def amj (b:Nat) (w:yi):(callFunc 274 #[.float .f64 b]).run Tryz.prog w= .ok (.value (.int .u64 b)) w:=by
 rw [run_callFunc_extern Tryz.func274 (by kernel_rfl) (by kernel_rfl) (by kernel_rfl) (e:=Extern.MathFloatBits.float64bits) (by kernel_rfl)];rfl
def afU (b:Nat) (w:yi):(callFunc 277 #[.int .u64 b]).run Tryz.prog w= .ok (.value (.float .f64 b)) w:=by
 rw [run_callFunc_extern Tryz.func277 (by kernel_rfl) (by kernel_rfl) (by kernel_rfl) (e:=Extern.MathFloatBits.float64frombits) (by kernel_rfl)];rfl
def arm (W:yi) (n:Nat) (sp:List AV->Option AV):Prop:=∀vals r,sp vals=some r->dV (O W) n vals r
section
variable {W:yi} {m:Int} (hm:W.cell? ⟨1,0,none⟩=some (.int .i64 m)) (ht:Lib.TabIs Tryz.prog W "internal/strconv.uint64pow10" .u64 Lib.pow10Tab)
include hm ht
theorem aoB:abP.kL (arm W):=
 (Tr.jy (ajJ (O:=O W) (f:=225) (by rfl) asI (fun s z w hl h=>(Tryz.strconv_Atoi s z hl h w).mono fun _ _ ⟨h1,t,h2⟩=>⟨h1,h2▸Gu (Lib.bytesWorld_below _ _ _)⟩))
  (Tr.jy (agq (O:=O W) (f:=250) (by rfl) asE Tryz.strings_Repeat)
  (Tr.jy (ajI (O:=O W) (f:=247) (by rfl) asC (fun z w h0 h1 hg=>(Tryz.strconv_Itoa z h0 h1 w (X8 ht hg)).mono fun _ _ ⟨h1,k,os,h2⟩=>⟨h1,h2▸Xj⟩))
  (Tr.jy (afg (O:=O W) (f:=173) (by rfl) asB Tryz.strings_CutPrefix)
  (Tr.jy (al1 (O:=O W) (f:=174) (by rfl) asA (a:=⟨1,0,none⟩) (m:=m) hm (fun s sep w hs hc=>Tryz.strings_Cut s sep m w hs hc))
  Tr.iT Tr.iT) Tr.iT) (Tr.jy (afe (O:=O W) (f:=249) (by rfl) asD (fun z w hz hg=>(Tryz.ae5 z hz w (X8 ht hg)).mono fun _ _ ⟨h1,k,os,h2⟩=>⟨h1,h2▸Xj⟩))
  Tr.iT Tr.iT)) (Tr.jy (afh (O:=O W) (f:=223) (by rfl) asG Tryz.strings_HasPrefix)
  (Tr.jy (ahA (O:=O W) (f:=235) (by rfl) asF (fun x y w hx hy=>Tryz.bits_Mul64 x y hx hy w))
  Tr.iT Tr.iT) (Tr.jy (afd (O:=O W) (f:=224) (by rfl) asH Tryz.strings_TrimPrefix)
  Tr.iT Tr.iT))) (Tr.jy (ahD (O:=O W) (f:=270) (by rfl) (fun x y b w h=>Tryz.bits_Sub64 x y b h w))
  (Tr.jy (ajK (O:=O W) (f:=280) (by rfl) asK (fun x w h0 h1=>Tryz.bits_LeadingZeros64 x w h0 h1))
  (Tr.jy (ajH (O:=O W) (f:=220) (by rfl) asJ (fun s cs w hs pX ha=>Tryz.afu s cs w hs pX ha))
  Tr.iT Tr.iT) (Tr.jy (ahC (O:=O W) (f:=268) (by rfl) (fun x y c w h=>Tryz.bits_Add64 x y c h w))
  Tr.iT Tr.iT)) (Tr.jy (afH (O:=O W) (f:=274) (by rfl) amj)
  (Tr.jy (ahB (O:=O W) (f:=243) (by rfl) asL (fun x w h0 h1=>Tryz.bits_Len64 x w h0 h1))
  Tr.iT Tr.iT) (Tr.jy (afa (O:=O W) (f:=277) (by rfl) afU)
  Tr.iT Tr.iT))))
theorem amk:gI (O W) where
 hint n f g h:=Tr.BH (p:=fun f g=>zf mU.ab g=f) (O7 mU.aos) h
 mixed:=by kernel_rfl
 prog n F h:=Tr.BH mU.amf h
 aX n sp vals r h hs:=Tr.BH (aoB hm ht) h vals r hs
 D6 n sp hp ct vals v an aV h:=by cases h
end
end J1
def cp:List Int->Int
 | []=>0
 | a::r=>if a=0 then cp r else a
def VV {l:List Int} {i:Nat} (h:i<l.length):cp (l.drop i)=if l[i]=0 then cp (l.drop (i+1)) else l[i]:=by
 rw [yP h,cp]
def fk (lo hi:Int):List Int->Bool
 | []=>false
 | a::r=>if a<lo\/hi<a then true else fk lo hi r
def ahK {lo hi:Int} {l:List Int} {i:Nat} (h:i<l.length):fk lo hi (l.drop i)=if l[i]<lo\/hi<l[i] then true else fk lo hi (l.drop (i+1)):=by
 rw [yP h,fk]
def jl (n:Nat) (lo hi:Int):List (List Int)->Int
 | []=>0
 | r::s=>if r.length≠n then 2 else if fk lo hi r=true then 3 else jl n lo hi s
def Wu {n:Nat} {lo hi:Int} {s:List (List Int)} {i:Nat} (h:i<s.length):
  jl n lo hi (s.drop i)=if s[i].length≠n then 2 else if fk lo hi s[i]=true then 3 else jl n lo hi (s.drop (i+1)):=by
 rw [yP h,jl]
def iq (s:List (List Int)):Int:=if s.length=0 then 12 else if 16<s.length then 5 else jl s.length (-1000) 1000 s
def PV {lo hi:Int} {l:List Int} (h:fk lo hi l=false):∀i (cI:i<l.length),lo<=l[i]/\l[i]<=hi:=by
 induction l with
 | nil=>intro i cI;exact absurd cI (tn _)
 | cons a r ih=>
  simp only [fk] at h
  grind
def ahL {lo hi:Int} {l:List Int} (h:fk lo hi l=false):∀i,fk lo hi (l.take i)=false:=by
 induction l with
 | nil=>intro i;simp [fk]
 | cons a r ih=>
  intro i;simp only [fk] at h
  split at h
  ·grind
  ·rename_i hc
   cases i with
   | zero=>simp [fk]
   | succ i=>simp only [List.take_succ_cons,fk,hc,xk,ih h i]
def eh (s:List (List Int)) (c r:Int):Int:=(s.getD (r%s.length).toNat []).getD (c%s.length).toNat 0
def aml {n m:Int} (h:0<m):(n.tmod m+m).tmod m=n%m:=by
 have e:n.tmod m=if 0<=n\/m∣n then n%m else n%m-m:=by
  grind
 have h1:=Int.emod_nonneg n (by omega:m≠0);rw [e]
 split
 ·rw [xr (by omega),Int.add_emod_right,ycG]
 ·rw [show n%m-m+m=n%m by omega,xr h1,ycG]
def Dl {n:Nat} {lo hi:Int} {s:List (List Int)} (h:jl n lo hi s=0):∀i (cI:i<s.length),s[i].length=n/\fk lo hi s[i]=false:=by
 induction s with
 | nil=>intro i cI;exact absurd cI (tn _)
 | cons r s ih=>
  simp only [jl] at h
  grind
def dv:List Int->Nat
 | []=>0
 | a::r=>a.toNat+1000000000*dv r
def lM:∀(a b:List Int),dv (a++b)=dv a+1000000000^a.length*dv b
 | [],b=>by simp [dv]
 | x::a,b=>by
  simp only [yX,dv,lM a b,yz,y7,xB]
  grind
def ol {l:List Int} (i:Nat):dv (l.take (i+1))=dv (l.take i)+1000000000^i*(l.getD i 0).toNat:=by
 by_cases h:i<l.length
 ·rw [wK h,lM,yO,xF (by omega)];simp [dv,xx,xW h]
 ·rw [yM (by omega),yM (by omega)]
  grind
abbrev dg (l:List Int):Prop:=fk 0 999999999 l=false
def gG {a b:List Int}:dg (a++b)↔dg a/\dg b:=by
 induction a with
 | nil=>simp [dg,fk]
 | cons x a ih=>
  simp only [dg,yX,fk] at ih ⊢
  grind
def jM {x:Int}:dg [x]↔0<=x/\x<1000000000:=by
 simp only [dg,fk]
 grind
def gX {l:List Int} (h:dg l) (i:Nat):0<=l.getD i 0/\l.getD i 0<1000000000:=by
 by_cases hi:i<l.length
 ·have:=PV h i hi
  grind
 ·grind
def BM {l:List Int} (h:dg l) (i:Nat):dg (l.take i):=ahL h i
def jA:∀{l:List Int},dg l->dv l<1000000000^l.length
 | [],_=>by simp [dv]
 | x::l,h=>by
  have h':dg ([x]++l):=h;obtain ⟨h1,h2⟩:=gG.1 h';have h1:=jM.1 h1
  have:=jA h2
  simp only [dv,yz,y7];omega
def dI:List Int->List Int
 | []=>[]
 | a::r=>match dI r with | []=>if a=0 then [] else [a] | t::q=>a::t::q
def Gw:∀l:List Int,dI (l++[0])=dI l
 | []=>rfl
 | a::l=>by simp only [yX,dI,Gw l]
def Kh {a:Int} (h:a≠0):∀l:List Int,dI (l++[a])=l++[a]
 | []=>by simp [dI,h]
 | b::l=>by
  simp only [yX,dI,Kh h l]
  cases hq:l++[a] with
  | nil=>simp at hq
  | cons t q=>rfl
def sD:∀l:List Int,dv (dI l)=dv l
 | []=>rfl
 | a::l=>by
  have ih:=sD l;simp only [dI,dv]
  split
  ·rename_i h;rw [h] at ih
   split
   ·rename_i h0;subst h0;simp [dv,<-ih]
   ·simp [dv,<-ih]
  ·rename_i t q h;rw [h] at ih;simp only [dv] at ih ⊢;omega
def Ab:∀{l:List Int},dg l->dg (dI l)
 | [],_=>rfl
 | a::l,h=>by
  have h':dg ([a]++l):=h;obtain ⟨h1,h2⟩:=gG.1 h';have ih:=Ab h2;simp only [dI]
  split
  ·grind
  ·rename_i t q hq;rw [hq] at ih
   exact (gG (a:=[a]) (b:=t::q)).2 ⟨h1,ih⟩
def KA:∀l:List Int,(dI l).length<=l.length
 | []=>yA _
 | a::l=>by
  have ih:=KA l;simp only [dI]
  grind
def snoc {α:Type} (l:List α):l=[]\/∃m a,l=m++[a]:=by
 rcases List.eq_nil_or_concat l with h | ⟨m,a,h⟩
 ·grind
 ·grind
def afV:∀(n:Nat) (l:List Int),l.length=n->dI (dI l)=dI l:=by
 intro n
 induction n with
 | zero=>intro l h;rw [yH h];rfl
 | succ n ih=>
  intro l h;rcases snoc l with rfl | ⟨m,a,rfl⟩
  ·rfl
  ·by_cases h0:a=0
   ·subst h0;rw [Gw]
    grind
   ·rw [Kh h0,Kh h0]
def agt (l:List Int):dI (dI l)=dI l:=afV _ l rfl
abbrev nz (l:List Int):Prop:=dI l=l
def Dx (l:List Int):nz (dI l):=agt l
def L6 {l:List Int} (h:nz l) (hd:dg l) (h0:l≠[]):1000000000^(l.length-1)<=dv l:=by
 rcases snoc l with rfl | ⟨m,a,rfl⟩
 ·grind
 ·by_cases ha:a=0
  ·subst ha
   have:=KA m
   have e:=congrArg tV h;rw [Gw] at e
   grind
  ·rw [lM]
   have:=jM.1 (gG.1 hd).2
   simp only [dv,yR,td,tI,xD,yW];have h1:1<=a.toNat:=by omega
   have:=yS (1000000000^m.length) h1
   omega
def Qg {l:List Int} (h:nz l) (hd:dg l) (h0:dv l=0):l=[]:=by
 by_cases hl:l=[]
 ·grind
 ·have:=L6 h hd hl
  grind
def QF {a b:List Int} (ha:dg a) (hb:nz b) (bX:dg b) (h:a.length<b.length):dv a<dv b:=by
 have h1:=jA ha;have h2:=L6 hb bX (fun e=>by subst e;simp at h);have h3:1000000000^a.length<=1000000000^(b.length-1):=yV (by decide) (by omega);omega
def dG (m n:Nat):Int:=if m<n then -1 else if n<m then 1 else 0
def Zz {l:List Int} {i:Nat} (h:i<l.length):dv l=dv (l.take i)+1000000000^i*(l[i].toNat+1000000000*dv (l.drop (i+1))):=by
 have e:l=l.take i++l[i]::l.drop (i+1):=by simp_all
 have:dv l=dv (l.take i++l[i]::l.drop (i+1)):=congrArg dv e
 rw [this,lM,yO,xF (by omega)];rfl
def Y5 {a b:List Int} {i:Nat} (ha:dg a) (hb:dg b) (h1:i<a.length) (h2:i<b.length) (he:a.drop (i+1)=b.drop (i+1)) (h:a[i]<b[i]):dv a<dv b:=by
 rw [Zz h1,Zz h2,he];have hl:=jA (BM ha i);have g1:=PV ha i h1;have h3:a[i].toNat+1000000000*dv (b.drop (i+1))+1<=b[i].toNat+1000000000*dv (b.drop (i+1)):=by omega
 have:=yS (1000000000^i) h3
 grind
def QG:∀{l:List Int} {j:Nat} {x:Int},j<l.length->dv (l.set j x)+1000000000^j*(l.getD j 0).toNat=dv l+1000000000^j*x.toNat
 | [],j,x,h=>by simp at h
 | a::l,0,x,_=>by simp [dv];omega
 | a::l,j+1,x,h=>by
  have ih:=QG (l:=l) (j:=j) (x:=x) (by simpa using h);simp only [ybe,dv,yaU,y7]
  grind
def LD {l:List Int} (h:dg l) {j:Nat} {x:Int} (hx:0<=x/\x<1000000000):dg (l.set j x):=by
 by_cases hj:j<l.length
 ·rw [tJ,yN hj];have e:l=l.take (j+1)++l.drop (j+1):=(wa _ _).symm;have hd:dg (l.drop (j+1)):=by rw [e] at h;exact (gG.1 h).2
  exact gG.2 ⟨BM h j,(gG (a:=[x]) (b:=l.drop (j+1))).2 ⟨jM.2 hx,hd⟩⟩
 ·rw [List.set_eq_of_length_le (by omega)];exact h
def X9 {l:List Int} {j m:Nat} {x:Int} (h:m≠j):(l.set j x).getD m 0=l.getD m 0:=by grind
def ajU {V0 V V' p q A X Y o c s:Nat} (hs:s=o+A*X+c) (aU:V'+p*q*o=V+p*q*(s%1000000000)) (hv:V+p*q*c=V0+p*(A*Y)):
  V'+p*(q*1000000000)*(s/1000000000)=V0+p*(A*(Y+q*X)):=by
 have e:=uL s 1000000000;have e2:p*q*s=p*q*(s%1000000000)+p*(q*1000000000)*(s/1000000000):=by
  conv=>lhs;rw [<-e]
  rw [xB,<-xp (p*q),<-xp p q]
 have e3:p*q*s=p*q*o+p*q*(A*X)+p*q*c:=by rw [hs,xB,xB]
 have e4:p*(A*(Y+q*X))=p*(A*Y)+p*q*(A*X):=by
  rw [xB,xB,xp p q,<-xp A q X,xy A q,xp q A X]
 omega
def Ya (n:Nat):dv (yy n 0)=0:=by
 induction n with
 | zero=>rfl
 | succ n ih=>simp [wq,dv,ih]
def Yb (n:Nat):dg (yy n 0):=by
 induction n with
 | zero=>rfl
 | succ n ih=>exact (gG (a:=[0]) (b:=yy n 0)).2 ⟨by decide,ih⟩
def bv (b:Nat):List Nat->Nat
 | []=>0
 | a::r=>a+b*bv b r
def lo (b:Nat) (l:List Nat):Prop:=∀x,x∈l->x<b
section
variable {b:Nat}
def Ar (a:Nat):bv b [a]=a:=by simp [bv]
def qF:∀(l m:List Nat),bv b (l++m)=bv b l+b^l.length*bv b m
 | [],m=>by simp [bv]
 | x::l,m=>by
  simp only [yX,bv,qF l m,yz,y7,xB]
  grind
def gd {l:List Nat} {i:Nat} (h:i<l.length):l[i]=l.getD i 0:=by simp_all
def QH {l:List Nat} {i:Nat} (h:l.length<=i):l.getD i 0=0:=by simp_all
def iP {l:List Nat} (i:Nat):bv b (l.take (i+1))=bv b (l.take i)+b^i*l.getD i 0:=by
 by_cases h:i<l.length
 ·rw [wK h,qF,yO,xF (by omega),Ar,gd h]
 ·rw [yM (by omega),yM (by omega),QH (by omega),xD,yW]
def LF:lo b []:=fun _ h=>by simp at h
def KB {l m:List Nat}:lo b (l++m)↔lo b l/\lo b m:=by
 constructor
 ·intro h;exact ⟨fun x hx=>h x (by simp [hx]),fun x hx=>h x (by simp [hx])⟩
 ·rintro ⟨h1,h2⟩ x hx;rcases wC.1 hx with h | h
  ·exact h1 x h
  ·exact h2 x h
def DM {x:Nat}:lo b [x]↔x<b:=by simp [lo]
def gi (hb:0<b) {l:List Nat} (h:lo b l) (i:Nat):l.getD i 0<b:=by
 by_cases hi:i<l.length
 ·rw [<-gd hi];exact h _ (List.getElem_mem hi)
 ·grind
def sL {l:List Nat} (h:lo b l) (i:Nat):lo b (l.take i):=fun x hx=>h x (List.mem_of_mem_take hx)
def Y6 {l:List Nat} (h:lo b l) (i:Nat):lo b (l.drop i):=fun x hx=>h x (List.mem_of_mem_drop hx)
def lU {l:List Nat} (h:lo b l) {i x:Nat} (hx:x<b):lo b (l.set i x):=fun y hy=>by
 rcases List.mem_or_eq_of_mem_set hy with h1 | h1
 ·exact h y h1
 ·omega
def DN (hb:0<b) (n:Nat):lo b (yy n 0):=fun x hx=>by
 grind
def DO (n:Nat):bv b (yy n 0)=0:=by
 induction n with
 | zero=>rfl
 | succ n ih=>simp [wq,bv,ih]
def BN (n m:Nat):(yy n (0:Nat)).getD m 0=0:=by grind
def ll:∀{l:List Nat},lo b l->bv b l<b^l.length
 | [],_=>by simp [bv]
 | x::l,h=>by
  have h1:=h x (by simp);have h2:=ll (l:=l) (fun y hy=>h y (by simp [hy]));simp only [bv,yz,y7,xy _ b]
  have:=yS b (show bv b l+1<=b^l.length from h2)
  grind
def nt:∀{l:List Nat} {i x:Nat},i<l.length->bv b (l.set i x)+b^i*l.getD i 0=bv b l+b^i*x
 | [],i,x,h=>by simp at h
 | a::l,0,x,_=>by simp [bv];omega
 | a::l,i+1,x,h=>by
  have ih:=nt (l:=l) (i:=i) (x:=x) (by simpa using h)
  have:=congrArg (fun t=>b*t) ih
  simp only [xB] at this;simp only [ybe,bv,yaU,y7,xy _ b,xp] at this ⊢;omega
def ot {l:List Nat} {i m x:Nat} (h:i≠m):(l.set i x).getD m 0=l.getD m 0:=by simp_all
def agu {l:List Nat} {i x:Nat} (h:i<l.length):(l.set i x).getD i 0=x:=by simp_all
def GM (l:List Nat) (i:Nat) (h:i<=l.length):bv b l=bv b (l.take i)+b^i*bv b (l.drop i):=by
 have:=qF (b:=b) (l.take i) (l.drop i)
 simp_all
def dJ:List Nat->List Nat
 | []=>[]
 | a::r=>match dJ r with | []=>if a=0 then [] else [a] | t::q=>a::t::q
def Ki:∀l:List Nat,dJ (l++[0])=dJ l
 | []=>rfl
 | a::l=>by simp only [yX,dJ,Ki l]
def Di {a:Nat} (h:a≠0):∀l:List Nat,dJ (l++[a])=l++[a]
 | []=>by simp [dJ,h]
 | b::l=>by
  simp only [yX,dJ,Di h l]
  cases hq:l++[a] with
  | nil=>simp at hq
  | cons t q=>rfl
abbrev gB (l:List Nat):Prop:=dJ l=l
def agv:∀(n:Nat) (l:List Nat),l.length=n->∃i,i<=n/\dJ l=l.take i/\gB (l.take i)/\bv b (l.take i)=bv b l:=by
 intro n
 induction n with
 | zero=>intro l h;rw [yH h];exact ⟨0,yA _,rfl,rfl,rfl⟩
 | succ n ih=>
  intro l h;rcases snoc l with rfl | ⟨m,a,rfl⟩
  ·grind
  ·have hm:m.length=n:=by simp_all
   by_cases h0:a=0
   ·subst h0;obtain ⟨i,h1,h2,h3,h4⟩:=ih m hm;have e:(m++[0]).take i=m.take i:=by grind
    refine ⟨i,by omega,by rw [Ki,h2,e],by rw [e];exact h3,?_⟩
    rw [e,h4,qF];simp [bv]
   ·have e:(m++[a]).take (n+1)=m++[a]:=yM (by simp [hm]);exact ⟨n+1,yA _,by rw [e,Di h0],by rw [e];exact Di h0 m,by rw [e]⟩
def KC (l:List Nat):∃i,i<=l.length/\dJ l=l.take i/\gB (dJ l)/\bv b (dJ l)=bv b l:=by
 obtain ⟨i,h1,h2,h3,h4⟩:=agv (b:=b) l.length l rfl
 grind
def Ac (l:List Nat):bv b (dJ l)=bv b l:=by
 obtain ⟨_,_,_,_,h⟩:=KC (b:=b) l;exact h
def Ad (l:List Nat):gB (dJ l):=by
 obtain ⟨_,_,_,h,_⟩:=KC (b:=2) l;exact h
def Ae {l:List Nat} (h:lo b l):lo b (dJ l):=by
 obtain ⟨i,_,h2,_⟩:=KC (b:=b) l;rw [h2];exact sL h i
def ahM (l:List Nat):(dJ l).length<=l.length:=by
 obtain ⟨i,_,h2,_⟩:=KC (b:=2) l
 grind
def GN {l:List Nat} (h:gB l) (h0:l≠[]):l.getD (l.length-1) 0≠0:=by
 rcases snoc l with rfl | ⟨m,a,rfl⟩
 ·grind
 ·intro ha
  have:a=0:=by
   grind
  subst this;have e:=congrArg tV h;rw [Ki] at e
  have:=ahM m
  grind
def QI (hb:0<b) {l:List Nat} (h:gB l) (h0:l≠[]):b^(l.length-1)<=bv b l:=by
 rcases snoc l with rfl | ⟨m,a,rfl⟩
 ·grind
 ·have ha:=GN h h0;simp [xx] at ha;rw [qF,Ar];simp only [yR,td,tI]
  have:=yS (b^m.length) (show 1<=a by omega)
  omega
def Lk (hb:1<b) {l m:List Nat} (hl:lo b l) (hm:gB m) (h:l.length<m.length):bv b l<bv b m:=by
 have h1:=ll hl;have h2:=QI (b:=b) (by omega) hm (fun e=>by subst e;simp at h);have h3:b^l.length<=b^(m.length-1):=yV (by omega) (by omega);omega
def Y7 {l m:List Nat} (hl:lo b l) {i:Nat} (h1:i<l.length) (h2:i<m.length) (he:l.drop (i+1)=m.drop (i+1)) (h:l.getD i 0<m.getD i 0):bv b l<bv b m:=by
 rw [GM l (i+1) (by omega),GM m (i+1) (by omega),he,iP,iP]
 have:=ll (sL hl i)
 have:=yS (b^i) (show l.getD i 0+1<=m.getD i 0 from h)
 grind
def ahN (hb:1<b) {l:List Nat} {k:Nat} (h:gB l) (hk:bv b l<b^k):l.length<=k:=by
 by_cases h0:l=[]
 ·grind
 ·have h1:=QI (b:=b) (by omega) h h0;have h2:b^(l.length-1)<b^k:=we h1 hk
  have:=(Nat.pow_lt_pow_iff_right hb).1 h2
  omega
def Wv {V v1 v2 vr U u0 u1 u2 ur p t r:Nat} (hV:V=(v1*b+v2)*p+vr) (hU:U=((u0*b+u1)*b+u2)*p+ur) (hur:ur<p)
  (ht:t*v1+r=u0*b+u1) (h:r*b+u2<t*v2):U/V<=t-1:=by
 have h1:U<t*V:=by
  have e:t*((v1*b+v2)*p)=((t*v1)*b+t*v2)*p:=by
   grind
  have h2:((u0*b+u1)*b+u2)+1<=(t*v1)*b+t*v2:=by rw [<-ht,wh];omega
  have h3:=yQ p h2;rw [hV,hU,xB,e]
  grind
 have qc:0<V:=by
  grind
 have:=(wz qc).2 h1
 omega
def Xk {V v1 v2 vr U u0 u1 u2 ur p t r:Nat} (hb:0<b) (hV:V=(v1*b+v2)*p+vr) (Jv:vr<p) (hU:U=((u0*b+u1)*b+u2)*p+ur) (dN:0<v1) (cz:v2<b) (jX:t<b)
  (ht:t*v1+r=u0*b+u1) (h:b<=r\/t*v2<=r*b+u2):t<=U/V+1:=by
 have h2:t*v2<=r*b+u2:=by
  rcases h with h | h
  ·have:=wW (uZ jX) (uZ cz)
   have:=yQ b h
   omega
  ·exact h
 have h3:t*(v1*b+v2)<=(u0*b+u1)*b+u2:=by
  rw [xB,<-xp,<-ht,wh];omega
 have hp:0<p:=by omega
 have ayl:b<=v1*b:=Nat.le_mul_of_pos_left b dN;have qc:0<V:=by
  have:=vK (show 0<v1*b+v2 by omega) hp
  omega
 rcases xi t with h0 | h0
 ·grind
 ·obtain ⟨s,rfl⟩:∃s,t=s+1:=⟨t-1,by omega⟩;have h4:s*V<=U:=by
   have h5:V<=(v1*b+v2+1)*p:=by grind
   have h6:=yS s h5;have h7:s*(v1*b+v2+1)<=(s+1)*(v1*b+v2):=by
    grind
   have h8:=yQ p (Nat.le_trans h7 h3)
   grind
  exact Nat.succ_le_succ ((tp qc).2 h4)
def OU {V v1 v2 vr U u0 u1 u2 ur p:Nat} (hV:V=(v1*b+v2)*p+vr) (hU:U=((u0*b+u1)*b+u2)*p+ur) (hur:ur<p) (zG:u2<b) (dN:0<v1):U/V<=(u0*b+u1)/v1:=by
 by_cases qc:V=0
 ·grind
 ·refine (tp dN).2 ?_;have h1:=Nat.div_mul_le_self U V;generalize U/V=q at h1 ⊢;have h2:q*v1*(b*p)<=q*V:=by
   rw [hV,xp]
   grind
  have h3:U<(u0*b+u1+1)*(b*p):=by
   have:(u0*b+u1)*b+u2+1<=(u0*b+u1+1)*b:=by grind
   have:=yQ p this
   grind
  have h4:q*v1*(b*p)<(u0*b+u1+1)*(b*p):=by omega
  have:=yap h4
  omega
def Xl {V v1 v2 vr U u0 u1 u2 ur p:Nat} (hV:V=(v1*b+v2)*p+vr) (hU:U=((u0*b+u1)*b+u2)*p+ur) (Jv:vr<p) (cz:v2<b) (h:U<b*V):u0<=v1:=by
 refine Nat.le_of_lt_succ ?_;have h1:V<(v1+1)*(b*p):=by
  have:v1*b+v2+1<=(v1+1)*b:=by grind
  have:=yQ p this
  grind
 have h2:u0*(b*(b*p))<=U:=by
  grind
 have h3:=yS b (uZ h1);have e:b*((v1+1)*(b*p))=(v1+1)*(b*(b*p)):=by grind
 rw [e] at h3;have h4:u0*(b*(b*p))<(v1+1)*(b*(b*p)):=we h2 (yu h h3);exact yap h4
end
section
variable {P:aF} {L:Lib} {f:cu} {F:Nat->cu}
def Bg (f:cu) (F:Nat->cu):Prop:=∀c s r,f c s=some r->∃n,F n c s=some r
def Mon (F:Nat->cu):Prop:=∀n m,n<=m->Le (F n) (F m)
def J3 (h:Bg f F) (n:Nat) (vals:List AV) (r:AV) (hr:bE P L f n vals=some r):∃k,bE P L (F k) n vals=some r:=by
 unfold bE at hr ⊢
 cases hL:L.pure n with
 | some sp=>exact ⟨0,by simpa only [hL] using hr⟩
 | none=>
  simp only [hL] at hr ⊢
  cases hP:P n with
  | none=>simp [hP] at hr
  | some G=>
   simp only [hP] at hr ⊢
   cases hf:f G.body ⟨ew 0 vals,[],0,0⟩ with
   | none=>simp [hf] at hr
   | some q=>
    obtain ⟨k,hk⟩:=h _ _ _ hf
    grind
def O8 (h:Bg f F) (hp:Hp) (ct:Nat) (n:Nat) (vals:List AV) (r:AV×Hp×Nat) (hr:iw P L f hp ct n vals=some r):∃k,iw P L (F k) hp ct n vals=some r:=by
 unfold iw at hr ⊢
 cases hL:L.heap n with
 | some sp=>exact ⟨0,by simpa only [hL] using hr⟩
 | none=>
  simp only [hL] at hr ⊢
  cases hP:P n with
  | none=>simp [hP] at hr
  | some G=>
   simp only [hP] at hr ⊢
   cases hf:f G.body ⟨ew 0 vals,hp,ct,ct⟩ with
   | none=>simp [hf] at hr
   | some q=>
    obtain ⟨k,hk⟩:=h _ _ _ hf
    grind
def VW (h:Bg f F) (hm:Mon F) (hp:Hp) (ct:Nat) (l:Nat) (xs:List AV) (r:AV×Hp×Nat) (hr:j9 f hp ct l xs=some r):∃k,j9 (F k) hp ct l xs=some r:=by
 have key:∃k,∀g,Le (F k) g->j9 g hp ct l xs=some r:=by
  unfold j9 at hr
  cases hl:ak hp l with
  | none=>simp [hl] at hr
  | some o=>
   split at hr
   ·rename_i tm ps as_ body pe nW
    cases hb:pJ tm ps xs with
    | none=>simp [hb] at hr
    | some tm'=>
     simp only [hb] at hr
     cases h1:f as_ ⟨tm',hp,ct,ct⟩ with
     | none=>simp [h1] at hr
     | some q=>
      obtain ⟨k1,gR⟩:=h _ _ _ h1
      split at hr
      ·rename_i s1 RR
       split at hr
       ·rename_i iF rE A4 B6 oV abE
        cases h2:f body ⟨s1.tm,aU s1.hp l (.lp iF rE A4 B6 1 oV),s1.ct,s1.ct⟩ with
        | none=>simp [h2] at hr
        | some q2=>
         obtain ⟨k2,jc⟩:=h _ _ _ h2;refine ⟨max k1 k2,fun g hg=>?_⟩;have e1:=hg _ _ _ (hm k1 _ (ux k1 k2) _ _ _ gR);have e2:=hg _ _ _ (hm k2 _ (vZ k1 k2) _ _ _ jc);unfold j9
         grind
       ·simp at hr
      ·simp at hr
   ·simp at hr
 obtain ⟨k,hk⟩:=key;exact ⟨k,hk _ (fun _ _ _ h=>h)⟩
def Ww (h:Bg f F) (hm:Mon F) (hp:Hp) (ct:Nat) (m:Md) (fv:AV) (xs:List AV) (r:AV×Hp×Nat) (hr:dj P L f hp ct m fv xs=some r):∃k,dj P L (F k) hp ct m fv xs=some r:=by
 unfold dj at hr ⊢
 split at hr
 ·rename_i n first cap
  cases m with
  | pure=>
   cases hz:cA deep hp (first++(xs++cap)) with
   | none=>simp [hz] at hr
   | some q=>
    simp only [hz] at hr ⊢
    cases hc:bE P L f n q.1 with
    | none=>simp [hc] at hr
    | some u=>
     obtain ⟨k,hk⟩:=J3 h n q.1 u hc
     grind
  | own=>
   cases hz:cA deep hp (first++(xs++cap)) with
   | none=>simp [hz] at hr
   | some q=>
    simp only [hz] at hr ⊢
    cases hc:bE P L f n q.1 with
    | none=>simp [hc] at hr
    | some u=>
     obtain ⟨k,hk⟩:=J3 h n q.1 u hc
     grind
  | heap=>exact O8 h _ _ _ _ _ hr
  | dyn=>
   cases hz:aD (first++(xs++cap)) with
   | true=>
    simp only [hz,yt] at hr ⊢
    cases hc:bE P L f n (first++(xs++cap)) with
    | none=>simp [hc] at hr
    | some u=>
     obtain ⟨k,hk⟩:=J3 h n _ u hc
     grind
   | false=>
    simp only [hz,yG] at hr ⊢;exact O8 h _ _ _ _ _ hr
 ·split at hr
  ·exact VW h hm _ _ _ _ _ hr
  ·exact VW h hm _ _ _ _ _ hr
  ·simp at hr
 ·simp at hr
def ajV (h:Bg f F) (hm:Mon F) (tm:Env) (hp:Hp) (ct:Nat) (o:Op) (r:AV×Hp×Nat) (hr:a6 P L f tm hp ct o=some r):∃k,a6 P L (F k) tm hp ct o=some r:=by
 unfold a6 at hr ⊢
 split at hr
 ·exact Ww h hm _ _ _ _ _ _ hr
 ·rename_i rs fv xs
  cases hc:dj P L f hp ct .dyn (aw tm fv) (cZ tm xs) with
  | none=>simp [hc] at hr
  | some q=>
   obtain ⟨k,hk⟩:=Ww h hm _ _ _ _ _ _ hc
   grind
 all_goals exact ⟨0,by simpa only using hr⟩
def Pw (h:Bg f F) (hm:Mon F):∀(ops:List aZ) (s s':St),dl P L f ops s=some s'->∃k,dl P L (F k) ops s=some s'
 | [],s,s',hr=>⟨0,by simpa only [dl] using hr⟩
 | ⟨d,gd,o⟩::r,s,s',hr=>by
  simp only [dl] at hr ⊢
  split at hr
  ·rename_i hw
   cases ho:a6 P L f s.tm s.hp s.ct o with
   | none=>simp [ho] at hr
   | some q=>
    obtain ⟨k1,gR⟩:=ajV h hm _ _ _ _ _ ho;simp only [ho] at hr;obtain ⟨k2,jc⟩:=Pw h hm r _ _ hr;refine ⟨max k1 k2,?_⟩;rw [Xd (hm k1 _ (ux k1 k2)) _ _ _ _ _ gR];exact Kd (hm k2 _ (vZ k1 k2)) r _ _ jc
  ·rename_i hw;exact Pw h hm r _ _ hr
  ·simp at hr
def BE (h:Bg f F) (hm:Mon F):∀(c:VC) (s:St) (r:Ex×St),bq P L f c s=some r->∃k,bq P L (F k) c s=some r
 | .skip,s,r,hr=>⟨0,by simpa only [bq] using hr⟩
 | .jr ops,s,r,hr=>by
  simp only [bq] at hr ⊢
  cases ho:dl P L f ops s with
  | none=>simp [ho] at hr
  | some s'=>
   obtain ⟨k,hk⟩:=Pw h hm _ _ _ ho
   grind
 | .seq a b,s,r,hr=>by
  simp only [bq] at hr ⊢
  cases ha:bq P L f a s with
  | none=>simp [ha] at hr
  | some q=>
   obtain ⟨k1,gR⟩:=BE h hm a s q ha;obtain ⟨ex,s1⟩:=q
   cases ex with
   | normal=>
    simp only [ha] at hr;obtain ⟨k2,jc⟩:=BE h hm b s1 r hr;refine ⟨max k1 k2,?_⟩;rw [pv (hm k1 _ (ux k1 k2)) a s _ gR];exact pv (hm k2 _ (vZ k1 k2)) b s1 r jc
   | ret=>exact ⟨k1,by rw [gR];simpa only [ha] using hr⟩
   | exit id=>exact ⟨k1,by rw [gR];simpa only [ha] using hr⟩
 | .cond x a b,s,r,hr=>by
  simp only [bq] at hr ⊢
  split at hr
  ·rename_i t ht
   cases t with
   | true=>simp only [yt] at hr ⊢;exact BE h hm a s r hr
   | false=>simp only [yG] at hr ⊢;exact BE h hm b s r hr
  ·simp at hr
 | .dt id a,s,r,hr=>by
  simp only [bq] at hr ⊢
  cases ha:bq P L f a s with
  | none=>simp [ha] at hr
  | some q=>
   obtain ⟨k,hk⟩:=BE h hm a s q ha
   grind
 | .kp live,s,r,hr=>⟨0,by simpa only [bq] using hr⟩
 | .fz ts,s,r,hr=>⟨0,by simpa only [bq] using hr⟩
 | .loop live a,s,r,hr=>by
  simp only [bq] at hr ⊢
  cases ha:bq P L f a (aT live s) with
  | none=>simp [ha] at hr
  | some q=>
   obtain ⟨k1,gR⟩:=BE h hm a _ q ha;obtain ⟨ex,s1⟩:=q
   cases ex with
   | normal=>
    simp only [ha] at hr;obtain ⟨k2,jc⟩:=h _ _ _ hr;refine ⟨max k1 k2,?_⟩;rw [pv (hm k1 _ (ux k1 k2)) a _ _ gR];exact hm k2 _ (vZ k1 k2) _ _ _ jc
   | ret=>exact ⟨k1,by rw [gR];simpa only [ha] using hr⟩
   | exit id=>exact ⟨k1,by rw [gR];simpa only [ha] using hr⟩
 | .rf fv ps as_ body,s,r,hr=>by
  simp only [bq] at hr ⊢
  split at hr
  ·rename_i n first cap hx
   split at hr
   ·grind
   ·rename_i hL
    cases hc:iw P L f ((s.ct,.lp s.tm ps as_ body 0 .none)::s.hp) (s.ct+1) n (first++(.fn (.y s.ct) [] []::cap)) with
    | none=>simp [hc] at hr
    | some q=>
     obtain ⟨k,hk⟩:=O8 h _ _ _ _ _ hc
     grind
  ·simp at hr
 | .exit id,s,r,hr=>⟨0,by simpa only [bq] using hr⟩
 | .ret,s,r,hr=>⟨0,by simpa only [bq] using hr⟩
end
section
variable (P:aF) (L:Lib)
noncomputable def D:cu:=fun c s=>@dite _ (∃r n,ev P L n c s=some r) (Classical.propDecidable _) (fun h=>some h.choose) (fun _=>none)
variable {P L}
def abQ {c:VC} {s:St} {r:Ex×St} {n:Nat} (h:ev P L n c s=some r):D P L c s=some r:=by
 have hx:∃r n,ev P L n c s=some r:=⟨r,n,h⟩;unfold D;obtain ⟨m,hm⟩:=hx.choose_spec;have e1:=Qd P L (ux n m) _ _ _ h;have e2:=Qd P L (vZ n m) _ _ _ hm
 grind
def Sf {c:VC} {s:St} {r:Ex×St} (h:D P L c s=some r):∃n,ev P L n c s=some r:=by
 unfold D at h;by_cases hx:∃r n,ev P L n c s=some r
 ·grind
 ·grind
def asM (n:Nat):Le (ev P L n) (D P L):=fun _ _ _ h=>abQ h
def aaN:Bg (D P L) (ev P L):=fun _ _ _ h=>Sf h
def aoC:Mon (ev P L):=fun _ _ h=>Qd P L h
def kG (c:VC) (s:St):D P L c s=bq P L (D P L) c s:=by
 cases h:D P L c s with
 | some r=>
  obtain ⟨n,hn⟩:=Sf h
  cases n with
  | zero=>rw [GZ] at hn;cases hn
  | succ n=>rw [G0] at hn;exact (pv (asM n) c s r hn).symm
 | none=>
  cases hs:bq P L (D P L) c s with
  | none=>rfl
  | some r=>
   obtain ⟨n,hn⟩:=BE aaN aoC c s r hs;rw [<-G0] at hn;rw [abQ hn] at h;cases h
def ZA {f:Nat} {vals:List AV} {r:AV} (h:bE P L (D P L) f vals=some r):∃n,S9 P L n f vals=some r:=J3 aaN f vals r h
end
section
open Go (IntKind BinOp UnOp)
section
variable {P:aF} {L:Lib}
structure Has (P:aF) (L:Lib) (n:Nat) (F:ax):Prop where
 pure:L.pure n=none
 heap:L.heap n=none
 code:P n=some F
noncomputable def mI (P:aF) (L:Lib) (r:Option (Ex×St)) (b:VC):Option (Ex×St):=match r with | some (.normal,s)=>D P L b s | r=>r
def sW (id:Nat) (r:Option (Ex×St)):Option (Ex×St):=match r with | some (.exit j,s)=>bif yr j id then some (.normal,s) else some (.exit j,s) | r=>r
noncomputable def HZ (P:aF) (L:Lib) (live:List Nat) (a:VC) (r:Option (Ex×St)):Option (Ex×St):=match r with | some (.normal,s)=>D P L (.loop live a) s | r=>r
def norm (r:Option St):Option (Ex×St):=match r with | some s=>some (.normal,s) | none=>none
noncomputable def L7 (P:aF) (L:Lib) (v:AV) (a b:VC) (s:St):Option (Ex×St):=match v with | .bool t=>bif t then D P L a s else D P L b s | _=>none
def aoD (s:St):D P L .skip s=some (.normal,s):=by rw [kG];rfl
def aoE (id:Nat) (s:St):D P L (.exit id) s=some (.exit id,s):=by rw [kG];rfl
def arn (s:St):D P L .ret s=some (.ret,s):=by rw [kG];rfl
def Sg (live:List Nat) (s:St):D P L (.kp live) s=some (.normal,aT live s):=by rw [kG];rfl
def asN (ts:List Nat) (s:St):D P L (.fz ts) s=norm (oC ts s):=by rw [kG];rfl
def Rj (ops:List aZ) (s:St):D P L (.jr ops) s=norm (dl P L (D P L) ops s):=by rw [kG];rfl
def iz (a b:VC) (s:St):D P L (.seq a b) s=mI P L (D P L a s) b:=by
 rw [kG,kG a];simp only [bq,mI]
 cases bq P L (D P L) a s with
 | none=>rfl
 | some q=>
  obtain ⟨e,s1⟩:=q
  cases e with
  | normal=>exact (kG b s1).symm
  | ret=>rfl
  | exit id=>rfl
def aoF (x:X) (a b:VC) (s:St):D P L (.cond x a b) s=L7 P L (aw s.tm x) a b s:=by
 rw [kG];simp only [bq,L7]
 cases aw s.tm x with
 | bool t=>
  cases t with
  | true=>exact (kG a s).symm
  | false=>exact (kG b s).symm
 | _=>rfl
def Rk (id:Nat) (a:VC) (s:St):D P L (.dt id a) s=sW id (D P L a s):=by
 rw [kG,kG a];simp only [bq,sW]
 cases bq P L (D P L) a s with
 | none=>rfl
 | some q=>obtain ⟨e,s1⟩:=q;cases e<;>rfl
def LH (live:List Nat) (a:VC) (s:St):D P L (.loop live a) s=HZ P L live a (D P L a (aT live s)):=by
 rw [kG,kG a];simp only [bq,HZ]
 cases bq P L (D P L) a (aT live s) with
 | none=>rfl
 | some q=>obtain ⟨e,s1⟩:=q;cases e<;>rfl
def fe (s:St) (b:VC):mI P L (some (.normal,s)) b=D P L b s:=rfl
def amm (s:St) (b:VC):mI P L (some (.ret,s)) b=some (.ret,s):=rfl
def amn (id:Nat) (s:St) (b:VC):mI P L (some (.exit id,s)) b=some (.exit id,s):=rfl
def Y8 (live:List Nat) (a:VC) (s:St):HZ P L live a (some (.normal,s))=D P L (.loop live a) s:=rfl
def amo (live:List Nat) (a:VC) (s:St):HZ P L live a (some (.ret,s))=some (.ret,s):=rfl
def amp (live:List Nat) (a:VC) (id:Nat) (s:St):HZ P L live a (some (.exit id,s))=some (.exit id,s):=rfl
def Qh (id:Nat) (s:St):sW id (some (.normal,s))=some (.normal,s):=rfl
def amq (id:Nat) (s:St):sW id (some (.ret,s))=some (.ret,s):=rfl
def Qi (id:Nat) (s:St):sW id (some (.exit id,s))=some (.normal,s):=by simp only [sW,xz,yt]
def amr {id j:Nat} (s:St) (h:j≠id):sW id (some (.exit j,s))=some (.exit j,s):=by
 have:yr j id=false:=by
  cases hq:yr j id with
  | false=>rfl
  | true=>exact absurd (yj hq) h
 simp only [sW,this,yG]
def ZB (s:St):norm (some s)=some (.normal,s):=rfl
def aoG:norm none=none:=rfl
def ams (a b:VC) (s:St):L7 P L (.bool true) a b s=D P L a s:=rfl
def amt (a b:VC) (s:St):L7 P L (.bool false) a b s=D P L b s:=rfl
noncomputable def Rl (P:aF) (L:Lib) (d:Option Nat) (r:List aZ) (tm:Env) (base:Nat) (q:fN):Option St:=
 match q with | some (v,hp,ct)=>dl P L (D P L) r ⟨put d v tm,hp,ct,base⟩ | none=>none
noncomputable def B0 (P:aF) (L:Lib) (v:AV) (b:Bool) (d:Option Nat) (o:Op) (r:List aZ) (s:St):Option St:=
 match v with
 | .bool c=>bif c==b then dl P L (D P L) (⟨d,none,o⟩::r) s else dl P L (D P L) r ⟨put d (.au []) s.tm,s.hp,s.ct,s.base⟩
 | .au []=>dl P L (D P L) r ⟨put d (.au []) s.tm,s.hp,s.ct,s.base⟩
 | _=>none
def Y9 (s:St):dl P L (D P L) [] s=some s:=rfl
def ajW (d:Option Nat) (o:Op) (r:List aZ) (tm:Env) (hp:Hp) (ct base:Nat):
  dl P L (D P L) (⟨d,none,o⟩::r) ⟨tm,hp,ct,base⟩=Rl P L d r tm base (a6 P L (D P L) tm hp ct o):=by
 simp only [dl,Rl]
 grind
def ahO (d:Option Nat) (t:Nat) (b:Bool) (o:Op) (r:List aZ) (tm:Env) (hp:Hp) (ct base:Nat):
  dl P L (D P L) (⟨d,some (t,b),o⟩::r) ⟨tm,hp,ct,base⟩=B0 P L (aj tm t) b d o r ⟨tm,hp,ct,base⟩:=by
 simp only [dl,B0]
 cases aj tm t with
 | bool c=>
  simp only
  cases hc:(c==b) with
  | true=>simp only [yt]
  | false=>simp only [yG]
 | au vs=>cases vs<;>rfl
 | _=>rfl
def Za (d:Option Nat) (r:List aZ) (tm:Env) (base:Nat) (v:AV) (hp:Hp) (ct:Nat):Rl P L d r tm base (some (v,hp,ct))=dl P L (D P L) r ⟨put d v tm,hp,ct,base⟩:=rfl
def aro (i:Nat) (v:AV) (tm:Env):put (some i) v tm=(i,v)::tm:=rfl
def aaO (v:AV) (tm:Env):put none v tm=tm:=rfl
def ajX (d:Option Nat) (o:Op) (r:List aZ) (s:St):B0 P L (.bool true) true d o r s=dl P L (D P L) (⟨d,none,o⟩::r) s:=rfl
def ajY (d:Option Nat) (o:Op) (r:List aZ) (s:St):B0 P L (.bool false) false d o r s=dl P L (D P L) (⟨d,none,o⟩::r) s:=rfl
def ajZ (d:Option Nat) (o:Op) (r:List aZ) (tm:Env) (hp:Hp) (ct base:Nat):B0 P L (.bool true) false d o r ⟨tm,hp,ct,base⟩=dl P L (D P L) r ⟨put d (.au []) tm,hp,ct,base⟩:=rfl
def aj0 (d:Option Nat) (o:Op) (r:List aZ) (tm:Env) (hp:Hp) (ct base:Nat):B0 P L (.bool false) true d o r ⟨tm,hp,ct,base⟩=dl P L (D P L) r ⟨put d (.au []) tm,hp,ct,base⟩:=rfl
def amu (b:Bool) (d:Option Nat) (o:Op) (r:List aZ) (tm:Env) (hp:Hp) (ct base:Nat):B0 P L (.au []) b d o r ⟨tm,hp,ct,base⟩=dl P L (D P L) r ⟨put d (.au []) tm,hp,ct,base⟩:=rfl
def bW {j i:Nat} (h:j≠i):yr j i=false:=by
 cases hq:yr j i with
 | false=>rfl
 | true=>exact absurd (yj hq) h
def aoH (tm:Env) (i:Nat):aw tm (.t i)=aj tm i:=rfl
def aoI (tm:Env) (v:AV):aw tm (.c v)=v:=rfl
def ahP (tm:Env):cZ tm []=[]:=rfl
def agw (tm:Env) (x:X) (r:List X):cZ tm (x::r)=aw tm x::cZ tm r:=rfl
def aj1 (i:Nat) (v:AV) (r:Env):aj ((i,v)::r) i=v:=by simp only [aj,xz,yt]
def ahQ {j i:Nat} (v:AV) (r:Env) (h:j≠i):aj ((j,v)::r) i=aj r i:=by simp only [aj,bW h,yG]
def KS (i:Nat) (o:Obj) (r:Hp):ak ((i,o)::r) i=some o:=by simp only [ak,xz,yt]
def ahR {j i:Nat} (o:Obj) (r:Hp) (h:j≠i):ak ((j,o)::r) i=ak r i:=by simp only [ak,bW h,yG]
def Yc (i:Nat) (o u:Obj) (r:Hp):aU ((i,o)::r) i u=(i,u)::r:=by simp only [aU,xz,yt]
def ahS {j i:Nat} (o u:Obj) (r:Hp) (h:j≠i):aU ((j,o)::r) i u=(j,o)::aU r i u:=by simp only [aU,bW h,yG]
def aj2 (i:Nat):db [] i=[]:=rfl
def aj3 (i:Nat) (o:Obj) (r:Hp):db ((i,o)::r) i=db r i:=by simp only [db,xz,yt]
def ahT {j i:Nat} (o:Obj) (r:Hp) (h:j≠i):db ((j,o)::r) i=(j,o)::db r i:=by simp only [db,bW h,yG]
def rd (hp:Hp) (ct:Nat) (q:Option AV):fN:=match q with | some v=>some (v,hp,ct) | none=>none
def mk (hp:Hp) (ct:Nat) (q:Option (AV×Obj)):fN:=match q with | some (v,b)=>some (v,(ct,b)::hp,ct+1) | none=>none
def asP (hp:Hp) (ct:Nat) (v:AV):rd hp ct (some v)=some (v,hp,ct):=rfl
def asQ (hp:Hp) (ct:Nat) (v:AV) (b:Obj):mk hp ct (some (v,b))=some (v,(ct,b)::hp,ct+1):=rfl
def Ro (c a b:AV):Option AV:=match c with | .bool t=>some (bif t then a else b) | _=>none
def Jw (k:Nat->Option AV) (n:Option Nat):Option AV:=match n with | some i=>k i | none=>none
def aaP (r:Option (List AV)):Option AV:=match r with | some cs=>some (.agg cs) | none=>none
def IK (ne:Bool) (r:Option Bool):Option AV:=match r with | some b=>some (.bool (ne !=b)) | none=>none
def asR:AV->Option AV
 | .ptr id o=>some (.ptr id o)
 | .aH cs=>some (.aH cs)
 | .fn f a b=>some (.fn f a b)
 | _=>none
def IL (i:Nat):AV->Option AV | .au vs=>vs[i]? | _=>none
section
variable {f:cu} {tm:Env} {hp:Hp} {ct:Nat}
def aoJ (x:X):a6 P L f tm hp ct (.mj x)=some (aw tm x,hp,ct):=rfl
def amv (c a b:X):a6 P L f tm hp ct (.pick c a b)=rd hp ct (Ro (aw tm c) (aw tm a) (aw tm b)):=by
 rfl
def aj4 (z:List AV) (ps:List (Nat×Nat×X)):a6 P L f tm hp ct (.Aw z ps)=rd hp ct (aaP (fill tm z ps)):=by
 rfl
def arp (sz:Nat) (ag:Bool) (x:X):a6 P L f tm hp ct (.ld sz ag x)=rd hp ct (iW hp sz ag (aw tm x)):=rfl
def amw (x:X):a6 P L f tm hp ct (.H9 x)=rd hp ct (asR (aw tm x)):=by
 rfl
def aoK (op:BinOp) (x y:X):a6 P L f tm hp ct (.bin op x y)=rd hp ct (binOp op (aw tm x) (aw tm y)):=rfl
def arq (ne:Bool) (k:ND) (x y:X):a6 P L f tm hp ct (.eq ne k x y)=rd hp ct (IK ne (jE k (aw tm x) (aw tm y))):=by
 rfl
def ars (op:UnOp) (x:X):a6 P L f tm hp ct (.un op x)=rd hp ct (unOp op (aw tm x)):=rfl
def art (k:Conv) (x:X):a6 P L f tm hp ct (.cv k x)=rd hp ct (iB k (aw tm x)):=rfl
def aoL (g:Fr) (a b:List X):a6 P L f tm hp ct (.Ey g a b)=some (.fn g (cZ tm a) (cZ tm b),hp,ct):=rfl
def aoM (k:Cut) (x:X) (lo hi:Option X):a6 P L f tm hp ct (.oP k x lo hi)=rd hp ct (fg hp k (aw tm x) tm lo hi):=rfl
def aoN (k:Nat) (x:X):a6 P L f tm hp ct (.off k x)=rd hp ct (HL k (aw tm x)):=rfl
def aoO (o sz:Nat) (ag:Bool) (x:X):a6 P L f tm hp ct (.I7 o sz ag x)=rd hp ct (LR o sz ag (aw tm x)):=rfl
def aoP (sz:Nat) (x i:X):a6 P L f tm hp ct (.br sz x i)=rd hp ct (Jw (fun j=>jj sz j (aw tm x)) (dB (aw tm i))):=by
 rfl
def aoQ (n sz:Nat) (x i:X):a6 P L f tm hp ct (.Ez n sz x i)=rd hp ct (Jw (fun j=>DV n sz j (aw tm x)) (dB (aw tm i))):=by
 rfl
def aoR (x i:X):a6 P L f tm hp ct (.EA x i)=rd hp ct (Jw (fun j=>mG j (aw tm x)) (dB (aw tm i))):=by
 rfl
def aoS (n sz:Nat) (ag:Bool) (x i:X):a6 P L f tm hp ct (.A2 n sz ag x i)=rd hp ct (Jw (fun j=>HM n sz ag j (aw tm x)) (dB (aw tm i))):=by
 rfl
def aoT (i:Nat) (x:X):a6 P L f tm hp ct (.ext i x)=rd hp ct (IL i (aw tm x)):=by
 rfl
def aoU (k:Nat) (x:X):a6 P L f tm hp ct (.len k x)=rd hp ct (jk hp k (aw tm x)):=rfl
def aoV (sz:Nat) (x:X):a6 P L f tm hp ct (.box sz x)=mk hp ct (cK tm hp ct (.box sz x)):=rfl
def amx (n sz:Nat) (z:List AV) (ps:List (Nat×Nat×X)):a6 P L f tm hp ct (.mK n sz z ps)=mk hp ct (cK tm hp ct (.mK n sz z ps)):=rfl
def aoW (sz by':Nat) (z:List AV) (l c:X):a6 P L f tm hp ct (.nN sz by' z l c)=mk hp ct (cK tm hp ct (.nN sz by' z l c)):=rfl
def aoX:a6 P L f tm hp ct .zu=some (.map ct,(ct,.mp true [] [])::hp,ct+1):=rfl
def aoY (x:X):a6 P L f tm hp ct (.oR x)=mk hp ct (cK tm hp ct (.oR x)):=rfl
def aru (sz:Nat) (x v:X):a6 P L f tm hp ct (.st sz x v)=cF tm hp ct (.st sz x v):=rfl
def aoZ (sz by':Nat) (s x:X):a6 P L f tm hp ct (.cQ sz by' s x)=cF tm hp ct (.cQ sz by' s x):=rfl
def L8 (hp:Hp) (ct:Nat) (r:Option AV):fN:=match r with | some v=>some (shut v,hp,ct) | none=>none
def M5 (hp:Hp) (ct:Nat) (r:Option AV):fN:=match r with | some v=>some (own hp ct v) | none=>none
def Rr (P:aF) (L:Lib) (f:cu) (ct n:Nat) (q:Option (List AV×Hp)):fN:=match q with | some (vals,hp)=>L8 hp ct (bE P L f n vals) | none=>none
def Ru (P:aF) (L:Lib) (f:cu) (ct n:Nat) (q:Option (List AV×Hp)):fN:=match q with | some (vals,hp)=>M5 hp ct (bE P L f n vals) | none=>none
def Rv (P:aF) (L:Lib) (f:cu) (hp:Hp) (ct:Nat) (fv:AV) (xs:List AV):fN:=dj P L f hp ct .pure fv xs
def Rw (P:aF) (L:Lib) (f:cu) (hp:Hp) (ct:Nat) (fv:AV) (xs:List AV):fN:=dj P L f hp ct .own fv xs
def aj5 (g:X) (xs:List X):a6 P L f tm hp ct (.call .pure g xs)=Rv P L f hp ct (aw tm g) (cZ tm xs):=rfl
def aj6 (g:X) (xs:List X):a6 P L f tm hp ct (.call .own g xs)=Rw P L f hp ct (aw tm g) (cZ tm xs):=rfl
def aj7 (g:X) (xs:List X):a6 P L f tm hp ct (.call .heap g xs)=dj P L f hp ct .heap (aw tm g) (cZ tm xs):=rfl
def amy (n:Nat) (first cap xs:List AV):Rv P L f hp ct (.fn (.f n) first cap) xs=Rr P L f ct n (cA deep hp (first++(xs++cap))):=by
 simp only [Rv,dj,Rr,L8]
 cases cA deep hp (first++(xs++cap)) with
 | none=>rfl
 | some q=>cases bE P L f n q.1<;>rfl
def amz (n:Nat) (first cap xs:List AV):Rw P L f hp ct (.fn (.f n) first cap) xs=Ru P L f ct n (cA deep hp (first++(xs++cap))):=by
 simp only [Rw,dj,Ru,M5]
 cases cA deep hp (first++(xs++cap)) with
 | none=>rfl
 | some q=>cases bE P L f n q.1<;>rfl
def amA (n:Nat) (vals:List AV):Rr P L f ct n (some (vals,hp))=L8 hp ct (bE P L f n vals):=rfl
def amB (n:Nat) (vals:List AV):Ru P L f ct n (some (vals,hp))=M5 hp ct (bE P L f n vals):=rfl
def amC (v:AV):L8 hp ct (some v)=some (shut v,hp,ct):=rfl
def ao0 (v:AV):M5 hp ct (some v)=some (own hp ct v):=rfl
def M6 (hp:Hp) (r:Option AV):Option AV:=match r with | some v=>result hp v | none=>none
def eX (rs:List RV) (q:Option (Ex×St)):Option AV:=
 match q with
 | some (.normal,s) | some (.ret,s)=>M6 s.hp (gW s rs)
 | _=>none
def aC {n:Nat} {F:ax} (h:Has P L n F) (vals:List AV):bE P L f n vals=eX F.dQ (f F.body ⟨ew 0 vals,[],0,0⟩):=by
 simp only [bE,h.pure,h.code]
 cases hq:f F.body ⟨ew 0 vals,[],0,0⟩ with
 | none=>rfl
 | some q=>
  obtain ⟨e,s⟩:=q
  cases e with
  | normal=>rfl
  | ret=>rfl
  | exit id=>rfl
def ao1 (rs:List RV) (s:St):eX rs (some (.normal,s))=M6 s.hp (gW s rs):=rfl
def ao2 (rs:List RV) (s:St):eX rs (some (.ret,s))=M6 s.hp (gW s rs):=rfl
def ao3 (v:AV):M6 hp (some v)=result hp v:=rfl
def IM (r:RV) (s:St):gW s [r]=results1 s r:=by
 simp only [gW,kT];cases results1 s r<;>rfl
def abR (r:Option (List AV)):Option AV:=match r with | some vs=>some (.au vs) | none=>none
def asS (r q:RV) (l:List RV) (s:St):gW s (r::q::l)=abR (kT s (r::q::l)):=by
 simp only [gW,kT];cases results1 s r<;>cases results1 s q<;>cases kT s l<;>rfl
def aaQ (r:Option AV) (l:Option (List AV)):Option (List AV):=match r,l with | some v,some vs=>some (v::vs) | _,_=>none
def aj8 (s:St):kT s []=some []:=rfl
def ahU (r:RV) (l:List RV) (s:St):kT s (r::l)=aaQ (results1 s r) (kT s l):=rfl
def amD (v:AV) (vs:List AV):aaQ (some v) (some vs)=some (v::vs):=rfl
def ao4 (vs:List AV):abR (some vs)=some (.au vs):=rfl
def H0 (i:Nat) (s:St):results1 s (.t i)=some (aj s.tm i):=rfl
def arv (a:AV):ew 0 [a]=[(0,a)]:=rfl
def arw (a b:AV):ew 0 [a,b]=[(0,a),(1,b)]:=rfl
def arx (a b c:AV):ew 0 [a,b,c]=[(0,a),(1,b),(2,c)]:=rfl
def ary (a b c d:AV):ew 0 [a,b,c,d]=[(0,a),(1,b),(2,c),(3,d)]:=rfl
def arz (a b c d e:AV):ew 0 [a,b,c,d,e]=[(0,a),(1,b),(2,c),(3,d),(4,e)]:=rfl
def agx (k:y8) (n:Int):result hp (.int k n)=some (.int k n):=rfl
def afW (b:Bool):result hp (.bool b)=some (.bool b):=rfl
def agy (s:List Nat):result hp (.str s)=some (.str s):=rfl
def afX:result hp .ae=some .ae:=rfl
def agz (e:Bool) (n:Nat) (cs:List AV):result hp (.aA e n cs)=some (.aA e n cs):=rfl
def shut_int (k:y8) (n:Int):shut (.int k n)= .int k n:=rfl
def shut_bool (b:Bool):shut (.bool b)= .bool b:=rfl
def aj9 (s:List Nat):shut (.str s)= .str s:=rfl
def ahV:shut .ae= .ae:=rfl
def aka (e:Bool) (n:Nat) (cs:List AV):shut (.aA e n cs)= .aA e n cs:=rfl
def akb (e:Bool) (sz n:Nat) (cs:List AV):shut (.cr e sz n cs)= .aA e n cs:=rfl
def bc (cs:List AV):shut (.agg cs)= .agg cs:=rfl
def amE (g:Fr) (a b:List AV):shut (.fn g a b)= .fn g a b:=rfl
def pD (vs:List AV):shut (.au vs)= .au (B3 vs):=rfl
def ss:B3 []=[]:=rfl
def so (v:AV) (r:List AV):B3 (v::r)=bM v::B3 r:=rfl
def ahW (k:y8) (n:Int):bM (.int k n)= .int k n:=rfl
def agA (b:Bool):bM (.bool b)= .bool b:=rfl
def ahX (s:List Nat):bM (.str s)= .str s:=rfl
def agB:bM .ae= .ae:=rfl
def ahY (e:Bool) (n:Nat) (cs:List AV):bM (.aA e n cs)= .aA e n cs:=rfl
def ahZ (e:Bool) (sz n:Nat) (cs:List AV):bM (.cr e sz n cs)= .aA e n cs:=rfl
def su (cs:List AV):bM (.agg cs)= .agg cs:=rfl
def Sh (n:Nat) (r:List AV) (q:Option (AV×Hp)):Option (List AV×Hp):=match q with | some (v,hp)=>(match cA n hp r with | some (vs,js)=>some (v::vs,js) | none=>none) | none=>none
def abS (v:AV) (q:Option (List AV×Hp)):Option (List AV×Hp):=match q with | some (vs,hp)=>some (v::vs,hp) | none=>none
def akc (n:Nat):cA (n+1) hp []=some ([],hp):=rfl
def Xm (n:Nat) (v:AV) (r:List AV):cA (n+1) hp (v::r)=Sh n r (freeze n hp v):=by
 simp only [cA,Sh];cases freeze n hp v<;>rfl
def ZC (n:Nat) (r:List AV) (v:AV):Sh n r (some (v,hp))=abS v (cA n hp r):=by
 rfl
def ao5 (v:AV) (vs:List AV):abS v (some (vs,hp))=some (v::vs,hp):=rfl
def amF (n:Nat) (k:y8) (a:Int):freeze (n+1) hp (.int k a)=some (.int k a,hp):=rfl
def akd (n:Nat) (b:Bool):freeze (n+1) hp (.bool b)=some (.bool b,hp):=rfl
def amG (n:Nat) (s:List Nat):freeze (n+1) hp (.str s)=some (.str s,hp):=rfl
def ake (n:Nat):freeze (n+1) hp .ae=some (.ae,hp):=rfl
def amH (n:Nat) (e:Bool) (k:Nat) (cs:List AV):freeze (n+1) hp (.aA e k cs)=some (.aA e k cs,hp):=rfl
def akf (n:Nat) (cs:List AV):freeze (n+1) hp (.aH cs)=some (.aH cs,hp):=rfl
end
end
section
variable {hp:Hp}
def ao6 (a b:AV):Ro (.bool true) a b=some a:=rfl
def ao7 (a b:AV):Ro (.bool false) a b=some b:=rfl
def arA (k:Nat->Option AV) (n:Nat):Jw k (some n)=k n:=rfl
def agC (k:y8) (n:Nat):dB (.int k (n:Int))=some n:=rfl
def ao8 (k:y8):dB (.int k 0)=some 0:=rfl
def ao9 (k:y8):dB (.int k 1)=some 1:=rfl
def apa (k:y8):dB (.int k 2)=some 2:=rfl
def apb (k:y8):dB (.int k 3)=some 3:=rfl
def apc (k:y8):dB (.int k 4)=some 4:=rfl
def ape (k:y8):dB (.int k 5)=some 5:=rfl
def apf (k:y8):dB (.int k 6)=some 6:=rfl
def apg (k:y8):dB (.int k 7)=some 7:=rfl
def aph (k:y8):dB (.int k 8)=some 8:=rfl
def api (k:y8):dB (.int k 9)=some 9:=rfl
def amI (cs:List AV):aaP (some cs)=some (.agg cs):=rfl
def Zb (k:y8) (a b:Int):binOp .add (.int k a) (.int k b)=some (.int k (k.wrap (a+b))):=by simp [binOp,lh]
def Ll (k:y8) (a b:Int):binOp .sub (.int k a) (.int k b)=some (.int k (k.wrap (a-b))):=by simp [binOp,lh]
def Zc (k:y8) (a b:Int):binOp .mul (.int k a) (.int k b)=some (.int k (k.wrap (a*b))):=by simp [binOp,lh]
def eS (k:y8) (a b:Int) (h:b≠0):binOp .quo (.int k a) (.int k b)=some (.int k (k.wrap (a.tdiv b))):=by simp [binOp,lh,h]
def fD (k:y8) (a b:Int) (h:b≠0):binOp .rem (.int k a) (.int k b)=some (.int k (a.tmod b)):=by simp [binOp,lh,h]
def amJ (k:y8) (a b:Int):binOp .eql (.int k a) (.int k b)=some (.bool (decide (a=b))):=by
 simp [binOp,lh,intCmp,BEq.beq]
def amK (k:y8) (a b:Int):binOp .neq (.int k a) (.int k b)=some (.bool (!decide (a=b))):=by
 simp [binOp,lh,intCmp,bne,BEq.beq]
def amL (k:y8) (a b:Int):binOp .lss (.int k a) (.int k b)=some (.bool (decide (a<b))):=by simp [binOp,lh,intCmp]
def amM (k:y8) (a b:Int):binOp .leq (.int k a) (.int k b)=some (.bool (decide (a<=b))):=by simp [binOp,lh,intCmp]
def amN (k:y8) (a b:Int):binOp .gtr (.int k a) (.int k b)=some (.bool (decide (b<a))):=by simp [binOp,lh,intCmp]
def amO (k:y8) (a b:Int):binOp .geq (.int k a) (.int k b)=some (.bool (decide (b<=a))):=by simp [binOp,lh,intCmp]
def apj (k:y8) (a:Int):unOp .neg (.int k a)=some (.int k (k.wrap (0-a))):=rfl
def apk (b:Bool):unOp .not (.bool b)=some (.bool !b):=rfl
def akg:jk hp 1 .ae=some (.int .i64 0):=rfl
def amP (e:Bool) (n:Nat) (cs:List AV):jk hp 1 (.aA e n cs)=some (.int .i64 n):=rfl
def amQ (id o n:Nat):jk hp 1 (.ay id o n)=some (.int .i64 n):=rfl
def amR (s:List Nat):jk hp 0 (.str s)=some (.int .i64 s.length):=rfl
def Qj {sz i n:Nat} (e:Bool) (cs:List AV) (h:i<n):jj sz i (.aA e n cs)=some (.aH (cs.drop (i*sz))):=by
 have hb:yJ i n=true:=yv h;simp only [jj]
 grind
def cT {sz i n:Nat} (id o:Nat) (h:i<n):jj sz i (.ay id o n)=some (.ptr id (o+i*sz)):=by
 have hb:yJ i n=true:=yv h;simp only [jj]
 grind
def KT (v:AV) (cs:List AV):iW hp 1 false (.aH (v::cs))=some v:=rfl
def Og (sz:Nat) (ag:Bool) (o:Nat) (q:Option Obj):Option AV:=match q with | some (.cells _ _ _ _ cs)=>fV sz ag (cs.drop o) | _=>none
def apl (sz:Nat) (ag:Bool) (id o:Nat):iW hp sz ag (.ptr id o)=Og sz ag o (ak hp id):=by
 rfl
def arB (sz:Nat) (ag:Bool) (o:Nat) (rw pu ex:Bool) (z:Nat) (cs:List AV):Og sz ag o (some (.cells rw pu ex z cs))=fV sz ag (cs.drop o):=rfl
def arC (sz:Nat) (v:AV) (cs:List AV):fV sz false (v::cs)=some v:=rfl
def asT (a:AV) (l:List AV):IL 0 (.au (a::l))=some a:=rfl
def ext1 (a b:AV) (l:List AV):IL 1 (.au (a::b::l))=some b:=rfl
def asU (a b c:AV) (l:List AV):IL 2 (.au (a::b::c::l))=some c:=rfl
def asV (a b c d:AV) (l:List AV):IL 3 (.au (a::b::c::d::l))=some d:=rfl
end
def sX:Env->Bool
 | []=>true
 | (_,v)::r=>aW v&&sX r
mutual
def aE:∀{v:AV},aW v=true->refs v=[]
 | .int _ _,_ | .bool _,_ | .aK _ _,_ | .str _,_ | .kD,_ | .aH _,_ | .ae,_ | .aA _ _ _,_ | .iA,_ | .jC,_ | .jo _ _,_ | .undef,_=>rfl
 | .ptr _ _,h | .ay _ _ _,h | .map _,h | .it _,h | .cr _ _ _ _,h=>by simp [aW] at h
 | .fn (.y _) _ _,h=>by simp [aW] at h
 | .fn (.f _) first cap,h=>by
  simp only [aW,yg] at h;simp only [refs,Gx h.1,Gx h.2,xX]
 | .agg cs,h=>by simp only [aW] at h;simp only [refs,Gx h]
 | .au cs,h=>by simp only [aW] at h;simp only [refs,Gx h]
def Gx:∀{vs:List AV},aD vs=true->eG vs=[]
 | [],_=>rfl
 | v::r,h=>by
  simp only [aD,yg] at h;simp only [eG,aE h.1,Gx h.2,xX]
end
mutual
def aJ (f:Nat->Option Nat):∀{v:AV},aW v=true->bS f v=v
 | .int _ _,_ | .bool _,_ | .aK _ _,_ | .str _,_ | .kD,_ | .aH _,_ | .ae,_ | .aA _ _ _,_ | .iA,_ | .jC,_ | .jo _ _,_ | .undef,_=>rfl
 | .ptr _ _,h | .ay _ _ _,h | .map _,h | .it _,h | .cr _ _ _ _,h=>by simp [aW] at h
 | .fn (.y _) _ _,h=>by simp [aW] at h
 | .fn (.f _) first cap,h=>by
  simp only [aW,yg] at h;simp only [bS,GD f h.1,GD f h.2]
 | .agg cs,h=>by simp only [aW] at h;simp only [bS,GD f h]
 | .au cs,h=>by simp only [aW] at h;simp only [bS,GD f h]
def GD (f:Nat->Option Nat):∀{vs:List AV},aD vs=true->fG f vs=vs
 | [],_=>rfl
 | v::r,h=>by
  simp only [aD,yg] at h;simp only [fG,aJ f h.1,GD f h.2]
end
def Wx:∀{tm:Env},sX tm=true->ff tm=[]
 | [],_=>rfl
 | (i,v)::r,h=>by
  simp only [sX,yg] at h;simp only [ff,aE h.1,Wx h.2,xX]
def Xn (f:Nat->Option Nat):∀{tm:Env},sX tm=true->kE f tm=tm
 | [],_=>rfl
 | (i,v)::r,h=>by
  simp only [sX,yg] at h;simp only [kE,aJ f h.1,Xn f h.2]
def OO {live:List Nat} {tm:Env} {ct:Nat} (h:sX (cG tm live)=true):aT live ⟨tm,[],ct,0⟩=⟨cG tm live,[],0,0⟩:=by
 simp only [aT,Wx h,dS,xX];simp only [reach,ki,jP,Xn _ h,yK,yW]
def afY {tm:Env} {ct:Nat}:aT [] ⟨tm,[],ct,0⟩=⟨[],[],0,0⟩:=rfl
def KU {P:aF} {L:Lib} {live:List Nat} {a:VC} (I:Nat->St->Prop) (Q:Ex->St->Prop)
  (step:∀k s,I k s->(∃s' k',D P L a (aT live s)=some (.normal,s')/\k'<k/\I k' s')\/(∃ex s',D P L a (aT live s)=some (ex,s')/\ex≠.normal/\Q ex s')):
  ∀k s,I k s->∃ex s',D P L (.loop live a) s=some (ex,s')/\Q ex s':=by
 intro k
 induction k using vC with
 | _ k ih=>
  intro s hI;rw [LH];rcases step k s hI with ⟨s',k',h1,h2,h3⟩ | ⟨ex,s',h1,h2,h3⟩
  ·rw [h1,Y8];exact ih k' h2 s' h3
  ·rw [h1]
   cases ex with
   | normal=>exact absurd rfl h2
   | ret=>exact ⟨.ret,s',rfl,h3⟩
   | exit id=>exact ⟨.exit id,s',rfl,h3⟩
def jZ {P:aF} {L:Lib} {live:List Nat} {a:VC} (I:Nat->St->Prop) (Q:Ex->St->Prop)
  (step:∀k s,I k s->(∃s' k',D P L a s=some (.normal,s')/\k'<k/\I k' (aT live s'))\/(∃ex s',D P L a s=some (ex,s')/\ex≠.normal/\Q ex s')):
  ∀k s,I k (aT live s)->∃ex s',D P L (.loop live a) s=some (ex,s')/\Q ex s':=
 KU (fun k s=>I k (aT live s)) Q (fun k s h=>step k _ h)
def dU {P:aF} {L:Lib} {live:List Nat} {a:VC} {I:Nat->St->Prop} {Q:Ex->St->Prop}
  (step:∀k s,I k s->(∃s' k',D P L a s=some (.normal,s')/\k'<k/\I k' (aT live s'))\/(∃ex s',D P L a s=some (ex,s')/\ex≠.normal/\Q ex s')):
  ∀k s s0,aT live s=s0->I k s0->∃ex s',D P L (.loop live a) s=some (ex,s')/\Q ex s':=fun k s s0 h hi=>jZ I Q step k s (h▸hi)
def b9 {P:aF} {L:Lib} {c:VC} {s:St} {q:Option (Ex×St)} {I:St->Prop} {Q:Ex->St->Prop} (hq:D P L c s=q) (key:∀s,I s->∃ex s',D P L c s=some (ex,s')/\Q ex s') (hI:I s):
  ∃ex s',q=some (ex,s')/\Q ex s':=by
 rw [<-hq];exact key s hI
def akh (tm:Env):cG tm []=[]:=rfl
def ah0 (tm:Env) (i:Nat) (r:List Nat):cG tm (i::r)=(i,aj tm i)::cG tm r:=rfl
def ah1:sX []=true:=rfl
def agD (i:Nat) (v:AV) (r:Env):sX ((i,v)::r)=(aW v&&sX r):=rfl
def DP (k:y8) (n:Int):aW (.int k n)=true:=(rfl)
def amS (b:Bool):aW (.bool b)=true:=(rfl)
def apm (s:List Nat):aW (.str s)=true:=(rfl)
def amT:aW .ae=true:=(rfl)
def apo (e:Bool) (n:Nat) (cs:List AV):aW (.aA e n cs)=true:=(rfl)
def amU (cs:List AV):aW (.aH cs)=true:=(rfl)
def aki:aW .undef=true:=(rfl)
attribute [go_sem] deep afY akh ah0 ah1 agD DP amS apm amT apo amU aki vR wF
attribute [go_sem] aoD aoE arn Sg asN Rj iz aoF Rk fe amm amn Y8 amo amp Qh amq Qi amr ZB aoG ams amt
 Y9 ajW ahO Za aro aaO ajX ajY ajZ aj0 amu aoH aoI ahP agw aj1 ahQ KS ahR Yc ahS aj2 aj3 ahT
 asP asQ aoJ amv aj4 arp amw aoK arq ars art aoL aoM aoN aoO aoP aoQ aoR aoS aoT aoU aoV amx aoW aoX aoY aru aoZ aj5 aj6 aj7
 amy amz amA amB amC ao0 ao1 ao2 ao3 IM asS aj8 ahU amD ao4 H0 arv arw arx ary arz
 agx afW agy afX agz shut_int shut_bool aj9 ahV aka akb bc amE pD ss so ahW agA ahX agB ahY ahZ su
 akc Xm ZC ao5 amF akd amG ake amH akf
 ao6 ao7 arA agC ao8 ao9 apa apb apc ape apf apg aph api amI Zb Ll Zc amJ amK amL amM amN amO apj apk akg amP amQ amR KT apl arB arC asT ext1 asU asV
 xY xX yX yx yE Bool.not_true Bool.not_false ycq yaw
end
abbrev aa (n:Int):AV:= .int .i64 n
def cP (v:AV) (cs:List AV):Prop:=(v= .ae/\cs=[])\/∃e,v= .aA e cs.length cs
section
variable {v:AV} {cs:List AV} {hp:Hp}
def cP.len (h:cP v cs) {hp:Hp}:jk hp 1 v=some (.int .i64 (cs.length:Nat)):=by
 rcases h with ⟨rfl,rfl⟩ | ⟨e,rfl⟩<;>rfl
def cP.pu (h:cP v cs):aW v=true:=by
 rcases h with ⟨rfl,rfl⟩ | ⟨e,rfl⟩<;>rfl
def cP.ai (h:cP v cs) (n:Nat) {hp:Hp}:freeze (n+1) hp v=some (v,hp):=by
 rcases h with ⟨rfl,rfl⟩ | ⟨e,rfl⟩<;>rfl
def cP.shut (h:cP v cs):shut v=v:=by
 rcases h with ⟨rfl,rfl⟩ | ⟨e,rfl⟩<;>rfl
def cP.bM (h:cP v cs):bM v=v:=by
 rcases h with ⟨rfl,rfl⟩ | ⟨e,rfl⟩<;>rfl
def cP.dQ (h:cP v cs) {hp:Hp}:result hp v=some v:=by
 rcases h with ⟨rfl,rfl⟩ | ⟨e,rfl⟩<;>rfl
def cP.br (h:cP v cs) {i:Nat} (hi:i<cs.length):jj 1 i v=some (.aH (cs[i]::cs.drop (i+1))):=by
 rcases h with ⟨rfl,rfl⟩ | ⟨e,rfl⟩
 ·grind
 ·rw [Qj e _ hi,yk,yP hi]
def cP.one (h:cP v cs):bn v=true:=by
 rcases h with ⟨rfl,rfl⟩ | ⟨e,rfl⟩<;>rfl
def cP.cells (h:cP v cs):cellsOf v=[v]:=by
 rcases h with ⟨rfl,rfl⟩ | ⟨e,rfl⟩<;>rfl
def Dy (e:Bool) (cs:List AV):cP (.aA e cs.length cs) cs:= .inr ⟨e,rfl⟩
def qG:cP .ae []:= .inl ⟨rfl,rfl⟩
end
def a8 (v:AV) (l:List Int):Prop:=cP v (l.map aa)
section
variable {v:AV} {l:List Int}
def a8.len (h:a8 v l) {hp:Hp}:jk hp 1 v=some (.int .i64 (l.length:Nat)):=by
 have:=cP.len (hp:=hp) h
 grind
def a8.pu (h:a8 v l):aW v=true:=cP.pu h
def a8.ai (h:a8 v l) (n:Nat) {hp:Hp}:freeze (n+1) hp v=some (v,hp):=cP.ai h n
def a8.shut (h:a8 v l):VE.shut v=v:=cP.shut h
def a8.bM (h:a8 v l):VE.bM v=v:=cP.bM h
def a8.dQ (h:a8 v l) {hp:Hp}:result hp v=some v:=cP.dQ h
def a8.one (h:a8 v l):bn v=true:=cP.one h
def a8.cells (h:a8 v l):cellsOf v=[v]:=cP.cells h
def a8.br (h:a8 v l) {i:Nat} (hi:i<l.length):jj 1 i v=some (.aH (.int .i64 l[i]::(l.map aa).drop (i+1))):=by
 have:=cP.br h (i:=i) (by simpa using hi)
 grind
def iQ (e:Bool) (l:List Int):a8 (.aA e l.length (l.map aa)) l:=by
 have:=Dy e (l.map aa)
 rwa [xo] at this
end
def nF {α β:Type} (p:α->β->Prop):List α->List β->Prop
 | [],[]=>True
 | a::r,b::s=>p a b/\nF p r s
 | _,_=>False
section
variable {α β:Type} {p:α->β->Prop}
def nF.len:∀{l:List α} {m:List β},nF p l m->l.length=m.length
 | [],[],_=>rfl
 | _::_,_::_,h=>by rw [yz,yz,h.2.len]
def nF.get:∀{l:List α} {m:List β} (_:nF p l m) {i:Nat} (h1:i<l.length) (h2:i<m.length),p l[i] m[i]
 | a::r,b::s,h,0,_,_=>h.1
 | a::r,b::s,h,i+1,h1,h2=>by
  exact h.2.get (by simpa using h1) (by simpa using h2)
end
def fJ (v:AV) (s:List (List Int)):Prop:=∃rows,cP v rows/\nF a8 rows s
section
variable {v:AV} {s:List (List Int)}
def fJ.len (h:fJ v s) {hp:Hp}:jk hp 1 v=some (.int .i64 (s.length:Nat)):=by
 obtain ⟨rows,h1,h2⟩:=h;rw [<-h2.len];exact h1.len
def fJ.pu (h:fJ v s):aW v=true:=by obtain ⟨rows,h1,h2⟩:=h;exact h1.pu
def fJ.ai (h:fJ v s) (n:Nat) {hp:Hp}:freeze (n+1) hp v=some (v,hp):=by obtain ⟨rows,h1,h2⟩:=h;exact h1.ai n
def fJ.one (h:fJ v s):bn v=true:=by obtain ⟨rows,h1,h2⟩:=h;exact h1.one
def fJ.cells (h:fJ v s):cellsOf v=[v]:=by obtain ⟨rows,h1,h2⟩:=h;exact h1.cells
def fJ.br (h:fJ v s) {i:Nat} (hi:i<s.length):∃r rest,a8 r s[i]/\jj 1 i v=some (.aH (r::rest)):=by
 obtain ⟨rows,h1,h2⟩:=h;have cI:i<rows.length:=by rw [h2.len];exact hi
 exact ⟨_,_,h2.get cI hi,h1.br cI⟩
def akj:fJ .ae []:=⟨[],qG,trivial⟩
end
def wrap64 {n:Int} (h1: -9223372036854775808<=n) (h2:n<9223372036854775808):IntKind.wrap .i64 n=n:=by
 simp only [IntKind.wrap,IntKind.bits,IntKind.signed,wF]
 grind
def wrapN {n:Nat} (h:n<9223372036854775808):IntKind.wrap .i64 (n:Int)=n:=wrap64 (by omega) (by omega)
section
variable {P:aF} {L:Lib}
abbrev ah (P:aF) (L:Lib) (f:Nat) (vals:List AV) (r:AV):Prop:=bE P L (D P L) f vals=some r
def s30 (h:Has P L 30 CR) (n lo hi:Int):ah P L 30 [aa n,aa lo,aa hi] (aa (if n<lo\/hi<n then 3 else 0)):=by
 unfold ah;rw [aC h];by_cases h1:n<lo
 ·simp only [go_sem,ya,CR,h1,true_or,xA]
 ·by_cases h2:hi<n
  ·simp only [go_sem,ya,CR,h1,h2,or_true,xA]
  ·simp only [go_sem,ya,CR,h1,h2,or_self,xk]
def Oh (h:Has P L 31 EN) (b:Bool) (n:Int):ah P L 31 [.bool b,aa n] (aa (if b=true then n else 0)):=by
 unfold ah;rw [aC h]
 cases b with
 | true=>simp only [go_sem,ya,EN,xA]
 | false=>simp only [go_sem,ya,EN];rfl
def E0 (h:Has P L 33 EO) {v:AV} {l:List Int} (hv:a8 v l) (hl:l.length<=1000000):ah P L 33 [v] (aa (cp l)):=by
 unfold ah;rw [aC h];simp only [go_sem,ya,EO,hv.len];have key:=KU (P:=P) (L:=L) (live:=[5,6,7]) (a:=L2)
  (I:=fun k s=>∃tm ct i,s=⟨tm,[],ct,0⟩/\aj tm 5=v/\aj tm 6=aa l.length/\aj tm 7=aa (i:Nat)/\i+k=l.length/\cp (l.drop i)=cp l)
  (Q:=fun ex s=>∃tm,s=⟨tm,[],0,0⟩/\((ex= .ret/\aj tm 2=aa (cp l))\/(ex= .exit 0/\cp l=0))) ?_ l.length
 ·generalize hq:D P L (.loop [5,6,7] L2) _=q;obtain ⟨ex,s,rfl,tm,rfl,h2⟩:=b9 hq key ⟨_,_,0,rfl,rfl,rfl,rfl,by omega,rfl⟩;rcases h2 with ⟨rfl,h2⟩ | ⟨rfl,h2⟩
  ·simp only [go_sem,h2]
  ·rw [h2];simp only [go_sem]
 ·rintro k s ⟨tm,ct,i,rfl,h5,h6,h7,hk,hf⟩;rw [OO (by simp only [go_sem,h5,h6,h7,hv.pu])];simp only [go_sem,ya,h5,h6,h7,L2];by_cases hi:i<l.length
  ·have cI:(i:Int)<l.length:=by omega
   rw [VV hi] at hf;by_cases hz:l[i]=0
   ·left
    simp only [go_sem,ya,cI,hv.br hi,hz];refine ⟨_,k-1,rfl,by omega,_,_,i+1,rfl,?_⟩;rw [wrap64 (by omega) (by omega)];rw [yN hz] at hf;simp only [go_sem,ya];exact ⟨trivial,trivial,rfl,by omega,hf⟩
   ·right
    simp only [go_sem,ya,cI,hv.br hi,hz];rw [yB hz] at hf;refine ⟨_,_,rfl,by simp,_,rfl,.inl ⟨rfl,?_⟩⟩;simp only [go_sem,hf]
  ·right
   have cI:¬(i:Int)<l.length:=by omega
   simp only [go_sem,cI];refine ⟨_,_,rfl,by simp,_,rfl,.inr ⟨rfl,?_⟩⟩;rw [<-hf,y9 (by omega)];rfl
def abT (h:Has P L 134 Ed) {n m:Int} (hm:0<m) (fW:m<=1000000):ah P L 134 [aa n,aa m] (aa (n%m)):=by
 unfold ah;rw [aC h];have h1:m≠0:=by omega
 have h2:n.tmod m<m:=ybo n hm;have h3: -m<n.tmod m:=by
  have h:=ybp n hm;omega
 simp only [go_sem,ya,Ed,fD _ _ _ h1,wrap64 (n:=n.tmod m+m) (by omega) (by omega),aml hm]
end
section
variable {P:aF} {L:Lib} {f:cu} {tm:Env} {hp:Hp} {ct:Nat}
def ah2 (k:y8) (n:Int):cellsOf (.int k n)=[.int k n]:=(rfl)
def agE (b:Bool):cellsOf (.bool b)=[.bool b]:=(rfl)
def ah3 (s:List Nat):cellsOf (.str s)=[.str s]:=(rfl)
def agF:cellsOf .ae=[.ae]:=(rfl)
def ah4 (e:Bool) (n:Nat) (cs:List AV):cellsOf (.aA e n cs)=[.aA e n cs]:=(rfl)
def ah5 (id o n:Nat):cellsOf (.ay id o n)=[.ay id o n]:=(rfl)
def ah6 (id o:Nat):cellsOf (.ptr id o)=[.ptr id o]:=(rfl)
def akk (g:Fr) (a b:List AV):cellsOf (.fn g a b)=[.fn g a b]:=(rfl)
def ah7 (cs:List AV):cellsOf (.agg cs)=cs:=(rfl)
def G2 (k:y8) (n:Int):bn (.int k n)=true:=(rfl)
def akl (b:Bool):bn (.bool b)=true:=(rfl)
def amV (s:List Nat):bn (.str s)=true:=(rfl)
def akm:bn .ae=true:=(rfl)
def amW (e:Bool) (n:Nat) (cs:List AV):bn (.aA e n cs)=true:=(rfl)
def amX (id o n:Nat):bn (.ay id o n)=true:=(rfl)
def amY (id o:Nat):bn (.ptr id o)=true:=(rfl)
def apq (g:Fr) (a b:List AV):bn (.fn g a b)=true:=(rfl)
def akn:bL []=true:=(rfl)
def Xo (v:AV) (r:List AV):bL (v::r)=(bn v&&bL r):=(rfl)
def ah8:aD []=true:=(rfl)
def Wy (v:AV) (r:List AV):aD (v::r)=(aW v&&aD r):=(rfl)
def apr (id o:Nat):aW (.ptr id o)=false:=(rfl)
def ZD (id o n:Nat):aW (.ay id o n)=false:=(rfl)
def arD (g:Nat) (a b:List AV):aW (.fn (.f g) a b)=(aD a&&aD b):=(rfl)
def asW (l:Nat) (a b:List AV):aW (.fn (.y l) a b)=false:=(rfl)
def aps (cs:List AV):aW (.agg cs)=aD cs:=(rfl)
def apt (cs:List AV):aW (.au cs)=aD cs:=(rfl)
def AP (ct sz:Nat) (cs:List AV):Option (AV×Obj):=bif yr cs.length sz&&bL cs then some (.ptr ct 0,.cells true (aD cs) true sz cs) else none
def apu (sz:Nat) (x:X):cK tm hp ct (.box sz x)=AP ct sz (cellsOf (aw tm x)):=rfl
def aaR {v:AV} (h:bn v=true):AP ct 1 [v]=some (.ptr ct 0,.cells true (aW v&&true) true 1 [v]):=by
 simp [AP,bL,aD,h]
def aM {cs:List AV} {n:Nat} (hn:cs.length=n) (h:bL cs=true):AP ct n cs=some (.ptr ct 0,.cells true (aD cs) true n cs):=by
 subst hn;simp [AP,h]
def ij (hp:Hp) (ct id o sz:Nat) (new:List AV) (q:Option Obj):fN:=
 match q with
 | some (.cells true pu ex z cs)=>bif yr new.length sz&&yF (o+sz) cs.length&&bL new then some (.au [],aU hp id (.cells true (pu&&aD new) ex z (over o new cs)),ct) else none
 | _=>none
def stV (hp:Hp) (ct sz:Nat) (p:AV) (new:List AV):fN:=match p with | .ptr id o=>ij hp ct id o sz new (ak hp id) | _=>none
def Yd (sz:Nat) (x v:X):cF tm hp ct (.st sz x v)=stV hp ct sz (aw tm x) (cellsOf (aw tm v)):=rfl
def aaS (sz id o:Nat) (new:List AV):stV hp ct sz (.ptr id o) new=ij hp ct id o sz new (ak hp id):=rfl
def asX {v u:AV} {id z:Nat} {pu ex:Bool} (h:bn v=true):ij hp ct id 0 1 [v] (some (.cells true pu ex z [u]))=some (.au [],aU hp id (.cells true (pu&&(aW v&&true)) ex z [v]),ct):=by
 simp [ij,bL,aD,h,over];rfl
def sY {new cs:List AV} {id o sz z:Nat} {pu ex:Bool} (h1:new.length=sz) (h2:o+sz<=cs.length) (h:bL new=true):
  ij hp ct id o sz new (some (.cells true pu ex z cs))=some (.au [],aU hp id (.cells true (pu&&aD new) ex z (over o new cs)),ct):=by
 subst h1;simp [ij,h,yv h2]
def L9 (ct n sz:Nat) (q:Option (List AV)):Option (AV×Obj):=match q with | some cs=>bif yr cs.length (n*sz) then some (.ay ct 0 n,.cells true (aD cs) true sz cs) else none | none=>none
def amZ (n sz:Nat) (z:List AV) (ps:List (Nat×Nat×X)):cK tm hp ct (.mK n sz z ps)=L9 ct n sz (fill tm z ps):=by
 simp only [cK,L9];cases fill tm z ps<;>rfl
def am0 {n sz:Nat} {cs:List AV} (h:cs.length=n*sz):L9 ct n sz (some cs)=some (.ay ct 0 n,.cells true (aD cs) true sz cs):=by
 simp [L9,h]
def jm (tm:Env) (cs:List AV) (o sz:Nat) (new:List AV) (r:List (Nat×Nat×X)):Option (List AV):=
 bif yr new.length sz&&yF (o+sz) cs.length&&bL new then fill tm (over o new cs) r else none
def ako (cs:List AV):fill tm cs []=some cs:=rfl
def ah9 (cs:List AV) (o sz:Nat) (x:X) (r:List (Nat×Nat×X)):fill tm cs ((o,sz,x)::r)=jm tm cs o sz (cellsOf (aw tm x)) r:=rfl
def Zd {cs:List AV} {o:Nat} {v:AV} {r:List (Nat×Nat×X)} (h1:o+1<=cs.length) (h2:bn v=true):jm tm cs o 1 [v] r=fill tm (over o [v] cs) r:=by
 simp [jm,bL,h2,yv h1]
def ni {cs new:List AV} {o sz:Nat} {r:List (Nat×Nat×X)} (h0:new.length=sz) (h1:o+sz<=cs.length) (h2:bL new=true):jm tm cs o sz new r=fill tm (over o new cs) r:=by
 subst h0;simp [jm,h2,yv h1]
def arE (v u:AV) (r:List AV):over 0 [v] (u::r)=v::r:=rfl
def arF (v a u:AV) (r:List AV):over 1 [v] (a::u::r)=a::v::r:=rfl
def arG (v a b u:AV) (r:List AV):over 2 [v] (a::b::u::r)=a::b::v::r:=rfl
def arH (v a b c u:AV) (r:List AV):over 3 [v] (a::b::c::u::r)=a::b::c::v::r:=rfl
def arI (v a b c d u:AV) (r:List AV):over 4 [v] (a::b::c::d::u::r)=a::b::c::d::v::r:=rfl
def arJ (v a b c d e u:AV) (r:List AV):over 5 [v] (a::b::c::d::e::u::r)=a::b::c::d::e::v::r:=rfl
def zj (ct sz by':Nat) (zero:List AV) (l c:Option Nat):Option (AV×Obj):=
 match l,c with
 | some l,some c=>bif yF l c&&(yF c room&&(yF (c*by') room&&(yr zero.length sz&&bL zero))) then some (.ay ct 0 l,.cells true (aD zero) (yr l c) sz (yy l zero).flatten) else none
 | _,_=>none
def apv (sz by':Nat) (z:List AV) (l c:X):cK tm hp ct (.nN sz by' z l c)=zj ct sz by' z (dB (aw tm l)) (dB (aw tm c)):=by
 simp only [cK,zj]
 grind
def DQ {sz by' l:Nat} {z:List AV} (h1:l<=1099511627776) (h2:l*by'<=1099511627776) (h3:z.length=sz) (h4:bL z=true):
  zj ct sz by' z (some l) (some l)=some (.ay ct 0 l,.cells true (aD z) true sz (yy l z).flatten):=by
 subst h3;simp [zj,h4,yv (show l<=room from h1),yv (show l*by'<=room from h2),yv (yA l)]
def Cq (hp:Hp) (ct sz by':Nat) (s:AV) (src:Option (Nat×List AV)):fN:=
 match src with
 | none=>none
 | some (m,new)=>
  match s with
  | .ae=>
   bif yr m 0 then some (.ae,hp,ct)
   else bif yF m room&&(yF (m*by') room&&yJ 0 sz) then some (.ay ct 0 m,(ct,.cells true (aD new) false sz new)::hp,ct+1) else none
  | .aA true n cs=>
   bif yr m 0 then some (.aA true n cs,hp,ct)
   else bif yF (n+m) room&&(yF ((n+m)*by') room&&(yr cs.length (n*sz)&&yJ 0 sz)) then some (.ay ct 0 (n+m),(ct,.cells true (aD cs&&aD new) false sz (cs++new))::hp,ct+1) else none
  | .ay id o n=>
   match ak hp id with
   | some (.cells true pu _ z cs)=>
    bif yr z sz&&(yF (n+m) room&&(yF ((n+m)*by') room&&(yF (o+n*sz) cs.length&&(yJ 0 sz&&bL new)))) then
     some (.ay ct 0 (n+m),(ct,.cells true (pu&&aD new) false sz (slice o (n*sz) cs++new))::db hp id,ct+1)
    else none
   | _=>none
  | _=>none
def aia (sz by':Nat) (s x:X):cF tm hp ct (.cQ sz by' s x)=Cq hp ct sz by' (aw tm s) (jh hp sz (aw tm x)):=by
 simp only [cF,Cq]
 cases jh hp sz (aw tm x) with
 | none=>rfl
 | some q=>obtain ⟨m,new⟩:=q;cases aw tm s<;>rfl
def agG (sz id o n:Nat):jh hp sz (.ay id o n)=lP hp sz (.ay id o n):=rfl
def agH (sz:Nat) (e:Bool) (n:Nat) (cs:List AV):jh hp sz (.aA e n cs)=lP hp sz (.aA e n cs):=rfl
def afZ (sz:Nat):jh hp sz .ae=some (0,[]):=rfl
def Ue (o n sz:Nat) (q:Option Obj):Option (Nat×List AV):=match q with | some (.cells _ _ _ _ cs)=>bif yF (o+n*sz) cs.length then some (n,slice o (n*sz) cs) else none | _=>none
def af0 (sz id o n:Nat):lP hp sz (.ay id o n)=Ue o n sz (ak hp id):=rfl
def arK (rw pu ex:Bool) (z:Nat) (v:AV):Ue 0 1 1 (some (.cells rw pu ex z [v]))=some (1,[v]):=rfl
def kW {sz by':Nat} {new:List AV} {m:Nat} (hm:0<m) (h1:m<=1099511627776) (h2:m*by'<=1099511627776) (hs:0<sz):
  Cq hp ct sz by' .ae (some (m,new))=some (.ay ct 0 m,(ct,.cells true (aD new) false sz new)::hp,ct+1):=by
 have e1:yr m 0=false:=bW (by omega);have e2:yJ 0 sz=true:=yv hs;simp [Cq,e1,e2,yv (show m<=room from h1),yv (show m*by'<=room from h2)]
def kh {sz by' id n m:Nat} {pu ex:Bool} {cs new:List AV} (hg:ak hp id=some (.cells true pu ex sz cs)) (hl:cs.length=n*sz) (h1:n+m<=1099511627776) (h2:(n+m)*by'<=1099511627776) (hs:0<sz) (ho:bL new=true):
  Cq hp ct sz by' (.ay id 0 n) (some (m,new))=some (.ay ct 0 (n+m),(ct,.cells true (pu&&aD new) false sz (cs++new))::db hp id,ct+1):=by
 have e2:yJ 0 sz=true:=yv hs;simp only [Cq,hg];simp [e2,ho,yv (show n+m<=room from h1),yv (show (n+m)*by'<=room from h2),<-hl,slice,yv (yA cs.length)]
def abU (n:Nat) (g:Nat) (cap:List AV) (q:Option (List AV×Hp)):Option (AV×Hp):=match q with | some (first,hp)=>(match cA n hp cap with | some (Mn,js)=>some (.fn (.f g) first Mn,js) | none=>none) | none=>none
def abV (g:Nat) (first:List AV) (q:Option (List AV×Hp)):Option (AV×Hp):=match q with | some (cap,hp)=>some (.fn (.f g) first cap,hp) | none=>none
def apw (n g:Nat) (first cap:List AV):freeze (n+1) hp (.fn (.f g) first cap)=abU n g cap (cA n hp first):=rfl
def apx (n g:Nat) (first cap:List AV):abU n g cap (some (first,hp))=abV g first (cA n hp cap):=rfl
def apy (g:Nat) (first cap:List AV):abV g first (some (cap,hp))=some (.fn (.f g) first cap,hp):=rfl
def abW (o:Nat) (q:Option (Bool×Nat×List AV×Hp)):Option (AV×Hp):=match q with | some (_,_,cs,hp)=>some (.aH (cs.drop o),hp) | none=>none
def am1 (n id o:Nat):freeze (n+1) hp (.ptr id o)=abW o (qB n hp id):=rfl
def apz (o:Nat) (ex:Bool) (sz:Nat) (cs:List AV):abW o (some (ex,sz,cs,hp))=some (.aH (cs.drop o),hp):=rfl
def lE (o k:Nat) (q:Option (Bool×Nat×List AV×Hp)):Option (AV×Hp):=
 match q with
 | some (ex,sz,cs,hp)=>bif yF (o+k*sz) cs.length then some (.aA (ex&&yJ 0 sz&&yr (o+k*sz) cs.length) k (slice o (k*sz) cs),hp) else none
 | none=>none
def Qk (n id o k:Nat):freeze (n+1) hp (.ay id o k)=lE o k (qB n hp id):=rfl
def nf {sz k:Nat} {cs:List AV} (ex:Bool) (hl:cs.length=k*sz) (hs:0<sz):lE 0 k (some (ex,sz,cs,hp))=some (.aA ex k cs,hp):=by
 have e2:yJ 0 sz=true:=yv hs;simp [lE,<-hl,e2,slice,yv (yA cs.length)]
def IN (n id:Nat) (hp:Hp) (q:Option Obj):Option (Bool×Nat×List AV×Hp):=
 match q with
 | some (.cells rw pu ex sz cs)=>
  bif pu then some (ex,sz,cs,bif rw then aU hp id (.cells false true ex sz cs) else hp)
  else match cA n hp cs with
   | some (du,an)=>some (ex,sz,du,aU an id (.cells false false ex sz cs))
   | none=>none
 | _=>none
def Ql (n id:Nat):qB (n+1) hp id=IN n id hp (ak hp id):=rfl
def ZE (n id:Nat) (ex:Bool) (sz:Nat) (cs:List AV):IN n id hp (some (.cells true true ex sz cs))=some (ex,sz,cs,aU hp id (.cells false true ex sz cs)):=rfl
def ZF (n id:Nat) (ex:Bool) (sz:Nat) (cs:List AV):IN n id hp (some (.cells false true ex sz cs))=some (ex,sz,cs,hp):=rfl
def bA (n:Nat) (cs:List AV) (h:cA n hp cs=some (cs,hp)):freeze (n+1) hp (.agg cs)=some (.agg cs,hp):=by
 simp only [freeze,h]
def Wz {id n sz:Nat} {ex:Bool} {cs:List AV} (hg:ak hp id=some (.cells true true ex sz cs)) (hl:cs.length=n*sz) (hs:0<sz):result hp (.ay id 0 n)=some (.cr ex sz n cs):=by
 have e2:yJ 0 sz=true:=yv hs;simp only [result,qM,hg,yf,<-hl,yv (yA cs.length),yt,e2,vR,slice,yo,xK]
 simp
def afi (b:Bool):result hp (.au [.ae,.bool b])=some (.au [.ae,.bool b]):=rfl
def afj (k:y8) (b:Int):result hp (.au [.ae,.int k b])=some (.au [.ae,.int k b]):=rfl
def afk (e:Bool) (n:Nat) (cs:List AV) (k:y8) (b:Int):result hp (.au [.aA e n cs,.int k b])=some (.au [.aA e n cs,.int k b]):=rfl
def aib (s:St):oC [] s=some s:=rfl
def Uf (t:Nat) (r:List Nat) (tm:Env) (ct base:Nat) (q:Option (AV×Hp)):Option St:=match q with | some (v,hp)=>oC r ⟨(t,v)::tm,hp,ct,base⟩ | none=>none
def agI (t:Nat) (r:List Nat) (tm:Env) (hp:Hp) (ct base:Nat):oC (t::r) ⟨tm,hp,ct,base⟩=Uf t r tm ct base (freeze deep hp (aj tm t)):=by
 simp only [oC,Uf];cases freeze deep hp (aj tm t)<;>rfl
def arL (t:Nat) (r:List Nat) (tm:Env) (ct base:Nat) (v:AV) (hp:Hp):Uf t r tm ct base (some (v,hp))=oC r ⟨(t,v)::tm,hp,ct,base⟩:=rfl
end
attribute [go_sem] afi afj afk ah2 agE ah3 agF ah4 ah5 ah6 akk ah7 G2 akl amV akm amW amX amY apq akn Xo
 ah8 Wy apr ZD arD asW aps apt apu aaR Yd aaS asX amZ ako ah9 arE arF arG arH arI arJ apv
 aia agG agH afZ af0 arK apw apx apy am1 apz Qk nf am0 Zd Ql ZE ZF aib agI arL
 Bool.and_false Bool.false_and yo eq_self
def Ye:∀hp:Hp,dS 0 hp=[]
 | []=>rfl
 | (id,o)::r=>by
  have:yJ id 0=false:=rfl
  simp only [dS,this,yG,Ye r]
def ZG (f:Nat->Option Nat):∀hp:Hp,jP 0 f hp=[]
 | []=>rfl
 | (id,o)::r=>by
  have:yJ id 0=false:=rfl
  simp only [jP,this,yG,ZG f r]
def pos (seen:List Nat):Nat->Option Nat:=fun id=>lZ id seen 0
def Si (tm:Env) (hp:Hp) (seen:List Nat):St:=⟨kE (pos seen) tm,ki hp (pos seen) seen 0 [],seen.length,0⟩
def rX (hp:Hp):Nat->List Nat->List Nat->List Nat:=reach hp 0
def az (live:List Nat) (tm:Env) (hp:Hp) (ct:Nat):aT live ⟨tm,hp,ct,0⟩=Si (cG tm live) hp (rX hp 100000 (ff (cG tm live)) []):=by
 have e:∀seen,jx 0 seen=pos seen:=fun seen=>by
  funext id
  have:yJ id 0=false:=rfl
  simp only [jx,this,yG,pos]
 simp only [aT,Ye,xX,e,ZG,Si,rX,yf]
def aic:ff []=[]:=rfl
def agJ (i:Nat) (v:AV) (r:Env):ff ((i,v)::r)=refs v++ff r:=rfl
def akp (k:y8) (n:Int):refs (.int k n)=[]:=rfl
def aid (b:Bool):refs (.bool b)=[]:=rfl
def akq (s:List Nat):refs (.str s)=[]:=rfl
def aie:refs .ae=[]:=rfl
def akr (e:Bool) (n:Nat) (cs:List AV):refs (.aA e n cs)=[]:=rfl
def aif (cs:List AV):refs (.aH cs)=[]:=rfl
def agK:refs .undef=[]:=rfl
def aks (id o:Nat):refs (.ptr id o)=[id]:=rfl
def akt (id o n:Nat):refs (.ay id o n)=[id]:=rfl
def am2 (g:Nat) (a b:List AV):refs (.fn (.f g) a b)=eG a++eG b:=rfl
def apA (l:Nat) (a b:List AV):refs (.fn (.y l) a b)=[l]:=rfl
def aku (cs:List AV):refs (.agg cs)=eG cs:=rfl
def aih:eG []=[]:=rfl
def agL (v:AV) (r:List AV):eG (v::r)=refs v++eG r:=rfl
def M7 (hp:Hp) (n id:Nat) (iV seen:List Nat) (q:Option Obj):List Nat:=match q with | some o=>rX hp n (ji o++iV) (seen++[id]) | none=>rX hp n iV seen
def M8 (hp:Hp) (n id:Nat) (iV seen:List Nat) (b:Bool):List Nat:=bif b then rX hp n iV seen else M7 hp n id iV seen (ak hp id)
def am3 (hp:Hp) (n:Nat) (seen:List Nat):rX hp (n+1) [] seen=seen:=rfl
def akv (hp:Hp) (n id:Nat) (iV seen:List Nat):rX hp (n+1) (id::iV) seen=M8 hp n id iV seen (lz id seen):=by
 have:yJ id 0=false:=rfl
 simp only [rX,reach,this,uA,M8,M7]
 cases lz id seen with
 | true=>rfl
 | false=>simp only [yG];cases ak hp id<;>rfl
def apB (hp:Hp) (n id:Nat) (iV seen:List Nat):M8 hp n id iV seen true=rX hp n iV seen:=rfl
def apC (hp:Hp) (n id:Nat) (iV seen:List Nat):M8 hp n id iV seen false=M7 hp n id iV seen (ak hp id):=rfl
def apD (hp:Hp) (n id:Nat) (iV seen:List Nat) (o:Obj):M7 hp n id iV seen (some o)=rX hp n (ji o++iV) (seen++[id]):=rfl
def akw (i:Nat):lz i []=false:=rfl
def akx (i:Nat) (r:List Nat):lz i (i::r)=true:=by simp only [lz,xz,yt]
def aii {i j:Nat} (r:List Nat) (h:j≠i):lz i (j::r)=lz i r:=by simp only [lz,bW h,yG]
def am4 (rw ex:Bool) (sz:Nat) (cs:List AV):ji (.cells rw true ex sz cs)=[]:=rfl
def am5 (rw ex:Bool) (sz:Nat) (cs:List AV):ji (.cells rw false ex sz cs)=eG cs:=rfl
def aky (tm:Env) (ps:List Nat) (a b:VC) (st:Nat) (pe:q9):ji (.lp tm ps a b st pe)=ff tm:=rfl
def am6 (i:Nat) (r:List Nat) (k:Nat):lZ i (i::r) k=some k:=by simp only [lZ,xz,yt]
def akz {i j:Nat} (r:List Nat) (k:Nat) (h:j≠i):lZ i (j::r) k=lZ i r (k+1):=by simp only [lZ,bW h,yG]
def aaT (o:Nat) (q:Option Nat):AV:=match q with | some j=> .ptr j o | none=> .undef
def aaU (o n:Nat) (q:Option Nat):AV:=match q with | some j=> .ay j o n | none=> .undef
def akA (s:List Nat):kE (pos s) []=[]:=rfl
def aij (s:List Nat) (i:Nat) (v:AV) (r:Env):kE (pos s) ((i,v)::r)=(i,bS (pos s) v)::kE (pos s) r:=rfl
def am7 (s:List Nat) (k:y8) (n:Int):bS (pos s) (.int k n)= .int k n:=rfl
def akB (s:List Nat) (b:Bool):bS (pos s) (.bool b)= .bool b:=rfl
def am8 (s:List Nat) (t:List Nat):bS (pos s) (.str t)= .str t:=rfl
def akC (s:List Nat):bS (pos s) .ae= .ae:=rfl
def am9 (s:List Nat) (e:Bool) (n:Nat) (cs:List AV):bS (pos s) (.aA e n cs)= .aA e n cs:=rfl
def akD (s:List Nat) (cs:List AV):bS (pos s) (.aH cs)= .aH cs:=rfl
def aik (s:List Nat):bS (pos s) .undef= .undef:=rfl
def ana (s:List Nat) (id o:Nat):bS (pos s) (.ptr id o)=aaT o (lZ id s 0):=rfl
def anb (s:List Nat) (id o n:Nat):bS (pos s) (.ay id o n)=aaU o n (lZ id s 0):=rfl
def apE (s:List Nat) (g:Nat) (a b:List AV):bS (pos s) (.fn (.f g) a b)= .fn (.f g) (fG (pos s) a) (fG (pos s) b):=rfl
def anc (s:List Nat) (cs:List AV):bS (pos s) (.agg cs)= .agg (fG (pos s) cs):=rfl
def akE (s:List Nat):fG (pos s) []=[]:=rfl
def ail (s:List Nat) (v:AV) (r:List AV):fG (pos s) (v::r)=bS (pos s) v::fG (pos s) r:=rfl
def ane (o j:Nat):aaT o (some j)= .ptr j o:=rfl
def anf (o n j:Nat):aaU o n (some j)= .ay j o n:=rfl
def Sj (hp:Hp) (f:Nat->Option Nat) (r:List Nat) (k:Nat) (acc:Hp) (q:Option Obj):Hp:=match q with | some o=>ki hp f r (k+1) ((k,lm f o)::acc) | none=>ki hp f r (k+1) acc
def aim (hp:Hp) (s:List Nat) (k:Nat) (acc:Hp):ki hp (pos s) [] k acc=acc:=rfl
def agM (hp:Hp) (s:List Nat) (id:Nat) (r:List Nat) (k:Nat) (acc:Hp):ki hp (pos s) (id::r) k acc=Sj hp (pos s) r k acc (ak hp id):=by
 simp only [ki,Sj];cases ak hp id<;>rfl
def apF (hp:Hp) (s r:List Nat) (k:Nat) (acc:Hp) (o:Obj):Sj hp (pos s) r k acc (some o)=ki hp (pos s) r (k+1) ((k,lm (pos s) o)::acc):=rfl
def apG (f:Nat->Option Nat) (rw ex:Bool) (sz:Nat) (cs:List AV):lm f (.cells rw true ex sz cs)= .cells rw true ex sz cs:=rfl
def apH (f:Nat->Option Nat) (rw ex:Bool) (sz:Nat) (cs:List AV):lm f (.cells rw false ex sz cs)= .cells rw false ex sz (fG f cs):=rfl
def ang (f:Nat->Option Nat) (tm:Env) (ps:List Nat) (a b:VC) (st:Nat) (pe:q9):lm f (.lp tm ps a b st pe)= .lp (kE f tm) ps a b st pe:=rfl
def anh (tm:Env) (hp:Hp) (seen:List Nat):Si tm hp seen=⟨kE (pos seen) tm,ki hp (pos seen) seen 0 [],seen.length,0⟩:=rfl
attribute [go_sem] aic agJ akp aid akq aie akr aif agK aks akt am2 apA aku aih agL am3 akv apB apC apD
 akw akx aii am4 am5 aky am6 akz akA aij am7 akB am8 akC am9 akD aik ana anb apE anc akE ail ane anf
 aim agM apF apG apH ang anh yz yK
section
variable {P:aF} {L:Lib}
def akF {α:Type} {p:α->Bool} {l:List α} {i:Nat} (h:i<l.length):(l.drop i).any p=(p l[i]||(l.drop (i+1)).any p):=by
 rw [yP h,ycj]
def asY (h:Has P L 132 Ih) {v:AV} {l:List Int} (hv:a8 v l) (hl:l.length<=1000000) {g:Nat} {cap:List AV} {p:Int->Bool} (hc:aD cap=true)
  (hz:∀x hp,cA deep hp (aa x::cap)=some (aa x::cap,hp)) (hg:∀x,ah P L g (aa x::cap) (.bool (p x))):∃n:Int,ah P L 132 [v,.fn (.f g) [] cap] (aa n)/\decide (0<=n)=l.any p:=by
 have hpf:aW (.fn (.f g) [] cap)=true:=by simp [aW,aD,hc]
 simp only [ah,deep] at hg hz;have key:=KU (P:=P) (L:=L) (live:=[0,1,7,8]) (a:=LC)
  (I:=fun k s=>∃tm ct i,s=⟨tm,[],ct,0⟩/\aj tm 0=v/\aj tm 1= .fn (.f g) [] cap/\aj tm 7=aa l.length/\aj tm 8=aa (i:Nat)/\i+k=l.length/\(l.drop i).any p=l.any p)
  (Q:=fun ex s=>∃tm,s=⟨tm,[],0,0⟩/\((∃n:Int,ex= .ret/\aj tm 4=aa n/\0<=n/\l.any p=true)\/(ex= .exit 0/\l.any p=false))) ?_ l.length
 ·simp only [ah];rw [aC h];simp only [go_sem,ya,Ih,hv.len];generalize hq:D P L (.loop [0,1,7,8] LC) _=q;obtain ⟨ex,s,rfl,tm,rfl,h2⟩:=b9 hq key ⟨_,_,0,rfl,rfl,rfl,rfl,rfl,by omega,rfl⟩;rcases h2 with ⟨n,rfl,h2,h3,h4⟩ | ⟨rfl,h2⟩
  ·exact ⟨n,by simp only [go_sem,h2],by rw [h4];simpa using h3⟩
  ·exact ⟨-1,by simp only [go_sem],by rw [h2];decide⟩
 ·rintro k s ⟨tm,ct,i,rfl,h0,h1,h7,h8,hk,hf⟩;rw [OO (by simp only [go_sem,h0,h1,h7,h8,hv.pu,hpf])];simp only [go_sem,ya,h0,h1,h7,h8,LC];by_cases hi:i<l.length
  ·have cI:(i:Int)<l.length:=by omega
   rw [akF hi] at hf
   cases fo:p l[i] with
   | false=>
    left
    simp only [go_sem,ya,cI,hv.br hi,hz,hg,fo];refine ⟨_,k-1,rfl,by omega,_,_,i+1,rfl,?_⟩;rw [wrap64 (by omega) (by omega)];rw [fo,uA] at hf;simp only [go_sem,ya];exact ⟨trivial,trivial,trivial,rfl,by omega,hf⟩
   | true=>
    right
    simp only [go_sem,ya,cI,hv.br hi,hz,hg,fo];refine ⟨_,_,rfl,by simp,_,rfl,.inl ⟨i,rfl,?_,by omega,?_⟩⟩
    ·simp only [go_sem]
    ·rw [<-hf,fo,ybD]
  ·right
   have cI:¬(i:Int)<l.length:=by omega
   simp only [go_sem,cI];refine ⟨_,_,rfl,by simp,_,rfl,.inr ⟨rfl,?_⟩⟩;rw [<-hf,y9 (by omega)];rfl
def s95 (h:Has P L 95 N4) (Sk:Has P L 132 Ih) {v:AV} {l:List Int} (hv:a8 v l) (hl:l.length<=1000000) {g:Nat} {cap:List AV} {p:Int->Bool} (hc:aD cap=true)
  (hz:∀x hp,cA deep hp (aa x::cap)=some (aa x::cap,hp)) (hg:∀x,ah P L g (aa x::cap) (.bool (p x)))
  (iI:∀n hp,freeze (n+500) hp (.fn (.f g) [] cap)=some (.fn (.f g) [] cap,hp)):ah P L 95 [v,.fn (.f g) [] cap] (.bool (l.any p)):=by
 obtain ⟨n,h1,h2⟩:=asY Sk hv hl hc hz hg;unfold ah at h1 ⊢;rw [aC h];have asZ:∀hp,freeze 998 hp (.fn (.f g) [] cap)=some (.fn (.f g) [] cap,hp):=fun hp=>iI 498 hp
 simp only [go_sem,ya,N4,hv.ai,asZ,h1,h2]
def s94 (h:Has P L 94 EQ) {m:Int} (hm:0<=m) (fW:m<=1000000) (x:Int):ah P L 94 [aa x,.aH [aa m]] (.bool (decide (x< -m\/m<x))):=by
 unfold ah;rw [aC h];by_cases h1:x< -m
 ·simp only [go_sem,ya,EQ,KT,wrap64 (n:=0-m) (by omega) (by omega),show x<0-m by omega,h1,true_or]
 ·by_cases h2:m<x
  ·simp only [go_sem,ya,EQ,KT,wrap64 (n:=0-m) (by omega) (by omega),show ¬x<0-m by omega,h1,h2,or_true]
  ·simp only [go_sem,ya,EQ,KT,wrap64 (n:=0-m) (by omega) (by omega),show ¬x<0-m by omega,h1,h2,or_self]
def akG (m:Int) (l:List Int):l.any (fun x=>decide (x< -m\/m<x))=fk (-m) m l:=by
 induction l with
 | nil=>rfl
 | cons a r ih=>
  simp only [ycj,fk,ih]
  grind
structure Sq (P:aF) (L:Lib):Prop where
 Ug:Has P L 32 TL
 CW:Has P L 31 EN
 qd:Has P L 33 EO
 h94:Has P L 94 EQ
 h95:Has P L 95 N4
 Sk:Has P L 132 Ih
 h4:Has P L 4 c4
 h9:Has P L 9 c9
def s32 (h:Sq P L) {v:AV} {s:List (List Int)} (hv:fJ v s) (hl:s.length<=1000000) (hr:∀i (hi:i<s.length),s[i].length<=1000000) {m:Int} (hm:0<=m) (fW:m<=1000000):
  ah P L 32 [v,aa m] (aa (jl s.length (-m) m s)):=by
 have key:=jZ (P:=P) (L:=L) (live:=[0,3,9,10,11]) (a:=LZ)
  (I:=fun k st=>∃(i:Nat) (rw:Bool),st=⟨[(0,v),(3,.ptr 0 0),(9,v),(10,aa s.length),(11,aa i)],[(0,.cells rw true true 1 [aa m])],1,0⟩/\i+k=s.length/\jl s.length (-m) m (s.drop i)=jl s.length (-m) m s)
  (Q:=fun ex st=>∃tm hp ct,st=⟨tm,hp,ct,0⟩/\((ex= .ret/\aj tm 4=aa (jl s.length (-m) m s))\/(ex= .exit 0/\jl s.length (-m) m s=0))) ?_
 ·unfold ah;rw [aC h.Ug];simp only [go_sem,ya,yd,TL,hv.len];generalize hq:D P L (.loop [0,3,9,10,11] LZ) _=q;obtain ⟨ex,st,rfl,tm,hp,ct,rfl,h2⟩:=b9 hq (key s.length) ⟨0,true,by simp only [go_sem,ya,yd,az,aE hv.pu,aJ _ hv.pu]<;>rfl,by omega,rfl⟩
  rcases h2 with ⟨rfl,h2⟩ | ⟨rfl,h2⟩
  ·simp only [go_sem,h2]
  ·rw [h2];simp only [go_sem,az]
 ·rintro k st ⟨i,rw,rfl,hk,hf⟩;simp only [go_sem,ya,LZ];by_cases hi:i<s.length
  ·have cI:(i:Int)<s.length:=by omega
   rw [Wu hi] at hf;obtain ⟨r,rest,cg,fp⟩:=hv.br hi;have hc:ah P L 95 [r,.fn (.f 94) [] [.aH [aa m]]] (.bool (fk (-m) m s[i])):=by
    rw [<-akG];exact s95 h.h95 h.Sk cg (hr i hi) rfl (fun x hp=>by simp only [go_sem]) (fun x=>s94 h.h94 hm fW x) (fun n hp=>by simp only [go_sem])
   have fZ:∀a b:Int,ah P L 33 [.aA true 2 [.int .i64 a,.int .i64 b]] (aa (cp [a,b])):=fun a b=>E0 h.qd (iQ true [a,b]) (by simp)
   unfold ah at hc fZ;by_cases h1:s[i].length=s.length
   ·have A9:(s[i].length:Int)=s.length:=by omega
    simp only [h1,ycq,tk,xk] at hf
    cases h2:fk (-m) m s[i] with
    | false=>
     left
     simp only [h2,yD,xk] at hf;cases rw<;>simp only [go_sem,ya,yd,yI,yp,yk,cI,fp,hc,A9,h2,Oh h.CW,fZ,cg.len,cg.ai,hv.len,yD,xk,cp,xA]
     all_goals
      refine ⟨_,k-1,rfl,by omega,i+1,false,?_,by omega,hf⟩;rw [wrap64 (by omega) (by omega)];simp only [go_sem,ya,yd,az,aE hv.pu,aJ _ hv.pu];rfl
    | true=>
     right
     simp only [h2,xA] at hf;cases rw<;>simp only [go_sem,ya,yd,yI,yp,yk,cI,fp,hc,A9,h2,Oh h.CW,fZ,cg.len,cg.ai,hv.len,yD,xk,cp,xA,vM]
     all_goals
      refine ⟨_,_,rfl,by simp,_,_,_,rfl,.inl ⟨rfl,?_⟩⟩;simp only [go_sem,hf]
   ·right
    have A9:¬(s[i].length:Int)=s.length:=by omega
    simp only [h1,ycq,yaw,xA] at hf;cases h2:fk (-m) m s[i]<;>cases rw<;>simp only [go_sem,ya,yd,yI,yp,yk,cI,fp,hc,A9,h2,Oh h.CW,fZ,cg.len,cg.ai,hv.len,yD,xk,cp,xA,vM]
    all_goals
     refine ⟨_,_,rfl,by simp,_,_,_,rfl,.inl ⟨rfl,?_⟩⟩;simp only [go_sem,hf]
  ·right
   have cI:¬(i:Int)<s.length:=by omega
   simp only [go_sem,cI];refine ⟨_,_,rfl,by simp,_,_,_,rfl,.inr ⟨rfl,?_⟩⟩;rw [<-hf,y9 (by omega)];rfl
def s4 (h:Sq P L) {v:AV} {s:List (List Int)} (hv:fJ v s) (hl:s.length<=1000000) (hr:∀i (hi:i<s.length),s[i].length<=1000000):ah P L 4 [v] (aa (iq s)):=by
 have hc:=s32 h hv hl hr (m:=1000) (by decide) (by decide);have hf:∀a b c:Int,ah P L 33 [.aA true 3 [.int .i64 a,.int .i64 b,.int .i64 c]] (aa (cp [a,b,c])):=fun a b c=>E0 h.qd (iQ true [a,b,c]) (by simp)
 unfold ah at hc hf ⊢;rw [aC h.h4];simp only [go_sem,ya,yd,yI,yp,yk,c4,hv.len,hv.ai,hc,Oh h.CW,hf];unfold iq;by_cases h1:s.length=0
 ·simp [h1,cp]
 ·by_cases h2:16<s.length
  ·simp [h1,h2,cp,show (16:Int)<s.length by omega]
  ·simp only [h1,h2,cp,show ¬(16:Int)<s.length by omega,show ¬(s.length:Int)=0 by omega,yE,yD,xk,xA]
   split<;>simp_all
def s3 (h:Has P L 3 c3) (CX:Has P L 30 CR) {v:AV} {s:List (List Int)} (hv:fJ v s):ah P L 3 [v] (aa (iq s)):=by
 have inner:∀{i:Nat} (hi:i<s.length),s[i].length=s.length->s.length<=16->∀k st,(∃j:Nat,aT [0,3,4] st=⟨[(0,v),(3,aa i),(4,aa j)],[],0,0⟩/\j+k=s.length/\fk (-1000) 1000 (s[i].drop j)=fk (-1000) 1000 s[i])->
   ∃ex st',D P L (.loop [0,3,4] MA) st=some (ex,st')/\∃tm ct,st'=⟨tm,[],ct,0⟩/\((ex= .ret/\aj tm 2=aa 3/\fk (-1000) 1000 s[i]=true)\/(ex= .exit 2/\aj tm 0=v/\aj tm 3=aa i/\fk (-1000) 1000 s[i]=false)):=by
  intro i hi hr hl;intro dq sq;generalize bt:aT [0,3,4] sq=s0;revert bt s0 sq dq;apply dU;rintro k st ⟨j,rfl,hk,hf⟩;simp only [go_sem,ya,MA,hv.len];obtain ⟨r,rest,cg,fp⟩:=hv.br hi;by_cases hj:j<s.length
  ·have kJ:(j:Int)<s.length:=by omega
   have Uh:j<s[i].length:=by omega
   rw [ahK Uh] at hf;by_cases h1:s[i][j]< -1000\/1000<s[i][j]
   ·right
    rw [yN h1] at hf;simp only [go_sem,ya,kJ,fp,cg.br Uh,s30 CX,h1,xA,vM];refine ⟨_,_,rfl,by simp,_,_,rfl,.inl ⟨rfl,?_,hf.symm⟩⟩;simp only [go_sem]
   ·left
    rw [yB h1] at hf;simp only [go_sem,ya,kJ,fp,cg.br Uh,s30 CX,h1,xk];refine ⟨_,k-1,rfl,by omega,j+1,?_,by omega,hf⟩;rw [wrap64 (by omega) (by omega)];simp only [go_sem,ya,az,aE hv.pu,aJ _ hv.pu]<;>rfl
  ·right
   simp only [go_sem,show ¬(j:Int)<s.length by omega];refine ⟨_,_,rfl,by simp,_,_,rfl,.inr ⟨rfl,?_,?_,?_⟩⟩
   ·simp only [go_sem,ya]
   ·simp only [go_sem,ya]
   ·rw [<-hf,y9 (by omega)];rfl
 have key:=jZ (P:=P) (L:=L) (live:=[0,3]) (a:=MB)
  (I:=fun k st=>∃i:Nat,st=⟨[(0,v),(3,aa i)],[],0,0⟩/\i+k=s.length/\s.length<=16/\jl s.length (-1000) 1000 (s.drop i)=jl s.length (-1000) 1000 s)
  (Q:=fun ex st=>∃tm ct,st=⟨tm,[],ct,0⟩/\((ex= .ret/\aj tm 2=aa (jl s.length (-1000) 1000 s))\/(ex= .exit 0/\jl s.length (-1000) 1000 s=0))) ?_
 ·unfold ah;rw [aC h];unfold iq;by_cases h1:s.length=0
  ·simp only [go_sem,ya,c3,hv.len,show (s.length:Int)=0 by omega];rw [yN h1]
  ·rw [yB h1];by_cases h2:16<s.length
   ·simp only [go_sem,ya,c3,hv.len,show ¬(s.length:Int)=0 by omega,show (16:Int)<s.length by omega];rw [yN h2]
   ·simp only [go_sem,ya,c3,hv.len,show ¬(s.length:Int)=0 by omega,show ¬(16:Int)<s.length by omega];rw [yB h2];generalize hq:D P L (.loop [0,3] MB) _=q;obtain ⟨ex,st,rfl,tm,ct,rfl,h2⟩:=b9 hq (key s.length) ⟨0,by simp only [go_sem,ya,az,aE hv.pu,aJ _ hv.pu]<;>rfl,by omega,by omega,rfl⟩
    rcases h2 with ⟨rfl,h2⟩ | ⟨rfl,h2⟩
    ·simp only [go_sem,h2]
    ·rw [h2];simp only [go_sem]
 ·rintro k st ⟨i,rfl,hk,hl,hf⟩;simp only [go_sem,ya,MB,hv.len];by_cases hi:i<s.length
  ·have cI:(i:Int)<s.length:=by omega
   rw [Wu hi] at hf;obtain ⟨r,rest,cg,fp⟩:=hv.br hi;by_cases h1:s[i].length=s.length
   ·simp only [h1,ycq,tk,xk] at hf;simp only [go_sem,ya,cI,fp,cg.len,hv.len,show (s[i].length:Int)=s.length by omega];generalize hq:D P L (.loop [0,3,4] MA) _=q;obtain ⟨ex,st,rfl,tm,ct,rfl,h2⟩:=b9 hq (inner hi h1 hl s.length) ⟨0,by simp only [go_sem,ya,az,aE hv.pu,aJ _ hv.pu]<;>rfl,by omega,rfl⟩
    rcases h2 with ⟨rfl,h2,h3⟩ | ⟨rfl,h2,h3,h4⟩
    ·right
     rw [yN h3] at hf;exact ⟨_,_,rfl,by simp,_,_,rfl,.inl ⟨rfl,by rw [h2,<-hf]⟩⟩
    ·left
     rw [yB (by simp [h4])] at hf;simp only [go_sem,ya,az,h2,h3,aE hv.pu,aJ _ hv.pu];refine ⟨_,k-1,rfl,by omega,i+1,?_,by omega,hl,hf⟩;rw [wrap64 (by omega) (by omega)];simp only [go_sem,ya,az,aE hv.pu,aJ _ hv.pu]<;>rfl
   ·right
    simp only [h1,ycq,yaw,xA] at hf;simp only [go_sem,ya,cI,fp,cg.len,hv.len,show ¬(s[i].length:Int)=s.length by omega];refine ⟨_,_,rfl,by simp,_,_,rfl,.inl ⟨rfl,?_⟩⟩;simp only [go_sem,<-hf]
  ·right
   simp only [go_sem,show ¬(i:Int)<s.length by omega];refine ⟨_,_,rfl,by simp,_,_,rfl,.inr ⟨rfl,?_⟩⟩;rw [<-hf,y9 (by omega)];rfl
end
def kv (k:List (List Int)) (j i:Nat):Int:=(k.getD j []).getD i 0
def WA {lo hi:Int} {l:List Int} (h:fk lo hi l=false) (h0:lo<=0/\0<=hi) (i:Nat):lo<=l.getD i 0/\l.getD i 0<=hi:=by
 by_cases hl:i<l.length
 ·have:=PV h i hl
  grind
 ·grind
def Yf {n:Nat} {lo hi:Int} {k:List (List Int)} (h:jl n lo hi k=0) (h0:lo<=0/\0<=hi) (j i:Nat):lo<=kv k j i/\kv k j i<=hi:=by
 unfold kv;by_cases hl:j<k.length
 ·have:=Dl h j hl
  simp only [xx,xW hl,uz];exact WA this.2 h0 i
 ·grind
def af1 {n:Nat} {lo hi:Int} {s:List (List Int)} (h:jl n lo hi s=0) (h0:lo<=0/\0<=hi) (c r:Int):lo<=eh s c r/\eh s c r<=hi:=by
 unfold eh;by_cases hl:(r%s.length).toNat<s.length
 ·have:=Dl h _ hl
  simp only [xx,xW hl,uz];exact WA this.2 h0 _
 ·grind
section
variable {P:aF} {L:Lib}
def Dm {k:y8} {n:Int} (h:0<=n):dB (.int k n)=some n.toNat:=by
 cases n with
 | ofNat n=>rfl
 | negSucc n=>exact absurd h (by simp)
def akH {s:List (List Int)} {n:Nat} (hn:s.length=n) (h0:0<n) (hr:∀i (hi:i<s.length),s[i].length=n) (c r:Int):
  ∃(h1:(r%n).toNat<s.length) (h2:(c%n).toNat<(s[(r%n).toNat]'h1).length),eh s c r=(s[(r%n).toNat]'h1)[(c%n).toNat]'h2:=by
 have a2:=vv r (show (0:Int)<n by omega);have b2:=vv c (show (0:Int)<n by omega);unfold eh
 grind
def bl (k id o:Nat):HL k (.ptr id o)=some (.ptr id (o+k)):=rfl
def cC {α:Type} (a:α) (l:List α):vL 1 (a::l)=l:=rfl
def arM {α:Type} (a b:α) (l:List α):vL 2 (a::b::l)=l:=rfl
def aaV {α:Type} (a b c:α) (l:List α):vL 3 (a::b::c::l)=l:=rfl
def QJ {k:List (List Int)} {j i:Nat} (hj:j<k.length) (hi:i<k[j].length):k[j][i]=kv k j i:=by
 unfold kv
 grind
abbrev Nm (n:Int):AV:= .agg [aa n,.ae]
def qR (hp:Hp) (ct id:Nat) (a:Int) (x y:AV):ij hp ct id 0 2 [.int .i64 a,.ae] (some (.cells true true true 2 [x,y]))=some (.au [],aU hp id (.cells true true true 2 [.int .i64 a,.ae]),ct):=rfl
def dP (b:Bool):IK false (some b)=some (.bool b):=by cases b<;>rfl
def LI (f:cu) (tm:Env) (hp:Hp) (ct:Nat) (x y:X):a6 P L f tm hp ct (.mn [x,y])=rd hp ct (min2 (aw tm x) (aw tm y)):=by
 simp only [a6,rd,bi,cZ,Ax]
 grind
def mB (f:cu) (tm:Env) (hp:Hp) (ct:Nat) (x y:X):a6 P L f tm hp ct (.mx [x,y])=rd hp ct (max2 (aw tm x) (aw tm y)):=by
 simp only [a6,rd,bi,cZ,Ax]
 grind
def KV (k k':y8) (x y:Int):min2 (.int k x) (.int k' y)=some (.int k (if y<x then y else x)):=rfl
def mw (k k':y8) (x y:Int):max2 (.int k x) (.int k' y)=some (.int k (if y>x then y else x)):=rfl
def bQ (n:Int):Int:=if n<0 then -1 else if n=0 then 0 else 1
def apI (n:Int):(if (if n<1 then n else 1)> -1 then (if n<1 then n else 1) else -1)=bQ n:=by
 unfold bQ
 grind
def n117 (h:Has P L 117 MH) (n:Int):ah P L 117 [aa n] (Nm n):=by
 unfold ah;rw [aC h];simp only [go_sem,ya,yd,yp,MH,aM,yf,qR];rfl
def oF (hp:Hp) (p q:Bool):jE .b (.bool p) (.bool q)=some (p==q):=rfl
def ir {n:Nat} {sp:List AV->Option AV} (h:L.pure n=some sp) {f:cu} (vals:List AV):bE P L f n vals=sp vals:=by simp only [bE,h]
abbrev U64 (n:Int):AV:= .int .u64 n
def arN {n:Int} (h1:0<=n) (h2:n<18446744073709551616):IntKind.wrap .u64 n=n:=by
 simp only [IntKind.wrap,IntKind.signed,IntKind.bits]
 grind
def ZH (n:Int):iB (.toInt .u64) (aa n)=some (U64 (IntKind.wrap .u64 n)):=rfl
def LJ (n:Int):iB (.toInt .i64) (U64 n)=some (aa (IntKind.wrap .i64 n)):=rfl
def HI (b:Bool):IK true (some b)=some (.bool (!b)):=by cases b<;>rfl
def bR (a b:AV) (r:List AV):fV 2 true (a::b::r)=some (.agg [a,b]):=rfl
def dC (a b c d:AV) (r:List AV):fV 4 true (a::b::c::d::r)=some (.agg [a,b,c,d]):=rfl
def ain {a b:Int} (hb:0<b):(a.tmod b<0->a/b=a.tdiv b-1/\a%b=a.tmod b+b)/\(¬a.tmod b<0->a/b=a.tdiv b/\a%b=a.tmod b):=by
 have h1:=Int.mul_tdiv_add_tmod a b;have h2:a.tmod b<b:=ybo a hb;have h3: -b<a.tmod b:=ybp a hb;refine ⟨fun h=>(tS hb).2 ⟨?_,?_,?_⟩,fun h=>(tS hb).2 ⟨?_,?_,?_⟩⟩
 ·grind
 ·omega
 ·omega
 ·omega
 ·omega
 ·omega
def akI (a b:Nat) (hb:b≠0):wD b (a%b)=wD a b:=by
 rw [tH b,<-ycV,tH]
end
def cU (a b:Int):Int:=a/(wT a b:Nat)
def cW (a b:Int):Int:=b/(wT a b:Nat)
def G3 {a b:Int} (hb:0<b):(0:Int)<(wT a b:Nat):=by
 have:=Int.gcd_pos_of_ne_zero_right a (show b≠0 by omega)
 omega
def ZI (a b:Int):a=(wT a b:Nat)*cU a b:=(yaV (tW a b)).symm
def ZJ (a b:Int):b=(wT a b:Nat)*cW a b:=(yaV (tO a b)).symm
def GO {a b:Int} (hb:0<b):0<cW a b:=by
 have h1:=G3 (a:=a) hb;have h2:=ZJ a b;rcases Int.lt_trichotomy (cW a b) 0 with h | h | h
 ·have:=Int.mul_neg_of_pos_of_neg h1 h;omega
 ·grind
 ·exact h
def PW (a b:Int):(cU a b).natAbs<=a.natAbs:=by
 unfold cU;rw [uJ (tW a b)];exact wV _ _
def PX (a b:Int):(cW a b).natAbs<=b.natAbs:=by
 unfold cW;rw [uJ (tO a b)];exact wV _ _
def oJ (a b:Int):List Nat:=if cW a b=1 then aP (cU a b) else aP (cU a b)++[47]++aP (cW a b)
def aaW {a b:Nat} (h:¬a<b):yJ a b=false:=by
 cases hb:yJ a b with
 | false=>rfl
 | true=>exact absurd (yq hb) (by omega)
def Qm:∀(f n:Nat) (acc:List Nat),n<f->my f n acc=my f n []++acc
 | 0,_,_,h=>by omega
 | f+1,n,acc,h=>by
  simp only [my];by_cases h1:n<10
  ·rw [show yJ n 10=true from yv h1];rfl
  ·rw [show yJ n 10=false from aaW (by omega)];rw [Qm f (n/10) _ (by omega),Qm f (n/10) [48+n%10] (by omega)]
   simp
def Px {f n:Nat} (h:n<10):my (f+1) n []=[48+n]:=by
 simp only [my];rw [show yJ n 10=true from yv h];rfl
def Qn {f n:Nat} (h:¬n<10) (hf:n<=f):my (f+1) n []=my f (n/10) []++[48+n%10]:=by
 rw [<-Qm f (n/10) _ (by omega)];simp only [my];rw [show yJ n 10=false from aaW (by omega)];rfl
def akJ:∀(n f:Nat),n<f->my f n []=ap n:=by
 intro n
 induction n using vC with
 | _ n ih=>
  intro f hf;obtain ⟨g,rfl⟩:∃g,f=g+1:=⟨f-1,by omega⟩;by_cases h:n<10
  ·rw [Px h];unfold ap;rw [Px h]
  ·rw [Qn h (by omega),ih (n/10) (by omega) g (by omega)];unfold ap;rw [Qn h (yA n),ih (n/10) (by omega) n (by omega)];rfl
def nc {n:Nat} (h:n<10):ap n=[48+n]:=Px h
def od {n:Nat} (h:¬n<10):ap n=ap (n/10)++[48+n%10]:=by
 rw [show ap n=my (n+1) n [] from rfl,Qn h (yA n),akJ (n/10) n (by omega)]
def qH:∀{k n:Nat},n<10^(k+1)->(ap n).length<=k+1
 | 0,n,h=>by rw [nc (by simpa using h)];simp
 | k+1,n,h=>by
  by_cases h1:n<10
  ·rw [nc h1];simp
  ·rw [od h1,yR]
   have:n/10<10^(k+1):=by
    grind
   have:=qH this
   grind
def Kj {n:Nat} (h:n<18446744073709551616):(ap n).length<=20:=qH (k:=19) (by omega)
def j8 (n:Nat):aP (n:Int)=ap n:=rfl
def jJ {n:Int} (h:n<0):aP n=45::ap n.natAbs:=by
 cases n with
 | ofNat n=>exact absurd h (by simp)
 | negSucc n=>rfl
def bG:List Nat->Nat
 | []=>0
 | b::r=>if b=47 then 0 else bG r+1
def af2 {s:List Nat} {i:Nat} (h:i<s.length):bG (s.drop i)=if s[i]=47 then 0 else bG (s.drop (i+1))+1:=by
 rw [yP h];rfl
def GF:∀s:List Nat,bG s<=s.length
 | []=>yA _
 | b::r=>by
  unfold bG
  have:=GF r
  grind
def cX:List Nat->Bool
 | []=>true
 | b::r=>yF 48 b&&yF b 57&&cX r
def J6:∀(a b:List Nat),cX (a++b)=(cX a&&cX b)
 | [],b=>by simp [cX]
 | x::a,b=>by simp [cX,J6 a b,Bool.and_assoc]
def sA (n:Nat):cX (ap n)=true:=by
 induction n using vC with
 | _ n ih=>
  by_cases h:n<10
  ·rw [nc h];simp [cX];omega
  ·rw [od h,J6,ih (n/10) (by omega)];simp [cX];omega
def Gr:∀{s:List Nat} (r:List Nat),cX s=true->bG (s++r)=s.length+bG r
 | [],r,_=>by simp
 | b::s,r,h=>by
  simp only [cX,yg] at h;have h1:=yq h.1.1;simp only [yX,bG,yz];rw [yB (by omega),Gr r h.2];omega
def J7:∀(l:List Nat) (a d:Nat),d<10->cJ (l++[48+d]) a=(cJ l a).map (fun v=>10*v+d)
 | [],a,d,h=>by
  simp only [xY,cJ];rw [show yF 48 (48+d)=true from yv (by omega),show yF (48+d) 57=true from yv (by omega)]
  simp
 | b::l,a,d,h=>by
  simp only [yX,cJ]
  cases (yF 48 b&&yF b 57) with
  | true=>exact J7 l _ d h
  | false=>rfl
def sB (n:Nat):cJ (ap n) 0=some n:=by
 induction n using vC with
 | _ n ih=>
  by_cases h:n<10
  ·rw [nc h]
   have:=J7 [] 0 n h
   simpa [cJ] using this
  ·rw [od h,J7 _ _ _ (by omega),ih (n/10) (by omega)]
   simp;omega
def aio {s:List Nat} {i a v:Nat} (h:i<s.length) (hv:cJ (s.drop i) a=some v):48<=s[i]/\s[i]<=57/\cJ (s.drop (i+1)) (10*a+(s[i]-48))=some v:=by
 rw [yP h] at hv;simp only [cJ] at hv
 cases hb:(yF 48 s[i]&&yF s[i] 57) with
 | false=>rw [hb] at hv;cases hv
 | true=>
  simp_all
def iD:Nat->Nat->List Nat
 | 0,_=>[]
 | k+1,n=>iD k (n/10)++[48+n%10]
def PY:∀k n,(iD k n).length=k
 | 0,_=>rfl
 | k+1,n=>by simp [iD,PY k]
def KW:∀(k m r:Nat),0<m->r<10^k->ap (m*10^k+r)=ap m++iD k r
 | 0,m,r,_,h=>by simp at h;subst h;simp [iD]
 | k+1,m,r,hm,h=>by
  have h1:m*10^(k+1)+r=(m*10^k)*10+r:=by grind
  have hp:0<m*10^k:=vK hm (Nat.pow_pos (by decide));have e1:(m*10^(k+1)+r)/10=m*10^k+r/10:=by omega
  have e2:(m*10^(k+1)+r)%10=r%10:=by omega
  rw [od (by omega),e1,e2,KW k m (r/10) hm (by rw [y7] at h;omega)];simp [iD]
def Yg:∀(k r a:Nat),r<10^k->cJ (iD k r) a=some (a*10^k+r)
 | 0,r,a,h=>by simp at h;subst h;simp [iD,cJ]
 | k+1,r,a,h=>by
  rw [iD,J7 _ _ _ (xE _ (by decide)),Yg k (r/10) a (by omega)];simp only [wJ,yb,y7]
  grind
def akK {m:Nat} (h:1000000000<=m):ap m=ap (m/1000000000)++iD 9 (m%1000000000):=by
 have:=KW 9 (m/1000000000) (m%1000000000) (by omega) (by omega)
 grind
def ib (s:List Nat) (l h:Option Nat):Option AV:=
 match l,h with
 | some l,some h=>bif yF l h&&yF h s.length then some (.str ((s.take h).drop l)) else none
 | _,_=>none
def ef (hp:Hp) (s:List Nat) (tm:Env) (lo hi:Option X):fg hp .str (.str s) tm lo hi=ib s (cB tm 0 lo) (cB tm s.length hi):=by
 unfold ib;simp only [fg]
 grind
def eF (tm:Env) (d:Nat):cB tm d none=some d:=rfl
def dA (tm:Env) (d:Nat) (x:X):cB tm d (some x)=dB (aw tm x):=rfl
def kZ {s:List Nat} {l h:Nat} (h1:l<=h) (h2:h<=s.length):ib s (some l) (some h)=some (.str ((s.take h).drop l)):=by
 simp [ib,yv h1,yv h2]
def gh {a b:List Nat} (h:a.length+b.length<=9223372036854775807):binOp .add (.str a) (.str b)=some (.str (a++b)):=by
 show HK .add a b=_
 simp only [HK,yv h,yt]
def Ze (k:y8) (n:Int):iB (.toInt .i64) (.int k n)=some (aa (IntKind.wrap .i64 n)):=rfl
def lc (a b:List Nat):binOp .eql (.str a) (.str b)=some (.bool (cN a b)):=rfl
def pH {s:List Nat} {i:Nat} (h:i<s.length):mG i (.str s)=some (.int .u8 (s[i]:Nat)):=by
 simp only [mG,xW h]
def WB {r:Nat} (h:r<10):ib [48,49,50,51,52,53,54,55,56,57] (some r) (some (r+1))=some (.str [48+r]):=by
 have:r=0\/r=1\/r=2\/r=3\/r=4\/r=5\/r=6\/r=7\/r=8\/r=9:=by omega
 rcases this with rfl | rfl | rfl | rfl | rfl | rfl | rfl | rfl | rfl | rfl<;>rfl
section
variable {P:aF} {L:Lib}
def Sl (h:Has P L 292 zh) {n:Nat} (hn:n<9223372036854775808):ah P L 292 [aa n,aa 1] (.str (ap n)):=by
 have key:=jZ (P:=P) (L:=L) (live:=[0,1,5]) (a:=ns)
  (I:=fun k st=>∃(m:Nat) (s:List Nat),st=⟨[(0,aa m),(1,aa 1),(5,.str s)],[],0,0⟩/\m<=n/\m+(1-s.length)=k/\s.length<=20/\((s=[]/\m=n)\/(0<s.length/\(m=0->s=ap n)/\(0<m->ap n=ap m++s))))
  (Q:=fun ex st=>∃tm ct,st=⟨tm,[],ct,0⟩/\ex= .exit 0/\aj tm 5= .str (ap n)) ?_
 ·unfold ah;rw [aC h];simp only [go_sem,zh];generalize hq:D P L (.loop [0,1,5] ns) _=q;obtain ⟨ex,st,rfl,tm,ct,rfl,rfl,h2⟩:=b9 hq (key (n+1)) ⟨n,[],by simp only [go_sem,ya,az]<;>rfl,by omega,rfl,by simp,.inl ⟨rfl,rfl⟩⟩
  simp only [go_sem,az,h2]
 ·rintro k st ⟨m,s,rfl,hm,hk,hl,hs⟩;by_cases rY:0<m\/s.length<1
  ·left
   have hc:((decide ((0:Int)<m))=true)\/((decide ((0:Int)<m))=false/\((s.length:Nat):Int)<1):=by
    by_cases h0:0<m
    ·exact .inl (xj (by omega))
    ·exact .inr ⟨yY (by omega),by omega⟩
   have hr:((m:Int)).tmod 10=((m%10:Nat):Int):=by rw [xr (by omega)];rfl
   have hq:((m:Int)).tdiv 10=((m/10:Nat):Int):=by rw [xJ (by omega)];rfl
   have hd:=WB (r:=m%10) (by omega);have fin:∃s' k',D P L ns ⟨[(0,aa m),(1,aa 1),(5,.str s)],[],0,0⟩=some (.normal,s')/\k'<k/\aT [0,1,5] s'=⟨[(0,aa (m/10:Nat)),(1,aa 1),(5,.str ([48+m%10]++s))],[],0,0⟩/\m/10+(1-([48+m%10]++s).length)=k':=by
    rcases hc with hc | ⟨hc,oW⟩
    ·have hc:(0:Int)<m:=of_decide_eq_true hc
     simp only [go_sem,ya,yd,ns,hc,fD _ _ _ (show (10:Int)≠0 by decide),eS _ _ _ (show (10:Int)≠0 by decide),hr,hq,wrapN (n:=m%10+1) (by omega),wrap64 (n:=((m/10:Nat):Int)) (by omega) (by omega),ef,dA,show ((m%10:Nat):Int)+1=((m%10+1:Nat):Int) from rfl,hd,gh (a:=[48+m%10]) (b:=s) (by simp;omega)];refine ⟨_,_,rfl,?_,by simp only [go_sem,ya,az],rfl⟩
     simp;omega
    ·have hc:¬(0:Int)<m:=of_decide_eq_false hc
     simp only [go_sem,ya,yd,ns,hc,oW,fD _ _ _ (show (10:Int)≠0 by decide),eS _ _ _ (show (10:Int)≠0 by decide),hr,hq,wrapN (n:=m%10+1) (by omega),wrap64 (n:=((m/10:Nat):Int)) (by omega) (by omega),ef,dA,show ((m%10:Nat):Int)+1=((m%10+1:Nat):Int) from rfl,hd,gh (a:=[48+m%10]) (b:=s) (by simp;omega)];refine ⟨_,_,rfl,?_,by simp only [go_sem,ya,az],rfl⟩
     simp;omega
   obtain ⟨s',k',f1,f2,f3,f4⟩:=fin;refine ⟨s',k',f1,f2,m/10,[48+m%10]++s,f3,by omega,f4,?_,.inr ⟨by simp,fun h0=>?_,fun h0=>?_⟩⟩
   ·have aym:=Kj (n:=n) (by omega);rcases hs with ⟨rfl,rfl⟩ | ⟨h1,h2,h3⟩
    ·simp
    ·by_cases h0:0<m
     ·have e:=congrArg tV (h3 h0);have e2:0<(ap m).length:=by
       by_cases h9:m<10
       ·rw [nc h9];simp
       ·rw [od h9];simp
      simp only [yR] at e
      simp;omega
     ·omega
   ·have h9:m<10:=by omega
    rcases hs with ⟨rfl,rfl⟩ | ⟨h1,h2,h3⟩
    ·rw [nc h9,yL h9];rfl
    ·have:0<m:=by omega
     rw [h3 this,nc h9,yL h9]
   ·have h9:¬m<10:=by omega
    rcases hs with ⟨rfl,rfl⟩ | ⟨h1,h2,h3⟩
    ·rw [od h9];simp
    ·rw [h3 (by omega),od h9];simp
  ·right
   simp only [go_sem,ya,ns,show ¬(0:Int)<m by omega,show ¬((s.length:Nat):Int)<1 by omega];refine ⟨_,_,rfl,by simp,_,_,rfl,rfl,?_⟩;simp only [go_sem,ya];rcases hs with ⟨rfl,rfl⟩ | ⟨h1,h2,h3⟩
   ·simp at rY
   ·rw [h2 (by omega)]
def as0 (h:Has P L 291 IA) {a b:Nat} (ha:a<9223372036854775808) (hb:b<9223372036854775808):ah P L 291 [aa a,aa b] (aa (wD a b)):=by
 have key:=jZ (P:=P) (L:=L) (live:=[0,1]) (a:=HC)
  (I:=fun k st=>∃x y:Nat,st=⟨[(0,aa x),(1,aa y)],[],0,0⟩/\y=k/\wD x y=wD a b)
  (Q:=fun ex st=>∃tm ct,st=⟨tm,[],ct,0⟩/\ex= .exit 0/\aj tm 0=aa (wD a b)) ?_
 ·unfold ah;rw [aC h];simp only [go_sem,IA];generalize hq:D P L (.loop [0,1] HC) _=q;obtain ⟨ex,st,rfl,tm,ct,rfl,rfl,h2⟩:=b9 hq (key b) ⟨a,b,by simp only [go_sem,ya,az]<;>rfl,rfl,rfl⟩
  simp only [go_sem,az,h2]
 ·rintro k st ⟨x,y,rfl,rfl,hg⟩;by_cases hy:y=0
  ·right
   subst hy;simp only [go_sem,ya,HC,show ¬(0:Int)<((0:Nat):Int) by omega];refine ⟨_,_,rfl,by simp,_,_,rfl,rfl,?_⟩;simp only [go_sem,ya];rw [<-hg,Nat.gcd_zero_right]
  ·left
   have hr:((x:Int)).tmod y=((x%y:Nat):Int):=by rw [xr (by omega)];rfl
   simp only [go_sem,ya,HC,show (0:Int)<y by omega,fD _ _ _ (show (y:Int)≠0 by omega),hr];refine ⟨_,x%y,rfl,xE _ (by omega),y,x%y,by simp only [go_sem,ya,az],rfl,?_⟩;rw [<-hg,tH y,<-ycV,tH]
def Cr (h:Has P L 272 Ix) {s:List Nat} (hl:s.length<9223372036854775808):ah P L 272 [.str s] (aa (bG s)):=by
 have key:=jZ (P:=P) (L:=L) (live:=[0,3]) (a:=DJ)
  (I:=fun k st=>∃i:Nat,st=⟨[(0,.str s),(3,aa i)],[],0,0⟩/\i+k=s.length/\i+bG (s.drop i)=bG s)
  (Q:=fun ex st=>∃tm ct,st=⟨tm,[],ct,0⟩/\((ex= .ret/\aj tm 2=aa (bG s))\/(ex= .exit 0/\aj tm 0= .str s/\bG s=s.length))) ?_
 ·unfold ah;rw [aC h];simp only [go_sem,Ix];generalize hq:D P L (.loop [0,3] DJ) _=q;obtain ⟨ex,st,rfl,tm,ct,rfl,h2⟩:=b9 hq (key s.length) ⟨0,by simp only [go_sem,ya,az]<;>rfl,by omega,by simp⟩
  rcases h2 with ⟨rfl,h2⟩ | ⟨rfl,h2,h3⟩
  ·simp only [go_sem,h2]
  ·simp only [go_sem,az,h2,h3]
 ·rintro k st ⟨i,rfl,hk,hs⟩;by_cases hi:i<s.length
  ·rw [af2 hi] at hs;by_cases h7:s[i]=47
   ·right
    rw [yN h7] at hs;simp only [go_sem,ya,DJ,show (i:Int)<s.length by omega,pH hi,show ((s[i]:Nat):Int)=47 by omega];refine ⟨_,_,rfl,by simp,_,_,rfl,.inl ⟨rfl,?_⟩⟩;simp only [go_sem];rw [<-hs];rfl
   ·left
    rw [yB h7] at hs;simp only [go_sem,ya,DJ,show (i:Int)<s.length by omega,pH hi,show ¬((s[i]:Nat):Int)=47 by omega];refine ⟨_,k-1,rfl,by omega,i+1,?_,by omega,by omega⟩;rw [wrap64 (by omega) (by omega)];simp only [go_sem,ya,az]<;>rfl
  ·right
   simp only [go_sem,ya,DJ,show ¬(i:Int)<s.length by omega];refine ⟨_,_,rfl,by simp,_,_,rfl,.inr ⟨rfl,by simp only [go_sem,ya],?_⟩⟩;rw [y9 (by omega)] at hs;simp only [bG] at hs;omega
def IP (h:Has P L 290 Ej) {s:List Nat} {v:Nat} (hl:s.length<=18) (hv:cJ s 0=some v):ah P L 290 [.str s] (aa v):=by
 have key:=jZ (P:=P) (L:=L) (live:=[0,3,4]) (a:=HB)
  (I:=fun k st=>∃i a:Nat,st=⟨[(0,.str s),(3,aa a),(4,aa i)],[],0,0⟩/\i+k=s.length/\a<10^i/\cJ (s.drop i) a=some v)
  (Q:=fun ex st=>∃tm ct,st=⟨tm,[],ct,0⟩/\ex= .exit 0/\aj tm 3=aa v) ?_
 ·unfold ah;rw [aC h];simp only [go_sem,Ej];generalize hq:D P L (.loop [0,3,4] HB) _=q;obtain ⟨ex,st,rfl,tm,ct,rfl,rfl,h2⟩:=b9 hq (key s.length) ⟨0,0,by simp only [go_sem,ya,az]<;>rfl,by omega,by simp,hv⟩
  simp only [go_sem,az,h2]
 ·rintro k st ⟨i,a,rfl,hk,ha,hs⟩;by_cases hi:i<s.length
  ·left
   obtain ⟨h1,h2,h3⟩:=aio hi hs;have hp:10^i<=10^17:=yV (by decide) (by omega);have hb:IntKind.wrap .i64 ((s[i]:Nat):Int)=((s[i]:Nat):Int):=wrap64 (by omega) (by omega)
   simp only [go_sem,ya,HB,show (i:Int)<s.length by omega,pH hi,Ze,hb,wrap64 (n:=10*(a:Int)) (by omega) (by omega),wrap64 (n:=10*(a:Int)+(s[i]:Nat)) (by omega) (by omega),wrap64 (n:=10*(a:Int)+(s[i]:Nat)-48) (by omega) (by omega)];refine ⟨_,k-1,rfl,by omega,i+1,10*a+(s[i]-48),?_,by omega,?_,h3⟩
   ·rw [wrap64 (by omega) (by omega),show 10*(a:Int)+(s[i]:Nat)-48=((10*a+(s[i]-48):Nat):Int) by omega];simp only [go_sem,ya,az]<;>rfl
   ·rw [y7];omega
  ·right
   simp only [go_sem,ya,HB,show ¬(i:Int)<s.length by omega];refine ⟨_,_,rfl,by simp,_,_,rfl,rfl,?_⟩;rw [y9 (by omega)] at hs;simp only [cJ,yb] at hs;subst hs;simp only [go_sem,ya]
def Lm (a:Int):(if 0-a>a then 0-a else a)=(a.natAbs:Int):=by omega
def KX (a b:Int):a.tdiv (wT a b:Nat)=cU a b:=yaC (tW a b)
def KY (a b:Int):b.tdiv (wT a b:Nat)=cW a b:=yaC (tO a b)
def nd (n:Int):(if n<0 then [45] else [])++ap n.natAbs=aP n:=by
 split
 ·rename_i h;rw [jJ h];rfl
 ·rename_i h;obtain ⟨m,rfl⟩:∃m:Nat,n=m:=⟨n.toNat,by omega⟩;rfl
def akL {n:Int} (h:n.natAbs<18446744073709551616):(aP n).length<=21:=by
 rw [<-nd]
 have:=Kj h
 grind
def ani {a b:Int} (hb:0<b):oJ a b=(if 1<cW a b then (aP (cU a b)++[47])++ap (cW a b).natAbs else aP (cU a b)):=by
 have h:=GO (a:=a) hb;unfold oJ;by_cases h1:cW a b=1
 ·grind
 ·rw [yB h1,yN (by omega)];obtain ⟨m,hm⟩:∃m:Nat,cW a b=m:=⟨(cW a b).toNat,by omega⟩;rw [hm];rfl
def as3 (h:Has P L 277 AL) (Sm:Has P L 291 IA) (nG:Has P L 292 zh) {a b:Int} (ha: -4000000000000000000<=a/\a<=4000000000000000000) (hb:0<b/\b<=4000000000000000000):
  ah P L 277 [aa a,aa b] (.str (oJ a b)):=by
 have hn:=PW a b;have hd:=PX a b;have hp:=GO (a:=a) hb.1;have e1:=as0 Sm (a:=a.natAbs) (b:=b.natAbs) (by omega) (by omega);have e2:=Sl nG (n:=(cU a b).natAbs) (by omega);have e3:=Sl nG (n:=(cW a b).natAbs) (by omega);have hg:=G3 (a:=a) hb.1;rw [show ((b.natAbs:Nat):Int)=b by omega,show wD a.natAbs b.natAbs=wT a b from rfl] at e1;rw [show (((cW a b).natAbs:Nat):Int)=cW a b by omega] at e3;have mR:=akL (n:=cU a b) (by omega);have rI:=Kj (n:=(cU a b).natAbs) (by omega);have hl3:=Kj (n:=(cW a b).natAbs) (by omega);have hT:=ani (a:=a) hb.1;have hS:=nd (cU a b);unfold ah at e1 e2 e3 ⊢;rw [aC h];by_cases h0:cU a b<0
 ·rw [yN h0] at hS;by_cases h1:1<cW a b
  ·rw [yN h1] at hT
   simp only [go_sem,ya,AL,show ¬a< -4000000000000000000 by omega,show ¬4000000000000000000<a by omega,show ¬b< -4000000000000000000 by omega,show ¬4000000000000000000<b by omega,show ¬b<0 by omega,wrap64 (n:=0-a) (by omega) (by omega),mB,mw,Lm,e1,eS _ _ _ (show ((wT a b:Nat):Int)≠0 by omega),KX,KY,wrap64 (n:=cU a b) (by omega) (by omega),wrap64 (n:=cW a b) (by omega) (by omega),h0,wrap64 (n:=0-cU a b) (by omega) (by omega),e2,gh (a:=[45]) (b:=ap (cU a b).natAbs) (by simp;omega),hS,h1,gh (a:=aP (cU a b)) (b:=[47]) (by simp;omega),e3,gh (a:=aP (cU a b)++[47]) (b:=ap (cW a b).natAbs) (by simp;omega),hT]
  ·rw [yB h1] at hT
   simp only [go_sem,ya,AL,show ¬a< -4000000000000000000 by omega,show ¬4000000000000000000<a by omega,show ¬b< -4000000000000000000 by omega,show ¬4000000000000000000<b by omega,show ¬b<0 by omega,wrap64 (n:=0-a) (by omega) (by omega),mB,mw,Lm,e1,eS _ _ _ (show ((wT a b:Nat):Int)≠0 by omega),KX,KY,wrap64 (n:=cU a b) (by omega) (by omega),wrap64 (n:=cW a b) (by omega) (by omega),h0,wrap64 (n:=0-cU a b) (by omega) (by omega),e2,gh (a:=[45]) (b:=ap (cU a b).natAbs) (by simp;omega),hS,h1,hT]
 ·rw [yB h0] at hS;by_cases h1:1<cW a b
  ·rw [yN h1] at hT
   simp only [go_sem,ya,AL,show ¬a< -4000000000000000000 by omega,show ¬4000000000000000000<a by omega,show ¬b< -4000000000000000000 by omega,show ¬4000000000000000000<b by omega,show ¬b<0 by omega,wrap64 (n:=0-a) (by omega) (by omega),mB,mw,Lm,e1,eS _ _ _ (show ((wT a b:Nat):Int)≠0 by omega),KX,KY,wrap64 (n:=cU a b) (by omega) (by omega),wrap64 (n:=cW a b) (by omega) (by omega),h0,wrap64 (n:=0-cU a b) (by omega) (by omega),e2,gh (a:=[]) (b:=ap (cU a b).natAbs) (by simp;omega),hS,h1,gh (a:=aP (cU a b)) (b:=[47]) (by simp;omega),e3,gh (a:=aP (cU a b)++[47]) (b:=ap (cW a b).natAbs) (by simp;omega),hT]
  ·rw [yB h1] at hT
   simp only [go_sem,ya,AL,show ¬a< -4000000000000000000 by omega,show ¬4000000000000000000<a by omega,show ¬b< -4000000000000000000 by omega,show ¬4000000000000000000<b by omega,show ¬b<0 by omega,wrap64 (n:=0-a) (by omega) (by omega),mB,mw,Lm,e1,eS _ _ _ (show ((wT a b:Nat):Int)≠0 by omega),KX,KY,wrap64 (n:=cU a b) (by omega) (by omega),wrap64 (n:=cW a b) (by omega) (by omega),h0,wrap64 (n:=0-cU a b) (by omega) (by omega),e2,gh (a:=[]) (b:=ap (cU a b).natAbs) (by simp;omega),hS,h1,hT]
end
def TT (n:Int) (d:Nat):List Nat:=aP n++(if d=1 then [] else 47::ap d)
def anj {a b:Int} (hb:0<b):oJ a b=TT (cU a b) (cW a b).toNat:=by
 have h:=GO (a:=a) hb;unfold oJ TT;by_cases h1:cW a b=1
 ·grind
 ·rw [yB h1,yB (by omega)];obtain ⟨m,hm⟩:∃m:Nat,cW a b=m:=⟨(cW a b).toNat,by omega⟩;rw [hm,xt];rfl
def qI (n:Nat):0<(ap n).length:=by
 by_cases h:n<10
 ·rw [nc h];simp
 ·rw [od h];simp
def G4:∀(n:Nat),n<10^(ap n).length:=by
 intro n
 induction n using vC with
 | _ n ih=>
  by_cases h:n<10
  ·rw [nc h];simpa using h
  ·have:=ih (n/10) (by omega)
   rw [od h,yR,td,y7];omega
def Yh {n:Nat} (h:(ap n).length<=9):n<1000000000:=
 yu (G4 n) (by simpa using yV (show 0<10 by decide) h)
def Dp (n:Nat):∃b r,ap n=b::r/\48<=b/\b<=57:=by
 cases hq:ap n with
 | nil=>have:=qI n;rw [hq] at this;simp at this
 | cons b r=>
  have:=sA n
  rw [hq] at this;simp only [cX,yg] at this
  simp_all
section
variable {P:aF} {L:Lib}
def Cs (s:List Nat):mG 0 (.str (45::s))=some (.int .u8 45):=rfl
def QK (q:Bool) (n:Int) (d:Nat):AV:=if q=true then .au [aa n,aa d,.bool true] else .au [aa 0,aa 0,.bool false]
def iU (d:Nat):List Nat:=if d=1 then [] else 47::ap d
def O9 (d:Nat):bG (iU d)=0:=by unfold iU;split<;>rfl
def as4 (h:Has P L 276 oI) (zk:Has P L 272 Ix) (zm:Has P L 290 Ej) {n:Int} {d:Nat} (hl:(TT n d).length<=20000000000):
  ∃q:Bool,ah P L 276 [.str (TT n d)] (QK q n d)/\(q=true->n.natAbs<1000000000/\d<1000000000):=by
 generalize hs:TT n d=s at hl;by_cases mv:20<s.length
 ·refine ⟨false,?_,fun h=>by cases h⟩;unfold ah;rw [aC h];simp only [go_sem,ya,oI,show (20:Int)<s.length by omega];rfl
 ·have hu:∃u,u=ap n.natAbs++iU d:=⟨_,rfl⟩;obtain ⟨u,hu⟩:=hu;have hK:∃K,K=(ap n.natAbs).length:=⟨_,rfl⟩;obtain ⟨K,hK⟩:=hK;have EF:bG u=K:=by rw [hu,Gr _ (sA _),O9,hK];rfl
  have hlen:u.length=K+(iU d).length:=by rw [hu,hK,yR]
  have hp:=qI n.natAbs;obtain ⟨b,r,hb,mq,hb2⟩:=Dp n.natAbs;have CY:(n<0/\s=45::u)\/(¬n<0/\s=u):=by
   by_cases h0:n<0
   ·left;refine ⟨h0,?_⟩;rw [<-hs,hu,TT,jJ h0];rfl
   ·right;refine ⟨h0,?_⟩;rw [<-hs,hu,TT,<-nd,yB h0];rfl
  have hul:u.length<=s.length:=by rcases CY with ⟨_,e⟩ | ⟨_,e⟩<;>rw [e]<;>simp
  have Bh:0<u.length:=by omega
  have p8:u[0]=b:=by
   have:u=b::(r++iU d):=by rw [hu,hb];rfl
   simp [this]
  have e1:=Cr zk (s:=u) (by omega);rw [EF] at e1;have dR:ib u (some 0) (some K)=some (.str (ap n.natAbs)):=by
   rw [kZ (by omega) (by omega),yo,hu,hK,List.take_left]
  unfold ah at e1;by_cases h9:9<K
  ·refine ⟨false,?_,fun h=>by cases h⟩;unfold ah;rw [aC h];rcases CY with ⟨h0,e⟩ | ⟨h0,e⟩
   ·have mv:¬20<u.length+1:=by rw [e] at mv;exact mv
    have kK:ib (45::u) (some 1) (some (u.length+1))=some (.str u):=by rw [kZ (s:=45::u) (l:=1) (h:=u.length+1) (by omega) (by simp)];simp
    rw [e];simp only [go_sem,ya,oI,show ¬(20:Int)<((u.length+1:Nat):Int) by omega,show (0:Int)<((u.length+1:Nat):Int) by omega,Cs,ef,eF,dA,kK,e1,show (9:Int)<(K:Int) by omega];rfl
   ·rw [e];simp only [go_sem,ya,oI,show ¬(20:Int)<(u.length:Nat) by omega,show (0:Int)<(u.length:Nat) by omega,pH Bh,p8,show ¬((b:Nat):Int)=45 by omega,e1,show (9:Int)<(K:Int) by omega];rfl
  ·by_cases iJ:10<(iU d).length
   ·refine ⟨false,?_,fun h=>by cases h⟩;unfold ah;rw [aC h];rcases CY with ⟨h0,e⟩ | ⟨h0,e⟩
    ·have mv:¬20<u.length+1:=by rw [e] at mv;exact mv
     have kK:ib (45::u) (some 1) (some (u.length+1))=some (.str u):=by rw [kZ (s:=45::u) (l:=1) (h:=u.length+1) (by omega) (by simp)];simp
     rw [e]
     simp only [go_sem,ya,oI,show ¬(20:Int)<((u.length+1:Nat):Int) by omega,show (0:Int)<((u.length+1:Nat):Int) by omega,Cs,ef,eF,dA,kK,e1,show ¬(9:Int)<(K:Int) by omega,wrap64 (n:=(u.length:Int)-(K:Int)) (by omega) (by omega),show (10:Int)<(u.length:Int)-(K:Int) by omega];rfl
    ·rw [e]
     simp only [go_sem,ya,oI,show ¬(20:Int)<(u.length:Nat) by omega,show (0:Int)<(u.length:Nat) by omega,pH Bh,p8,show ¬((b:Nat):Int)=45 by omega,e1,show ¬(9:Int)<(K:Int) by omega,wrap64 (n:=(u.length:Int)-(K:Int)) (by omega) (by omega),show (10:Int)<(u.length:Int)-(K:Int) by omega];rfl
   ·have e2:=IP zm (s:=ap n.natAbs) (by omega) (sB n.natAbs);unfold ah at e2;have hm:=Yh (n:=n.natAbs) (by omega);by_cases hd:d=1
    ·subst hd;have lJ:iU 1=[]:=rfl;refine ⟨true,?_,fun _=>⟨hm,by decide⟩⟩;rw [lJ] at hlen;simp only [yK,yW] at hlen;unfold ah;rw [aC h];rcases CY with ⟨h0,e⟩ | ⟨h0,e⟩
     ·have mv:¬20<u.length+1:=by rw [e] at mv;exact mv
      have kK:ib (45::u) (some 1) (some (u.length+1))=some (.str u):=by rw [kZ (s:=45::u) (l:=1) (h:=u.length+1) (by omega) (by simp)];simp
      rw [e]
      simp only [go_sem,ya,oI,show ¬(20:Int)<((u.length+1:Nat):Int) by omega,show (0:Int)<((u.length+1:Nat):Int) by omega,Cs,ef,eF,dA,kK,e1,show ¬(9:Int)<(K:Int) by omega,wrap64 (n:=(u.length:Int)-(K:Int)) (by omega) (by omega),show ¬(10:Int)<(u.length:Int)-(K:Int) by omega,dR,e2,show ¬(K:Int)<(u.length:Int) by omega,wrap64 (n:=0-(n.natAbs:Int)) (by omega) (by omega)];rw [show 0-(n.natAbs:Int)=n by omega];rfl
     ·rw [e]
      simp only [go_sem,ya,oI,show ¬(20:Int)<(u.length:Nat) by omega,show (0:Int)<(u.length:Nat) by omega,pH Bh,p8,show ¬((b:Nat):Int)=45 by omega,ef,eF,dA,e1,show ¬(9:Int)<(K:Int) by omega,wrap64 (n:=(u.length:Int)-(K:Int)) (by omega) (by omega),show ¬(10:Int)<(u.length:Int)-(K:Int) by omega,dR,e2,show ¬(K:Int)<(u.length:Int) by omega];rw [show (n.natAbs:Int)=n by omega];rfl
    ·have lJ:iU d=47::ap d:=yB hd;have Bi:(iU d).length=(ap d).length+1:=by rw [lJ];rfl
     have hpd:=qI d;have hd9:=Yh (n:=d) (by omega);have e3:=IP zm (s:=ap d) (by omega) (sB d);unfold ah at e3;have oW:ib u (some (K+1)) (some u.length)=some (.str (ap d)):=by
      rw [kZ (by omega) (yA _),xK,hu,lJ,hK,show (ap n.natAbs).length+1=(ap n.natAbs++[47]).length by simp,show ap n.natAbs++47::ap d=(ap n.natAbs++[47])++ap d by simp,List.drop_left]
     refine ⟨true,?_,fun _=>⟨hm,hd9⟩⟩;unfold ah;rw [aC h];rcases CY with ⟨h0,e⟩ | ⟨h0,e⟩
     ·have mv:¬20<u.length+1:=by rw [e] at mv;exact mv
      have kK:ib (45::u) (some 1) (some (u.length+1))=some (.str u):=by rw [kZ (s:=45::u) (l:=1) (h:=u.length+1) (by omega) (by simp)];simp
      rw [e]
      simp only [go_sem,ya,oI,show ¬(20:Int)<((u.length+1:Nat):Int) by omega,show (0:Int)<((u.length+1:Nat):Int) by omega,Cs,ef,eF,dA,kK,e1,show ¬(9:Int)<(K:Int) by omega,wrap64 (n:=(u.length:Int)-(K:Int)) (by omega) (by omega),show ¬(10:Int)<(u.length:Int)-(K:Int) by omega,dR,e2,show (K:Int)<(u.length:Int) by omega,wrapN (n:=K+1) (by omega),show (K:Int)+1=((K+1:Nat):Int) from rfl,oW,e3,wrap64 (n:=0-(n.natAbs:Int)) (by omega) (by omega)];rw [show 0-(n.natAbs:Int)=n by omega];rfl
     ·rw [e]
      simp only [go_sem,ya,oI,show ¬(20:Int)<(u.length:Nat) by omega,show (0:Int)<(u.length:Nat) by omega,pH Bh,p8,show ¬((b:Nat):Int)=45 by omega,ef,eF,dA,e1,show ¬(9:Int)<(K:Int) by omega,wrap64 (n:=(u.length:Int)-(K:Int)) (by omega) (by omega),show ¬(10:Int)<(u.length:Int)-(K:Int) by omega,dR,e2,show (K:Int)<(u.length:Int) by omega,wrapN (n:=K+1) (by omega),show (K:Int)+1=((K+1:Nat):Int) from rfl,oW,e3];rw [show (n.natAbs:Int)=n by omega];rfl
def Sn (h:Has P L 302 rk) {v:AV} {l:List Int} (hv:a8 v l) (i:Nat):ah P L 302 [v,aa i] (aa (l.getD i 0)):=by
 unfold ah;rw [aC h];by_cases hi:i<l.length
 ·simp only [go_sem,ya,rk,hv.len,show (i:Int)<l.length by omega,hv.br hi];simp [xx,xW hi]
 ·simp only [go_sem,ya,rk,hv.len,show ¬(i:Int)<l.length by omega];simp [xx,List.getElem?_eq_none (Nat.le_of_not_lt hi)]
def Zf {hp:Hp} {e:Bool} {n:Nat} {cs:List AV} {tm:Env} {h:Nat} {x:X} (hx:cB tm n (some x)=some h) (hh:h<=n):
  fg hp (.sl 1) (.aA e n cs) tm none (some x)=some (.aA (e&&yr h n) h (cs.take h)):=by
 simp only [fg,hx,eF];simp [yv hh,slice];rw [show yF 0 h=true from yv (tG _)];rfl
def AQ (h:Has P L 300 lD) {v:AV} {l:List Int} (hv:a8 v l) (hl:l.length<=20000000000):∃r,ah P L 300 [v] r/\a8 r (dI l)/\shut r=r:=by
 rcases hv with ⟨rfl,h0⟩ | ⟨e,rfl⟩
 ·have:l=[]:=by simpa using h0
  subst this;refine ⟨.ae,?_,qG,rfl⟩;unfold ah;rw [aC h];simp only [go_sem,ya,lD,LH,BZ,az,show ¬(0:Int)<0 by decide]
 ·have key:=jZ (P:=P) (L:=L) (live:=[0]) (a:=BZ)
   (I:=fun k st=>∃(i:Nat) (e:Bool),st=⟨[(0,.aA e i ((l.take i).map aa))],[],0,0⟩/\i<=l.length/\i=k/\dI (l.take i)=dI l)
   (Q:=fun ex st=>∃tm ct,st=⟨tm,[],ct,0⟩/\ex= .exit 0/\∃i e,aj tm 0= .aA e i ((l.take i).map aa)/\i<=l.length/\l.take i=dI l) ?_
  ·have hlen:(l.map aa).length=l.length:=by simp
   rw [hlen];have iY:∃i e',ah P L 300 [.aA e l.length (l.map aa)] (.aA e' i ((l.take i).map aa))/\i<=l.length/\l.take i=dI l:=by
    unfold ah;rw [aC h];simp only [go_sem,lD];generalize hq:D P L (.loop [0] BZ) _=q;obtain ⟨ex,st,rfl,tm,ct,rfl,rfl,i,e',h2,h3,h4⟩:=b9 hq (key l.length) ⟨l.length,e,by simp only [go_sem,ya,az,xK],yA _,rfl,by rw [xK]⟩;simp only [go_sem,az,h2];exact ⟨i,e',rfl,h3,h4⟩
   obtain ⟨i,e',g1,g2,g3⟩:=iY;refine ⟨_,g1,?_,rfl⟩;rw [<-g3]
   have:=iQ e' (l.take i)
   rwa [yO,xF g2] at this
  ·rintro k st ⟨i,e,rfl,hi,rfl,ht⟩
   cases i with
   | zero=>
    right
    simp only [go_sem,ya,BZ,show ¬(0:Int)<((0:Nat):Int) by omega];exact ⟨_,_,rfl,by simp,_,_,rfl,rfl,0,e,by simp only [go_sem,ya],tG _,by simpa [dI] using ht⟩
   | succ i=>
    have qg:i<l.length:=by omega
    have di:l.take (i+1)=l.take i++[l[i]]:=wK qg;have ik:vL i ((l.take (i+1)).map aa)=[AV.int .i64 l[i]]:=by
     rw [di,xC,List.drop_left' (by simp;omega)];rfl
    have nX:jj 1 i (.aA e (i+1) ((l.take (i+1)).map aa))=some (.aH [AV.int .i64 l[i]]):=by
     rw [Qj e _ (by omega),yk,ik]
    by_cases h0:l[i]=0
    ·left
     have lF:∀tm x,cB tm (i+1) (some x)=some i->fg [] (.sl 1) (.aA e (i+1) ((l.take (i+1)).map aa)) tm none (some x)=some (.aA (e&&yr i (i+1)) i ((l.take i).map aa)):=fun tm x hx=>by
      rw [Zf hx (by omega),<-ycc,List.take_take,xF (by omega)]
     simp only [go_sem,ya,BZ,show (0:Int)<((i+1:Nat):Int) by omega,show ((i+1:Nat):Int)-1=(i:Int) by omega,wrapN (n:=i) (by omega),nX,h0,lF,dA];refine ⟨_,i,rfl,by omega,i,_,by simp only [go_sem,az]<;>rfl,by omega,rfl,?_⟩
     rw [<-ht,di,h0,Gw]
    ·right
     simp only [go_sem,ya,BZ,show (0:Int)<((i+1:Nat):Int) by omega,show ((i+1:Nat):Int)-1=(i:Int) by omega,wrapN (n:=i) (by omega),nX,h0];refine ⟨_,_,rfl,by simp,_,_,rfl,rfl,i+1,e,by simp only [go_sem,ya],by omega,?_⟩;rw [<-ht,di,Kh h0]
end
abbrev uc (n:Nat):AV:= .int .u64 (n:Int)
def bB (v:AV) (l:List Nat):Prop:=cP v (l.map uc)
section
variable {v:AV} {l:List Nat}
def bB.len (h:bB v l) {hp:Hp}:jk hp 1 v=some (.int .i64 (l.length:Nat)):=by
 have:=cP.len (hp:=hp) h
 grind
def bB.pu (h:bB v l):aW v=true:=cP.pu h
def bB.ai (h:bB v l) (n:Nat) {hp:Hp}:freeze (n+1) hp v=some (v,hp):=cP.ai h n
def bB.shut (h:bB v l):VE.shut v=v:=cP.shut h
def bB.bM (h:bB v l):VE.bM v=v:=cP.bM h
def bB.dQ (h:bB v l) {hp:Hp}:result hp v=some v:=cP.dQ h
def bB.one (h:bB v l):bn v=true:=cP.one h
def bB.br (h:bB v l) {i:Nat} (hi:i<l.length):jj 1 i v=some (.aH (uc (l.getD i 0)::(l.map uc).drop (i+1))):=by
 have:=cP.br h (i:=i) (by simpa using hi)
 grind
def mz (e:Bool) (l:List Nat):bB (.aA e l.length (l.map uc)) l:=by
 have:=Dy e (l.map uc)
 rwa [xo] at this
def pE:bB .ae []:=qG
end
def jY {hp:Hp} {ct id o:Nat} {v:Nat} {ex:Bool} {l:List Nat} (h:o<l.length):ij hp ct id o 1 [.int .u64 (v:Int)] (some (.cells true true ex 1 (l.map uc)))=some (.au [],aU hp id (.cells true true ex 1 ((l.set o v).map uc)),ct):=by
 rw [sY (by rfl) (by simp;omega) (by rfl)]
 have:over o [uc v] (l.map uc)=(l.set o v).map uc:=by
  simp only [over,yz,yK,yf];rw [List.map_set,tJ,yN (by simpa using h)]
  simp
 rw [this];rfl
def sZ {l:List Nat} {o:Nat} (h:o<l.length):vL o (l.map uc)=uc (l.getD o 0)::vL (o+1) (l.map uc):=by
 rw [yP (by simpa using h)]
 grind
def ank (n:Nat):(yy n [AV.int .u64 0]).flatten=(yy n 0).map uc:=by simp_all
def Ct (ct:Nat) {n:Nat} (h:n<=100000000000):zj ct 1 8 [.int .u64 0] (some n) (some n)=some (.ay ct 0 n,.cells true true true 1 ((yy n 0).map uc)):=by
 rw [DQ (sz:=1) (by omega) (by omega) (by rfl) (by rfl),ank];rfl
def AR (hp:Hp) {n:Nat} {l:List Nat} (h:l.length=n) (ex:Bool):lE 0 n (some (ex,1,l.map uc,hp))=some (.aA ex n (l.map uc),hp):=nf ex (by simp [h]) (by decide)
def aaX {n:Nat} (h:n<18446744073709551616):IntKind.wrap .u64 (n:Int)=n:=arN (by omega) (by omega)
section
variable {P:aF} {L:Lib} {f:cu}
def jQ {a b:Nat} (h:a<b):yJ a b=true:=by simp_all
def B1 (h:L.pure 171=some nn) {x y c:Nat} (hx:x<18446744073709551616) (hy:y<18446744073709551616) (hc:c<=1):
  bE P L f 171 [uc x,uc y,uc c]=some (.au [uc ((x+y+c)%18446744073709551616),uc ((x+y+c)/18446744073709551616)]):=by
 rw [ir h];show (bif yF c 1&&(yJ x 18446744073709551616&&yJ y 18446744073709551616) then _ else none)=_
 rw [yv hc,jQ hx,jQ hy];rfl
def QM (h:L.pure 173=some Al) {x y c:Nat} (hx:x<18446744073709551616) (hy:y<18446744073709551616) (hc:c<=1):
  bE P L f 173 [uc x,uc y,uc c]=some (.au [uc ((x+18446744073709551616*2-y-c)%18446744073709551616),uc (if y+c<=x then 0 else 1)]):=by
 rw [ir h];show (bif yF c 1&&(yJ x 18446744073709551616&&yJ y 18446744073709551616) then _ else none)=_
 rw [yv hc,jQ hx,jQ hy];by_cases hh:y+c<=x
 ·rw [yv hh,yN hh];rfl
 ·have:yF (y+c) x=false:=by
   cases hq:yF (y+c) x with
   | false=>rfl
   | true=>exact absurd (yq hq) hh
  grind
def LK (h:L.pure 143=some qO) {x y:Nat} (hx:x<18446744073709551616) (hy:y<18446744073709551616):
  bE P L f 143 [uc x,uc y]=some (.au [uc (x*y/18446744073709551616),uc (x*y%18446744073709551616)]):=by
 rw [ir h];show (bif yJ x 18446744073709551616&&yJ y 18446744073709551616 then _ else none)=_
 rw [jQ hx,jQ hy];rfl
def akM {hp:Hp} {tm:Env} {x:X} (hx:cB tm 0 (some x)=some 0):fg hp (.sl 1) .ae tm none (some x)=some .ae:=by
 simp only [fg,hx,eF]
def AS (h:Has P L 166 AK) {v:AV} {l:List Nat} (hv:bB v l) (hl:l.length<=100000000000):∃r,ah P L 166 [v] r/\bB r (dJ l):=by
 rcases hv with ⟨rfl,h0⟩ | ⟨e,rfl⟩
 ·have:l=[]:=by simpa using h0
  subst this;refine ⟨.ae,?_,qG⟩;unfold ah;rw [aC h];simp only [go_sem,ya,AK,LH,BW,az,show ¬(0:Int)<0 by decide,akM,dA]
 ·have key:=jZ (P:=P) (L:=L) (live:=[0,3]) (a:=BW)
   (I:=fun k st=>∃(i:Nat),st=⟨[(0,.aA e l.length (l.map uc)),(3,aa i)],[],0,0⟩/\i<=l.length/\i=k/\dJ (l.take i)=dJ l)
   (Q:=fun ex st=>∃tm ct,st=⟨tm,[],ct,0⟩/\ex= .exit 0/\∃i:Nat,aj tm 0= .aA e l.length (l.map uc)/\aj tm 3=aa i/\i<=l.length/\l.take i=dJ l) ?_
  ·have hlen:(l.map uc).length=l.length:=by simp
   rw [hlen];have iY:∃i e',ah P L 166 [.aA e l.length (l.map uc)] (.aA e' i ((l.take i).map uc))/\i<=l.length/\l.take i=dJ l:=by
    unfold ah;rw [aC h];simp only [go_sem,ya,AK];generalize hq:D P L (.loop [0,3] BW) _=q;obtain ⟨ex,st,rfl,tm,ct,rfl,rfl,i,h2,h3,h4,h5⟩:=b9 hq (key l.length) ⟨l.length,by simp only [go_sem,ya,az],yA _,rfl,by rw [xK]⟩;have lF:∀tm x,cB tm l.length (some x)=some i->fg [] (.sl 1) (.aA e l.length (l.map uc)) tm none (some x)=some (.aA (e&&yr i l.length) i ((l.map uc).take i)):=fun tm x hx=>Zf hx h4
    simp only [go_sem,ya,az,h2,h3,lF,dA];exact ⟨i,_,by rw [ycc],h4,h5⟩
   obtain ⟨i,e',g1,g2,g3⟩:=iY;refine ⟨_,g1,?_⟩;rw [<-g3]
   have:=mz e' (l.take i)
   rwa [yO,xF g2] at this
  ·rintro k st ⟨i,rfl,hi,rfl,ht⟩
   cases i with
   | zero=>
    right
    simp only [go_sem,ya,BW,show ¬(0:Int)<((0:Nat):Int) by omega];exact ⟨_,_,rfl,by simp,_,_,rfl,rfl,0,by simp only [go_sem,ya],by simp only [go_sem,ya],tG _,by simpa [dJ] using ht⟩
   | succ i=>
    have qg:i<l.length:=by omega
    have di:l.take (i+1)=l.take i++[l[i]]:=wK qg;have nX:=(mz e l).br qg;rw [<-gd qg] at nX;by_cases h0:l[i]=0
    ·left
     simp only [go_sem,ya,BW,show (0:Int)<((i+1:Nat):Int) by omega,show ((i+1:Nat):Int)-1=(i:Int) by omega,wrapN (n:=i) (by omega),nX,show ((l[i]:Nat):Int)=0 by omega];refine ⟨_,i,rfl,by omega,i,by simp only [go_sem,ya,az],by omega,rfl,?_⟩;rw [<-ht,di,h0,Ki]
    ·right
     simp only [go_sem,ya,BW,show (0:Int)<((i+1:Nat):Int) by omega,show ((i+1:Nat):Int)-1=(i:Int) by omega,wrapN (n:=i) (by omega),nX,show ¬((l[i]:Nat):Int)=0 by omega];refine ⟨_,_,rfl,by simp,_,_,rfl,rfl,i+1,by simp only [go_sem,ya],by simp only [go_sem,ya],by omega,?_⟩;rw [<-ht,di,Di h0]
end
def Kk (p b s:Nat):p*(s%b)+p*b*(s/b)=p*s:=by
 rw [xp,<-xB,uL]
def aip {b:Nat} {x y out:List Nat} {i c:Nat} (hi:i<out.length) (hz:out.getD i 0=0) (hv:bv b out+b^i*c=bv b (x.take i)+bv b (y.take i)):
  bv b (out.set i ((x.getD i 0+y.getD i 0+c)%b))+b^(i+1)*((x.getD i 0+y.getD i 0+c)/b)=bv b (x.take (i+1))+bv b (y.take (i+1)):=by
 have h1:=nt (b:=b) (x:=(x.getD i 0+y.getD i 0+c)%b) hi;have h2:=Kk (b^i) b (x.getD i 0+y.getD i 0+c);rw [hz,xD,yW] at h1;rw [iP,iP,y7,h1]
 grind
def aiq {b:Nat} {x y out:List Nat} {i c z c':Nat} (hi:i<out.length) (hz:out.getD i 0=0) (hs:z+y.getD i 0+c=x.getD i 0+b*c') (hv:bv b out+bv b (y.take i)=bv b (x.take i)+b^i*c):
  bv b (out.set i z)+bv b (y.take (i+1))=bv b (x.take (i+1))+b^(i+1)*c':=by
 have h1:=nt (b:=b) (x:=z) hi;rw [hz,xD,yW] at h1;rw [iP,iP,y7,h1]
 grind
section
variable {P:aF} {L:Lib}
def abX (h:Has P L 158 Ef) {v w:AV} {x y:List Nat} (hv:bB v x) (hw:bB w y) (hx:lo 18446744073709551616 x) (hy:lo 18446744073709551616 y) (nx:gB x) (ny:gB y) (lx:x.length<=100000000000) (ly:y.length<=100000000000):
  ah P L 158 [v,w] (aa (dG (bv 18446744073709551616 x) (bv 18446744073709551616 y))):=by
 unfold ah;rw [aC h];by_cases hlen:x.length=y.length
 ·have key:=jZ (P:=P) (L:=L) (live:=[0,1,5]) (a:=BV)
   (I:=fun k st=>∃j:Nat,st=⟨[(0,v),(1,w),(5,aa ((j:Int)-1))],[],0,0⟩/\j<=x.length/\j=k/\x.drop j=y.drop j)
   (Q:=fun ex st=>∃tm ct,st=⟨tm,[],ct,0⟩/\((ex= .ret/\aj tm 4=aa (dG (bv 18446744073709551616 x) (bv 18446744073709551616 y)))\/(ex= .exit 0/\x=y))) ?_
  ·simp only [go_sem,ya,Ef,hv.len,hw.len,show (x.length:Int)=y.length by omega];generalize hq:D P L (.loop [0,1,5] BV) _=q;obtain ⟨ex,st,rfl,tm,ct,rfl,h2⟩:=b9 hq (key x.length) ⟨x.length,by
    rw [wrap64 (by omega) (by omega),hlen]
    simp only [go_sem,ya,az,aE hv.pu,aJ _ hv.pu,aE hw.pu,aJ _ hw.pu]<;>rfl,yA _,rfl,by rw [y9 (yA _),y9 (by omega)]⟩
   rcases h2 with ⟨rfl,h2⟩ | ⟨rfl,h2⟩
   ·simp only [go_sem,h2]
   ·simp only [go_sem,az];subst h2;simp [dG]
  ·rintro k st ⟨j,rfl,hj,rfl,he⟩
   cases j with
   | zero=>
    right
    simp only [go_sem,ya,BV,show ¬(0:Int)<=((0:Nat):Int)-1 by omega];exact ⟨_,_,rfl,by simp,_,_,rfl,.inr ⟨rfl,by simpa using he⟩⟩
   | succ i=>
    have h1:i<x.length:=by omega
    have h2:i<y.length:=by omega
    have EI:=Y7 hx h1 h2 he;have aR:=Y7 hy h2 h1 he.symm;by_cases c0:x.getD i 0=y.getD i 0
    ·left
     simp only [go_sem,ya,BV,show ((i+1:Nat):Int)-1=(i:Int) by omega,show (0:Int)<=(i:Int) by omega,hv.br h1,hw.br h2,c0];refine ⟨_,i,rfl,by omega,i,?_,by omega,rfl,?_⟩
     ·rw [wrap64 (by omega) (by omega)];simp only [go_sem,ya,az,aE hv.pu,aJ _ hv.pu,aE hw.pu,aJ _ hw.pu]<;>rfl
     ·rw [yP h1,yP h2,he,gd h1,gd h2,c0]
    ·by_cases c1:x.getD i 0<y.getD i 0
     ·right
      simp only [go_sem,ya,BV,show ((i+1:Nat):Int)-1=(i:Int) by omega,show (0:Int)<=(i:Int) by omega,hv.br h1,hw.br h2,show ¬((x.getD i 0:Nat):Int)=(y.getD i 0:Nat) by omega,show ((x.getD i 0:Nat):Int)<(y.getD i 0:Nat) by omega];refine ⟨_,_,rfl,by simp,_,_,rfl,.inl ⟨rfl,?_⟩⟩;simp only [go_sem];unfold dG;rw [yN (EI c1)]
     ·right
      simp only [go_sem,ya,BV,show ((i+1:Nat):Int)-1=(i:Int) by omega,show (0:Int)<=(i:Int) by omega,hv.br h1,hw.br h2,show ¬((x.getD i 0:Nat):Int)=(y.getD i 0:Nat) by omega,show ¬((x.getD i 0:Nat):Int)<(y.getD i 0:Nat) by omega];refine ⟨_,_,rfl,by simp,_,_,rfl,.inl ⟨rfl,?_⟩⟩;simp only [go_sem];unfold dG;rw [yB (by omega),yN (by omega)]
 ·by_cases c1:x.length<y.length
  ·have:=Lk (b:=18446744073709551616) (by decide) hx ny c1
   simp only [go_sem,ya,Ef,hv.len,hw.len,show ¬(x.length:Int)=y.length by omega,show (x.length:Int)<y.length by omega];unfold dG;rw [yN this]
  ·have:=Lk (b:=18446744073709551616) (by decide) hy nx (show y.length<x.length by omega)
   simp only [go_sem,ya,Ef,hv.len,hw.len,show ¬(x.length:Int)=y.length by omega,show ¬(x.length:Int)<y.length by omega];unfold dG;rw [yB (by omega),yN this]
def ZK (gm:L.pure 171=some nn) {v w:AV} {x y:List Nat} (hv:bB v x) (hw:bB w y) (hx:lo 18446744073709551616 x) (hy:lo 18446744073709551616 y) (lx:x.length<=99999999999) (ly:y.length<=x.length) {n:Nat} (hn:n=x.length+1):
  ∀k s,(∃(i c:Nat) (out:List Nat),aT [0,1,5,6,21,22] s=⟨[(0,v),(1,w),(5,.ay 0 0 n),(6,uc c),(21,aa x.length),(22,aa i)],[(0,.cells true true true 1 (out.map uc))],1,0⟩/\i+k=x.length/\out.length=n/\c<=1/\lo 18446744073709551616 out/\
    bv 18446744073709551616 out+18446744073709551616^i*c=bv 18446744073709551616 (x.take i)+bv 18446744073709551616 (y.take i)/\(∀m,i<=m->out.getD m 0=0))->
   ∃ex s',D P L (.loop [0,1,5,6,21,22] BU) s=some (ex,s')/\∃tm c out,s'=⟨tm,[(0,.cells true true true 1 (out.map uc))],1,0⟩/\ex= .exit 0/\aj tm 0=v/\aj tm 5= .ay 0 0 n/\aj tm 6=uc c/\out.length=n/\c<=1/\lo 18446744073709551616 out/\
    bv 18446744073709551616 out+18446744073709551616^x.length*c=bv 18446744073709551616 x+bv 18446744073709551616 y/\out.getD x.length 0=0:=by
 intro dq sq;generalize bt:aT [0,1,5,6,21,22] sq=s0;revert bt s0 sq dq;apply dU;rintro k s ⟨i,c,out,rfl,hk,hlen,hc,aY,aG,fA⟩;by_cases hi:i<x.length
 ·left
  have hz:=fA i (yA _);have kC:=aip (x:=x) (y:=y) (show i<out.length by omega) hz aG;have gx:=gi (show 0<18446744073709551616 by decide) hx i;have gy:=gi (show 0<18446744073709551616 by decide) hy i;have e1:=B1 (P:=P) (f:=D P L) gm gx gy hc;have ex:=hv.br hi;generalize x.getD i 0=p at*
  by_cases hj:i<y.length
  ·have ey:=hw.br hj;generalize y.getD i 0=q at*
   simp only [go_sem,ya,yk,BU,hw.len,show (i:Int)<x.length by omega,show (i:Int)<y.length by omega,ex,ey,e1,cT 0 0 (show i<n by omega),yf,jY (l:=out) (o:=i) (by omega)]
   refine ⟨_,k-1,rfl,by omega,i+1,(p+q+c)/18446744073709551616,_,?_,by omega,by simp [hlen],by omega,lU aY (x:=(p+q+c)%18446744073709551616) (i:=i) (by omega),kC,fun m hm=>?_⟩
   ·rw [wrap64 (by omega) (by omega)];simp only [go_sem,ya,yd,az,aE hv.pu,aJ _ hv.pu,aE hw.pu,aJ _ hw.pu]<;>rfl
   ·rw [ot (by omega)];exact fA m (by omega)
  ·have iL:y.getD i 0=0:=QH (by omega);rw [iL] at kC e1;rw [show (uc 0)=AV.int .u64 0 from rfl] at e1
   simp only [go_sem,ya,yk,BU,hw.len,show (i:Int)<x.length by omega,show ¬(i:Int)<y.length by omega,ex,e1,cT 0 0 (show i<n by omega),yf,jY (l:=out) (o:=i) (by omega)]
   refine ⟨_,k-1,rfl,by omega,i+1,(p+0+c)/18446744073709551616,_,?_,by omega,by simp [hlen],by omega,lU aY (x:=(p+0+c)%18446744073709551616) (i:=i) (by omega),kC,fun m hm=>?_⟩
   ·rw [wrap64 (by omega) (by omega)];simp only [go_sem,ya,yd,az,aE hv.pu,aJ _ hv.pu,aE hw.pu,aJ _ hw.pu]<;>rfl
   ·rw [ot (by omega)];exact fA m (by omega)
 ·right
  have:i=x.length:=by omega
  subst this;rw [xK,yM ly] at aG;simp only [go_sem,ya,BU,show ¬(x.length:Int)<x.length by omega];exact ⟨_,_,rfl,by simp,_,c,out,rfl,rfl,by simp only [go_sem,ya],by simp only [go_sem,ya],by simp only [go_sem,ya],hlen,hc,aY,aG,fA _ (yA _)⟩
def as5 (h:Has P L 157 Im) (me:Has P L 166 AK) (gm:L.pure 171=some nn) {v w:AV} {x y:List Nat} (hv:bB v x) (hw:bB w y) (hx:lo 18446744073709551616 x) (hy:lo 18446744073709551616 y) (lx:x.length<=99999999999) (ly:y.length<=99999999999):
  ∃r out,ah P L 157 [v,w] r/\bB r out/\lo 18446744073709551616 out/\gB out/\bv 18446744073709551616 out=bv 18446744073709551616 x+bv 18446744073709551616 y:=by
 have fin:∀{x y o:List Nat} {n c:Nat},n=x.length+1->x.length<=99999999999->o.length=n->c<=1->lo 18446744073709551616 o->bv 18446744073709551616 o+18446744073709551616^x.length*c=bv 18446744073709551616 x+bv 18446744073709551616 y->o.getD x.length 0=0->
   ∃r,bE P L (D P L) 166 [.aA true n ((o.set x.length c).map uc)]=some r/\bB r (dJ (o.set x.length c))/\lo 18446744073709551616 (dJ (o.set x.length c))/\gB (dJ (o.set x.length c))/\bv 18446744073709551616 (dJ (o.set x.length c))=bv 18446744073709551616 x+bv 18446744073709551616 y:=by
  intro x y o n c hn lx hlen hc aY aG hz;have aU:=nt (b:=18446744073709551616) (l:=o) (i:=x.length) (x:=c) (by omega);rw [hz,xD,yW,aG] at aU;have as6:lo 18446744073709551616 (o.set x.length c):=lU aY (by omega);have hf:=mz true (o.set x.length c);rw [List.length_set,hlen] at hf;obtain ⟨r,e1,hr⟩:=AS me hf (by simp;omega);exact ⟨r,e1,hr,Ae as6,Ad _,by rw [Ac];exact aU⟩
 by_cases hl:x.length<y.length
 ·obtain ⟨n,hn⟩:∃n,n=y.length+1:=⟨_,rfl⟩;unfold ah;rw [aC h]
  simp only [go_sem,ya,yd,Im,hv.len,hw.len,show (x.length:Int)<y.length by omega,wrapN (n:=n) (by omega),show (y.length:Int)+1=((y.length+1:Nat):Int) from rfl,<-hn,Ct (n:=n) _ (by omega)];generalize hq:D P L (.loop [0,1,5,6,21,22] BU) _=q;obtain ⟨ex,s,rfl,tm,c,o,rfl,rfl,t0,t5,t6,hlen,hc,aY,aG,hz⟩:=b9 hq (ZK (P:=P) (L:=L) gm hw hv hy hx ly (by omega) hn y.length)
   ⟨0,0,yy n 0,by simp only [go_sem,ya,yd,az,aE hv.pu,aJ _ hv.pu,aE hw.pu,aJ _ hw.pu]<;>rfl,by omega,by simp,by omega,DN (by decide) n,by rw [DO];simp [bv],fun m _=>BN n m⟩
  obtain ⟨r,e1,hr,f1,f2,f3⟩:=fin hn ly hlen hc aY aG hz;refine ⟨r,_,?_,hr,f1,f2,by rw [f3];omega⟩
  simp only [go_sem,ya,yk,az,aE hw.pu,aJ _ hw.pu,hw.len,t0,t5,t6,cT 0 0 (show y.length<n by omega),yf,jY (l:=o) (o:=y.length) (by omega)]
  simp only [go_sem,AR _ (n:=n) (l:=o.set y.length c) (by simp [hlen]) true,e1,hr.shut,hr.dQ]
 ·obtain ⟨n,hn⟩:∃n,n=x.length+1:=⟨_,rfl⟩;unfold ah;rw [aC h]
  simp only [go_sem,ya,yd,Im,hv.len,hw.len,show ¬(x.length:Int)<y.length by omega,wrapN (n:=n) (by omega),show (x.length:Int)+1=((x.length+1:Nat):Int) from rfl,<-hn,Ct (n:=n) _ (by omega)];generalize hq:D P L (.loop [0,1,5,6,21,22] BU) _=q;obtain ⟨ex,s,rfl,tm,c,o,rfl,rfl,t0,t5,t6,hlen,hc,aY,aG,hz⟩:=b9 hq (ZK (P:=P) (L:=L) gm hv hw hx hy lx (by omega) hn x.length)
   ⟨0,0,yy n 0,by simp only [go_sem,ya,yd,az,aE hv.pu,aJ _ hv.pu,aE hw.pu,aJ _ hw.pu]<;>rfl,by omega,by simp,by omega,DN (by decide) n,by rw [DO];simp [bv],fun m _=>BN n m⟩
  obtain ⟨r,e1,hr,f1,f2,f3⟩:=fin hn lx hlen hc aY aG hz;refine ⟨r,_,?_,hr,f1,f2,f3⟩
  simp only [go_sem,ya,yk,az,aE hv.pu,aJ _ hv.pu,hv.len,t0,t5,t6,cT 0 0 (show x.length<n by omega),yf,jY (l:=o) (o:=x.length) (by omega)]
  simp only [go_sem,AR _ (n:=n) (l:=o.set x.length c) (by simp [hlen]) true,e1,hr.shut,hr.dQ]
end
def air {b:Nat} {out:List Nat} {p j c t o x y Y bo ba:Nat} (ho:o=out.getD j 0) (hj:j<out.length) (ht:t=o+x*y+c) (hv:bo+p*c=ba+p*(x*Y)) (hb:bo=bv b out) (hp:p=b^j):
  bv b (out.set j (t%b))+p*b*(t/b)=ba+p*(x*(Y+0))+p*(x*y):=by
 have h1:=nt (b:=b) (x:=t%b) hj;have h2:=Kk p b t
 grind
section
variable {P:aF} {L:Lib}
def PZ {x y c:Nat} (hx:x<18446744073709551616) (hy:y<18446744073709551616) (hc:c<=1):
  (x+18446744073709551616*2-y-c)%18446744073709551616+y+c=x+18446744073709551616*(if y+c<=x then 0 else 1):=by grind
def apJ (rn:L.pure 173=some Al) {v w:AV} {x y:List Nat} (hv:bB v x) (hw:bB w y) (hx:lo 18446744073709551616 x) (hy:lo 18446744073709551616 y) (lx:x.length<=99999999999) (ly:y.length<=x.length) (hle:bv 18446744073709551616 y<=bv 18446744073709551616 x) {n:Nat} (hn:n=x.length):
  ∀k s,(∃(i c:Nat) (out:List Nat),aT [0,1,5,6,13,14] s=⟨[(0,v),(1,w),(5,.ay 0 0 n),(6,uc c),(13,aa x.length),(14,aa i)],[(0,.cells true true true 1 (out.map uc))],1,0⟩/\i+k=x.length/\out.length=n/\c<=1/\lo 18446744073709551616 out/\
    bv 18446744073709551616 out+bv 18446744073709551616 (y.take i)=bv 18446744073709551616 (x.take i)+18446744073709551616^i*c/\(∀m,i<=m->out.getD m 0=0))->
   ∃ex s',D P L (.loop [0,1,5,6,13,14] DG) s=some (ex,s')/\∃tm out,s'=⟨tm,[(0,.cells true true true 1 (out.map uc))],1,0⟩/\ex= .exit 0/\aj tm 5= .ay 0 0 n/\out.length=n/\lo 18446744073709551616 out/\
    bv 18446744073709551616 out+bv 18446744073709551616 y=bv 18446744073709551616 x:=by
 intro dq sq;generalize bt:aT [0,1,5,6,13,14] sq=s0;revert bt s0 sq dq;apply dU;rintro k s ⟨i,c,out,rfl,hk,hlen,hc,aY,aG,fA⟩;by_cases hi:i<x.length
 ·left
  have hz:=fA i (yA _);have gx:=gi (show 0<18446744073709551616 by decide) hx i;have gy:=gi (show 0<18446744073709551616 by decide) hy i;have rZ:=PZ gx gy hc;have kC:=aiq (x:=x) (y:=y) (show i<out.length by omega) hz rZ aG;have e1:=QM (P:=P) (f:=D P L) rn gx gy hc;have ex:=hv.br hi;generalize x.getD i 0=p at*
  have gC:(if y.getD i 0+c<=p then 0 else 1)<=1:=by split<;>omega
  by_cases hj:i<y.length
  ·have ey:=hw.br hj;generalize y.getD i 0=q at*
   generalize (if q+c<=p then 0 else 1)=c1 at*
   simp only [go_sem,ya,xQ,yk,DG,hw.len,show (i:Int)<x.length by omega,show (i:Int)<y.length by omega,ex,ey,e1,cT 0 0 (show i<n by omega),yf,jY (l:=out) (o:=i) (by omega)]
   refine ⟨_,k-1,rfl,by omega,i+1,c1,_,?_,by omega,by simp [hlen],gC,lU aY (x:=(p+18446744073709551616*2-q-c)%18446744073709551616) (i:=i) (by omega),kC,fun m hm=>?_⟩
   ·rw [wrap64 (by omega) (by omega)];simp only [go_sem,ya,yd,xQ,az,aE hv.pu,aJ _ hv.pu,aE hw.pu,aJ _ hw.pu]<;>rfl
   ·rw [ot (by omega)];exact fA m (by omega)
  ·have iL:y.getD i 0=0:=QH (by omega);rw [iL] at kC e1 gC;rw [show (uc 0)=AV.int .u64 0 from rfl] at e1;generalize (if 0+c<=p then 0 else 1)=c1 at*
   simp only [go_sem,ya,xQ,yk,DG,hw.len,show (i:Int)<x.length by omega,show ¬(i:Int)<y.length by omega,ex,e1,cT 0 0 (show i<n by omega),yf,jY (l:=out) (o:=i) (by omega)]
   refine ⟨_,k-1,rfl,by omega,i+1,c1,_,?_,by omega,by simp [hlen],gC,lU aY (x:=(p+18446744073709551616*2-0-c)%18446744073709551616) (i:=i) (by omega),kC,fun m hm=>?_⟩
   ·rw [wrap64 (by omega) (by omega)];simp only [go_sem,ya,yd,xQ,az,aE hv.pu,aJ _ hv.pu,aE hw.pu,aJ _ hw.pu]<;>rfl
   ·rw [ot (by omega)];exact fA m (by omega)
 ·right
  have:i=x.length:=by omega
  subst this;rw [xK,yM ly] at aG;have aR:=ll aY;rw [hlen,hn] at aR;simp only [go_sem,ya,DG,show ¬(x.length:Int)<x.length by omega];refine ⟨_,_,rfl,by simp,_,out,rfl,rfl,by simp only [go_sem,ya],hlen,aY,?_⟩;rcases (show c=0\/c=1 by omega) with rfl | rfl
  ·omega
  ·omega
def abY (h:Has P L 159 MM) (me:Has P L 166 AK) (rn:L.pure 173=some Al) {v w:AV} {x y:List Nat} (hv:bB v x) (hw:bB w y) (hx:lo 18446744073709551616 x) (hy:lo 18446744073709551616 y) (ny:gB y) (lx:x.length<=99999999999) (hle:bv 18446744073709551616 y<=bv 18446744073709551616 x):
  ∃r out,ah P L 159 [v,w] r/\bB r out/\lo 18446744073709551616 out/\gB out/\bv 18446744073709551616 out+bv 18446744073709551616 y=bv 18446744073709551616 x:=by
 have ly:y.length<=x.length:=by
  by_cases hh:x.length<y.length
  ·have:=Lk (b:=18446744073709551616) (by decide) hx ny hh
   omega
  ·omega
 obtain ⟨n,hn⟩:∃n,n=x.length:=⟨_,rfl⟩;unfold ah;rw [aC h]
 simp only [go_sem,ya,yd,MM,hv.len,<-hn,Ct (n:=n) _ (by omega)];generalize hq:D P L (.loop [0,1,5,6,13,14] DG) _=q;obtain ⟨ex,s,rfl,tm,o,rfl,rfl,t5,hlen,aY,aG⟩:=b9 hq (apJ (P:=P) (L:=L) rn hv hw hx hy lx ly hle hn x.length)
  ⟨0,0,yy n 0,by rw [hn];simp only [go_sem,ya,yd,az,aE hv.pu,aJ _ hv.pu,aE hw.pu,aJ _ hw.pu]<;>rfl,by omega,by simp,by omega,DN (by decide) n,by rw [DO];simp [bv],fun m _=>BN n m⟩
 have hf:=mz true o;rw [hlen] at hf;obtain ⟨r,e1,hr⟩:=AS me hf (by omega);refine ⟨r,_,?_,hr,Ae aY,Ad _,by rw [Ac];exact aG⟩
 simp only [go_sem,yd,az,t5,AR _ (n:=n) (l:=o) hlen true,e1,hr.shut,hr.dQ]
def akN {x y o c:Nat} (hx:x<18446744073709551616) (hy:y<18446744073709551616) (ho:o<18446744073709551616) (hc:c<18446744073709551616):
  o+x*y+c<18446744073709551616*18446744073709551616/\
  ((x*y%18446744073709551616+o+0)%18446744073709551616+c+0)%18446744073709551616=(o+x*y+c)%18446744073709551616/\
  x*y/18446744073709551616+(x*y%18446744073709551616+o+0)/18446744073709551616+((x*y%18446744073709551616+o+0)%18446744073709551616+c+0)/18446744073709551616=(o+x*y+c)/18446744073709551616:=by
 have h1:=wW (show x<=18446744073709551615 by omega) (show y<=18446744073709551615 by omega)
 grind
def apK (mf:L.pure 143=some qO) (gm:L.pure 171=some nn) {v w:AV} {x y:List Nat} (hv:bB v x) (hw:bB w y) (hx:lo 18446744073709551616 x) (hy:lo 18446744073709551616 y) (lx:x.length<=49999999999) (ly:y.length<=49999999999) {n i:Nat} (hn:n=x.length+y.length) (hi:i<x.length) {a:Nat} (ha:a<18446744073709551616) {bo:Nat}:
  ∀k s,(∃(j c:Nat) (out:List Nat),aT [1,5,6,7,8,20,21,22,27,28,29] s=⟨[(1,w),(5,.ay 0 0 n),(6,aa i),(7,uc a),(8,uc c),(20,v),(21,aa x.length),(22,aa i),(27,w),(28,aa y.length),(29,aa j)],[(0,.cells true true true 1 (out.map uc))],1,0⟩/\j+k=y.length/\out.length=n/\c<18446744073709551616/\lo 18446744073709551616 out/\
    bv 18446744073709551616 out+18446744073709551616^(i+j)*c=bo+18446744073709551616^i*(a*bv 18446744073709551616 (y.take j))/\(∀m,i+y.length<=m->out.getD m 0=0))->
   ∃ex s',D P L (.loop [1,5,6,7,8,20,21,22,27,28,29] Ho) s=some (ex,s')/\∃tm c out,s'=⟨tm,[(0,.cells true true true 1 (out.map uc))],1,0⟩/\ex= .exit 2/\aj tm 1=w/\aj tm 5= .ay 0 0 n/\aj tm 6=aa i/\aj tm 8=uc c/\aj tm 20=v/\aj tm 21=aa x.length/\aj tm 22=aa i/\out.length=n/\c<18446744073709551616/\lo 18446744073709551616 out/\
    bv 18446744073709551616 out+18446744073709551616^(i+y.length)*c=bo+18446744073709551616^i*(a*bv 18446744073709551616 y)/\(∀m,i+y.length<=m->out.getD m 0=0):=by
 intro dq sq;generalize bt:aT [1,5,6,7,8,20,21,22,27,28,29] sq=s0;revert bt s0 sq dq;apply dU;rintro k s ⟨j,c,out,rfl,hk,hlen,hc,aY,aG,fA⟩;by_cases hj:j<y.length
 ·left
  have rW:(0:Nat)<18446744073709551616:=by decide
  have gy:=gi rW hy j;have mX:=gi rW aY (i+j);have ey:=hw.br hj;have e3:=sZ (l:=out) (o:=i+j) (by omega);obtain ⟨q,hq⟩:∃q,q=y.getD j 0:=⟨_,rfl⟩;obtain ⟨o,ho⟩:∃o,o=out.getD (i+j) 0:=⟨_,rfl⟩;rw [<-hq] at gy ey;rw [<-ho] at mX e3;obtain ⟨m1,m2,m3⟩:=akN ha gy mX hc;have hpy:a*q<18446744073709551616*18446744073709551616:=by omega
  have f1:=LK (P:=P) (f:=D P L) mf ha gy;have f2:=B1 (P:=P) (f:=D P L) gm (x:=a*q%18446744073709551616) (y:=o) (c:=0) (xE _ rW) mX (by omega);have f3:=B1 (P:=P) (f:=D P L) gm (x:=(a*q%18446744073709551616+o+0)%18446744073709551616) (y:=c) (c:=0) (xE _ rW) hc (by omega);obtain ⟨t,ht⟩:∃t,t=o+a*q+c:=⟨_,rfl⟩;have kC:=air (b:=18446744073709551616) (out:=out) (p:=18446744073709551616^(i+j)) (j:=i+j) (c:=c) (t:=t) (x:=a) (y:=q) (Y:=0) (ba:=bo+18446744073709551616^i*(a*bv 18446744073709551616 (y.take j))) ho (by omega) ht (by simpa using aG) rfl rfl;rw [m2,<-ht] at f3;rw [<-ht] at m1 m3;obtain ⟨d1,jW⟩:∃d,d=(a*q%18446744073709551616+o+0)/18446744073709551616:=⟨_,rfl⟩;obtain ⟨d2,gP⟩:∃d,d=((a*q%18446744073709551616+o+0)%18446744073709551616+c+0)/18446744073709551616:=⟨_,rfl⟩;rw [<-jW] at f2 m3;rw [<-gP] at f3 m3
  rw [show (uc 0)=AV.int .u64 0 from rfl] at f2 f3;obtain ⟨h1,gT⟩:∃d,d=a*q/18446744073709551616:=⟨_,rfl⟩;rw [<-gT] at f1 m3;have mS:h1+d1<18446744073709551616:=by omega
  have zC:h1+d1+d2<18446744073709551616:=by omega
  simp only [go_sem,ya,yk,Ho,show (j:Int)<y.length by omega,ey,f1,wrapN (n:=i+j) (by omega),show (i:Int)+(j:Int)=((i+j:Nat):Int) from rfl,cT 0 0 (show i+j<n by omega),yf,e3,f2,f3,show (h1:Int)+(d1:Int)=((h1+d1:Nat):Int) from rfl,aaX mS,show ((h1+d1:Nat):Int)+(d2:Int)=((h1+d1+d2:Nat):Int) from rfl,aaX zC,jY (l:=out) (o:=i+j) (by omega)]
  refine ⟨_,k-1,rfl,by omega,j+1,h1+d1+d2,_,?_,by omega,by simp [hlen],zC,lU aY (x:=t%18446744073709551616) (i:=i+j) (xE _ rW),?_,fun m hm=>?_⟩
  ·rw [wrap64 (by omega) (by omega)];simp only [go_sem,ya,yd,az,aE hv.pu,aJ _ hv.pu,aE hw.pu,aJ _ hw.pu]<;>rfl
  ·rw [m3,show i+(j+1)=i+j+1 by omega,y7,iP,<-hq,xB a,xB (18446744073709551616^i)];simp only [xD,yW] at kC;rw [kC,xL,<-Nat.add_assoc,xp (18446744073709551616^i),<-xp a,xy a (18446744073709551616^j),xp]
  ·rw [ot (by omega)];exact fA m hm
 ·right
  have:j=y.length:=by omega
  subst this;rw [xK] at aG;simp only [go_sem,ya,Ho,show ¬(y.length:Int)<y.length by omega];exact ⟨_,_,rfl,by simp,_,c,out,rfl,rfl,by simp only [go_sem,ya],by simp only [go_sem,ya],by simp only [go_sem,ya],by simp only [go_sem,ya],by simp only [go_sem,ya],by simp only [go_sem,ya],by simp only [go_sem,ya],hlen,hc,aY,aG,fA⟩
def apL (mf:L.pure 143=some qO) (gm:L.pure 171=some nn) {v w:AV} {x y:List Nat} (hv:bB v x) (hw:bB w y) (hx:lo 18446744073709551616 x) (hy:lo 18446744073709551616 y) (lx:x.length<=49999999999) (ly:y.length<=49999999999) {n:Nat} (hn:n=x.length+y.length):
  ∀k s,(∃(i:Nat) (out:List Nat),aT [1,5,20,21,22] s=⟨[(1,w),(5,.ay 0 0 n),(20,v),(21,aa x.length),(22,aa i)],[(0,.cells true true true 1 (out.map uc))],1,0⟩/\i+k=x.length/\out.length=n/\lo 18446744073709551616 out/\
    bv 18446744073709551616 out=bv 18446744073709551616 (x.take i)*bv 18446744073709551616 y/\(∀m,i+y.length<=m->out.getD m 0=0))->
   ∃ex s',D P L (.loop [1,5,20,21,22] Hr) s=some (ex,s')/\∃tm out,s'=⟨tm,[(0,.cells true true true 1 (out.map uc))],1,0⟩/\ex= .exit 0/\aj tm 5= .ay 0 0 n/\out.length=n/\lo 18446744073709551616 out/\
    bv 18446744073709551616 out=bv 18446744073709551616 x*bv 18446744073709551616 y:=by
 intro dq sq;generalize bt:aT [1,5,20,21,22] sq=s0;revert bt s0 sq dq;apply dU;rintro k s ⟨i,out,rfl,hk,hlen,aY,aG,fA⟩;by_cases hi:i<x.length
 ·left
  have gx:=gi (show 0<18446744073709551616 by decide) hx i;have ex:=hv.br hi;obtain ⟨a,ha⟩:∃a,a=x.getD i 0:=⟨_,rfl⟩;simp only [go_sem,ya,Hr,hw.len,show (i:Int)<x.length by omega,ex];generalize hq:D P L (.loop [1,5,6,7,8,20,21,22,27,28,29] Ho) _=q;obtain ⟨ex,s,rfl,tm,c,rq,rfl,rfl,t1,t5,t6,t8,t20,t21,t22,Ca,hc,as7,Rx,IQ⟩:=b9 hq (apK (P:=P) (L:=L) mf gm hv hw hx hy lx ly hn hi gx (bo:=bv 18446744073709551616 out) y.length)
   ⟨0,0,out,by simp only [go_sem,ya,yd,az,aE hv.pu,aJ _ hv.pu,aE hw.pu,aJ _ hw.pu]<;>rfl,by omega,hlen,by decide,aY,by simp [bv],fA⟩
  have hz:rq.getD (i+y.length) 0=0:=IQ _ (yA _);have aU:=nt (b:=18446744073709551616) (l:=rq) (i:=i+y.length) (x:=c) (by omega);rw [hz,xD,yW,Rx] at aU
  simp only [go_sem,ya,yk,az,t1,t5,t6,t8,t20,t21,t22,hw.len,aE hv.pu,aJ _ hv.pu,aE hw.pu,aJ _ hw.pu,wrapN (n:=i+y.length) (by omega),show (i:Int)+(y.length:Int)=((i+y.length:Nat):Int) from rfl,cT 0 0 (show i+y.length<n by omega),yf,jY (l:=rq) (o:=i+y.length) (by omega)];refine ⟨_,k-1,rfl,by omega,i+1,rq.set (i+y.length) c,?_,by omega,by simp [Ca],lU as7 hc,?_,fun m hm=>?_⟩
  ·rw [wrap64 (by omega) (by omega)];simp only [go_sem,ya,yd,az,aE hv.pu,aJ _ hv.pu,aE hw.pu,aJ _ hw.pu]<;>rfl
  ·rw [aU,aG,iP,wh,<-ha,xp]
  ·rw [ot (by omega)];exact IQ m (by omega)
 ·right
  have:i=x.length:=by omega
  subst this;rw [xK] at aG;simp only [go_sem,ya,Hr,show ¬(x.length:Int)<x.length by omega];exact ⟨_,_,rfl,by simp,_,out,rfl,rfl,by simp only [go_sem,ya],hlen,aY,aG⟩
def as8 (h:Has P L 144 MK) (me:Has P L 166 AK) (mf:L.pure 143=some qO) (gm:L.pure 171=some nn) {v w:AV} {x y:List Nat} (hv:bB v x) (hw:bB w y) (hx:lo 18446744073709551616 x) (hy:lo 18446744073709551616 y) (lx:x.length<=49999999999) (ly:y.length<=49999999999):
  ∃r out,ah P L 144 [v,w] r/\bB r out/\lo 18446744073709551616 out/\gB out/\bv 18446744073709551616 out=bv 18446744073709551616 x*bv 18446744073709551616 y:=by
 obtain ⟨n,hn⟩:∃n,n=x.length+y.length:=⟨_,rfl⟩;unfold ah;rw [aC h]
 simp only [go_sem,ya,yd,MK,hv.len,hw.len,wrapN (n:=n) (by omega),show (x.length:Int)+(y.length:Int)=((x.length+y.length:Nat):Int) from rfl,<-hn,Ct (n:=n) _ (by omega)];generalize hq:D P L (.loop [1,5,20,21,22] Hr) _=q;obtain ⟨ex,s,rfl,tm,o,rfl,rfl,t5,hlen,aY,aG⟩:=b9 hq (apL (P:=P) (L:=L) mf gm hv hw hx hy lx ly hn x.length)
  ⟨0,yy n 0,by simp only [go_sem,ya,yd,az,aE hv.pu,aJ _ hv.pu,aE hw.pu,aJ _ hw.pu]<;>rfl,by omega,by simp,DN (by decide) n,by rw [DO];simp [bv],fun m _=>BN n m⟩
 have hf:=mz true o;rw [hlen] at hf;obtain ⟨r,e1,hr⟩:=AS me hf (by omega);refine ⟨r,_,?_,hr,Ae aY,Ad _,by rw [Ac];exact aG⟩
 simp only [go_sem,yd,az,t5,AR _ (n:=n) (l:=o) hlen true,e1,hr.shut,hr.dQ]
end
def Ma (n:Int):IntKind.wrap .u64 n=n%18446744073709551616:=by
 simp [IntKind.wrap,IntKind.signed,IntKind.bits]
def wrapM (n:Nat):IntKind.wrap .u64 (n:Int)=((n%18446744073709551616:Nat):Int):=by rw [Ma];omega
def oK (a b:Nat):binOp .mul (uc a) (uc b)=some (uc (a*b%18446744073709551616)):=by
 rw [Zc,<-wN,wrapM]
def AF (a b:Nat):binOp .add (uc a) (uc b)=some (uc ((a+b)%18446744073709551616)):=by
 rw [Zb,<-Int.natCast_add,wrapM]
def Cu {a b c:Nat} (h:(a+18446744073709551616-b)%18446744073709551616=c) (hb:b<=18446744073709551616):binOp .sub (uc a) (uc b)=some (uc c):=by
 rw [Ll,Ma]
 grind
def ZL (k k':y8) (a b:Int):binOp .shl (.int k a) (.int k' b)=BK .shl k a b:=rfl
def ZM (k k':y8) (a b:Int):binOp .shr (.int k a) (.int k' b)=BK .shr k a b:=rfl
def IR (k:y8) (a:Nat) {s:Nat} (hs:s<=64):binOp .shl (.int .u64 (a:Int)) (.int k (s:Int))=some (uc (a*2^s%18446744073709551616)):=by
 rw [ZL];simp only [BK,yB (show ¬(s:Int)<0 by omega),wo,IntKind.bits,xF hs];rw [show ((2:Int)^s)=((2^s:Nat):Int) by simp,<-wN,wrapM]
def IS (k:y8) (a:Nat) {s:Nat} (hs:s<=64):binOp .shr (.int .u64 (a:Int)) (.int k (s:Int))=some (uc (a/2^s)):=by
 rw [ZM];simp only [BK,yB (show ¬(s:Int)<0 by omega),wo,IntKind.bits,xF hs]
 grind
def abZ (a:Nat):binOp .and (.int .u64 (a:Int)) (.int .u64 4294967295)=some (uc (a%4294967296)):=by
 show some (AV.int .u64 (IntKind.wrap .u64 ((xH 64 (a:Int)&&&xH 64 4294967295).toNat:Int)))=_
 rw [show xH 64 (a:Int)=tf 64 a from tg 64 a,show xH 64 4294967295=tf 64 4294967295 from rfl];rw [BitVec.toNat_and,vP,vP,show (4294967295%2^64:Nat)=2^32-1 from rfl,Nat.and_two_pow_sub_one_eq_mod,wrapM]
 grind
def Oi {a b:Nat} (ha:a<18446744073709551616) (hb:b<18446744073709551616):binOp .or (.int .u64 (a:Int)) (.int .u64 (b:Int))=some (uc (a|||b)):=by
 show some (AV.int .u64 (IntKind.wrap .u64 ((xH 64 (a:Int)|||xH 64 (b:Int)).toNat:Int)))=_
 congr 2
 rw [show xH 64 (a:Int)=tf 64 a from tg 64 a,show xH 64 (b:Int)=tf 64 b from tg 64 b];rw [BitVec.toNat_or,vP,vP,yL (show a<2^64 from ha),yL (show b<2^64 from hb),wrapM]
 have:a|||b<2^64:=Nat.or_lt_two_pow ha hb
 omega
def QN {p s c:Nat} (h:c<2^s):(p*2^s)|||c=p*2^s+c:=by
 rw [<-Nat.shiftLeft_eq,<-Nat.shiftLeft_add_eq_or_of_lt h]
def Pa:∀(f n:Nat),n<2^f->dh f n<=f/\n<2^dh f n/\(0<n->0<dh f n/\2^(dh f n-1)<=n)
 | 0,n,h=>by simp [dh];simpa using h
 | f+1,n,h=>by
  simp only [dh];by_cases h0:n=0
  ·simp_all
  ·rw [bW h0,yG];obtain ⟨h1,h2,h3⟩:=Pa f (n/2) (by omega);refine ⟨by omega,?_,fun _=>⟨by omega,?_⟩⟩
   ·grind
   ·rw [Nat.add_sub_cancel_left];by_cases hn:0<n/2
    ·obtain ⟨h4,h5⟩:=h3 hn;obtain ⟨m,hm⟩:∃m,dh f (n/2)=m+1:=⟨dh f (n/2)-1,by omega⟩
     grind
    ·have hz:n/2=0:=by omega
     have:dh f 0=0:=by cases f with
      | zero=>rfl
      | succ f=>rfl
     grind
def P0 {y:Nat} (h0:0<y) (h:y<18446744073709551616):64-dh 64 y<64/\9223372036854775808<=y*2^(64-dh 64 y)/\y*2^(64-dh 64 y)<18446744073709551616:=by
 obtain ⟨h1,h2,h3⟩:=Pa 64 y h;obtain ⟨h4,h5⟩:=h3 h0;generalize dh 64 y=k at*
 refine ⟨by omega,?_,?_⟩
 ·have:=yQ (2^(64-k)) h5
  rw [<-xL,show k-1+(64-k)=63 by omega] at this;exact this
 ·have:=xS h2 (xn (64-k))
  rw [<-xL,show k+(64-k)=64 by omega] at this;exact this
section
variable {P:aF} {L:Lib} {f:cu}
def ZN (h:L.pure 167=some DZ) {x:Nat} (hx:x<18446744073709551616):bE P L f 167 [uc x]=some (aa (64-dh 64 x:Nat)):=by
 rw [ir h];show (bif yJ x 18446744073709551616 then _ else none)=_
 rw [jQ hx];rfl
def ais {b v1 v2 u u2 t r:Nat} (cz:v2<b) (jX:t<b) (ht:t*v1+r=u) (h:b<=r\/t*v2<=b*r+u2):t*(v1*b+v2)<=u*b+u2:=by
 have h2:t*v2<=b*r+u2:=by
  rcases h with h | h
  ·have:=wW (uZ jX) (uZ cz)
   have:=yS b h
   omega
  ·exact h
 rw [xB,<-xp,<-ht,wh,xy r b];omega
def arO (n:Nat):iB (.toInt .u64) (.int .i64 (n:Int))=some (uc (n%18446744073709551616)):=by
 show some (AV.int .u64 (IntKind.wrap .u64 (n:Int)))=_
 rw [wrapM]
def VX {y v1 v2 u u2 q r:Nat} (hy:y=v1*4294967296+v2) (cz:v2<4294967296) (E1:0<v1) (dN:v1<4294967296) (hu:u<y) (zG:u2<4294967296) (hq:q*v1+r=u) (hr:r<4294967296) (hQ:(u*4294967296+u2)/y<=q):
  (4294967296<=q\/4294967296*r+u2<q*v2->0<q/\(q-1)*v1+(r+v1)=u/\(u*4294967296+u2)/y<=q-1/\(4294967296<=r+v1->(u*4294967296+u2)/y=q-1))/\
  (¬4294967296<=q->q*v2<=4294967296*r+u2->(u*4294967296+u2)/y=q):=by
 have iL:0<y:=by omega
 have Oj:∀t s,t*v1+s=u->4294967296<=t->s<4294967296:=fun t s h1 h2=>by
  have:=yQ v1 h2
  grind
 have ZO:∀t s,t*v1+s=u->t<4294967296->(4294967296<=s\/t*v2<=4294967296*s+u2)->(u*4294967296+u2)/y<=t->(u*4294967296+u2)/y=t:=fun t s h1 h2 h3 h4=>by
  have:=ais cz h2 h1 h3
  rw [<-hy] at this
  have:=(tp iL).2 this
  omega
 constructor
 ·intro h;have bt:0<q:=by
   grind
  have h1:(q-1)*v1+(r+v1)=u:=by
   obtain ⟨p,rfl⟩:∃p,q=p+1:=⟨q-1,by omega⟩
   grind
  have h2:(u*4294967296+u2)/y<=q-1:=by
   have aR:u*4294967296+u2<q*y:=by
    rcases h with h | h
    ·have h3:u*4294967296+u2<4294967296*y:=by omega
     exact yu h3 (yQ y h)
    ·rw [hy,xB,<-xp,<-hq,wh,xy r];omega
   have:=(wz iL).2 aR
   omega
  exact ⟨bt,h1,h2,fun h3=>ZO _ _ h1 (by
   by_cases hb:4294967296<=q-1
   ·have:=Oj _ _ h1 hb;omega
   ·omega) (.inl h3) h2⟩
 ·intro h1 h2;exact ZO q r hq (by omega) (.inr h2) hQ
def apM {y s v1 v2 u u2 z:Nat} (hy:y=v1*4294967296+v2) (cz:v2<4294967296) (E1:0<v1) (dN:v1<4294967296) (hu:u<y) (zG:u2<4294967296):
  ∀k st,(∃q r:Nat,aT [2,8,9,10,11,13,14,15,16] st=⟨[(2,uc y),(8,uc s),(9,uc v1),(10,uc v2),(11,uc u),(13,uc u2),(14,uc z),(15,uc q),(16,uc r)],[],0,0⟩/\q*v1+r=u/\r<4294967296/\(u*4294967296+u2)/y<=q/\q=k)->
   ∃ex st',D P L (.loop [2,8,9,10,11,13,14,15,16] Am) st=some (ex,st')/\∃tm ct,st'=⟨tm,[],ct,0⟩/\ex= .exit 0/\aj tm 2=uc y/\aj tm 8=uc s/\aj tm 9=uc v1/\aj tm 10=uc v2/\aj tm 11=uc u/\aj tm 13=uc u2/\aj tm 14=uc z/\aj tm 15=uc ((u*4294967296+u2)/y):=by
 intro dq sq;generalize bt:aT [2,8,9,10,11,13,14,15,16] sq=s0;revert bt s0 sq dq;apply dU;rintro k st ⟨q,r,rfl,hq,hr,hQ,rfl⟩;obtain ⟨g1,g2⟩:=VX hy cz E1 dN hu zG hq hr hQ;have hqb:q*1<=q*v1:=yS q E1;have as9:=yQ 4294967296 (show v1<=4294967295 by omega);have nY:q<18446744073709551616:=by omega
 have TB:=yS 4294967296 (show r<=4294967295 by omega);have e1:=oK 4294967296 r;rw [show uc 4294967296=AV.int .u64 4294967296 from rfl,yL (show 4294967296*r<18446744073709551616 by omega)] at e1;have e2:=AF (4294967296*r) u2;rw [yL (show 4294967296*r+u2<18446744073709551616 by omega)] at e2;have e4:=AF r v1;rw [yL (show r+v1<18446744073709551616 by omega)] at e4;by_cases hc:4294967296<=q\/4294967296*r+u2<q*v2
 ·obtain ⟨h0,h1,h2,h3⟩:=g1 hc;have e3:binOp .sub (uc q) (.int .u64 1)=some (uc (q-1)):=Cu (b:=1) (by omega) (by omega);by_cases hb:4294967296<=r+v1
  ·right
   have zH:=h3 hb;rcases (show 4294967296<=q\/(¬4294967296<=q/\4294967296*r+u2<q*v2) by omega) with t1 | ⟨t1,t2⟩
   ·simp only [go_sem,ya,Am,show (4294967296:Int)<=(q:Int) by omega,e3,e4,show (4294967296:Int)<=((r+v1:Nat):Int) by omega];exact ⟨_,_,rfl,by simp,_,_,rfl,rfl,by simp only [go_sem,ya],by simp only [go_sem,ya],by simp only [go_sem,ya],by simp only [go_sem,ya],by simp only [go_sem,ya],by simp only [go_sem,ya],by simp only [go_sem,ya],by rw [zH];simp only [go_sem,ya]⟩
   ·have Ui:=wW (show q<=4294967295 by omega) (show v2<=4294967295 by omega);have e5:=oK q v2;rw [yL (show q*v2<18446744073709551616 by omega)] at e5;simp only [go_sem,ya,Am,show ¬(4294967296:Int)<=(q:Int) by omega,e5,e1,e2,show ((4294967296*r+u2:Nat):Int)<((q*v2:Nat):Int) by omega,e3,e4,show (4294967296:Int)<=((r+v1:Nat):Int) by omega];exact ⟨_,_,rfl,by simp,_,_,rfl,rfl,by simp only [go_sem,ya],by simp only [go_sem,ya],by simp only [go_sem,ya],by simp only [go_sem,ya],by simp only [go_sem,ya],by simp only [go_sem,ya],by simp only [go_sem,ya],by rw [zH];simp only [go_sem,ya]⟩
  ·left
   rcases (show 4294967296<=q\/(¬4294967296<=q/\4294967296*r+u2<q*v2) by omega) with t1 | ⟨t1,t2⟩
   ·simp only [go_sem,ya,Am,show (4294967296:Int)<=(q:Int) by omega,e3,e4,show ¬(4294967296:Int)<=((r+v1:Nat):Int) by omega];exact ⟨_,q-1,rfl,by omega,q-1,r+v1,by simp only [go_sem,ya,az],h1,by omega,h2,rfl⟩
   ·have Ui:=wW (show q<=4294967295 by omega) (show v2<=4294967295 by omega);have e5:=oK q v2;rw [yL (show q*v2<18446744073709551616 by omega)] at e5;simp only [go_sem,ya,Am,show ¬(4294967296:Int)<=(q:Int) by omega,e5,e1,e2,show ((4294967296*r+u2:Nat):Int)<((q*v2:Nat):Int) by omega,e3,e4,show ¬(4294967296:Int)<=((r+v1:Nat):Int) by omega];exact ⟨_,q-1,rfl,by omega,q-1,r+v1,by simp only [go_sem,ya,az],h1,by omega,h2,rfl⟩
 ·right
  have zH:=g2 (by omega) (by omega);have e5:=oK q v2;rw [yL (show q*v2<18446744073709551616 by omega)] at e5;simp only [go_sem,ya,Am,show ¬(4294967296:Int)<=(q:Int) by omega,e5,e1,e2,show ¬((4294967296*r+u2:Nat):Int)<((q*v2:Nat):Int) by omega];exact ⟨_,_,rfl,by simp,_,_,rfl,rfl,by simp only [go_sem,ya],by simp only [go_sem,ya],by simp only [go_sem,ya],by simp only [go_sem,ya],by simp only [go_sem,ya],by simp only [go_sem,ya],by simp only [go_sem,ya],by rw [zH];simp only [go_sem,ya]⟩
def apN {y s v1 v2 u u2 z:Nat} (hy:y=v1*4294967296+v2) (cz:v2<4294967296) (E1:0<v1) (dN:v1<4294967296) (hu:u<y) (zG:u2<4294967296):
  ∀k st,(∃q r:Nat,aT [2,8,9,10,14,15,16,17,18] st=⟨[(2,uc y),(8,uc s),(9,uc v1),(10,uc v2),(14,uc u2),(15,uc z),(16,uc r),(17,uc u),(18,uc q)],[],0,0⟩/\q*v1+r=u/\r<4294967296/\(u*4294967296+u2)/y<=q/\q=k)->
   ∃ex st',D P L (.loop [2,8,9,10,14,15,16,17,18] An) st=some (ex,st')/\∃tm ct,st'=⟨tm,[],ct,0⟩/\ex= .exit 2/\aj tm 2=uc y/\aj tm 8=uc s/\aj tm 9=uc v1/\aj tm 10=uc v2/\aj tm 14=uc u2/\aj tm 15=uc z/\aj tm 17=uc u/\aj tm 18=uc ((u*4294967296+u2)/y):=by
 intro dq sq;generalize bt:aT [2,8,9,10,14,15,16,17,18] sq=s0;revert bt s0 sq dq;apply dU;rintro k st ⟨q,r,rfl,hq,hr,hQ,rfl⟩;obtain ⟨g1,g2⟩:=VX hy cz E1 dN hu zG hq hr hQ;have hqb:q*1<=q*v1:=yS q E1;have as9:=yQ 4294967296 (show v1<=4294967295 by omega);have nY:q<18446744073709551616:=by omega
 have TB:=yS 4294967296 (show r<=4294967295 by omega);have e1:=oK 4294967296 r;rw [show uc 4294967296=AV.int .u64 4294967296 from rfl,yL (show 4294967296*r<18446744073709551616 by omega)] at e1;have e2:=AF (4294967296*r) u2;rw [yL (show 4294967296*r+u2<18446744073709551616 by omega)] at e2;have e4:=AF r v1;rw [yL (show r+v1<18446744073709551616 by omega)] at e4;by_cases hc:4294967296<=q\/4294967296*r+u2<q*v2
 ·obtain ⟨h0,h1,h2,h3⟩:=g1 hc;have e3:binOp .sub (uc q) (.int .u64 1)=some (uc (q-1)):=Cu (b:=1) (by omega) (by omega);by_cases hb:4294967296<=r+v1
  ·right
   have zH:=h3 hb;rcases (show 4294967296<=q\/(¬4294967296<=q/\4294967296*r+u2<q*v2) by omega) with t1 | ⟨t1,t2⟩
   ·simp only [go_sem,ya,An,show (4294967296:Int)<=(q:Int) by omega,e3,e4,show (4294967296:Int)<=((r+v1:Nat):Int) by omega];exact ⟨_,_,rfl,by simp,_,_,rfl,rfl,by simp only [go_sem,ya],by simp only [go_sem,ya],by simp only [go_sem,ya],by simp only [go_sem,ya],by simp only [go_sem,ya],by simp only [go_sem,ya],by simp only [go_sem,ya],by rw [zH];simp only [go_sem,ya]⟩
   ·have Ui:=wW (show q<=4294967295 by omega) (show v2<=4294967295 by omega);have e5:=oK q v2;rw [yL (show q*v2<18446744073709551616 by omega)] at e5;simp only [go_sem,ya,An,show ¬(4294967296:Int)<=(q:Int) by omega,e5,e1,e2,show ((4294967296*r+u2:Nat):Int)<((q*v2:Nat):Int) by omega,e3,e4,show (4294967296:Int)<=((r+v1:Nat):Int) by omega];exact ⟨_,_,rfl,by simp,_,_,rfl,rfl,by simp only [go_sem,ya],by simp only [go_sem,ya],by simp only [go_sem,ya],by simp only [go_sem,ya],by simp only [go_sem,ya],by simp only [go_sem,ya],by simp only [go_sem,ya],by rw [zH];simp only [go_sem,ya]⟩
  ·left
   rcases (show 4294967296<=q\/(¬4294967296<=q/\4294967296*r+u2<q*v2) by omega) with t1 | ⟨t1,t2⟩
   ·simp only [go_sem,ya,An,show (4294967296:Int)<=(q:Int) by omega,e3,e4,show ¬(4294967296:Int)<=((r+v1:Nat):Int) by omega];exact ⟨_,q-1,rfl,by omega,q-1,r+v1,by simp only [go_sem,ya,az],h1,by omega,h2,rfl⟩
   ·have Ui:=wW (show q<=4294967295 by omega) (show v2<=4294967295 by omega);have e5:=oK q v2;rw [yL (show q*v2<18446744073709551616 by omega)] at e5;simp only [go_sem,ya,An,show ¬(4294967296:Int)<=(q:Int) by omega,e5,e1,e2,show ((4294967296*r+u2:Nat):Int)<((q*v2:Nat):Int) by omega,e3,e4,show ¬(4294967296:Int)<=((r+v1:Nat):Int) by omega];exact ⟨_,q-1,rfl,by omega,q-1,r+v1,by simp only [go_sem,ya,az],h1,by omega,h2,rfl⟩
 ·right
  have zH:=g2 (by omega) (by omega);have e5:=oK q v2;rw [yL (show q*v2<18446744073709551616 by omega)] at e5;simp only [go_sem,ya,An,show ¬(4294967296:Int)<=(q:Int) by omega,e5,e1,e2,show ¬((4294967296*r+u2:Nat):Int)<((q*v2:Nat):Int) by omega];exact ⟨_,_,rfl,by simp,_,_,rfl,rfl,by simp only [go_sem,ya],by simp only [go_sem,ya],by simp only [go_sem,ya],by simp only [go_sem,ya],by simp only [go_sem,ya],by simp only [go_sem,ya],by simp only [go_sem,ya],by rw [zH];simp only [go_sem,ya]⟩
def aaY (a:Nat):binOp .shr (.int .u64 (a:Int)) (.int .u64 32)=some (uc (a/4294967296)):=IS .u64 a (s:=32) (by decide)
def ab0 (a:Nat) {b:Nat} (ha:a<18446744073709551616) (hb:0<b):binOp .quo (uc a) (uc b)=some (uc (a/b)):=by
 rw [eS _ _ _ (by omega),xJ (by omega),<-Int.natCast_ediv,wrapM,yL];exact we (wV a b) ha
def ata (a:Nat) {b:Nat} (hb:0<b):binOp .rem (uc a) (uc b)=some (uc (a%b)):=by
 rw [fD _ _ _ (by omega),xr (by omega),<-Int.natCast_emod]
def ait {hi lo y s u z Y:Nat} (hs:s<64) (aY:lo<18446744073709551616) (hY:Y=y*2^s) (hu:u=hi*2^s+lo/2^(64-s)) (hz:z=lo*2^s%18446744073709551616):
  (hi*18446744073709551616+lo)*2^s=u*18446744073709551616+z:=by
 have e:18446744073709551616=2^(64-s)*2^s:=by rw [<-xL,show 64-s+s=64 by omega]
 have h1:lo*2^s/18446744073709551616=lo/2^(64-s):=by
  rw [e,yaO _ _ (xn s)]
 grind
def Xp {Y q a b:Nat} (h1:a<Y) (h2:b<4294967296) (h3:q=(a*4294967296+b)/Y):q<4294967296:=by
 rw [h3];exact (wz (by omega)).2 (by omega)
def akO {u w x z z0 z1 q0 q1 Y:Nat} (jW:q1*Y+w=u*4294967296+z1) (fB:q0*Y+x=w*4294967296+z0) (hz:z=z1*4294967296+z0):u*18446744073709551616+z=(q1*4294967296+q0)*Y+x:=by grind
def agN {q1 q0:Nat} (h1:q1<4294967296) (h0:q0<4294967296):q1*4294967296<18446744073709551616/\q1*4294967296+q0<18446744073709551616:=by omega
def ab1 (h:Has P L 165 Io) (IT:L.pure 167=some DZ) {hi lo y:Nat} (fA:hi<y) (aY:lo<18446744073709551616) (hy:y<18446744073709551616):
  ah P L 165 [uc hi,uc lo,uc y] (.au [uc ((hi*18446744073709551616+lo)/y),uc ((hi*18446744073709551616+lo)%y)]):=by
 have iL:0<y:=by omega
 by_cases h0:hi=0
 ·subst h0;have e1:=ab0 lo aY iL;have e2:=ata lo iL;rw [Nat.zero_mul,yf];unfold ah;rw [aC h];simp only [go_sem,ya,Io,show ¬(y:Int)=0 by omega,show ¬(y:Int)<=0 by omega,show ((0:Nat):Int)=0 from rfl,e1,e2];rfl
 ·obtain ⟨s,hs⟩:∃s,s=64-dh 64 y:=⟨_,rfl⟩;have hl:=ZN (P:=P) (f:=D P L) IT hy;obtain ⟨l1,l2,l3⟩:=P0 iL hy;rw [<-hs] at hl l1 l2 l3;obtain ⟨Y,hY⟩:∃Y,Y=y*2^s:=⟨_,rfl⟩;obtain ⟨u,hu⟩:∃u,u=hi*2^s+lo/2^(64-s):=⟨_,rfl⟩;obtain ⟨z,hz⟩:∃z,z=lo*2^s%18446744073709551616:=⟨_,rfl⟩;have hdiv:=ait l1 aY hY hu hz;rw [<-hY] at l2 l3;have hp:=xn s;obtain ⟨v1,dN⟩:∃v,v=Y/4294967296:=⟨_,rfl⟩;obtain ⟨v2,cz⟩:∃v,v=Y%4294967296:=⟨_,rfl⟩;have hYv:Y=v1*4294967296+v2:=by omega
  obtain ⟨z1,lH⟩:∃v,v=z/4294967296:=⟨_,rfl⟩;obtain ⟨z0,kN⟩:∃v,v=z%4294967296:=⟨_,rfl⟩;have E2:z<18446744073709551616:=by omega
  have hhY:hi*2^s<Y:=by rw [hY];exact xS fA hp
  have eM:lo/2^(64-s)<2^s:=by
   refine (wz (xn _)).2 ?_;rw [<-xL,show s+(64-s)=64 by omega];exact aY
  have nT:hi*2^s|||lo/2^(64-s)=u:=by rw [QN eM,hu]
  have hN:hi*18446744073709551616+lo<y*18446744073709551616:=by
   have:=yQ 18446744073709551616 (show hi+1<=y from fA)
   omega
  have Uj:u<Y:=by
   have h1:=xS hN hp;rw [hdiv,Nat.mul_right_comm,<-hY] at h1;omega
  obtain ⟨q1,eQ⟩:∃q,q=(u*4294967296+z1)/Y:=⟨_,rfl⟩;obtain ⟨w,hw⟩:∃q,q=(u*4294967296+z1)%Y:=⟨_,rfl⟩;obtain ⟨q0,bt⟩:∃q,q=(w*4294967296+z0)/Y:=⟨_,rfl⟩;obtain ⟨x,hx⟩:∃q,q=(w*4294967296+z0)%Y:=⟨_,rfl⟩;have Ok:w<Y:=by rw [hw];exact xE _ (by omega)
  have Uk:x<Y:=by rw [hx];exact xE _ (by omega)
  have jW:=xV (u*4294967296+z1) Y;rw [<-eQ,<-hw,xy] at jW;have fB:=xV (w*4294967296+z0) Y;rw [<-bt,<-hx,xy] at fB;have atb:=Xp Uj (show z1<4294967296 by omega) eQ;have atc:=Xp Ok (show z0<4294967296 by omega) bt;obtain ⟨td1,td2⟩:=agN atb atc;have M9:(hi*18446744073709551616+lo)*2^s=(q1*4294967296+q0)*Y+x:=by
   rw [hdiv];exact akO jW fB (by omega)
  have r1:(hi*18446744073709551616+lo)/y=q1*4294967296+q0:=by
   rw [<-yaO _ _ hp,M9,<-hY,xy _ Y,Nat.mul_add_div (by omega),xP Uk,yW]
  have r2:x/2^s=(hi*18446744073709551616+lo)%y:=by
   have h1:x=(hi*18446744073709551616+lo)*2^s%(y*2^s):=by
    rw [M9,<-hY,xy _ Y,Nat.mul_add_mod,yL Uk]
   rw [h1,tN,Nat.mul_div_cancel _ hp]
  have o1:=IR .u64 y (s:=s) (by omega);rw [<-hY,yL l3] at o1;have o2:=aaY Y;rw [<-dN] at o2;have o3:=abZ Y;rw [<-cz] at o3;have o4:=IR .u64 hi (s:=s) (by omega);rw [yL (show hi*2^s<18446744073709551616 by omega)] at o4;have o5:binOp .sub (.int .u64 64) (uc s)=some (uc (64-s)):=Cu (a:=64) (by omega) (by omega);have o6:=IS .u64 lo (s:=64-s) (by omega);have o7:=Oi (a:=hi*2^s) (b:=lo/2^(64-s)) (by omega) (we (wV _ _) aY);rw [nT] at o7;have o8:=IR .u64 lo (s:=s) (by omega);rw [<-hz] at o8;have o9:=aaY z;rw [<-lH] at o9;have o10:=abZ z;rw [<-kN] at o10;have Em:0<v1:=by omega
  have aaZ:∀{a:Nat},a<Y->binOp .quo (uc a) (uc v1)=some (uc (a/v1))/\binOp .mul (uc (a/v1)) (uc v1)=some (uc (a/v1*v1))/\binOp .sub (uc a) (uc (a/v1*v1))=some (uc (a%v1)):=fun {a} ha=>by
   have h1:=xV a v1;rw [xy] at h1;have h2:=oK (a/v1) v1;generalize a/v1*v1=m at*
   rw [yL (show m<18446744073709551616 by omega)] at h2;exact ⟨ab0 a (by omega) Em,h2,Cu (by omega) (by omega)⟩
  obtain ⟨g1,g2,g3⟩:=aaZ Uj;obtain ⟨g4,g5,g6⟩:=aaZ Ok;have first:∀{a b:Nat},b<4294967296->(a*4294967296+b)/Y<=a/v1:=fun {a b} hb=>by
   have:=OU (b:=4294967296) (V:=Y) (v1:=v1) (v2:=v2) (vr:=0) (U:=a*4294967296+b) (u0:=0) (u1:=a) (u2:=b) (ur:=0) (p:=1) (by omega) (by omega) (by decide) hb Em
   simpa using this
  have back:∀{a b q x:Nat},a*4294967296+b=q*Y+x->x<Y->binOp .mul (uc a) (.int .u64 4294967296)=some (uc (a*4294967296%18446744073709551616))/\binOp .add (uc (a*4294967296%18446744073709551616)) (uc b)=some (uc ((a*4294967296%18446744073709551616+b)%18446744073709551616))/\
    binOp .mul (uc q) (uc Y)=some (uc (q*Y%18446744073709551616))/\binOp .sub (uc ((a*4294967296%18446744073709551616+b)%18446744073709551616)) (uc (q*Y%18446744073709551616))=some (uc x):=fun {a b q x} h1 h2=>by
   refine ⟨oK a 4294967296,AF _ _,oK q Y,Cu ?_ (by omega)⟩;generalize q*Y=m at*
   omega
  obtain ⟨k1,k2,k3,k4⟩:=back jW.symm Ok;obtain ⟨k5,k6,k7,k8⟩:=back fB.symm Uk;have m1:=oK q1 4294967296;rw [yL td1,show uc 4294967296=AV.int .u64 4294967296 from rfl] at m1;have m2:=AF (q1*4294967296) q0;rw [yL td2] at m2;have m3:=IS .u64 x (s:=s) (by omega);rw [r1,<-r2];unfold ah;rw [aC h];simp only [go_sem,ya,Io,show ¬(y:Int)=0 by omega,show ¬(y:Int)<=(hi:Int) by omega,show ¬(hi:Int)=0 by omega,hl,arO,yL (show s<18446744073709551616 by omega),o1,o2,o3,o4,o5,o6,o7,o8,o9,o10,g1,g2,g3];generalize kO:D P L (.loop [2,8,9,10,11,13,14,15,16] Am) _=qq
  obtain ⟨ex,st,rfl,tm,ct,rfl,rfl,t2,t8,t9,t10,t11,t13,t14,t15⟩:=b9 kO (apM (P:=P) (L:=L) (s:=s) (z:=z0) hYv (by omega) Em (by omega) Uj (show z1<4294967296 by omega) (u/v1)) ⟨u/v1,u%v1,by simp only [go_sem,ya,az],by rw [xy];exact xV u v1,by have:=xE u Em;omega,first (by omega),rfl⟩
  rw [<-eQ] at t15;simp only [go_sem,ya,az,t2,t8,t9,t10,t11,t13,t14,t15,k1,k2,k3,k4,g4,g5,g6];generalize Cv:D P L (.loop [2,8,9,10,14,15,16,17,18] An) _=Ul;obtain ⟨ex,st,rfl,mP,ct2,rfl,rfl,t2,t8,t9,t10,t14,t15,t17,t18⟩:=b9 Cv (apN (P:=P) (L:=L) (s:=s) (z:=q1) hYv (by omega) Em (by omega) Ok (show z0<4294967296 by omega) (w/v1)) ⟨w/v1,w%v1,by simp only [go_sem,ya,az],by rw [xy];exact xV w v1,by have:=xE w Em;omega,first (by omega),rfl⟩
  rw [<-bt] at t18;simp only [go_sem,ya,az,t2,t8,t14,t15,t17,t18,m1,m2,k5,k6,k7,k8,m3];rfl
end
mutual
def below (n:Nat):AV->Prop
 | .ptr id _=>id<n
 | .ay id _ _=>id<n
 | .map id=>id<n
 | .it id=>id<n
 | .fn (.f _) first cap=>jN n first/\jN n cap
 | .fn (.y l) first cap=>l<n/\first=[]/\cap=[]
 | .agg cs=>jN n cs
 | .au cs=>jN n cs
 | _=>True
def jN (n:Nat):List AV->Prop
 | []=>True
 | v::r=>below n v/\jN n r
end
def jw (n:Nat):Env->Prop
 | []=>True
 | (_,v)::r=>below n v/\jw n r
def mC (n:Nat):Obj->Prop
 | .cells _ pu _ _ cs=>pu=true\/jN n cs
 | .mp _ ks vs=>jN n ks/\jN n vs
 | .si _ _=>True
 | .lp tm _ _ _ _ _=>jw n tm
def pK (b n:Nat):Hp->Prop
 | []=>True
 | (id,o)::r=>id<b/\mC n o/\pK b n r
mutual
def Xq {f:Nat->Option Nat} {n:Nat} (hf:∀x,x<n->f x=some x):∀{v:AV},below n v->bS f v=v
 | .int _ _,_ | .bool _,_ | .aK _ _,_ | .str _,_ | .kD,_ | .aH _,_ | .ae,_ | .aA _ _ _,_ | .iA,_ | .jC,_ | .jo _ _,_ | .undef,_ | .cr _ _ _ _,_=>rfl
 | .ptr id o,h=>by simp only [bS,hf id h]
 | .ay id o k,h=>by simp only [bS,hf id h]
 | .map id,h=>by simp only [bS,hf id h]
 | .it id,h=>by simp only [bS,hf id h]
 | .fn (.y l) first cap,h=>by
  obtain ⟨h1,rfl,rfl⟩:=h;simp only [bS,hf l h1,fG]
 | .fn (.f _) first cap,h=>by
  simp only [bS,zY hf h.1,zY hf h.2]
 | .agg cs,h=>by simp only [below] at h;simp only [bS,zY hf h]
 | .au cs,h=>by simp only [below] at h;simp only [bS,zY hf h]
def zY {f:Nat->Option Nat} {n:Nat} (hf:∀x,x<n->f x=some x):∀{vs:List AV},jN n vs->fG f vs=vs
 | [],_=>rfl
 | v::r,h=>by simp only [fG,Xq hf h.1,zY hf h.2]
end
def Kl {f:Nat->Option Nat} {n:Nat} (hf:∀x,x<n->f x=some x):∀{tm:Env},jw n tm->kE f tm=tm
 | [],_=>rfl
 | (_,v)::r,h=>by simp only [kE,Xq hf h.1,Kl hf h.2]
def agO {f:Nat->Option Nat} {n:Nat} (hf:∀x,x<n->f x=some x):∀{o:Obj},mC n o->lm f o=o
 | .cells _ pu _ _ cs,h=>by
  cases pu with
  | true=>rfl
  | false=>simp only [mC,yD,ycH] at h;simp only [lm,yG,zY hf h]
 | .mp _ ks vs,h=>by simp only [lm,zY hf h.1,zY hf h.2]
 | .si _ _,_=>rfl
 | .lp tm _ _ _ _ _,h=>by simp only [mC] at h;simp only [lm,Kl hf h]
mutual
def WC {n:Nat}:∀{v:AV},below n v->∀x,x∈refs v->x<n
 | .int _ _,_,x,h | .bool _,_,x,h | .aK _ _,_,x,h | .str _,_,x,h | .kD,_,x,h | .aH _,_,x,h | .ae,_,x,h | .aA _ _ _,_,x,h | .iA,_,x,h | .jC,_,x,h | .jo _ _,_,x,h | .undef,_,x,h | .cr _ _ _ _,_,x,h=>by simp [refs] at h
 | .ptr id o,h,x,hx=>by simp only [refs,vO] at hx;subst hx;exact h
 | .ay id o k,h,x,hx=>by simp only [refs,vO] at hx;subst hx;exact h
 | .map id,h,x,hx=>by simp only [refs,vO] at hx;subst hx;exact h
 | .it id,h,x,hx=>by simp only [refs,vO] at hx;subst hx;exact h
 | .fn (.y l) first cap,h,x,hx=>by simp only [refs,vO] at hx;subst hx;exact h.1
 | .fn (.f _) first cap,h,x,hx=>by
  simp only [refs,wC] at hx;exact hx.elim (zV h.1 x) (zV h.2 x)
 | .agg cs,h,x,hx=>by simp only [below] at h;simp only [refs] at hx;exact zV h x hx
 | .au cs,h,x,hx=>by simp only [below] at h;simp only [refs] at hx;exact zV h x hx
def zV {n:Nat}:∀{vs:List AV},jN n vs->∀x,x∈eG vs->x<n
 | [],_,x,h=>by simp [eG] at h
 | v::r,h,x,hx=>by
  simp only [eG,wC] at hx;exact hx.elim (WC h.1 x) (zV h.2 x)
end
def Gs {n:Nat}:∀{tm:Env},jw n tm->∀x,x∈ff tm->x<n
 | [],_,x,h=>by simp [ff] at h
 | (_,v)::r,h,x,hx=>by
  simp only [ff,wC] at hx;exact hx.elim (WC h.1 x) (Gs h.2 x)
def OV {n:Nat}:∀{o:Obj},mC n o->∀x,x∈ji o->x<n
 | .cells _ pu _ _ cs,h,x,hx=>by
  cases pu with
  | true=>simp [ji] at hx
  | false=>simp only [mC,yD,ycH] at h;exact zV h x hx
 | .mp _ ks vs,h,x,hx=>by
  simp only [ji,wC] at hx;exact hx.elim (zV h.1 x) (zV h.2 x)
 | .si _ _,_,x,hx=>by simp [ji] at hx
 | .lp tm _ _ _ _ _,h,x,hx=>by simp only [mC] at h;exact Gs h x hx
def bf (B:Nat):List (List AV)->Hp
 | []=>[]
 | cs::r=>(B+r.length,.cells true true true 1 cs)::bf B r
def Cb (B:Nat):List (List AV)->Hp->Hp
 | [],acc=>acc
 | cs::r,acc=>Cb (B+1) r ((B,.cells true true true 1 cs)::acc)
def WD:∀(l:List (List AV)) (B:Nat) (x:List AV) (acc:Hp),Cb B (l++[x]) acc=(B+l.length,.cells true true true 1 x)::Cb B l acc
 | [],B,x,acc=>rfl
 | c::l,B,x,acc=>by
  simp only [yX,Cb,WD l,yz]
  grind
def Py (B:Nat) (acc:Hp):∀rs:List (List AV),Cb B rs.reverse acc=bf B rs++acc
 | []=>rfl
 | c::r=>by
  simp only [ybq,WD,Py B acc r,yaW,bf,yX]
def KD {B:Nat} {old:Hp}:∀{rs:List (List AV)} {i:Nat} (h:i<rs.length),ak (bf B rs++old) (B+i)=some (.cells true true true 1 (rs.reverse[i]'(by simpa using h)))
 | c::r,i,h=>by
  simp only [bf,yX,ybq];by_cases hi:i=r.length
  ·subst hi;rw [ak,xz,yt]
   simp
  ·have aR:i<r.length:=by grind
   rw [ak,bW (by omega),yG,KD aR]
   grind
def qv {B:Nat} {old:Hp}:∀{rs:List (List AV)} {x:Nat},x<B->ak (bf B rs++old) x=ak old x
 | [],x,_=>rfl
 | c::r,x,h=>by
  simp only [bf,yX];rw [ak,bW (by omega),yG,qv h]
def OL {B:Nat} {old:Hp} {o:Obj}:∀{rs:List (List AV)} {x:Nat},x<B->aU (bf B rs++old) x o=bf B rs++aU old x o
 | [],x,_=>rfl
 | c::r,x,h=>by
  simp only [bf,yX];rw [aU,bW (by omega),yG,OL h]
def Vx {B:Nat} {old:Hp}:∀{rs:List (List AV)} {x:Nat},x<B->db (bf B rs++old) x=bf B rs++db old x
 | [],x,_=>rfl
 | c::r,x,h=>by
  simp only [bf,yX];rw [db,bW (by omega),yG,Vx h]
def lV {a b:Nat} (h:a<b):yJ a b=true:=by simp_all
def As {a b:Nat} (h:b<=a):yJ a b=false:=by
 cases hq:yJ a b with
 | false=>rfl
 | true=>have:=yq hq;omega
def Gm {B:Nat} {old:Hp}:∀rs:List (List AV),dS B (bf B rs++old)=dS B old
 | []=>rfl
 | c::r=>by
  simp only [bf,yX];rw [dS,As (by omega),yG,Gm r]
def Pb {B:Nat} {old:Hp} {f:Nat->Option Nat}:∀rs:List (List AV),jP B f (bf B rs++old)=jP B f old
 | []=>rfl
 | c::r=>by
  simp only [bf,yX];rw [jP,As (by omega),yG,Pb r]
def OW {B n:Nat} {f:Nat->Option Nat} (hf:∀x,x<n->f x=some x):∀{old:Hp},pK B n old->jP B f old=old
 | [],_=>rfl
 | (id,o)::r,h=>by
  rw [jP,lV h.1,yt,agO hf h.2.1,OW hf h.2.2]
def agP {B s x:Nat} (h:B+s<=x):lz x (xI B s)=false:=by
 induction s generalizing B with
 | zero=>rfl
 | succ s ih=>rw [vB,lz,bW (by omega),yG,ih (by omega)]
def Km {hp:Hp} {B R:Nat} (jq:∀i,i<R->∃rw ex sz cs,ak hp (B+i)=some (.cells rw true ex sz cs)):
  ∀(W:List Nat) (bg s:Nat),W.length<bg->s<=R->W.filter (fun x=> !yJ x B)=xI (B+s) (R-s)->reach hp B bg W (xI B s)=xI B R
 | [],0,s,hf,_,_=>by simp at hf
 | [],bg+1,s,hf,hs,h=>by
  have:R-s=0:=by
   grind
  rw [reach,show R=s by omega]
 | id::W,0,s,hf,_,_=>by simp at hf
 | id::W,bg+1,s,hf,hs,h=>by
  have rJ:W.length<bg:=by simp_all
  rw [reach];by_cases hid:id<B
  ·rw [lV hid,ybD,yt];rw [ybE,lV hid] at h;exact Km jq W bg s rJ hs (by simpa using h)
  ·rw [ybE,As (by omega)] at h;have hRs:R-s=(R-s-1)+1:=by
    have:=congrArg tV h
    grind
   rw [hRs,vB] at h;injection h with h1 h2
   subst h1;rw [As (by omega),uA,agP (yA _),yG];obtain ⟨rw,ex,sz,cs,ho⟩:=jq s (by omega);simp only [ho,ji,yt,xY];have e:xI B s++[B+s]=xI B (s+1):=by rw [List.range'_concat];simp
   rw [e];exact Km jq W bg (s+1) rJ (by omega) (by rw [h2,show R-s-1=R-(s+1) by omega,show B+s+1=B+(s+1) by omega])
def agQ {B s i k:Nat} (h:i<s):lZ (B+i) (xI B s) k=some (k+i):=by
 induction s generalizing B i k with
 | zero=>omega
 | succ s ih=>
  rw [vB,lZ];by_cases hi:i=0
  ·simp_all
  ·rw [bW (by omega),yG]
   have:=ih (B:=B+1) (i:=i-1) (k:=k+1) (by omega)
   grind
def VY {B R x:Nat} (h:x<B+R):jx B (xI B R) x=some x:=by
 unfold jx;by_cases hx:x<B
 ·rw [lV hx,yt]
 ·rw [As (by omega),yG]
  have:=agQ (B:=B) (s:=R) (i:=x-B) (k:=B) (by omega)
  grind
def Pc {hp:Hp} {f:Nat->Option Nat}:∀(ro:List (List AV)) (B:Nat) (acc:Hp),(∀i (h:i<ro.length),ak hp (B+i)=some (.cells true true true 1 ro[i]))->ki hp f (xI B ro.length) B acc=Cb B ro acc
 | [],B,acc,_=>rfl
 | c::r,B,acc,h=>by
  have h0:=h 0 (by simp);simp only [yW,List.getElem_cons_zero] at h0;rw [yz,vB,ki];simp only [h0,lm,yt,Cb]
  exact Pc r (B+1) _ (fun i hi=>by
   have:=h (i+1) (by simpa using hi)
   rw [show B+1+i=B+(i+1) by omega,this]
   simp)
def afv {live:List Nat} {tm:Env} {B ct:Nat} {old:Hp} {rs:List (List AV)} (ht:jw B (cG tm live)) (ho:pK B (B+rs.length) old) (hl:(ff (cG tm live)).length+(dS B old).length<100000)
  (hr:(dS B old).filter (fun x=> !yJ x B)=xI B rs.length):aT live ⟨tm,bf B rs++old,ct,B⟩=⟨cG tm live,bf B rs++old,B+rs.length,B⟩:=by
 have jq:∀i (h:i<rs.length),ak (bf B rs++old) (B+i)=some (.cells true true true 1 (rs.reverse[i]'(by simpa using h))):=fun i h=>KD h
 have LS:reach (bf B rs++old) B 100000 (ff (cG tm live)++dS B (bf B rs++old)) []=xI B rs.length:=by
  have:=Km (hp:=bf B rs++old) (B:=B) (R:=rs.length) (fun i hi=>⟨_,_,_,_,jq i hi⟩) (ff (cG tm live)++dS B (bf B rs++old)) 100000 0 (by rw [Gm,yR];exact hl) (tG _) (by
   rw [List.filter_append,Gm,hr,tD.2 (fun x hx=>by
    have:=Gs ht x hx
    simp [lV this])]
   simp)
  grind
 have hid:∀x,x<B+rs.length->jx B (xI B rs.length) x=some x:=fun x hx=>VY hx
 have hn:=Pc (hp:=bf B rs++old) (f:=jx B (xI B rs.length)) rs.reverse B old (fun i hi=>jq i (by simpa using hi));rw [yaW] at hn;simp only [aT,LS,Pb,OW hid ho,hn,Py,List.length_range']
 rw [Kl (n:=B) (fun x hx=>hid x (by omega)) ht]
def WE {B b n:Nat} (hb:b<=B):∀{H:Hp},pK b n H->∀x,x∈dS B H->x<n
 | [],_,x,hx=>by simp [dS] at hx
 | (id,o)::r,h,x,hx=>by
  rw [dS,lV (by have:=h.1;omega),yt,wC] at hx;exact hx.elim (OV h.2.1 x) (WE hb h.2.2 x)
def VZ {live:List Nat} {tm:Env} {B ct:Nat} {old:Hp} (ht:jw B (cG tm live)) (ho:pK B B old) (hl:(ff (cG tm live)).length+(dS B old).length<100000):
  aT live ⟨tm,old,ct,B⟩=⟨cG tm live,old,B,B⟩:=by
 have:=afv (rs:=[]) (ct:=ct) ht (by simpa using ho) hl (by
  rw [tD.2 (fun x hx=>by have:=WE (yA B) ho x hx;simp [lV this])]
  rfl)
 simpa [bf] using this
section
variable {P:aF} {L:Lib}
def G5 {n:Nat} {F:ax} (h:Has P L n F) {hp:Hp} {ct:Nat} {vals:List AV} {ex:Ex} {s:St} {v:AV} (hD:D P L F.body ⟨ew 0 vals,hp,ct,ct⟩=some (ex,s)) (he:ex= .normal\/ex= .ret) (hr:gW s F.dQ=some v):
  iw P L (D P L) hp ct n vals=some (v,s.hp,s.ct):=by
 simp only [iw,h.heap,h.code,hD]
 grind
def akP {hp:Hp} {ct l:Nat} {xs:List AV} {tm tm' iF mP:Env} {ps rE A5:List Nat} {a b a1 b1 a2 b2:VC} {pe oV pe2:q9} {s1 s2:St}
  (h1:ak hp l=some (.lp tm ps a b 0 pe)) (h2:pJ tm ps xs=some tm') (h3:D P L a ⟨tm',hp,ct,ct⟩=some (.normal,s1)) (h4:ak s1.hp l=some (.lp iF rE a1 b1 0 oV))
  (h5:D P L b ⟨s1.tm,aU s1.hp l (.lp iF rE a1 b1 1 oV),s1.ct,s1.ct⟩=some (.normal,s2)) (h6:ak s2.hp l=some (.lp mP A5 a2 b2 1 pe2)):
  j9 (D P L) hp ct l xs=some (.bool true,aU s2.hp l (.lp mP A5 a2 b2 0 .none),s2.ct):=by
 simp only [j9,h1,h2,h3,h4,h5,h6]
def arP {f:X} {ps:List Nat} {as_ body:VC} {s:St} {n:Nat} {first cap:List AV} {v:AV} {hp:Hp} {ct:Nat} {tm:Env} {ps':List Nat} {a b:VC} {st:Nat}
  (h1:aw s.tm f= .fn (.f n) first cap) (h2:L.heap n=none) (h3:iw P L (D P L) ((s.ct,.lp s.tm ps as_ body 0 .none)::s.hp) (s.ct+1) n (first++(.fn (.y s.ct) [] []::cap))=some (v,hp,ct))
  (h4:ak hp s.ct=some (.lp tm ps' a b st .none)) (h5:st≠1):D P L (.rf f ps as_ body) s=some (.normal,⟨s.tm,db hp s.ct,ct,s.base⟩):=by
 rw [kG];simp only [bq,h1,h2,h3,h4,bW h5,yG]
def fM (B n R:Nat):List AV:=(xG R).map (fun i=> .ay (B+i) 0 n)++yy (n-R) .ae
def jR (zero:AV) (val:Nat->Nat->AV) (n r c:Nat):List AV:=(xG c).map (fun c=>val c r)++yy (n-c) zero
def fF (val:Nat->Nat->AV) (n:Nat):Nat->List (List AV)
 | 0=>[]
 | r+1=>((xG n).map fun c=>val c r)::fF val n r
def BG (val:Nat->Nat->AV) (n:Nat):∀r,(fF val n r).length=r
 | 0=>rfl
 | r+1=>by rw [fF,yz,BG val n r]
def akQ {B n R:Nat} (h:R<=n):(fM B n R).length=n:=by simp [fM];omega
def akR {zero:AV} {val:Nat->Nat->AV} {n r c:Nat} (h:c<=n):(jR zero val n r c).length=n:=by simp [jR];omega
def Yi {l:List AV} {k:Nat} {v z:AV}:over l.length [v] (l++yy (k+1) z)=l++[v]++yy k z:=by
 simp only [over,List.take_left',yz,yK,yf,wq]
 simp_all
def aiu {B n R:Nat} (h:R<n):over R [.ay (B+R) 0 n] (fM B n R)=fM B n (R+1):=by
 have:=Yi (l:=(xG R).map (fun i=>AV.ay (B+i) 0 n)) (k:=n-R-1) (v:= .ay (B+R) 0 n) (z:= .ae)
 simp only [xo,ybr] at this;rw [show n-R-1+1=n-R by omega] at this;rw [fM,this,fM,tF,xC];rfl
def Xr {zero:AV} {val:Nat->Nat->AV} {n r c:Nat} (h:c<n):over c [val c r] (jR zero val n r c)=jR zero val n r (c+1):=by
 have:=Yi (l:=(xG c).map (fun c=>val c r)) (k:=n-c-1) (v:=val c r) (z:=zero)
 simp only [xo,ybr] at this;rw [show n-c-1+1=n-c by omega] at this;rw [jR,this,jR,tF,xC];rfl
def aiv {zero:AV} {val:Nat->Nat->AV} {n r:Nat}:jR zero val n r n=(xG n).map fun c=>val c r:=by simp [jR]
def aiw {zero:AV} {val:Nat->Nat->AV} {n r:Nat}:jR zero val n r 0=yy n zero:=by simp [jR]
def P1 (z:AV):∀n,(yy n [z]).flatten=yy n z
 | 0=>rfl
 | n+1=>by rw [wq,List.flatten_cons,P1 z n,wq];rfl
def ju (b n:Nat) (fnv:AV):Env:=[(11,.fn (.f 133) [] [.aH [.int .i64 n]]),(10,.int .i64 n),(5,.ptr (b+3) 0),(9,.ay (b+2) 0 n),(8,.int .i64 n),(4,.ae),(3,.ptr (b+1) 0),(2,.ptr b 0),(0,.int .i64 n),(1,fnv)]
def Vy {B b n:Nat} (hb:b<=B):∀{H:Hp},pK b n H->∀x,x∈dS B H->x<n
 | [],_,x,hx=>by simp [dS] at hx
 | (id,o)::r,h,x,hx=>by
  rw [dS,lV (by have:=h.1;omega),yt,wC] at hx;exact hx.elim (OV h.2.1 x) (Vy hb h.2.2 x)
def V1 {b b' n n':Nat} (hb:b<=b') (hn:∀o,mC n o->mC n' o):∀{H:Hp},pK b n H->pK b' n' H
 | [],_=>trivial
 | (id,o)::r,h=>⟨yu h.1 hb,hn o h.2.1,V1 hb hn h.2.2⟩
mutual
def Kn {n n':Nat} (h:n<=n'):∀{v:AV},below n v->below n' v
 | .int _ _,_ | .bool _,_ | .aK _ _,_ | .str _,_ | .kD,_ | .aH _,_ | .ae,_ | .aA _ _ _,_ | .iA,_ | .jC,_ | .jo _ _,_ | .undef,_ | .cr _ _ _ _,_=>trivial
 | .ptr _ _,k=>yu k h
 | .ay _ _ _,k=>yu k h
 | .map _,k=>yu k h
 | .it _,k=>yu k h
 | .fn (.f _) _ _,k=>⟨zW h k.1,zW h k.2⟩
 | .fn (.y _) _ _,k=>⟨yu k.1 h,k.2⟩
 | .agg cs,k=>by simp only [below] at k ⊢;exact zW h k
 | .au cs,k=>by simp only [below] at k ⊢;exact zW h k
def zW {n n':Nat} (h:n<=n'):∀{vs:List AV},jN n vs->jN n' vs
 | [],_=>trivial
 | _::_,k=>⟨Kn h k.1,zW h k.2⟩
end
def OX {n n':Nat} (h:n<=n'):∀{tm:Env},jw n tm->jw n' tm
 | [],_=>trivial
 | (_,_)::_,k=>⟨Kn h k.1,OX h k.2⟩
def af3 {n n':Nat} (h:n<=n'):∀{o:Obj},mC n o->mC n' o
 | .cells _ pu _ _ cs,k=>k.imp id (zW h)
 | .mp _ ks vs,k=>⟨zW h k.1,zW h k.2⟩
 | .si _ _,_=>trivial
 | .lp tm _ _ _ _ _,k=>by simp only [mC] at k ⊢;exact OX h k
mutual
def py {n:Nat}:∀{v:AV},aW v=true->below n v
 | .int _ _,_ | .bool _,_ | .aK _ _,_ | .str _,_ | .kD,_ | .aH _,_ | .ae,_ | .aA _ _ _,_ | .iA,_ | .jC,_ | .jo _ _,_ | .undef,_=>trivial
 | .cr _ _ _ _,_=>trivial
 | .ptr _ _,h | .ay _ _ _,h | .map _,h | .it _,h=>by simp [aW] at h
 | .fn (.y _) _ _,h=>by simp [aW] at h
 | .fn (.f _) _ _,h=>by
  simp only [aW,yg] at h;exact ⟨Dd h.1,Dd h.2⟩
 | .agg cs,h=>by simp only [aW] at h;simp only [below];exact Dd h
 | .au cs,h=>by simp only [aW] at h;simp only [below];exact Dd h
def Dd {n:Nat}:∀{vs:List AV},aD vs=true->jN n vs
 | [],_=>trivial
 | _::_,h=>by
  simp only [aD,yg] at h;exact ⟨py h.1,Dd h.2⟩
end
structure Mb (b:Nat) (fnv:AV) (H:Hp):Prop where
 fv:below b fnv
 fl:(refs fnv).length<=1000
 one:bn fnv=true
 hb:pK b b H
 hl:∀B,(dS B H).length<=1000
def agR {B n R:Nat}:jN (B+R) (fM B n R):=by
 have cQ:∀{a c:List AV},jN (B+R) a->jN (B+R) c->jN (B+R) (a++c):=by
  intro a c
  induction a with
  | nil=>intro _ h;exact h
  | cons x a ih=>intro h1 h2;exact ⟨h1.1,ih h1.2 h2⟩
 have hm:∀l:List Nat,(∀i,i∈l->i<R)->jN (B+R) (l.map fun i=>AV.ay (B+i) 0 n):=by
  intro l
  induction l with
  | nil=>intro _;trivial
  | cons x l ih=>intro h;exact ⟨by have:=h x (by simp);show B+x<B+R;omega,ih (fun i hi=>h i (by simp [hi]))⟩
 refine cQ (hm _ (fun i hi=>tL.1 hi)) (Dd ?_)
 induction n-R with
 | zero=>rfl
 | succ k ih=>rw [wq];exact ih
def aix {B n R:Nat}:eG (fM B n R)=xI B R:=by
 unfold fM;have cQ:∀a c:List AV,eG (a++c)=eG a++eG c:=by
  intro a c
  induction a with
  | nil=>rfl
  | cons x a ih=>simp only [yX,eG,ih,xt]
 have hm:∀l:List Nat,eG (l.map fun i=>AV.ay (B+i) 0 n)=l.map (B+·):=by
  intro l
  induction l with
  | nil=>rfl
  | cons x l ih=>simp only [xm,eG,refs,ih];rfl
 have hr:eG (yy (n-R) AV.ae)=[]:=by
  induction n-R with
  | zero=>rfl
  | succ k ih=>rw [wq];exact ih
 rw [cQ,hm,hr,xX,List.range'_eq_map_range]
end
section
variable {pre x post:List Nat} {i:Nat}
def ow:(pre++x++post).length=pre.length+x.length+post.length:=by grind
def BO (h:i<x.length):(pre++x++post).getD (pre.length+i) 0=x.getD i 0:=by grind
def Ln (a:Nat) (h:i<x.length):(pre++x++post).set (pre.length+i) a=pre++x.set i a++post:=by simp_all
end
def lW (n:Nat) (k:y8) (a:Int):below n (.int k a)=True:=rfl
def mD (n id o k:Nat):below n (.ay id o k)=(id<n):=rfl
def lR (n:Nat):jw n []=True:=rfl
def lO (n i:Nat) (v:AV) (r:Env):jw n ((i,v)::r)=(below n v/\jw n r):=rfl
def pG {live:List Nat} {tm:Env} {ct:Nat} {a b:List AV} (ht:jw 2 (cG tm live)) (hl:(ff (cG tm live)).length<100000):
  aT live ⟨tm,[(1,.cells true true true 1 a),(0,.cells true true true 1 b)],ct,2⟩=⟨cG tm live,[(1,.cells true true true 1 a),(0,.cells true true true 1 b)],2,2⟩:=
 VZ ht ⟨by omega,.inl rfl,by omega,.inl rfl,trivial⟩ (by
  have:dS 2 [(1,Obj.cells true true true 1 a),(0,Obj.cells true true true 1 b)]=[]:=rfl
  rw [this,yK,yW];exact hl)
section
variable {P:aF} {L:Lib}
def agS {x s c:Nat} (hs:s<64) (hx:x<18446744073709551616) (hc:c<2^s):
  c|||(x*2^s%18446744073709551616)<18446744073709551616/\c<18446744073709551616/\x/2^(64-s)<2^s/\(c|||(x*2^s%18446744073709551616))+18446744073709551616*(x/2^(64-s))=x*2^s+c:=by
 have e:18446744073709551616=2^(64-s)*2^s:=by rw [<-xL,show 64-s+s=64 by omega]
 have h1:x*2^s%18446744073709551616=(x%2^(64-s))*2^s:=by rw [e,tN]
 have h2:x/2^(64-s)<2^s:=by
  refine (wz (xn _)).2 ?_
  grind
 have h3:c|||(x*2^s%18446744073709551616)=(x%2^(64-s))*2^s+c:=by rw [h1,Nat.or_comm,QN hc]
 have h4:(x%2^(64-s))*2^s+c<18446744073709551616:=by
  have:=yQ (2^s) (show x%2^(64-s)+1<=2^(64-s) from xE _ (xn _))
  grind
 have h5:=uL x (2^(64-s))
 grind
def apO {v:AV} {w:List Nat} (hv:bB v w) (hw:lo 18446744073709551616 w) (lw:w.length<=99999999999) {s n:Nat} (hs:s<64) (hn:n=w.length+1):
  ∀k st,(∃(i:Nat) (out:List Nat),aT [1,5,12,13,14] st=⟨[(1,aa s),(5,.ay 0 0 n),(12,v),(13,aa w.length),(14,aa i)],[(0,.cells true true true 1 (out.map uc))],1,0⟩/\i+k=w.length/\out.length=n/\lo 18446744073709551616 out/\bv 18446744073709551616 out=bv 18446744073709551616 (w.take i)*2^s/\out.getD i 0<2^s/\(∀m,i<m->out.getD m 0=0))->
   ∃ex st',D P L (.loop [1,5,12,13,14] DH) st=some (ex,st')/\∃tm out,st'=⟨tm,[(0,.cells true true true 1 (out.map uc))],1,0⟩/\ex= .exit 0/\aj tm 5= .ay 0 0 n/\out.length=n/\lo 18446744073709551616 out/\bv 18446744073709551616 out=bv 18446744073709551616 w*2^s:=by
 intro dq sq;generalize bt:aT [1,5,12,13,14] sq=s0;revert bt s0 sq dq;apply dU;rintro k st ⟨i,out,rfl,hk,hlen,aY,aG,hc,fA⟩;by_cases hi:i<w.length
 ·left
  have gx:=gi (show 0<18446744073709551616 by decide) hw i;have ex:=hv.br hi;have ec:=sZ (l:=out) (o:=i) (by omega);have aU:=nt (b:=18446744073709551616) (l:=out) (i:=i) (x:=out.getD i 0|||(w.getD i 0*2^s%18446744073709551616)) (by omega);have hz:out.getD (i+1) 0=0:=fA _ (by omega);have di:=iP (b:=18446744073709551616) (l:=w) i;generalize out.getD i 0=c at*
  generalize w.getD i 0=x at*
  obtain ⟨s1,s2,s3,s4⟩:=agS hs gx hc;have o1:=IR .i64 x (s:=s) (by omega);have o2:=Oi s2 (xE (x*2^s) (by decide));have o3:binOp .sub (.int .i64 64) (aa s)=some (aa (64-s:Nat)):=by
   rw [Ll,wrap64 (by omega) (by omega)];congr 2;omega
  have o4:=IS .i64 x (s:=64-s) (by omega);generalize gC:c|||(x*2^s%18446744073709551616)=c' at*
  by_cases h0:0<s
  ·have Mc:=nt (b:=18446744073709551616) (l:=out.set i c') (i:=i+1) (x:=x/2^(64-s)) (by simp;omega);rw [ot (by omega),hz,xD,yW] at Mc;have atd:x/2^(64-s)<18446744073709551616:=we (wV _ _) gx;generalize x/2^(64-s)=y at*
   simp only [go_sem,ya,yk,DH,show (i:Int)<w.length by omega,ex,cT 0 0 (show i<n by omega),yf,ec,o1,o2,jY (l:=out) (o:=i) (by omega),show (0:Int)<(s:Int) by omega,show (i:Int)+1=((i+1:Nat):Int) from rfl,wrapN (n:=i+1) (by omega),o3,o4,cT 0 0 (show i+1<n by omega),jY (l:=out.set i c') (o:=i+1) (by simp;omega)];refine ⟨_,k-1,rfl,by omega,i+1,(out.set i c').set (i+1) y,by simp only [go_sem,ya,yd,az,aE hv.pu,aJ _ hv.pu]<;>rfl,by omega,by simp [hlen],lU (lU aY s1) atd,?_,by rw [agu (by simp;omega)];exact s3,fun m hm=>by rw [ot (by omega),ot (by omega)];exact fA m (by omega)⟩
   rw [di,wh,Mc,<-aG,y7,xp,xp (18446744073709551616^i)];have e:=congrArg (fun t=>18446744073709551616^i*t) s4;simp only [xB] at e;generalize 18446744073709551616^i*(18446744073709551616*y)=p1 at*
   generalize 18446744073709551616^i*(x*2^s)=p2 at*
   generalize 18446744073709551616^i*c'=p3 at*
   omega
  ·have ml:s=0:=by omega
   subst ml;have kK:c=0:=by simpa using hc
   have zI:x/2^(64-0)=0:=xP gx;rw [zI,xD,yW,ycJ,yk] at s4
   simp only [go_sem,ya,yk,DH,show (i:Int)<w.length by omega,ex,cT 0 0 (show i<n by omega),yf,ec,o1,o2,jY (l:=out) (o:=i) (by omega),show ¬(0:Int)<((0:Nat):Int) by omega,show (i:Int)+1=((i+1:Nat):Int) from rfl,wrapN (n:=i+1) (by omega)];refine ⟨_,k-1,rfl,by omega,i+1,out.set i c',by simp only [go_sem,ya,yd,az,aE hv.pu,aJ _ hv.pu]<;>rfl,by omega,by simp [hlen],lU aY s1,?_,by rw [ot (by omega),hz];exact xn _,fun m hm=>by rw [ot (by omega)];exact fA m (by omega)⟩
   rw [ycJ,yk] at aG ⊢;rw [di,<-aG];rw [kK,xD,yW] at aU;rw [aU,s4,kK,yW]
 ·right
  have:i=w.length:=by omega
  subst this;rw [xK] at aG;simp only [go_sem,ya,DH,show ¬(w.length:Int)<w.length by omega];exact ⟨_,_,rfl,by simp,_,out,rfl,rfl,by simp only [go_sem,ya],hlen,aY,aG⟩
def ab2 (h:Has P L 168 MO) {v:AV} {w:List Nat} (hv:bB v w) (hw:lo 18446744073709551616 w) (lw:w.length<=99999999999) {s:Nat} (hs:s<64):
  ∃out,ah P L 168 [v,aa s] (.cr true 1 (w.length+1) (out.map uc))/\out.length=w.length+1/\lo 18446744073709551616 out/\bv 18446744073709551616 out=bv 18446744073709551616 w*2^s:=by
 obtain ⟨n,hn⟩:∃n,n=w.length+1:=⟨_,rfl⟩;unfold ah;rw [aC h]
 simp only [go_sem,ya,yd,MO,hv.len,wrapN (n:=n) (by omega),show (w.length:Int)+1=((w.length+1:Nat):Int) from rfl,<-hn,Ct (n:=n) _ (by omega)];generalize hq:D P L (.loop [1,5,12,13,14] DH) _=q;obtain ⟨ex,st,rfl,tm,o,rfl,rfl,t5,hlen,aY,aG⟩:=b9 hq (apO (P:=P) (L:=L) hv hw lw hs hn w.length)
  ⟨0,yy n 0,by simp only [go_sem,ya,yd,az,aE hv.pu,aJ _ hv.pu]<;>rfl,by omega,by simp,DN (by decide) n,by rw [DO];simp [bv],by rw [BN];exact xn _,fun m _=>BN n m⟩
 refine ⟨o,?_,hlen,aY,aG⟩;simp only [go_sem,yd,az,t5];exact Wz (KS _ _ _) (by simp [hlen]) (by decide)
end
abbrev H2 (a b:List Nat):Hp:=[(1,.cells true true true 1 (a.map uc)),(0,.cells true true true 1 (b.map uc))]
structure gN (x vs:List Nat) (n v1 v2 u0 u1 u2:Nat):Prop where
 n2:2<=n
 nb:n<=99999999999
 lx:x.length=n+1
 lv:vs.length=n
 gx:lo 18446744073709551616 x
 gv:lo 18446744073709551616 vs
 dN:vs.getD (n-1) 0=v1
 cz:vs.getD (n-2) 0=v2
 h0:x.getD n 0=u0
 h1:x.getD (n-1) 0=u1
 h2:x.getD (n-2) 0=u2
 pos:0<v1
 lt:bv 18446744073709551616 x<18446744073709551616*bv 18446744073709551616 vs
def arQ (b p a v1 v2:Nat):a+p*v2+p*b*v1=(v1*b+v2)*p+a:=by grind
def arR (b p a v0 v1 v2:Nat):a+p*v2+p*b*v1+p*b*b*v0=((v0*b+v1)*b+v2)*p+a:=by grind
section
variable {x vs:List Nat} {n v1 v2 u0 u1 u2:Nat}
def gN.Jx (h:gN x vs n v1 v2 u0 u1 u2):v1<18446744073709551616:=h.dN▸gi (by decide) h.gv _
def gN.CZ (h:gN x vs n v1 v2 u0 u1 u2):v2<18446744073709551616:=h.cz▸gi (by decide) h.gv _
def gN.Jy (h:gN x vs n v1 v2 u0 u1 u2):u1<18446744073709551616:=h.h1▸gi (by decide) h.gx _
def gN.Jz (h:gN x vs n v1 v2 u0 u1 u2):u2<18446744073709551616:=h.h2▸gi (by decide) h.gx _
def gN.parts (h:gN x vs n v1 v2 u0 u1 u2):∃p vr ur,bv 18446744073709551616 vs=(v1*18446744073709551616+v2)*p+vr/\vr<p/\bv 18446744073709551616 x=((u0*18446744073709551616+u1)*18446744073709551616+u2)*p+ur/\ur<p:=by
 obtain ⟨m,hm⟩:∃m,n=m+2:=⟨n-2,by have:=h.n2;omega⟩;subst hm;have e1:=iP (b:=18446744073709551616) (l:=vs) (m+1);have e2:=iP (b:=18446744073709551616) (l:=vs) m;have f0:=iP (b:=18446744073709551616) (l:=x) (m+2);have f1:=iP (b:=18446744073709551616) (l:=x) (m+1);have f2:=iP (b:=18446744073709551616) (l:=x) m;have dN:vs.getD (m+1) 0=v1:=h.dN;have cz:vs.getD m 0=v2:=h.cz;have h0:x.getD (m+2) 0=u0:=h.h0;have h1:x.getD (m+1) 0=u1:=h.h1;have h2:x.getD m 0=u2:=h.h2
 rw [yM (by have:=h.lv;omega),dN,e2,cz] at e1
 rw [yM (by have:=h.lx;omega),h0,f1,h1,f2,h2] at f0;have g1:=ll (sL h.gv m)
 rw [yO,xF (by have:=h.lv;omega)] at g1;have g2:=ll (sL h.gx m)
 rw [yO,xF (by have:=h.lx;omega)] at g2;refine ⟨18446744073709551616^m,_,_,?_,g1,?_,g2⟩
 ·grind
 ·grind
def gN.down (h:gN x vs n v1 v2 u0 u1 u2) {t r:Nat} (ht:t*v1+r=u0*18446744073709551616+u1) (hr:r*18446744073709551616+u2<t*v2):bv 18446744073709551616 x/bv 18446744073709551616 vs<=t-1:=by
 obtain ⟨p,vr,ur,h1,h2,h3,h4⟩:=h.parts;exact Wv h1 h3 h4 ht hr
def gN.stop (h:gN x vs n v1 v2 u0 u1 u2) {t r:Nat} (jX:t<18446744073709551616) (ht:t*v1+r=u0*18446744073709551616+u1) (hr:18446744073709551616<=r\/t*v2<=r*18446744073709551616+u2):t<=bv 18446744073709551616 x/bv 18446744073709551616 vs+1:=by
 obtain ⟨p,vr,ur,h1,h2,h3,h4⟩:=h.parts;exact Xk (by decide) h1 h2 h3 h.pos h.CZ jX ht hr
def gN.first (h:gN x vs n v1 v2 u0 u1 u2):bv 18446744073709551616 x/bv 18446744073709551616 vs<=(u0*18446744073709551616+u1)/v1:=by
 obtain ⟨p,vr,ur,h1,h2,h3,h4⟩:=h.parts;exact OU h1 h3 h4 h.Jz h.pos
def gN.top (h:gN x vs n v1 v2 u0 u1 u2):u0<=v1:=by
 obtain ⟨p,vr,ur,h1,h2,h3,h4⟩:=h.parts;exact Xl h1 h3 h2 h.CZ h.lt
def gN.digit (h:gN x vs n v1 v2 u0 u1 u2):bv 18446744073709551616 x/bv 18446744073709551616 vs<18446744073709551616:=by
 refine (wz ?_).2 h.lt;rcases xi (bv 18446744073709551616 vs) with h0 | h0
 ·have:=h.lt;rw [h0] at this;simp at this
 ·exact h0
end
section
variable {P:aF} {L:Lib}
def ZP (mf:L.pure 143=some qO) (gm:L.pure 171=some nn) {w:AV} {x vs pre post qs:List Nat} (hw:bB w vs) {n v1 v2 u0 u1 u2:Nat} (hl:gN x vs n v1 v2 u0 u1 u2):
  ∀k s,(∃q r:Nat,aT [0,1,5,6,7,8] s=⟨[(0,.ay 0 pre.length (n+1)),(1,w),(5,aa n),(6,uc q),(7,uc (r%18446744073709551616)),(8,uc (r/18446744073709551616))],H2 qs (pre++x++post),2,2⟩/\q*v1+r=u0*18446744073709551616+u1/\r<2*18446744073709551616/\q<18446744073709551616/\bv 18446744073709551616 x/bv 18446744073709551616 vs<=q/\q=k)->
   ∃ex s',D P L (.loop [0,1,5,6,7,8] sP) s=some (ex,s')/\∃tm q,s'=⟨tm,H2 qs (pre++x++post),2,2⟩/\ex= .exit 0/\aj tm 0= .ay 0 pre.length (n+1)/\aj tm 1=w/\aj tm 5=aa n/\aj tm 6=uc q/\q<18446744073709551616/\bv 18446744073709551616 x/bv 18446744073709551616 vs<=q/\q<=bv 18446744073709551616 x/bv 18446744073709551616 vs+1:=by
 intro dq sq;generalize bt:aT [0,1,5,6,7,8] sq=s0;revert bt s0 sq dq;apply dU;rintro k s ⟨q,r,rfl,hq,hr,nY,hQ,rfl⟩;have dd:=hl.n2;have oZ:=hl.nb;by_cases lJ:r<18446744073709551616
 ·have E3:r%18446744073709551616=r:=yL lJ;have Bj:r/18446744073709551616=0:=xP lJ;rw [E3,Bj];have En:=hl.Jx;have So:=hl.CZ;have ab3:=hl.Jz;have pc:=hw.br (i:=n-2) (by have:=hl.lv;omega);have eD:=hw.br (i:=n-1) (by have:=hl.lv;omega);rw [hl.cz] at pc;rw [hl.dN] at eD;have r5:=sZ (l:=pre++x++post) (o:=pre.length+(n-2)) (by rw [ow];have:=hl.lx;omega)
  rw [BO (by have:=hl.lx;omega),hl.h2] at r5;have f1:=LK (P:=P) (f:=D P L) mf nY So;have f2:=B1 (P:=P) (f:=D P L) gm (x:=r) (y:=v1) (c:=0) lJ En (by omega);rw [show (uc 0)=AV.int .u64 0 from rfl] at f2;have eR:=xV (q*v2) 18446744073709551616;have aY:=xE (q*v2) (show 0<18446744073709551616 by decide);obtain ⟨H,hH⟩:∃H,H=q*v2/18446744073709551616:=⟨_,rfl⟩;obtain ⟨G,hG⟩:∃G,G=q*v2%18446744073709551616:=⟨_,rfl⟩;rw [<-hH,<-hG] at f1 eR;rw [<-hG] at aY;have zJ:(n:Int)-2=((n-2:Nat):Int):=by omega
  have pf:(n:Int)-1=((n-1:Nat):Int):=by omega
  by_cases c1:H<r
  ·right
   simp only [go_sem,ya,sP,H2,show ((0:Nat):Int)=0 from rfl,zJ,wrapN (n:=n-2) (by omega),pc,f1,show (H:Int)<(r:Int) by omega];exact ⟨_,_,rfl,by simp,_,q,rfl,rfl,by simp only [go_sem,ya],by simp only [go_sem,ya],by simp only [go_sem,ya],by simp only [go_sem,ya],nY,hQ,hl.stop nY hq (.inr (by omega))⟩
  ·by_cases c2:H=r/\G<=u2
   ·right
    obtain ⟨c2,c3⟩:=c2
    simp only [go_sem,ya,sP,H2,show ((0:Nat):Int)=0 from rfl,zJ,wrapN (n:=n-2) (by omega),pc,f1,show (H:Int)=(r:Int) by omega];simp only [show ¬(r:Int)<(r:Int) by omega,yE]
    simp only [go_sem,ya,yk,zJ,wrapN (n:=n-2) (by omega),cT 0 pre.length (show n-2<n+1 by omega),r5,show (G:Int)<=(u2:Int) by omega];exact ⟨_,_,rfl,by simp,_,q,rfl,rfl,by simp only [go_sem,ya],by simp only [go_sem,ya],by simp only [go_sem,ya],by simp only [go_sem,ya],nY,hQ,hl.stop nY hq (.inr (by omega))⟩
   ·left
    have EI:r*18446744073709551616+u2<q*v2:=by omega
    have bt:0<q:=by
     rcases xi q with h0 | h0
     ·subst h0;omega
     ·exact h0
    have e3:binOp .sub (uc q) (.int .u64 1)=some (uc (q-1)):=Cu (b:=1) (by omega) (by omega);have h1:(q-1)*v1+(r+v1)=u0*18446744073709551616+u1:=by
     obtain ⟨p,rfl⟩:∃p,q=p+1:=⟨q-1,by omega⟩;rw [wh,ybV] at hq;rw [tI];omega
    have zK:=hl.down hq EI;rw [yW] at f2;by_cases c3:H=r
    ·have c4:¬G<=u2:=fun h=>c2 ⟨c3,h⟩
     subst c3
     simp only [go_sem,ya,xQ,yk,sP,H2,show ((0:Nat):Int)=0 from rfl,zJ,pf,wrapN (n:=n-2) (by omega),wrapN (n:=n-1) (by omega),pc,eD,f1,f2,show ¬(H:Int)<(H:Int) by omega,cT 0 pre.length (show n-2<n+1 by omega),r5,show ¬(G:Int)<=(u2:Int) by omega,e3];refine ⟨_,q-1,rfl,by omega,q-1,H+v1,?_,h1,by omega,by omega,zK,rfl⟩;rw [pG (by simp only [go_sem,ya,yI,lW,mD,lR,lO,py hw.pu,vc]) (by simp only [go_sem,ya,yd,yI,aE hw.pu])];simp only [go_sem,ya]
    ·simp only [go_sem,ya,xQ,sP,H2,show ((0:Nat):Int)=0 from rfl,zJ,pf,wrapN (n:=n-2) (by omega),wrapN (n:=n-1) (by omega),pc,eD,f1,f2,show ¬(H:Int)<(r:Int) by omega,show ¬(H:Int)=(r:Int) by omega,e3];refine ⟨_,q-1,rfl,by omega,q-1,r+v1,?_,h1,by omega,by omega,zK,rfl⟩;rw [pG (by simp only [go_sem,ya,yI,lW,mD,lR,lO,py hw.pu,vc]) (by simp only [go_sem,ya,yd,yI,aE hw.pu])];simp only [go_sem,ya]
 ·right
  have Bj:r/18446744073709551616=1:=by omega
  rw [Bj];simp only [go_sem,ya,sP,H2,show ((1:Nat):Int)=1 from rfl,vM];exact ⟨_,_,rfl,by simp,_,q,rfl,rfl,by simp only [go_sem,ya],by simp only [go_sem,ya],by simp only [go_sem,ya],by simp only [go_sem,ya],nY,hQ,hl.stop nY hq (.inl (by omega))⟩
end
def aiy {b p x y z lK c bo zL ca q v X Y:Nat} (h1:q*v+c=b*ca+lK) (h2:z+lK+bo=x+b*zL) (h3:Y+q*X=y+p*(c+bo)) (W:Nat) (hW:W+p*x=Y+p*z):
  W+q*(X+p*v)=y+p*b*(ca+zL):=by grind
def aiz {q v c:Nat} (hq:q<18446744073709551616) (hv:v<18446744073709551616) (hc:c<18446744073709551616):
  q*v+c=18446744073709551616*(q*v/18446744073709551616+(q*v%18446744073709551616+c+0)/18446744073709551616)+(q*v%18446744073709551616+c+0)%18446744073709551616/\
  q*v/18446744073709551616+(q*v%18446744073709551616+c+0)/18446744073709551616<18446744073709551616:=by
 have h:=wW (show q<=18446744073709551615 by omega) (show v<=18446744073709551615 by omega)
 grind
section
variable {P:aF} {L:Lib}
def apP (mf:L.pure 143=some qO) (gm:L.pure 171=some nn) (rn:L.pure 173=some Al) {w:AV} {x vs pre post qs:List Nat} (hw:bB w vs) {n:Nat} (oZ:n<=99999999999) (lv:vs.length=n) (gv:lo 18446744073709551616 vs) {q:Nat} (hq:q<18446744073709551616):
  ∀k s,(∃(i c bo:Nat) (y:List Nat),aT [0,1,5,6,11,12,104,105] s=⟨[(0,.ay 0 pre.length (n+1)),(1,w),(5,aa n),(6,uc q),(11,uc bo),(12,uc c),(104,aa n),(105,aa i)],H2 qs (pre++y++post),2,2⟩/\i+k=n/\y.length=n+1/\lo 18446744073709551616 y/\c<18446744073709551616/\bo<=1/\
    bv 18446744073709551616 y+q*bv 18446744073709551616 (vs.take i)=bv 18446744073709551616 x+18446744073709551616^i*(c+bo))->
   ∃ex s',D P L (.loop [0,1,5,6,11,12,104,105] Ht) s=some (ex,s')/\∃tm c bo y,s'=⟨tm,H2 qs (pre++y++post),2,2⟩/\ex= .exit 2/\aj tm 0= .ay 0 pre.length (n+1)/\aj tm 1=w/\aj tm 5=aa n/\aj tm 6=uc q/\aj tm 11=uc bo/\aj tm 12=uc c/\y.length=n+1/\lo 18446744073709551616 y/\c<18446744073709551616/\bo<=1/\
    bv 18446744073709551616 y+q*bv 18446744073709551616 vs=bv 18446744073709551616 x+18446744073709551616^n*(c+bo):=by
 intro dq sq;generalize bt:aT [0,1,5,6,11,12,104,105] sq=s0;revert bt s0 sq dq;apply dU;rintro k s ⟨i,c,bo,y,rfl,hk,ly,gy,hc,je,aG⟩;by_cases hi:i<n
 ·left
  have dH:(0:Nat)<18446744073709551616:=by decide
  have qh:=gi dH gv i;have pg:=gi dH gy i;have ev:=hw.br (i:=i) (by omega);have ey:=sZ (l:=pre++y++post) (o:=pre.length+i) (by rw [ow];omega);rw [BO (by omega)] at ey;have di:=iP (b:=18446744073709551616) (l:=vs) i;obtain ⟨a,ha⟩:∃a,a=vs.getD i 0:=⟨_,rfl⟩;obtain ⟨d,hd⟩:∃d,d=y.getD i 0:=⟨_,rfl⟩;rw [<-ha] at qh ev di;rw [<-hd] at pg ey;obtain ⟨m1,m2⟩:=aiz hq qh hc;have f1:=LK (P:=P) (f:=D P L) mf hq qh;have f2:=B1 (P:=P) (f:=D P L) gm (x:=q*a%18446744073709551616) (y:=c) (c:=0) (xE _ dH) hc (by omega);obtain ⟨lK,ab4⟩:∃t,t=(q*a%18446744073709551616+c+0)%18446744073709551616:=⟨_,rfl⟩;obtain ⟨c1,dR⟩:∃t,t=(q*a%18446744073709551616+c+0)/18446744073709551616:=⟨_,rfl⟩;have ab5:lK<18446744073709551616:=by rw [ab4];exact xE _ dH
  rw [<-ab4,<-dR] at f2 m1;rw [<-dR] at m2;obtain ⟨h1,gT⟩:∃t,t=q*a/18446744073709551616:=⟨_,rfl⟩;rw [<-gT] at f1 m1 m2;rw [show (uc 0)=AV.int .u64 0 from rfl] at f2;have f3:=QM (P:=P) (f:=D P L) rn pg ab5 je;have fO:=PZ pg ab5 je;obtain ⟨z,hz⟩:∃t,t=(d+18446744073709551616*2-lK-bo)%18446744073709551616:=⟨_,rfl⟩;obtain ⟨b',bX⟩:∃t,t=(if lK+bo<=d then 0 else 1):=⟨_,rfl⟩;have mq:b'<=1:=by rw [bX];split<;>omega
  have E2:z<18446744073709551616:=by rw [hz];exact xE _ dH
  rw [<-hz,<-bX] at f3 fO;have f4:binOp .add (uc h1) (uc c1)=some (uc (h1+c1)):=by
   rw [AF,yL m2]
  have aU:=nt (b:=18446744073709551616) (l:=y) (i:=i) (x:=z) (by omega);rw [<-hd] at aU;have aO:=fun (hp:Hp) (ct:Nat)=>jY (hp:=hp) (ct:=ct) (id:=0) (v:=z) (ex:=true) (l:=pre++y++post) (o:=pre.length+i) (by rw [ow];omega)
  have nH:=Ln (pre:=pre) (x:=y) (post:=post) (i:=i) z (by omega);simp only [go_sem,ya,yk,Ht,H2,show (i:Int)<(n:Int) by omega,ev,f1,f2,f4,cT 0 pre.length (show i<n+1 by omega),ey,f3,aO,nH];refine ⟨_,k-1,rfl,by omega,i+1,h1+c1,b',y.set i z,?_,by omega,by simp [ly],lU gy E2,m2,mq,?_⟩
  ·rw [pG (by simp only [go_sem,ya,yI,lW,mD,lR,lO,py hw.pu,vc]) (by simp only [go_sem,ya,yd,yI,aE hw.pu])];rw [wrap64 (by omega) (by omega)];simp only [go_sem,ya]<;>rfl
  ·rw [di,y7];exact aiy m1 fO aG _ aU
 ·right
  have:i=n:=by omega
  subst this;rw [yM (by omega)] at aG;simp only [go_sem,ya,Ht,H2,show ¬(i:Int)<(i:Int) by omega];exact ⟨_,_,rfl,by simp,_,c,bo,y,rfl,rfl,by simp only [go_sem,ya],by simp only [go_sem,ya],by simp only [go_sem,ya],by simp only [go_sem,ya],by simp only [go_sem,ya],by simp only [go_sem,ya],ly,gy,hc,je,aG⟩
def apQ (gm:L.pure 171=some nn) {w:AV} {y0 vs pre post qs:List Nat} (hw:bB w vs) {n:Nat} (oZ:n<=99999999999) (lv:vs.length=n) (gv:lo 18446744073709551616 vs) {q:Nat}:
  ∀k s,(∃(i c:Nat) (y:List Nat),aT [0,1,5,6,17,156,157] s=⟨[(0,.ay 0 pre.length (n+1)),(1,w),(5,aa n),(6,uc q),(17,uc c),(156,aa n),(157,aa i)],H2 qs (pre++y++post),2,2⟩/\i+k=n/\y.length=n+1/\lo 18446744073709551616 y/\c<=1/\
    bv 18446744073709551616 y+18446744073709551616^i*c=bv 18446744073709551616 y0+bv 18446744073709551616 (vs.take i))->
   ∃ex s',D P L (.loop [0,1,5,6,17,156,157] Hu) s=some (ex,s')/\∃tm c y,s'=⟨tm,H2 qs (pre++y++post),2,2⟩/\ex= .exit 4/\aj tm 0= .ay 0 pre.length (n+1)/\aj tm 5=aa n/\aj tm 6=uc q/\aj tm 17=uc c/\y.length=n+1/\lo 18446744073709551616 y/\c<=1/\
    bv 18446744073709551616 y+18446744073709551616^n*c=bv 18446744073709551616 y0+bv 18446744073709551616 vs:=by
 intro dq sq;generalize bt:aT [0,1,5,6,17,156,157] sq=s0;revert bt s0 sq dq;apply dU;rintro k s ⟨i,c,y,rfl,hk,ly,gy,hc,aG⟩;by_cases hi:i<n
 ·left
  have dH:(0:Nat)<18446744073709551616:=by decide
  have qh:=gi dH gv i;have pg:=gi dH gy i;have ev:=hw.br (i:=i) (by omega);have ey:=sZ (l:=pre++y++post) (o:=pre.length+i) (by rw [ow];omega);rw [BO (by omega)] at ey;have di:=iP (b:=18446744073709551616) (l:=vs) i;obtain ⟨a,ha⟩:∃a,a=vs.getD i 0:=⟨_,rfl⟩;obtain ⟨d,hd⟩:∃d,d=y.getD i 0:=⟨_,rfl⟩;rw [<-ha] at qh ev di;rw [<-hd] at pg ey;have f1:=B1 (P:=P) (f:=D P L) gm pg qh hc;have aU:=nt (b:=18446744073709551616) (l:=y) (i:=i) (x:=(d+a+c)%18446744073709551616) (by omega);rw [<-hd] at aU;have jd:=Kk (18446744073709551616^i) 18446744073709551616 (d+a+c);have gC:(d+a+c)/18446744073709551616<=1:=by omega
  have E2:(d+a+c)%18446744073709551616<18446744073709551616:=xE _ dH;generalize (d+a+c)%18446744073709551616=z at*
  generalize (d+a+c)/18446744073709551616=c' at*
  have aO:=fun (hp:Hp) (ct:Nat)=>jY (hp:=hp) (ct:=ct) (id:=0) (v:=z) (ex:=true) (l:=pre++y++post) (o:=pre.length+i) (by rw [ow];omega)
  have nH:=Ln (pre:=pre) (x:=y) (post:=post) (i:=i) z (by omega);simp only [go_sem,ya,yk,Hu,H2,show (i:Int)<(n:Int) by omega,ev,f1,cT 0 pre.length (show i<n+1 by omega),ey,aO,nH];refine ⟨_,k-1,rfl,by omega,i+1,c',y.set i z,?_,by omega,by simp [ly],lU gy E2,gC,?_⟩
  ·rw [pG (by simp only [go_sem,ya,yI,lW,mD,lR,lO,py hw.pu,vc]) (by simp only [go_sem,ya,yd,yI,aE hw.pu])];rw [wrap64 (by omega) (by omega)];simp only [go_sem,ya]<;>rfl
  ·rw [di,y7];rw [xB,xB] at jd;omega
 ·right
  have:i=n:=by omega
  subst this;rw [yM (by omega)] at aG;simp only [go_sem,ya,Hu,H2,show ¬(i:Int)<(i:Int) by omega];exact ⟨_,_,rfl,by simp,_,c,y,rfl,rfl,by simp only [go_sem,ya],by simp only [go_sem,ya],by simp only [go_sem,ya],by simp only [go_sem,ya],ly,gy,hc,aG⟩
end
end VE
