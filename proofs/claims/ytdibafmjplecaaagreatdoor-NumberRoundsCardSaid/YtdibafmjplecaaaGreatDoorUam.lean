import Derived.ChangeSlices
import Derived.ChangeReads
import Derived.ChangeSame
import Derived.OpenShut
import Derived.Lib.AtoiErrMem
import Derived.Laws.Externs
import Derived.Attr
import Derived.Test.YtdibafmjplecaaaGreatDoorUad
import Derived.Test.YtdibafmjplecaaaGreatDoorUab
import Derived.Test.YtdibafmjplecaaaGreatDoorUaf
import Derived.Test.YtdibafmjplecaaaGreatDoorUal
import Derived.Test.YtdibafmjplecaaaGreatDoorUae
set_option linter.all false
set_option maxRecDepth 100000
open Array renaming getElem?_eq_some_iff→xo
open BitVec renaming ofInt→xC,ofInt_natCast→tf,ofNat→td,toNat_ofNat→vD
open Bool renaming and_eq_true→yf,and_self→uF,and_true→vO,false_and→wh,false_eq_true→yB,false_or→tc,true_and→wq
open Go renaming Addr→vX,ChangeSpec→ybY,DataW→xK,Field→tp,IntKind→xc,MemPlace→wx,Program→xa,TypeId→yx,Value→yg,World→yi
open Int renaming ediv_emod_unique→tK,gcd→wJ,gcd_dvd_left→tO,gcd_dvd_right→tG,mul_ediv_cancel'→yaC,natAbs_ediv_of_dvd→uy,natCast_mul→wY,tdiv_eq_ediv_of_dvd→yak,tdiv_eq_ediv_of_nonneg→xE,tmod_eq_emod_of_nonneg→xD,toNat_natCast→wv
open List renaming all_cons→ybx,append_assoc→xt,append_nil→xV,cons_append→xi,drop→vY,drop_drop→vN,drop_eq_getElem_cons→y8,drop_eq_nil_of_le→xu,drop_left'→tU,drop_zero→yt,eq_nil_of_length_eq_zero→yD,filter_cons→yaZ,filter_eq_nil_iff→yal,flatMap_cons→yaO,getD_cons_succ→yaB,getD_eq_getElem?_getD→xF,getElem?_cons_zero→vG,getElem?_eq_getElem→wA,length→tN,length_append→yY,length_cons→yM,length_map→xy,length_nil→yV,length_reverse→yaD,length_singleton→ta,length_take→yW,mapM_cons→ud,mapM_nil→yaf,map_append→xH,map_cons→xm,map_take→ybr,mem_append→wB,mem_append_left→tq,mem_append_right→vH,mem_flatMap→uH,mem_singleton→vB,nil_append→xW,range→ve,range'→wc,range'_succ→vl,range'_zero→yaX,range_eq_range'→yas,replicate→yK,replicate_succ→vC,reverse_cons→yaP,set_append_right→yap,set_cons_succ→yaI,set_eq_take_append_cons_drop→tD,take_append_drop→xT,take_length→xG,take_of_length_le→yQ,take_succ_eq_append_getElem→wI
open Nat renaming add_mul→xU,add_sub_cancel→uh,add_zero→yZ,beq→yp,beq_refl→wy,ble→yy,ble_eq_true_of_le→yr,blt→yI,div_add_mod→xM,div_eq_of_lt→xL,div_le_self→wN,div_lt_iff_lt_mul→xx,eq_of_beq_eq_true→yj,eq_zero_or_pos→xh,gcd→wo,gcd_comm→tB,gcd_rec→yck,le_div_iff_mul_le→tk,le_max_left→vV,le_max_right→vK,le_of_ble_eq_true→yo,le_of_lt→vZ,le_refl→yA,lt_of_le_of_lt→xJ,lt_of_lt_of_le→yE,lt_of_mul_lt_mul_right→yac,min_eq_left→xA,mod_add_div→vI,mod_eq_of_lt→yG,mod_lt→xv,mul_add→xr,mul_assoc→xb,mul_comm→xg,mul_div_mul_right→yav,mul_le_mul→xZ,mul_le_mul_left→yP,mul_le_mul_right→yT,mul_lt_mul_of_pos_right→xI,mul_mod_mul_right→tn,mul_one→ym,mul_pos→vd,mul_zero→xp,one_mul→ybE,or_comm→ycl,pow_add→xj,pow_le_pow_right→yR,pow_succ→yU,pow_zero→vL,reduceAdd→yd,reduceEqDiff→ya,reduceLT→yO,reduceMul→xQ,strongRecOn→vm,sub_zero→ybX,two_pow_pos→y7,zero_add→yh,zero_le→uU,zero_mul→wE
open Option renaming bind_eq_bind→vA,bind_some→wb,map_some→wC,pure_def→wF
open Option.some renaming injEq→yb
open Prod.mk renaming injEq→yk
namespace VE
open Go (IntKind)
section
open Go
section
variable (P:xa)
def CF (self:yx->Bool):List tp->Nat->Nat->Bool
 | [],o,n=>yp o n
 | f::r,o,n=>yp f.offset o&&(self f.type&&CF self r (o+P.cellsOf f.type) n)
def flat:Nat->yx->Bool
 | 0,_=>false
 | n+1,t=>
  match P.underlying t with
  | some .bool | some (.int _) | some (.float _) | some .string=>yp (P.cellsOf t) 1
  | some (.slice e)=>yp (P.cellsOf t) 1&&(yI 0 (P.cellsOf e)&&flat n e)
  | some (.struct fs)=>CF P (fun u=>flat n u) fs.toList 0 (P.cellsOf t)
  | some (.array k e)=>yp (P.cellsOf t) (k*P.cellsOf e)&&flat n e
  | _=>false
def cJ {H:Type}:Nat->yx->xK H->List AV
 | 0,_,_=>[]
 | n+1,t,d=>
  match P.underlying t,d with
  | some .bool,.lit (.bool b)=>[.bool b]
  | some (.int k),.lit (.int _ m)=>[.int k m]
  | some (.float k),.lit (.float _ b)=>[.aw k b]
  | some .string,.lit (.string s)=>[.str (s.map UInt8.toNat)]
  | some (.slice _),.nil=>[.ae]
  | some (.slice e),.slice iW spare=>[.aB spare.isEmpty iW.length (iW.flatMap fun x=>cJ n e x)]
  | some (.struct fs),.agg parts=>(fs.toList.zip parts).flatMap fun x=>cJ n x.1.type x.2
  | some (.array _ e),.agg parts=>parts.flatMap fun x=>cJ n e x
  | _,_=>[]
end
section
variable {af:Nat->Nat} {m:Mp} {S:Nat->Prop} {w:yi}
def ZQ:∀{a b:List AV} {dz o:Nat},bN af m S w a dz o->bN af m S w b dz (o+a.length)->bN af m S w (a++b) dz o
 | [],b,dz,o,_,h=>by simpa using h
 | x::a,b,dz,o,h1,h2=>by
  exact ⟨h1.1,ZQ h1.2 (by rw [yM] at h2;rw [show o+1+a.length=o+(a.length+1) by omega];exact h2)⟩
def Jx:∀{a b:List AV},aH a=true->aH b=true->aH (a++b)=true
 | [],_,_,h=>h
 | x::a,b,h1,h2=>by
  simp only [aH,xi,yf] at h1 ⊢;exact ⟨h1.1,Jx h1.2 h2⟩
def ZR:∀{a:List AV} {us:List yg},av af m S w a us->a.length=us.length
 | [],us,h=>by simp only [av] at h;subst h;rfl
 | x::a,us,h=>by
  obtain ⟨u,r,rfl,_,h2⟩:=h;simp [ZR h2]
end
section
variable {H:Type} {enc:yx×yg->H} {P:xa} {w:yi} {held:Bool} {af:Nat->Nat} {m:Mp} {S:Nat->Prop}
def ad2 {a:vX} {i:Nat} {u:yg} (h:w.cell? (a.add i)=some u):w.cell? ⟨a.block,a.off+i,none⟩=some u/\(i=0->a.spot=none):=by
 by_cases hi:i=0
 ·subst hi;have e:a.add 0=a:=by simp [Addr.add]
  rw [e] at h;have hs:a.spot=none:=by
   cases hq:a.spot with
   | none=>rfl
   | some k=>
    unfold World.cell? at h
    split at h
    ·simp [hq] at h
    all_goals simp_all
  obtain ⟨b,o,sp⟩:=a;simp only at hs;subst hs;exact ⟨by simpa using h,fun _=>rfl⟩
 ·have e:a.add i=⟨a.block,a.off+i,none⟩:=by simp [Addr.add,hi]
  rw [e] at h;exact ⟨h,fun h=>(hi h).elim⟩
def anl (a:vX) (i:Nat):(a.add i).block=a.block:=by unfold Addr.add;split<;>rfl
def arc (a:vX) (i:Nat):(a.add i).off=a.off+i:=by unfold Addr.add;split<;>simp_all
def JK {α β:Type} {f:α->Option β}:∀{l:List α} {r:List β},l.mapM f=some r->r.length=l.length
 | [],r,h=>by simp only [yaf,wF,yb] at h;subst h;rfl
 | x::l,r,h=>by
  rw [ud] at h
  cases h1:f x with
  | none=>simp [h1] at h
  | some y=>
   cases h2:l.mapM f with
   | none=>simp [h1,h2] at h
   | some ys=>
    simp only [h1,h2,wb,vA,wF,yb] at h;subst h;simp [JK h2]
def apb {c:AV} {l:List AV} {b o:Nat} (h:bN af m S w (c::l) b o):b<w.heap.size:=by
 obtain ⟨⟨u,h1,_⟩,_⟩:=h;unfold World.cell? at h1
 cases hq:w.heap[b]? with
 | none=>simp [hq] at h1
 | some o=>exact (xo.1 hq).1
def OO {e:yx} {bl sz:Nat} {f:xK H->List AV} {a:vX} (ez:0<sz)
  (IH:∀(cs:List yg) (d:xK H) (ps:List wx),DataW.trod enc P w 0 (fun _=>true) held bl e cs=some (d,ps)->av af m S w (f d) cs/\aH (f d)=true/\cs.length=sz):
  ∀(k j:Nat) (xs:List (xK H×List wx)),(wc j k).mapM (fun i=>(w.cells? 0 (a.add (i*sz)) sz).bind (DataW.trod enc P w 0 (fun _=>true) held bl e))=some xs->
   bN af m S w ((xs.map (·.1)).flatMap f) a.block (a.off+j*sz)/\aH ((xs.map (·.1)).flatMap f)=true/\((xs.map (·.1)).flatMap f).length=k*sz/\xs.length=k/\(0<k->a.spot=none\/0<j)
 | 0,j,xs,h=>by
  simp only [yaX,yaf,wF,yb] at h;subst h;simp [bN,aH]
 | k+1,j,xs,h=>by
  rw [vl,ud] at h
  cases h1:(w.cells? 0 (a.add (j*sz)) sz) with
  | none=>simp [h1] at h
  | some us=>
   cases h2:DataW.trod enc P w 0 (fun _=>true) held bl e us with
   | none=>simp [h1,h2] at h
   | some x=>
    cases h3:(wc (j+1) k).mapM (fun i=>(w.cells? 0 (a.add (i*sz)) sz).bind (DataW.trod enc P w 0 (fun _=>true) held bl e)) with
    | none=>simp [h1,h2,h3] at h
    | some ys=>
     simp only [h1,h2,h3,wb,vA,wF,yb] at h;subst h;obtain ⟨d,ps⟩:=x;obtain ⟨g1,g2,g3⟩:=IH us d ps h2;obtain ⟨k1,k2,k3,k4,_⟩:=OO ez IH k (j+1) ys h3;obtain ⟨_,c2,c3⟩:=World.cells?_some h1;have hl:(f d).length=sz:=by rw [ZR g1,g3]
     have hc:∀(i:Nat) (u:yg),us[i]? =some u->w.cell? ⟨a.block,a.off+j*sz+i,none⟩=some u:=by
      intro i u hi;have Ea:i<sz:=by grind
      have h:=c3 i Ea;rw [hi] at h
      have:=(ad2 h).1
      rwa [anl,arc] at this
     refine ⟨?_,?_,?_,by simp [k4],?_⟩
     ·simp only [xm,yaO];refine ZQ (CK _ us _ g1 hc) ?_
      grind
     ·simp only [xm,yaO];exact Jx g2 k2
     ·grind
     ·intro _;rcases xh j with hj | hj
      ·left
       have h:=c3 0 ez;have hu:us[0]? =some us[0]:=by simp_all
       rw [hu] at h
       have:=(ad2 h).2 rfl
       subst hj;simpa [Addr.add] using this
      ·grind
def Y5 {bl N:Nat} {n:Nat} {cs:List yg} (hN:cs.length=N)
  (IH:∀(t:yx) (cs:List yg) (d:xK H) (ps:List wx),flat P n t=true->DataW.trod enc P w 0 (fun _=>true) held bl t cs=some (d,ps)->av af m S w (cJ P n t d) cs/\aH (cJ P n t d)=true/\cs.length=P.cellsOf t):
  ∀(r:List tp) (o:Nat) (xs:List (xK H×List wx)),CF P (fun u=>flat P n u) r o N=true->r.mapM (fun f=>DataW.trod enc P w 0 (fun _=>true) held bl f.type ((cs.drop f.offset).take (P.cellsOf f.type)))=some xs->
   av af m S w ((r.zip (xs.map (·.1))).flatMap fun x=>cJ P n x.1.type x.2) (cs.drop o)/\aH ((r.zip (xs.map (·.1))).flatMap fun x=>cJ P n x.1.type x.2)=true
 | [],o,xs,hf,h=>by
  have:=yj hf
  rw [xu (by omega)];simp [av,aH]
 | f::r,o,xs,hf,h=>by
  simp only [CF,yf] at hf;obtain ⟨e1,e2,e3⟩:=hf;have e1:=yj e1;rw [ud] at h
  cases h2:DataW.trod enc P w 0 (fun _=>true) held bl f.type ((cs.drop f.offset).take (P.cellsOf f.type)) with
  | none=>simp [h2] at h
  | some x=>
   cases h3:r.mapM (fun f=>DataW.trod enc P w 0 (fun _=>true) held bl f.type ((cs.drop f.offset).take (P.cellsOf f.type))) with
   | none=>simp [h2,h3] at h
   | some ys=>
    simp only [h2,h3,wb,vA,wF,yb] at h;subst h;obtain ⟨d,ps⟩:=x;obtain ⟨g1,g2,g3⟩:=IH f.type _ d ps e2 h2;obtain ⟨k1,k2⟩:=Y5 hN IH r _ ys e3 h3;rw [e1] at g1;have e:cs.drop o=(cs.drop o).take (P.cellsOf f.type)++cs.drop (o+P.cellsOf f.type):=by rw [<-vN];exact (xT _ _).symm
    rw [e];exact ⟨j9 g1 k1,Jx g2 k2⟩
def ad3 {bl sz:Nat} {e:yx} {f:xK H->List AV} {cs:List yg}
  (IH:∀(cs:List yg) (d:xK H) (ps:List wx),DataW.trod enc P w 0 (fun _=>true) held bl e cs=some (d,ps)->av af m S w (f d) cs/\aH (f d)=true/\cs.length=sz):
  ∀(k j:Nat) (xs:List (xK H×List wx)),(wc j k).mapM (fun i=>DataW.trod enc P w 0 (fun _=>true) held bl e ((cs.drop (i*sz)).take sz))=some xs->cs.length=(j+k)*sz->
   av af m S w ((xs.map (·.1)).flatMap f) (cs.drop (j*sz))/\aH ((xs.map (·.1)).flatMap f)=true
 | 0,j,xs,h,hl=>by
  simp only [yaX,yaf,wF,yb] at h;subst h;rw [xu (by rw [hl];simp)]
  simp [av,aH]
 | k+1,j,xs,h,hl=>by
  rw [vl,ud] at h
  cases h2:DataW.trod enc P w 0 (fun _=>true) held bl e ((cs.drop (j*sz)).take sz) with
  | none=>simp [h2] at h
  | some x=>
   cases h3:(wc (j+1) k).mapM (fun i=>DataW.trod enc P w 0 (fun _=>true) held bl e ((cs.drop (i*sz)).take sz)) with
   | none=>simp [h2,h3] at h
   | some ys=>
    simp only [h2,h3,wb,vA,wF,yb] at h;subst h;obtain ⟨d,ps⟩:=x;obtain ⟨g1,g2,g3⟩:=IH _ d ps h2;obtain ⟨k1,k2⟩:=ad3 IH k (j+1) ys h3 (by rw [hl];congr 1;omega)
    have e:cs.drop (j*sz)=(cs.drop (j*sz)).take sz++cs.drop ((j+1)*sz):=by rw [xU,ybE,<-vN];exact (xT _ _).symm
    rw [e];exact ⟨j9 g1 k1,Jx g2 k2⟩
def aaC (hS:∀b,b<w.heap.size->S b):∀(n bl:Nat) (t:yx) (cs:List yg) (d:xK H) (ps:List wx),flat P n t=true->DataW.trod enc P w 0 (fun _=>true) held bl t cs=some (d,ps)->
  av af m S w (cJ P n t d) cs/\aH (cJ P n t d)=true/\cs.length=P.cellsOf t
 | 0,bl,t,cs,d,ps,hf,h=>by simp [flat] at hf
 | n+1,0,t,cs,d,ps,hf,h=>by simp [DataW.trod] at h
 | n+1,bl+1,t,cs,d,ps,hf,h=>by
  have IH:=aaC hS n bl;unfold DataW.trod at h;simp only [flat] at hf
  split at h
  ·rename_i hu;simp only [hu] at hf;simp only [yb,yk] at h;obtain ⟨rfl,rfl⟩:=h;simp only [cJ,hu];exact ⟨by simp [av,ah],by simp [aH,bk],by rw [yj hf];rfl⟩
  ·rename_i hu;simp only [hu] at hf
   split at h
   ·rename_i hk;simp only [yb,yk] at h;obtain ⟨rfl,rfl⟩:=h;simp only [cJ,hu];refine ⟨?_,by simp [aH,bk],by rw [yj hf];rfl⟩
    rw [hk.1];simp [av,ah]
   ·cases h
  ·rename_i hu;simp only [hu] at hf
   split at h
   ·rename_i hk;simp only [yb,yk] at h;obtain ⟨rfl,rfl⟩:=h;simp only [cJ,hu];refine ⟨?_,by simp [aH,bk],by rw [yj hf];rfl⟩
    rw [hk.1];simp [av,ah]
   ·cases h
  ·rename_i hu;simp only [hu] at hf
   split at h
   ·simp only [yb,yk] at h;obtain ⟨rfl,rfl⟩:=h;simp only [cJ,hu];refine ⟨?_,by simp [aH,bk],by rw [yj hf];rfl⟩
    simp only [av,ah];exact ⟨_,_,rfl,⟨_,rfl,rfl⟩,rfl⟩
   ·cases h
  ·rename_i hu;simp [hu] at hf
  ·rename_i hu;simp [hu] at hf
  ·rename_i hu;simp only [hu,yf] at hf;simp only [yb,yk] at h;obtain ⟨rfl,rfl⟩:=h;simp only [cJ,hu];exact ⟨by simp [av,ah],by simp [aH,bk],by rw [yj hf.1];rfl⟩
  ·rename_i e a len cap hu;simp only [hu,yf] at hf;obtain ⟨f1,f2,f3⟩:=hf;have ez:=rK.1 f2;simp only at h
   split at h
   case isFalse=>cases h
   rename_i hc;simp only [xR] at h
   cases h1:(ve len).mapM fun i=>(w.cells? 0 (a.add (i*P.cellsOf e)) (P.cellsOf e)).bind (DataW.trod enc P w 0 (fun _=>true) held bl e) with
   | none=>rw [h1] at h;simp at h
   | some iW=>
    cases h2:(ve (cap-len)).mapM fun j=>(w.cells? 0 (a.add ((len+j)*P.cellsOf e)) (P.cellsOf e)).bind (DataW.trod enc P w 0 (fun _=>true) held bl e) with
    | none=>rw [h1] at h;simp [h2] at h
    | some rest=>
     rw [h1] at h;simp only [wb,h2,wC,yb,yk] at h;obtain ⟨rfl,rfl⟩:=h;have hIH:=fun cs d ps h=>IH e cs d ps f3 h
     rw [yas] at h1 h2;obtain ⟨k1,k2,k3,k4,k5⟩:=OO (af:=af) (m:=m) (S:=S) ez hIH len 0 iW h1;have hrl:rest.length=cap-len:=by rw [JK h2];simp
     have iC:cap≠0->a.spot=none:=by
      intro VP;rcases xh len with h0 | h0
      ·subst h0;simp only [yh,ybX] at h2;obtain ⟨_,_,_,_,q5⟩:=OO (af:=af) (m:=m) (S:=S) ez hIH cap 0 rest h2;exact (q5 (by omega)).resolve_right (by omega)
      ·exact (k5 h0).resolve_right (by omega)
     simp only [cJ,hu,xy];refine ⟨?_,by simp [aH,bk],by rw [yj f1];rfl⟩
     simp only [av];refine ⟨_,_,rfl,?_,rfl⟩;simp only [ah];by_cases VP:cap=0
     ·subst VP;have jx:len=0:=by omega
      subst jx;have he:iW=[]:=yD k4;subst he;exact .inr ⟨a,rfl,rfl,rfl⟩
     ·obtain ⟨b,o,sp⟩:=a;have iC:=iC VP;simp only at iC;subst iC;refine .inl ⟨b,o,cap,by rw [k4],by omega,fun hx=>?_,?_,k2,by simpa using k1⟩
      ·have:rest.length=0:=by simpa using hx
       omega
      ·generalize hg:((iW.map (·.1)).flatMap fun x=>cJ P n e x)=l at k1
       cases l with
       | nil=>exact .inl rfl
       | cons c l=>exact .inr (hS b (apb k1))
  ·rename_i qS x1 IP fs hu;simp only [hu] at hf
   split at h
   case isFalse=>cases h
   rename_i hlen
   cases h1:fs.toList.mapM fun f=>DataW.trod enc P w 0 (fun _=>true) held bl f.type ((qS.drop f.offset).take (P.cellsOf f.type)) with
   | none=>rw [h1] at h;simp at h
   | some xs=>
    rw [h1] at h;simp only [wC,yb,yk] at h;obtain ⟨rfl,rfl⟩:=h;obtain ⟨k1,k2⟩:=Y5 hlen (fun t cs d ps hf h=>IH t cs d ps hf h) fs.toList 0 xs hf h1;simp only [cJ,hu];exact ⟨by simpa using k1,k2,hlen⟩
  ·rename_i qS x1 IP k e hu;simp only [hu,yf] at hf;obtain ⟨f1,f2⟩:=hf;have f1:=yj f1
   split at h
   case isFalse=>cases h
   rename_i hlen
   cases h1:(ve k).mapM fun i=>DataW.trod enc P w 0 (fun _=>true) held bl e ((qS.drop (i*P.cellsOf e)).take (P.cellsOf e)) with
   | none=>rw [h1] at h;simp at h
   | some xs=>
    rw [h1] at h;simp only [wC,yb,yk] at h;obtain ⟨rfl,rfl⟩:=h;rw [yas] at h1;obtain ⟨k1,k2⟩:=ad3 (af:=af) (m:=m) (S:=S) (fun cs d ps h=>IH e cs d ps f2 h) k 0 xs h1 (by rw [hlen,f1];simp)
    simp only [cJ,hu];exact ⟨by simpa using k1,k2,hlen⟩
  all_goals first
   | (cases h;done)
   | (simp_all;done)
def kE (P:xa) (n:Nat) (t:yx) (d:xK H):AV:=
 match P.underlying t with
 | some (.struct _) | some (.array _ _)=> .agg (cJ P n t d)
 | _=>(cJ P n t d).headD .undef
def ard (hS:∀b,b<w.heap.size->S b) {n base:Nat} {t:yx} {v:yg} {d:xK H} {ps:List wx} (hf:flat P n t=true) (h:DataW.Trod enc P w 0 (fun _=>true) held t v d ps)
  (hv:Value.okWide P w .any base t v):ah af m S w (kE P n t d) v/\bk (kE P n t d)=true:=by
 obtain ⟨bl,h⟩:=h;obtain ⟨h1,h2,h3⟩:=aaC (af:=af) (m:=m) hS n bl t _ d ps hf h;have one:v.cells=#[v]->(∀fs,P.underlying t≠some (.struct fs))->(∀k e,P.underlying t≠some (.array k e))->ah af m S w (kE P n t d) v/\bk (kE P n t d)=true:=by
  intro hc D6 hna;have e:kE P n t d=(cJ P n t d).headD .undef:=by
   unfold kE
   grind
  rw [e];rw [hc] at h1;generalize cJ P n t d=l at h1 h2
  cases l with
  | nil=>simp [av] at h1
  | cons x l=>
   simp only [av] at h1;simp only [aH,yf] at h2
   grind
 cases n with
 | zero=>simp [flat] at hf
 | succ n=>
  unfold Value.okWide at hv;simp only [flat] at hf
  cases hu:P.underlying t with
  | none=>simp [hu] at hf
  | some ty=>
   rw [hu] at hv hf;cases ty<;>simp only [yB] at hf hv
   case struct fs=>
    obtain ⟨cs,rfl,_,_⟩:=hv;have e:kE P (n+1) t d= .agg (cJ P (n+1) t d):=by simp only [kE,hu]
    rw [e];exact ⟨by simp only [ah];exact ⟨cs,rfl,h1⟩,by simpa only [bk] using h2⟩
   case array k e=>
    obtain ⟨cs,rfl,_,_⟩:=hv;have e:kE P (n+1) t d= .agg (cJ P (n+1) t d):=by simp only [kE,hu]
    rw [e];exact ⟨by simp only [ah];exact ⟨cs,rfl,h1⟩,by simpa only [bk] using h2⟩
   all_goals
    refine one ?_ (by simp [hu]) (by simp [hu])
    cases v with
    | agg cs=>exfalso;simp only [Cell.okWide,Cell.ok,hu] at hv
    | _=>rfl
def rQ (P:xa) (n:Nat):List yx->List (xK H)->List AV
 | t::ts,d::ds=>kE P n t d::rQ P n ts ds
 | _,_=>[]
def aaD (hS:∀b,b<w.heap.size->S b) {n base:Nat}:∀{ts:List yx} {vs:List yg} {ds:List (xK H)} {ps:List wx},ts.all (flat P n)=true->DataW.TrodAll enc P w 0 (fun _=>true) held ts vs ds ps->
  (∀(j:Nat) t v,ts[j]? =some t->vs[j]? =some v->Value.okWide P w .any base t v)->av af m S w (rQ P n ts ds) vs/\aH (rQ P n ts ds)=true
 | [],[],[],_,_,_,_=>by simp [rQ,av,aH]
 | t::ts,v::vs,d::ds,ps,hf,h,hv=>by
  simp only [ybx,yf] at hf;obtain ⟨p,q,h1,h2,_⟩:=h;obtain ⟨a1,a2⟩:=ard (af:=af) (m:=m) hS hf.1 h1 (hv 0 t v rfl rfl);obtain ⟨b1,b2⟩:=aaD hS hf.2 h2 (fun j t v h1 h2=>hv (j+1) t v h1 h2);simp only [rQ,av,aH,yf]
  grind
 | [],_::_,_,_,_,h,_=>by simp [DataW.TrodAll] at h
 | [],[],_::_,_,_,h,_=>by simp [DataW.TrodAll] at h
 | _::_,[],_,_,_,h,_=>by simp [DataW.TrodAll] at h
 | _::_,_::_,[],_,_,h,_=>by simp [DataW.TrodAll] at h
end
end
section
open Go
section
variable {H:Type} {enc:yx×yg->H} {P:xa} {w w':yi} {held:Bool} {sp:Nat->Bool}
def ame (hs:∀b,b<w.heap.size->w'.heap[b]? =w.heap[b]?) {a:vX} {u:yg} (h:w.cell? a=some u):w'.cell? a=some u:=by
 have hb:a.block<w.heap.size:=by
  unfold World.cell? at h
  cases hq:w.heap[a.block]? with
  | none=>simp [hq] at h
  | some o=>exact (xo.1 hq).1
 unfold World.cell? at h ⊢;rw [hs _ hb];exact h
def alG (hs:∀b,b<w.heap.size->w'.heap[b]? =w.heap[b]?) {base:Nat} {a:vX} {n:Nat} {us:List yg} (h:w.cells? base a n=some us):w'.cells? base a n=some us:=by
 unfold World.cells? at h ⊢
 split at h
 ·rename_i hb;rw [yL hb];exact mapM_carry h (fun x y _ _ hx=>ame hs hx)
 ·cases h
def are {a:vX} {n:Nat} (h:0<n):MemPlace.cell a.block (a.off+0)∈MemPlace.row a n:=by
 unfold MemPlace.row;exact List.mem_map.2 ⟨0,List.mem_range.2 h,rfl⟩
def Y6 (hs:∀b,b<w.heap.size->w'.heap[b]? =w.heap[b]?):∀(n bl:Nat) (t:yx) (cs:List yg) (d:xK H) (ps:List wx),flat P n t=true->DataW.trod enc P w 0 (fun _=>true) held bl t cs=some (d,ps)->
  (∀p,p∈ps->sp p.block=true)->DataW.trod enc P w' 0 sp held bl t cs=some (d,ps)
 | 0,bl,t,cs,d,ps,hf,h,hp=>by simp [flat] at hf
 | n+1,0,t,cs,d,ps,hf,h,hp=>by simp [DataW.trod] at h
 | n+1,bl+1,t,cs,d,ps,hf,h,hp=>by
  have IH:=Y6 hs n bl;have elem:∀{e:yx} {a:vX} {y:xK H×List wx},flat P n e=true->(w.cells? 0 a (P.cellsOf e)).bind (DataW.trod enc P w 0 (fun _=>true) held bl e)=some y->(∀p,p∈y.2->sp p.block=true)->
    (w'.cells? 0 a (P.cellsOf e)).bind (DataW.trod enc P w' 0 sp held bl e)=some y:=by
   intro e a y he h hq
   cases h1:w.cells? 0 a (P.cellsOf e) with
   | none=>simp [h1] at h
   | some us=>
    rw [h1] at h;rw [alG hs h1];simp only [wb] at h ⊢;obtain ⟨d,ps⟩:=y;exact IH e us d ps he h hq
  unfold DataW.trod at h ⊢;simp only [flat] at hf
  split at h
  ·exact h
  ·exact h
  ·exact h
  ·exact h
  ·rename_i hu;simp [hu] at hf
  ·rename_i hu;simp [hu] at hf
  ·exact h
  ·rename_i e a len cap hu;simp only [hu,yf] at hf;obtain ⟨f1,f2,f3⟩:=hf;have ez:=rK.1 f2;simp only at h ⊢
   split at h
   case isFalse=>cases h
   rename_i hc;rw [yL hc];simp only [xR] at h
   cases h1:(ve len).mapM fun i=>(w.cells? 0 (a.add (i*P.cellsOf e)) (P.cellsOf e)).bind (DataW.trod enc P w 0 (fun _=>true) held bl e) with
   | none=>rw [h1] at h;simp at h
   | some iW=>
    cases h2:(ve (cap-len)).mapM fun j=>(w.cells? 0 (a.add ((len+j)*P.cellsOf e)) (P.cellsOf e)).bind (DataW.trod enc P w 0 (fun _=>true) held bl e) with
    | none=>rw [h1] at h;simp [h2] at h
    | some rest=>
     rw [h1] at h;simp only [wb,h2,wC,yb,yk] at h;obtain ⟨rfl,rfl⟩:=h;have k1:((ve len).mapM fun i=>(w'.cells? 0 (a.add (i*P.cellsOf e)) (P.cellsOf e)).bind (DataW.trod enc P w' 0 sp held bl e))=some iW:=
      mapM_carry h1 (fun x y _ hy hx=>elem f3 hx (fun p hq=>hp p (vH _ (uH.2 ⟨y,tq _ hy,hq⟩))))
     have k2:((ve (cap-len)).mapM fun j=>(w'.cells? 0 (a.add ((len+j)*P.cellsOf e)) (P.cellsOf e)).bind (DataW.trod enc P w' 0 sp held bl e))=some rest:=
      mapM_carry h2 (fun x y _ hy hx=>elem f3 hx (fun p hq=>hp p (vH _ (uH.2 ⟨y,vH _ hy,hq⟩))))
     have hr:(if sp a.block=true then (ve (cap-len)).mapM fun j=>(w'.cells? 0 (a.add ((len+j)*P.cellsOf e)) (P.cellsOf e)).bind (DataW.trod enc P w' 0 sp held bl e) else some [])=some rest:=by
      by_cases iC:sp a.block=true
      ·rw [yL iC];exact k2
      ·rw [yu iC];have h0:¬0<(iW.length+rest.length)*P.cellsOf e:=fun h0=>iC (hp _ (tq _ (are h0)))
       have hz:iW.length+rest.length=0:=by
        rcases xh (iW.length+rest.length) with h | h
        ·exact h
        ·exact (h0 (vd h ez)).elim
       have:rest=[]:=yD (by omega)
       rw [this]
     rw [k1];simp only [wb];rw [hr];rfl
  ·rename_i qS x1 IP fs hu;simp only [hu] at hf
   split at h
   case isFalse=>cases h
   rename_i hlen;rw [yL hlen]
   cases h1:fs.toList.mapM fun f=>DataW.trod enc P w 0 (fun _=>true) held bl f.type ((qS.drop f.offset).take (P.cellsOf f.type)) with
   | none=>rw [h1] at h;simp at h
   | some xs=>
    rw [h1] at h;simp only [wC,yb,yk] at h;obtain ⟨rfl,rfl⟩:=h;have D5:∀(r:List tp) (o:Nat),CF P (fun u=>flat P n u) r o (P.cellsOf t)=true->∀f,f∈r->flat P n f.type=true:=by
     intro r
     induction r with
     | nil=>intro o _ f hm;cases hm
     | cons g r ih=>
      intro o hq f hm;simp only [CF,yf] at hq;rcases List.mem_cons.1 hm with rfl | hm
      ·exact hq.2.1
      ·exact ih _ hq.2.2 f hm
    have k1:(fs.toList.mapM fun f=>DataW.trod enc P w' 0 sp held bl f.type ((qS.drop f.offset).take (P.cellsOf f.type)))=some xs:=
     mapM_carry h1 (fun f y hm hy hx=>IH _ _ y.1 y.2 (D5 _ _ hf f hm) hx (fun p hq=>hp p (uH.2 ⟨y,hy,hq⟩)))
    rw [k1];rfl
  ·rename_i qS x1 IP k e hu;simp only [hu,yf] at hf
   split at h
   case isFalse=>cases h
   rename_i hlen;rw [yL hlen]
   cases h1:(ve k).mapM fun i=>DataW.trod enc P w 0 (fun _=>true) held bl e ((qS.drop (i*P.cellsOf e)).take (P.cellsOf e)) with
   | none=>rw [h1] at h;simp at h
   | some xs=>
    rw [h1] at h;simp only [wC,yb,yk] at h;obtain ⟨rfl,rfl⟩:=h;have k1:((ve k).mapM fun i=>DataW.trod enc P w' 0 sp held bl e ((qS.drop (i*P.cellsOf e)).take (P.cellsOf e)))=some xs:=
     mapM_carry h1 (fun i y _ hy hx=>IH _ _ y.1 y.2 hf.2 hx (fun p hq=>hp p (uH.2 ⟨y,hy,hq⟩)))
    rw [k1];rfl
  all_goals first
   | (cases h;done)
   | (simp_all;done)
def Yj (hs:∀b,b<w.heap.size->w'.heap[b]? =w.heap[b]?) {n:Nat}:∀{ts:List yx} {vs:List yg} {ds:List (xK H)} {ps:List wx},ts.all (flat P n)=true->DataW.TrodAll enc P w 0 (fun _=>true) held ts vs ds ps->
  (∀p,p∈ps->sp p.block=true)->DataW.TrodAll enc P w' 0 sp held ts vs ds ps
 | [],[],[],ps,_,h,_=>by simpa only [DataW.TrodAll] using h
 | t::ts,v::vs,d::ds,ps,hf,h,hp=>by
  simp only [ybx,yf] at hf;obtain ⟨p,q,⟨bl,h1⟩,h2,rfl⟩:=h;exact ⟨p,q,⟨bl,Y6 hs n bl t _ d p hf.1 h1 (fun x hx=>hp x (tq _ hx))⟩,Yj hs hf.2 h2 (fun x hx=>hp x (vH _ hx)),rfl⟩
 | [],_::_,_,_,_,h,_=>by simp [DataW.TrodAll] at h
 | [],[],_::_,_,_,h,_=>by simp [DataW.TrodAll] at h
 | _::_,[],_,_,_,h,_=>by simp [DataW.TrodAll] at h
 | _::_,_::_,[],_,_,h,_=>by simp [DataW.TrodAll] at h
end
end
section
open Go Go.ChangeShapes Go.WideShapes
section
variable {H:Type} {enc:yx×yg->H} {P:xa} {W W':yi}
def anm (hc:Calm W W') (may:wx->Prop):W.keptBut W' may:=by
 refine ⟨hc.os,hc.output,fun i hi=>?_⟩;rw [hc.same i hi]
 cases hq:W.heap[i]? with
 | none=>rfl
 | some o=>cases o<;>simp
def alH (hc:Calm W W') {b off:Nat} (hb:b<W.heap.size):W'.frozen? ⟨b,off,none⟩=W.frozen? ⟨b,off,none⟩:=by
 unfold World.frozen?;simp only;rw [hc.same b hb]
def apc {fn:Func} {s:ybY} {apart fresh handsOn again:Bool} {args:Array yg} {ds gs:List (xK H)} {before:List wx} {n:Nat} {tb:yx}
  (hW:DataW.Whole enc P fn.params.toList s.vars apart W args.toList ds gs before) (hv:s.vars=[]) (KV:fn.params.toList.all (flat P n)=true) (hc:Calm W W')
  (jX:s.fn H (ds++gs)={results:=[.lit (.bool true)],args:=ds}) (DM:fn.resultTypes=#[tb]) (jC:P.underlying tb=some .bool):
  s.post enc P fn apart fresh handsOn again W args (.bool true) W':=by
 have aF:=hW.lt;have hW0:=hW;obtain ⟨p,q,hA,hV,hpq,hz,hn⟩:=hW;rw [hv] at hV;have hq:gs=[]/\q=[]:=by
  cases gs with
  | nil=>exact ⟨rfl,by simpa only [DataW.TrodVars] using hV⟩
  | cons g gs=>simp [DataW.TrodVars] at hV
 obtain ⟨rfl,rfl⟩:=hq;have hbp:before=p:=by rw [hpq];simp
 subst hbp;have fC:∀sp:Nat->Bool,(∀p∈before,sp p.block=true)->DataW.TrodAll enc P W' 0 sp true fn.params.toList args.toList ds before:=fun sp h=>Yj hc.same KV hA h
 have agr:∀(b:Nat) (sp:Nat->Bool) (hd:Bool),DataW.TrodAll enc P W' b sp hd fn.resultTypes.toList ((Value.bool true).resultList fn.resultTypes.size) [.lit (.bool true)] []:=by
  intro b sp hd;rw [DM];refine ⟨[],[],⟨1,?_⟩,rfl,rfl⟩;simp [DataW.trod,jC,Value.cells]
 have hold:∀p∈before,(fun b=>decide (b<W.heap.size)) p.block=true:=fun p hp=>by simpa using aF p hp
 have ags:∀sp:Nat->Bool,DataW.TrodVars enc P W' sp s.vars ([]:List (xK H)) []:=fun sp=>by rw [hv];rfl
 refine ⟨ds,[],before,[],before,[],hW0,by rw [jX];exact agr _ _ _,by rw [jX];exact fC _ hold,by rw [jX];exact ags _,anm hc _,fun _=>?_⟩
 refine ⟨?_,[.lit (.bool true)]++ds,[],[]++before++[],⟨[]++before,[],trodAll_append (fC _ (fun _ _=>rfl)) (agr _ _ _),ags _,rfl,?_,?_⟩,?_⟩
 ·intro j t r h1 h2;rw [DM] at h1 h2
  cases j with
  | zero=>
   simp only [List.getElem?_toArray,vG,yb] at h1;simp only [Value.resultList,List.size_toArray,yM,yV,xR,yh,vG,yb] at h2;subst h1;subst h2;simp [Value.okWide,jC,Cell.okWide,Cell.ok]
  | succ j=>simp at h1
 ·intro b off hp;have hp:MemPlace.cell b off∈before:=by simpa using hp
  rw [alH hc (b:=b) (aF _ hp)];exact hz b off hp
 ·intro ha
  have:=hn ha
  simpa using this
 ·intro p hp _;simpa using hp
def ann {O:bh} {n k:Nat} {fn:Func} {s:ybY} {apart fresh handsOn again:Bool} {base:Nat} {args:Array yg} {ds gs:List (xK H)} {before:List wx} {tb:yx}
  (hp:dS O n (rQ O.P k fn.params.toList ds) (.bool true)) (Ay:O.w0=W) (jX:O.P.funcs[O.af n]? =some fn) (hb:fn.body.isSome=true) (qX:fn.name≠ "runtime.NumGoroutine")
  (aI:∀(j:Nat) t v,fn.params[j]? =some t->args[j]? =some v->Value.okWide O.P W .any base t v)
  (hW:DataW.Whole enc O.P fn.params.toList s.vars apart W args.toList ds gs before) (hv:s.vars=[]) (KV:fn.params.toList.all (flat O.P k)=true)
  (hfs:s.fn H (ds++gs)={results:=[.lit (.bool true)],args:=ds}) (DM:fn.resultTypes=#[tb]) (jC:O.P.underlying tb=some .bool):
  Calls O.P (O.af n) args W fun e W'=>∃v,e= .returned v/\s.post enc O.P fn apart fresh handsOn again W args v W':=by
 have hA:=hW;obtain ⟨p,q,hA,_⟩:=hA;obtain ⟨h1,h2⟩:=aaD (af:=O.af) (m:=eF) (S:=fun b=>b<W.heap.size) (fun b hb=>hb) KV hA (fun j t v a b=>aI j t v (by simpa using a) (by simpa using b));have hi:=hp W (fun b=>b<W.heap.size) args ⟨fun b _=>by rw [Ay],by rw [Ay];exact yA _⟩ (fun b hb=>hb) h1 h2
 have key:∀e W',aal O W (fun b=>b<W.heap.size) (.bool true) e W'->∃v,e= .returned v/\s.post enc O.P fn apart fresh handsOn again W args v W':=by
  rintro e W' ⟨u,S',rfl,hc,_,_,_,hr⟩;simp only [mb,gF,ah] at hr;obtain ⟨_,_,hu,_⟩:=hr;subst hu;exact ⟨_,rfl,apc hW hv KV hc hfs DM jC⟩
 rcases hi with ⟨_,hi⟩ | ⟨u,w',hi,_⟩
 ·exact callsIn_wide.1 (hi.mono key)
 ·rw [CL jX hb qX] at hi;cases hi
end
end
namespace J1
open Go Go.Proofs
noncomputable def O (W:yi):bh:=⟨Tryz.prog,VE.az,r8 lL.af,VE.prog,KS lL.bX lL.hd,W⟩
def ZS {w:yi} {k:Nat} {os:Array Go.Obj}:Calm w (Go.Sort.grow (w.drewN k) os):=FE (Lib.below_grow w.heap.size w (yA _) k os)
def aaE {W w:yi} (h:Lib.TabIs Tryz.prog W "internal/strconv.uint64pow10" .u64 Lib.pow10Tab) (hg:zK (O W) w):Lib.TabIs Tryz.prog w "internal/strconv.uint64pow10" .u64 Lib.pow10Tab:=by
 unfold Lib.TabIs World.var? at h ⊢
 cases hn:Tryz.prog.globalNamed "internal/strconv.uint64pow10" with
 | none=>rw [hn] at h;exact h
 | some g=>
  rw [hn] at h;simp only [wb] at h ⊢;have hb:g<W.heap.size:=by
   cases hq:W.heap[g]? with
   | none=>rw [hq] at h;cases h
   | some o=>exact (xo.1 hq).1
  rw [hg.1 g hb];exact h
def ayX:∀args w,(callFunc 123 args).run Tryz.prog w= .ok (.enter 123 args) w:=enters_of Tryz.func123 (by kernel_rfl) rfl
def ayY:∀args w,(callFunc 122 args).run Tryz.prog w= .ok (.enter 122 args) w:=enters_of Tryz.func122 (by kernel_rfl) rfl
def ayZ:∀args w,(callFunc 168 args).run Tryz.prog w= .ok (.enter 168 args) w:=enters_of Tryz.func168 (by kernel_rfl) rfl
def ay0:∀args w,(callFunc 170 args).run Tryz.prog w= .ok (.enter 170 args) w:=enters_of Tryz.func170 (by kernel_rfl) rfl
def ay1:∀args w,(callFunc 171 args).run Tryz.prog w= .ok (.enter 171 args) w:=enters_of Tryz.func171 (by kernel_rfl) rfl
def ay2:∀args w,(callFunc 186 args).run Tryz.prog w= .ok (.enter 186 args) w:=enters_of Tryz.func186 (by kernel_rfl) rfl
def ay3:∀args w,(callFunc 180 args).run Tryz.prog w= .ok (.enter 180 args) w:=enters_of Tryz.func180 (by kernel_rfl) rfl
def ay4:∀args w,(callFunc 181 args).run Tryz.prog w= .ok (.enter 181 args) w:=enters_of Tryz.func181 (by kernel_rfl) rfl
def ay5:∀args w,(callFunc 182 args).run Tryz.prog w= .ok (.enter 182 args) w:=enters_of Tryz.func182 (by kernel_rfl) rfl
def ay6:∀args w,(callFunc 179 args).run Tryz.prog w= .ok (.enter 179 args) w:=enters_of Tryz.func179 (by kernel_rfl) rfl
def ay7:∀args w,(callFunc 204 args).run Tryz.prog w= .ok (.enter 204 args) w:=enters_of Tryz.func204 (by kernel_rfl) rfl
def ay8:∀args w,(callFunc 131 args).run Tryz.prog w= .ok (.enter 131 args) w:=enters_of Tryz.func131 (by kernel_rfl) rfl
def arf (b:Nat) (w:yi):(callFunc 191 #[.float .f64 b]).run Tryz.prog w= .ok (.value (.int .u64 b)) w:=by
 rw [run_callFunc_extern Tryz.func191 (by kernel_rfl) (by kernel_rfl) (by kernel_rfl) (e:=Extern.MathFloatBits.float64bits) (by kernel_rfl)];rfl
def alI (b:Nat) (w:yi):(callFunc 194 #[.int .u64 b]).run Tryz.prog w= .ok (.value (.float .f64 b)) w:=by
 rw [run_callFunc_extern Tryz.func194 (by kernel_rfl) (by kernel_rfl) (by kernel_rfl) (e:=Extern.MathFloatBits.float64frombits) (by kernel_rfl)];rfl
def axL (W:yi) (n:Nat) (sp:List AV->Option AV):Prop:=∀ao r,sp ao=some r->dS (O W) n ao r
section
variable {W:yi} {m:Int} (hm:W.cell? ⟨3,0,none⟩=some (.int .i64 m)) (ht:Lib.TabIs Tryz.prog W "internal/strconv.uint64pow10" .u64 Lib.pow10Tab)
include hm ht
theorem auQ:ahu.kS (axL W):=
 (Tr.iV (ao2 (O:=O W) (f:=182) (by rfl) ay5 (fun s z w hl h=>(Tryz.strconv_Atoi s z hl h w).mono fun _ _ ⟨h1,t,h2⟩=>⟨h1,h2▸FE (Lib.bytesWorld_below _ _ _)⟩))
  (Tr.iV (amc (O:=O W) (f:=171) (by rfl) ay1 Tryz.strings_Repeat)
  (Tr.iV (ao1 (O:=O W) (f:=168) (by rfl) ayZ (fun z w h0 h1 hg=>(Tryz.strconv_Itoa z h0 h1 w (aaE ht hg)).mono fun _ _ ⟨h1,k,os,h2⟩=>⟨h1,h2▸ZS⟩))
  (Tr.iV (ak7 (O:=O W) (f:=122) (by rfl) ayY Tryz.strings_CutPrefix)
  (Tr.iV (aqX (O:=O W) (f:=123) (by rfl) ayX (a:=⟨3,0,none⟩) (m:=m) hm (fun s sep w hs hc=>Tryz.strings_Cut s sep m w hs hc))
  Tr.ig Tr.ig) Tr.ig) (Tr.iV (ak5 (O:=O W) (f:=170) (by rfl) ay0 (fun z w hz hg=>(Tryz.akX z hz w (aaE ht hg)).mono fun _ _ ⟨h1,k,os,h2⟩=>⟨h1,h2▸ZS⟩))
  Tr.ig Tr.ig)) (Tr.iV (ak8 (O:=O W) (f:=180) (by rfl) ay3 Tryz.strings_HasPrefix)
  (Tr.iV (ane (O:=O W) (f:=186) (by rfl) ay2 (fun x y w hx hy=>Tryz.bits_Mul64 x y hx hy w))
  Tr.ig Tr.ig) (Tr.iV (ak4 (O:=O W) (f:=181) (by rfl) ay4 Tryz.strings_TrimPrefix)
  Tr.ig Tr.ig))) (Tr.iV (anh (O:=O W) (f:=226) (by rfl) (fun x y b w h=>Tryz.bits_Sub64 x y b h w))
  (Tr.iV (ao3 (O:=O W) (f:=204) (by rfl) ay7 (fun x w h0 h1=>Tryz.bits_LeadingZeros64 x w h0 h1))
  (Tr.iV (ao0 (O:=O W) (f:=179) (by rfl) ay6 (fun s cs w hs Aq ha=>Tryz.alk s cs w hs Aq ha))
  Tr.ig Tr.ig) (Tr.iV (ang (O:=O W) (f:=224) (by rfl) (fun x y c w h=>Tryz.bits_Add64 x y c h w))
  Tr.ig Tr.ig)) (Tr.iV (alv (O:=O W) (f:=191) (by rfl) arf)
  (Tr.iV (anf (O:=O W) (f:=131) (by rfl) ay8 (fun x w h0 h1=>Tryz.bits_Len64 x w h0 h1))
  Tr.ig Tr.ig) (Tr.iV (ak2 (O:=O W) (f:=194) (by rfl) alI)
  Tr.ig Tr.ig))))
theorem arh:er (O W) where
 hint n f g h:=Tr.A3 (p:=fun f g=>r8 lL.af g=f) (Ou lL.atm) h
 mixed:=by kernel_rfl
 prog n F h:=Tr.A3 lL.arb h
 az n sp ao r h hs:=Tr.A3 (auQ hm ht) h ao r hs
 Dd n sp hp ct ao v ap aV h:=by cases h
end
end J1
def lV:List Int->Int
 | []=>0
 | a::r=>if a=0 then lV r else a
def alJ {l:List Int} {i:Nat} (h:i<l.length):lV (l.drop i)=if l[i]=0 then lV (l.drop (i+1)) else l[i]:=by
 rw [y8 h,lV]
def mS (lo hi:Int):List Int->Bool
 | []=>false
 | a::r=>if a<lo\/hi<a then true else mS lo hi r
def aaF {lo hi:Int} {l:List Int} (h:mS lo hi l=false):∀i (jT:i<l.length),lo<=l[i]/\l[i]<=hi:=by
 induction l with
 | nil=>intro i jT;exact absurd jT (Nat.not_lt_zero _)
 | cons a r ih=>
  simp only [mS] at h
  grind
def ano {lo hi:Int} {l:List Int} (h:mS lo hi l=false):∀i,mS lo hi (l.take i)=false:=by
 induction l with
 | nil=>intro i;simp [mS]
 | cons a r ih=>
  intro i;simp only [mS] at h
  split at h
  ·grind
  ·rename_i hc
   cases i with
   | zero=>simp [mS]
   | succ i=>simp only [List.take_succ_cons,mS,hc,xk,ih h i]
def dv:List Int->Nat
 | []=>0
 | a::r=>a.toNat+1000000000*dv r
def kT:∀(a b:List Int),dv (a++b)=dv a+1000000000^a.length*dv b
 | [],b=>by simp [dv]
 | x::a,b=>by
  simp only [xi,dv,kT a b,yM,yU,xr]
  grind
def nO {l:List Int} (i:Nat):dv (l.take (i+1))=dv (l.take i)+1000000000^i*(l.getD i 0).toNat:=by
 by_cases h:i<l.length
 ·rw [wI h,kT,yW,xA (by omega)];simp [dv,xF,wA h]
 ·rw [yQ (by omega),yQ (by omega)]
  grind
abbrev dg (l:List Int):Prop:=mS 0 999999999 l=false
def gg {a b:List Int}:dg (a++b)↔dg a/\dg b:=by
 induction a with
 | nil=>simp [dg,mS]
 | cons x a ih=>
  simp only [dg,xi,mS] at ih ⊢
  grind
def jF {x:Int}:dg [x]↔0<=x/\x<1000000000:=by
 simp only [dg,mS]
 grind
def gC {l:List Int} (h:dg l) (i:Nat):0<=l.getD i 0/\l.getD i 0<1000000000:=by
 by_cases hi:i<l.length
 ·have:=aaF h i hi
  grind
 ·grind
def A7 {l:List Int} (h:dg l) (i:Nat):dg (l.take i):=ano h i
def iX:∀{l:List Int},dg l->dv l<1000000000^l.length
 | [],_=>by simp [dv]
 | x::l,h=>by
  have h':dg ([x]++l):=h;obtain ⟨h1,h2⟩:=gg.1 h';have h1:=jF.1 h1
  have:=iX h2
  simp only [dv,yM,yU];omega
def dH:List Int->List Int
 | []=>[]
 | a::r=>match dH r with | []=>if a=0 then [] else [a] | t::q=>a::t::q
def FG:∀l:List Int,dH (l++[0])=dH l
 | []=>rfl
 | a::l=>by simp only [xi,dH,FG l]
def Jy {a:Int} (h:a≠0):∀l:List Int,dH (l++[a])=l++[a]
 | []=>by simp [dH,h]
 | b::l=>by
  simp only [xi,dH,Jy h l]
  cases hq:l++[a] with
  | nil=>simp at hq
  | cons t q=>rfl
def rE:∀l:List Int,dv (dH l)=dv l
 | []=>rfl
 | a::l=>by
  have ih:=rE l;simp only [dH,dv]
  split
  ·rename_i h;rw [h] at ih
   split
   ·rename_i h0;subst h0;simp [dv,<-ih]
   ·simp [dv,<-ih]
  ·rename_i t q h;rw [h] at ih;simp only [dv] at ih ⊢;omega
def zi:∀{l:List Int},dg l->dg (dH l)
 | [],_=>rfl
 | a::l,h=>by
  have h':dg ([a]++l):=h;obtain ⟨h1,h2⟩:=gg.1 h';have ih:=zi h2;simp only [dH]
  split
  ·grind
  ·rename_i t q hq;rw [hq] at ih
   exact (gg (a:=[a]) (b:=t::q)).2 ⟨h1,ih⟩
def JL:∀l:List Int,(dH l).length<=l.length
 | []=>yA _
 | a::l=>by
  have ih:=JL l;simp only [dH]
  grind
def snoc {α:Type} (l:List α):l=[]\/∃m a,l=m++[a]:=by
 rcases List.eq_nil_or_concat l with h | ⟨m,a,h⟩
 ·grind
 ·grind
def alK:∀(n:Nat) (l:List Int),l.length=n->dH (dH l)=dH l:=by
 intro n
 induction n with
 | zero=>intro l h;rw [yD h];rfl
 | succ n ih=>
  intro l h;rcases snoc l with rfl | ⟨m,a,rfl⟩
  ·rfl
  ·by_cases h0:a=0
   ·subst h0;rw [FG]
    grind
   ·rw [Jy h0,Jy h0]
def amf (l:List Int):dH (dH l)=dH l:=alK _ l rfl
abbrev nz (l:List Int):Prop:=dH l=l
def CQ (l:List Int):nz (dH l):=amf l
def KW {l:List Int} (h:nz l) (hd:dg l) (h0:l≠[]):1000000000^(l.length-1)<=dv l:=by
 rcases snoc l with rfl | ⟨m,a,rfl⟩
 ·grind
 ·by_cases ha:a=0
  ·subst ha
   have:=JL m
   have e:=congrArg tN h;rw [FG] at e
   grind
  ·rw [kT]
   have:=jF.1 (gg.1 hd).2
   simp only [dv,yY,ta,uh,xp,yZ];have h1:1<=a.toNat:=by omega
   have:=yP (1000000000^m.length) h1
   omega
def ad4 {l:List Int} (h:nz l) (hd:dg l) (h0:dv l=0):l=[]:=by
 by_cases hl:l=[]
 ·grind
 ·have:=KW h hd hl
  grind
def PR {a b:List Int} (ha:dg a) (hb:nz b) (bJ:dg b) (h:a.length<b.length):dv a<dv b:=by
 have h1:=iX ha;have h2:=KW hb bJ (fun e=>by subst e;simp at h);have h3:1000000000^a.length<=1000000000^(b.length-1):=yR (by decide) (by omega);omega
def dF (m n:Nat):Int:=if m<n then -1 else if n<m then 1 else 0
def afg {l:List Int} {i:Nat} (h:i<l.length):dv l=dv (l.take i)+1000000000^i*(l[i].toNat+1000000000*dv (l.drop (i+1))):=by
 have e:l=l.take i++l[i]::l.drop (i+1):=by simp_all
 have:dv l=dv (l.take i++l[i]::l.drop (i+1)):=congrArg dv e
 rw [this,kT,yW,xA (by omega)];rfl
def ad5 {a b:List Int} {i:Nat} (ha:dg a) (hb:dg b) (h1:i<a.length) (h2:i<b.length) (he:a.drop (i+1)=b.drop (i+1)) (h:a[i]<b[i]):dv a<dv b:=by
 rw [afg h1,afg h2,he];have hl:=iX (A7 ha i);have g1:=aaF ha i h1;have h3:a[i].toNat+1000000000*dv (b.drop (i+1))+1<=b[i].toNat+1000000000*dv (b.drop (i+1)):=by omega
 have:=yP (1000000000^i) h3
 grind
def PS:∀{l:List Int} {j:Nat} {x:Int},j<l.length->dv (l.set j x)+1000000000^j*(l.getD j 0).toNat=dv l+1000000000^j*x.toNat
 | [],j,x,h=>by simp at h
 | a::l,0,x,_=>by simp [dv];omega
 | a::l,j+1,x,h=>by
  have ih:=PS (l:=l) (j:=j) (x:=x) (by simpa using h);simp only [yaI,dv,yaB,yU]
  grind
def Ky {l:List Int} (h:dg l) {j:Nat} {x:Int} (hx:0<=x/\x<1000000000):dg (l.set j x):=by
 by_cases hj:j<l.length
 ·rw [tD,yL hj];have e:l=l.take (j+1)++l.drop (j+1):=(xT _ _).symm;have hd:dg (l.drop (j+1)):=by rw [e] at h;exact (gg.1 h).2
  exact gg.2 ⟨A7 h j,(gg (a:=[x]) (b:=l.drop (j+1))).2 ⟨jF.2 hx,hd⟩⟩
 ·rw [List.set_eq_of_length_le (by omega)];exact h
def aaG {l:List Int} {j m:Nat} {x:Int} (h:m≠j):(l.set j x).getD m 0=l.getD m 0:=by grind
def ape {V0 V V' p q A X Y o c s:Nat} (hs:s=o+A*X+c) (bi:V'+p*q*o=V+p*q*(s%1000000000)) (hv:V+p*q*c=V0+p*(A*Y)):
  V'+p*(q*1000000000)*(s/1000000000)=V0+p*(A*(Y+q*X)):=by
 have e:=vI s 1000000000;have e2:p*q*s=p*q*(s%1000000000)+p*(q*1000000000)*(s/1000000000):=by
  conv=>lhs;rw [<-e]
  rw [xr,<-xb (p*q),<-xb p q]
 have e3:p*q*s=p*q*o+p*q*(A*X)+p*q*c:=by rw [hs,xr,xr]
 have e4:p*(A*(Y+q*X))=p*(A*Y)+p*q*(A*X):=by
  rw [xr,xr,xb p q,<-xb A q X,xg A q,xb q A X]
 omega
def aaH (n:Nat):dv (yK n 0)=0:=by
 induction n with
 | zero=>rfl
 | succ n ih=>simp [vC,dv,ih]
def aaI (n:Nat):dg (yK n 0):=by
 induction n with
 | zero=>rfl
 | succ n ih=>exact (gg (a:=[0]) (b:=yK n 0)).2 ⟨by decide,ih⟩
def bv (b:Nat):List Nat->Nat
 | []=>0
 | a::r=>a+b*bv b r
def lo (b:Nat) (l:List Nat):Prop:=∀x,x∈l->x<b
section
variable {b:Nat}
def zE (a:Nat):bv b [a]=a:=by simp [bv]
def pV:∀(l m:List Nat),bv b (l++m)=bv b l+b^l.length*bv b m
 | [],m=>by simp [bv]
 | x::l,m=>by
  simp only [xi,bv,pV l m,yM,yU,xr]
  grind
def gd {l:List Nat} {i:Nat} (h:i<l.length):l[i]=l.getD i 0:=by simp_all
def PT {l:List Nat} {i:Nat} (h:l.length<=i):l.getD i 0=0:=by simp_all
def iK {l:List Nat} (i:Nat):bv b (l.take (i+1))=bv b (l.take i)+b^i*l.getD i 0:=by
 by_cases h:i<l.length
 ·rw [wI h,pV,yW,xA (by omega),zE,gd h]
 ·rw [yQ (by omega),yQ (by omega),PT (by omega),xp,yZ]
def Kz:lo b []:=fun _ h=>by simp at h
def JM {l m:List Nat}:lo b (l++m)↔lo b l/\lo b m:=by
 constructor
 ·intro h;exact ⟨fun x hx=>h x (by simp [hx]),fun x hx=>h x (by simp [hx])⟩
 ·rintro ⟨h1,h2⟩ x hx;rcases wB.1 hx with h | h
  ·exact h1 x h
  ·exact h2 x h
def C2 {x:Nat}:lo b [x]↔x<b:=by simp [lo]
def gi (hb:0<b) {l:List Nat} (h:lo b l) (i:Nat):l.getD i 0<b:=by
 by_cases hi:i<l.length
 ·rw [<-gd hi];exact h _ (List.getElem_mem hi)
 ·grind
def zt {l:List Nat} (h:lo b l) (i:Nat):lo b (l.take i):=fun x hx=>h x (List.mem_of_mem_take hx)
def ad6 {l:List Nat} (h:lo b l) (i:Nat):lo b (l.drop i):=fun x hx=>h x (List.mem_of_mem_drop hx)
def lf {l:List Nat} (h:lo b l) {i x:Nat} (hx:x<b):lo b (l.set i x):=fun y hy=>by
 rcases List.mem_or_eq_of_mem_set hy with h1 | h1
 ·exact h y h1
 ·omega
def C3 (hb:0<b) (n:Nat):lo b (yK n 0):=fun x hx=>by
 grind
def C4 (n:Nat):bv b (yK n 0)=0:=by
 induction n with
 | zero=>rfl
 | succ n ih=>simp [vC,bv,ih]
def A8 (n m:Nat):(yK n (0:Nat)).getD m 0=0:=by grind
def lk:∀{l:List Nat},lo b l->bv b l<b^l.length
 | [],_=>by simp [bv]
 | x::l,h=>by
  have h1:=h x (by simp);have h2:=lk (l:=l) (fun y hy=>h y (by simp [hy]));simp only [bv,yM,yU,xg _ b]
  have:=yP b (show bv b l+1<=b^l.length from h2)
  grind
def mJ:∀{l:List Nat} {i x:Nat},i<l.length->bv b (l.set i x)+b^i*l.getD i 0=bv b l+b^i*x
 | [],i,x,h=>by simp at h
 | a::l,0,x,_=>by simp [bv];omega
 | a::l,i+1,x,h=>by
  have ih:=mJ (l:=l) (i:=i) (x:=x) (by simpa using h)
  have:=congrArg (fun t=>b*t) ih
  simp only [xr] at this;simp only [yaI,bv,yaB,yU,xg _ b,xb] at this ⊢;omega
def nP {l:List Nat} {i m x:Nat} (h:i≠m):(l.set i x).getD m 0=l.getD m 0:=by simp_all
def amg {l:List Nat} {i x:Nat} (h:i<l.length):(l.set i x).getD i 0=x:=by simp_all
def FW (l:List Nat) (i:Nat) (h:i<=l.length):bv b l=bv b (l.take i)+b^i*bv b (l.drop i):=by
 have:=pV (b:=b) (l.take i) (l.drop i)
 simp_all
def dI:List Nat->List Nat
 | []=>[]
 | a::r=>match dI r with | []=>if a=0 then [] else [a] | t::q=>a::t::q
def Jz:∀l:List Nat,dI (l++[0])=dI l
 | []=>rfl
 | a::l=>by simp only [xi,dI,Jz l]
def CG {a:Nat} (h:a≠0):∀l:List Nat,dI (l++[a])=l++[a]
 | []=>by simp [dI,h]
 | b::l=>by
  simp only [xi,dI,CG h l]
  cases hq:l++[a] with
  | nil=>simp at hq
  | cons t q=>rfl
abbrev fX (l:List Nat):Prop:=dI l=l
def amh:∀(n:Nat) (l:List Nat),l.length=n->∃i,i<=n/\dI l=l.take i/\fX (l.take i)/\bv b (l.take i)=bv b l:=by
 intro n
 induction n with
 | zero=>intro l h;rw [yD h];exact ⟨0,yA _,rfl,rfl,rfl⟩
 | succ n ih=>
  intro l h;rcases snoc l with rfl | ⟨m,a,rfl⟩
  ·grind
  ·have hm:m.length=n:=by simp_all
   by_cases h0:a=0
   ·subst h0;obtain ⟨i,h1,h2,h3,h4⟩:=ih m hm;have e:(m++[0]).take i=m.take i:=by grind
    refine ⟨i,by omega,by rw [Jz,h2,e],by rw [e];exact h3,?_⟩
    rw [e,h4,pV];simp [bv]
   ·have e:(m++[a]).take (n+1)=m++[a]:=yQ (by simp [hm]);exact ⟨n+1,yA _,by rw [e,CG h0],by rw [e];exact CG h0 m,by rw [e]⟩
def JN (l:List Nat):∃i,i<=l.length/\dI l=l.take i/\fX (dI l)/\bv b (dI l)=bv b l:=by
 obtain ⟨i,h1,h2,h3,h4⟩:=amh (b:=b) l.length l rfl
 grind
def zj (l:List Nat):bv b (dI l)=bv b l:=by
 obtain ⟨_,_,_,_,h⟩:=JN (b:=b) l;exact h
def zk (l:List Nat):fX (dI l):=by
 obtain ⟨_,_,_,h,_⟩:=JN (b:=2) l;exact h
def zm {l:List Nat} (h:lo b l):lo b (dI l):=by
 obtain ⟨i,_,h2,_⟩:=JN (b:=b) l;rw [h2];exact zt h i
def anp (l:List Nat):(dI l).length<=l.length:=by
 obtain ⟨i,_,h2,_⟩:=JN (b:=2) l
 grind
def J0 {l:List Nat} (h:fX l) (h0:l≠[]):l.getD (l.length-1) 0≠0:=by
 rcases snoc l with rfl | ⟨m,a,rfl⟩
 ·grind
 ·intro ha
  have:a=0:=by
   grind
  subst this;have e:=congrArg tN h;rw [Jz] at e
  have:=anp m
  grind
def PU (hb:0<b) {l:List Nat} (h:fX l) (h0:l≠[]):b^(l.length-1)<=bv b l:=by
 rcases snoc l with rfl | ⟨m,a,rfl⟩
 ·grind
 ·have ha:=J0 h h0;simp [xF] at ha;rw [pV,zE];simp only [yY,ta,uh]
  have:=yP (b^m.length) (show 1<=a by omega)
  omega
def Ki (hb:1<b) {l m:List Nat} (hl:lo b l) (hm:fX m) (h:l.length<m.length):bv b l<bv b m:=by
 have h1:=lk hl;have h2:=PU (b:=b) (by omega) hm (fun e=>by subst e;simp at h);have h3:b^l.length<=b^(m.length-1):=yR (by omega) (by omega);omega
def ad7 {l m:List Nat} (hl:lo b l) {i:Nat} (h1:i<l.length) (h2:i<m.length) (he:l.drop (i+1)=m.drop (i+1)) (h:l.getD i 0<m.getD i 0):bv b l<bv b m:=by
 rw [FW l (i+1) (by omega),FW m (i+1) (by omega),he,iK,iK]
 have:=lk (zt hl i)
 have:=yP (b^i) (show l.getD i 0+1<=m.getD i 0 from h)
 grind
def anq (hb:1<b) {l:List Nat} {k:Nat} (h:fX l) (hk:bv b l<b^k):l.length<=k:=by
 by_cases h0:l=[]
 ·grind
 ·have h1:=PU (b:=b) (by omega) h h0;have h2:b^(l.length-1)<b^k:=xJ h1 hk
  have:=(Nat.pow_lt_pow_iff_right hb).1 h2
  omega
def Y7 {V v1 v2 vr U u0 u1 u2 ur p t r:Nat} (hV:V=(v1*b+v2)*p+vr) (hU:U=((u0*b+u1)*b+u2)*p+ur) (hur:ur<p)
  (ht:t*v1+r=u0*b+u1) (h:r*b+u2<t*v2):U/V<=t-1:=by
 have h1:U<t*V:=by
  have e:t*((v1*b+v2)*p)=((t*v1)*b+t*v2)*p:=by
   grind
  have h2:((u0*b+u1)*b+u2)+1<=(t*v1)*b+t*v2:=by rw [<-ht,xU];omega
  have h3:=yT p h2;rw [hV,hU,xr,e]
  grind
 have pL:0<V:=by
  grind
 have:=(xx pL).2 h1
 omega
def ZT {V v1 v2 vr U u0 u1 u2 ur p t r:Nat} (hb:0<b) (hV:V=(v1*b+v2)*p+vr) (IQ:vr<p) (hU:U=((u0*b+u1)*b+u2)*p+ur) (eG:0<v1) (cI:v2<b) (jC:t<b)
  (ht:t*v1+r=u0*b+u1) (h:b<=r\/t*v2<=r*b+u2):t<=U/V+1:=by
 have h2:t*v2<=r*b+u2:=by
  rcases h with h | h
  ·have:=xZ (vZ jC) (vZ cI)
   have:=yT b h
   omega
  ·exact h
 have h3:t*(v1*b+v2)<=(u0*b+u1)*b+u2:=by
  rw [xr,<-xb,<-ht,xU];omega
 have hp:0<p:=by omega
 have aF4:b<=v1*b:=Nat.le_mul_of_pos_left b eG;have pL:0<V:=by
  have:=vd (show 0<v1*b+v2 by omega) hp
  omega
 rcases xh t with h0 | h0
 ·grind
 ·obtain ⟨s,rfl⟩:∃s,t=s+1:=⟨t-1,by omega⟩;have h4:s*V<=U:=by
   have h5:V<=(v1*b+v2+1)*p:=by grind
   have h6:=yP s h5;have h7:s*(v1*b+v2+1)<=(s+1)*(v1*b+v2):=by
    grind
   have h8:=yT p (Nat.le_trans h7 h3)
   grind
  exact Nat.succ_le_succ ((tk pL).2 h4)
def Oh {V v1 v2 vr U u0 u1 u2 ur p:Nat} (hV:V=(v1*b+v2)*p+vr) (hU:U=((u0*b+u1)*b+u2)*p+ur) (hur:ur<p) (sN:u2<b) (eG:0<v1):U/V<=(u0*b+u1)/v1:=by
 by_cases pL:V=0
 ·grind
 ·refine (tk eG).2 ?_;have h1:=Nat.div_mul_le_self U V;generalize U/V=q at h1 ⊢;have h2:q*v1*(b*p)<=q*V:=by
   rw [hV,xb]
   grind
  have h3:U<(u0*b+u1+1)*(b*p):=by
   have:(u0*b+u1)*b+u2+1<=(u0*b+u1+1)*b:=by grind
   have:=yT p this
   grind
  have h4:q*v1*(b*p)<(u0*b+u1+1)*(b*p):=by omega
  have:=yac h4
  omega
def ZU {V v1 v2 vr U u0 u1 u2 ur p:Nat} (hV:V=(v1*b+v2)*p+vr) (hU:U=((u0*b+u1)*b+u2)*p+ur) (IQ:vr<p) (cI:v2<b) (h:U<b*V):u0<=v1:=by
 refine Nat.le_of_lt_succ ?_;have h1:V<(v1+1)*(b*p):=by
  have:v1*b+v2+1<=(v1+1)*b:=by grind
  have:=yT p this
  grind
 have h2:u0*(b*(b*p))<=U:=by
  grind
 have h3:=yP b (vZ h1);have e:b*((v1+1)*(b*p))=(v1+1)*(b*(b*p)):=by grind
 rw [e] at h3;have h4:u0*(b*(b*p))<(v1+1)*(b*(b*p)):=xJ h2 (yE h h3);exact yac h4
end
section
variable {P:aM} {L:Lib} {f:cx} {F:Nat->cx}
def Az (f:cx) (F:Nat->cx):Prop:=∀c s r,f c s=some r->∃n,F n c s=some r
def Mon (F:Nat->cx):Prop:=∀n m,n<=m->Le (F n) (F m)
def Jk (h:Az f F) (n:Nat) (ao:List AV) (r:AV) (hr:bM P L f n ao=some r):∃k,bM P L (F k) n ao=some r:=by
 unfold bM at hr ⊢
 cases hL:L.pure n with
 | some sp=>exact ⟨0,by simpa only [hL] using hr⟩
 | none=>
  simp only [hL] at hr ⊢
  cases hP:P n with
  | none=>simp [hP] at hr
  | some G=>
   simp only [hP] at hr ⊢
   cases hf:f G.body ⟨dQ 0 ao,[],0,0⟩ with
   | none=>simp [hf] at hr
   | some q=>
    obtain ⟨k,hk⟩:=h _ _ _ hf
    grind
def Ov (h:Az f F) (hp:Hp) (ct:Nat) (n:Nat) (ao:List AV) (r:AV×Hp×Nat) (hr:ia P L f hp ct n ao=some r):∃k,ia P L (F k) hp ct n ao=some r:=by
 unfold ia at hr ⊢
 cases hL:L.heap n with
 | some sp=>exact ⟨0,by simpa only [hL] using hr⟩
 | none=>
  simp only [hL] at hr ⊢
  cases hP:P n with
  | none=>simp [hP] at hr
  | some G=>
   simp only [hP] at hr ⊢
   cases hf:f G.body ⟨dQ 0 ao,hp,ct,ct⟩ with
   | none=>simp [hf] at hr
   | some q=>
    obtain ⟨k,hk⟩:=h _ _ _ hf
    grind
def YE (h:Az f F) (hm:Mon F) (hp:Hp) (ct:Nat) (l:Nat) (xs:List AV) (r:AV×Hp×Nat) (hr:mB f hp ct l xs=some r):∃k,mB (F k) hp ct l xs=some r:=by
 have key:∃k,∀g,Le (F k) g->mB g hp ct l xs=some r:=by
  unfold mB at hr
  cases hl:aA hp l with
  | none=>simp [hl] at hr
  | some o=>
   split at hr
   ·rename_i tm ps cy body pe nn
    cases hb:p0 tm ps xs with
    | none=>simp [hb] at hr
    | some bG=>
     simp only [hb] at hr
     cases h1:f cy ⟨bG,hp,ct,ct⟩ with
     | none=>simp [h1] at hr
     | some q=>
      obtain ⟨k1,fg⟩:=h _ _ _ h1
      split at hr
      ·rename_i s1 QU
       split at hr
       ·rename_i ja B3 Am Bx sD ahd
        cases h2:f body ⟨s1.tm,bi s1.hp l (.lp ja B3 Am Bx 1 sD),s1.ct,s1.ct⟩ with
        | none=>simp [h2] at hr
        | some q2=>
         obtain ⟨k2,iy⟩:=h _ _ _ h2;refine ⟨max k1 k2,fun g hg=>?_⟩;have e1:=hg _ _ _ (hm k1 _ (vV k1 k2) _ _ _ fg);have e2:=hg _ _ _ (hm k2 _ (vK k1 k2) _ _ _ iy);unfold mB
         grind
       ·simp at hr
      ·simp at hr
   ·simp at hr
 obtain ⟨k,hk⟩:=key;exact ⟨k,hk _ (fun _ _ _ h=>h)⟩
def Y8 (h:Az f F) (hm:Mon F) (hp:Hp) (ct:Nat) (m:Md) (fv:AV) (xs:List AV) (r:AV×Hp×Nat) (hr:eD P L f hp ct m fv xs=some r):∃k,eD P L (F k) hp ct m fv xs=some r:=by
 unfold eD at hr ⊢
 split at hr
 ·rename_i n first cap
  cases m with
  | pure=>
   cases hz:cF deep hp (first++(xs++cap)) with
   | none=>simp [hz] at hr
   | some q=>
    simp only [hz] at hr ⊢
    cases hc:bM P L f n q.1 with
    | none=>simp [hc] at hr
    | some u=>
     obtain ⟨k,hk⟩:=Jk h n q.1 u hc
     grind
  | own=>
   cases hz:cF deep hp (first++(xs++cap)) with
   | none=>simp [hz] at hr
   | some q=>
    simp only [hz] at hr ⊢
    cases hc:bM P L f n q.1 with
    | none=>simp [hc] at hr
    | some u=>
     obtain ⟨k,hk⟩:=Jk h n q.1 u hc
     grind
  | heap=>exact Ov h _ _ _ _ _ hr
  | dyn=>
   cases hz:aH (first++(xs++cap)) with
   | true=>
    simp only [hz,yz] at hr ⊢
    cases hc:bM P L f n (first++(xs++cap)) with
    | none=>simp [hc] at hr
    | some u=>
     obtain ⟨k,hk⟩:=Jk h n _ u hc
     grind
   | false=>
    simp only [hz,yX] at hr ⊢;exact Ov h _ _ _ _ _ hr
 ·split at hr
  ·exact YE h hm _ _ _ _ _ hr
  ·exact YE h hm _ _ _ _ _ hr
  ·simp at hr
 ·simp at hr
def apf (h:Az f F) (hm:Mon F) (tm:Env) (hp:Hp) (ct:Nat) (o:Op) (r:AV×Hp×Nat) (hr:bg P L f tm hp ct o=some r):∃k,bg P L (F k) tm hp ct o=some r:=by
 unfold bg at hr ⊢
 split at hr
 ·exact Y8 h hm _ _ _ _ _ _ hr
 ·rename_i rs fv xs
  cases hc:eD P L f hp ct .dyn (ay tm fv) (da tm xs) with
  | none=>simp [hc] at hr
  | some q=>
   obtain ⟨k,hk⟩:=Y8 h hm _ _ _ _ _ _ hc
   grind
 all_goals exact ⟨0,by simpa only using hr⟩
def OP (h:Az f F) (hm:Mon F):∀(ops:List aX) (s s':St),dh P L f ops s=some s'->∃k,dh P L (F k) ops s=some s'
 | [],s,s',hr=>⟨0,by simpa only [dh] using hr⟩
 | ⟨d,gd,o⟩::r,s,s',hr=>by
  simp only [dh] at hr ⊢
  split at hr
  ·rename_i hw
   cases ho:bg P L f s.tm s.hp s.ct o with
   | none=>simp [ho] at hr
   | some q=>
    obtain ⟨k1,fg⟩:=apf h hm _ _ _ _ _ ho;simp only [ho] at hr;obtain ⟨k2,iy⟩:=OP h hm r _ _ hr;refine ⟨max k1 k2,?_⟩;rw [ZM (hm k1 _ (vV k1 k2)) _ _ _ _ _ fg];exact Ju (hm k2 _ (vK k1 k2)) r _ _ iy
  ·rename_i hw;exact OP h hm r _ _ hr
  ·simp at hr
def A0 (h:Az f F) (hm:Mon F):∀(c:VC) (s:St) (r:Ex×St),bD P L f c s=some r->∃k,bD P L (F k) c s=some r
 | .skip,s,r,hr=>⟨0,by simpa only [bD] using hr⟩
 | .nd ops,s,r,hr=>by
  simp only [bD] at hr ⊢
  cases ho:dh P L f ops s with
  | none=>simp [ho] at hr
  | some s'=>
   obtain ⟨k,hk⟩:=OP h hm _ _ _ ho
   grind
 | .seq a b,s,r,hr=>by
  simp only [bD] at hr ⊢
  cases ha:bD P L f a s with
  | none=>simp [ha] at hr
  | some q=>
   obtain ⟨k1,fg⟩:=A0 h hm a s q ha;obtain ⟨ex,s1⟩:=q
   cases ex with
   | normal=>
    simp only [ha] at hr;obtain ⟨k2,iy⟩:=A0 h hm b s1 r hr;refine ⟨max k1 k2,?_⟩;rw [oS (hm k1 _ (vV k1 k2)) a s _ fg];exact oS (hm k2 _ (vK k1 k2)) b s1 r iy
   | ret=>exact ⟨k1,by rw [fg];simpa only [ha] using hr⟩
   | exit id=>exact ⟨k1,by rw [fg];simpa only [ha] using hr⟩
 | .cond x a b,s,r,hr=>by
  simp only [bD] at hr ⊢
  split at hr
  ·rename_i t ht
   cases t with
   | true=>simp only [yz] at hr ⊢;exact A0 h hm a s r hr
   | false=>simp only [yX] at hr ⊢;exact A0 h hm b s r hr
  ·simp at hr
 | .dz id a,s,r,hr=>by
  simp only [bD] at hr ⊢
  cases ha:bD P L f a s with
  | none=>simp [ha] at hr
  | some q=>
   obtain ⟨k,hk⟩:=A0 h hm a s q ha
   grind
 | .kp live,s,r,hr=>⟨0,by simpa only [bD] using hr⟩
 | .fz ts,s,r,hr=>⟨0,by simpa only [bD] using hr⟩
 | .loop live a,s,r,hr=>by
  simp only [bD] at hr ⊢
  cases ha:bD P L f a (aP live s) with
  | none=>simp [ha] at hr
  | some q=>
   obtain ⟨k1,fg⟩:=A0 h hm a _ q ha;obtain ⟨ex,s1⟩:=q
   cases ex with
   | normal=>
    simp only [ha] at hr;obtain ⟨k2,iy⟩:=h _ _ _ hr;refine ⟨max k1 k2,?_⟩;rw [oS (hm k1 _ (vV k1 k2)) a _ _ fg];exact hm k2 _ (vK k1 k2) _ _ _ iy
   | ret=>exact ⟨k1,by rw [fg];simpa only [ha] using hr⟩
   | exit id=>exact ⟨k1,by rw [fg];simpa only [ha] using hr⟩
 | .rf fv ps cy body,s,r,hr=>by
  simp only [bD] at hr ⊢
  split at hr
  ·rename_i n first cap hx
   split at hr
   ·grind
   ·rename_i hL
    cases hc:ia P L f ((s.ct,.lp s.tm ps cy body 0 .none)::s.hp) (s.ct+1) n (first++(.fn (.y s.ct) [] []::cap)) with
    | none=>simp [hc] at hr
    | some q=>
     obtain ⟨k,hk⟩:=Ov h _ _ _ _ _ hc
     grind
  ·simp at hr
 | .exit id,s,r,hr=>⟨0,by simpa only [bD] using hr⟩
 | .ret,s,r,hr=>⟨0,by simpa only [bD] using hr⟩
end
section
variable (P:aM) (L:Lib)
noncomputable def D:cx:=fun c s=>@dite _ (∃r n,ev P L n c s=some r) (Classical.propDecidable _) (fun h=>some h.choose) (fun _=>none)
variable {P L}
def aij {c:VC} {s:St} {r:Ex×St} {n:Nat} (h:ev P L n c s=some r):D P L c s=some r:=by
 have hx:∃r n,ev P L n c s=some r:=⟨r,n,h⟩;unfold D;obtain ⟨m,hm⟩:=hx.choose_spec;have e1:=Pt P L (vV n m) _ _ _ h;have e2:=Pt P L (vK n m) _ _ _ hm
 grind
def VQ {c:VC} {s:St} {r:Ex×St} (h:D P L c s=some r):∃n,ev P L n c s=some r:=by
 unfold D at h;by_cases hx:∃r n,ev P L n c s=some r
 ·grind
 ·grind
def ay9 (n:Nat):Le (ev P L n) (D P L):=fun _ _ _ h=>aij h
def agt:Az (D P L) (ev P L):=fun _ _ _ h=>VQ h
def auR:Mon (ev P L):=fun _ _ h=>Pt P L h
def kL (c:VC) (s:St):D P L c s=bD P L (D P L) c s:=by
 cases h:D P L c s with
 | some r=>
  obtain ⟨n,hn⟩:=VQ h
  cases n with
  | zero=>rw [F8] at hn;cases hn
  | succ n=>rw [F9] at hn;exact (oS (ay9 n) c s r hn).symm
 | none=>
  cases hs:bD P L (D P L) c s with
  | none=>rfl
  | some r=>
   obtain ⟨n,hn⟩:=A0 agt auR c s r hs;rw [<-F9] at hn;rw [aij hn] at h;cases h
def afh {f:Nat} {ao:List AV} {r:AV} (h:bM P L (D P L) f ao=some r):∃n,WH P L n f ao=some r:=Jk agt f ao r h
end
section
open Go (IntKind BinOp UnOp)
section
variable {P:aM} {L:Lib}
structure Has (P:aM) (L:Lib) (n:Nat) (F:aE):Prop where
 pure:L.pure n=none
 heap:L.heap n=none
 code:P n=some F
noncomputable def kF (P:aM) (L:Lib) (r:Option (Ex×St)) (b:VC):Option (Ex×St):=match r with | some (.normal,s)=>D P L b s | r=>r
def rT (id:Nat) (r:Option (Ex×St)):Option (Ex×St):=match r with | some (.exit j,s)=>bif yp j id then some (.normal,s) else some (.exit j,s) | r=>r
noncomputable def G7 (P:aM) (L:Lib) (live:List Nat) (a:VC) (r:Option (Ex×St)):Option (Ex×St):=match r with | some (.normal,s)=>D P L (.loop live a) s | r=>r
def norm (r:Option St):Option (Ex×St):=match r with | some s=>some (.normal,s) | none=>none
noncomputable def KX (P:aM) (L:Lib) (v:AV) (a b:VC) (s:St):Option (Ex×St):=match v with | .bool t=>bif t then D P L a s else D P L b s | _=>none
def auS (s:St):D P L .skip s=some (.normal,s):=by rw [kL];rfl
def auT (id:Nat) (s:St):D P L (.exit id) s=some (.exit id,s):=by rw [kL];rfl
def axM (s:St):D P L .ret s=some (.ret,s):=by rw [kL];rfl
def aik (live:List Nat) (s:St):D P L (.kp live) s=some (.normal,aP live s):=by rw [kL];rfl
def aza (ts:List Nat) (s:St):D P L (.fz ts) s=norm (nW ts s):=by rw [kL];rfl
def axN (ops:List aX) (s:St):D P L (.nd ops) s=norm (dh P L (D P L) ops s):=by rw [kL];rfl
def jo (a b:VC) (s:St):D P L (.seq a b) s=kF P L (D P L a s) b:=by
 rw [kL,kL a];simp only [bD,kF]
 cases bD P L (D P L) a s with
 | none=>rfl
 | some q=>
  obtain ⟨e,s1⟩:=q
  cases e with
  | normal=>exact (kL b s1).symm
  | ret=>rfl
  | exit id=>rfl
def auU (x:X) (a b:VC) (s:St):D P L (.cond x a b) s=KX P L (ay s.tm x) a b s:=by
 rw [kL];simp only [bD,KX]
 cases ay s.tm x with
 | bool t=>
  cases t with
  | true=>exact (kL a s).symm
  | false=>exact (kL b s).symm
 | _=>rfl
def axO (id:Nat) (a:VC) (s:St):D P L (.dz id a) s=rT id (D P L a s):=by
 rw [kL,kL a];simp only [bD,rT]
 cases bD P L (D P L) a s with
 | none=>rfl
 | some q=>obtain ⟨e,s1⟩:=q;cases e<;>rfl
def KA (live:List Nat) (a:VC) (s:St):D P L (.loop live a) s=G7 P L live a (D P L a (aP live s)):=by
 rw [kL,kL a];simp only [bD,G7]
 cases bD P L (D P L) a (aP live s) with
 | none=>rfl
 | some q=>obtain ⟨e,s1⟩:=q;cases e<;>rfl
def fa (s:St) (b:VC):kF P L (some (.normal,s)) b=D P L b s:=rfl
def ari (s:St) (b:VC):kF P L (some (.ret,s)) b=some (.ret,s):=rfl
def arj (id:Nat) (s:St) (b:VC):kF P L (some (.exit id,s)) b=some (.exit id,s):=rfl
def ad8 (live:List Nat) (a:VC) (s:St):G7 P L live a (some (.normal,s))=D P L (.loop live a) s:=rfl
def ark (live:List Nat) (a:VC) (s:St):G7 P L live a (some (.ret,s))=some (.ret,s):=rfl
def arl (live:List Nat) (a:VC) (id:Nat) (s:St):G7 P L live a (some (.exit id,s))=some (.exit id,s):=rfl
def arm (id:Nat) (s:St):rT id (some (.normal,s))=some (.normal,s):=rfl
def arn (id:Nat) (s:St):rT id (some (.ret,s))=some (.ret,s):=rfl
def ad9 (id:Nat) (s:St):rT id (some (.exit id,s))=some (.normal,s):=by simp only [rT,wy,yz]
def aro {id j:Nat} (s:St) (h:j≠id):rT id (some (.exit j,s))=some (.exit j,s):=by
 have:yp j id=false:=by
  cases hq:yp j id with
  | false=>rfl
  | true=>exact absurd (yj hq) h
 simp only [rT,this,yX]
def auV (s:St):norm (some s)=some (.normal,s):=rfl
def auW:norm none=none:=rfl
def arp (a b:VC) (s:St):KX P L (.bool true) a b s=D P L a s:=rfl
def arq (a b:VC) (s:St):KX P L (.bool false) a b s=D P L b s:=rfl
noncomputable def Qp (P:aM) (L:Lib) (d:Option Nat) (r:List aX) (tm:Env) (base:Nat) (q:fT):Option St:=
 match q with | some (v,hp,ct)=>dh P L (D P L) r ⟨put d v tm,hp,ct,base⟩ | none=>none
noncomputable def Bp (P:aM) (L:Lib) (v:AV) (b:Bool) (d:Option Nat) (o:Op) (r:List aX) (s:St):Option St:=
 match v with
 | .bool c=>bif c==b then dh P L (D P L) (⟨d,none,o⟩::r) s else dh P L (D P L) r ⟨put d (.aa []) s.tm,s.hp,s.ct,s.base⟩
 | .aa []=>dh P L (D P L) r ⟨put d (.aa []) s.tm,s.hp,s.ct,s.base⟩
 | _=>none
def ars (s:St):dh P L (D P L) [] s=some s:=rfl
def apg (d:Option Nat) (o:Op) (r:List aX) (tm:Env) (hp:Hp) (ct base:Nat):
  dh P L (D P L) (⟨d,none,o⟩::r) ⟨tm,hp,ct,base⟩=Qp P L d r tm base (bg P L (D P L) tm hp ct o):=by
 simp only [dh,Qp]
 grind
def anr (d:Option Nat) (t:Nat) (b:Bool) (o:Op) (r:List aX) (tm:Env) (hp:Hp) (ct base:Nat):
  dh P L (D P L) (⟨d,some (t,b),o⟩::r) ⟨tm,hp,ct,base⟩=Bp P L (aj tm t) b d o r ⟨tm,hp,ct,base⟩:=by
 simp only [dh,Bp]
 cases aj tm t with
 | bool c=>
  simp only
  cases hc:(c==b) with
  | true=>simp only [yz]
  | false=>simp only [yX]
 | aa vs=>cases vs<;>rfl
 | _=>rfl
def art (d:Option Nat) (r:List aX) (tm:Env) (base:Nat) (v:AV) (hp:Hp) (ct:Nat):Qp P L d r tm base (some (v,hp,ct))=dh P L (D P L) r ⟨put d v tm,hp,ct,base⟩:=rfl
def axP (i:Nat) (v:AV) (tm:Env):put (some i) v tm=(i,v)::tm:=rfl
def axQ (v:AV) (tm:Env):put none v tm=tm:=rfl
def aph (d:Option Nat) (o:Op) (r:List aX) (s:St):Bp P L (.bool true) true d o r s=dh P L (D P L) (⟨d,none,o⟩::r) s:=rfl
def api (d:Option Nat) (o:Op) (r:List aX) (s:St):Bp P L (.bool false) false d o r s=dh P L (D P L) (⟨d,none,o⟩::r) s:=rfl
def apj (d:Option Nat) (o:Op) (r:List aX) (tm:Env) (hp:Hp) (ct base:Nat):Bp P L (.bool true) false d o r ⟨tm,hp,ct,base⟩=dh P L (D P L) r ⟨put d (.aa []) tm,hp,ct,base⟩:=rfl
def apk (d:Option Nat) (o:Op) (r:List aX) (tm:Env) (hp:Hp) (ct base:Nat):Bp P L (.bool false) true d o r ⟨tm,hp,ct,base⟩=dh P L (D P L) r ⟨put d (.aa []) tm,hp,ct,base⟩:=rfl
def aru (b:Bool) (d:Option Nat) (o:Op) (r:List aX) (tm:Env) (hp:Hp) (ct base:Nat):Bp P L (.aa []) b d o r ⟨tm,hp,ct,base⟩=dh P L (D P L) r ⟨put d (.aa []) tm,hp,ct,base⟩:=rfl
def gB {j i:Nat} (h:j≠i):yp j i=false:=by
 cases hq:yp j i with
 | false=>rfl
 | true=>exact absurd (yj hq) h
def auX (tm:Env) (i:Nat):ay tm (.t i)=aj tm i:=rfl
def auY (tm:Env) (v:AV):ay tm (.c v)=v:=rfl
def ans (tm:Env):da tm []=[]:=rfl
def ami (tm:Env) (x:X) (r:List X):da tm (x::r)=ay tm x::da tm r:=rfl
def apl (i:Nat) (v:AV) (r:Env):aj ((i,v)::r) i=v:=by simp only [aj,wy,yz]
def ant {j i:Nat} (v:AV) (r:Env) (h:j≠i):aj ((j,v)::r) i=aj r i:=by simp only [aj,gB h,yX]
def Pc (i:Nat) (o:Obj) (r:Hp):aA ((i,o)::r) i=some o:=by simp only [aA,wy,yz]
def anu {j i:Nat} (o:Obj) (r:Hp) (h:j≠i):aA ((j,o)::r) i=aA r i:=by simp only [aA,gB h,yX]
def apm (i:Nat) (o u:Obj) (r:Hp):bi ((i,o)::r) i u=(i,u)::r:=by simp only [bi,wy,yz]
def anv {j i:Nat} (o u:Obj) (r:Hp) (h:j≠i):bi ((j,o)::r) i u=(j,o)::bi r i u:=by simp only [bi,gB h,yX]
def apo (i:Nat):ej [] i=[]:=rfl
def apq (i:Nat) (o:Obj) (r:Hp):ej ((i,o)::r) i=ej r i:=by simp only [ej,wy,yz]
def anw {j i:Nat} (o:Obj) (r:Hp) (h:j≠i):ej ((j,o)::r) i=(j,o)::ej r i:=by simp only [ej,gB h,yX]
def rd (hp:Hp) (ct:Nat) (q:Option AV):fT:=match q with | some v=>some (v,hp,ct) | none=>none
def mk (hp:Hp) (ct:Nat) (q:Option (AV×Obj)):fT:=match q with | some (v,b)=>some (v,(ct,b)::hp,ct+1) | none=>none
def azb (hp:Hp) (ct:Nat) (v:AV):rd hp ct (some v)=some (v,hp,ct):=rfl
def azc (hp:Hp) (ct:Nat) (v:AV) (b:Obj):mk hp ct (some (v,b))=some (v,(ct,b)::hp,ct+1):=rfl
def Qq (c a b:AV):Option AV:=match c with | .bool t=>some (bif t then a else b) | _=>none
def IR (k:Nat->Option AV) (n:Option Nat):Option AV:=match n with | some i=>k i | none=>none
def agu (r:Option (List AV)):Option AV:=match r with | some cs=>some (.agg cs) | none=>none
def HU (ne:Bool) (r:Option Bool):Option AV:=match r with | some b=>some (.bool (ne !=b)) | none=>none
def azd:AV->Option AV
 | .ptr id o=>some (.ptr id o)
 | .cg cs=>some (.cg cs)
 | .fn f a b=>some (.fn f a b)
 | _=>none
def HV (i:Nat):AV->Option AV | .aa vs=>vs[i]? | _=>none
section
variable {f:cx} {tm:Env} {hp:Hp} {ct:Nat}
def auZ (x:X):bg P L f tm hp ct (.py x)=some (ay tm x,hp,ct):=rfl
def arv (c a b:X):bg P L f tm hp ct (.pick c a b)=rd hp ct (Qq (ay tm c) (ay tm a) (ay tm b)):=by
 rfl
def apr (z:List AV) (ps:List (Nat×Nat×X)):bg P L f tm hp ct (.Bt z ps)=rd hp ct (agu (fill tm z ps)):=by
 rfl
def axR (sz:Nat) (ag:Bool) (x:X):bg P L f tm hp ct (.ld sz ag x)=rd hp ct (iR hp sz ag (ay tm x)):=rfl
def arw (x:X):bg P L f tm hp ct (.Hg x)=rd hp ct (azd (ay tm x)):=by
 rfl
def au0 (op:BinOp) (x y:X):bg P L f tm hp ct (.bin op x y)=rd hp ct (binOp op (ay tm x) (ay tm y)):=rfl
def axS (ne:Bool) (k:Na) (x y:X):bg P L f tm hp ct (.eq ne k x y)=rd hp ct (HU ne (iZ k (ay tm x) (ay tm y))):=by
 rfl
def axT (op:UnOp) (x:X):bg P L f tm hp ct (.un op x)=rd hp ct (unOp op (ay tm x)):=rfl
def axU (k:Conv) (x:X):bg P L f tm hp ct (.cv k x)=rd hp ct (gj k (ay tm x)):=rfl
def au1 (g:Fr) (a b:List X):bg P L f tm hp ct (.DZ g a b)=some (.fn g (da tm a) (da tm b),hp,ct):=rfl
def au2 (k:Cut) (x:X) (lo hi:Option X):bg P L f tm hp ct (.ow k x lo hi)=rd hp ct (fb hp k (ay tm x) tm lo hi):=rfl
def au3 (k:Nat) (x:X):bg P L f tm hp ct (.off k x)=rd hp ct (GU k (ay tm x)):=rfl
def au4 (o sz:Nat) (ag:Bool) (x:X):bg P L f tm hp ct (.Il o sz ag x)=rd hp ct (KK o sz ag (ay tm x)):=rfl
def au5 (sz:Nat) (x i:X):bg P L f tm hp ct (.cB sz x i)=rd hp ct (IR (fun j=>lj sz j (ay tm x)) (dD (ay tm i))):=by
 rfl
def au6 (n sz:Nat) (x i:X):bg P L f tm hp ct (.D0 n sz x i)=rd hp ct (IR (fun j=>KL n sz j (ay tm x)) (dD (ay tm i))):=by
 rfl
def au7 (x i:X):bg P L f tm hp ct (.D1 x i)=rd hp ct (IR (fun j=>lY j (ay tm x)) (dD (ay tm i))):=by
 rfl
def au8 (n sz:Nat) (ag:Bool) (x i:X):bg P L f tm hp ct (.D2 n sz ag x i)=rd hp ct (IR (fun j=>KM n sz ag j (ay tm x)) (dD (ay tm i))):=by
 rfl
def au9 (i:Nat) (x:X):bg P L f tm hp ct (.ext i x)=rd hp ct (HV i (ay tm x)):=by
 rfl
def ava (k:Nat) (x:X):bg P L f tm hp ct (.len k x)=rd hp ct (jI hp k (ay tm x)):=rfl
def avb (sz:Nat) (x:X):bg P L f tm hp ct (.box sz x)=mk hp ct (cG tm hp ct (.box sz x)):=rfl
def arx (n sz:Nat) (z:List AV) (ps:List (Nat×Nat×X)):bg P L f tm hp ct (.lm n sz z ps)=mk hp ct (cG tm hp ct (.lm n sz z ps)):=rfl
def avc (sz bY:Nat) (z:List AV) (l c:X):bg P L f tm hp ct (.nc sz bY z l c)=mk hp ct (cG tm hp ct (.nc sz bY z l c)):=rfl
def avd:bg P L f tm hp ct .sC=some (.map ct,(ct,.mp true [] [])::hp,ct+1):=rfl
def ave (x:X):bg P L f tm hp ct (.oy x)=mk hp ct (cG tm hp ct (.oy x)):=rfl
def axV (sz:Nat) (x v:X):bg P L f tm hp ct (.st sz x v)=cA tm hp ct (.st sz x v):=rfl
def avf (sz bY:Nat) (s x:X):bg P L f tm hp ct (.aS sz bY s x)=cA tm hp ct (.aS sz bY s x):=rfl
def KY (hp:Hp) (ct:Nat) (r:Option AV):fT:=match r with | some v=>some (shut v,hp,ct) | none=>none
def MI (hp:Hp) (ct:Nat) (r:Option AV):fT:=match r with | some v=>some (own hp ct v) | none=>none
def Qr (P:aM) (L:Lib) (f:cx) (ct n:Nat) (q:Option (List AV×Hp)):fT:=match q with | some (ao,hp)=>KY hp ct (bM P L f n ao) | none=>none
def Qs (P:aM) (L:Lib) (f:cx) (ct n:Nat) (q:Option (List AV×Hp)):fT:=match q with | some (ao,hp)=>MI hp ct (bM P L f n ao) | none=>none
def Qt (P:aM) (L:Lib) (f:cx) (hp:Hp) (ct:Nat) (fv:AV) (xs:List AV):fT:=eD P L f hp ct .pure fv xs
def Qu (P:aM) (L:Lib) (f:cx) (hp:Hp) (ct:Nat) (fv:AV) (xs:List AV):fT:=eD P L f hp ct .own fv xs
def aps (g:X) (xs:List X):bg P L f tm hp ct (.call .pure g xs)=Qt P L f hp ct (ay tm g) (da tm xs):=rfl
def apt (g:X) (xs:List X):bg P L f tm hp ct (.call .own g xs)=Qu P L f hp ct (ay tm g) (da tm xs):=rfl
def apu (g:X) (xs:List X):bg P L f tm hp ct (.call .heap g xs)=eD P L f hp ct .heap (ay tm g) (da tm xs):=rfl
def ary (n:Nat) (first cap xs:List AV):Qt P L f hp ct (.fn (.f n) first cap) xs=Qr P L f ct n (cF deep hp (first++(xs++cap))):=by
 simp only [Qt,eD,Qr,KY]
 cases cF deep hp (first++(xs++cap)) with
 | none=>rfl
 | some q=>cases bM P L f n q.1<;>rfl
def arz (n:Nat) (first cap xs:List AV):Qu P L f hp ct (.fn (.f n) first cap) xs=Qs P L f ct n (cF deep hp (first++(xs++cap))):=by
 simp only [Qu,eD,Qs,MI]
 cases cF deep hp (first++(xs++cap)) with
 | none=>rfl
 | some q=>cases bM P L f n q.1<;>rfl
def arA (n:Nat) (ao:List AV):Qr P L f ct n (some (ao,hp))=KY hp ct (bM P L f n ao):=rfl
def arB (n:Nat) (ao:List AV):Qs P L f ct n (some (ao,hp))=MI hp ct (bM P L f n ao):=rfl
def arC (v:AV):KY hp ct (some v)=some (shut v,hp,ct):=rfl
def avg (v:AV):MI hp ct (some v)=some (own hp ct v):=rfl
def MJ (hp:Hp) (r:Option AV):Option AV:=match r with | some v=>result hp v | none=>none
def db (rs:List RV) (q:Option (Ex×St)):Option AV:=
 match q with
 | some (.normal,s) | some (.ret,s)=>MJ s.hp (hZ s rs)
 | _=>none
def aG {n:Nat} {F:aE} (h:Has P L n F) (ao:List AV):bM P L f n ao=db F.dj (f F.body ⟨dQ 0 ao,[],0,0⟩):=by
 simp only [bM,h.pure,h.code]
 cases hq:f F.body ⟨dQ 0 ao,[],0,0⟩ with
 | none=>rfl
 | some q=>
  obtain ⟨e,s⟩:=q
  cases e with
  | normal=>rfl
  | ret=>rfl
  | exit id=>rfl
def avh (rs:List RV) (s:St):db rs (some (.normal,s))=MJ s.hp (hZ s rs):=rfl
def avi (rs:List RV) (s:St):db rs (some (.ret,s))=MJ s.hp (hZ s rs):=rfl
def avj (v:AV):MJ hp (some v)=result hp v:=rfl
def VR (r:RV) (s:St):hZ s [r]=results1 s r:=by
 simp only [hZ,kh];cases results1 s r<;>rfl
def ail (r:Option (List AV)):Option AV:=match r with | some vs=>some (.aa vs) | none=>none
def aze (r q:RV) (l:List RV) (s:St):hZ s (r::q::l)=ail (kh s (r::q::l)):=by
 simp only [hZ,kh];cases results1 s r<;>cases results1 s q<;>cases kh s l<;>rfl
def agv (r:Option AV) (l:Option (List AV)):Option (List AV):=match r,l with | some v,some vs=>some (v::vs) | _,_=>none
def apv (s:St):kh s []=some []:=rfl
def anx (r:RV) (l:List RV) (s:St):kh s (r::l)=agv (results1 s r) (kh s l):=rfl
def arD (v:AV) (vs:List AV):agv (some v) (some vs)=some (v::vs):=rfl
def avk (vs:List AV):ail (some vs)=some (.aa vs):=rfl
def Qv (i:Nat) (s:St):results1 s (.t i)=some (aj s.tm i):=rfl
def axW (a:AV):dQ 0 [a]=[(0,a)]:=rfl
def axX (a b:AV):dQ 0 [a,b]=[(0,a),(1,b)]:=rfl
def axY (a b c:AV):dQ 0 [a,b,c]=[(0,a),(1,b),(2,c)]:=rfl
def axZ (a b c d:AV):dQ 0 [a,b,c,d]=[(0,a),(1,b),(2,c),(3,d)]:=rfl
def ax0 (a b c d e:AV):dQ 0 [a,b,c,d,e]=[(0,a),(1,b),(2,c),(3,d),(4,e)]:=rfl
def amj (k:xc) (n:Int):result hp (.int k n)=some (.int k n):=rfl
def alL (b:Bool):result hp (.bool b)=some (.bool b):=rfl
def amk (s:List Nat):result hp (.str s)=some (.str s):=rfl
def alM:result hp .ae=some .ae:=rfl
def aml (e:Bool) (n:Nat) (cs:List AV):result hp (.aB e n cs)=some (.aB e n cs):=rfl
def shut_int (k:xc) (n:Int):shut (.int k n)= .int k n:=rfl
def shut_bool (b:Bool):shut (.bool b)= .bool b:=rfl
def apw (s:List Nat):shut (.str s)= .str s:=rfl
def anz:shut .ae= .ae:=rfl
def apx (e:Bool) (n:Nat) (cs:List AV):shut (.aB e n cs)= .aB e n cs:=rfl
def apy (e:Bool) (sz n:Nat) (cs:List AV):shut (.bI e sz n cs)= .aB e n cs:=rfl
def bF (cs:List AV):shut (.agg cs)= .agg cs:=rfl
def arE (g:Fr) (a b:List AV):shut (.fn g a b)= .fn g a b:=rfl
def ji (vs:List AV):shut (.aa vs)= .aa (Bu vs):=rfl
def jg:Bu []=[]:=rfl
def jf (v:AV) (r:List AV):Bu (v::r)=b9 v::Bu r:=rfl
def anA (k:xc) (n:Int):b9 (.int k n)= .int k n:=rfl
def amm (b:Bool):b9 (.bool b)= .bool b:=rfl
def anB (s:List Nat):b9 (.str s)= .str s:=rfl
def amn:b9 .ae= .ae:=rfl
def anC (e:Bool) (n:Nat) (cs:List AV):b9 (.aB e n cs)= .aB e n cs:=rfl
def anD (e:Bool) (sz n:Nat) (cs:List AV):b9 (.bI e sz n cs)= .aB e n cs:=rfl
def rB (cs:List AV):b9 (.agg cs)= .agg cs:=rfl
def VS (n:Nat) (r:List AV) (q:Option (AV×Hp)):Option (List AV×Hp):=match q with | some (v,hp)=>(match cF n hp r with | some (vs,iS)=>some (v::vs,iS) | none=>none) | none=>none
def aim (v:AV) (q:Option (List AV×Hp)):Option (List AV×Hp):=match q with | some (vs,hp)=>some (v::vs,hp) | none=>none
def apz (n:Nat):cF (n+1) hp []=some ([],hp):=rfl
def anE (n:Nat) (v:AV) (r:List AV):cF (n+1) hp (v::r)=VS n r (freeze n hp v):=by
 simp only [cF,VS];cases freeze n hp v<;>rfl
def avl (n:Nat) (r:List AV) (v:AV):VS n r (some (v,hp))=aim v (cF n hp r):=by
 rfl
def avm (v:AV) (vs:List AV):aim v (some (vs,hp))=some (v::vs,hp):=rfl
def arF (n:Nat) (k:xc) (a:Int):freeze (n+1) hp (.int k a)=some (.int k a,hp):=rfl
def apA (n:Nat) (b:Bool):freeze (n+1) hp (.bool b)=some (.bool b,hp):=rfl
def arG (n:Nat) (s:List Nat):freeze (n+1) hp (.str s)=some (.str s,hp):=rfl
def apB (n:Nat):freeze (n+1) hp .ae=some (.ae,hp):=rfl
def arH (n:Nat) (e:Bool) (k:Nat) (cs:List AV):freeze (n+1) hp (.aB e k cs)=some (.aB e k cs,hp):=rfl
def apC (n:Nat) (cs:List AV):freeze (n+1) hp (.cg cs)=some (.cg cs,hp):=rfl
end
end
section
variable {hp:Hp}
def avn (a b:AV):Qq (.bool true) a b=some a:=rfl
def avo (a b:AV):Qq (.bool false) a b=some b:=rfl
def ax1 (k:Nat->Option AV) (n:Nat):IR k (some n)=k n:=rfl
def amo (k:xc) (n:Nat):dD (.int k (n:Int))=some n:=rfl
def avp (k:xc):dD (.int k 0)=some 0:=rfl
def avq (k:xc):dD (.int k 1)=some 1:=rfl
def avr (k:xc):dD (.int k 2)=some 2:=rfl
def avt (k:xc):dD (.int k 3)=some 3:=rfl
def avu (k:xc):dD (.int k 4)=some 4:=rfl
def avv (k:xc):dD (.int k 5)=some 5:=rfl
def avw (k:xc):dD (.int k 6)=some 6:=rfl
def avx (k:xc):dD (.int k 7)=some 7:=rfl
def avy (k:xc):dD (.int k 8)=some 8:=rfl
def avz (k:xc):dD (.int k 9)=some 9:=rfl
def arI (cs:List AV):agu (some cs)=some (.agg cs):=rfl
def aea (k:xc) (a b:Int):binOp .add (.int k a) (.int k b)=some (.int k (k.wrap (a+b))):=by simp [binOp,kC]
def Kj (k:xc) (a b:Int):binOp .sub (.int k a) (.int k b)=some (.int k (k.wrap (a-b))):=by simp [binOp,kC]
def aeb (k:xc) (a b:Int):binOp .mul (.int k a) (.int k b)=some (.int k (k.wrap (a*b))):=by simp [binOp,kC]
def eI (k:xc) (a b:Int) (h:b≠0):binOp .quo (.int k a) (.int k b)=some (.int k (k.wrap (a.tdiv b))):=by simp [binOp,kC,h]
def fo (k:xc) (a b:Int) (h:b≠0):binOp .rem (.int k a) (.int k b)=some (.int k (a.tmod b)):=by simp [binOp,kC,h]
def arJ (k:xc) (a b:Int):binOp .eql (.int k a) (.int k b)=some (.bool (decide (a=b))):=by
 simp [binOp,kC,intCmp,BEq.beq]
def arK (k:xc) (a b:Int):binOp .neq (.int k a) (.int k b)=some (.bool (!decide (a=b))):=by
 simp [binOp,kC,intCmp,bne,BEq.beq]
def arL (k:xc) (a b:Int):binOp .lss (.int k a) (.int k b)=some (.bool (decide (a<b))):=by simp [binOp,kC,intCmp]
def arM (k:xc) (a b:Int):binOp .leq (.int k a) (.int k b)=some (.bool (decide (a<=b))):=by simp [binOp,kC,intCmp]
def arN (k:xc) (a b:Int):binOp .gtr (.int k a) (.int k b)=some (.bool (decide (b<a))):=by simp [binOp,kC,intCmp]
def arO (k:xc) (a b:Int):binOp .geq (.int k a) (.int k b)=some (.bool (decide (b<=a))):=by simp [binOp,kC,intCmp]
def avA (k:xc) (a:Int):unOp .neg (.int k a)=some (.int k (k.wrap (0-a))):=rfl
def avB (b:Bool):unOp .not (.bool b)=some (.bool !b):=rfl
def apD:jI hp 1 .ae=some (.int .i64 0):=rfl
def arP (e:Bool) (n:Nat) (cs:List AV):jI hp 1 (.aB e n cs)=some (.int .i64 n):=rfl
def arQ (id o n:Nat):jI hp 1 (.aD id o n)=some (.int .i64 n):=rfl
def arR (s:List Nat):jI hp 0 (.str s)=some (.int .i64 s.length):=rfl
def aec {sz i n:Nat} (e:Bool) (cs:List AV) (h:i<n):lj sz i (.aB e n cs)=some (.cg (cs.drop (i*sz))):=by
 have hb:yI i n=true:=yr h;simp only [lj]
 grind
def cS {sz i n:Nat} (id o:Nat) (h:i<n):lj sz i (.aD id o n)=some (.ptr id (o+i*sz)):=by
 have hb:yI i n=true:=yr h;simp only [lj]
 grind
def apE (v:AV) (cs:List AV):iR hp 1 false (.cg (v::cs))=some v:=rfl
def NL (sz:Nat) (ag:Bool) (o:Nat) (q:Option Obj):Option AV:=match q with | some (.cells _ _ _ _ cs)=>iv sz ag (cs.drop o) | _=>none
def avC (sz:Nat) (ag:Bool) (id o:Nat):iR hp sz ag (.ptr id o)=NL sz ag o (aA hp id):=by
 rfl
def ax2 (sz:Nat) (ag:Bool) (o:Nat) (rw pu ex:Bool) (z:Nat) (cs:List AV):NL sz ag o (some (.cells rw pu ex z cs))=iv sz ag (cs.drop o):=rfl
def ax3 (sz:Nat) (v:AV) (cs:List AV):iv sz false (v::cs)=some v:=rfl
def azf (a:AV) (l:List AV):HV 0 (.aa (a::l))=some a:=rfl
def ext1 (a b:AV) (l:List AV):HV 1 (.aa (a::b::l))=some b:=rfl
def azg (a b c:AV) (l:List AV):HV 2 (.aa (a::b::c::l))=some c:=rfl
def azh (a b c d:AV) (l:List AV):HV 3 (.aa (a::b::c::d::l))=some d:=rfl
end
def rU:Env->Bool
 | []=>true
 | (_,v)::r=>bk v&&rU r
mutual
def aR:∀{v:AV},bk v=true->refs v=[]
 | .int _ _,_ | .bool _,_ | .aw _ _,_ | .str _,_ | .kG,_ | .cg _,_ | .ae,_ | .aB _ _ _,_ | .ik,_ | .jt,_ | .iQ _ _,_ | .undef,_=>rfl
 | .ptr _ _,h | .aD _ _ _,h | .map _,h | .it _,h | .bI _ _ _ _,h=>by simp [bk] at h
 | .fn (.y _) _ _,h=>by simp [bk] at h
 | .fn (.f _) first cap,h=>by
  simp only [bk,yf] at h;simp only [refs,FH h.1,FH h.2,xV]
 | .agg cs,h=>by simp only [bk] at h;simp only [refs,FH h]
 | .aa cs,h=>by simp only [bk] at h;simp only [refs,FH h]
def FH:∀{vs:List AV},aH vs=true->iN vs=[]
 | [],_=>rfl
 | v::r,h=>by
  simp only [aH,yf] at h;simp only [iN,aR h.1,FH h.2,xV]
end
mutual
def bc (f:Nat->Option Nat):∀{v:AV},bk v=true->bX f v=v
 | .int _ _,_ | .bool _,_ | .aw _ _,_ | .str _,_ | .kG,_ | .cg _,_ | .ae,_ | .aB _ _ _,_ | .ik,_ | .jt,_ | .iQ _ _,_ | .undef,_=>rfl
 | .ptr _ _,h | .aD _ _ _,h | .map _,h | .it _,h | .bI _ _ _ _,h=>by simp [bk] at h
 | .fn (.y _) _ _,h=>by simp [bk] at h
 | .fn (.f _) first cap,h=>by
  simp only [bk,yf] at h;simp only [bX,FN f h.1,FN f h.2]
 | .agg cs,h=>by simp only [bk] at h;simp only [bX,FN f h]
 | .aa cs,h=>by simp only [bk] at h;simp only [bX,FN f h]
def FN (f:Nat->Option Nat):∀{vs:List AV},aH vs=true->fw f vs=vs
 | [],_=>rfl
 | v::r,h=>by
  simp only [aH,yf] at h;simp only [fw,bc f h.1,FN f h.2]
end
def Y9:∀{tm:Env},rU tm=true->iO tm=[]
 | [],_=>rfl
 | (i,v)::r,h=>by
  simp only [rU,yf] at h;simp only [iO,aR h.1,Y9 h.2,xV]
def ZV (f:Nat->Option Nat):∀{tm:Env},rU tm=true->jO f tm=tm
 | [],_=>rfl
 | (i,v)::r,h=>by
  simp only [rU,yf] at h;simp only [jO,bc f h.1,ZV f h.2]
def alm {live:List Nat} {tm:Env} {ct:Nat} (h:rU (dJ tm live)=true):aP live ⟨tm,[],ct,0⟩=⟨dJ tm live,[],0,0⟩:=by
 simp only [aP,Y9 h,iI,xV];simp only [reach,jH,li,ZV _ h,yV,yZ]
def alN {tm:Env} {ct:Nat}:aP [] ⟨tm,[],ct,0⟩=⟨[],[],0,0⟩:=rfl
def aaJ {P:aM} {L:Lib} {live:List Nat} {a:VC} (I:Nat->St->Prop) (Q:Ex->St->Prop)
  (step:∀k s,I k s->(∃s' k',D P L a (aP live s)=some (.normal,s')/\k'<k/\I k' s')\/(∃ex s',D P L a (aP live s)=some (ex,s')/\ex≠.normal/\Q ex s')):
  ∀k s,I k s->∃ex s',D P L (.loop live a) s=some (ex,s')/\Q ex s':=by
 intro k
 induction k using vm with
 | _ k ih=>
  intro s hI;rw [KA];rcases step k s hI with ⟨s',k',h1,h2,h3⟩ | ⟨ex,s',h1,h2,h3⟩
  ·rw [h1,ad8];exact ih k' h2 s' h3
  ·rw [h1]
   cases ex with
   | normal=>exact absurd rfl h2
   | ret=>exact ⟨.ret,s',rfl,h3⟩
   | exit id=>exact ⟨.exit id,s',rfl,h3⟩
def nG {P:aM} {L:Lib} {live:List Nat} {a:VC} (I:Nat->St->Prop) (Q:Ex->St->Prop)
  (step:∀k s,I k s->(∃s' k',D P L a s=some (.normal,s')/\k'<k/\I k' (aP live s'))\/(∃ex s',D P L a s=some (ex,s')/\ex≠.normal/\Q ex s')):
  ∀k s,I k (aP live s)->∃ex s',D P L (.loop live a) s=some (ex,s')/\Q ex s':=
 aaJ (fun k s=>I k (aP live s)) Q (fun k s h=>step k _ h)
def dt {P:aM} {L:Lib} {live:List Nat} {a:VC} {I:Nat->St->Prop} {Q:Ex->St->Prop}
  (step:∀k s,I k s->(∃s' k',D P L a s=some (.normal,s')/\k'<k/\I k' (aP live s'))\/(∃ex s',D P L a s=some (ex,s')/\ex≠.normal/\Q ex s')):
  ∀k s s0,aP live s=s0->I k s0->∃ex s',D P L (.loop live a) s=some (ex,s')/\Q ex s':=fun k s s0 h hi=>nG I Q step k s (h▸hi)
def cr {P:aM} {L:Lib} {c:VC} {s:St} {q:Option (Ex×St)} {I:St->Prop} {Q:Ex->St->Prop} (hq:D P L c s=q) (key:∀s,I s->∃ex s',D P L c s=some (ex,s')/\Q ex s') (hI:I s):
  ∃ex s',q=some (ex,s')/\Q ex s':=by
 rw [<-hq];exact key s hI
def apF (tm:Env):dJ tm []=[]:=rfl
def anF (tm:Env) (i:Nat) (r:List Nat):dJ tm (i::r)=(i,aj tm i)::dJ tm r:=rfl
def anG:rU []=true:=rfl
def amp (i:Nat) (v:AV) (r:Env):rU ((i,v)::r)=(bk v&&rU r):=rfl
def afi (k:xc) (n:Int):bk (.int k n)=true:=(rfl)
def arS (b:Bool):bk (.bool b)=true:=(rfl)
def avD (s:List Nat):bk (.str s)=true:=(rfl)
def arT:bk .ae=true:=(rfl)
def avE (e:Bool) (n:Nat) (cs:List AV):bk (.aB e n cs)=true:=(rfl)
def arU (cs:List AV):bk (.cg cs)=true:=(rfl)
def apG:bk .undef=true:=(rfl)
attribute [go_sem] deep alN apF anF anG amp afi arS avD arT avE arU apG vO wq
attribute [go_sem] auS auT axM aik aza axN jo auU axO fa ari arj ad8 ark arl arm arn ad9 aro auV auW arp arq
 ars apg anr art axP axQ aph api apj apk aru auX auY ans ami apl ant Pc anu apm anv apo apq anw
 azb azc auZ arv apr axR arw au0 axS axT axU au1 au2 au3 au4 au5 au6 au7 au8 au9 ava avb arx avc avd ave axV avf aps apt apu
 ary arz arA arB arC avg avh avi avj VR aze apv anx arD avk Qv axW axX axY axZ ax0
 amj alL amk alM aml shut_int shut_bool apw anz apx apy bF arE ji jg jf anA amm anB amn anC anD rB
 apz anE avl avm arF apA arG apB arH apC
 avn avo ax1 amo avp avq avr avt avu avv avw avx avy avz arI aea Kj aeb arJ arK arL arM arN arO avA avB apD arP arQ arR apE avC ax2 ax3 azf ext1 azg azh
 xW xV xi yq yv Bool.not_true Bool.not_false ne_eq not_false_eq_true
end
abbrev ab (n:Int):AV:= .int .i64 n
def dB (v:AV) (cs:List AV):Prop:=(v= .ae/\cs=[])\/∃e,v= .aB e cs.length cs
section
variable {v:AV} {cs:List AV} {hp:Hp}
def dB.len (h:dB v cs) {hp:Hp}:jI hp 1 v=some (.int .i64 (cs.length:Nat)):=by
 rcases h with ⟨rfl,rfl⟩ | ⟨e,rfl⟩<;>rfl
def dB.pu (h:dB v cs):bk v=true:=by
 rcases h with ⟨rfl,rfl⟩ | ⟨e,rfl⟩<;>rfl
def dB.an (h:dB v cs) (n:Nat) {hp:Hp}:freeze (n+1) hp v=some (v,hp):=by
 rcases h with ⟨rfl,rfl⟩ | ⟨e,rfl⟩<;>rfl
def dB.shut (h:dB v cs):shut v=v:=by
 rcases h with ⟨rfl,rfl⟩ | ⟨e,rfl⟩<;>rfl
def dB.b9 (h:dB v cs):b9 v=v:=by
 rcases h with ⟨rfl,rfl⟩ | ⟨e,rfl⟩<;>rfl
def dB.dj (h:dB v cs) {hp:Hp}:result hp v=some v:=by
 rcases h with ⟨rfl,rfl⟩ | ⟨e,rfl⟩<;>rfl
def dB.cB (h:dB v cs) {i:Nat} (hi:i<cs.length):lj 1 i v=some (.cg (cs[i]::cs.drop (i+1))):=by
 rcases h with ⟨rfl,rfl⟩ | ⟨e,rfl⟩
 ·grind
 ·rw [aec e _ hi,ym,y8 hi]
def dB.one (h:dB v cs):eb v=true:=by
 rcases h with ⟨rfl,rfl⟩ | ⟨e,rfl⟩<;>rfl
def dB.cells (h:dB v cs):cellsOf v=[v]:=by
 rcases h with ⟨rfl,rfl⟩ | ⟨e,rfl⟩<;>rfl
def aed (e:Bool) (cs:List AV):dB (.aB e cs.length cs) cs:= .inr ⟨e,rfl⟩
def zn:dB .ae []:= .inl ⟨rfl,rfl⟩
end
def bw (v:AV) (l:List Int):Prop:=dB v (l.map ab)
section
variable {v:AV} {l:List Int}
def bw.len (h:bw v l) {hp:Hp}:jI hp 1 v=some (.int .i64 (l.length:Nat)):=by
 have:=dB.len (hp:=hp) h
 grind
def bw.pu (h:bw v l):bk v=true:=dB.pu h
def bw.an (h:bw v l) (n:Nat) {hp:Hp}:freeze (n+1) hp v=some (v,hp):=dB.an h n
def bw.shut (h:bw v l):VE.shut v=v:=dB.shut h
def bw.b9 (h:bw v l):VE.b9 v=v:=dB.b9 h
def bw.dj (h:bw v l) {hp:Hp}:result hp v=some v:=dB.dj h
def bw.one (h:bw v l):eb v=true:=dB.one h
def bw.cells (h:bw v l):cellsOf v=[v]:=dB.cells h
def bw.cB (h:bw v l) {i:Nat} (hi:i<l.length):lj 1 i v=some (.cg (.int .i64 l[i]::(l.map ab).drop (i+1))):=by
 have:=dB.cB h (i:=i) (by simpa using hi)
 grind
def mD (e:Bool) (l:List Int):bw (.aB e l.length (l.map ab)) l:=by
 have:=aed e (l.map ab)
 rwa [xy] at this
end
def Aa {α β:Type} (p:α->β->Prop):List α->List β->Prop
 | [],[]=>True
 | a::r,b::s=>p a b/\Aa p r s
 | _,_=>False
def IsS (v:AV) (s:List (List Int)):Prop:=∃rows,dB v rows/\Aa bw rows s
def wrap64 {n:Int} (h1: -9223372036854775808<=n) (h2:n<9223372036854775808):IntKind.wrap .i64 n=n:=by
 simp only [IntKind.wrap,IntKind.bits,IntKind.signed,wq]
 grind
def wrapN {n:Nat} (h:n<9223372036854775808):IntKind.wrap .i64 (n:Int)=n:=wrap64 (by omega) (by omega)
section
variable {P:aM} {L:Lib}
abbrev ai (P:aM) (L:Lib) (f:Nat) (ao:List AV) (r:AV):Prop:=bM P L (D P L) f ao=some r
end
section
variable {P:aM} {L:Lib} {f:cx} {tm:Env} {hp:Hp} {ct:Nat}
def anH (k:xc) (n:Int):cellsOf (.int k n)=[.int k n]:=(rfl)
def amq (b:Bool):cellsOf (.bool b)=[.bool b]:=(rfl)
def anI (s:List Nat):cellsOf (.str s)=[.str s]:=(rfl)
def amr:cellsOf .ae=[.ae]:=(rfl)
def anJ (e:Bool) (n:Nat) (cs:List AV):cellsOf (.aB e n cs)=[.aB e n cs]:=(rfl)
def anK (id o n:Nat):cellsOf (.aD id o n)=[.aD id o n]:=(rfl)
def anL (id o:Nat):cellsOf (.ptr id o)=[.ptr id o]:=(rfl)
def apH (g:Fr) (a b:List AV):cellsOf (.fn g a b)=[.fn g a b]:=(rfl)
def anM (cs:List AV):cellsOf (.agg cs)=cs:=(rfl)
def aee (k:xc) (n:Int):eb (.int k n)=true:=(rfl)
def apI (b:Bool):eb (.bool b)=true:=(rfl)
def arV (s:List Nat):eb (.str s)=true:=(rfl)
def apJ:eb .ae=true:=(rfl)
def arW (e:Bool) (n:Nat) (cs:List AV):eb (.aB e n cs)=true:=(rfl)
def arX (id o n:Nat):eb (.aD id o n)=true:=(rfl)
def arY (id o:Nat):eb (.ptr id o)=true:=(rfl)
def avF (g:Fr) (a b:List AV):eb (.fn g a b)=true:=(rfl)
def apK:cK []=true:=(rfl)
def ZW (v:AV) (r:List AV):cK (v::r)=(eb v&&cK r):=(rfl)
def anN:aH []=true:=(rfl)
def ams (v:AV) (r:List AV):aH (v::r)=(bk v&&aH r):=(rfl)
def avG (id o:Nat):bk (.ptr id o)=false:=(rfl)
def avH (id o n:Nat):bk (.aD id o n)=false:=(rfl)
def ax4 (g:Nat) (a b:List AV):bk (.fn (.f g) a b)=(aH a&&aH b):=(rfl)
def azi (l:Nat) (a b:List AV):bk (.fn (.y l) a b)=false:=(rfl)
def avI (cs:List AV):bk (.agg cs)=aH cs:=(rfl)
def avJ (cs:List AV):bk (.aa cs)=aH cs:=(rfl)
def DN (ct sz:Nat) (cs:List AV):Option (AV×Obj):=bif yp cs.length sz&&cK cs then some (.ptr ct 0,.cells true (aH cs) true sz cs) else none
def avK (sz:Nat) (x:X):cG tm hp ct (.box sz x)=DN ct sz (cellsOf (ay tm x)):=rfl
def ax5 {v:AV} (h:eb v=true):DN ct 1 [v]=some (.ptr ct 0,.cells true (bk v&&true) true 1 [v]):=by
 simp [DN,cK,aH,h]
def bf {cs:List AV} {n:Nat} (hn:cs.length=n) (h:cK cs=true):DN ct n cs=some (.ptr ct 0,.cells true (aH cs) true n cs):=by
 subst hn;simp [DN,h]
def jY (hp:Hp) (ct id o sz:Nat) (new:List AV) (q:Option Obj):fT:=
 match q with
 | some (.cells true pu ex z cs)=>bif yp new.length sz&&yy (o+sz) cs.length&&cK new then some (.aa [],bi hp id (.cells true (pu&&aH new) ex z (over o new cs)),ct) else none
 | _=>none
def stV (hp:Hp) (ct sz:Nat) (p:AV) (new:List AV):fT:=match p with | .ptr id o=>jY hp ct id o sz new (aA hp id) | _=>none
def aaK (sz:Nat) (x v:X):cA tm hp ct (.st sz x v)=stV hp ct sz (ay tm x) (cellsOf (ay tm v)):=rfl
def agw (sz id o:Nat) (new:List AV):stV hp ct sz (.ptr id o) new=jY hp ct id o sz new (aA hp id):=rfl
def azj {v u:AV} {id z:Nat} {pu ex:Bool} (h:eb v=true):jY hp ct id 0 1 [v] (some (.cells true pu ex z [u]))=some (.aa [],bi hp id (.cells true (pu&&(bk v&&true)) ex z [v]),ct):=by
 simp [jY,cK,aH,h,over];rfl
def KZ {new cs:List AV} {id o sz z:Nat} {pu ex:Bool} (h1:new.length=sz) (h2:o+sz<=cs.length) (h:cK new=true):
  jY hp ct id o sz new (some (.cells true pu ex z cs))=some (.aa [],bi hp id (.cells true (pu&&aH new) ex z (over o new cs)),ct):=by
 subst h1;simp [jY,h,yr h2]
def K0 (ct n sz:Nat) (q:Option (List AV)):Option (AV×Obj):=match q with | some cs=>bif yp cs.length (n*sz) then some (.aD ct 0 n,.cells true (aH cs) true sz cs) else none | none=>none
def arZ (n sz:Nat) (z:List AV) (ps:List (Nat×Nat×X)):cG tm hp ct (.lm n sz z ps)=K0 ct n sz (fill tm z ps):=by
 simp only [cG,K0];cases fill tm z ps<;>rfl
def ar0 {n sz:Nat} {cs:List AV} (h:cs.length=n*sz):K0 ct n sz (some cs)=some (.aD ct 0 n,.cells true (aH cs) true sz cs):=by
 simp [K0,h]
def zP (tm:Env) (cs:List AV) (o sz:Nat) (new:List AV) (r:List (Nat×Nat×X)):Option (List AV):=
 bif yp new.length sz&&yy (o+sz) cs.length&&cK new then fill tm (over o new cs) r else none
def apL (cs:List AV):fill tm cs []=some cs:=rfl
def anO (cs:List AV) (o sz:Nat) (x:X) (r:List (Nat×Nat×X)):fill tm cs ((o,sz,x)::r)=zP tm cs o sz (cellsOf (ay tm x)) r:=rfl
def aef {cs:List AV} {o:Nat} {v:AV} {r:List (Nat×Nat×X)} (h1:o+1<=cs.length) (h2:eb v=true):zP tm cs o 1 [v] r=fill tm (over o [v] cs) r:=by
 simp [zP,cK,h2,yr h1]
def aeg {cs new:List AV} {o sz:Nat} {r:List (Nat×Nat×X)} (h0:new.length=sz) (h1:o+sz<=cs.length) (h2:cK new=true):zP tm cs o sz new r=fill tm (over o new cs) r:=by
 subst h0;simp [zP,h2,yr h1]
def ax6 (v u:AV) (r:List AV):over 0 [v] (u::r)=v::r:=rfl
def ax7 (v a u:AV) (r:List AV):over 1 [v] (a::u::r)=a::v::r:=rfl
def ax8 (v a b u:AV) (r:List AV):over 2 [v] (a::b::u::r)=a::b::v::r:=rfl
def ax9 (v a b c u:AV) (r:List AV):over 3 [v] (a::b::c::u::r)=a::b::c::v::r:=rfl
def aya (v a b c d u:AV) (r:List AV):over 4 [v] (a::b::c::d::u::r)=a::b::c::d::v::r:=rfl
def ayb (v a b c d e u:AV) (r:List AV):over 5 [v] (a::b::c::d::e::u::r)=a::b::c::d::e::v::r:=rfl
def Ab (ct sz bY:Nat) (zero:List AV) (l c:Option Nat):Option (AV×Obj):=
 match l,c with
 | some l,some c=>bif yy l c&&(yy c room&&(yy (c*bY) room&&(yp zero.length sz&&cK zero))) then some (.aD ct 0 l,.cells true (aH zero) (yp l c) sz (yK l zero).flatten) else none
 | _,_=>none
def avL (sz bY:Nat) (z:List AV) (l c:X):cG tm hp ct (.nc sz bY z l c)=Ab ct sz bY z (dD (ay tm l)) (dD (ay tm c)):=by
 simp only [cG,Ab]
 grind
def KB {sz bY l:Nat} {z:List AV} (h1:l<=1099511627776) (h2:l*bY<=1099511627776) (h3:z.length=sz) (h4:cK z=true):
  Ab ct sz bY z (some l) (some l)=some (.aD ct 0 l,.cells true (aH z) true sz (yK l z).flatten):=by
 subst h3;simp [Ab,h4,yr (show l<=room from h1),yr (show l*bY<=room from h2),yr (yA l)]
def BT (hp:Hp) (ct sz bY:Nat) (s:AV) (src:Option (Nat×List AV)):fT:=
 match src with
 | none=>none
 | some (m,new)=>
  match s with
  | .ae=>
   bif yp m 0 then some (.ae,hp,ct)
   else bif yy m room&&(yy (m*bY) room&&yI 0 sz) then some (.aD ct 0 m,(ct,.cells true (aH new) false sz new)::hp,ct+1) else none
  | .aB true n cs=>
   bif yp m 0 then some (.aB true n cs,hp,ct)
   else bif yy (n+m) room&&(yy ((n+m)*bY) room&&(yp cs.length (n*sz)&&yI 0 sz)) then some (.aD ct 0 (n+m),(ct,.cells true (aH cs&&aH new) false sz (cs++new))::hp,ct+1) else none
  | .aD id o n=>
   match aA hp id with
   | some (.cells true pu _ z cs)=>
    bif yp z sz&&(yy (n+m) room&&(yy ((n+m)*bY) room&&(yy (o+n*sz) cs.length&&(yI 0 sz&&cK new)))) then
     some (.aD ct 0 (n+m),(ct,.cells true (pu&&aH new) false sz (slice o (n*sz) cs++new))::ej hp id,ct+1)
    else none
   | _=>none
  | _=>none
def anP (sz bY:Nat) (s x:X):cA tm hp ct (.aS sz bY s x)=BT hp ct sz bY (ay tm s) (iL hp sz (ay tm x)):=by
 simp only [cA,BT]
 cases iL hp sz (ay tm x) with
 | none=>rfl
 | some q=>obtain ⟨m,new⟩:=q;cases ay tm s<;>rfl
def amt (sz id o n:Nat):iL hp sz (.aD id o n)=kW hp sz (.aD id o n):=rfl
def amu (sz:Nat) (e:Bool) (n:Nat) (cs:List AV):iL hp sz (.aB e n cs)=kW hp sz (.aB e n cs):=rfl
def alO (sz:Nat):iL hp sz .ae=some (0,[]):=rfl
def atC (o n sz:Nat) (q:Option Obj):Option (Nat×List AV):=match q with | some (.cells _ _ _ _ cs)=>bif yy (o+n*sz) cs.length then some (n,slice o (n*sz) cs) else none | _=>none
def alP (sz id o n:Nat):kW hp sz (.aD id o n)=atC o n sz (aA hp id):=rfl
def ayc (rw pu ex:Bool) (z:Nat) (v:AV):atC 0 1 1 (some (.cells rw pu ex z [v]))=some (1,[v]):=rfl
def kU {sz bY:Nat} {new:List AV} {m:Nat} (hm:0<m) (h1:m<=1099511627776) (h2:m*bY<=1099511627776) (hs:0<sz):
  BT hp ct sz bY .ae (some (m,new))=some (.aD ct 0 m,(ct,.cells true (aH new) false sz new)::hp,ct+1):=by
 have e1:yp m 0=false:=gB (by omega);have e2:yI 0 sz=true:=yr hs;simp [BT,e1,e2,yr (show m<=room from h1),yr (show m*bY<=room from h2)]
def kw {sz bY id n m:Nat} {pu ex:Bool} {cs new:List AV} (hg:aA hp id=some (.cells true pu ex sz cs)) (hl:cs.length=n*sz) (h1:n+m<=1099511627776) (h2:(n+m)*bY<=1099511627776) (hs:0<sz) (ho:cK new=true):
  BT hp ct sz bY (.aD id 0 n) (some (m,new))=some (.aD ct 0 (n+m),(ct,.cells true (pu&&aH new) false sz (cs++new))::ej hp id,ct+1):=by
 have e2:yI 0 sz=true:=yr hs;simp only [BT,hg];simp [e2,ho,yr (show n+m<=room from h1),yr (show (n+m)*bY<=room from h2),<-hl,slice,yr (yA cs.length)]
def ain (n:Nat) (g:Nat) (cap:List AV) (q:Option (List AV×Hp)):Option (AV×Hp):=match q with | some (first,hp)=>(match cF n hp cap with | some (Lh,iS)=>some (.fn (.f g) first Lh,iS) | none=>none) | none=>none
def aio (g:Nat) (first:List AV) (q:Option (List AV×Hp)):Option (AV×Hp):=match q with | some (cap,hp)=>some (.fn (.f g) first cap,hp) | none=>none
def avM (n g:Nat) (first cap:List AV):freeze (n+1) hp (.fn (.f g) first cap)=ain n g cap (cF n hp first):=rfl
def avN (n g:Nat) (first cap:List AV):ain n g cap (some (first,hp))=aio g first (cF n hp cap):=rfl
def avO (g:Nat) (first cap:List AV):aio g first (some (cap,hp))=some (.fn (.f g) first cap,hp):=rfl
def aip (o:Nat) (q:Option (Bool×Nat×List AV×Hp)):Option (AV×Hp):=match q with | some (_,_,cs,hp)=>some (.cg (cs.drop o),hp) | none=>none
def ar1 (n id o:Nat):freeze (n+1) hp (.ptr id o)=aip o (pR n hp id):=rfl
def avP (o:Nat) (ex:Bool) (sz:Nat) (cs:List AV):aip o (some (ex,sz,cs,hp))=some (.cg (cs.drop o),hp):=rfl
def kM (o k:Nat) (q:Option (Bool×Nat×List AV×Hp)):Option (AV×Hp):=
 match q with
 | some (ex,sz,cs,hp)=>bif yy (o+k*sz) cs.length then some (.aB (ex&&yI 0 sz&&yp (o+k*sz) cs.length) k (slice o (k*sz) cs),hp) else none
 | none=>none
def ar2 (n id o k:Nat):freeze (n+1) hp (.aD id o k)=kM o k (pR n hp id):=rfl
def rF {sz k:Nat} {cs:List AV} (ex:Bool) (hl:cs.length=k*sz) (hs:0<sz):kM 0 k (some (ex,sz,cs,hp))=some (.aB ex k cs,hp):=by
 have e2:yI 0 sz=true:=yr hs;simp [kM,<-hl,e2,slice,yr (yA cs.length)]
def VT (n id:Nat) (hp:Hp) (q:Option Obj):Option (Bool×Nat×List AV×Hp):=
 match q with
 | some (.cells rw pu ex sz cs)=>
  bif pu then some (ex,sz,cs,bif rw then bi hp id (.cells false true ex sz cs) else hp)
  else match cF n hp cs with
   | some (dL,ap)=>some (ex,sz,dL,bi ap id (.cells false false ex sz cs))
   | none=>none
 | _=>none
def ar3 (n id:Nat):pR (n+1) hp id=VT n id hp (aA hp id):=rfl
def avQ (n id:Nat) (ex:Bool) (sz:Nat) (cs:List AV):VT n id hp (some (.cells true true ex sz cs))=some (ex,sz,cs,bi hp id (.cells false true ex sz cs)):=rfl
def avR (n id:Nat) (ex:Bool) (sz:Nat) (cs:List AV):VT n id hp (some (.cells false true ex sz cs))=some (ex,sz,cs,hp):=rfl
def b8 (n:Nat) (cs:List AV) (h:cF n hp cs=some (cs,hp)):freeze (n+1) hp (.agg cs)=some (.agg cs,hp):=by
 simp only [freeze,h]
def Za {id n sz:Nat} {ex:Bool} {cs:List AV} (hg:aA hp id=some (.cells true true ex sz cs)) (hl:cs.length=n*sz) (hs:0<sz):result hp (.aD id 0 n)=some (.bI ex sz n cs):=by
 have e2:yI 0 sz=true:=yr hs;simp only [result,Bc,hg,yh,<-hl,yr (yA cs.length),yz,e2,vO,slice,yt,xG]
 simp
def ak9 (b:Bool):result hp (.aa [.ae,.bool b])=some (.aa [.ae,.bool b]):=rfl
def ala (k:xc) (b:Int):result hp (.aa [.ae,.int k b])=some (.aa [.ae,.int k b]):=rfl
def alb (e:Bool) (n:Nat) (cs:List AV) (k:xc) (b:Int):result hp (.aa [.aB e n cs,.int k b])=some (.aa [.aB e n cs,.int k b]):=rfl
def anQ (s:St):nW [] s=some s:=rfl
def Xx (t:Nat) (r:List Nat) (tm:Env) (ct base:Nat) (q:Option (AV×Hp)):Option St:=match q with | some (v,hp)=>nW r ⟨(t,v)::tm,hp,ct,base⟩ | none=>none
def amv (t:Nat) (r:List Nat) (tm:Env) (hp:Hp) (ct base:Nat):nW (t::r) ⟨tm,hp,ct,base⟩=Xx t r tm ct base (freeze deep hp (aj tm t)):=by
 simp only [nW,Xx];cases freeze deep hp (aj tm t)<;>rfl
def ayd (t:Nat) (r:List Nat) (tm:Env) (ct base:Nat) (v:AV) (hp:Hp):Xx t r tm ct base (some (v,hp))=nW r ⟨(t,v)::tm,hp,ct,base⟩:=rfl
end
attribute [go_sem] ak9 ala alb anH amq anI amr anJ anK anL apH anM aee apI arV apJ arW arX arY avF apK ZW
 anN ams avG avH ax4 azi avI avJ avK ax5 aaK agw azj arZ apL anO ax6 ax7 ax8 ax9 aya ayb avL
 anP amt amu alO alP ayc avM avN avO ar1 avP ar2 rF ar0 aef ar3 avQ avR anQ amv ayd
 Bool.and_false wh yt eq_self
def aaL:∀hp:Hp,iI 0 hp=[]
 | []=>rfl
 | (id,o)::r=>by
  have:yI id 0=false:=rfl
  simp only [iI,this,yX,aaL r]
def afj (f:Nat->Option Nat):∀hp:Hp,li 0 f hp=[]
 | []=>rfl
 | (id,o)::r=>by
  have:yI id 0=false:=rfl
  simp only [li,this,yX,afj f r]
def pos (seen:List Nat):Nat->Option Nat:=fun id=>lA id seen 0
def VU (tm:Env) (hp:Hp) (seen:List Nat):St:=⟨jO (pos seen) tm,jH hp (pos seen) seen 0 [],seen.length,0⟩
def q9 (hp:Hp):Nat->List Nat->List Nat->List Nat:=reach hp 0
def aC (live:List Nat) (tm:Env) (hp:Hp) (ct:Nat):aP live ⟨tm,hp,ct,0⟩=VU (dJ tm live) hp (q9 hp 100000 (iO (dJ tm live)) []):=by
 have e:∀seen,jG 0 seen=pos seen:=fun seen=>by
  funext id
  have:yI id 0=false:=rfl
  simp only [jG,this,yX,pos]
 simp only [aP,aaL,xV,e,afj,VU,q9,yh]
def anR:iO []=[]:=rfl
def amw (i:Nat) (v:AV) (r:Env):iO ((i,v)::r)=refs v++iO r:=rfl
def apM (k:xc) (n:Int):refs (.int k n)=[]:=rfl
def anS (b:Bool):refs (.bool b)=[]:=rfl
def apN (s:List Nat):refs (.str s)=[]:=rfl
def anT:refs .ae=[]:=rfl
def apO (e:Bool) (n:Nat) (cs:List AV):refs (.aB e n cs)=[]:=rfl
def anU (cs:List AV):refs (.cg cs)=[]:=rfl
def amx:refs .undef=[]:=rfl
def apP (id o:Nat):refs (.ptr id o)=[id]:=rfl
def apQ (id o n:Nat):refs (.aD id o n)=[id]:=rfl
def ar4 (g:Nat) (a b:List AV):refs (.fn (.f g) a b)=iN a++iN b:=rfl
def avS (l:Nat) (a b:List AV):refs (.fn (.y l) a b)=[l]:=rfl
def apR (cs:List AV):refs (.agg cs)=iN cs:=rfl
def anV:iN []=[]:=rfl
def amy (v:AV) (r:List AV):iN (v::r)=refs v++iN r:=rfl
def MK (hp:Hp) (n id:Nat) (il seen:List Nat) (q:Option Obj):List Nat:=match q with | some o=>q9 hp n (nV o++il) (seen++[id]) | none=>q9 hp n il seen
def ML (hp:Hp) (n id:Nat) (il seen:List Nat) (b:Bool):List Nat:=bif b then q9 hp n il seen else MK hp n id il seen (aA hp id)
def ar5 (hp:Hp) (n:Nat) (seen:List Nat):q9 hp (n+1) [] seen=seen:=rfl
def apS (hp:Hp) (n id:Nat) (il seen:List Nat):q9 hp (n+1) (id::il) seen=ML hp n id il seen (kI id seen):=by
 have:yI id 0=false:=rfl
 simp only [q9,reach,this,tc,ML,MK]
 cases kI id seen with
 | true=>rfl
 | false=>simp only [yX];cases aA hp id<;>rfl
def avT (hp:Hp) (n id:Nat) (il seen:List Nat):ML hp n id il seen true=q9 hp n il seen:=rfl
def avU (hp:Hp) (n id:Nat) (il seen:List Nat):ML hp n id il seen false=MK hp n id il seen (aA hp id):=rfl
def avV (hp:Hp) (n id:Nat) (il seen:List Nat) (o:Obj):MK hp n id il seen (some o)=q9 hp n (nV o++il) (seen++[id]):=rfl
def apT (i:Nat):kI i []=false:=rfl
def apU (i:Nat) (r:List Nat):kI i (i::r)=true:=by simp only [kI,wy,yz]
def anW {i j:Nat} (r:List Nat) (h:j≠i):kI i (j::r)=kI i r:=by simp only [kI,gB h,yX]
def ar6 (rw ex:Bool) (sz:Nat) (cs:List AV):nV (.cells rw true ex sz cs)=[]:=rfl
def ar7 (rw ex:Bool) (sz:Nat) (cs:List AV):nV (.cells rw false ex sz cs)=iN cs:=rfl
def apV (tm:Env) (ps:List Nat) (a b:VC) (st:Nat) (pe:rZ):nV (.lp tm ps a b st pe)=iO tm:=rfl
def ar8 (i:Nat) (r:List Nat) (k:Nat):lA i (i::r) k=some k:=by simp only [lA,wy,yz]
def apW {i j:Nat} (r:List Nat) (k:Nat) (h:j≠i):lA i (j::r) k=lA i r (k+1):=by simp only [lA,gB h,yX]
def agx (o:Nat) (q:Option Nat):AV:=match q with | some j=> .ptr j o | none=> .undef
def agy (o n:Nat) (q:Option Nat):AV:=match q with | some j=> .aD j o n | none=> .undef
def apX (s:List Nat):jO (pos s) []=[]:=rfl
def anX (s:List Nat) (i:Nat) (v:AV) (r:Env):jO (pos s) ((i,v)::r)=(i,bX (pos s) v)::jO (pos s) r:=rfl
def ar9 (s:List Nat) (k:xc) (n:Int):bX (pos s) (.int k n)= .int k n:=rfl
def apY (s:List Nat) (b:Bool):bX (pos s) (.bool b)= .bool b:=rfl
def asa (s:List Nat) (t:List Nat):bX (pos s) (.str t)= .str t:=rfl
def apZ (s:List Nat):bX (pos s) .ae= .ae:=rfl
def asb (s:List Nat) (e:Bool) (n:Nat) (cs:List AV):bX (pos s) (.aB e n cs)= .aB e n cs:=rfl
def ap0 (s:List Nat) (cs:List AV):bX (pos s) (.cg cs)= .cg cs:=rfl
def anY (s:List Nat):bX (pos s) .undef= .undef:=rfl
def asc (s:List Nat) (id o:Nat):bX (pos s) (.ptr id o)=agx o (lA id s 0):=rfl
def asd (s:List Nat) (id o n:Nat):bX (pos s) (.aD id o n)=agy o n (lA id s 0):=rfl
def avW (s:List Nat) (g:Nat) (a b:List AV):bX (pos s) (.fn (.f g) a b)= .fn (.f g) (fw (pos s) a) (fw (pos s) b):=rfl
def ase (s:List Nat) (cs:List AV):bX (pos s) (.agg cs)= .agg (fw (pos s) cs):=rfl
def ap1 (s:List Nat):fw (pos s) []=[]:=rfl
def anZ (s:List Nat) (v:AV) (r:List AV):fw (pos s) (v::r)=bX (pos s) v::fw (pos s) r:=rfl
def asf (o j:Nat):agx o (some j)= .ptr j o:=rfl
def asg (o n j:Nat):agy o n (some j)= .aD j o n:=rfl
def VV (hp:Hp) (f:Nat->Option Nat) (r:List Nat) (k:Nat) (acc:Hp) (q:Option Obj):Hp:=match q with | some o=>jH hp f r (k+1) ((k,kH f o)::acc) | none=>jH hp f r (k+1) acc
def an0 (hp:Hp) (s:List Nat) (k:Nat) (acc:Hp):jH hp (pos s) [] k acc=acc:=rfl
def amz (hp:Hp) (s:List Nat) (id:Nat) (r:List Nat) (k:Nat) (acc:Hp):jH hp (pos s) (id::r) k acc=VV hp (pos s) r k acc (aA hp id):=by
 simp only [jH,VV];cases aA hp id<;>rfl
def avX (hp:Hp) (s r:List Nat) (k:Nat) (acc:Hp) (o:Obj):VV hp (pos s) r k acc (some o)=jH hp (pos s) r (k+1) ((k,kH (pos s) o)::acc):=rfl
def avY (f:Nat->Option Nat) (rw ex:Bool) (sz:Nat) (cs:List AV):kH f (.cells rw true ex sz cs)= .cells rw true ex sz cs:=rfl
def avZ (f:Nat->Option Nat) (rw ex:Bool) (sz:Nat) (cs:List AV):kH f (.cells rw false ex sz cs)= .cells rw false ex sz (fw f cs):=rfl
def ash (f:Nat->Option Nat) (tm:Env) (ps:List Nat) (a b:VC) (st:Nat) (pe:rZ):kH f (.lp tm ps a b st pe)= .lp (jO f tm) ps a b st pe:=rfl
def asi (tm:Env) (hp:Hp) (seen:List Nat):VU tm hp seen=⟨jO (pos seen) tm,jH hp (pos seen) seen 0 [],seen.length,0⟩:=rfl
attribute [go_sem] anR amw apM anS apN anT apO anU amx apP apQ ar4 avS apR anV amy ar5 apS avT avU avV
 apT apU anW ar6 ar7 apV ar8 apW apX anX ar9 apY asa apZ asb ap0 anY asc asd avW ase ap1 anZ asf asg
 an0 amz avX avY avZ ash asi yM yV
section
variable {P:aM} {L:Lib}
def bQ (k id o:Nat):GU k (.ptr id o)=some (.ptr id (o+k)):=rfl
def cO {α:Type} (a:α) (l:List α):vY 1 (a::l)=l:=rfl
def aye {α:Type} (a b:α) (l:List α):vY 2 (a::b::l)=l:=rfl
def agz {α:Type} (a b c:α) (l:List α):vY 3 (a::b::c::l)=l:=rfl
abbrev Nm (n:Int):AV:= .agg [ab n,.ae]
def p9 (hp:Hp) (ct id:Nat) (a:Int) (x y:AV):jY hp ct id 0 2 [.int .i64 a,.ae] (some (.cells true true true 2 [x,y]))=some (.aa [],bi hp id (.cells true true true 2 [.int .i64 a,.ae]),ct):=rfl
def dR (b:Bool):HU false (some b)=some (.bool b):=by cases b<;>rfl
def afk (f:cx) (tm:Env) (hp:Hp) (ct:Nat) (x y:X):bg P L f tm hp ct (.mn [x,y])=rd hp ct (min2 (ay tm x) (ay tm y)):=by
 simp only [bg,rd,br,da,zI]
 grind
def lW (f:cx) (tm:Env) (hp:Hp) (ct:Nat) (x y:X):bg P L f tm hp ct (.mx [x,y])=rd hp ct (max2 (ay tm x) (ay tm y)):=by
 simp only [bg,rd,br,da,zI]
 grind
def aaM (k k':xc) (x y:Int):min2 (.int k x) (.int k' y)=some (.int k (if y<x then y else x)):=rfl
def nH (k k':xc) (x y:Int):max2 (.int k x) (.int k' y)=some (.int k (if y>x then y else x)):=rfl
def bV (n:Int):Int:=if n<0 then -1 else if n=0 then 0 else 1
def av0 (n:Int):(if (if n<1 then n else 1)> -1 then (if n<1 then n else 1) else -1)=bV n:=by
 unfold bV
 grind
def n117 (h:Has P L 117 Lt) (n:Int):ai P L 117 [ab n] (Nm n):=by
 unfold ai;rw [aG h];simp only [go_sem,ya,yd,Nat.reduceLeDiff,Lt,bf,yh,p9];rfl
def nZ (hp:Hp) (p q:Bool):iZ .b (.bool p) (.bool q)=some (p==q):=rfl
def gN {n:Nat} {sp:List AV->Option AV} (h:L.pure n=some sp) {f:cx} (ao:List AV):bM P L f n ao=sp ao:=by simp only [bM,h]
abbrev U64 (n:Int):AV:= .int .u64 n
def ayf {n:Int} (h1:0<=n) (h2:n<18446744073709551616):IntKind.wrap .u64 n=n:=by
 simp only [IntKind.wrap,IntKind.signed,IntKind.bits]
 grind
def afl (n:Int):gj (.toInt .u64) (ab n)=some (U64 (IntKind.wrap .u64 n)):=rfl
def KC (n:Int):gj (.toInt .i64) (U64 n)=some (ab (IntKind.wrap .i64 n)):=rfl
def GN (b:Bool):HU true (some b)=some (.bool (!b)):=by cases b<;>rfl
def cm (a b:AV) (r:List AV):iv 2 true (a::b::r)=some (.agg [a,b]):=rfl
def dT (a b c d:AV) (r:List AV):iv 4 true (a::b::c::d::r)=some (.agg [a,b,c,d]):=rfl
def an1 {a b:Int} (hb:0<b):(a.tmod b<0->a/b=a.tdiv b-1/\a%b=a.tmod b+b)/\(¬a.tmod b<0->a/b=a.tdiv b/\a%b=a.tmod b):=by
 have h1:=Int.mul_tdiv_add_tmod a b;have h2:a.tmod b<b:=Int.tmod_lt_of_pos a hb;have h3: -b<a.tmod b:=Int.lt_tmod_of_pos a hb;refine ⟨fun h=>(tK hb).2 ⟨?_,?_,?_⟩,fun h=>(tK hb).2 ⟨?_,?_,?_⟩⟩
 ·grind
 ·omega
 ·omega
 ·omega
 ·omega
 ·omega
def ap2 (a b:Nat) (hb:b≠0):wo b (a%b)=wo a b:=by
 rw [tB b,<-yck,tB]
end
def cW (a b:Int):Int:=a/(wJ a b:Nat)
def dc (a b:Int):Int:=b/(wJ a b:Nat)
def Kk {a b:Int} (hb:0<b):(0:Int)<(wJ a b:Nat):=by
 have:=Int.gcd_pos_of_ne_zero_right a (show b≠0 by omega)
 omega
def av1 (a b:Int):a=(wJ a b:Nat)*cW a b:=(yaC (tO a b)).symm
def av2 (a b:Int):b=(wJ a b:Nat)*dc a b:=(yaC (tG a b)).symm
def FX {a b:Int} (hb:0<b):0<dc a b:=by
 have h1:=Kk (a:=a) hb;have h2:=av2 a b;rcases Int.lt_trichotomy (dc a b) 0 with h | h | h
 ·have:=Int.mul_neg_of_pos_of_neg h1 h;omega
 ·grind
 ·exact h
def aaN (a b:Int):(cW a b).natAbs<=a.natAbs:=by
 unfold cW;rw [uy (tO a b)];exact wN _ _
def aaO (a b:Int):(dc a b).natAbs<=b.natAbs:=by
 unfold dc;rw [uy (tG a b)];exact wN _ _
def oc (a b:Int):List Nat:=if dc a b=1 then aU (cW a b) else aU (cW a b)++[47]++aU (dc a b)
def agA {a b:Nat} (h:¬a<b):yI a b=false:=by
 cases hb:yI a b with
 | false=>rfl
 | true=>exact absurd (yo hb) (by omega)
def Pv:∀(f n:Nat) (acc:List Nat),n<f->lS f n acc=lS f n []++acc
 | 0,_,_,h=>by omega
 | f+1,n,acc,h=>by
  simp only [lS];by_cases h1:n<10
  ·rw [show yI n 10=true from yr h1];rfl
  ·rw [show yI n 10=false from agA (by omega)];rw [Pv f (n/10) _ (by omega),Pv f (n/10) [48+n%10] (by omega)]
   simp
def OQ {f n:Nat} (h:n<10):lS (f+1) n []=[48+n]:=by
 simp only [lS];rw [show yI n 10=true from yr h];rfl
def Pw {f n:Nat} (h:¬n<10) (hf:n<=f):lS (f+1) n []=lS f (n/10) []++[48+n%10]:=by
 rw [<-Pv f (n/10) _ (by omega)];simp only [lS];rw [show yI n 10=false from agA (by omega)];rfl
def ap3:∀(n f:Nat),n<f->lS f n []=aq n:=by
 intro n
 induction n using vm with
 | _ n ih=>
  intro f hf;obtain ⟨g,rfl⟩:∃g,f=g+1:=⟨f-1,by omega⟩;by_cases h:n<10
  ·rw [OQ h];unfold aq;rw [OQ h]
  ·rw [Pw h (by omega),ih (n/10) (by omega) g (by omega)];unfold aq;rw [Pw h (yA n),ih (n/10) (by omega) n (by omega)];rfl
def my {n:Nat} (h:n<10):aq n=[48+n]:=OQ h
def nI {n:Nat} (h:¬n<10):aq n=aq (n/10)++[48+n%10]:=by
 rw [show aq n=lS (n+1) n [] from rfl,Pw h (yA n),ap3 (n/10) n (by omega)]
def pW:∀{k n:Nat},n<10^(k+1)->(aq n).length<=k+1
 | 0,n,h=>by rw [my (by simpa using h)];simp
 | k+1,n,h=>by
  by_cases h1:n<10
  ·rw [my h1];simp
  ·rw [nI h1,yY]
   have:n/10<10^(k+1):=by
    grind
   have:=pW this
   grind
def JA {n:Nat} (h:n<18446744073709551616):(aq n).length<=20:=pW (k:=19) (by omega)
def km (n:Nat):aU (n:Int)=aq n:=rfl
def lR {n:Int} (h:n<0):aU n=45::aq n.natAbs:=by
 cases n with
 | ofNat n=>exact absurd h (by simp)
 | negSucc n=>rfl
def bR:List Nat->Nat
 | []=>0
 | b::r=>if b=47 then 0 else bR r+1
def alQ {s:List Nat} {i:Nat} (h:i<s.length):bR (s.drop i)=if s[i]=47 then 0 else bR (s.drop (i+1))+1:=by
 rw [y8 h];rfl
def FO:∀s:List Nat,bR s<=s.length
 | []=>yA _
 | b::r=>by
  unfold bR
  have:=FO r
  grind
def cQ:List Nat->Bool
 | []=>true
 | b::r=>yy 48 b&&yy b 57&&cQ r
def Jm:∀(a b:List Nat),cQ (a++b)=(cQ a&&cQ b)
 | [],b=>by simp [cQ]
 | x::a,b=>by simp [cQ,Jm a b,Bool.and_assoc]
def ze (n:Nat):cQ (aq n)=true:=by
 induction n using vm with
 | _ n ih=>
  by_cases h:n<10
  ·rw [my h];simp [cQ];omega
  ·rw [nI h,Jm,ih (n/10) (by omega)];simp [cQ];omega
def FB:∀{s:List Nat} (r:List Nat),cQ s=true->bR (s++r)=s.length+bR r
 | [],r,_=>by simp
 | b::s,r,h=>by
  simp only [cQ,yf] at h;have h1:=yo h.1.1;simp only [xi,bR,yM];rw [yu (by omega),FB r h.2];omega
def Jn:∀(l:List Nat) (a d:Nat),d<10->cC (l++[48+d]) a=(cC l a).map (fun v=>10*v+d)
 | [],a,d,h=>by
  simp only [xW,cC];rw [show yy 48 (48+d)=true from yr (by omega),show yy (48+d) 57=true from yr (by omega)]
  simp
 | b::l,a,d,h=>by
  simp only [xi,cC]
  cases (yy 48 b&&yy b 57) with
  | true=>exact Jn l _ d h
  | false=>rfl
def rC (n:Nat):cC (aq n) 0=some n:=by
 induction n using vm with
 | _ n ih=>
  by_cases h:n<10
  ·rw [my h]
   have:=Jn [] 0 n h
   simpa [cC] using this
  ·rw [nI h,Jn _ _ _ (by omega),ih (n/10) (by omega)]
   simp;omega
def an2 {s:List Nat} {i a v:Nat} (h:i<s.length) (hv:cC (s.drop i) a=some v):48<=s[i]/\s[i]<=57/\cC (s.drop (i+1)) (10*a+(s[i]-48))=some v:=by
 rw [y8 h] at hv;simp only [cC] at hv
 cases hb:(yy 48 s[i]&&yy s[i] 57) with
 | false=>rw [hb] at hv;cases hv
 | true=>
  simp_all
def gS:Nat->Nat->List Nat
 | 0,_=>[]
 | k+1,n=>gS k (n/10)++[48+n%10]
def Pd:∀k n,(gS k n).length=k
 | 0,_=>rfl
 | k+1,n=>by simp [gS,Pd k]
def J3:∀(k m r:Nat),0<m->r<10^k->aq (m*10^k+r)=aq m++gS k r
 | 0,m,r,_,h=>by simp at h;subst h;simp [gS]
 | k+1,m,r,hm,h=>by
  have h1:m*10^(k+1)+r=(m*10^k)*10+r:=by grind
  have hp:0<m*10^k:=vd hm (Nat.pow_pos (by decide));have e1:(m*10^(k+1)+r)/10=m*10^k+r/10:=by omega
  have e2:(m*10^(k+1)+r)%10=r%10:=by omega
  rw [nI (by omega),e1,e2,J3 k m (r/10) hm (by rw [yU] at h;omega)];simp [gS]
def aaP:∀(k r a:Nat),r<10^k->cC (gS k r) a=some (a*10^k+r)
 | 0,r,a,h=>by simp at h;subst h;simp [gS,cC]
 | k+1,r,a,h=>by
  rw [gS,Jn _ _ _ (xv _ (by decide)),aaP k (r/10) a (by omega)];simp only [wC,yb,yU]
  grind
def ap4 {m:Nat} (h:1000000000<=m):aq m=aq (m/1000000000)++gS 9 (m%1000000000):=by
 have:=J3 9 (m/1000000000) (m%1000000000) (by omega) (by omega)
 grind
def gG (s:List Nat) (l h:Option Nat):Option AV:=
 match l,h with
 | some l,some h=>bif yy l h&&yy h s.length then some (.str ((s.take h).drop l)) else none
 | _,_=>none
def ef (hp:Hp) (s:List Nat) (tm:Env) (lo hi:Option X):fb hp .str (.str s) tm lo hi=gG s (cP tm 0 lo) (cP tm s.length hi):=by
 unfold gG;simp only [fb]
 grind
def eC (tm:Env) (d:Nat):cP tm d none=some d:=rfl
def df (tm:Env) (d:Nat) (x:X):cP tm d (some x)=dD (ay tm x):=rfl
def kB {s:List Nat} {l h:Nat} (h1:l<=h) (h2:h<=s.length):gG s (some l) (some h)=some (.str ((s.take h).drop l)):=by
 simp [gG,yr h1,yr h2]
def fQ {a b:List Nat} (h:a.length+b.length<=9223372036854775807):binOp .add (.str a) (.str b)=some (.str (a++b)):=by
 show GS .add a b=_
 simp only [GS,yr h,yz]
def asj (k:xc) (n:Int):gj (.toInt .i64) (.int k n)=some (ab (IntKind.wrap .i64 n)):=rfl
def kX (a b:List Nat):binOp .eql (.str a) (.str b)=some (.bool (cM a b)):=rfl
def oZ {s:List Nat} {i:Nat} (h:i<s.length):lY i (.str s)=some (.int .u8 (s[i]:Nat)):=by
 simp only [lY,wA h]
def Zb {r:Nat} (h:r<10):gG [48,49,50,51,52,53,54,55,56,57] (some r) (some (r+1))=some (.str [48+r]):=by
 have:r=0\/r=1\/r=2\/r=3\/r=4\/r=5\/r=6\/r=7\/r=8\/r=9:=by omega
 rcases this with rfl | rfl | rfl | rfl | rfl | rfl | rfl | rfl | rfl | rfl<;>rfl
section
variable {P:aM} {L:Lib}
def VW (h:Has P L 292 sc) {n:Nat} (hn:n<9223372036854775808):ai P L 292 [ab n,ab 1] (.str (aq n)):=by
 have key:=nG (P:=P) (L:=L) (live:=[0,1,5]) (a:=mI)
  (I:=fun k st=>∃(m:Nat) (s:List Nat),st=⟨[(0,ab m),(1,ab 1),(5,.str s)],[],0,0⟩/\m<=n/\m+(1-s.length)=k/\s.length<=20/\((s=[]/\m=n)\/(0<s.length/\(m=0->s=aq n)/\(0<m->aq n=aq m++s))))
  (Q:=fun ex st=>∃tm ct,st=⟨tm,[],ct,0⟩/\ex= .exit 0/\aj tm 5= .str (aq n)) ?_
 ·unfold ai;rw [aG h];simp only [go_sem,sc];generalize hq:D P L (.loop [0,1,5] mI) _=q;obtain ⟨ex,st,rfl,tm,ct,rfl,rfl,h2⟩:=cr hq (key (n+1)) ⟨n,[],by simp only [go_sem,ya,aC]<;>rfl,by omega,rfl,by simp,.inl ⟨rfl,rfl⟩⟩
  simp only [go_sem,aC,h2]
 ·rintro k st ⟨m,s,rfl,hm,hk,hl,hs⟩;by_cases rb:0<m\/s.length<1
  ·left
   have hc:((decide ((0:Int)<m))=true)\/((decide ((0:Int)<m))=false/\((s.length:Nat):Int)<1):=by
    by_cases h0:0<m
    ·exact .inl (y5 (by omega))
    ·exact .inr ⟨yF (by omega),by omega⟩
   have hr:((m:Int)).tmod 10=((m%10:Nat):Int):=by rw [xD (by omega)];rfl
   have hq:((m:Int)).tdiv 10=((m/10:Nat):Int):=by rw [xE (by omega)];rfl
   have hd:=Zb (r:=m%10) (by omega);have fin:∃s' k',D P L mI ⟨[(0,ab m),(1,ab 1),(5,.str s)],[],0,0⟩=some (.normal,s')/\k'<k/\aP [0,1,5] s'=⟨[(0,ab (m/10:Nat)),(1,ab 1),(5,.str ([48+m%10]++s))],[],0,0⟩/\m/10+(1-([48+m%10]++s).length)=k':=by
    rcases hc with hc | ⟨hc,qW⟩
    ·have hc:(0:Int)<m:=of_decide_eq_true hc
     simp only [go_sem,ya,yd,mI,hc,fo _ _ _ (show (10:Int)≠0 by decide),eI _ _ _ (show (10:Int)≠0 by decide),hr,hq,wrapN (n:=m%10+1) (by omega),wrap64 (n:=((m/10:Nat):Int)) (by omega) (by omega),ef,df,show ((m%10:Nat):Int)+1=((m%10+1:Nat):Int) from rfl,hd,fQ (a:=[48+m%10]) (b:=s) (by simp;omega)];refine ⟨_,_,rfl,?_,by simp only [go_sem,ya,aC],rfl⟩
     simp;omega
    ·have hc:¬(0:Int)<m:=of_decide_eq_false hc
     simp only [go_sem,ya,yd,mI,hc,qW,fo _ _ _ (show (10:Int)≠0 by decide),eI _ _ _ (show (10:Int)≠0 by decide),hr,hq,wrapN (n:=m%10+1) (by omega),wrap64 (n:=((m/10:Nat):Int)) (by omega) (by omega),ef,df,show ((m%10:Nat):Int)+1=((m%10+1:Nat):Int) from rfl,hd,fQ (a:=[48+m%10]) (b:=s) (by simp;omega)];refine ⟨_,_,rfl,?_,by simp only [go_sem,ya,aC],rfl⟩
     simp;omega
   obtain ⟨s',k',f1,f2,f3,f4⟩:=fin;refine ⟨s',k',f1,f2,m/10,[48+m%10]++s,f3,by omega,f4,?_,.inr ⟨by simp,fun h0=>?_,fun h0=>?_⟩⟩
   ·have aF5:=JA (n:=n) (by omega);rcases hs with ⟨rfl,rfl⟩ | ⟨h1,h2,h3⟩
    ·simp
    ·by_cases h0:0<m
     ·have e:=congrArg tN (h3 h0);have e2:0<(aq m).length:=by
       by_cases h9:m<10
       ·rw [my h9];simp
       ·rw [nI h9];simp
      simp only [yY] at e
      simp;omega
     ·omega
   ·have h9:m<10:=by omega
    rcases hs with ⟨rfl,rfl⟩ | ⟨h1,h2,h3⟩
    ·rw [my h9,yG h9];rfl
    ·have:0<m:=by omega
     rw [h3 this,my h9,yG h9]
   ·have h9:¬m<10:=by omega
    rcases hs with ⟨rfl,rfl⟩ | ⟨h1,h2,h3⟩
    ·rw [nI h9];simp
    ·rw [h3 (by omega),nI h9];simp
  ·right
   simp only [go_sem,ya,mI,show ¬(0:Int)<m by omega,show ¬((s.length:Nat):Int)<1 by omega];refine ⟨_,_,rfl,by simp,_,_,rfl,rfl,?_⟩;simp only [go_sem,ya];rcases hs with ⟨rfl,rfl⟩ | ⟨h1,h2,h3⟩
   ·simp at rb
   ·rw [h2 (by omega)]
def azk (h:Has P L 291 HA) {a b:Nat} (ha:a<9223372036854775808) (hb:b<9223372036854775808):ai P L 291 [ab a,ab b] (ab (wo a b)):=by
 have key:=nG (P:=P) (L:=L) (live:=[0,1]) (a:=GD)
  (I:=fun k st=>∃x y:Nat,st=⟨[(0,ab x),(1,ab y)],[],0,0⟩/\y=k/\wo x y=wo a b)
  (Q:=fun ex st=>∃tm ct,st=⟨tm,[],ct,0⟩/\ex= .exit 0/\aj tm 0=ab (wo a b)) ?_
 ·unfold ai;rw [aG h];simp only [go_sem,HA];generalize hq:D P L (.loop [0,1] GD) _=q;obtain ⟨ex,st,rfl,tm,ct,rfl,rfl,h2⟩:=cr hq (key b) ⟨a,b,by simp only [go_sem,ya,aC]<;>rfl,rfl,rfl⟩
  simp only [go_sem,aC,h2]
 ·rintro k st ⟨x,y,rfl,rfl,hg⟩;by_cases hy:y=0
  ·right
   subst hy;simp only [go_sem,ya,GD,show ¬(0:Int)<((0:Nat):Int) by omega];refine ⟨_,_,rfl,by simp,_,_,rfl,rfl,?_⟩;simp only [go_sem,ya];rw [<-hg,Nat.gcd_zero_right]
  ·left
   have hr:((x:Int)).tmod y=((x%y:Nat):Int):=by rw [xD (by omega)];rfl
   simp only [go_sem,ya,GD,show (0:Int)<y by omega,fo _ _ _ (show (y:Int)≠0 by omega),hr];refine ⟨_,x%y,rfl,xv _ (by omega),y,x%y,by simp only [go_sem,ya,aC],rfl,?_⟩;rw [<-hg,tB y,<-yck,tB]
def DO (h:Has P L 272 Hw) {s:List Nat} (hl:s.length<9223372036854775808):ai P L 272 [.str s] (ab (bR s)):=by
 have key:=nG (P:=P) (L:=L) (live:=[0,3]) (a:=CY)
  (I:=fun k st=>∃i:Nat,st=⟨[(0,.str s),(3,ab i)],[],0,0⟩/\i+k=s.length/\i+bR (s.drop i)=bR s)
  (Q:=fun ex st=>∃tm ct,st=⟨tm,[],ct,0⟩/\((ex= .ret/\aj tm 2=ab (bR s))\/(ex= .exit 0/\aj tm 0= .str s/\bR s=s.length))) ?_
 ·unfold ai;rw [aG h];simp only [go_sem,Hw];generalize hq:D P L (.loop [0,3] CY) _=q;obtain ⟨ex,st,rfl,tm,ct,rfl,h2⟩:=cr hq (key s.length) ⟨0,by simp only [go_sem,ya,aC]<;>rfl,by omega,by simp⟩
  rcases h2 with ⟨rfl,h2⟩ | ⟨rfl,h2,h3⟩
  ·simp only [go_sem,h2]
  ·simp only [go_sem,aC,h2,h3]
 ·rintro k st ⟨i,rfl,hk,hs⟩;by_cases hi:i<s.length
  ·rw [alQ hi] at hs;by_cases h7:s[i]=47
   ·right
    rw [yL h7] at hs;simp only [go_sem,ya,CY,show (i:Int)<s.length by omega,oZ hi,show ((s[i]:Nat):Int)=47 by omega];refine ⟨_,_,rfl,by simp,_,_,rfl,.inl ⟨rfl,?_⟩⟩;simp only [go_sem];rw [<-hs];rfl
   ·left
    rw [yu h7] at hs;simp only [go_sem,ya,CY,show (i:Int)<s.length by omega,oZ hi,show ¬((s[i]:Nat):Int)=47 by omega];refine ⟨_,k-1,rfl,by omega,i+1,?_,by omega,by omega⟩;rw [wrap64 (by omega) (by omega)];simp only [go_sem,ya,aC]<;>rfl
  ·right
   simp only [go_sem,ya,CY,show ¬(i:Int)<s.length by omega];refine ⟨_,_,rfl,by simp,_,_,rfl,.inr ⟨rfl,by simp only [go_sem,ya],?_⟩⟩;rw [xu (by omega)] at hs;simp only [bR] at hs;omega
def HW (h:Has P L 290 Dr) {s:List Nat} {v:Nat} (hl:s.length<=18) (hv:cC s 0=some v):ai P L 290 [.str s] (ab v):=by
 have key:=nG (P:=P) (L:=L) (live:=[0,3,4]) (a:=GC)
  (I:=fun k st=>∃i a:Nat,st=⟨[(0,.str s),(3,ab a),(4,ab i)],[],0,0⟩/\i+k=s.length/\a<10^i/\cC (s.drop i) a=some v)
  (Q:=fun ex st=>∃tm ct,st=⟨tm,[],ct,0⟩/\ex= .exit 0/\aj tm 3=ab v) ?_
 ·unfold ai;rw [aG h];simp only [go_sem,Dr];generalize hq:D P L (.loop [0,3,4] GC) _=q;obtain ⟨ex,st,rfl,tm,ct,rfl,rfl,h2⟩:=cr hq (key s.length) ⟨0,0,by simp only [go_sem,ya,aC]<;>rfl,by omega,by simp,hv⟩
  simp only [go_sem,aC,h2]
 ·rintro k st ⟨i,a,rfl,hk,ha,hs⟩;by_cases hi:i<s.length
  ·left
   obtain ⟨h1,h2,h3⟩:=an2 hi hs;have hp:10^i<=10^17:=yR (by decide) (by omega);have hb:IntKind.wrap .i64 ((s[i]:Nat):Int)=((s[i]:Nat):Int):=wrap64 (by omega) (by omega)
   simp only [go_sem,ya,GC,show (i:Int)<s.length by omega,oZ hi,asj,hb,wrap64 (n:=10*(a:Int)) (by omega) (by omega),wrap64 (n:=10*(a:Int)+(s[i]:Nat)) (by omega) (by omega),wrap64 (n:=10*(a:Int)+(s[i]:Nat)-48) (by omega) (by omega)];refine ⟨_,k-1,rfl,by omega,i+1,10*a+(s[i]-48),?_,by omega,?_,h3⟩
   ·rw [wrap64 (by omega) (by omega),show 10*(a:Int)+(s[i]:Nat)-48=((10*a+(s[i]-48):Nat):Int) by omega];simp only [go_sem,ya,aC]<;>rfl
   ·rw [yU];omega
  ·right
   simp only [go_sem,ya,GC,show ¬(i:Int)<s.length by omega];refine ⟨_,_,rfl,by simp,_,_,rfl,rfl,?_⟩;rw [xu (by omega)] at hs;simp only [cC,yb] at hs;subst hs;simp only [go_sem,ya]
def Kl (a:Int):(if 0-a>a then 0-a else a)=(a.natAbs:Int):=by omega
def J4 (a b:Int):a.tdiv (wJ a b:Nat)=cW a b:=yak (tO a b)
def J5 (a b:Int):b.tdiv (wJ a b:Nat)=dc a b:=yak (tG a b)
def mz (n:Int):(if n<0 then [45] else [])++aq n.natAbs=aU n:=by
 split
 ·rename_i h;rw [lR h];rfl
 ·rename_i h;obtain ⟨m,rfl⟩:∃m:Nat,n=m:=⟨n.toNat,by omega⟩;rfl
def ap5 {n:Int} (h:n.natAbs<18446744073709551616):(aU n).length<=21:=by
 rw [<-mz]
 have:=JA h
 grind
def asl {a b:Int} (hb:0<b):oc a b=(if 1<dc a b then (aU (cW a b)++[47])++aq (dc a b).natAbs else aU (cW a b)):=by
 have h:=FX (a:=a) hb;unfold oc;by_cases h1:dc a b=1
 ·grind
 ·rw [yu h1,yL (by omega)];obtain ⟨m,hm⟩:∃m:Nat,dc a b=m:=⟨(dc a b).toNat,by omega⟩;rw [hm];rfl
def azl (h:Has P L 277 BO) (VX:Has P L 291 HA) (od:Has P L 292 sc) {a b:Int} (ha: -4000000000000000000<=a/\a<=4000000000000000000) (hb:0<b/\b<=4000000000000000000):
  ai P L 277 [ab a,ab b] (.str (oc a b)):=by
 have hn:=aaN a b;have hd:=aaO a b;have hp:=FX (a:=a) hb.1;have e1:=azk VX (a:=a.natAbs) (b:=b.natAbs) (by omega) (by omega);have e2:=VW od (n:=(cW a b).natAbs) (by omega);have e3:=VW od (n:=(dc a b).natAbs) (by omega);have hg:=Kk (a:=a) hb.1;rw [show ((b.natAbs:Nat):Int)=b by omega,show wo a.natAbs b.natAbs=wJ a b from rfl] at e1;rw [show (((dc a b).natAbs:Nat):Int)=dc a b by omega] at e3;have mi:=ap5 (n:=cW a b) (by omega);have qQ:=JA (n:=(cW a b).natAbs) (by omega);have hl3:=JA (n:=(dc a b).natAbs) (by omega);have hT:=asl (a:=a) hb.1;have hS:=mz (cW a b);unfold ai at e1 e2 e3 ⊢;rw [aG h];by_cases h0:cW a b<0
 ·rw [yL h0] at hS;by_cases h1:1<dc a b
  ·rw [yL h1] at hT
   simp only [go_sem,ya,BO,show ¬a< -4000000000000000000 by omega,show ¬4000000000000000000<a by omega,show ¬b< -4000000000000000000 by omega,show ¬4000000000000000000<b by omega,show ¬b<0 by omega,wrap64 (n:=0-a) (by omega) (by omega),lW,nH,Kl,e1,eI _ _ _ (show ((wJ a b:Nat):Int)≠0 by omega),J4,J5,wrap64 (n:=cW a b) (by omega) (by omega),wrap64 (n:=dc a b) (by omega) (by omega),h0,wrap64 (n:=0-cW a b) (by omega) (by omega),e2,fQ (a:=[45]) (b:=aq (cW a b).natAbs) (by simp;omega),hS,h1,fQ (a:=aU (cW a b)) (b:=[47]) (by simp;omega),e3,fQ (a:=aU (cW a b)++[47]) (b:=aq (dc a b).natAbs) (by simp;omega),hT]
  ·rw [yu h1] at hT
   simp only [go_sem,ya,BO,show ¬a< -4000000000000000000 by omega,show ¬4000000000000000000<a by omega,show ¬b< -4000000000000000000 by omega,show ¬4000000000000000000<b by omega,show ¬b<0 by omega,wrap64 (n:=0-a) (by omega) (by omega),lW,nH,Kl,e1,eI _ _ _ (show ((wJ a b:Nat):Int)≠0 by omega),J4,J5,wrap64 (n:=cW a b) (by omega) (by omega),wrap64 (n:=dc a b) (by omega) (by omega),h0,wrap64 (n:=0-cW a b) (by omega) (by omega),e2,fQ (a:=[45]) (b:=aq (cW a b).natAbs) (by simp;omega),hS,h1,hT]
 ·rw [yu h0] at hS;by_cases h1:1<dc a b
  ·rw [yL h1] at hT
   simp only [go_sem,ya,BO,show ¬a< -4000000000000000000 by omega,show ¬4000000000000000000<a by omega,show ¬b< -4000000000000000000 by omega,show ¬4000000000000000000<b by omega,show ¬b<0 by omega,wrap64 (n:=0-a) (by omega) (by omega),lW,nH,Kl,e1,eI _ _ _ (show ((wJ a b:Nat):Int)≠0 by omega),J4,J5,wrap64 (n:=cW a b) (by omega) (by omega),wrap64 (n:=dc a b) (by omega) (by omega),h0,wrap64 (n:=0-cW a b) (by omega) (by omega),e2,fQ (a:=[]) (b:=aq (cW a b).natAbs) (by simp;omega),hS,h1,fQ (a:=aU (cW a b)) (b:=[47]) (by simp;omega),e3,fQ (a:=aU (cW a b)++[47]) (b:=aq (dc a b).natAbs) (by simp;omega),hT]
  ·rw [yu h1] at hT
   simp only [go_sem,ya,BO,show ¬a< -4000000000000000000 by omega,show ¬4000000000000000000<a by omega,show ¬b< -4000000000000000000 by omega,show ¬4000000000000000000<b by omega,show ¬b<0 by omega,wrap64 (n:=0-a) (by omega) (by omega),lW,nH,Kl,e1,eI _ _ _ (show ((wJ a b:Nat):Int)≠0 by omega),J4,J5,wrap64 (n:=cW a b) (by omega) (by omega),wrap64 (n:=dc a b) (by omega) (by omega),h0,wrap64 (n:=0-cW a b) (by omega) (by omega),e2,fQ (a:=[]) (b:=aq (cW a b).natAbs) (by simp;omega),hS,h1,hT]
end
def TT (n:Int) (d:Nat):List Nat:=aU n++(if d=1 then [] else 47::aq d)
def asm {a b:Int} (hb:0<b):oc a b=TT (cW a b) (dc a b).toNat:=by
 have h:=FX (a:=a) hb;unfold oc TT;by_cases h1:dc a b=1
 ·grind
 ·rw [yu h1,yu (by omega)];obtain ⟨m,hm⟩:∃m:Nat,dc a b=m:=⟨(dc a b).toNat,by omega⟩;rw [hm,xt];rfl
def rG (n:Nat):0<(aq n).length:=by
 by_cases h:n<10
 ·rw [my h];simp
 ·rw [nI h];simp
def Gb:∀(n:Nat),n<10^(aq n).length:=by
 intro n
 induction n using vm with
 | _ n ih=>
  by_cases h:n<10
  ·rw [my h];simpa using h
  ·have:=ih (n/10) (by omega)
   rw [nI h,yY,ta,yU];omega
def aaQ {n:Nat} (h:(aq n).length<=9):n<1000000000:=
 yE (Gb n) (by simpa using yR (show 0<10 by decide) h)
def FP (n:Nat):∃b r,aq n=b::r/\48<=b/\b<=57:=by
 cases hq:aq n with
 | nil=>have:=rG n;rw [hq] at this;simp at this
 | cons b r=>
  have:=ze n
  rw [hq] at this;simp only [cQ,yf] at this
  simp_all
section
variable {P:aM} {L:Lib}
def BU (s:List Nat):lY 0 (.str (45::s))=some (.int .u8 45):=rfl
def PV (q:Bool) (n:Int) (d:Nat):AV:=if q=true then .aa [ab n,ab d,.bool true] else .aa [ab 0,ab 0,.bool false]
def iP (d:Nat):List Nat:=if d=1 then [] else 47::aq d
def Zc (d:Nat):bR (iP d)=0:=by unfold iP;split<;>rfl
def azm (h:Has P L 276 n8) (Ac:Has P L 272 Hw) (sn:Has P L 290 Dr) {n:Int} {d:Nat} (hl:(TT n d).length<=20000000000):
  ∃q:Bool,ai P L 276 [.str (TT n d)] (PV q n d)/\(q=true->n.natAbs<1000000000/\d<1000000000):=by
 generalize hs:TT n d=s at hl;by_cases mq:20<s.length
 ·refine ⟨false,?_,fun h=>by cases h⟩;unfold ai;rw [aG h];simp only [go_sem,ya,n8,show (20:Int)<s.length by omega];rfl
 ·have hu:∃u,u=aq n.natAbs++iP d:=⟨_,rfl⟩;obtain ⟨u,hu⟩:=hu;have hK:∃K,K=(aq n.natAbs).length:=⟨_,rfl⟩;obtain ⟨K,hK⟩:=hK;have D8:bR u=K:=by rw [hu,FB _ (ze _),Zc,hK];rfl
  have hlen:u.length=K+(iP d).length:=by rw [hu,hK,yY]
  have hp:=rG n.natAbs;obtain ⟨b,r,hb,jU,NM⟩:=FP n.natAbs;have Co:(n<0/\s=45::u)\/(¬n<0/\s=u):=by
   by_cases h0:n<0
   ·left;refine ⟨h0,?_⟩;rw [<-hs,hu,TT,lR h0];rfl
   ·right;refine ⟨h0,?_⟩;rw [<-hs,hu,TT,<-mz,yu h0];rfl
  have hul:u.length<=s.length:=by rcases Co with ⟨_,e⟩ | ⟨_,e⟩<;>rw [e]<;>simp
  have AA:0<u.length:=by omega
  have pI:u[0]=b:=by
   have:u=b::(r++iP d):=by rw [hu,hb];rfl
   simp [this]
  have e1:=DO Ac (s:=u) (by omega);rw [D8] at e1;have dU:gG u (some 0) (some K)=some (.str (aq n.natAbs)):=by
   rw [kB (by omega) (by omega),yt,hu,hK,List.take_left]
  unfold ai at e1;by_cases h9:9<K
  ·refine ⟨false,?_,fun h=>by cases h⟩;unfold ai;rw [aG h];rcases Co with ⟨h0,e⟩ | ⟨h0,e⟩
   ·have mq:¬20<u.length+1:=by rw [e] at mq;exact mq
    have jV:gG (45::u) (some 1) (some (u.length+1))=some (.str u):=by rw [kB (s:=45::u) (l:=1) (h:=u.length+1) (by omega) (by simp)];simp
    rw [e];simp only [go_sem,ya,n8,show ¬(20:Int)<((u.length+1:Nat):Int) by omega,show (0:Int)<((u.length+1:Nat):Int) by omega,BU,ef,eC,df,jV,e1,show (9:Int)<(K:Int) by omega];rfl
   ·rw [e];simp only [go_sem,ya,n8,show ¬(20:Int)<(u.length:Nat) by omega,show (0:Int)<(u.length:Nat) by omega,oZ AA,pI,show ¬((b:Nat):Int)=45 by omega,e1,show (9:Int)<(K:Int) by omega];rfl
  ·by_cases gY:10<(iP d).length
   ·refine ⟨false,?_,fun h=>by cases h⟩;unfold ai;rw [aG h];rcases Co with ⟨h0,e⟩ | ⟨h0,e⟩
    ·have mq:¬20<u.length+1:=by rw [e] at mq;exact mq
     have jV:gG (45::u) (some 1) (some (u.length+1))=some (.str u):=by rw [kB (s:=45::u) (l:=1) (h:=u.length+1) (by omega) (by simp)];simp
     rw [e]
     simp only [go_sem,ya,n8,show ¬(20:Int)<((u.length+1:Nat):Int) by omega,show (0:Int)<((u.length+1:Nat):Int) by omega,BU,ef,eC,df,jV,e1,show ¬(9:Int)<(K:Int) by omega,wrap64 (n:=(u.length:Int)-(K:Int)) (by omega) (by omega),show (10:Int)<(u.length:Int)-(K:Int) by omega];rfl
    ·rw [e]
     simp only [go_sem,ya,n8,show ¬(20:Int)<(u.length:Nat) by omega,show (0:Int)<(u.length:Nat) by omega,oZ AA,pI,show ¬((b:Nat):Int)=45 by omega,e1,show ¬(9:Int)<(K:Int) by omega,wrap64 (n:=(u.length:Int)-(K:Int)) (by omega) (by omega),show (10:Int)<(u.length:Int)-(K:Int) by omega];rfl
   ·have e2:=HW sn (s:=aq n.natAbs) (by omega) (rC n.natAbs);unfold ai at e2;have hm:=aaQ (n:=n.natAbs) (by omega);by_cases hd:d=1
    ·subst hd;have nl:iP 1=[]:=rfl;refine ⟨true,?_,fun _=>⟨hm,by decide⟩⟩;rw [nl] at hlen;simp only [yV,yZ] at hlen;unfold ai;rw [aG h];rcases Co with ⟨h0,e⟩ | ⟨h0,e⟩
     ·have mq:¬20<u.length+1:=by rw [e] at mq;exact mq
      have jV:gG (45::u) (some 1) (some (u.length+1))=some (.str u):=by rw [kB (s:=45::u) (l:=1) (h:=u.length+1) (by omega) (by simp)];simp
      rw [e]
      simp only [go_sem,ya,n8,show ¬(20:Int)<((u.length+1:Nat):Int) by omega,show (0:Int)<((u.length+1:Nat):Int) by omega,BU,ef,eC,df,jV,e1,show ¬(9:Int)<(K:Int) by omega,wrap64 (n:=(u.length:Int)-(K:Int)) (by omega) (by omega),show ¬(10:Int)<(u.length:Int)-(K:Int) by omega,dU,e2,show ¬(K:Int)<(u.length:Int) by omega,wrap64 (n:=0-(n.natAbs:Int)) (by omega) (by omega)];rw [show 0-(n.natAbs:Int)=n by omega];rfl
     ·rw [e]
      simp only [go_sem,ya,n8,show ¬(20:Int)<(u.length:Nat) by omega,show (0:Int)<(u.length:Nat) by omega,oZ AA,pI,show ¬((b:Nat):Int)=45 by omega,ef,eC,df,e1,show ¬(9:Int)<(K:Int) by omega,wrap64 (n:=(u.length:Int)-(K:Int)) (by omega) (by omega),show ¬(10:Int)<(u.length:Int)-(K:Int) by omega,dU,e2,show ¬(K:Int)<(u.length:Int) by omega];rw [show (n.natAbs:Int)=n by omega];rfl
    ·have nl:iP d=47::aq d:=yu hd;have IS:(iP d).length=(aq d).length+1:=by rw [nl];rfl
     have hpd:=rG d;have hd9:=aaQ (n:=d) (by omega);have e3:=HW sn (s:=aq d) (by omega) (rC d);unfold ai at e3;have qW:gG u (some (K+1)) (some u.length)=some (.str (aq d)):=by
      rw [kB (by omega) (yA _),xG,hu,nl,hK,show (aq n.natAbs).length+1=(aq n.natAbs++[47]).length by simp,show aq n.natAbs++47::aq d=(aq n.natAbs++[47])++aq d by simp,List.drop_left]
     refine ⟨true,?_,fun _=>⟨hm,hd9⟩⟩;unfold ai;rw [aG h];rcases Co with ⟨h0,e⟩ | ⟨h0,e⟩
     ·have mq:¬20<u.length+1:=by rw [e] at mq;exact mq
      have jV:gG (45::u) (some 1) (some (u.length+1))=some (.str u):=by rw [kB (s:=45::u) (l:=1) (h:=u.length+1) (by omega) (by simp)];simp
      rw [e]
      simp only [go_sem,ya,n8,show ¬(20:Int)<((u.length+1:Nat):Int) by omega,show (0:Int)<((u.length+1:Nat):Int) by omega,BU,ef,eC,df,jV,e1,show ¬(9:Int)<(K:Int) by omega,wrap64 (n:=(u.length:Int)-(K:Int)) (by omega) (by omega),show ¬(10:Int)<(u.length:Int)-(K:Int) by omega,dU,e2,show (K:Int)<(u.length:Int) by omega,wrapN (n:=K+1) (by omega),show (K:Int)+1=((K+1:Nat):Int) from rfl,qW,e3,wrap64 (n:=0-(n.natAbs:Int)) (by omega) (by omega)];rw [show 0-(n.natAbs:Int)=n by omega];rfl
     ·rw [e]
      simp only [go_sem,ya,n8,show ¬(20:Int)<(u.length:Nat) by omega,show (0:Int)<(u.length:Nat) by omega,oZ AA,pI,show ¬((b:Nat):Int)=45 by omega,ef,eC,df,e1,show ¬(9:Int)<(K:Int) by omega,wrap64 (n:=(u.length:Int)-(K:Int)) (by omega) (by omega),show ¬(10:Int)<(u.length:Int)-(K:Int) by omega,dU,e2,show (K:Int)<(u.length:Int) by omega,wrapN (n:=K+1) (by omega),show (K:Int)+1=((K+1:Nat):Int) from rfl,qW,e3];rw [show (n.natAbs:Int)=n by omega];rfl
def VY (h:Has P L 302 qD) {v:AV} {l:List Int} (hv:bw v l) (i:Nat):ai P L 302 [v,ab i] (ab (l.getD i 0)):=by
 unfold ai;rw [aG h];by_cases hi:i<l.length
 ·simp only [go_sem,ya,qD,hv.len,show (i:Int)<l.length by omega,hv.cB hi];simp [xF,wA hi]
 ·simp only [go_sem,ya,qD,hv.len,show ¬(i:Int)<l.length by omega];simp [xF,List.getElem?_eq_none (Nat.le_of_not_lt hi)]
def aeh {hp:Hp} {e:Bool} {n:Nat} {cs:List AV} {tm:Env} {h:Nat} {x:X} (hx:cP tm n (some x)=some h) (hh:h<=n):
  fb hp (.sl 1) (.aB e n cs) tm none (some x)=some (.aB (e&&yp h n) h (cs.take h)):=by
 simp only [fb,hx,eC];simp [yr hh,slice];rw [show yy 0 h=true from yr (uU _)];rfl
def Ad (h:Has P L 300 kK) {v:AV} {l:List Int} (hv:bw v l) (hl:l.length<=20000000000):∃r,ai P L 300 [v] r/\bw r (dH l)/\shut r=r:=by
 rcases hv with ⟨rfl,h0⟩ | ⟨e,rfl⟩
 ·have:l=[]:=by simpa using h0
  subst this;refine ⟨.ae,?_,zn,rfl⟩;unfold ai;rw [aG h];simp only [go_sem,ya,kK,KA,Bo,aC,show ¬(0:Int)<0 by decide]
 ·have key:=nG (P:=P) (L:=L) (live:=[0]) (a:=Bo)
   (I:=fun k st=>∃(i:Nat) (e:Bool),st=⟨[(0,.aB e i ((l.take i).map ab))],[],0,0⟩/\i<=l.length/\i=k/\dH (l.take i)=dH l)
   (Q:=fun ex st=>∃tm ct,st=⟨tm,[],ct,0⟩/\ex= .exit 0/\∃i e,aj tm 0= .aB e i ((l.take i).map ab)/\i<=l.length/\l.take i=dH l) ?_
  ·have hlen:(l.map ab).length=l.length:=by simp
   rw [hlen];have iq:∃i e',ai P L 300 [.aB e l.length (l.map ab)] (.aB e' i ((l.take i).map ab))/\i<=l.length/\l.take i=dH l:=by
    unfold ai;rw [aG h];simp only [go_sem,kK];generalize hq:D P L (.loop [0] Bo) _=q;obtain ⟨ex,st,rfl,tm,ct,rfl,rfl,i,e',h2,h3,h4⟩:=cr hq (key l.length) ⟨l.length,e,by simp only [go_sem,ya,aC,xG],yA _,rfl,by rw [xG]⟩;simp only [go_sem,aC,h2];exact ⟨i,e',rfl,h3,h4⟩
   obtain ⟨i,e',g1,g2,g3⟩:=iq;refine ⟨_,g1,?_,rfl⟩;rw [<-g3]
   have:=mD e' (l.take i)
   rwa [yW,xA g2] at this
  ·rintro k st ⟨i,e,rfl,hi,rfl,ht⟩
   cases i with
   | zero=>
    right
    simp only [go_sem,ya,Bo,show ¬(0:Int)<((0:Nat):Int) by omega];exact ⟨_,_,rfl,by simp,_,_,rfl,rfl,0,e,by simp only [go_sem,ya],uU _,by simpa [dH] using ht⟩
   | succ i=>
    have IT:i<l.length:=by omega
    have ep:l.take (i+1)=l.take i++[l[i]]:=wI IT;have gM:vY i ((l.take (i+1)).map ab)=[AV.int .i64 l[i]]:=by
     rw [ep,xH,tU (by simp;omega)];rfl
    have nt:lj 1 i (.aB e (i+1) ((l.take (i+1)).map ab))=some (.cg [AV.int .i64 l[i]]):=by
     rw [aec e _ (by omega),ym,gM]
    by_cases h0:l[i]=0
    ·left
     have kN:∀tm x,cP tm (i+1) (some x)=some i->fb [] (.sl 1) (.aB e (i+1) ((l.take (i+1)).map ab)) tm none (some x)=some (.aB (e&&yp i (i+1)) i ((l.take i).map ab)):=fun tm x hx=>by
      rw [aeh hx (by omega),<-ybr,List.take_take,xA (by omega)]
     simp only [go_sem,ya,Bo,show (0:Int)<((i+1:Nat):Int) by omega,show ((i+1:Nat):Int)-1=(i:Int) by omega,wrapN (n:=i) (by omega),nt,h0,kN,df];refine ⟨_,i,rfl,by omega,i,_,by simp only [go_sem,aC]<;>rfl,by omega,rfl,?_⟩
     rw [<-ht,ep,h0,FG]
    ·right
     simp only [go_sem,ya,Bo,show (0:Int)<((i+1:Nat):Int) by omega,show ((i+1:Nat):Int)-1=(i:Int) by omega,wrapN (n:=i) (by omega),nt,h0];refine ⟨_,_,rfl,by simp,_,_,rfl,rfl,i+1,e,by simp only [go_sem,ya],by omega,?_⟩;rw [<-ht,ep,Jy h0]
end
abbrev uc (n:Nat):AV:= .int .u64 (n:Int)
def bO (v:AV) (l:List Nat):Prop:=dB v (l.map uc)
section
variable {v:AV} {l:List Nat}
def bO.len (h:bO v l) {hp:Hp}:jI hp 1 v=some (.int .i64 (l.length:Nat)):=by
 have:=dB.len (hp:=hp) h
 grind
def bO.pu (h:bO v l):bk v=true:=dB.pu h
def bO.an (h:bO v l) (n:Nat) {hp:Hp}:freeze (n+1) hp v=some (v,hp):=dB.an h n
def bO.shut (h:bO v l):VE.shut v=v:=dB.shut h
def bO.b9 (h:bO v l):VE.b9 v=v:=dB.b9 h
def bO.dj (h:bO v l) {hp:Hp}:result hp v=some v:=dB.dj h
def bO.one (h:bO v l):eb v=true:=dB.one h
def bO.cB (h:bO v l) {i:Nat} (hi:i<l.length):lj 1 i v=some (.cg (uc (l.getD i 0)::(l.map uc).drop (i+1))):=by
 have:=dB.cB h (i:=i) (by simpa using hi)
 grind
def lT (e:Bool) (l:List Nat):bO (.aB e l.length (l.map uc)) l:=by
 have:=aed e (l.map uc)
 rwa [xy] at this
def oX:bO .ae []:=zn
end
def jD {hp:Hp} {ct id o:Nat} {v:Nat} {ex:Bool} {l:List Nat} (h:o<l.length):jY hp ct id o 1 [.int .u64 (v:Int)] (some (.cells true true ex 1 (l.map uc)))=some (.aa [],bi hp id (.cells true true ex 1 ((l.set o v).map uc)),ct):=by
 rw [KZ (by rfl) (by simp;omega) (by rfl)]
 have:over o [uc v] (l.map uc)=(l.set o v).map uc:=by
  simp only [over,yM,yV,yh];rw [List.map_set,tD,yL (by simpa using h)]
  simp
 rw [this];rfl
def rV {l:List Nat} {o:Nat} (h:o<l.length):vY o (l.map uc)=uc (l.getD o 0)::vY (o+1) (l.map uc):=by
 rw [y8 (by simpa using h)]
 grind
def asn (n:Nat):(yK n [AV.int .u64 0]).flatten=(yK n 0).map uc:=by simp_all
def BV (ct:Nat) {n:Nat} (h:n<=100000000000):Ab ct 1 8 [.int .u64 0] (some n) (some n)=some (.aD ct 0 n,.cells true true true 1 ((yK n 0).map uc)):=by
 rw [KB (sz:=1) (by omega) (by omega) (by rfl) (by rfl),asn];rfl
def Ae (hp:Hp) {n:Nat} {l:List Nat} (h:l.length=n) (ex:Bool):kM 0 n (some (ex,1,l.map uc,hp))=some (.aB ex n (l.map uc),hp):=rF ex (by simp [h]) (by decide)
def agB {n:Nat} (h:n<18446744073709551616):IntKind.wrap .u64 (n:Int)=n:=ayf (by omega) (by omega)
section
variable {P:aM} {L:Lib} {f:cx}
def jL {a b:Nat} (h:a<b):yI a b=true:=by simp_all
def Bq (h:L.pure 171=some mH) {x y c:Nat} (hx:x<18446744073709551616) (hy:y<18446744073709551616) (hc:c<=1):
  bM P L f 171 [uc x,uc y,uc c]=some (.aa [uc ((x+y+c)%18446744073709551616),uc ((x+y+c)/18446744073709551616)]):=by
 rw [gN h];show (bif yy c 1&&(yI x 18446744073709551616&&yI y 18446744073709551616) then _ else none)=_
 rw [yr hc,jL hx,jL hy];rfl
def PW (h:L.pure 173=some zA) {x y c:Nat} (hx:x<18446744073709551616) (hy:y<18446744073709551616) (hc:c<=1):
  bM P L f 173 [uc x,uc y,uc c]=some (.aa [uc ((x+18446744073709551616*2-y-c)%18446744073709551616),uc (if y+c<=x then 0 else 1)]):=by
 rw [gN h];show (bif yy c 1&&(yI x 18446744073709551616&&yI y 18446744073709551616) then _ else none)=_
 rw [yr hc,jL hx,jL hy];by_cases hh:y+c<=x
 ·rw [yr hh,yL hh];rfl
 ·have:yy (y+c) x=false:=by
   cases hq:yy (y+c) x with
   | false=>rfl
   | true=>exact absurd (yo hq) hh
  grind
def KD (h:L.pure 143=some p6) {x y:Nat} (hx:x<18446744073709551616) (hy:y<18446744073709551616):
  bM P L f 143 [uc x,uc y]=some (.aa [uc (x*y/18446744073709551616),uc (x*y%18446744073709551616)]):=by
 rw [gN h];show (bif yI x 18446744073709551616&&yI y 18446744073709551616 then _ else none)=_
 rw [jL hx,jL hy];rfl
def ap6 {hp:Hp} {tm:Env} {x:X} (hx:cP tm 0 (some x)=some 0):fb hp (.sl 1) .ae tm none (some x)=some .ae:=by
 simp only [fb,hx,eC]
def Af (h:Has P L 166 zU) {v:AV} {l:List Nat} (hv:bO v l) (hl:l.length<=100000000000):∃r,ai P L 166 [v] r/\bO r (dI l):=by
 rcases hv with ⟨rfl,h0⟩ | ⟨e,rfl⟩
 ·have:l=[]:=by simpa using h0
  subst this;refine ⟨.ae,?_,zn⟩;unfold ai;rw [aG h];simp only [go_sem,ya,zU,KA,Bl,aC,show ¬(0:Int)<0 by decide,ap6,df]
 ·have key:=nG (P:=P) (L:=L) (live:=[0,3]) (a:=Bl)
   (I:=fun k st=>∃(i:Nat),st=⟨[(0,.aB e l.length (l.map uc)),(3,ab i)],[],0,0⟩/\i<=l.length/\i=k/\dI (l.take i)=dI l)
   (Q:=fun ex st=>∃tm ct,st=⟨tm,[],ct,0⟩/\ex= .exit 0/\∃i:Nat,aj tm 0= .aB e l.length (l.map uc)/\aj tm 3=ab i/\i<=l.length/\l.take i=dI l) ?_
  ·have hlen:(l.map uc).length=l.length:=by simp
   rw [hlen];have iq:∃i e',ai P L 166 [.aB e l.length (l.map uc)] (.aB e' i ((l.take i).map uc))/\i<=l.length/\l.take i=dI l:=by
    unfold ai;rw [aG h];simp only [go_sem,ya,zU];generalize hq:D P L (.loop [0,3] Bl) _=q;obtain ⟨ex,st,rfl,tm,ct,rfl,rfl,i,h2,h3,h4,h5⟩:=cr hq (key l.length) ⟨l.length,by simp only [go_sem,ya,aC],yA _,rfl,by rw [xG]⟩;have kN:∀tm x,cP tm l.length (some x)=some i->fb [] (.sl 1) (.aB e l.length (l.map uc)) tm none (some x)=some (.aB (e&&yp i l.length) i ((l.map uc).take i)):=fun tm x hx=>aeh hx h4
    simp only [go_sem,ya,aC,h2,h3,kN,df];exact ⟨i,_,by rw [ybr],h4,h5⟩
   obtain ⟨i,e',g1,g2,g3⟩:=iq;refine ⟨_,g1,?_⟩;rw [<-g3]
   have:=lT e' (l.take i)
   rwa [yW,xA g2] at this
  ·rintro k st ⟨i,rfl,hi,rfl,ht⟩
   cases i with
   | zero=>
    right
    simp only [go_sem,ya,Bl,show ¬(0:Int)<((0:Nat):Int) by omega];exact ⟨_,_,rfl,by simp,_,_,rfl,rfl,0,by simp only [go_sem,ya],by simp only [go_sem,ya],uU _,by simpa [dI] using ht⟩
   | succ i=>
    have IT:i<l.length:=by omega
    have ep:l.take (i+1)=l.take i++[l[i]]:=wI IT;have nt:=(lT e l).cB IT;rw [<-gd IT] at nt;by_cases h0:l[i]=0
    ·left
     simp only [go_sem,ya,Bl,show (0:Int)<((i+1:Nat):Int) by omega,show ((i+1:Nat):Int)-1=(i:Int) by omega,wrapN (n:=i) (by omega),nt,show ((l[i]:Nat):Int)=0 by omega];refine ⟨_,i,rfl,by omega,i,by simp only [go_sem,ya,aC],by omega,rfl,?_⟩;rw [<-ht,ep,h0,Jz]
    ·right
     simp only [go_sem,ya,Bl,show (0:Int)<((i+1:Nat):Int) by omega,show ((i+1:Nat):Int)-1=(i:Int) by omega,wrapN (n:=i) (by omega),nt,show ¬((l[i]:Nat):Int)=0 by omega];refine ⟨_,_,rfl,by simp,_,_,rfl,rfl,i+1,by simp only [go_sem,ya],by simp only [go_sem,ya],by omega,?_⟩;rw [<-ht,ep,CG h0]
end
def JB (p b s:Nat):p*(s%b)+p*b*(s/b)=p*s:=by
 rw [xb,<-xr,vI]
def an3 {b:Nat} {x y out:List Nat} {i c:Nat} (hi:i<out.length) (hz:out.getD i 0=0) (hv:bv b out+b^i*c=bv b (x.take i)+bv b (y.take i)):
  bv b (out.set i ((x.getD i 0+y.getD i 0+c)%b))+b^(i+1)*((x.getD i 0+y.getD i 0+c)/b)=bv b (x.take (i+1))+bv b (y.take (i+1)):=by
 have h1:=mJ (b:=b) (x:=(x.getD i 0+y.getD i 0+c)%b) hi;have h2:=JB (b^i) b (x.getD i 0+y.getD i 0+c);rw [hz,xp,yZ] at h1;rw [iK,iK,yU,h1]
 grind
def an4 {b:Nat} {x y out:List Nat} {i c z c':Nat} (hi:i<out.length) (hz:out.getD i 0=0) (hs:z+y.getD i 0+c=x.getD i 0+b*c') (hv:bv b out+bv b (y.take i)=bv b (x.take i)+b^i*c):
  bv b (out.set i z)+bv b (y.take (i+1))=bv b (x.take (i+1))+b^(i+1)*c':=by
 have h1:=mJ (b:=b) (x:=z) hi;rw [hz,xp,yZ] at h1;rw [iK,iK,yU,h1]
 grind
section
variable {P:aM} {L:Lib}
def aiq (h:Has P L 158 Dj) {v w:AV} {x y:List Nat} (hv:bO v x) (hw:bO w y) (hx:lo 18446744073709551616 x) (hy:lo 18446744073709551616 y) (nx:fX x) (ny:fX y) (lx:x.length<=100000000000) (ly:y.length<=100000000000):
  ai P L 158 [v,w] (ab (dF (bv 18446744073709551616 x) (bv 18446744073709551616 y))):=by
 unfold ai;rw [aG h];by_cases hlen:x.length=y.length
 ·have key:=nG (P:=P) (L:=L) (live:=[0,1,5]) (a:=Bk)
   (I:=fun k st=>∃j:Nat,st=⟨[(0,v),(1,w),(5,ab ((j:Int)-1))],[],0,0⟩/\j<=x.length/\j=k/\x.drop j=y.drop j)
   (Q:=fun ex st=>∃tm ct,st=⟨tm,[],ct,0⟩/\((ex= .ret/\aj tm 4=ab (dF (bv 18446744073709551616 x) (bv 18446744073709551616 y)))\/(ex= .exit 0/\x=y))) ?_
  ·simp only [go_sem,ya,Dj,hv.len,hw.len,show (x.length:Int)=y.length by omega];generalize hq:D P L (.loop [0,1,5] Bk) _=q;obtain ⟨ex,st,rfl,tm,ct,rfl,h2⟩:=cr hq (key x.length) ⟨x.length,by
    rw [wrap64 (by omega) (by omega),hlen]
    simp only [go_sem,ya,aC,aR hv.pu,bc _ hv.pu,aR hw.pu,bc _ hw.pu]<;>rfl,yA _,rfl,by rw [xu (yA _),xu (by omega)]⟩
   rcases h2 with ⟨rfl,h2⟩ | ⟨rfl,h2⟩
   ·simp only [go_sem,h2]
   ·simp only [go_sem,aC];subst h2;simp [dF]
  ·rintro k st ⟨j,rfl,hj,rfl,he⟩
   cases j with
   | zero=>
    right
    simp only [go_sem,ya,Bk,show ¬(0:Int)<=((0:Nat):Int)-1 by omega];exact ⟨_,_,rfl,by simp,_,_,rfl,.inr ⟨rfl,by simpa using he⟩⟩
   | succ i=>
    have h1:i<x.length:=by omega
    have h2:i<y.length:=by omega
    have Eb:=ad7 hx h1 h2 he;have aF:=ad7 hy h2 h1 he.symm;by_cases c0:x.getD i 0=y.getD i 0
    ·left
     simp only [go_sem,ya,Bk,show ((i+1:Nat):Int)-1=(i:Int) by omega,show (0:Int)<=(i:Int) by omega,hv.cB h1,hw.cB h2,c0];refine ⟨_,i,rfl,by omega,i,?_,by omega,rfl,?_⟩
     ·rw [wrap64 (by omega) (by omega)];simp only [go_sem,ya,aC,aR hv.pu,bc _ hv.pu,aR hw.pu,bc _ hw.pu]<;>rfl
     ·rw [y8 h1,y8 h2,he,gd h1,gd h2,c0]
    ·by_cases c1:x.getD i 0<y.getD i 0
     ·right
      simp only [go_sem,ya,Bk,show ((i+1:Nat):Int)-1=(i:Int) by omega,show (0:Int)<=(i:Int) by omega,hv.cB h1,hw.cB h2,show ¬((x.getD i 0:Nat):Int)=(y.getD i 0:Nat) by omega,show ((x.getD i 0:Nat):Int)<(y.getD i 0:Nat) by omega];refine ⟨_,_,rfl,by simp,_,_,rfl,.inl ⟨rfl,?_⟩⟩;simp only [go_sem];unfold dF;rw [yL (Eb c1)]
     ·right
      simp only [go_sem,ya,Bk,show ((i+1:Nat):Int)-1=(i:Int) by omega,show (0:Int)<=(i:Int) by omega,hv.cB h1,hw.cB h2,show ¬((x.getD i 0:Nat):Int)=(y.getD i 0:Nat) by omega,show ¬((x.getD i 0:Nat):Int)<(y.getD i 0:Nat) by omega];refine ⟨_,_,rfl,by simp,_,_,rfl,.inl ⟨rfl,?_⟩⟩;simp only [go_sem];unfold dF;rw [yu (by omega),yL (by omega)]
 ·by_cases c1:x.length<y.length
  ·have:=Ki (b:=18446744073709551616) (by decide) hx ny c1
   simp only [go_sem,ya,Dj,hv.len,hw.len,show ¬(x.length:Int)=y.length by omega,show (x.length:Int)<y.length by omega];unfold dF;rw [yL this]
  ·have:=Ki (b:=18446744073709551616) (by decide) hy nx (show y.length<x.length by omega)
   simp only [go_sem,ya,Dj,hv.len,hw.len,show ¬(x.length:Int)=y.length by omega,show ¬(x.length:Int)<y.length by omega];unfold dF;rw [yu (by omega),yL this]
def afm (fS:L.pure 171=some mH) {v w:AV} {x y:List Nat} (hv:bO v x) (hw:bO w y) (hx:lo 18446744073709551616 x) (hy:lo 18446744073709551616 y) (lx:x.length<=99999999999) (ly:y.length<=x.length) {n:Nat} (hn:n=x.length+1):
  ∀k s,(∃(i c:Nat) (out:List Nat),aP [0,1,5,6,21,22] s=⟨[(0,v),(1,w),(5,.aD 0 0 n),(6,uc c),(21,ab x.length),(22,ab i)],[(0,.cells true true true 1 (out.map uc))],1,0⟩/\i+k=x.length/\out.length=n/\c<=1/\lo 18446744073709551616 out/\
    bv 18446744073709551616 out+18446744073709551616^i*c=bv 18446744073709551616 (x.take i)+bv 18446744073709551616 (y.take i)/\(∀m,i<=m->out.getD m 0=0))->
   ∃ex s',D P L (.loop [0,1,5,6,21,22] Bj) s=some (ex,s')/\∃tm c out,s'=⟨tm,[(0,.cells true true true 1 (out.map uc))],1,0⟩/\ex= .exit 0/\aj tm 0=v/\aj tm 5= .aD 0 0 n/\aj tm 6=uc c/\out.length=n/\c<=1/\lo 18446744073709551616 out/\
    bv 18446744073709551616 out+18446744073709551616^x.length*c=bv 18446744073709551616 x+bv 18446744073709551616 y/\out.getD x.length 0=0:=by
 intro dq sq;generalize bq:aP [0,1,5,6,21,22] sq=s0;revert bq s0 sq dq;apply dt;rintro k s ⟨i,c,out,rfl,hk,hlen,hc,aY,aI,fA⟩;by_cases hi:i<x.length
 ·left
  have hz:=fA i (yA _);have jM:=an3 (x:=x) (y:=y) (show i<out.length by omega) hz aI;have gx:=gi (show 0<18446744073709551616 by decide) hx i;have gy:=gi (show 0<18446744073709551616 by decide) hy i;have e1:=Bq (P:=P) (f:=D P L) fS gx gy hc;have ex:=hv.cB hi;generalize x.getD i 0=p at*
  by_cases hj:i<y.length
  ·have ey:=hw.cB hj;generalize y.getD i 0=q at*
   simp only [go_sem,ya,ym,Bj,hw.len,show (i:Int)<x.length by omega,show (i:Int)<y.length by omega,ex,ey,e1,cS 0 0 (show i<n by omega),yh,jD (l:=out) (o:=i) (by omega)]
   refine ⟨_,k-1,rfl,by omega,i+1,(p+q+c)/18446744073709551616,_,?_,by omega,by simp [hlen],by omega,lf aY (x:=(p+q+c)%18446744073709551616) (i:=i) (by omega),jM,fun m hm=>?_⟩
   ·rw [wrap64 (by omega) (by omega)];simp only [go_sem,ya,yd,aC,aR hv.pu,bc _ hv.pu,aR hw.pu,bc _ hw.pu]<;>rfl
   ·rw [nP (by omega)];exact fA m (by omega)
  ·have gA:y.getD i 0=0:=PT (by omega);rw [gA] at jM e1;rw [show (uc 0)=AV.int .u64 0 from rfl] at e1
   simp only [go_sem,ya,ym,Bj,hw.len,show (i:Int)<x.length by omega,show ¬(i:Int)<y.length by omega,ex,e1,cS 0 0 (show i<n by omega),yh,jD (l:=out) (o:=i) (by omega)]
   refine ⟨_,k-1,rfl,by omega,i+1,(p+0+c)/18446744073709551616,_,?_,by omega,by simp [hlen],by omega,lf aY (x:=(p+0+c)%18446744073709551616) (i:=i) (by omega),jM,fun m hm=>?_⟩
   ·rw [wrap64 (by omega) (by omega)];simp only [go_sem,ya,yd,aC,aR hv.pu,bc _ hv.pu,aR hw.pu,bc _ hw.pu]<;>rfl
   ·rw [nP (by omega)];exact fA m (by omega)
 ·right
  have:i=x.length:=by omega
  subst this;rw [xG,yQ ly] at aI;simp only [go_sem,ya,Bj,show ¬(x.length:Int)<x.length by omega];exact ⟨_,_,rfl,by simp,_,c,out,rfl,rfl,by simp only [go_sem,ya],by simp only [go_sem,ya],by simp only [go_sem,ya],hlen,hc,aY,aI,fA _ (yA _)⟩
def azn (h:Has P L 157 Ho) (lG:Has P L 166 zU) (fS:L.pure 171=some mH) {v w:AV} {x y:List Nat} (hv:bO v x) (hw:bO w y) (hx:lo 18446744073709551616 x) (hy:lo 18446744073709551616 y) (lx:x.length<=99999999999) (ly:y.length<=99999999999):
  ∃r out,ai P L 157 [v,w] r/\bO r out/\lo 18446744073709551616 out/\fX out/\bv 18446744073709551616 out=bv 18446744073709551616 x+bv 18446744073709551616 y:=by
 have fin:∀{x y o:List Nat} {n c:Nat},n=x.length+1->x.length<=99999999999->o.length=n->c<=1->lo 18446744073709551616 o->bv 18446744073709551616 o+18446744073709551616^x.length*c=bv 18446744073709551616 x+bv 18446744073709551616 y->o.getD x.length 0=0->
   ∃r,bM P L (D P L) 166 [.aB true n ((o.set x.length c).map uc)]=some r/\bO r (dI (o.set x.length c))/\lo 18446744073709551616 (dI (o.set x.length c))/\fX (dI (o.set x.length c))/\bv 18446744073709551616 (dI (o.set x.length c))=bv 18446744073709551616 x+bv 18446744073709551616 y:=by
  intro x y o n c hn lx hlen hc aY aI hz;have bi:=mJ (b:=18446744073709551616) (l:=o) (i:=x.length) (x:=c) (by omega);rw [hz,xp,yZ,aI] at bi;have azo:lo 18446744073709551616 (o.set x.length c):=lf aY (by omega);have hf:=lT true (o.set x.length c);rw [List.length_set,hlen] at hf;obtain ⟨r,e1,hr⟩:=Af lG hf (by simp;omega);exact ⟨r,e1,hr,zm azo,zk _,by rw [zj];exact bi⟩
 by_cases hl:x.length<y.length
 ·obtain ⟨n,hn⟩:∃n,n=y.length+1:=⟨_,rfl⟩;unfold ai;rw [aG h]
  simp only [go_sem,ya,yd,Ho,hv.len,hw.len,show (x.length:Int)<y.length by omega,wrapN (n:=n) (by omega),show (y.length:Int)+1=((y.length+1:Nat):Int) from rfl,<-hn,BV (n:=n) _ (by omega)];generalize hq:D P L (.loop [0,1,5,6,21,22] Bj) _=q;obtain ⟨ex,s,rfl,tm,c,o,rfl,rfl,t0,t5,t6,hlen,hc,aY,aI,hz⟩:=cr hq (afm (P:=P) (L:=L) fS hw hv hy hx ly (by omega) hn y.length)
   ⟨0,0,yK n 0,by simp only [go_sem,ya,yd,aC,aR hv.pu,bc _ hv.pu,aR hw.pu,bc _ hw.pu]<;>rfl,by omega,by simp,by omega,C3 (by decide) n,by rw [C4];simp [bv],fun m _=>A8 n m⟩
  obtain ⟨r,e1,hr,f1,f2,f3⟩:=fin hn ly hlen hc aY aI hz;refine ⟨r,_,?_,hr,f1,f2,by rw [f3];omega⟩
  simp only [go_sem,ya,ym,aC,aR hw.pu,bc _ hw.pu,hw.len,t0,t5,t6,cS 0 0 (show y.length<n by omega),yh,jD (l:=o) (o:=y.length) (by omega)]
  simp only [go_sem,Ae _ (n:=n) (l:=o.set y.length c) (by simp [hlen]) true,e1,hr.shut,hr.dj]
 ·obtain ⟨n,hn⟩:∃n,n=x.length+1:=⟨_,rfl⟩;unfold ai;rw [aG h]
  simp only [go_sem,ya,yd,Ho,hv.len,hw.len,show ¬(x.length:Int)<y.length by omega,wrapN (n:=n) (by omega),show (x.length:Int)+1=((x.length+1:Nat):Int) from rfl,<-hn,BV (n:=n) _ (by omega)];generalize hq:D P L (.loop [0,1,5,6,21,22] Bj) _=q;obtain ⟨ex,s,rfl,tm,c,o,rfl,rfl,t0,t5,t6,hlen,hc,aY,aI,hz⟩:=cr hq (afm (P:=P) (L:=L) fS hv hw hx hy lx (by omega) hn x.length)
   ⟨0,0,yK n 0,by simp only [go_sem,ya,yd,aC,aR hv.pu,bc _ hv.pu,aR hw.pu,bc _ hw.pu]<;>rfl,by omega,by simp,by omega,C3 (by decide) n,by rw [C4];simp [bv],fun m _=>A8 n m⟩
  obtain ⟨r,e1,hr,f1,f2,f3⟩:=fin hn lx hlen hc aY aI hz;refine ⟨r,_,?_,hr,f1,f2,f3⟩
  simp only [go_sem,ya,ym,aC,aR hv.pu,bc _ hv.pu,hv.len,t0,t5,t6,cS 0 0 (show x.length<n by omega),yh,jD (l:=o) (o:=x.length) (by omega)]
  simp only [go_sem,Ae _ (n:=n) (l:=o.set x.length c) (by simp [hlen]) true,e1,hr.shut,hr.dj]
end
def an5 {b:Nat} {out:List Nat} {p j c t o x y Y bo ba:Nat} (ho:o=out.getD j 0) (hj:j<out.length) (ht:t=o+x*y+c) (hv:bo+p*c=ba+p*(x*Y)) (hb:bo=bv b out) (hp:p=b^j):
  bv b (out.set j (t%b))+p*b*(t/b)=ba+p*(x*(Y+0))+p*(x*y):=by
 have h1:=mJ (b:=b) (x:=t%b) hj;have h2:=JB p b t
 grind
section
variable {P:aM} {L:Lib}
def Pe {x y c:Nat} (hx:x<18446744073709551616) (hy:y<18446744073709551616) (hc:c<=1):
  (x+18446744073709551616*2-y-c)%18446744073709551616+y+c=x+18446744073709551616*(if y+c<=x then 0 else 1):=by grind
def av3 (qG:L.pure 173=some zA) {v w:AV} {x y:List Nat} (hv:bO v x) (hw:bO w y) (hx:lo 18446744073709551616 x) (hy:lo 18446744073709551616 y) (lx:x.length<=99999999999) (ly:y.length<=x.length) (hle:bv 18446744073709551616 y<=bv 18446744073709551616 x) {n:Nat} (hn:n=x.length):
  ∀k s,(∃(i c:Nat) (out:List Nat),aP [0,1,5,6,13,14] s=⟨[(0,v),(1,w),(5,.aD 0 0 n),(6,uc c),(13,ab x.length),(14,ab i)],[(0,.cells true true true 1 (out.map uc))],1,0⟩/\i+k=x.length/\out.length=n/\c<=1/\lo 18446744073709551616 out/\
    bv 18446744073709551616 out+bv 18446744073709551616 (y.take i)=bv 18446744073709551616 (x.take i)+18446744073709551616^i*c/\(∀m,i<=m->out.getD m 0=0))->
   ∃ex s',D P L (.loop [0,1,5,6,13,14] CW) s=some (ex,s')/\∃tm out,s'=⟨tm,[(0,.cells true true true 1 (out.map uc))],1,0⟩/\ex= .exit 0/\aj tm 5= .aD 0 0 n/\out.length=n/\lo 18446744073709551616 out/\
    bv 18446744073709551616 out+bv 18446744073709551616 y=bv 18446744073709551616 x:=by
 intro dq sq;generalize bq:aP [0,1,5,6,13,14] sq=s0;revert bq s0 sq dq;apply dt;rintro k s ⟨i,c,out,rfl,hk,hlen,hc,aY,aI,fA⟩;by_cases hi:i<x.length
 ·left
  have hz:=fA i (yA _);have gx:=gi (show 0<18446744073709551616 by decide) hx i;have gy:=gi (show 0<18446744073709551616 by decide) hy i;have re:=Pe gx gy hc;have jM:=an4 (x:=x) (y:=y) (show i<out.length by omega) hz re aI;have e1:=PW (P:=P) (f:=D P L) qG gx gy hc;have ex:=hv.cB hi;generalize x.getD i 0=p at*
  have mr:(if y.getD i 0+c<=p then 0 else 1)<=1:=by split<;>omega
  by_cases hj:i<y.length
  ·have ey:=hw.cB hj;generalize y.getD i 0=q at*
   generalize (if q+c<=p then 0 else 1)=c1 at*
   simp only [go_sem,ya,xQ,ym,CW,hw.len,show (i:Int)<x.length by omega,show (i:Int)<y.length by omega,ex,ey,e1,cS 0 0 (show i<n by omega),yh,jD (l:=out) (o:=i) (by omega)]
   refine ⟨_,k-1,rfl,by omega,i+1,c1,_,?_,by omega,by simp [hlen],mr,lf aY (x:=(p+18446744073709551616*2-q-c)%18446744073709551616) (i:=i) (by omega),jM,fun m hm=>?_⟩
   ·rw [wrap64 (by omega) (by omega)];simp only [go_sem,ya,yd,xQ,aC,aR hv.pu,bc _ hv.pu,aR hw.pu,bc _ hw.pu]<;>rfl
   ·rw [nP (by omega)];exact fA m (by omega)
  ·have gA:y.getD i 0=0:=PT (by omega);rw [gA] at jM e1 mr;rw [show (uc 0)=AV.int .u64 0 from rfl] at e1;generalize (if 0+c<=p then 0 else 1)=c1 at*
   simp only [go_sem,ya,xQ,ym,CW,hw.len,show (i:Int)<x.length by omega,show ¬(i:Int)<y.length by omega,ex,e1,cS 0 0 (show i<n by omega),yh,jD (l:=out) (o:=i) (by omega)]
   refine ⟨_,k-1,rfl,by omega,i+1,c1,_,?_,by omega,by simp [hlen],mr,lf aY (x:=(p+18446744073709551616*2-0-c)%18446744073709551616) (i:=i) (by omega),jM,fun m hm=>?_⟩
   ·rw [wrap64 (by omega) (by omega)];simp only [go_sem,ya,yd,xQ,aC,aR hv.pu,bc _ hv.pu,aR hw.pu,bc _ hw.pu]<;>rfl
   ·rw [nP (by omega)];exact fA m (by omega)
 ·right
  have:i=x.length:=by omega
  subst this;rw [xG,yQ ly] at aI;have aF:=lk aY;rw [hlen,hn] at aF;simp only [go_sem,ya,CW,show ¬(x.length:Int)<x.length by omega];refine ⟨_,_,rfl,by simp,_,out,rfl,rfl,by simp only [go_sem,ya],hlen,aY,?_⟩;rcases (show c=0\/c=1 by omega) with rfl | rfl
  ·omega
  ·omega
def air (h:Has P L 159 Lx) (lG:Has P L 166 zU) (qG:L.pure 173=some zA) {v w:AV} {x y:List Nat} (hv:bO v x) (hw:bO w y) (hx:lo 18446744073709551616 x) (hy:lo 18446744073709551616 y) (ny:fX y) (lx:x.length<=99999999999) (hle:bv 18446744073709551616 y<=bv 18446744073709551616 x):
  ∃r out,ai P L 159 [v,w] r/\bO r out/\lo 18446744073709551616 out/\fX out/\bv 18446744073709551616 out+bv 18446744073709551616 y=bv 18446744073709551616 x:=by
 have ly:y.length<=x.length:=by
  by_cases hh:x.length<y.length
  ·have:=Ki (b:=18446744073709551616) (by decide) hx ny hh
   omega
  ·omega
 obtain ⟨n,hn⟩:∃n,n=x.length:=⟨_,rfl⟩;unfold ai;rw [aG h]
 simp only [go_sem,ya,yd,Lx,hv.len,<-hn,BV (n:=n) _ (by omega)];generalize hq:D P L (.loop [0,1,5,6,13,14] CW) _=q;obtain ⟨ex,s,rfl,tm,o,rfl,rfl,t5,hlen,aY,aI⟩:=cr hq (av3 (P:=P) (L:=L) qG hv hw hx hy lx ly hle hn x.length)
  ⟨0,0,yK n 0,by rw [hn];simp only [go_sem,ya,yd,aC,aR hv.pu,bc _ hv.pu,aR hw.pu,bc _ hw.pu]<;>rfl,by omega,by simp,by omega,C3 (by decide) n,by rw [C4];simp [bv],fun m _=>A8 n m⟩
 have hf:=lT true o;rw [hlen] at hf;obtain ⟨r,e1,hr⟩:=Af lG hf (by omega);refine ⟨r,_,?_,hr,zm aY,zk _,by rw [zj];exact aI⟩
 simp only [go_sem,yd,aC,t5,Ae _ (n:=n) (l:=o) hlen true,e1,hr.shut,hr.dj]
def ap7 {x y o c:Nat} (hx:x<18446744073709551616) (hy:y<18446744073709551616) (ho:o<18446744073709551616) (hc:c<18446744073709551616):
  o+x*y+c<18446744073709551616*18446744073709551616/\
  ((x*y%18446744073709551616+o+0)%18446744073709551616+c+0)%18446744073709551616=(o+x*y+c)%18446744073709551616/\
  x*y/18446744073709551616+(x*y%18446744073709551616+o+0)/18446744073709551616+((x*y%18446744073709551616+o+0)%18446744073709551616+c+0)/18446744073709551616=(o+x*y+c)/18446744073709551616:=by
 have h1:=xZ (show x<=18446744073709551615 by omega) (show y<=18446744073709551615 by omega)
 grind
def av4 (lH:L.pure 143=some p6) (fS:L.pure 171=some mH) {v w:AV} {x y:List Nat} (hv:bO v x) (hw:bO w y) (hx:lo 18446744073709551616 x) (hy:lo 18446744073709551616 y) (lx:x.length<=49999999999) (ly:y.length<=49999999999) {n i:Nat} (hn:n=x.length+y.length) (hi:i<x.length) {a:Nat} (ha:a<18446744073709551616) {bo:Nat}:
  ∀k s,(∃(j c:Nat) (out:List Nat),aP [1,5,6,7,8,20,21,22,27,28,29] s=⟨[(1,w),(5,.aD 0 0 n),(6,ab i),(7,uc a),(8,uc c),(20,v),(21,ab x.length),(22,ab i),(27,w),(28,ab y.length),(29,ab j)],[(0,.cells true true true 1 (out.map uc))],1,0⟩/\j+k=y.length/\out.length=n/\c<18446744073709551616/\lo 18446744073709551616 out/\
    bv 18446744073709551616 out+18446744073709551616^(i+j)*c=bo+18446744073709551616^i*(a*bv 18446744073709551616 (y.take j))/\(∀m,i+y.length<=m->out.getD m 0=0))->
   ∃ex s',D P L (.loop [1,5,6,7,8,20,21,22,27,28,29] Gq) s=some (ex,s')/\∃tm c out,s'=⟨tm,[(0,.cells true true true 1 (out.map uc))],1,0⟩/\ex= .exit 2/\aj tm 1=w/\aj tm 5= .aD 0 0 n/\aj tm 6=ab i/\aj tm 8=uc c/\aj tm 20=v/\aj tm 21=ab x.length/\aj tm 22=ab i/\out.length=n/\c<18446744073709551616/\lo 18446744073709551616 out/\
    bv 18446744073709551616 out+18446744073709551616^(i+y.length)*c=bo+18446744073709551616^i*(a*bv 18446744073709551616 y)/\(∀m,i+y.length<=m->out.getD m 0=0):=by
 intro dq sq;generalize bq:aP [1,5,6,7,8,20,21,22,27,28,29] sq=s0;revert bq s0 sq dq;apply dt;rintro k s ⟨j,c,out,rfl,hk,hlen,hc,aY,aI,fA⟩;by_cases hj:j<y.length
 ·left
  have Ay:(0:Nat)<18446744073709551616:=by decide
  have gy:=gi Ay hy j;have mu:=gi Ay aY (i+j);have ey:=hw.cB hj;have e3:=rV (l:=out) (o:=i+j) (by omega);obtain ⟨q,hq⟩:∃q,q=y.getD j 0:=⟨_,rfl⟩;obtain ⟨o,ho⟩:∃o,o=out.getD (i+j) 0:=⟨_,rfl⟩;rw [<-hq] at gy ey;rw [<-ho] at mu e3;obtain ⟨m1,m2,m3⟩:=ap7 ha gy mu hc;have hpy:a*q<18446744073709551616*18446744073709551616:=by omega
  have f1:=KD (P:=P) (f:=D P L) lH ha gy;have f2:=Bq (P:=P) (f:=D P L) fS (x:=a*q%18446744073709551616) (y:=o) (c:=0) (xv _ Ay) mu (by omega);have f3:=Bq (P:=P) (f:=D P L) fS (x:=(a*q%18446744073709551616+o+0)%18446744073709551616) (y:=c) (c:=0) (xv _ Ay) hc (by omega);obtain ⟨t,ht⟩:∃t,t=o+a*q+c:=⟨_,rfl⟩;have jM:=an5 (b:=18446744073709551616) (out:=out) (p:=18446744073709551616^(i+j)) (j:=i+j) (c:=c) (t:=t) (x:=a) (y:=q) (Y:=0) (ba:=bo+18446744073709551616^i*(a*bv 18446744073709551616 (y.take j))) ho (by omega) ht (by simpa using aI) rfl rfl;rw [m2,<-ht] at f3;rw [<-ht] at m1 m3;obtain ⟨d1,jy⟩:∃d,d=(a*q%18446744073709551616+o+0)/18446744073709551616:=⟨_,rfl⟩;obtain ⟨d2,fN⟩:∃d,d=((a*q%18446744073709551616+o+0)%18446744073709551616+c+0)/18446744073709551616:=⟨_,rfl⟩;rw [<-jy] at f2 m3;rw [<-fN] at f3 m3
  rw [show (uc 0)=AV.int .u64 0 from rfl] at f2 f3;obtain ⟨h1,gn⟩:∃d,d=a*q/18446744073709551616:=⟨_,rfl⟩;rw [<-gn] at f1 m3;have kP:h1+d1<18446744073709551616:=by omega
  have sJ:h1+d1+d2<18446744073709551616:=by omega
  simp only [go_sem,ya,ym,Gq,show (j:Int)<y.length by omega,ey,f1,wrapN (n:=i+j) (by omega),show (i:Int)+(j:Int)=((i+j:Nat):Int) from rfl,cS 0 0 (show i+j<n by omega),yh,e3,f2,f3,show (h1:Int)+(d1:Int)=((h1+d1:Nat):Int) from rfl,agB kP,show ((h1+d1:Nat):Int)+(d2:Int)=((h1+d1+d2:Nat):Int) from rfl,agB sJ,jD (l:=out) (o:=i+j) (by omega)]
  refine ⟨_,k-1,rfl,by omega,j+1,h1+d1+d2,_,?_,by omega,by simp [hlen],sJ,lf aY (x:=t%18446744073709551616) (i:=i+j) (xv _ Ay),?_,fun m hm=>?_⟩
  ·rw [wrap64 (by omega) (by omega)];simp only [go_sem,ya,yd,aC,aR hv.pu,bc _ hv.pu,aR hw.pu,bc _ hw.pu]<;>rfl
  ·rw [m3,show i+(j+1)=i+j+1 by omega,yU,iK,<-hq,xr a,xr (18446744073709551616^i)];simp only [xp,yZ] at jM;rw [jM,xj,<-Nat.add_assoc,xb (18446744073709551616^i),<-xb a,xg a (18446744073709551616^j),xb]
  ·rw [nP (by omega)];exact fA m hm
 ·right
  have:j=y.length:=by omega
  subst this;rw [xG] at aI;simp only [go_sem,ya,Gq,show ¬(y.length:Int)<y.length by omega];exact ⟨_,_,rfl,by simp,_,c,out,rfl,rfl,by simp only [go_sem,ya],by simp only [go_sem,ya],by simp only [go_sem,ya],by simp only [go_sem,ya],by simp only [go_sem,ya],by simp only [go_sem,ya],by simp only [go_sem,ya],hlen,hc,aY,aI,fA⟩
def av5 (lH:L.pure 143=some p6) (fS:L.pure 171=some mH) {v w:AV} {x y:List Nat} (hv:bO v x) (hw:bO w y) (hx:lo 18446744073709551616 x) (hy:lo 18446744073709551616 y) (lx:x.length<=49999999999) (ly:y.length<=49999999999) {n:Nat} (hn:n=x.length+y.length):
  ∀k s,(∃(i:Nat) (out:List Nat),aP [1,5,20,21,22] s=⟨[(1,w),(5,.aD 0 0 n),(20,v),(21,ab x.length),(22,ab i)],[(0,.cells true true true 1 (out.map uc))],1,0⟩/\i+k=x.length/\out.length=n/\lo 18446744073709551616 out/\
    bv 18446744073709551616 out=bv 18446744073709551616 (x.take i)*bv 18446744073709551616 y/\(∀m,i+y.length<=m->out.getD m 0=0))->
   ∃ex s',D P L (.loop [1,5,20,21,22] Gr) s=some (ex,s')/\∃tm out,s'=⟨tm,[(0,.cells true true true 1 (out.map uc))],1,0⟩/\ex= .exit 0/\aj tm 5= .aD 0 0 n/\out.length=n/\lo 18446744073709551616 out/\
    bv 18446744073709551616 out=bv 18446744073709551616 x*bv 18446744073709551616 y:=by
 intro dq sq;generalize bq:aP [1,5,20,21,22] sq=s0;revert bq s0 sq dq;apply dt;rintro k s ⟨i,out,rfl,hk,hlen,aY,aI,fA⟩;by_cases hi:i<x.length
 ·left
  have gx:=gi (show 0<18446744073709551616 by decide) hx i;have ex:=hv.cB hi;obtain ⟨a,ha⟩:∃a,a=x.getD i 0:=⟨_,rfl⟩;simp only [go_sem,ya,Gr,hw.len,show (i:Int)<x.length by omega,ex];generalize hq:D P L (.loop [1,5,6,7,8,20,21,22,27,28,29] Gq) _=q;obtain ⟨ex,s,rfl,tm,c,qH,rfl,rfl,t1,t5,t6,t8,t20,t21,t22,Qw,hc,azp,Qx,HX⟩:=cr hq (av4 (P:=P) (L:=L) lH fS hv hw hx hy lx ly hn hi gx (bo:=bv 18446744073709551616 out) y.length)
   ⟨0,0,out,by simp only [go_sem,ya,yd,aC,aR hv.pu,bc _ hv.pu,aR hw.pu,bc _ hw.pu]<;>rfl,by omega,hlen,by decide,aY,by simp [bv],fA⟩
  have hz:qH.getD (i+y.length) 0=0:=HX _ (yA _);have bi:=mJ (b:=18446744073709551616) (l:=qH) (i:=i+y.length) (x:=c) (by omega);rw [hz,xp,yZ,Qx] at bi
  simp only [go_sem,ya,ym,aC,t1,t5,t6,t8,t20,t21,t22,hw.len,aR hv.pu,bc _ hv.pu,aR hw.pu,bc _ hw.pu,wrapN (n:=i+y.length) (by omega),show (i:Int)+(y.length:Int)=((i+y.length:Nat):Int) from rfl,cS 0 0 (show i+y.length<n by omega),yh,jD (l:=qH) (o:=i+y.length) (by omega)];refine ⟨_,k-1,rfl,by omega,i+1,qH.set (i+y.length) c,?_,by omega,by simp [Qw],lf azp hc,?_,fun m hm=>?_⟩
  ·rw [wrap64 (by omega) (by omega)];simp only [go_sem,ya,yd,aC,aR hv.pu,bc _ hv.pu,aR hw.pu,bc _ hw.pu]<;>rfl
  ·rw [bi,aI,iK,xU,<-ha,xb]
  ·rw [nP (by omega)];exact HX m (by omega)
 ·right
  have:i=x.length:=by omega
  subst this;rw [xG] at aI;simp only [go_sem,ya,Gr,show ¬(x.length:Int)<x.length by omega];exact ⟨_,_,rfl,by simp,_,out,rfl,rfl,by simp only [go_sem,ya],hlen,aY,aI⟩
def azq (h:Has P L 144 Lw) (lG:Has P L 166 zU) (lH:L.pure 143=some p6) (fS:L.pure 171=some mH) {v w:AV} {x y:List Nat} (hv:bO v x) (hw:bO w y) (hx:lo 18446744073709551616 x) (hy:lo 18446744073709551616 y) (lx:x.length<=49999999999) (ly:y.length<=49999999999):
  ∃r out,ai P L 144 [v,w] r/\bO r out/\lo 18446744073709551616 out/\fX out/\bv 18446744073709551616 out=bv 18446744073709551616 x*bv 18446744073709551616 y:=by
 obtain ⟨n,hn⟩:∃n,n=x.length+y.length:=⟨_,rfl⟩;unfold ai;rw [aG h]
 simp only [go_sem,ya,yd,Lw,hv.len,hw.len,wrapN (n:=n) (by omega),show (x.length:Int)+(y.length:Int)=((x.length+y.length:Nat):Int) from rfl,<-hn,BV (n:=n) _ (by omega)];generalize hq:D P L (.loop [1,5,20,21,22] Gr) _=q;obtain ⟨ex,s,rfl,tm,o,rfl,rfl,t5,hlen,aY,aI⟩:=cr hq (av5 (P:=P) (L:=L) lH fS hv hw hx hy lx ly hn x.length)
  ⟨0,yK n 0,by simp only [go_sem,ya,yd,aC,aR hv.pu,bc _ hv.pu,aR hw.pu,bc _ hw.pu]<;>rfl,by omega,by simp,C3 (by decide) n,by rw [C4];simp [bv],fun m _=>A8 n m⟩
 have hf:=lT true o;rw [hlen] at hf;obtain ⟨r,e1,hr⟩:=Af lG hf (by omega);refine ⟨r,_,?_,hr,zm aY,zk _,by rw [zj];exact aI⟩
 simp only [go_sem,yd,aC,t5,Ae _ (n:=n) (l:=o) hlen true,e1,hr.shut,hr.dj]
end
def K4 (n:Int):IntKind.wrap .u64 n=n%18446744073709551616:=by
 simp [IntKind.wrap,IntKind.signed,IntKind.bits]
def wrapM (n:Nat):IntKind.wrap .u64 (n:Int)=((n%18446744073709551616:Nat):Int):=by rw [K4];omega
def oe (a b:Nat):binOp .mul (uc a) (uc b)=some (uc (a*b%18446744073709551616)):=by
 rw [aeb,<-wY,wrapM]
def zQ (a b:Nat):binOp .add (uc a) (uc b)=some (uc ((a+b)%18446744073709551616)):=by
 rw [aea,<-Int.natCast_add,wrapM]
def BW {a b c:Nat} (h:(a+18446744073709551616-b)%18446744073709551616=c) (hb:b<=18446744073709551616):binOp .sub (uc a) (uc b)=some (uc c):=by
 rw [Kj,K4]
 grind
def afn (k k':xc) (a b:Int):binOp .shl (.int k a) (.int k' b)=A5 .shl k a b:=rfl
def afo (k k':xc) (a b:Int):binOp .shr (.int k a) (.int k' b)=A5 .shr k a b:=rfl
def HY (k:xc) (a:Nat) {s:Nat} (hs:s<=64):binOp .shl (.int .u64 (a:Int)) (.int k (s:Int))=some (uc (a*2^s%18446744073709551616)):=by
 rw [afn];simp only [A5,yu (show ¬(s:Int)<0 by omega),wv,IntKind.bits,xA hs];rw [show ((2:Int)^s)=((2^s:Nat):Int) by simp,<-wY,wrapM]
def HZ (k:xc) (a:Nat) {s:Nat} (hs:s<=64):binOp .shr (.int .u64 (a:Int)) (.int k (s:Int))=some (uc (a/2^s)):=by
 rw [afo];simp only [A5,yu (show ¬(s:Int)<0 by omega),wv,IntKind.bits,xA hs]
 grind
def ais (a:Nat):binOp .and (.int .u64 (a:Int)) (.int .u64 4294967295)=some (uc (a%4294967296)):=by
 show some (AV.int .u64 (IntKind.wrap .u64 ((xC 64 (a:Int)&&&xC 64 4294967295).toNat:Int)))=_
 rw [show xC 64 (a:Int)=td 64 a from tf 64 a,show xC 64 4294967295=td 64 4294967295 from rfl];rw [BitVec.toNat_and,vD,vD,show (4294967295%2^64:Nat)=2^32-1 from rfl,Nat.and_two_pow_sub_one_eq_mod,wrapM]
 grind
def NN {a b:Nat} (ha:a<18446744073709551616) (hb:b<18446744073709551616):binOp .or (.int .u64 (a:Int)) (.int .u64 (b:Int))=some (uc (a|||b)):=by
 show some (AV.int .u64 (IntKind.wrap .u64 ((xC 64 (a:Int)|||xC 64 (b:Int)).toNat:Int)))=_
 congr 2
 rw [show xC 64 (a:Int)=td 64 a from tf 64 a,show xC 64 (b:Int)=td 64 b from tf 64 b];rw [BitVec.toNat_or,vD,vD,yG (show a<2^64 from ha),yG (show b<2^64 from hb),wrapM]
 have:a|||b<2^64:=Nat.or_lt_two_pow ha hb
 omega
def PX {p s c:Nat} (h:c<2^s):(p*2^s)|||c=p*2^s+c:=by
 rw [<-Nat.shiftLeft_eq,<-Nat.shiftLeft_add_eq_or_of_lt h]
def Ow:∀(f n:Nat),n<2^f->dK f n<=f/\n<2^dK f n/\(0<n->0<dK f n/\2^(dK f n-1)<=n)
 | 0,n,h=>by simp [dK];simpa using h
 | f+1,n,h=>by
  simp only [dK];by_cases h0:n=0
  ·simp_all
  ·rw [gB h0,yX];obtain ⟨h1,h2,h3⟩:=Ow f (n/2) (by omega);refine ⟨by omega,?_,fun _=>⟨by omega,?_⟩⟩
   ·grind
   ·rw [Nat.add_sub_cancel_left];by_cases hn:0<n/2
    ·obtain ⟨h4,h5⟩:=h3 hn;obtain ⟨m,hm⟩:∃m,dK f (n/2)=m+1:=⟨dK f (n/2)-1,by omega⟩
     grind
    ·have hz:n/2=0:=by omega
     have:dK f 0=0:=by cases f with
      | zero=>rfl
      | succ f=>rfl
     grind
def Pf {y:Nat} (h0:0<y) (h:y<18446744073709551616):64-dK 64 y<64/\9223372036854775808<=y*2^(64-dK 64 y)/\y*2^(64-dK 64 y)<18446744073709551616:=by
 obtain ⟨h1,h2,h3⟩:=Ow 64 y h;obtain ⟨h4,h5⟩:=h3 h0;generalize dK 64 y=k at*
 refine ⟨by omega,?_,?_⟩
 ·have:=yT (2^(64-k)) h5
  rw [<-xj,show k-1+(64-k)=63 by omega] at this;exact this
 ·have:=xI h2 (y7 (64-k))
  rw [<-xj,show k+(64-k)=64 by omega] at this;exact this
section
variable {P:aM} {L:Lib} {f:cx}
def afp (h:L.pure 167=some Db) {x:Nat} (hx:x<18446744073709551616):bM P L f 167 [uc x]=some (ab (64-dK 64 x:Nat)):=by
 rw [gN h];show (bif yI x 18446744073709551616 then _ else none)=_
 rw [jL hx];rfl
def an6 {b v1 v2 u u2 t r:Nat} (cI:v2<b) (jC:t<b) (ht:t*v1+r=u) (h:b<=r\/t*v2<=b*r+u2):t*(v1*b+v2)<=u*b+u2:=by
 have h2:t*v2<=b*r+u2:=by
  rcases h with h | h
  ·have:=xZ (vZ jC) (vZ cI)
   have:=yP b h
   omega
  ·exact h
 rw [xr,<-xb,<-ht,xU,xg r b];omega
def ayg (n:Nat):gj (.toInt .u64) (.int .i64 (n:Int))=some (uc (n%18446744073709551616)):=by
 show some (AV.int .u64 (IntKind.wrap .u64 (n:Int)))=_
 rw [wrapM]
def YF {y v1 v2 u u2 q r:Nat} (hy:y=v1*4294967296+v2) (cI:v2<4294967296) (Em:0<v1) (eG:v1<4294967296) (hu:u<y) (sN:u2<4294967296) (hq:q*v1+r=u) (hr:r<4294967296) (hQ:(u*4294967296+u2)/y<=q):
  (4294967296<=q\/4294967296*r+u2<q*v2->0<q/\(q-1)*v1+(r+v1)=u/\(u*4294967296+u2)/y<=q-1/\(4294967296<=r+v1->(u*4294967296+u2)/y=q-1))/\
  (¬4294967296<=q->q*v2<=4294967296*r+u2->(u*4294967296+u2)/y=q):=by
 have gA:0<y:=by omega
 have NO:∀t s,t*v1+s=u->4294967296<=t->s<4294967296:=fun t s h1 h2=>by
  have:=yT v1 h2
  grind
 have afq:∀t s,t*v1+s=u->t<4294967296->(4294967296<=s\/t*v2<=4294967296*s+u2)->(u*4294967296+u2)/y<=t->(u*4294967296+u2)/y=t:=fun t s h1 h2 h3 h4=>by
  have:=an6 cI h2 h1 h3
  rw [<-hy] at this
  have:=(tk gA).2 this
  omega
 constructor
 ·intro h;have bq:0<q:=by
   grind
  have h1:(q-1)*v1+(r+v1)=u:=by
   obtain ⟨p,rfl⟩:∃p,q=p+1:=⟨q-1,by omega⟩
   grind
  have h2:(u*4294967296+u2)/y<=q-1:=by
   have aF:u*4294967296+u2<q*y:=by
    rcases h with h | h
    ·have h3:u*4294967296+u2<4294967296*y:=by omega
     exact yE h3 (yT y h)
    ·rw [hy,xr,<-xb,<-hq,xU,xg r];omega
   have:=(xx gA).2 aF
   omega
  exact ⟨bq,h1,h2,fun h3=>afq _ _ h1 (by
   by_cases hb:4294967296<=q-1
   ·have:=NO _ _ h1 hb;omega
   ·omega) (.inl h3) h2⟩
 ·intro h1 h2;exact afq q r hq (by omega) (.inr h2) hQ
def av6 {y s v1 v2 u u2 z:Nat} (hy:y=v1*4294967296+v2) (cI:v2<4294967296) (Em:0<v1) (eG:v1<4294967296) (hu:u<y) (sN:u2<4294967296):
  ∀k st,(∃q r:Nat,aP [2,8,9,10,11,13,14,15,16] st=⟨[(2,uc y),(8,uc s),(9,uc v1),(10,uc v2),(11,uc u),(13,uc u2),(14,uc z),(15,uc q),(16,uc r)],[],0,0⟩/\q*v1+r=u/\r<4294967296/\(u*4294967296+u2)/y<=q/\q=k)->
   ∃ex st',D P L (.loop [2,8,9,10,11,13,14,15,16] zB) st=some (ex,st')/\∃tm ct,st'=⟨tm,[],ct,0⟩/\ex= .exit 0/\aj tm 2=uc y/\aj tm 8=uc s/\aj tm 9=uc v1/\aj tm 10=uc v2/\aj tm 11=uc u/\aj tm 13=uc u2/\aj tm 14=uc z/\aj tm 15=uc ((u*4294967296+u2)/y):=by
 intro dq sq;generalize bq:aP [2,8,9,10,11,13,14,15,16] sq=s0;revert bq s0 sq dq;apply dt;rintro k st ⟨q,r,rfl,hq,hr,hQ,rfl⟩;obtain ⟨g1,g2⟩:=YF hy cI Em eG hu sN hq hr hQ;have hqb:q*1<=q*v1:=yP q Em;have azr:=yT 4294967296 (show v1<=4294967295 by omega);have nv:q<18446744073709551616:=by omega
 have W7:=yP 4294967296 (show r<=4294967295 by omega);have e1:=oe 4294967296 r;rw [show uc 4294967296=AV.int .u64 4294967296 from rfl,yG (show 4294967296*r<18446744073709551616 by omega)] at e1;have e2:=zQ (4294967296*r) u2;rw [yG (show 4294967296*r+u2<18446744073709551616 by omega)] at e2;have e4:=zQ r v1;rw [yG (show r+v1<18446744073709551616 by omega)] at e4;by_cases hc:4294967296<=q\/4294967296*r+u2<q*v2
 ·obtain ⟨h0,h1,h2,h3⟩:=g1 hc;have e3:binOp .sub (uc q) (.int .u64 1)=some (uc (q-1)):=BW (b:=1) (by omega) (by omega);by_cases hb:4294967296<=r+v1
  ·right
   have sO:=h3 hb;rcases (show 4294967296<=q\/(¬4294967296<=q/\4294967296*r+u2<q*v2) by omega) with t1 | ⟨t1,t2⟩
   ·simp only [go_sem,ya,zB,show (4294967296:Int)<=(q:Int) by omega,e3,e4,show (4294967296:Int)<=((r+v1:Nat):Int) by omega];exact ⟨_,_,rfl,by simp,_,_,rfl,rfl,by simp only [go_sem,ya],by simp only [go_sem,ya],by simp only [go_sem,ya],by simp only [go_sem,ya],by simp only [go_sem,ya],by simp only [go_sem,ya],by simp only [go_sem,ya],by rw [sO];simp only [go_sem,ya]⟩
   ·have Xy:=xZ (show q<=4294967295 by omega) (show v2<=4294967295 by omega);have e5:=oe q v2;rw [yG (show q*v2<18446744073709551616 by omega)] at e5;simp only [go_sem,ya,zB,show ¬(4294967296:Int)<=(q:Int) by omega,e5,e1,e2,show ((4294967296*r+u2:Nat):Int)<((q*v2:Nat):Int) by omega,e3,e4,show (4294967296:Int)<=((r+v1:Nat):Int) by omega];exact ⟨_,_,rfl,by simp,_,_,rfl,rfl,by simp only [go_sem,ya],by simp only [go_sem,ya],by simp only [go_sem,ya],by simp only [go_sem,ya],by simp only [go_sem,ya],by simp only [go_sem,ya],by simp only [go_sem,ya],by rw [sO];simp only [go_sem,ya]⟩
  ·left
   rcases (show 4294967296<=q\/(¬4294967296<=q/\4294967296*r+u2<q*v2) by omega) with t1 | ⟨t1,t2⟩
   ·simp only [go_sem,ya,zB,show (4294967296:Int)<=(q:Int) by omega,e3,e4,show ¬(4294967296:Int)<=((r+v1:Nat):Int) by omega];exact ⟨_,q-1,rfl,by omega,q-1,r+v1,by simp only [go_sem,ya,aC],h1,by omega,h2,rfl⟩
   ·have Xy:=xZ (show q<=4294967295 by omega) (show v2<=4294967295 by omega);have e5:=oe q v2;rw [yG (show q*v2<18446744073709551616 by omega)] at e5;simp only [go_sem,ya,zB,show ¬(4294967296:Int)<=(q:Int) by omega,e5,e1,e2,show ((4294967296*r+u2:Nat):Int)<((q*v2:Nat):Int) by omega,e3,e4,show ¬(4294967296:Int)<=((r+v1:Nat):Int) by omega];exact ⟨_,q-1,rfl,by omega,q-1,r+v1,by simp only [go_sem,ya,aC],h1,by omega,h2,rfl⟩
 ·right
  have sO:=g2 (by omega) (by omega);have e5:=oe q v2;rw [yG (show q*v2<18446744073709551616 by omega)] at e5;simp only [go_sem,ya,zB,show ¬(4294967296:Int)<=(q:Int) by omega,e5,e1,e2,show ¬((4294967296*r+u2:Nat):Int)<((q*v2:Nat):Int) by omega];exact ⟨_,_,rfl,by simp,_,_,rfl,rfl,by simp only [go_sem,ya],by simp only [go_sem,ya],by simp only [go_sem,ya],by simp only [go_sem,ya],by simp only [go_sem,ya],by simp only [go_sem,ya],by simp only [go_sem,ya],by rw [sO];simp only [go_sem,ya]⟩
def av7 {y s v1 v2 u u2 z:Nat} (hy:y=v1*4294967296+v2) (cI:v2<4294967296) (Em:0<v1) (eG:v1<4294967296) (hu:u<y) (sN:u2<4294967296):
  ∀k st,(∃q r:Nat,aP [2,8,9,10,14,15,16,17,18] st=⟨[(2,uc y),(8,uc s),(9,uc v1),(10,uc v2),(14,uc u2),(15,uc z),(16,uc r),(17,uc u),(18,uc q)],[],0,0⟩/\q*v1+r=u/\r<4294967296/\(u*4294967296+u2)/y<=q/\q=k)->
   ∃ex st',D P L (.loop [2,8,9,10,14,15,16,17,18] zC) st=some (ex,st')/\∃tm ct,st'=⟨tm,[],ct,0⟩/\ex= .exit 2/\aj tm 2=uc y/\aj tm 8=uc s/\aj tm 9=uc v1/\aj tm 10=uc v2/\aj tm 14=uc u2/\aj tm 15=uc z/\aj tm 17=uc u/\aj tm 18=uc ((u*4294967296+u2)/y):=by
 intro dq sq;generalize bq:aP [2,8,9,10,14,15,16,17,18] sq=s0;revert bq s0 sq dq;apply dt;rintro k st ⟨q,r,rfl,hq,hr,hQ,rfl⟩;obtain ⟨g1,g2⟩:=YF hy cI Em eG hu sN hq hr hQ;have hqb:q*1<=q*v1:=yP q Em;have azr:=yT 4294967296 (show v1<=4294967295 by omega);have nv:q<18446744073709551616:=by omega
 have W7:=yP 4294967296 (show r<=4294967295 by omega);have e1:=oe 4294967296 r;rw [show uc 4294967296=AV.int .u64 4294967296 from rfl,yG (show 4294967296*r<18446744073709551616 by omega)] at e1;have e2:=zQ (4294967296*r) u2;rw [yG (show 4294967296*r+u2<18446744073709551616 by omega)] at e2;have e4:=zQ r v1;rw [yG (show r+v1<18446744073709551616 by omega)] at e4;by_cases hc:4294967296<=q\/4294967296*r+u2<q*v2
 ·obtain ⟨h0,h1,h2,h3⟩:=g1 hc;have e3:binOp .sub (uc q) (.int .u64 1)=some (uc (q-1)):=BW (b:=1) (by omega) (by omega);by_cases hb:4294967296<=r+v1
  ·right
   have sO:=h3 hb;rcases (show 4294967296<=q\/(¬4294967296<=q/\4294967296*r+u2<q*v2) by omega) with t1 | ⟨t1,t2⟩
   ·simp only [go_sem,ya,zC,show (4294967296:Int)<=(q:Int) by omega,e3,e4,show (4294967296:Int)<=((r+v1:Nat):Int) by omega];exact ⟨_,_,rfl,by simp,_,_,rfl,rfl,by simp only [go_sem,ya],by simp only [go_sem,ya],by simp only [go_sem,ya],by simp only [go_sem,ya],by simp only [go_sem,ya],by simp only [go_sem,ya],by simp only [go_sem,ya],by rw [sO];simp only [go_sem,ya]⟩
   ·have Xy:=xZ (show q<=4294967295 by omega) (show v2<=4294967295 by omega);have e5:=oe q v2;rw [yG (show q*v2<18446744073709551616 by omega)] at e5;simp only [go_sem,ya,zC,show ¬(4294967296:Int)<=(q:Int) by omega,e5,e1,e2,show ((4294967296*r+u2:Nat):Int)<((q*v2:Nat):Int) by omega,e3,e4,show (4294967296:Int)<=((r+v1:Nat):Int) by omega];exact ⟨_,_,rfl,by simp,_,_,rfl,rfl,by simp only [go_sem,ya],by simp only [go_sem,ya],by simp only [go_sem,ya],by simp only [go_sem,ya],by simp only [go_sem,ya],by simp only [go_sem,ya],by simp only [go_sem,ya],by rw [sO];simp only [go_sem,ya]⟩
  ·left
   rcases (show 4294967296<=q\/(¬4294967296<=q/\4294967296*r+u2<q*v2) by omega) with t1 | ⟨t1,t2⟩
   ·simp only [go_sem,ya,zC,show (4294967296:Int)<=(q:Int) by omega,e3,e4,show ¬(4294967296:Int)<=((r+v1:Nat):Int) by omega];exact ⟨_,q-1,rfl,by omega,q-1,r+v1,by simp only [go_sem,ya,aC],h1,by omega,h2,rfl⟩
   ·have Xy:=xZ (show q<=4294967295 by omega) (show v2<=4294967295 by omega);have e5:=oe q v2;rw [yG (show q*v2<18446744073709551616 by omega)] at e5;simp only [go_sem,ya,zC,show ¬(4294967296:Int)<=(q:Int) by omega,e5,e1,e2,show ((4294967296*r+u2:Nat):Int)<((q*v2:Nat):Int) by omega,e3,e4,show ¬(4294967296:Int)<=((r+v1:Nat):Int) by omega];exact ⟨_,q-1,rfl,by omega,q-1,r+v1,by simp only [go_sem,ya,aC],h1,by omega,h2,rfl⟩
 ·right
  have sO:=g2 (by omega) (by omega);have e5:=oe q v2;rw [yG (show q*v2<18446744073709551616 by omega)] at e5;simp only [go_sem,ya,zC,show ¬(4294967296:Int)<=(q:Int) by omega,e5,e1,e2,show ¬((4294967296*r+u2:Nat):Int)<((q*v2:Nat):Int) by omega];exact ⟨_,_,rfl,by simp,_,_,rfl,rfl,by simp only [go_sem,ya],by simp only [go_sem,ya],by simp only [go_sem,ya],by simp only [go_sem,ya],by simp only [go_sem,ya],by simp only [go_sem,ya],by simp only [go_sem,ya],by rw [sO];simp only [go_sem,ya]⟩
def agC (a:Nat):binOp .shr (.int .u64 (a:Int)) (.int .u64 32)=some (uc (a/4294967296)):=HZ .u64 a (s:=32) (by decide)
def ait (a:Nat) {b:Nat} (ha:a<18446744073709551616) (hb:0<b):binOp .quo (uc a) (uc b)=some (uc (a/b)):=by
 rw [eI _ _ _ (by omega),xE (by omega),<-Int.natCast_ediv,wrapM,yG];exact xJ (wN a b) ha
def azs (a:Nat) {b:Nat} (hb:0<b):binOp .rem (uc a) (uc b)=some (uc (a%b)):=by
 rw [fo _ _ _ (by omega),xD (by omega),<-Int.natCast_emod]
def an7 {hi lo y s u z Y:Nat} (hs:s<64) (aY:lo<18446744073709551616) (hY:Y=y*2^s) (hu:u=hi*2^s+lo/2^(64-s)) (hz:z=lo*2^s%18446744073709551616):
  (hi*18446744073709551616+lo)*2^s=u*18446744073709551616+z:=by
 have e:18446744073709551616=2^(64-s)*2^s:=by rw [<-xj,show 64-s+s=64 by omega]
 have h1:lo*2^s/18446744073709551616=lo/2^(64-s):=by
  rw [e,yav _ _ (y7 s)]
 grind
def ZX {Y q a b:Nat} (h1:a<Y) (h2:b<4294967296) (h3:q=(a*4294967296+b)/Y):q<4294967296:=by
 rw [h3];exact (xx (by omega)).2 (by omega)
def ap8 {u w x z z0 z1 q0 q1 Y:Nat} (jy:q1*Y+w=u*4294967296+z1) (fE:q0*Y+x=w*4294967296+z0) (hz:z=z1*4294967296+z0):u*18446744073709551616+z=(q1*4294967296+q0)*Y+x:=by grind
def amA {q1 q0:Nat} (h1:q1<4294967296) (h0:q0<4294967296):q1*4294967296<18446744073709551616/\q1*4294967296+q0<18446744073709551616:=by omega
def aiu (h:Has P L 165 Hr) (H0:L.pure 167=some Db) {hi lo y:Nat} (fA:hi<y) (aY:lo<18446744073709551616) (hy:y<18446744073709551616):
  ai P L 165 [uc hi,uc lo,uc y] (.aa [uc ((hi*18446744073709551616+lo)/y),uc ((hi*18446744073709551616+lo)%y)]):=by
 have gA:0<y:=by omega
 by_cases h0:hi=0
 ·subst h0;have e1:=ait lo aY gA;have e2:=azs lo gA;rw [wE,yh];unfold ai;rw [aG h];simp only [go_sem,ya,Hr,show ¬(y:Int)=0 by omega,show ¬(y:Int)<=0 by omega,show ((0:Nat):Int)=0 from rfl,e1,e2];rfl
 ·obtain ⟨s,hs⟩:∃s,s=64-dK 64 y:=⟨_,rfl⟩;have hl:=afp (P:=P) (f:=D P L) H0 hy;obtain ⟨l1,l2,l3⟩:=Pf gA hy;rw [<-hs] at hl l1 l2 l3;obtain ⟨Y,hY⟩:∃Y,Y=y*2^s:=⟨_,rfl⟩;obtain ⟨u,hu⟩:∃u,u=hi*2^s+lo/2^(64-s):=⟨_,rfl⟩;obtain ⟨z,hz⟩:∃z,z=lo*2^s%18446744073709551616:=⟨_,rfl⟩;have hdiv:=an7 l1 aY hY hu hz;rw [<-hY] at l2 l3;have hp:=y7 s;obtain ⟨v1,eG⟩:∃v,v=Y/4294967296:=⟨_,rfl⟩;obtain ⟨v2,cI⟩:∃v,v=Y%4294967296:=⟨_,rfl⟩;have hYv:Y=v1*4294967296+v2:=by omega
  obtain ⟨z1,kQ⟩:∃v,v=z/4294967296:=⟨_,rfl⟩;obtain ⟨z0,lM⟩:∃v,v=z%4294967296:=⟨_,rfl⟩;have En:z<18446744073709551616:=by omega
  have hhY:hi*2^s<Y:=by rw [hY];exact xI fA hp
  have gV:lo/2^(64-s)<2^s:=by
   refine (xx (y7 _)).2 ?_;rw [<-xj,show s+(64-s)=64 by omega];exact aY
  have ni:hi*2^s|||lo/2^(64-s)=u:=by rw [PX gV,hu]
  have hN:hi*18446744073709551616+lo<y*18446744073709551616:=by
   have:=yT 18446744073709551616 (show hi+1<=y from fA)
   omega
  have Xz:u<Y:=by
   have h1:=xI hN hp;rw [hdiv,Nat.mul_right_comm,<-hY] at h1;omega
  obtain ⟨q1,fk⟩:∃q,q=(u*4294967296+z1)/Y:=⟨_,rfl⟩;obtain ⟨w,hw⟩:∃q,q=(u*4294967296+z1)%Y:=⟨_,rfl⟩;obtain ⟨q0,bq⟩:∃q,q=(w*4294967296+z0)/Y:=⟨_,rfl⟩;obtain ⟨x,hx⟩:∃q,q=(w*4294967296+z0)%Y:=⟨_,rfl⟩;have NP:w<Y:=by rw [hw];exact xv _ (by omega)
  have XA:x<Y:=by rw [hx];exact xv _ (by omega)
  have jy:=xM (u*4294967296+z1) Y;rw [<-fk,<-hw,xg] at jy;have fE:=xM (w*4294967296+z0) Y;rw [<-bq,<-hx,xg] at fE;have azt:=ZX Xz (show z1<4294967296 by omega) fk;have azu:=ZX NP (show z0<4294967296 by omega) bq;obtain ⟨td1,td2⟩:=amA azt azu;have MM:(hi*18446744073709551616+lo)*2^s=(q1*4294967296+q0)*Y+x:=by
   rw [hdiv];exact ap8 jy fE (by omega)
  have r1:(hi*18446744073709551616+lo)/y=q1*4294967296+q0:=by
   rw [<-yav _ _ hp,MM,<-hY,xg _ Y,Nat.mul_add_div (by omega),xL XA,yZ]
  have r2:x/2^s=(hi*18446744073709551616+lo)%y:=by
   have h1:x=(hi*18446744073709551616+lo)*2^s%(y*2^s):=by
    rw [MM,<-hY,xg _ Y,Nat.mul_add_mod,yG XA]
   rw [h1,tn,Nat.mul_div_cancel _ hp]
  have o1:=HY .u64 y (s:=s) (by omega);rw [<-hY,yG l3] at o1;have o2:=agC Y;rw [<-eG] at o2;have o3:=ais Y;rw [<-cI] at o3;have o4:=HY .u64 hi (s:=s) (by omega);rw [yG (show hi*2^s<18446744073709551616 by omega)] at o4;have o5:binOp .sub (.int .u64 64) (uc s)=some (uc (64-s)):=BW (a:=64) (by omega) (by omega);have o6:=HZ .u64 lo (s:=64-s) (by omega);have o7:=NN (a:=hi*2^s) (b:=lo/2^(64-s)) (by omega) (xJ (wN _ _) aY);rw [ni] at o7;have o8:=HY .u64 lo (s:=s) (by omega);rw [<-hz] at o8;have o9:=agC z;rw [<-kQ] at o9;have o10:=ais z;rw [<-lM] at o10;have DP:0<v1:=by omega
  have agD:∀{a:Nat},a<Y->binOp .quo (uc a) (uc v1)=some (uc (a/v1))/\binOp .mul (uc (a/v1)) (uc v1)=some (uc (a/v1*v1))/\binOp .sub (uc a) (uc (a/v1*v1))=some (uc (a%v1)):=fun {a} ha=>by
   have h1:=xM a v1;rw [xg] at h1;have h2:=oe (a/v1) v1;generalize a/v1*v1=m at*
   rw [yG (show m<18446744073709551616 by omega)] at h2;exact ⟨ait a (by omega) DP,h2,BW (by omega) (by omega)⟩
  obtain ⟨g1,g2,g3⟩:=agD Xz;obtain ⟨g4,g5,g6⟩:=agD NP;have first:∀{a b:Nat},b<4294967296->(a*4294967296+b)/Y<=a/v1:=fun {a b} hb=>by
   have:=Oh (b:=4294967296) (V:=Y) (v1:=v1) (v2:=v2) (vr:=0) (U:=a*4294967296+b) (u0:=0) (u1:=a) (u2:=b) (ur:=0) (p:=1) (by omega) (by omega) (by decide) hb DP
   simpa using this
  have back:∀{a b q x:Nat},a*4294967296+b=q*Y+x->x<Y->binOp .mul (uc a) (.int .u64 4294967296)=some (uc (a*4294967296%18446744073709551616))/\binOp .add (uc (a*4294967296%18446744073709551616)) (uc b)=some (uc ((a*4294967296%18446744073709551616+b)%18446744073709551616))/\
    binOp .mul (uc q) (uc Y)=some (uc (q*Y%18446744073709551616))/\binOp .sub (uc ((a*4294967296%18446744073709551616+b)%18446744073709551616)) (uc (q*Y%18446744073709551616))=some (uc x):=fun {a b q x} h1 h2=>by
   refine ⟨oe a 4294967296,zQ _ _,oe q Y,BW ?_ (by omega)⟩;generalize q*Y=m at*
   omega
  obtain ⟨k1,k2,k3,k4⟩:=back jy.symm NP;obtain ⟨k5,k6,k7,k8⟩:=back fE.symm XA;have m1:=oe q1 4294967296;rw [yG td1,show uc 4294967296=AV.int .u64 4294967296 from rfl] at m1;have m2:=zQ (q1*4294967296) q0;rw [yG td2] at m2;have m3:=HZ .u64 x (s:=s) (by omega);rw [r1,<-r2];unfold ai;rw [aG h];simp only [go_sem,ya,Hr,show ¬(y:Int)=0 by omega,show ¬(y:Int)<=(hi:Int) by omega,show ¬(hi:Int)=0 by omega,hl,ayg,yG (show s<18446744073709551616 by omega),o1,o2,o3,o4,o5,o6,o7,o8,o9,o10,g1,g2,g3];generalize lO:D P L (.loop [2,8,9,10,11,13,14,15,16] zB) _=qq
  obtain ⟨ex,st,rfl,tm,ct,rfl,rfl,t2,t8,t9,t10,t11,t13,t14,t15⟩:=cr lO (av6 (P:=P) (L:=L) (s:=s) (z:=z0) hYv (by omega) DP (by omega) Xz (show z1<4294967296 by omega) (u/v1)) ⟨u/v1,u%v1,by simp only [go_sem,ya,aC],by rw [xg];exact xM u v1,by have:=xv u DP;omega,first (by omega),rfl⟩
  rw [<-fk] at t15;simp only [go_sem,ya,aC,t2,t8,t9,t10,t11,t13,t14,t15,k1,k2,k3,k4,g4,g5,g6];generalize BX:D P L (.loop [2,8,9,10,14,15,16,17,18] zC) _=XB;obtain ⟨ex,st,rfl,pz,ct2,rfl,rfl,t2,t8,t9,t10,t14,t15,t17,t18⟩:=cr BX (av7 (P:=P) (L:=L) (s:=s) (z:=q1) hYv (by omega) DP (by omega) NP (show z0<4294967296 by omega) (w/v1)) ⟨w/v1,w%v1,by simp only [go_sem,ya,aC],by rw [xg];exact xM w v1,by have:=xv w DP;omega,first (by omega),rfl⟩
  rw [<-bq] at t18;simp only [go_sem,ya,aC,t2,t8,t14,t15,t17,t18,m1,m2,k5,k6,k7,k8,m3];rfl
end
mutual
def below (n:Nat):AV->Prop
 | .ptr id _=>id<n
 | .aD id _ _=>id<n
 | .map id=>id<n
 | .it id=>id<n
 | .fn (.f _) first cap=>pf n first/\pf n cap
 | .fn (.y l) first cap=>l<n/\first=[]/\cap=[]
 | .agg cs=>pf n cs
 | .aa cs=>pf n cs
 | _=>True
def pf (n:Nat):List AV->Prop
 | []=>True
 | v::r=>below n v/\pf n r
end
def pg (n:Nat):Env->Prop
 | []=>True
 | (_,v)::r=>below n v/\pg n r
def Br (n:Nat):Obj->Prop
 | .cells _ pu _ _ cs=>pu=true\/pf n cs
 | .mp _ ks vs=>pf n ks/\pf n vs
 | .si _ _=>True
 | .lp tm _ _ _ _ _=>pg n tm
def GO (b n:Nat):Hp->Prop
 | []=>True
 | (id,o)::r=>id<b/\Br n o/\GO b n r
mutual
def ZY {f:Nat->Option Nat} {n:Nat} (hf:∀x,x<n->f x=some x):∀{v:AV},below n v->bX f v=v
 | .int _ _,_ | .bool _,_ | .aw _ _,_ | .str _,_ | .kG,_ | .cg _,_ | .ae,_ | .aB _ _ _,_ | .ik,_ | .jt,_ | .iQ _ _,_ | .undef,_ | .bI _ _ _ _,_=>rfl
 | .ptr id o,h=>by simp only [bX,hf id h]
 | .aD id o k,h=>by simp only [bX,hf id h]
 | .map id,h=>by simp only [bX,hf id h]
 | .it id,h=>by simp only [bX,hf id h]
 | .fn (.y l) first cap,h=>by
  obtain ⟨h1,rfl,rfl⟩:=h;simp only [bX,hf l h1,fw]
 | .fn (.f _) first cap,h=>by
  simp only [bX,za hf h.1,za hf h.2]
 | .agg cs,h=>by simp only [below] at h;simp only [bX,za hf h]
 | .aa cs,h=>by simp only [below] at h;simp only [bX,za hf h]
def za {f:Nat->Option Nat} {n:Nat} (hf:∀x,x<n->f x=some x):∀{vs:List AV},pf n vs->fw f vs=vs
 | [],_=>rfl
 | v::r,h=>by simp only [fw,ZY hf h.1,za hf h.2]
end
def Ox {f:Nat->Option Nat} {n:Nat} (hf:∀x,x<n->f x=some x):∀{tm:Env},pg n tm->jO f tm=tm
 | [],_=>rfl
 | (_,v)::r,h=>by simp only [jO,ZY hf h.1,Ox hf h.2]
def amB {f:Nat->Option Nat} {n:Nat} (hf:∀x,x<n->f x=some x):∀{o:Obj},Br n o->kH f o=o
 | .cells _ pu _ _ cs,h=>by
  cases pu with
  | true=>rfl
  | false=>simp only [Br,yB,ybV] at h;simp only [kH,yX,za hf h]
 | .mp _ ks vs,h=>by simp only [kH,za hf h.1,za hf h.2]
 | .si _ _,_=>rfl
 | .lp tm _ _ _ _ _,h=>by simp only [Br] at h;simp only [kH,Ox hf h]
mutual
def Zd {n:Nat}:∀{v:AV},below n v->∀x,x∈refs v->x<n
 | .int _ _,_,x,h | .bool _,_,x,h | .aw _ _,_,x,h | .str _,_,x,h | .kG,_,x,h | .cg _,_,x,h | .ae,_,x,h | .aB _ _ _,_,x,h | .ik,_,x,h | .jt,_,x,h | .iQ _ _,_,x,h | .undef,_,x,h | .bI _ _ _ _,_,x,h=>by simp [refs] at h
 | .ptr id o,h,x,hx=>by simp only [refs,vB] at hx;subst hx;exact h
 | .aD id o k,h,x,hx=>by simp only [refs,vB] at hx;subst hx;exact h
 | .map id,h,x,hx=>by simp only [refs,vB] at hx;subst hx;exact h
 | .it id,h,x,hx=>by simp only [refs,vB] at hx;subst hx;exact h
 | .fn (.y l) first cap,h,x,hx=>by simp only [refs,vB] at hx;subst hx;exact h.1
 | .fn (.f _) first cap,h,x,hx=>by
  simp only [refs,wB] at hx;exact hx.elim (sY h.1 x) (sY h.2 x)
 | .agg cs,h,x,hx=>by simp only [below] at h;simp only [refs] at hx;exact sY h x hx
 | .aa cs,h,x,hx=>by simp only [below] at h;simp only [refs] at hx;exact sY h x hx
def sY {n:Nat}:∀{vs:List AV},pf n vs->∀x,x∈iN vs->x<n
 | [],_,x,h=>by simp [iN] at h
 | v::r,h,x,hx=>by
  simp only [iN,wB] at hx;exact hx.elim (Zd h.1 x) (sY h.2 x)
end
def Oi {n:Nat}:∀{tm:Env},pg n tm->∀x,x∈iO tm->x<n
 | [],_,x,h=>by simp [iO] at h
 | (_,v)::r,h,x,hx=>by
  simp only [iO,wB] at hx;exact hx.elim (Zd h.1 x) (Oi h.2 x)
def alR {n:Nat}:∀{o:Obj},Br n o->∀x,x∈nV o->x<n
 | .cells _ pu _ _ cs,h,x,hx=>by
  cases pu with
  | true=>simp [nV] at hx
  | false=>simp only [Br,yB,ybV] at h;exact sY h x hx
 | .mp _ ks vs,h,x,hx=>by
  simp only [nV,wB] at hx;exact hx.elim (sY h.1 x) (sY h.2 x)
 | .si _ _,_,x,hx=>by simp [nV] at hx
 | .lp tm _ _ _ _ _,h,x,hx=>by simp only [Br] at h;exact Oi h x hx
def jq (B:Nat):List (List AV)->Hp
 | []=>[]
 | cs::r=>(B+r.length,.cells true true true 1 cs)::jq B r
def BD (B:Nat):List (List AV)->Hp->Hp
 | [],acc=>acc
 | cs::r,acc=>BD (B+1) r ((B,.cells true true true 1 cs)::acc)
def Ze:∀(l:List (List AV)) (B:Nat) (x:List AV) (acc:Hp),BD B (l++[x]) acc=(B+l.length,.cells true true true 1 x)::BD B l acc
 | [],B,x,acc=>rfl
 | c::l,B,x,acc=>by
  simp only [xi,BD,Ze l,yM]
  grind
def ZZ (B:Nat) (acc:Hp):∀rs:List (List AV),BD B rs.reverse acc=jq B rs++acc
 | []=>rfl
 | c::r=>by
  simp only [yaP,Ze,ZZ B acc r,yaD,jq,xi]
def Z0 {B:Nat} {old:Hp}:∀{rs:List (List AV)} {i:Nat} (h:i<rs.length),aA (jq B rs++old) (B+i)=some (.cells true true true 1 (rs.reverse[i]'(by simpa using h)))
 | c::r,i,h=>by
  simp only [jq,xi,yaP];by_cases hi:i=r.length
  ·subst hi;rw [aA,wy,yz]
   simp
  ·have aF:i<r.length:=by grind
   rw [aA,gB (by omega),yX,Z0 aF]
   grind
def Bs {a b:Nat} (h:a<b):yI a b=true:=by simp_all
def GP {a b:Nat} (h:b<=a):yI a b=false:=by
 cases hq:yI a b with
 | false=>rfl
 | true=>have:=yo hq;omega
def Oa {B:Nat} {old:Hp}:∀rs:List (List AV),iI B (jq B rs++old)=iI B old
 | []=>rfl
 | c::r=>by
  simp only [jq,xi];rw [iI,GP (by omega),yX,Oa r]
def Zf {B:Nat} {old:Hp} {f:Nat->Option Nat}:∀rs:List (List AV),li B f (jq B rs++old)=li B f old
 | []=>rfl
 | c::r=>by
  simp only [jq,xi];rw [li,GP (by omega),yX,Zf r]
def YG {B n:Nat} {f:Nat->Option Nat} (hf:∀x,x<n->f x=some x):∀{old:Hp},GO B n old->li B f old=old
 | [],_=>rfl
 | (id,o)::r,h=>by
  rw [li,Bs h.1,yz,amB hf h.2.1,YG hf h.2.2]
def amC {B s x:Nat} (h:B+s<=x):kI x (wc B s)=false:=by
 induction s generalizing B with
 | zero=>rfl
 | succ s ih=>rw [vl,kI,gB (by omega),yX,ih (by omega)]
def Oy {hp:Hp} {B R:Nat} (DQ:∀i,i<R->∃rw ex sz cs,aA hp (B+i)=some (.cells rw true ex sz cs)):
  ∀(W:List Nat) (bl s:Nat),W.length<bl->s<=R->W.filter (fun x=> !yI x B)=wc (B+s) (R-s)->reach hp B bl W (wc B s)=wc B R
 | [],0,s,hf,_,_=>by simp at hf
 | [],bl+1,s,hf,hs,h=>by
  have:R-s=0:=by
   grind
  rw [reach,show R=s by omega]
 | id::W,0,s,hf,_,_=>by simp at hf
 | id::W,bl+1,s,hf,hs,h=>by
  have As:W.length<bl:=by simp_all
  rw [reach];by_cases hid:id<B
  ·rw [Bs hid,Bool.true_or,yz];rw [yaZ,Bs hid] at h;exact Oy DQ W bl s As hs (by simpa using h)
  ·rw [yaZ,GP (by omega)] at h;have hRs:R-s=(R-s-1)+1:=by
    have:=congrArg tN h
    grind
   rw [hRs,vl] at h;injection h with h1 h2
   subst h1;rw [GP (by omega),tc,amC (yA _),yX];obtain ⟨rw,ex,sz,cs,ho⟩:=DQ s (by omega);simp only [ho,nV,yz,xW];have e:wc B s++[B+s]=wc B (s+1):=by rw [List.range'_concat];simp
   rw [e];exact Oy DQ W bl (s+1) As (by omega) (by rw [h2,show R-s-1=R-(s+1) by omega,show B+s+1=B+(s+1) by omega])
def amD {B s i k:Nat} (h:i<s):lA (B+i) (wc B s) k=some (k+i):=by
 induction s generalizing B i k with
 | zero=>omega
 | succ s ih=>
  rw [vl,lA];by_cases hi:i=0
  ·simp_all
  ·rw [gB (by omega),yX]
   have:=ih (B:=B+1) (i:=i-1) (k:=k+1) (by omega)
   grind
def alS {B R x:Nat} (h:x<B+R):jG B (wc B R) x=some x:=by
 unfold jG;by_cases hx:x<B
 ·rw [Bs hx,yz]
 ·rw [GP (by omega),yX]
  have:=amD (B:=B) (s:=R) (i:=x-B) (k:=B) (by omega)
  grind
def Zg {hp:Hp} {f:Nat->Option Nat}:∀(ro:List (List AV)) (B:Nat) (acc:Hp),(∀i (h:i<ro.length),aA hp (B+i)=some (.cells true true true 1 ro[i]))->jH hp f (wc B ro.length) B acc=BD B ro acc
 | [],B,acc,_=>rfl
 | c::r,B,acc,h=>by
  have h0:=h 0 (by simp);simp only [yZ,List.getElem_cons_zero] at h0;rw [yM,vl,jH];simp only [h0,kH,yz,BD]
  exact Zg r (B+1) _ (fun i hi=>by
   have:=h (i+1) (by simpa using hi)
   rw [show B+1+i=B+(i+1) by omega,this]
   simp)
def aln {live:List Nat} {tm:Env} {B ct:Nat} {old:Hp} {rs:List (List AV)} (ht:pg B (dJ tm live)) (ho:GO B (B+rs.length) old) (hl:(iO (dJ tm live)).length+(iI B old).length<100000)
  (hr:(iI B old).filter (fun x=> !yI x B)=wc B rs.length):aP live ⟨tm,jq B rs++old,ct,B⟩=⟨dJ tm live,jq B rs++old,B+rs.length,B⟩:=by
 have DQ:∀i (h:i<rs.length),aA (jq B rs++old) (B+i)=some (.cells true true true 1 (rs.reverse[i]'(by simpa using h))):=fun i h=>Z0 h
 have afO:reach (jq B rs++old) B 100000 (iO (dJ tm live)++iI B (jq B rs++old)) []=wc B rs.length:=by
  have:=Oy (hp:=jq B rs++old) (B:=B) (R:=rs.length) (fun i hi=>⟨_,_,_,_,DQ i hi⟩) (iO (dJ tm live)++iI B (jq B rs++old)) 100000 0 (by rw [Oa,yY];exact hl) (uU _) (by
   rw [List.filter_append,Oa,hr,yal.2 (fun x hx=>by
    have:=Oi ht x hx
    simp [Bs this])]
   simp)
  grind
 have hid:∀x,x<B+rs.length->jG B (wc B rs.length) x=some x:=fun x hx=>alS hx
 have hn:=Zg (hp:=jq B rs++old) (f:=jG B (wc B rs.length)) rs.reverse B old (fun i hi=>DQ i (by simpa using hi));rw [yaD] at hn;simp only [aP,afO,Zf,YG hid ho,hn,ZZ,List.length_range']
 rw [Ox (n:=B) (fun x hx=>hid x (by omega)) ht]
def Zh {B b n:Nat} (hb:b<=B):∀{H:Hp},GO b n H->∀x,x∈iI B H->x<n
 | [],_,x,hx=>by simp [iI] at hx
 | (id,o)::r,h,x,hx=>by
  rw [iI,Bs (by have:=h.1;omega),yz,wB] at hx;exact hx.elim (alR h.2.1 x) (Zh hb h.2.2 x)
def YH {live:List Nat} {tm:Env} {B ct:Nat} {old:Hp} (ht:pg B (dJ tm live)) (ho:GO B B old) (hl:(iO (dJ tm live)).length+(iI B old).length<100000):
  aP live ⟨tm,old,ct,B⟩=⟨dJ tm live,old,B,B⟩:=by
 have:=aln (rs:=[]) (ct:=ct) ht (by simpa using ho) hl (by
  rw [yal.2 (fun x hx=>by have:=Zh (yA B) ho x hx;simp [Bs this])]
  rfl)
 simpa [jq] using this
section
variable {P:aM} {L:Lib}
def aei {n:Nat} {F:aE} (h:Has P L n F) {hp:Hp} {ct:Nat} {ao:List AV} {ex:Ex} {s:St} {v:AV} (hD:D P L F.body ⟨dQ 0 ao,hp,ct,ct⟩=some (ex,s)) (he:ex= .normal\/ex= .ret) (hr:hZ s F.dj=some v):
  ia P L (D P L) hp ct n ao=some (v,s.hp,s.ct):=by
 simp only [ia,h.heap,h.code,hD]
 grind
mutual
def oU {n:Nat}:∀{v:AV},bk v=true->below n v
 | .int _ _,_ | .bool _,_ | .aw _ _,_ | .str _,_ | .kG,_ | .cg _,_ | .ae,_ | .aB _ _ _,_ | .ik,_ | .jt,_ | .iQ _ _,_ | .undef,_=>trivial
 | .bI _ _ _ _,_=>trivial
 | .ptr _ _,h | .aD _ _ _,h | .map _,h | .it _,h=>by simp [bk] at h
 | .fn (.y _) _ _,h=>by simp [bk] at h
 | .fn (.f _) _ _,h=>by
  simp only [bk,yf] at h;exact ⟨FC h.1,FC h.2⟩
 | .agg cs,h=>by simp only [bk] at h;simp only [below];exact FC h
 | .aa cs,h=>by simp only [bk] at h;simp only [below];exact FC h
def FC {n:Nat}:∀{vs:List AV},aH vs=true->pf n vs
 | [],_=>trivial
 | _::_,h=>by
  simp only [aH,yf] at h;exact ⟨oU h.1,FC h.2⟩
end
end
section
variable {pre x post:List Nat} {i:Nat}
def nQ:(pre++x++post).length=pre.length+x.length+post.length:=by grind
def A9 (h:i<x.length):(pre++x++post).getD (pre.length+i) 0=x.getD i 0:=by grind
def Km (a:Nat) (h:i<x.length):(pre++x++post).set (pre.length+i) a=pre++x.set i a++post:=by simp_all
end
def lh (n:Nat) (k:xc) (a:Int):below n (.int k a)=True:=rfl
def lX (n id o k:Nat):below n (.aD id o k)=(id<n):=rfl
def kY (n:Nat):pg n []=True:=rfl
def kV (n i:Nat) (v:AV) (r:Env):pg n ((i,v)::r)=(below n v/\pg n r):=rfl
def oY {live:List Nat} {tm:Env} {ct:Nat} {a b:List AV} (ht:pg 2 (dJ tm live)) (hl:(iO (dJ tm live)).length<100000):
  aP live ⟨tm,[(1,.cells true true true 1 a),(0,.cells true true true 1 b)],ct,2⟩=⟨dJ tm live,[(1,.cells true true true 1 a),(0,.cells true true true 1 b)],2,2⟩:=
 YH ht ⟨by omega,.inl rfl,by omega,.inl rfl,trivial⟩ (by
  have:iI 2 [(1,Obj.cells true true true 1 a),(0,Obj.cells true true true 1 b)]=[]:=rfl
  rw [this,yV,yZ];exact hl)
section
variable {P:aM} {L:Lib}
def amE {x s c:Nat} (hs:s<64) (hx:x<18446744073709551616) (hc:c<2^s):
  c|||(x*2^s%18446744073709551616)<18446744073709551616/\c<18446744073709551616/\x/2^(64-s)<2^s/\(c|||(x*2^s%18446744073709551616))+18446744073709551616*(x/2^(64-s))=x*2^s+c:=by
 have e:18446744073709551616=2^(64-s)*2^s:=by rw [<-xj,show 64-s+s=64 by omega]
 have h1:x*2^s%18446744073709551616=(x%2^(64-s))*2^s:=by rw [e,tn]
 have h2:x/2^(64-s)<2^s:=by
  refine (xx (y7 _)).2 ?_
  grind
 have h3:c|||(x*2^s%18446744073709551616)=(x%2^(64-s))*2^s+c:=by rw [h1,ycl,PX hc]
 have h4:(x%2^(64-s))*2^s+c<18446744073709551616:=by
  have:=yT (2^s) (show x%2^(64-s)+1<=2^(64-s) from xv _ (y7 _))
  grind
 have h5:=vI x (2^(64-s))
 grind
def av8 {v:AV} {w:List Nat} (hv:bO v w) (hw:lo 18446744073709551616 w) (lw:w.length<=99999999999) {s n:Nat} (hs:s<64) (hn:n=w.length+1):
  ∀k st,(∃(i:Nat) (out:List Nat),aP [1,5,12,13,14] st=⟨[(1,ab s),(5,.aD 0 0 n),(12,v),(13,ab w.length),(14,ab i)],[(0,.cells true true true 1 (out.map uc))],1,0⟩/\i+k=w.length/\out.length=n/\lo 18446744073709551616 out/\bv 18446744073709551616 out=bv 18446744073709551616 (w.take i)*2^s/\out.getD i 0<2^s/\(∀m,i<m->out.getD m 0=0))->
   ∃ex st',D P L (.loop [1,5,12,13,14] CX) st=some (ex,st')/\∃tm out,st'=⟨tm,[(0,.cells true true true 1 (out.map uc))],1,0⟩/\ex= .exit 0/\aj tm 5= .aD 0 0 n/\out.length=n/\lo 18446744073709551616 out/\bv 18446744073709551616 out=bv 18446744073709551616 w*2^s:=by
 intro dq sq;generalize bq:aP [1,5,12,13,14] sq=s0;revert bq s0 sq dq;apply dt;rintro k st ⟨i,out,rfl,hk,hlen,aY,aI,hc,fA⟩;by_cases hi:i<w.length
 ·left
  have gx:=gi (show 0<18446744073709551616 by decide) hw i;have ex:=hv.cB hi;have ec:=rV (l:=out) (o:=i) (by omega);have bi:=mJ (b:=18446744073709551616) (l:=out) (i:=i) (x:=out.getD i 0|||(w.getD i 0*2^s%18446744073709551616)) (by omega);have hz:out.getD (i+1) 0=0:=fA _ (by omega);have ep:=iK (b:=18446744073709551616) (l:=w) i;generalize out.getD i 0=c at*
  generalize w.getD i 0=x at*
  obtain ⟨s1,s2,s3,s4⟩:=amE hs gx hc;have o1:=HY .i64 x (s:=s) (by omega);have o2:=NN s2 (xv (x*2^s) (by decide));have o3:binOp .sub (.int .i64 64) (ab s)=some (ab (64-s:Nat)):=by
   rw [Kj,wrap64 (by omega) (by omega)];congr 2;omega
  have o4:=HZ .i64 x (s:=64-s) (by omega);generalize mr:c|||(x*2^s%18446744073709551616)=c' at*
  by_cases h0:0<s
  ·have K5:=mJ (b:=18446744073709551616) (l:=out.set i c') (i:=i+1) (x:=x/2^(64-s)) (by simp;omega);rw [nP (by omega),hz,xp,yZ] at K5;have azv:x/2^(64-s)<18446744073709551616:=xJ (wN _ _) gx;generalize x/2^(64-s)=y at*
   simp only [go_sem,ya,ym,CX,show (i:Int)<w.length by omega,ex,cS 0 0 (show i<n by omega),yh,ec,o1,o2,jD (l:=out) (o:=i) (by omega),show (0:Int)<(s:Int) by omega,show (i:Int)+1=((i+1:Nat):Int) from rfl,wrapN (n:=i+1) (by omega),o3,o4,cS 0 0 (show i+1<n by omega),jD (l:=out.set i c') (o:=i+1) (by simp;omega)];refine ⟨_,k-1,rfl,by omega,i+1,(out.set i c').set (i+1) y,by simp only [go_sem,ya,yd,aC,aR hv.pu,bc _ hv.pu]<;>rfl,by omega,by simp [hlen],lf (lf aY s1) azv,?_,by rw [amg (by simp;omega)];exact s3,fun m hm=>by rw [nP (by omega),nP (by omega)];exact fA m (by omega)⟩
   rw [ep,xU,K5,<-aI,yU,xb,xb (18446744073709551616^i)];have e:=congrArg (fun t=>18446744073709551616^i*t) s4;simp only [xr] at e;generalize 18446744073709551616^i*(18446744073709551616*y)=p1 at*
   generalize 18446744073709551616^i*(x*2^s)=p2 at*
   generalize 18446744073709551616^i*c'=p3 at*
   omega
  ·have sE:s=0:=by omega
   subst sE;have jV:c=0:=by simpa using hc
   have sP:x/2^(64-0)=0:=xL gx;rw [sP,xp,yZ,vL,ym] at s4
   simp only [go_sem,ya,ym,CX,show (i:Int)<w.length by omega,ex,cS 0 0 (show i<n by omega),yh,ec,o1,o2,jD (l:=out) (o:=i) (by omega),show ¬(0:Int)<((0:Nat):Int) by omega,show (i:Int)+1=((i+1:Nat):Int) from rfl,wrapN (n:=i+1) (by omega)];refine ⟨_,k-1,rfl,by omega,i+1,out.set i c',by simp only [go_sem,ya,yd,aC,aR hv.pu,bc _ hv.pu]<;>rfl,by omega,by simp [hlen],lf aY s1,?_,by rw [nP (by omega),hz];exact y7 _,fun m hm=>by rw [nP (by omega)];exact fA m (by omega)⟩
   rw [vL,ym] at aI ⊢;rw [ep,<-aI];rw [jV,xp,yZ] at bi;rw [bi,s4,jV,yZ]
 ·right
  have:i=w.length:=by omega
  subst this;rw [xG] at aI;simp only [go_sem,ya,CX,show ¬(w.length:Int)<w.length by omega];exact ⟨_,_,rfl,by simp,_,out,rfl,rfl,by simp only [go_sem,ya],hlen,aY,aI⟩
def aiv (h:Has P L 168 Lz) {v:AV} {w:List Nat} (hv:bO v w) (hw:lo 18446744073709551616 w) (lw:w.length<=99999999999) {s:Nat} (hs:s<64):
  ∃out,ai P L 168 [v,ab s] (.bI true 1 (w.length+1) (out.map uc))/\out.length=w.length+1/\lo 18446744073709551616 out/\bv 18446744073709551616 out=bv 18446744073709551616 w*2^s:=by
 obtain ⟨n,hn⟩:∃n,n=w.length+1:=⟨_,rfl⟩;unfold ai;rw [aG h]
 simp only [go_sem,ya,yd,Lz,hv.len,wrapN (n:=n) (by omega),show (w.length:Int)+1=((w.length+1:Nat):Int) from rfl,<-hn,BV (n:=n) _ (by omega)];generalize hq:D P L (.loop [1,5,12,13,14] CX) _=q;obtain ⟨ex,st,rfl,tm,o,rfl,rfl,t5,hlen,aY,aI⟩:=cr hq (av8 (P:=P) (L:=L) hv hw lw hs hn w.length)
  ⟨0,yK n 0,by simp only [go_sem,ya,yd,aC,aR hv.pu,bc _ hv.pu]<;>rfl,by omega,by simp,C3 (by decide) n,by rw [C4];simp [bv],by rw [A8];exact y7 _,fun m _=>A8 n m⟩
 refine ⟨o,?_,hlen,aY,aI⟩;simp only [go_sem,yd,aC,t5];exact Za (Pc _ _ _) (by simp [hlen]) (by decide)
end
abbrev H2 (a b:List Nat):Hp:=[(1,.cells true true true 1 (a.map uc)),(0,.cells true true true 1 (b.map uc))]
structure gm (x vs:List Nat) (n v1 v2 u0 u1 u2:Nat):Prop where
 n2:2<=n
 nb:n<=99999999999
 lx:x.length=n+1
 lv:vs.length=n
 gx:lo 18446744073709551616 x
 gv:lo 18446744073709551616 vs
 eG:vs.getD (n-1) 0=v1
 cI:vs.getD (n-2) 0=v2
 h0:x.getD n 0=u0
 h1:x.getD (n-1) 0=u1
 h2:x.getD (n-2) 0=u2
 pos:0<v1
 lt:bv 18446744073709551616 x<18446744073709551616*bv 18446744073709551616 vs
def ayh (b p a v1 v2:Nat):a+p*v2+p*b*v1=(v1*b+v2)*p+a:=by grind
def ayi (b p a v0 v1 v2:Nat):a+p*v2+p*b*v1+p*b*b*v0=((v0*b+v1)*b+v2)*p+a:=by grind
section
variable {x vs:List Nat} {n v1 v2 u0 u1 u2:Nat}
def gm.IU (h:gm x vs n v1 v2 u0 u1 u2):v1<18446744073709551616:=h.eG▸gi (by decide) h.gv _
def gm.Cp (h:gm x vs n v1 v2 u0 u1 u2):v2<18446744073709551616:=h.cI▸gi (by decide) h.gv _
def gm.IV (h:gm x vs n v1 v2 u0 u1 u2):u1<18446744073709551616:=h.h1▸gi (by decide) h.gx _
def gm.IW (h:gm x vs n v1 v2 u0 u1 u2):u2<18446744073709551616:=h.h2▸gi (by decide) h.gx _
def gm.parts (h:gm x vs n v1 v2 u0 u1 u2):∃p vr ur,bv 18446744073709551616 vs=(v1*18446744073709551616+v2)*p+vr/\vr<p/\bv 18446744073709551616 x=((u0*18446744073709551616+u1)*18446744073709551616+u2)*p+ur/\ur<p:=by
 obtain ⟨m,hm⟩:∃m,n=m+2:=⟨n-2,by have:=h.n2;omega⟩;subst hm;have e1:=iK (b:=18446744073709551616) (l:=vs) (m+1);have e2:=iK (b:=18446744073709551616) (l:=vs) m;have f0:=iK (b:=18446744073709551616) (l:=x) (m+2);have f1:=iK (b:=18446744073709551616) (l:=x) (m+1);have f2:=iK (b:=18446744073709551616) (l:=x) m;have eG:vs.getD (m+1) 0=v1:=h.eG;have cI:vs.getD m 0=v2:=h.cI;have h0:x.getD (m+2) 0=u0:=h.h0;have h1:x.getD (m+1) 0=u1:=h.h1;have h2:x.getD m 0=u2:=h.h2
 rw [yQ (by have:=h.lv;omega),eG,e2,cI] at e1
 rw [yQ (by have:=h.lx;omega),h0,f1,h1,f2,h2] at f0;have g1:=lk (zt h.gv m)
 rw [yW,xA (by have:=h.lv;omega)] at g1;have g2:=lk (zt h.gx m)
 rw [yW,xA (by have:=h.lx;omega)] at g2;refine ⟨18446744073709551616^m,_,_,?_,g1,?_,g2⟩
 ·grind
 ·grind
def gm.down (h:gm x vs n v1 v2 u0 u1 u2) {t r:Nat} (ht:t*v1+r=u0*18446744073709551616+u1) (hr:r*18446744073709551616+u2<t*v2):bv 18446744073709551616 x/bv 18446744073709551616 vs<=t-1:=by
 obtain ⟨p,vr,ur,h1,h2,h3,h4⟩:=h.parts;exact Y7 h1 h3 h4 ht hr
def gm.stop (h:gm x vs n v1 v2 u0 u1 u2) {t r:Nat} (jC:t<18446744073709551616) (ht:t*v1+r=u0*18446744073709551616+u1) (hr:18446744073709551616<=r\/t*v2<=r*18446744073709551616+u2):t<=bv 18446744073709551616 x/bv 18446744073709551616 vs+1:=by
 obtain ⟨p,vr,ur,h1,h2,h3,h4⟩:=h.parts;exact ZT (by decide) h1 h2 h3 h.pos h.Cp jC ht hr
def gm.first (h:gm x vs n v1 v2 u0 u1 u2):bv 18446744073709551616 x/bv 18446744073709551616 vs<=(u0*18446744073709551616+u1)/v1:=by
 obtain ⟨p,vr,ur,h1,h2,h3,h4⟩:=h.parts;exact Oh h1 h3 h4 h.IW h.pos
def gm.top (h:gm x vs n v1 v2 u0 u1 u2):u0<=v1:=by
 obtain ⟨p,vr,ur,h1,h2,h3,h4⟩:=h.parts;exact ZU h1 h3 h2 h.Cp h.lt
def gm.digit (h:gm x vs n v1 v2 u0 u1 u2):bv 18446744073709551616 x/bv 18446744073709551616 vs<18446744073709551616:=by
 refine (xx ?_).2 h.lt;rcases xh (bv 18446744073709551616 vs) with h0 | h0
 ·have:=h.lt;rw [h0] at this;simp at this
 ·exact h0
end
section
variable {P:aM} {L:Lib}
def afr (lH:L.pure 143=some p6) (fS:L.pure 171=some mH) {w:AV} {x vs pre post qs:List Nat} (hw:bO w vs) {n v1 v2 u0 u1 u2:Nat} (hl:gm x vs n v1 v2 u0 u1 u2):
  ∀k s,(∃q r:Nat,aP [0,1,5,6,7,8] s=⟨[(0,.aD 0 pre.length (n+1)),(1,w),(5,ab n),(6,uc q),(7,uc (r%18446744073709551616)),(8,uc (r/18446744073709551616))],H2 qs (pre++x++post),2,2⟩/\q*v1+r=u0*18446744073709551616+u1/\r<2*18446744073709551616/\q<18446744073709551616/\bv 18446744073709551616 x/bv 18446744073709551616 vs<=q/\q=k)->
   ∃ex s',D P L (.loop [0,1,5,6,7,8] rO) s=some (ex,s')/\∃tm q,s'=⟨tm,H2 qs (pre++x++post),2,2⟩/\ex= .exit 0/\aj tm 0= .aD 0 pre.length (n+1)/\aj tm 1=w/\aj tm 5=ab n/\aj tm 6=uc q/\q<18446744073709551616/\bv 18446744073709551616 x/bv 18446744073709551616 vs<=q/\q<=bv 18446744073709551616 x/bv 18446744073709551616 vs+1:=by
 intro dq sq;generalize bq:aP [0,1,5,6,7,8] sq=s0;revert bq s0 sq dq;apply dt;rintro k s ⟨q,r,rfl,hq,hr,nv,hQ,rfl⟩;have cX:=hl.n2;have oG:=hl.nb;by_cases nl:r<18446744073709551616
 ·have Eo:r%18446744073709551616=r:=yG nl;have AB:r/18446744073709551616=0:=xL nl;rw [Eo,AB];have DR:=hl.IU;have VZ:=hl.Cp;have aiw:=hl.IW;have oL:=hw.cB (i:=n-2) (by have:=hl.lv;omega);have eH:=hw.cB (i:=n-1) (by have:=hl.lv;omega);rw [hl.cI] at oL;rw [hl.eG] at eH;have rh:=rV (l:=pre++x++post) (o:=pre.length+(n-2)) (by rw [nQ];have:=hl.lx;omega)
  rw [A9 (by have:=hl.lx;omega),hl.h2] at rh;have f1:=KD (P:=P) (f:=D P L) lH nv VZ;have f2:=Bq (P:=P) (f:=D P L) fS (x:=r) (y:=v1) (c:=0) nl DR (by omega);rw [show (uc 0)=AV.int .u64 0 from rfl] at f2;have eB:=xM (q*v2) 18446744073709551616;have aY:=xv (q*v2) (show 0<18446744073709551616 by decide);obtain ⟨H,hH⟩:∃H,H=q*v2/18446744073709551616:=⟨_,rfl⟩;obtain ⟨G,hG⟩:∃G,G=q*v2%18446744073709551616:=⟨_,rfl⟩;rw [<-hH,<-hG] at f1 eB;rw [<-hG] at aY;have sQ:(n:Int)-2=((n-2:Nat):Int):=by omega
  have oM:(n:Int)-1=((n-1:Nat):Int):=by omega
  by_cases c1:H<r
  ·right
   simp only [go_sem,ya,rO,H2,show ((0:Nat):Int)=0 from rfl,sQ,wrapN (n:=n-2) (by omega),oL,f1,show (H:Int)<(r:Int) by omega];exact ⟨_,_,rfl,by simp,_,q,rfl,rfl,by simp only [go_sem,ya],by simp only [go_sem,ya],by simp only [go_sem,ya],by simp only [go_sem,ya],nv,hQ,hl.stop nv hq (.inr (by omega))⟩
  ·by_cases c2:H=r/\G<=u2
   ·right
    obtain ⟨c2,c3⟩:=c2
    simp only [go_sem,ya,rO,H2,show ((0:Nat):Int)=0 from rfl,sQ,wrapN (n:=n-2) (by omega),oL,f1,show (H:Int)=(r:Int) by omega];simp only [show ¬(r:Int)<(r:Int) by omega,yv]
    simp only [go_sem,ya,ym,sQ,wrapN (n:=n-2) (by omega),cS 0 pre.length (show n-2<n+1 by omega),rh,show (G:Int)<=(u2:Int) by omega];exact ⟨_,_,rfl,by simp,_,q,rfl,rfl,by simp only [go_sem,ya],by simp only [go_sem,ya],by simp only [go_sem,ya],by simp only [go_sem,ya],nv,hQ,hl.stop nv hq (.inr (by omega))⟩
   ·left
    have Eb:r*18446744073709551616+u2<q*v2:=by omega
    have bq:0<q:=by
     rcases xh q with h0 | h0
     ·subst h0;omega
     ·exact h0
    have e3:binOp .sub (uc q) (.int .u64 1)=some (uc (q-1)):=BW (b:=1) (by omega) (by omega);have h1:(q-1)*v1+(r+v1)=u0*18446744073709551616+u1:=by
     obtain ⟨p,rfl⟩:∃p,q=p+1:=⟨q-1,by omega⟩;rw [xU,ybE] at hq;rw [uh];omega
    have Cq:=hl.down hq Eb;rw [yZ] at f2;by_cases c3:H=r
    ·have c4:¬G<=u2:=fun h=>c2 ⟨c3,h⟩
     subst c3
     simp only [go_sem,ya,xQ,ym,rO,H2,show ((0:Nat):Int)=0 from rfl,sQ,oM,wrapN (n:=n-2) (by omega),wrapN (n:=n-1) (by omega),oL,eH,f1,f2,show ¬(H:Int)<(H:Int) by omega,cS 0 pre.length (show n-2<n+1 by omega),rh,show ¬(G:Int)<=(u2:Int) by omega,e3];refine ⟨_,q-1,rfl,by omega,q-1,H+v1,?_,h1,by omega,by omega,Cq,rfl⟩;rw [oY (by simp only [go_sem,ya,yO,lh,lX,kY,kV,oU hw.pu,wP]) (by simp only [go_sem,ya,yd,yO,aR hw.pu])];simp only [go_sem,ya]
    ·simp only [go_sem,ya,xQ,rO,H2,show ((0:Nat):Int)=0 from rfl,sQ,oM,wrapN (n:=n-2) (by omega),wrapN (n:=n-1) (by omega),oL,eH,f1,f2,show ¬(H:Int)<(r:Int) by omega,show ¬(H:Int)=(r:Int) by omega,e3];refine ⟨_,q-1,rfl,by omega,q-1,r+v1,?_,h1,by omega,by omega,Cq,rfl⟩;rw [oY (by simp only [go_sem,ya,yO,lh,lX,kY,kV,oU hw.pu,wP]) (by simp only [go_sem,ya,yd,yO,aR hw.pu])];simp only [go_sem,ya]
 ·right
  have AB:r/18446744073709551616=1:=by omega
  rw [AB];simp only [go_sem,ya,rO,H2,show ((1:Nat):Int)=1 from rfl,Int.reduceEq];exact ⟨_,_,rfl,by simp,_,q,rfl,rfl,by simp only [go_sem,ya],by simp only [go_sem,ya],by simp only [go_sem,ya],by simp only [go_sem,ya],nv,hQ,hl.stop nv hq (.inl (by omega))⟩
end
def an8 {b p x y z mv c bo sR ca q v X Y:Nat} (h1:q*v+c=b*ca+mv) (h2:z+mv+bo=x+b*sR) (h3:Y+q*X=y+p*(c+bo)) (W:Nat) (hW:W+p*x=Y+p*z):
  W+q*(X+p*v)=y+p*b*(ca+sR):=by grind
def an9 {q v c:Nat} (hq:q<18446744073709551616) (hv:v<18446744073709551616) (hc:c<18446744073709551616):
  q*v+c=18446744073709551616*(q*v/18446744073709551616+(q*v%18446744073709551616+c+0)/18446744073709551616)+(q*v%18446744073709551616+c+0)%18446744073709551616/\
  q*v/18446744073709551616+(q*v%18446744073709551616+c+0)/18446744073709551616<18446744073709551616:=by
 have h:=xZ (show q<=18446744073709551615 by omega) (show v<=18446744073709551615 by omega)
 grind
section
variable {P:aM} {L:Lib}
def av9 (lH:L.pure 143=some p6) (fS:L.pure 171=some mH) (qG:L.pure 173=some zA) {w:AV} {x vs pre post qs:List Nat} (hw:bO w vs) {n:Nat} (oG:n<=99999999999) (lv:vs.length=n) (gv:lo 18446744073709551616 vs) {q:Nat} (hq:q<18446744073709551616):
  ∀k s,(∃(i c bo:Nat) (y:List Nat),aP [0,1,5,6,11,12,104,105] s=⟨[(0,.aD 0 pre.length (n+1)),(1,w),(5,ab n),(6,uc q),(11,uc bo),(12,uc c),(104,ab n),(105,ab i)],H2 qs (pre++y++post),2,2⟩/\i+k=n/\y.length=n+1/\lo 18446744073709551616 y/\c<18446744073709551616/\bo<=1/\
    bv 18446744073709551616 y+q*bv 18446744073709551616 (vs.take i)=bv 18446744073709551616 x+18446744073709551616^i*(c+bo))->
   ∃ex s',D P L (.loop [0,1,5,6,11,12,104,105] Gs) s=some (ex,s')/\∃tm c bo y,s'=⟨tm,H2 qs (pre++y++post),2,2⟩/\ex= .exit 2/\aj tm 0= .aD 0 pre.length (n+1)/\aj tm 1=w/\aj tm 5=ab n/\aj tm 6=uc q/\aj tm 11=uc bo/\aj tm 12=uc c/\y.length=n+1/\lo 18446744073709551616 y/\c<18446744073709551616/\bo<=1/\
    bv 18446744073709551616 y+q*bv 18446744073709551616 vs=bv 18446744073709551616 x+18446744073709551616^n*(c+bo):=by
 intro dq sq;generalize bq:aP [0,1,5,6,11,12,104,105] sq=s0;revert bq s0 sq dq;apply dt;rintro k s ⟨i,c,bo,y,rfl,hk,ly,gy,hc,iD,aI⟩;by_cases hi:i<n
 ·left
  have de:(0:Nat)<18446744073709551616:=by decide
  have pM:=gi de gv i;have oN:=gi de gy i;have ev:=hw.cB (i:=i) (by omega);have ey:=rV (l:=pre++y++post) (o:=pre.length+i) (by rw [nQ];omega);rw [A9 (by omega)] at ey;have ep:=iK (b:=18446744073709551616) (l:=vs) i;obtain ⟨a,ha⟩:∃a,a=vs.getD i 0:=⟨_,rfl⟩;obtain ⟨d,hd⟩:∃d,d=y.getD i 0:=⟨_,rfl⟩;rw [<-ha] at pM ev ep;rw [<-hd] at oN ey;obtain ⟨m1,m2⟩:=an9 hq pM hc;have f1:=KD (P:=P) (f:=D P L) lH hq pM;have f2:=Bq (P:=P) (f:=D P L) fS (x:=q*a%18446744073709551616) (y:=c) (c:=0) (xv _ de) hc (by omega);obtain ⟨mv,aix⟩:∃t,t=(q*a%18446744073709551616+c+0)%18446744073709551616:=⟨_,rfl⟩;obtain ⟨c1,dU⟩:∃t,t=(q*a%18446744073709551616+c+0)/18446744073709551616:=⟨_,rfl⟩;have aiy:mv<18446744073709551616:=by rw [aix];exact xv _ de
  rw [<-aix,<-dU] at f2 m1;rw [<-dU] at m2;obtain ⟨h1,gn⟩:∃t,t=q*a/18446744073709551616:=⟨_,rfl⟩;rw [<-gn] at f1 m1 m2;rw [show (uc 0)=AV.int .u64 0 from rfl] at f2;have f3:=PW (P:=P) (f:=D P L) qG oN aiy iD;have jZ:=Pe oN aiy iD;obtain ⟨z,hz⟩:∃t,t=(d+18446744073709551616*2-mv-bo)%18446744073709551616:=⟨_,rfl⟩;obtain ⟨b',bJ⟩:∃t,t=(if mv+bo<=d then 0 else 1):=⟨_,rfl⟩;have jU:b'<=1:=by rw [bJ];split<;>omega
  have En:z<18446744073709551616:=by rw [hz];exact xv _ de
  rw [<-hz,<-bJ] at f3 jZ;have f4:binOp .add (uc h1) (uc c1)=some (uc (h1+c1)):=by
   rw [zQ,yG m2]
  have bi:=mJ (b:=18446744073709551616) (l:=y) (i:=i) (x:=z) (by omega);rw [<-hd] at bi;have aT:=fun (hp:Hp) (ct:Nat)=>jD (hp:=hp) (ct:=ct) (id:=0) (v:=z) (ex:=true) (l:=pre++y++post) (o:=pre.length+i) (by rw [nQ];omega)
  have mT:=Km (pre:=pre) (x:=y) (post:=post) (i:=i) z (by omega);simp only [go_sem,ya,ym,Gs,H2,show (i:Int)<(n:Int) by omega,ev,f1,f2,f4,cS 0 pre.length (show i<n+1 by omega),ey,f3,aT,mT];refine ⟨_,k-1,rfl,by omega,i+1,h1+c1,b',y.set i z,?_,by omega,by simp [ly],lf gy En,m2,jU,?_⟩
  ·rw [oY (by simp only [go_sem,ya,yO,lh,lX,kY,kV,oU hw.pu,wP]) (by simp only [go_sem,ya,yd,yO,aR hw.pu])];rw [wrap64 (by omega) (by omega)];simp only [go_sem,ya]<;>rfl
  ·rw [ep,yU];exact an8 m1 jZ aI _ bi
 ·right
  have:i=n:=by omega
  subst this;rw [yQ (by omega)] at aI;simp only [go_sem,ya,Gs,H2,show ¬(i:Int)<(i:Int) by omega];exact ⟨_,_,rfl,by simp,_,c,bo,y,rfl,rfl,by simp only [go_sem,ya],by simp only [go_sem,ya],by simp only [go_sem,ya],by simp only [go_sem,ya],by simp only [go_sem,ya],by simp only [go_sem,ya],ly,gy,hc,iD,aI⟩
def awa (fS:L.pure 171=some mH) {w:AV} {y0 vs pre post qs:List Nat} (hw:bO w vs) {n:Nat} (oG:n<=99999999999) (lv:vs.length=n) (gv:lo 18446744073709551616 vs) {q:Nat}:
  ∀k s,(∃(i c:Nat) (y:List Nat),aP [0,1,5,6,17,156,157] s=⟨[(0,.aD 0 pre.length (n+1)),(1,w),(5,ab n),(6,uc q),(17,uc c),(156,ab n),(157,ab i)],H2 qs (pre++y++post),2,2⟩/\i+k=n/\y.length=n+1/\lo 18446744073709551616 y/\c<=1/\
    bv 18446744073709551616 y+18446744073709551616^i*c=bv 18446744073709551616 y0+bv 18446744073709551616 (vs.take i))->
   ∃ex s',D P L (.loop [0,1,5,6,17,156,157] Gt) s=some (ex,s')/\∃tm c y,s'=⟨tm,H2 qs (pre++y++post),2,2⟩/\ex= .exit 4/\aj tm 0= .aD 0 pre.length (n+1)/\aj tm 5=ab n/\aj tm 6=uc q/\aj tm 17=uc c/\y.length=n+1/\lo 18446744073709551616 y/\c<=1/\
    bv 18446744073709551616 y+18446744073709551616^n*c=bv 18446744073709551616 y0+bv 18446744073709551616 vs:=by
 intro dq sq;generalize bq:aP [0,1,5,6,17,156,157] sq=s0;revert bq s0 sq dq;apply dt;rintro k s ⟨i,c,y,rfl,hk,ly,gy,hc,aI⟩;by_cases hi:i<n
 ·left
  have de:(0:Nat)<18446744073709551616:=by decide
  have pM:=gi de gv i;have oN:=gi de gy i;have ev:=hw.cB (i:=i) (by omega);have ey:=rV (l:=pre++y++post) (o:=pre.length+i) (by rw [nQ];omega);rw [A9 (by omega)] at ey;have ep:=iK (b:=18446744073709551616) (l:=vs) i;obtain ⟨a,ha⟩:∃a,a=vs.getD i 0:=⟨_,rfl⟩;obtain ⟨d,hd⟩:∃d,d=y.getD i 0:=⟨_,rfl⟩;rw [<-ha] at pM ev ep;rw [<-hd] at oN ey;have f1:=Bq (P:=P) (f:=D P L) fS oN pM hc;have bi:=mJ (b:=18446744073709551616) (l:=y) (i:=i) (x:=(d+a+c)%18446744073709551616) (by omega);rw [<-hd] at bi;have iC:=JB (18446744073709551616^i) 18446744073709551616 (d+a+c);have mr:(d+a+c)/18446744073709551616<=1:=by omega
  have En:(d+a+c)%18446744073709551616<18446744073709551616:=xv _ de;generalize (d+a+c)%18446744073709551616=z at*
  generalize (d+a+c)/18446744073709551616=c' at*
  have aT:=fun (hp:Hp) (ct:Nat)=>jD (hp:=hp) (ct:=ct) (id:=0) (v:=z) (ex:=true) (l:=pre++y++post) (o:=pre.length+i) (by rw [nQ];omega)
  have mT:=Km (pre:=pre) (x:=y) (post:=post) (i:=i) z (by omega);simp only [go_sem,ya,ym,Gt,H2,show (i:Int)<(n:Int) by omega,ev,f1,cS 0 pre.length (show i<n+1 by omega),ey,aT,mT];refine ⟨_,k-1,rfl,by omega,i+1,c',y.set i z,?_,by omega,by simp [ly],lf gy En,mr,?_⟩
  ·rw [oY (by simp only [go_sem,ya,yO,lh,lX,kY,kV,oU hw.pu,wP]) (by simp only [go_sem,ya,yd,yO,aR hw.pu])];rw [wrap64 (by omega) (by omega)];simp only [go_sem,ya]<;>rfl
  ·rw [ep,yU];rw [xr,xr] at iC;omega
 ·right
  have:i=n:=by omega
  subst this;rw [yQ (by omega)] at aI;simp only [go_sem,ya,Gt,H2,show ¬(i:Int)<(i:Int) by omega];exact ⟨_,_,rfl,by simp,_,c,y,rfl,rfl,by simp only [go_sem,ya],by simp only [go_sem,ya],by simp only [go_sem,ya],by simp only [go_sem,ya],ly,gy,hc,aI⟩
end
def step_end {A V q Y B bo:Nat} (hV:0<V) (h:Y+q*V=A+B*bo) (h1:A/V<=q) (h2:q<=A/V+1) (hY:Y<B) (hVB:V<=B) (iD:bo<=1):
  (bo=0->q=A/V/\Y=A%V)/\(bo=1->q=A/V+1/\Y+V=B+A%V):=by
 have eB:=xM A V;have hm:=xv A hV;generalize A/V=Q at*
 have hq:q=Q\/q=Q+1:=by omega
 constructor
 ·rintro rfl;rcases hq with rfl | rfl
  ·grind
  ·grind
 ·grind
section
variable {P:aM} {L:Lib}
structure Wd (P:aM) (L:Lib):Prop where
 lH:L.pure 143=some p6
 fS:L.pure 171=some mH
 qG:L.pure 173=some zA
 H0:L.pure 167=some Db
 aiz:Has P L 165 Hr
 lG:Has P L 166 zU
 aiA:Has P L 168 Lz
 azw:Has P L 169 qw
 aiB:Has P L 158 Dj
 azx:Has P L 157 Ho
 aiC:Has P L 159 Lx
 azy:Has P L 144 Lw
 V1:Has P L 137 Hl
def au:VC->VC
 | .seq _ b=>b
 | c=>c
def awb (h:Wd P L) {w:AV} {x vs pre post qs:List Nat} (hw:bO w vs) {n v1 v2 u0 u1 u2:Nat} (hl:gm x vs n v1 v2 u0 u1 u2) {q:Nat} (hq:q<18446744073709551616) (fk:bv 18446744073709551616 x/bv 18446744073709551616 vs<=q) (ri:q<=bv 18446744073709551616 x/bv 18446744073709551616 vs+1):
  ∃tm x',D P L (au (au (au (au (au (au qw.body)))))) ⟨[(0,.aD 0 pre.length (n+1)),(1,w),(5,ab n),(6,uc q)],H2 qs (pre++x++post),2,2⟩=some (.ret,⟨tm,H2 qs (pre++x'++post),2,2⟩)/\aj tm 4=uc (bv 18446744073709551616 x/bv 18446744073709551616 vs)/\x'.length=n+1/\lo 18446744073709551616 x'/\bv 18446744073709551616 x'=bv 18446744073709551616 x%bv 18446744073709551616 vs:=by
 have cX:=hl.n2;have oG:=hl.nb;have de:(0:Nat)<18446744073709551616:=by decide
 have hV:0<bv 18446744073709551616 vs:=by
  rcases xh (bv 18446744073709551616 vs) with h0 | h0
  ·have:=hl.lt;rw [h0] at this;simp at this
  ·exact h0
 have rk:below 2 w:=oU hw.pu;have IX:=lk hl.gv;rw [hl.lv] at IX;have aF6:18446744073709551616^n<=18446744073709551616^(n+1):=yR (by decide) (by omega);have aF7:au (au (au (au (au (au qw.body)))))=au (au (au (au (au (au qw.body))))):=rfl;simp only [go_sem,ya,qw,au,H2];generalize lO:D P L (.loop [0,1,5,6,11,12,104,105] Gs) _=qq;obtain ⟨ex,s,rfl,tm,c,bo,y,rfl,rfl,t0,t1,t5,t6,t11,t12,ly,gy,hc,iD,aI⟩:=cr lO (av9 (P:=P) (L:=L) h.lH h.fS h.qG hw oG hl.lv hl.gv hq (x:=x) (pre:=pre) (post:=post) (qs:=qs) n) ⟨0,0,0,x,by
  rw [oY (by simp only [go_sem,ya,yO,lh,lX,kY,kV,rk,wP]) (by simp only [go_sem,ya,yd,yO,aR hw.pu])]
  simp only [go_sem,ya]<;>rfl,by omega,hl.lx,hl.gx,de,by omega,by simp [bv]⟩
 have XC:=gi de gy n;have ey:=rV (l:=pre++y++post) (o:=pre.length+n) (by rw [nQ];omega);rw [A9 (by omega)] at ey;obtain ⟨d,hd⟩:∃d,d=y.getD n 0:=⟨_,rfl⟩;rw [<-hd] at XC ey;have f3:=PW (P:=P) (f:=D P L) h.qG XC hc iD;have jZ:=Pe XC hc iD;obtain ⟨z,hz⟩:∃t,t=(d+18446744073709551616*2-c-bo)%18446744073709551616:=⟨_,rfl⟩;obtain ⟨b',bJ⟩:∃t,t=(if c+bo<=d then 0 else 1):=⟨_,rfl⟩;have jU:b'<=1:=by rw [bJ];split<;>omega
 have En:z<18446744073709551616:=by rw [hz];exact xv _ de
 rw [<-hz,<-bJ] at f3 jZ;have bi:=mJ (b:=18446744073709551616) (l:=y) (i:=n) (x:=z) (by omega);rw [<-hd] at bi;have aT:=fun (hp:Hp) (ct:Nat)=>jD (hp:=hp) (ct:=ct) (id:=0) (v:=z) (ex:=true) (l:=pre++y++post) (o:=pre.length+n) (by rw [nQ];omega)
 have mT:=Km (pre:=pre) (x:=y) (post:=post) (i:=n) z (by omega);have Cr:lo 18446744073709551616 (y.set n z):=lf gy En;have AD:(y.set n z).length=n+1:=by simp [ly]
 have hY:=lk Cr;rw [AD] at hY;have azz:bv 18446744073709551616 (y.set n z)+q*bv 18446744073709551616 vs=bv 18446744073709551616 x+18446744073709551616^(n+1)*b':=by
  have e2:=congrArg (fun t=>18446744073709551616^n*t) jZ;rw [yU,xb];simp only [xr] at e2 aI;generalize 18446744073709551616^n*(18446744073709551616*b')=p1 at*
  generalize 18446744073709551616^n*z=p2 at*
  generalize 18446744073709551616^n*d=p3 at*
  generalize 18446744073709551616^n*c=p4 at*
  generalize 18446744073709551616^n*bo=p5 at*
  omega
 obtain ⟨s0,s1⟩:=step_end hV azz fk ri hY (by omega) jU;simp only [go_sem,ya,yd,yO,ym,oY,lh,lX,kY,kV,rk,wP,aR hw.pu,t0,t1,t5,t6,t11,t12,cS 0 pre.length (show n<n+1 by omega),ey,f3,aT,mT];by_cases lM:b'=0
 ·obtain ⟨e1,e2⟩:=s0 lM;simp only [go_sem,ya,show (b':Int)=0 by omega];exact ⟨_,y.set n z,rfl,by rw [<-e1];simp only [go_sem],AD,Cr,e2⟩
 ·obtain ⟨e1,e2⟩:=s1 (by omega);simp only [go_sem,ya,show ¬(b':Int)=0 by omega];generalize BX:D P L (.loop [0,1,5,6,17,156,157] Gt) _=XB;obtain ⟨ex,s,rfl,pz,c2,y2,rfl,rfl,t0,t5,t6,t17,XD,NQ,qW,ayj⟩:=cr BX (awa (P:=P) (L:=L) h.fS hw oG hl.lv hl.gv (y0:=y.set n z) (pre:=pre) (post:=post) (qs:=qs) (q:=q) n) ⟨0,0,y.set n z,by
   rw [oY (by simp only [go_sem,ya,yO,lh,lX,kY,kV,rk,wP]) (by simp only [go_sem,ya,yd,yO,aR hw.pu])]
   simp only [go_sem,ya]<;>rfl,by omega,AD,Cr,by omega,by simp [bv]⟩
  have azA:=gi de NQ n;have XE:=rV (l:=pre++y2++post) (o:=pre.length+n) (by rw [nQ];omega);rw [A9 (by omega)] at XE;obtain ⟨d2,fN⟩:∃d,d=y2.getD n 0:=⟨_,rfl⟩;rw [<-fN] at azA XE;have f4:=zQ d2 c2;have K5:=mJ (b:=18446744073709551616) (l:=y2) (i:=n) (x:=(d2+c2)%18446744073709551616) (by omega);rw [<-fN] at K5;have iC:=JB (18446744073709551616^n) 18446744073709551616 (d2+c2);have azB:(d2+c2)%18446744073709551616<18446744073709551616:=xv _ de;have hc3:(d2+c2)/18446744073709551616<=1:=by omega
  generalize (d2+c2)%18446744073709551616=z2 at*
  generalize (d2+c2)/18446744073709551616=c3 at*
  have MN:=fun (hp:Hp) (ct:Nat)=>jD (hp:=hp) (ct:=ct) (id:=0) (v:=z2) (ex:=true) (l:=pre++y2++post) (o:=pre.length+n) (by rw [nQ];omega)
  have K6:=Km (pre:=pre) (x:=y2) (post:=post) (i:=n) z2 (by omega);have NR:lo 18446744073709551616 (y2.set n z2):=lf NQ azB;have IY:(y2.set n z2).length=n+1:=by simp [XD]
  have hY3:=lk NR;rw [IY] at hY3;have bq:0<q:=by rw [e1];exact Nat.succ_pos _
  have hq3:bv 18446744073709551616 x/bv 18446744073709551616 vs=q-1:=by rw [e1,uh]
  have f5:binOp .sub (uc q) (.int .u64 1)=some (uc (q-1)):=BW (b:=1) (by omega) (by omega);simp only [go_sem,ya,yd,yO,ym,oY,lh,lX,kY,kV,wP,t0,t5,t6,t17,cS 0 pre.length (show n<n+1 by omega),XE,f4,MN,K6,f5];refine ⟨_,y2.set n z2,rfl,by rw [hq3];simp only [go_sem],IY,NR,?_⟩;have e3:bv 18446744073709551616 (y2.set n z2)+18446744073709551616^(n+1)*c3=18446744073709551616^(n+1)+bv 18446744073709551616 x%bv 18446744073709551616 vs:=by
   rw [<-e2,<-ayj,yU];rw [xr] at iC;omega
  rcases (show c3=0\/c3=1 by omega) with rfl | rfl
  ·omega
  ·omega
def azC (h:Wd P L) {w:AV} {x vs pre post qs:List Nat} (hw:bO w vs) {n v1 v2 u0 u1 u2:Nat} (hl:gm x vs n v1 v2 u0 u1 u2):
  ∃x',ia P L (D P L) (H2 qs (pre++x++post)) 2 169 [.aD 0 pre.length (n+1),w]=some (uc (bv 18446744073709551616 x/bv 18446744073709551616 vs),H2 qs (pre++x'++post),2)/\x'.length=n+1/\lo 18446744073709551616 x'/\bv 18446744073709551616 x'=bv 18446744073709551616 x%bv 18446744073709551616 vs:=by
 have cX:=hl.n2;have oG:=hl.nb;have rk:below 2 w:=oU hw.pu;have oM:(n:Int)-1=((n-1:Nat):Int):=by omega
 have eH:=hw.cB (i:=n-1) (by have:=hl.lv;omega);rw [hl.eG] at eH;have AE:=rV (l:=pre++x++post) (o:=pre.length+n) (by rw [nQ];have:=hl.lx;omega)
 rw [A9 (by have:=hl.lx;omega),hl.h0] at AE;have AF:=rV (l:=pre++x++post) (o:=pre.length+(n-1)) (by rw [nQ];have:=hl.lx;omega)
 rw [A9 (by have:=hl.lx;omega),hl.h1] at AF;have DR:=hl.IU;have MO:=hl.IV;have mU:=hl.top;have iq:∃tm x',D P L qw.body ⟨dQ 0 [.aD 0 pre.length (n+1),w],H2 qs (pre++x++post),2,2⟩=some (.ret,⟨tm,H2 qs (pre++x'++post),2,2⟩)/\aj tm 4=uc (bv 18446744073709551616 x/bv 18446744073709551616 vs)/\x'.length=n+1/\lo 18446744073709551616 x'/\bv 18446744073709551616 x'=bv 18446744073709551616 x%bv 18446744073709551616 vs:=by
  have behind:∀(ja:Env) (q:Nat),aj ja 0= .aD 0 pre.length (n+1)->aj ja 1=w->aj ja 5=ab n->aj ja 6=uc q->q<18446744073709551616->bv 18446744073709551616 x/bv 18446744073709551616 vs<=q->q<=bv 18446744073709551616 x/bv 18446744073709551616 vs+1->
    ∃tm x',kF P L (kF P L (rT 0 (some (Ex.exit 0,⟨ja,H2 qs (pre++x++post),2,2⟩))) (.kp [0,1,5,6])) (au (au (au (au (au (au qw.body))))))=some (.ret,⟨tm,H2 qs (pre++x'++post),2,2⟩)/\aj tm 4=uc (bv 18446744073709551616 x/bv 18446744073709551616 vs)/\x'.length=n+1/\lo 18446744073709551616 x'/\bv 18446744073709551616 x'=bv 18446744073709551616 x%bv 18446744073709551616 vs:=by
   intro ja q t0 t1 t5 t6 g1 g2 g3;have hk:dJ ja [0,1,5,6]=[(0,.aD 0 pre.length (n+1)),(1,w),(5,ab n),(6,uc q)]:=by simp only [go_sem,t0,t1,t5,t6]
   rw [ad9,fa,aik,oY (by rw [hk];simp only [go_sem,yO,lh,lX,kY,kV,rk,wP]) (by rw [hk];simp only [go_sem,yd,yO,aR hw.pu]),fa,hk];exact awb h hw hl g1 g2 g3
  by_cases hc:u0<v1
  ·have f1:=aiu h.aiz h.H0 (P:=P) (L:=L) hc MO DR;have eB:=xM (u0*18446744073709551616+u1) v1;have kO:=xv (u0*18446744073709551616+u1) hl.pos;have nv:(u0*18446744073709551616+u1)/v1<18446744073709551616:=by
    refine (xx hl.pos).2 ?_
    have:=yT 18446744073709551616 (show u0+1<=v1 from hc)
    rw [xg 18446744073709551616 v1];omega
   have KE:=hl.first;rw [xg] at eB;generalize (u0*18446744073709551616+u1)/v1=q0 at*
   generalize (u0*18446744073709551616+u1)%v1=r0 at*
   simp only [go_sem,ya,ym,qw,H2,hw.len,hl.lv,oM,wrapN (n:=n-1) (by omega),eH,cS 0 pre.length (show n<n+1 by omega),cS 0 pre.length (show n-1<n+1 by omega),AE,AF,show ¬(v1:Int)<=(u0:Int) by omega,f1];generalize lO:D P L (.loop [0,1,5,6,7,8] rO) _=qq;obtain ⟨ex,s,rfl,ja,q,rfl,rfl,t0,t1,t5,t6,g1,g2,g3⟩:=cr lO (afr (P:=P) (L:=L) h.lH h.fS hw hl (pre:=pre) (post:=post) (qs:=qs) q0) ⟨q0,r0,by
    rw [oY (by simp only [go_sem,ya,yO,lh,lX,kY,kV,rk,wP]) (by simp only [go_sem,ya,yd,yO,aR hw.pu])];rw [yG (show r0<18446744073709551616 by omega),xL (show r0<18446744073709551616 by omega)]
    simp only [go_sem,ya]<;>rfl,eB,by omega,nv,KE,rfl⟩
   exact behind ja q t0 t1 t5 t6 g1 g2 g3
  ·have nn:u0=v1:=by omega
   have f1:=Bq (P:=P) (f:=D P L) h.fS MO DR (c:=0) (by omega);rw [yZ,show (uc 0)=AV.int .u64 0 from rfl] at f1;have MP:=hl.digit
   simp only [go_sem,ya,ym,qw,H2,hw.len,hl.lv,oM,wrapN (n:=n-1) (by omega),eH,cS 0 pre.length (show n<n+1 by omega),cS 0 pre.length (show n-1<n+1 by omega),AE,AF,show (v1:Int)<=(u0:Int) by omega,f1];generalize lO:D P L (.loop [0,1,5,6,7,8] rO) _=qq;obtain ⟨ex,s,rfl,ja,q,rfl,rfl,t0,t1,t5,t6,g1,g2,g3⟩:=cr lO (afr (P:=P) (L:=L) h.lH h.fS hw hl (pre:=pre) (post:=post) (qs:=qs) 18446744073709551615) ⟨18446744073709551615,u1+v1,by
    rw [oY (by simp only [go_sem,ya,yO,lh,lX,kY,kV,rk,wP]) (by simp only [go_sem,ya,yd,yO,aR hw.pu])]
    simp only [go_sem,ya]<;>rfl,by rw [nn];omega,by omega,by decide,by omega,rfl⟩
   exact behind ja q t0 t1 t5 t6 g1 g2 g3
 obtain ⟨tm,x',g1,g2,g3,g4,g5⟩:=iq;refine ⟨x',?_,g3,g4,g5⟩;exact aei h.azw g1 (.inr rfl) (by show hZ _ [RV.t 4]=_;rw [VR,Qv,g2])
end
def WN (v:AV) (m:Nat):Prop:=∃l,bO v l/\lo 18446744073709551616 l/\fX l/\bv 18446744073709551616 l=m
def ap9 (i:Nat) (q:List Nat) (x:Nat):(yK (i+1) 0++q).set i x=yK i 0++x::q:=by
 rw [List.replicate_succ',xt]
 simp_all
def Kn {b:Nat} {l:List Nat} {i:Nat} (h:i<l.length):bv b (l.drop i)=l.getD i 0+b*bv b (l.drop (i+1)):=by
 rw [y8 h,gd h];rfl
def PY {v w:AV} {x y:List Nat} (hv:bO v x) (hw:bO w y) (hp:Hp):result hp (.aa [v,w])=some (.aa [v,w]):=by
 rcases hv with ⟨rfl,_⟩ | ⟨e,rfl⟩<;>rcases hw with ⟨rfl,_⟩ | ⟨e',rfl⟩<;>rfl
def aso {hp:Hp} {id n l h:Nat} {pu ex:Bool} {cs:List AV} {tm:Env} {x y:X} (hg:aA hp id=some (.cells true pu ex 1 cs)) (hx:cP tm 0 (some x)=some l) (hy:cP tm n (some y)=some h) (h1:l<h) (h2:h<=n):
  fb hp (.sl 1) (.aD id 0 n) tm (some x) (some y)=some (.aD id l (h-l)):=by
 simp only [fb,hg,hx,hy,yr (vZ h1),yr h2,wy,uF,yz,gB (Nat.ne_of_lt h1),wh,yX,yh,ym]
def aaR {hp:Hp} {id n h:Nat} {pu ex:Bool} {cs:List AV} {tm:Env} {y:X} (hg:aA hp id=some (.cells true pu ex 1 cs)) (hy:cP tm n (some y)=some h) (h1:0<h) (h2:h<=n):
  fb hp (.sl 1) (.aD id 0 n) tm none (some y)=some (.aD id 0 h):=by
 have hx:cP tm 0 none=some 0:=rfl;simp only [fb,hg,hx,hy,yr (uU h),yr h2,wy,uF,yz,gB (show (0:Nat)≠h by omega),wh,yX,wE,yZ,ybX]
def agE (P:aM) (L:Lib) (f:cx) (hp:Hp) (ct n:Nat) (xs:List AV):eD P L f hp ct .heap (.fn (.f n) [] []) xs=ia P L f hp ct n xs:=by
 simp only [eD,xW,xV]
section
variable {P:aM} {L:Lib}
def awc (h:Wd P L) {v w:AV} {x:List Nat} (hv:bO v x) (hx:lo 18446744073709551616 x) (lx:x.length<=99999999999) {d:Nat} (hw:bO w [d]) (fE:0<d) (XF:d<18446744073709551616) {n:Nat} (hn:n=x.length):
  ∀k s,(∃(i r:Nat) (q:List Nat),aP [0,1,6,7,8] s=⟨[(0,v),(1,w),(6,.aD 0 0 n),(7,uc r),(8,ab ((i:Int)-1))],[(0,.cells true true true 1 ((yK i 0++q).map uc))],1,0⟩/\i=k/\i+q.length=n/\lo 18446744073709551616 q/\r<d/\bv 18446744073709551616 (x.drop i)=bv 18446744073709551616 q*d+r)->
   ∃ex s',D P L (.loop [0,1,6,7,8] Gn) s=some (ex,s')/\∃tm r q,s'=⟨tm,[(0,.cells true true true 1 (q.map uc))],1,0⟩/\ex= .exit 0/\aj tm 6= .aD 0 0 n/\aj tm 7=uc r/\q.length=n/\lo 18446744073709551616 q/\r<d/\bv 18446744073709551616 x=bv 18446744073709551616 q*d+r:=by
 intro dq sq;generalize bq:aP [0,1,6,7,8] sq=s0;revert bq s0 sq dq;apply dt;rintro k s ⟨i,r,q,rfl,rfl,hlen,aY,hr,aI⟩
 cases i with
 | zero=>
  right
  simp only [go_sem,ya,Gn,show ¬(0:Int)<=((0:Nat):Int)-1 by omega];exact ⟨_,_,rfl,by simp,_,r,q,rfl,rfl,by simp only [go_sem,ya],by simp only [go_sem,ya],by omega,aY,hr,by simpa using aI⟩
 | succ i=>
  left
  have gx:=gi (show 0<18446744073709551616 by decide) hx i;have e1:=hv.cB (i:=i) (by omega);have e2:=hw.cB (i:=0) (by simp);have gM:=Kn (b:=18446744073709551616) (l:=x) (i:=i) (by omega);rw [show ([d]:List Nat).getD 0 0=d from rfl] at e2;generalize x.getD i 0=a at*
  have e3:=aiu (P:=P) (L:=L) h.aiz h.H0 hr gx XF;have eB:=xM (r*18446744073709551616+a) d;have kO:=xv (r*18446744073709551616+a) fE;have nv:(r*18446744073709551616+a)/d<18446744073709551616:=by
   refine (xx fE).2 ?_;omega
  generalize (r*18446744073709551616+a)/d=q1 at*
  generalize (r*18446744073709551616+a)%d=r1 at*
  have aT:=fun (hp:Hp) (ct:Nat)=>jD (hp:=hp) (ct:=ct) (id:=0) (v:=q1) (ex:=true) (l:=yK (i+1) 0++q) (o:=i) (by simp;omega)
  simp only [go_sem,ya,ym,Gn,show ((i+1:Nat):Int)-1=(i:Int) by omega,show (0:Int)<=(i:Int) by omega,e1,e2,e3,cS 0 0 (show i<n by omega),yh,aT,ap9];refine ⟨_,i,rfl,by omega,i,r1,q1::q,?_,rfl,by simp;omega,JM.2 ⟨C2.2 nv,aY⟩,kO,?_⟩
  ·rw [wrap64 (by omega) (by omega)];simp only [go_sem,ya,yd,aC,aR hv.pu,bc _ hv.pu,aR hw.pu,bc _ hw.pu]<;>rfl
  ·rw [gM,aI];simp only [bv];rw [xU,xr,<-xb 18446744073709551616];rw [xg d q1] at eB;omega
def aoa {s u u1:Nat} (hs:s<64) (hu:u<18446744073709551616):u/2^s<18446744073709551616/\(0<s->u/2^s|||(u1*2^(64-s)%18446744073709551616)<18446744073709551616)/\
  (if 0<s then (u/2^s|||(u1*2^(64-s)%18446744073709551616)) else u/2^s)*2^s+u%2^s=u+18446744073709551616*(u1%2^s):=by
 have e:18446744073709551616=2^s*2^(64-s):=by rw [<-xj,show s+(64-s)=64 by omega]
 have h1:u1*2^(64-s)%18446744073709551616=(u1%2^s)*2^(64-s):=by rw [e,tn]
 have hp:=y7 s;have h2:u/2^s<2^(64-s):=by
  refine (xx hp).2 ?_
  grind
 have h3:u/2^s|||(u1*2^(64-s)%18446744073709551616)=(u1%2^s)*2^(64-s)+u/2^s:=by rw [h1,ycl,PX h2]
 have h4:(u1%2^s)*2^(64-s)+u/2^s<18446744073709551616:=by
  have:=yT (2^(64-s)) (show u1%2^s+1<=2^s from xv _ hp)
  grind
 have h5:=vI u (2^s)
 grind
def awd {us qs:List Nat} {n la m s:Nat} (hs:s<64) (lu:us.length=la) (gu:lo 18446744073709551616 us) (hn:n<la) (IZ:la<=100000000000):
  ∀k st,(∃(i:Nat) (rs:List Nat),aP [9,11,12,13,96,97] st=⟨[(9,ab s),(11,.aD 0 0 la),(12,ab n),(13,.aD 1 0 m),(96,ab n),(97,ab i)],H2 qs (rs++us.drop i),2,0⟩/\i+k=n/\rs.length=i/\lo 18446744073709551616 rs/\bv 18446744073709551616 rs*2^s+us.getD 0 0%2^s=bv 18446744073709551616 (us.take i)+18446744073709551616^i*(us.getD i 0%2^s))->
   ∃ex st',D P L (.loop [9,11,12,13,96,97] CV) st=some (ex,st')/\∃tm rs,st'=⟨tm,H2 qs (rs++us.drop n),2,0⟩/\ex= .exit 4/\aj tm 11= .aD 0 0 la/\aj tm 12=ab n/\aj tm 13= .aD 1 0 m/\rs.length=n/\lo 18446744073709551616 rs/\bv 18446744073709551616 rs*2^s+us.getD 0 0%2^s=bv 18446744073709551616 (us.take n)+18446744073709551616^n*(us.getD n 0%2^s):=by
 intro dq sq;generalize bq:aP [9,11,12,13,96,97] sq=s0;revert bq s0 sq dq;apply dt;rintro k st ⟨i,rs,rfl,hk,lr,gr,aI⟩;by_cases hi:i<n
 ·left
  have de:(0:Nat)<18446744073709551616:=by decide
  have g0:=gi de gu i;have g1:=gi de gu (i+1);have d0:us.drop i=us.getD i 0::us.getD (i+1) 0::us.drop (i+2):=by
   rw [y8 (show i<us.length by omega),y8 (show i+1<us.length by omega),gd,gd]
  have ep:=iK (b:=18446744073709551616) (l:=us) i;have im:∀r,r<18446744073709551616->r*2^s+us.getD i 0%2^s=us.getD i 0+18446744073709551616*(us.getD (i+1) 0%2^s)->lo 18446744073709551616 (rs++[r])/\bv 18446744073709551616 (rs++[r])*2^s+us.getD 0 0%2^s=bv 18446744073709551616 (us.take (i+1))+18446744073709551616^(i+1)*(us.getD (i+1) 0%2^s):=fun r h1 h2=>by
   refine ⟨JM.2 ⟨gr,C2.2 h1⟩,?_⟩;rw [pV,zE,lr,ep,xU,yU,xb,xb];have e2:=congrArg (fun t=>18446744073709551616^i*t) h2;simp only [xr] at e2;generalize 18446744073709551616^i*(r*2^s)=p1 at*
   generalize 18446744073709551616^i*(us.getD i 0%2^s)=p2 at*
   generalize 18446744073709551616^i*us.getD i 0=p3 at*
   generalize 18446744073709551616^i*(18446744073709551616*(us.getD (i+1) 0%2^s))=p4 at*
   omega
  have V2:us.drop (i+1)=us.getD (i+1) 0::us.drop (i+2):=by
   rw [y8 (show i+1<us.length by omega),gd]
  generalize us.getD i 0=a at*
  obtain ⟨c,hc⟩:∃c,c=us.getD (i+1) 0:=⟨_,rfl⟩;rw [<-hc] at g1 d0 V2 im;generalize us.drop (i+2)=dr at*
  rw [d0];obtain ⟨n1,n2,n3⟩:=aoa (u1:=c) hs g0;have o1:=HZ .i64 a (s:=s) (by omega);have o2:=HY .i64 c (s:=64-s) (by omega);have o3:binOp .sub (.int .i64 64) (ab s)=some (ab (64-s:Nat)):=by
   rw [Kj,wrap64 (by omega) (by omega)];congr 2;omega
  have o4:=NN n1 (xv (c*2^(64-s)) de);have sa:∀z y,(rs++z::y).set i a=rs++a::y:=fun z y=>by rw [yap _ _ (by omega),lr];simp
  have e0:∀z y,vY i ((rs++z::y).map uc)=uc z::y.map uc:=fun z y=>by
   rw [xH,tU (by simp [lr])];rfl
  have e1:∀z y u,vY (i+1) ((rs++z::y::u).map uc)=uc y::u.map uc:=fun z y u=>by
   rw [show rs++z::y::u=(rs++[z])++y::u by simp,xH,tU (by simp [lr])];rfl
  have Ee:∀(hp:Hp) (ct x z:Nat) (y:List Nat),jY hp ct 0 i 1 [.int .u64 (x:Int)] (some (.cells true true true 1 ((rs++z::y).map uc)))=some (.aa [],bi hp 0 (.cells true true true 1 ((rs++x::y).map uc)),ct):=fun hp ct x z y=>by
   rw [jD (by simp;omega),yap _ _ (by omega),lr];simp
  by_cases h0:0<s
  ·rw [yL h0] at n3;obtain ⟨f1,f2⟩:=im _ (n2 h0) n3;generalize a/2^s=a1 at*
   generalize a1|||(c*2^(64-s)%18446744073709551616)=r at*
   simp only [go_sem,ya,ym,CV,H2,show (i:Int)<(n:Int) by omega,cS 0 0 (show i<la by omega),yh,e0,o1,Ee,show (0:Int)<(s:Int) by omega,show (i:Int)+1=((i+1:Nat):Int) from rfl,wrapN (n:=i+1) (by omega),show ((i+1:Nat):Int)<(la:Int) by omega,cS 0 0 (show i+1<la by omega),e1,o3,o2,o4];refine ⟨_,k-1,rfl,by omega,i+1,rs++[r],by simp only [go_sem,ya,yd,aC];rw [V2];simp,by omega,by simp [lr],f1,by rw [<-hc];exact f2⟩
  ·rw [yu h0] at n3;obtain ⟨f1,f2⟩:=im _ n1 n3;generalize a/2^s=a1 at*
   simp only [go_sem,ya,ym,CV,H2,show (i:Int)<(n:Int) by omega,cS 0 0 (show i<la by omega),yh,e0,o1,Ee,show ¬(0:Int)<(s:Int) by omega,show (i:Int)+1=((i+1:Nat):Int) from rfl,wrapN (n:=i+1) (by omega)];refine ⟨_,k-1,rfl,by omega,i+1,rs++[a1],by simp only [go_sem,ya,yd,aC];rw [V2];simp,by omega,by simp [lr],f1,by rw [<-hc];exact f2⟩
 ·right
  have:i=n:=by omega
  subst this;simp only [go_sem,ya,CV,H2,show ¬(i:Int)<(i:Int) by omega];exact ⟨_,_,rfl,by simp,_,rs,rfl,rfl,by simp only [go_sem,ya],by simp only [go_sem,ya],by simp only [go_sem,ya],lr,gr,aI⟩
end
end VE
