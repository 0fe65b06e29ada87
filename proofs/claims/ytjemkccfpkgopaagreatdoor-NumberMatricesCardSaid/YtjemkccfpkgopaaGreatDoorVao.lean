import Derived.ChangeSlices
import Derived.ChangeReads
import Derived.ChangeSame
import Derived.OpenShut
import Derived.Lib.AtoiErrMem
import Derived.Laws.Externs
import Derived.Attr
import Derived.Test.YtjemkccfpkgopaaGreatDoorVah
import Derived.Test.YtjemkccfpkgopaaGreatDoorVad
import Derived.Test.YtjemkccfpkgopaaGreatDoorVaf
import Derived.Test.YtjemkccfpkgopaaGreatDoorVan
import Derived.Test.YtjemkccfpkgopaaGreatDoorVac
import Derived.Test.YtjemkccfpkgopaaGreatDoorVag
set_option linter.all false
set_option maxRecDepth 100000
open Array renaming getElem?_eq_some_iff→xy
open Bool renaming and_eq_true→yh,and_true→vj,true_and→xY
open Go renaming Addr→uv,ChangeSpec→ybB,DataW→xF,Field→uJ,IntKind→y7,MemPlace→wq,Program→y9,TypeId→yB,Value→yg,World→yi
open Int renaming ediv_emod_unique→tg,gcd→wX,gcd_dvd_left→tn,gcd_dvd_right→uZ,mul_ediv_cancel'→yap,natAbs_ediv_of_dvd→uj,tdiv_eq_ediv_of_dvd→tV,tmod_eq_emod_of_nonneg→xZ
open List renaming all_cons→yba,append_nil→wo,cons_append→xk,drop→vT,drop_drop→vS,drop_eq_getElem_cons→yS,drop_eq_nil_of_le→xh,drop_zero→yK,eq_nil_of_length_eq_zero→yo,flatMap_cons→yaA,getD_cons_succ→yao,getD_eq_getElem?_getD→xf,getElem?_cons_zero→vI,getElem?_eq_getElem→xS,length→tD,length_append→yN,length_cons→yI,length_map→yj,length_nil→yP,length_singleton→uC,length_take→yy,mapM_cons→uf,mapM_nil→tO,map_cons→xc,mem_append_left→uL,mem_append_right→vK,mem_flatMap→uo,nil_append→xC,range→xe,range'→we,range'_succ→ua,range'_zero→yaH,range_eq_range'→yaf,replicate→yk,replicate_succ→wO,set_cons_succ→yau,take_append_drop→xQ,take_length→xB,take_of_length_le→yC,take_succ_eq_append_getElem→yW
open Nat renaming add_mul→wE,add_sub_cancel→tE,add_zero→y5,beq→yx,beq_refl→wP,ble→yG,ble_eq_true_of_le→yu,blt→yR,div_le_self→vB,eq_of_beq_eq_true→yt,eq_zero_or_pos→xq,gcd→wG,gcd_comm→uX,gcd_rec→ybL,le_div_iff_mul_le→yal,le_max_left→vZ,le_max_right→vO,le_of_ble_eq_true→yz,le_of_lt→uW,le_refl→yv,lt_of_le_of_lt→wJ,lt_of_lt_of_le→yU,lt_of_mul_lt_mul_right→tI,min_eq_left→xm,mod_eq_of_lt→yX,mod_lt→xE,mul_add→xG,mul_assoc→xp,mul_comm→xJ,mul_le_mul_left→yZ,mul_le_mul_right→yQ,mul_pos→yab,mul_zero→xH,pow_le_pow_right→yY,pow_succ→xd,reduceAdd→yb,reduceEqDiff→ya,strongRecOn→vJ,zero_add→ye
open Option renaming bind_eq_bind→vA,bind_some→xO,map_some→wD,pure_def→wN
open Option.some renaming injEq→yd
open Prod.mk renaming injEq→yq
namespace VE
section
open Go
section
variable (P:y9)
def EF (self:yB->Bool):List uJ->Nat->Nat->Bool
 | [],o,n=>yx o n
 | f::r,o,n=>yx f.offset o&&(self f.type&&EF self r (o+P.cellsOf f.type) n)
def flat:Nat->yB->Bool
 | 0,_=>false
 | n+1,t=>
  match P.underlying t with
  | some .bool | some (.int _) | some (.float _) | some .string=>yx (P.cellsOf t) 1
  | some (.slice e)=>yx (P.cellsOf t) 1&&(yR 0 (P.cellsOf e)&&flat n e)
  | some (.struct fs)=>EF P (fun u=>flat n u) fs.toList 0 (P.cellsOf t)
  | some (.array k e)=>yx (P.cellsOf t) (k*P.cellsOf e)&&flat n e
  | _=>false
def cV {H:Type}:Nat->yB->xF H->List AV
 | 0,_,_=>[]
 | n+1,t,d=>
  match P.underlying t,d with
  | some .bool,.lit (.bool b)=>[.bool b]
  | some (.int k),.lit (.int _ m)=>[.int k m]
  | some (.float k),.lit (.float _ b)=>[.bU k b]
  | some .string,.lit (.string s)=>[.str (s.map UInt8.toNat)]
  | some (.slice _),.nil=>[.aa]
  | some (.slice e),.slice jJ spare=>[.aB spare.isEmpty jJ.length (jJ.flatMap fun x=>cV n e x)]
  | some (.struct fs),.agg parts=>(fs.toList.zip parts).flatMap fun x=>cV n x.1.type x.2
  | some (.array _ e),.agg parts=>parts.flatMap fun x=>cV n e x
  | _,_=>[]
end
section
variable {ah:Nat->Nat} {m:Mp} {S:Nat->Prop} {w:yi}
def acS:∀{a b:List AV} {aG o:Nat},bW ah m S w a aG o->bW ah m S w b aG (o+a.length)->bW ah m S w (a++b) aG o
 | [],b,aG,o,_,h=>by simpa using h
 | x::a,b,aG,o,h1,h2=>by
  exact ⟨h1.1,acS h1.2 (by rw [yI] at h2;rw [show o+1+a.length=o+(a.length+1) by omega];exact h2)⟩
def Mu:∀{a b:List AV},aK a=true->aK b=true->aK (a++b)=true
 | [],_,_,h=>h
 | x::a,b,h1,h2=>by
  simp only [aK,xk,yh] at h1 ⊢;exact ⟨h1.1,Mu h1.2 h2⟩
def acT:∀{a:List AV} {us:List yg},aA ah m S w a us->a.length=us.length
 | [],us,h=>by simp only [aA] at h;subst h;rfl
 | x::a,us,h=>by
  obtain ⟨u,r,rfl,_,h2⟩:=h;simp [acT h2]
end
section
variable {H:Type} {enc:yB×yg->H} {P:y9} {w:yi} {held:Bool} {ah:Nat->Nat} {m:Mp} {S:Nat->Prop}
def ahj {a:uv} {i:Nat} {u:yg} (h:w.cell? (a.add i)=some u):w.cell? ⟨a.block,a.off+i,none⟩=some u/\(i=0->a.spot=none):=by
 by_cases hi:i=0
 ·subst hi;have e:a.add 0=a:=by simp [Addr.add]
  rw [e] at h;have hs:a.spot=none:=by
   cases hq:a.spot with
   | none=>rfl
   | some k=>
    unfold World.cell? at h
    split at h
    ·simp [hq] at h
    all_goals simp_all
  obtain ⟨b,o,sp⟩:=a;simp only at hs;subst hs;exact ⟨by simpa using h,fun _=>rfl⟩
 ·have e:a.add i=⟨a.block,a.off+i,none⟩:=by simp [Addr.add,hi]
  rw [e] at h;exact ⟨h,fun h=>(hi h).elim⟩
def aqj (a:uv) (i:Nat):(a.add i).block=a.block:=by unfold Addr.add;split<;>rfl
def aub (a:uv) (i:Nat):(a.add i).off=a.off+i:=by unfold Addr.add;split<;>simp_all
def MH {α β:Type} {f:α->Option β}:∀{l:List α} {r:List β},l.mapM f=some r->r.length=l.length
 | [],r,h=>by simp only [tO,wN,yd] at h;subst h;rfl
 | x::l,r,h=>by
  rw [uf] at h
  cases h1:f x with
  | none=>simp [h1] at h
  | some y=>
   cases h2:l.mapM f with
   | none=>simp [h1,h2] at h
   | some ys=>
    simp only [h1,h2,xO,vA,wN,yd] at h;subst h;simp [MH h2]
def asb {c:AV} {l:List AV} {b o:Nat} (h:bW ah m S w (c::l) b o):b<w.heap.size:=by
 obtain ⟨⟨u,h1,_⟩,_⟩:=h;unfold World.cell? at h1
 cases hq:w.heap[b]? with
 | none=>simp [hq] at h1
 | some o=>exact (xy.1 hq).1
def R1 {e:yB} {bD sz:Nat} {f:xF H->List AV} {a:uv} (eV:0<sz)
  (IH:∀(cs:List yg) (d:xF H) (ps:List wq),DataW.trod enc P w 0 (fun _=>true) held bD e cs=some (d,ps)->aA ah m S w (f d) cs/\aK (f d)=true/\cs.length=sz):
  ∀(k j:Nat) (xs:List (xF H×List wq)),(we j k).mapM (fun i=>(w.cells? 0 (a.add (i*sz)) sz).bind (DataW.trod enc P w 0 (fun _=>true) held bD e))=some xs->
   bW ah m S w ((xs.map (·.1)).flatMap f) a.block (a.off+j*sz)/\aK ((xs.map (·.1)).flatMap f)=true/\((xs.map (·.1)).flatMap f).length=k*sz/\xs.length=k/\(0<k->a.spot=none\/0<j)
 | 0,j,xs,h=>by
  simp only [yaH,tO,wN,yd] at h;subst h;simp [bW,aK]
 | k+1,j,xs,h=>by
  rw [ua,uf] at h
  cases h1:(w.cells? 0 (a.add (j*sz)) sz) with
  | none=>simp [h1] at h
  | some us=>
   cases h2:DataW.trod enc P w 0 (fun _=>true) held bD e us with
   | none=>simp [h1,h2] at h
   | some x=>
    cases h3:(we (j+1) k).mapM (fun i=>(w.cells? 0 (a.add (i*sz)) sz).bind (DataW.trod enc P w 0 (fun _=>true) held bD e)) with
    | none=>simp [h1,h2,h3] at h
    | some ys=>
     simp only [h1,h2,h3,xO,vA,wN,yd] at h;subst h;obtain ⟨d,ps⟩:=x;obtain ⟨g1,g2,g3⟩:=IH us d ps h2;obtain ⟨k1,k2,k3,k4,_⟩:=R1 eV IH k (j+1) ys h3;obtain ⟨_,c2,c3⟩:=World.cells?_some h1;have hl:(f d).length=sz:=by rw [acT g1,g3]
     have hc:∀(i:Nat) (u:yg),us[i]? =some u->w.cell? ⟨a.block,a.off+j*sz+i,none⟩=some u:=by
      intro i u hi;have GI:i<sz:=by grind
      have h:=c3 i GI;rw [hi] at h
      have:=(ahj h).1
      rwa [aqj,aub] at this
     refine ⟨?_,?_,?_,by simp [k4],?_⟩
     ·simp only [xc,yaA];refine acS (EM _ us _ g1 hc) ?_
      grind
     ·simp only [xc,yaA];exact Mu g2 k2
     ·grind
     ·intro _;rcases xq j with hj | hj
      ·left
       have h:=c3 0 eV;have hu:us[0]? =some us[0]:=by simp_all
       rw [hu] at h
       have:=(ahj h).2 rfl
       subst hj;simpa [Addr.add] using this
      ·grind
def ab8 {bD N:Nat} {n:Nat} {cs:List yg} (hN:cs.length=N)
  (IH:∀(t:yB) (cs:List yg) (d:xF H) (ps:List wq),flat P n t=true->DataW.trod enc P w 0 (fun _=>true) held bD t cs=some (d,ps)->aA ah m S w (cV P n t d) cs/\aK (cV P n t d)=true/\cs.length=P.cellsOf t):
  ∀(r:List uJ) (o:Nat) (xs:List (xF H×List wq)),EF P (fun u=>flat P n u) r o N=true->r.mapM (fun f=>DataW.trod enc P w 0 (fun _=>true) held bD f.type ((cs.drop f.offset).take (P.cellsOf f.type)))=some xs->
   aA ah m S w ((r.zip (xs.map (·.1))).flatMap fun x=>cV P n x.1.type x.2) (cs.drop o)/\aK ((r.zip (xs.map (·.1))).flatMap fun x=>cV P n x.1.type x.2)=true
 | [],o,xs,hf,h=>by
  have:=yt hf
  rw [xh (by omega)];simp [aA,aK]
 | f::r,o,xs,hf,h=>by
  simp only [EF,yh] at hf;obtain ⟨e1,e2,e3⟩:=hf;have e1:=yt e1;rw [uf] at h
  cases h2:DataW.trod enc P w 0 (fun _=>true) held bD f.type ((cs.drop f.offset).take (P.cellsOf f.type)) with
  | none=>simp [h2] at h
  | some x=>
   cases h3:r.mapM (fun f=>DataW.trod enc P w 0 (fun _=>true) held bD f.type ((cs.drop f.offset).take (P.cellsOf f.type))) with
   | none=>simp [h2,h3] at h
   | some ys=>
    simp only [h2,h3,xO,vA,wN,yd] at h;subst h;obtain ⟨d,ps⟩:=x;obtain ⟨g1,g2,g3⟩:=IH f.type _ d ps e2 h2;obtain ⟨k1,k2⟩:=ab8 hN IH r _ ys e3 h3;rw [e1] at g1;have e:cs.drop o=(cs.drop o).take (P.cellsOf f.type)++cs.drop (o+P.cellsOf f.type):=by rw [<-vS];exact (xQ _ _).symm
    rw [e];exact ⟨lX g1 k1,Mu g2 k2⟩
def ahk {bD sz:Nat} {e:yB} {f:xF H->List AV} {cs:List yg}
  (IH:∀(cs:List yg) (d:xF H) (ps:List wq),DataW.trod enc P w 0 (fun _=>true) held bD e cs=some (d,ps)->aA ah m S w (f d) cs/\aK (f d)=true/\cs.length=sz):
  ∀(k j:Nat) (xs:List (xF H×List wq)),(we j k).mapM (fun i=>DataW.trod enc P w 0 (fun _=>true) held bD e ((cs.drop (i*sz)).take sz))=some xs->cs.length=(j+k)*sz->
   aA ah m S w ((xs.map (·.1)).flatMap f) (cs.drop (j*sz))/\aK ((xs.map (·.1)).flatMap f)=true
 | 0,j,xs,h,hl=>by
  simp only [yaH,tO,wN,yd] at h;subst h;rw [xh (by rw [hl];simp)]
  simp [aA,aK]
 | k+1,j,xs,h,hl=>by
  rw [ua,uf] at h
  cases h2:DataW.trod enc P w 0 (fun _=>true) held bD e ((cs.drop (j*sz)).take sz) with
  | none=>simp [h2] at h
  | some x=>
   cases h3:(we (j+1) k).mapM (fun i=>DataW.trod enc P w 0 (fun _=>true) held bD e ((cs.drop (i*sz)).take sz)) with
   | none=>simp [h2,h3] at h
   | some ys=>
    simp only [h2,h3,xO,vA,wN,yd] at h;subst h;obtain ⟨d,ps⟩:=x;obtain ⟨g1,g2,g3⟩:=IH _ d ps h2;obtain ⟨k1,k2⟩:=ahk IH k (j+1) ys h3 (by rw [hl];congr 1;omega)
    have e:cs.drop (j*sz)=(cs.drop (j*sz)).take sz++cs.drop ((j+1)*sz):=by rw [wE,Nat.one_mul,<-vS];exact (xQ _ _).symm
    rw [e];exact ⟨lX g1 k1,Mu g2 k2⟩
def adN (hS:∀b,b<w.heap.size->S b):∀(n bD:Nat) (t:yB) (cs:List yg) (d:xF H) (ps:List wq),flat P n t=true->DataW.trod enc P w 0 (fun _=>true) held bD t cs=some (d,ps)->
  aA ah m S w (cV P n t d) cs/\aK (cV P n t d)=true/\cs.length=P.cellsOf t
 | 0,bD,t,cs,d,ps,hf,h=>by simp [flat] at hf
 | n+1,0,t,cs,d,ps,hf,h=>by simp [DataW.trod] at h
 | n+1,bD+1,t,cs,d,ps,hf,h=>by
  have IH:=adN hS n bD;unfold DataW.trod at h;simp only [flat] at hf
  split at h
  ·rename_i hu;simp only [hu] at hf;simp only [yd,yq] at h;obtain ⟨rfl,rfl⟩:=h;simp only [cV,hu];exact ⟨by simp [aA,ai],by simp [aK,a7],by rw [yt hf];rfl⟩
  ·rename_i hu;simp only [hu] at hf
   split at h
   ·rename_i hk;simp only [yd,yq] at h;obtain ⟨rfl,rfl⟩:=h;simp only [cV,hu];refine ⟨?_,by simp [aK,a7],by rw [yt hf];rfl⟩
    rw [hk.1];simp [aA,ai]
   ·cases h
  ·rename_i hu;simp only [hu] at hf
   split at h
   ·rename_i hk;simp only [yd,yq] at h;obtain ⟨rfl,rfl⟩:=h;simp only [cV,hu];refine ⟨?_,by simp [aK,a7],by rw [yt hf];rfl⟩
    rw [hk.1];simp [aA,ai]
   ·cases h
  ·rename_i hu;simp only [hu] at hf
   split at h
   ·simp only [yd,yq] at h;obtain ⟨rfl,rfl⟩:=h;simp only [cV,hu];refine ⟨?_,by simp [aK,a7],by rw [yt hf];rfl⟩
    simp only [aA,ai];exact ⟨_,_,rfl,⟨_,rfl,rfl⟩,rfl⟩
   ·cases h
  ·rename_i hu;simp [hu] at hf
  ·rename_i hu;simp [hu] at hf
  ·rename_i hu;simp only [hu,yh] at hf;simp only [yd,yq] at h;obtain ⟨rfl,rfl⟩:=h;simp only [cV,hu];exact ⟨by simp [aA,ai],by simp [aK,a7],by rw [yt hf.1];rfl⟩
  ·rename_i e a len cap hu;simp only [hu,yh] at hf;obtain ⟨f1,f2,f3⟩:=hf;have eV:=zD.1 f2;simp only at h
   split at h
   case isFalse=>cases h
   rename_i hc;simp only [xD] at h
   cases h1:(xe len).mapM fun i=>(w.cells? 0 (a.add (i*P.cellsOf e)) (P.cellsOf e)).bind (DataW.trod enc P w 0 (fun _=>true) held bD e) with
   | none=>rw [h1] at h;simp at h
   | some jJ=>
    cases h2:(xe (cap-len)).mapM fun j=>(w.cells? 0 (a.add ((len+j)*P.cellsOf e)) (P.cellsOf e)).bind (DataW.trod enc P w 0 (fun _=>true) held bD e) with
    | none=>rw [h1] at h;simp [h2] at h
    | some rest=>
     rw [h1] at h;simp only [xO,h2,wD,yd,yq] at h;obtain ⟨rfl,rfl⟩:=h;have hIH:=fun cs d ps h=>IH e cs d ps f3 h
     rw [yaf] at h1 h2;obtain ⟨k1,k2,k3,k4,k5⟩:=R1 (ah:=ah) (m:=m) (S:=S) eV hIH len 0 jJ h1;have hrl:rest.length=cap-len:=by rw [MH h2];simp
     have ji:cap≠0->a.spot=none:=by
      intro YL;rcases xq len with h0 | h0
      ·subst h0;simp only [ye,Nat.sub_zero] at h2;obtain ⟨_,_,_,_,q5⟩:=R1 (ah:=ah) (m:=m) (S:=S) eV hIH cap 0 rest h2;exact (q5 (by omega)).resolve_right (by omega)
      ·exact (k5 h0).resolve_right (by omega)
     simp only [cV,hu,yj];refine ⟨?_,by simp [aK,a7],by rw [yt f1];rfl⟩
     simp only [aA];refine ⟨_,_,rfl,?_,rfl⟩;simp only [ai];by_cases YL:cap=0
     ·subst YL;have lR:len=0:=by omega
      subst lR;have he:jJ=[]:=yo k4;subst he;exact .inr ⟨a,rfl,rfl,rfl⟩
     ·obtain ⟨b,o,sp⟩:=a;have ji:=ji YL;simp only at ji;subst ji;refine .inl ⟨b,o,cap,by rw [k4],by omega,fun hx=>?_,?_,k2,by simpa using k1⟩
      ·have:rest.length=0:=by simpa using hx
       omega
      ·generalize hg:((jJ.map (·.1)).flatMap fun x=>cV P n e x)=l at k1
       cases l with
       | nil=>exact .inl rfl
       | cons c l=>exact .inr (hS b (asb k1))
  ·rename_i sX x1 Lw fs hu;simp only [hu] at hf
   split at h
   case isFalse=>cases h
   rename_i hlen
   cases h1:fs.toList.mapM fun f=>DataW.trod enc P w 0 (fun _=>true) held bD f.type ((sX.drop f.offset).take (P.cellsOf f.type)) with
   | none=>rw [h1] at h;simp at h
   | some xs=>
    rw [h1] at h;simp only [wD,yd,yq] at h;obtain ⟨rfl,rfl⟩:=h;obtain ⟨k1,k2⟩:=ab8 hlen (fun t cs d ps hf h=>IH t cs d ps hf h) fs.toList 0 xs hf h1;simp only [cV,hu];exact ⟨by simpa using k1,k2,hlen⟩
  ·rename_i sX x1 Lw k e hu;simp only [hu,yh] at hf;obtain ⟨f1,f2⟩:=hf;have f1:=yt f1
   split at h
   case isFalse=>cases h
   rename_i hlen
   cases h1:(xe k).mapM fun i=>DataW.trod enc P w 0 (fun _=>true) held bD e ((sX.drop (i*P.cellsOf e)).take (P.cellsOf e)) with
   | none=>rw [h1] at h;simp at h
   | some xs=>
    rw [h1] at h;simp only [wD,yd,yq] at h;obtain ⟨rfl,rfl⟩:=h;rw [yaf] at h1;obtain ⟨k1,k2⟩:=ahk (ah:=ah) (m:=m) (S:=S) (fun cs d ps h=>IH e cs d ps f2 h) k 0 xs h1 (by rw [hlen,f1];simp)
    simp only [cV,hu];exact ⟨by simpa using k1,k2,hlen⟩
  all_goals first
   | (cases h;done)
   | (simp_all;done)
def lF (P:y9) (n:Nat) (t:yB) (d:xF H):AV:=
 match P.underlying t with
 | some (.struct _) | some (.array _ _)=> .agg (cV P n t d)
 | _=>(cV P n t d).headD .undef
def auc (hS:∀b,b<w.heap.size->S b) {n base:Nat} {t:yB} {v:yg} {d:xF H} {ps:List wq} (hf:flat P n t=true) (h:DataW.Trod enc P w 0 (fun _=>true) held t v d ps)
  (hv:Value.okWide P w .any base t v):ai ah m S w (lF P n t d) v/\a7 (lF P n t d)=true:=by
 obtain ⟨bD,h⟩:=h;obtain ⟨h1,h2,h3⟩:=adN (ah:=ah) (m:=m) hS n bD t _ d ps hf h;have one:v.cells=#[v]->(∀fs,P.underlying t≠some (.struct fs))->(∀k e,P.underlying t≠some (.array k e))->ai ah m S w (lF P n t d) v/\a7 (lF P n t d)=true:=by
  intro hc GF hna;have e:lF P n t d=(cV P n t d).headD .undef:=by
   unfold lF
   grind
  rw [e];rw [hc] at h1;generalize cV P n t d=l at h1 h2
  cases l with
  | nil=>simp [aA] at h1
  | cons x l=>
   simp only [aA] at h1;simp only [aK,yh] at h2
   grind
 cases n with
 | zero=>simp [flat] at hf
 | succ n=>
  unfold Value.okWide at hv;simp only [flat] at hf
  cases hu:P.underlying t with
  | none=>simp [hu] at hf
  | some ty=>
   rw [hu] at hv hf;cases ty<;>simp only [Bool.false_eq_true] at hf hv
   case struct fs=>
    obtain ⟨cs,rfl,_,_⟩:=hv;have e:lF P (n+1) t d= .agg (cV P (n+1) t d):=by simp only [lF,hu]
    rw [e];exact ⟨by simp only [ai];exact ⟨cs,rfl,h1⟩,by simpa only [a7] using h2⟩
   case array k e=>
    obtain ⟨cs,rfl,_,_⟩:=hv;have e:lF P (n+1) t d= .agg (cV P (n+1) t d):=by simp only [lF,hu]
    rw [e];exact ⟨by simp only [ai];exact ⟨cs,rfl,h1⟩,by simpa only [a7] using h2⟩
   all_goals
    refine one ?_ (by simp [hu]) (by simp [hu])
    cases v with
    | agg cs=>exfalso;simp only [Cell.okWide,Cell.ok,hu] at hv
    | _=>rfl
def zO (P:y9) (n:Nat):List yB->List (xF H)->List AV
 | t::ts,d::ds=>lF P n t d::zO P n ts ds
 | _,_=>[]
def adO (hS:∀b,b<w.heap.size->S b) {n base:Nat}:∀{ts:List yB} {vs:List yg} {ds:List (xF H)} {ps:List wq},ts.all (flat P n)=true->DataW.TrodAll enc P w 0 (fun _=>true) held ts vs ds ps->
  (∀(j:Nat) t v,ts[j]? =some t->vs[j]? =some v->Value.okWide P w .any base t v)->aA ah m S w (zO P n ts ds) vs/\aK (zO P n ts ds)=true
 | [],[],[],_,_,_,_=>by simp [zO,aA,aK]
 | t::ts,v::vs,d::ds,ps,hf,h,hv=>by
  simp only [yba,yh] at hf;obtain ⟨p,q,h1,h2,_⟩:=h;obtain ⟨a1,a2⟩:=auc (ah:=ah) (m:=m) hS hf.1 h1 (hv 0 t v rfl rfl);obtain ⟨b1,b2⟩:=adO hS hf.2 h2 (fun j t v h1 h2=>hv (j+1) t v h1 h2);simp only [zO,aA,aK,yh]
  grind
 | [],_::_,_,_,_,h,_=>by simp [DataW.TrodAll] at h
 | [],[],_::_,_,_,h,_=>by simp [DataW.TrodAll] at h
 | _::_,[],_,_,_,h,_=>by simp [DataW.TrodAll] at h
 | _::_,_::_,[],_,_,h,_=>by simp [DataW.TrodAll] at h
end
end
section
open Go
section
variable {H:Type} {enc:yB×yg->H} {P:y9} {w w':yi} {held:Bool} {sp:Nat->Bool}
def ao8 (hs:∀b,b<w.heap.size->w'.heap[b]? =w.heap[b]?) {a:uv} {u:yg} (h:w.cell? a=some u):w'.cell? a=some u:=by
 have hb:a.block<w.heap.size:=by
  unfold World.cell? at h
  cases hq:w.heap[a.block]? with
  | none=>simp [hq] at h
  | some o=>exact (xy.1 hq).1
 unfold World.cell? at h ⊢;rw [hs _ hb];exact h
def aoD (hs:∀b,b<w.heap.size->w'.heap[b]? =w.heap[b]?) {base:Nat} {a:uv} {n:Nat} {us:List yg} (h:w.cells? base a n=some us):w'.cells? base a n=some us:=by
 unfold World.cells? at h ⊢
 split at h
 ·rename_i hb;rw [yT hb];exact mapM_carry h (fun x y _ _ hx=>ao8 hs hx)
 ·cases h
def aud {a:uv} {n:Nat} (h:0<n):MemPlace.cell a.block (a.off+0)∈MemPlace.row a n:=by
 unfold MemPlace.row;exact List.mem_map.2 ⟨0,List.mem_range.2 h,rfl⟩
def ab9 (hs:∀b,b<w.heap.size->w'.heap[b]? =w.heap[b]?):∀(n bD:Nat) (t:yB) (cs:List yg) (d:xF H) (ps:List wq),flat P n t=true->DataW.trod enc P w 0 (fun _=>true) held bD t cs=some (d,ps)->
  (∀p,p∈ps->sp p.block=true)->DataW.trod enc P w' 0 sp held bD t cs=some (d,ps)
 | 0,bD,t,cs,d,ps,hf,h,hp=>by simp [flat] at hf
 | n+1,0,t,cs,d,ps,hf,h,hp=>by simp [DataW.trod] at h
 | n+1,bD+1,t,cs,d,ps,hf,h,hp=>by
  have IH:=ab9 hs n bD;have elem:∀{e:yB} {a:uv} {y:xF H×List wq},flat P n e=true->(w.cells? 0 a (P.cellsOf e)).bind (DataW.trod enc P w 0 (fun _=>true) held bD e)=some y->(∀p,p∈y.2->sp p.block=true)->
    (w'.cells? 0 a (P.cellsOf e)).bind (DataW.trod enc P w' 0 sp held bD e)=some y:=by
   intro e a y he h hq
   cases h1:w.cells? 0 a (P.cellsOf e) with
   | none=>simp [h1] at h
   | some us=>
    rw [h1] at h;rw [aoD hs h1];simp only [xO] at h ⊢;obtain ⟨d,ps⟩:=y;exact IH e us d ps he h hq
  unfold DataW.trod at h ⊢;simp only [flat] at hf
  split at h
  ·exact h
  ·exact h
  ·exact h
  ·exact h
  ·rename_i hu;simp [hu] at hf
  ·rename_i hu;simp [hu] at hf
  ·exact h
  ·rename_i e a len cap hu;simp only [hu,yh] at hf;obtain ⟨f1,f2,f3⟩:=hf;have eV:=zD.1 f2;simp only at h ⊢
   split at h
   case isFalse=>cases h
   rename_i hc;rw [yT hc];simp only [xD] at h
   cases h1:(xe len).mapM fun i=>(w.cells? 0 (a.add (i*P.cellsOf e)) (P.cellsOf e)).bind (DataW.trod enc P w 0 (fun _=>true) held bD e) with
   | none=>rw [h1] at h;simp at h
   | some jJ=>
    cases h2:(xe (cap-len)).mapM fun j=>(w.cells? 0 (a.add ((len+j)*P.cellsOf e)) (P.cellsOf e)).bind (DataW.trod enc P w 0 (fun _=>true) held bD e) with
    | none=>rw [h1] at h;simp [h2] at h
    | some rest=>
     rw [h1] at h;simp only [xO,h2,wD,yd,yq] at h;obtain ⟨rfl,rfl⟩:=h;have k1:((xe len).mapM fun i=>(w'.cells? 0 (a.add (i*P.cellsOf e)) (P.cellsOf e)).bind (DataW.trod enc P w' 0 sp held bD e))=some jJ:=
      mapM_carry h1 (fun x y _ hy hx=>elem f3 hx (fun p hq=>hp p (vK _ (uo.2 ⟨y,uL _ hy,hq⟩))))
     have k2:((xe (cap-len)).mapM fun j=>(w'.cells? 0 (a.add ((len+j)*P.cellsOf e)) (P.cellsOf e)).bind (DataW.trod enc P w' 0 sp held bD e))=some rest:=
      mapM_carry h2 (fun x y _ hy hx=>elem f3 hx (fun p hq=>hp p (vK _ (uo.2 ⟨y,vK _ hy,hq⟩))))
     have hr:(if sp a.block=true then (xe (cap-len)).mapM fun j=>(w'.cells? 0 (a.add ((len+j)*P.cellsOf e)) (P.cellsOf e)).bind (DataW.trod enc P w' 0 sp held bD e) else some [])=some rest:=by
      by_cases ji:sp a.block=true
      ·rw [yT ji];exact k2
      ·rw [yD ji];have h0:¬0<(jJ.length+rest.length)*P.cellsOf e:=fun h0=>ji (hp _ (uL _ (aud h0)))
       have hz:jJ.length+rest.length=0:=by
        rcases xq (jJ.length+rest.length) with h | h
        ·exact h
        ·exact (h0 (yab h eV)).elim
       have:rest=[]:=yo (by omega)
       rw [this]
     rw [k1];simp only [xO];rw [hr];rfl
  ·rename_i sX x1 Lw fs hu;simp only [hu] at hf
   split at h
   case isFalse=>cases h
   rename_i hlen;rw [yT hlen]
   cases h1:fs.toList.mapM fun f=>DataW.trod enc P w 0 (fun _=>true) held bD f.type ((sX.drop f.offset).take (P.cellsOf f.type)) with
   | none=>rw [h1] at h;simp at h
   | some xs=>
    rw [h1] at h;simp only [wD,yd,yq] at h;obtain ⟨rfl,rfl⟩:=h;have GD:∀(r:List uJ) (o:Nat),EF P (fun u=>flat P n u) r o (P.cellsOf t)=true->∀f,f∈r->flat P n f.type=true:=by
     intro r
     induction r with
     | nil=>intro o _ f hm;cases hm
     | cons g r ih=>
      intro o hq f hm;simp only [EF,yh] at hq;rcases List.mem_cons.1 hm with rfl | hm
      ·exact hq.2.1
      ·exact ih _ hq.2.2 f hm
    have k1:(fs.toList.mapM fun f=>DataW.trod enc P w' 0 sp held bD f.type ((sX.drop f.offset).take (P.cellsOf f.type)))=some xs:=
     mapM_carry h1 (fun f y hm hy hx=>IH _ _ y.1 y.2 (GD _ _ hf f hm) hx (fun p hq=>hp p (uo.2 ⟨y,hy,hq⟩)))
    rw [k1];rfl
  ·rename_i sX x1 Lw k e hu;simp only [hu,yh] at hf
   split at h
   case isFalse=>cases h
   rename_i hlen;rw [yT hlen]
   cases h1:(xe k).mapM fun i=>DataW.trod enc P w 0 (fun _=>true) held bD e ((sX.drop (i*P.cellsOf e)).take (P.cellsOf e)) with
   | none=>rw [h1] at h;simp at h
   | some xs=>
    rw [h1] at h;simp only [wD,yd,yq] at h;obtain ⟨rfl,rfl⟩:=h;have k1:((xe k).mapM fun i=>DataW.trod enc P w' 0 sp held bD e ((sX.drop (i*P.cellsOf e)).take (P.cellsOf e)))=some xs:=
     mapM_carry h1 (fun i y _ hy hx=>IH _ _ y.1 y.2 hf.2 hx (fun p hq=>hp p (uo.2 ⟨y,hy,hq⟩)))
    rw [k1];rfl
  all_goals first
   | (cases h;done)
   | (simp_all;done)
def abk (hs:∀b,b<w.heap.size->w'.heap[b]? =w.heap[b]?) {n:Nat}:∀{ts:List yB} {vs:List yg} {ds:List (xF H)} {ps:List wq},ts.all (flat P n)=true->DataW.TrodAll enc P w 0 (fun _=>true) held ts vs ds ps->
  (∀p,p∈ps->sp p.block=true)->DataW.TrodAll enc P w' 0 sp held ts vs ds ps
 | [],[],[],ps,_,h,_=>by simpa only [DataW.TrodAll] using h
 | t::ts,v::vs,d::ds,ps,hf,h,hp=>by
  simp only [yba,yh] at hf;obtain ⟨p,q,⟨bD,h1⟩,h2,rfl⟩:=h;exact ⟨p,q,⟨bD,ab9 hs n bD t _ d p hf.1 h1 (fun x hx=>hp x (uL _ hx))⟩,abk hs hf.2 h2 (fun x hx=>hp x (vK _ hx)),rfl⟩
 | [],_::_,_,_,_,h,_=>by simp [DataW.TrodAll] at h
 | [],[],_::_,_,_,h,_=>by simp [DataW.TrodAll] at h
 | _::_,[],_,_,_,h,_=>by simp [DataW.TrodAll] at h
 | _::_,_::_,[],_,_,h,_=>by simp [DataW.TrodAll] at h
end
end
section
open Go Go.ChangeShapes Go.WideShapes
section
variable {H:Type} {enc:yB×yg->H} {P:y9} {W W':yi}
def aqk (hc:Calm W W') (may:wq->Prop):W.keptBut W' may:=by
 refine ⟨hc.os,hc.output,fun i hi=>?_⟩;rw [hc.same i hi]
 cases hq:W.heap[i]? with
 | none=>rfl
 | some o=>cases o<;>simp
def aoE (hc:Calm W W') {b off:Nat} (hb:b<W.heap.size):W'.frozen? ⟨b,off,none⟩=W.frozen? ⟨b,off,none⟩:=by
 unfold World.frozen?;simp only;rw [hc.same b hb]
def asc {fn:Func} {s:ybB} {apart fresh handsOn again:Bool} {args:Array yg} {ds gs:List (xF H)} {before:List wq} {n:Nat} {tb:yB}
  (hW:DataW.Whole enc P fn.params.toList s.vars apart W args.toList ds gs before) (hv:s.vars=[]) (NZ:fn.params.toList.all (flat P n)=true) (hc:Calm W W')
  (lf:s.fn H (ds++gs)={results:=[.lit (.bool true)],args:=ds}) (Gh:fn.resultTypes=#[tb]) (kw:P.underlying tb=some .bool):
  s.post enc P fn apart fresh handsOn again W args (.bool true) W':=by
 have aZ:=hW.lt;have jU:=hW;obtain ⟨p,q,hA,hV,hpq,hz,hn⟩:=hW;rw [hv] at hV;have hq:gs=[]/\q=[]:=by
  cases gs with
  | nil=>exact ⟨rfl,by simpa only [DataW.TrodVars] using hV⟩
  | cons g gs=>simp [DataW.TrodVars] at hV
 obtain ⟨rfl,rfl⟩:=hq;have hbp:before=p:=by rw [hpq];simp
 subst hbp;have ic:∀sp:Nat->Bool,(∀p∈before,sp p.block=true)->DataW.TrodAll enc P W' 0 sp true fn.params.toList args.toList ds before:=fun sp h=>abk hc.same NZ hA h
 have ajg:∀(b:Nat) (sp:Nat->Bool) (hd:Bool),DataW.TrodAll enc P W' b sp hd fn.resultTypes.toList ((Value.bool true).resultList fn.resultTypes.size) [.lit (.bool true)] []:=by
  intro b sp hd;rw [Gh];refine ⟨[],[],⟨1,?_⟩,rfl,rfl⟩;simp [DataW.trod,kw,Value.cells]
 have hold:∀p∈before,(fun b=>decide (b<W.heap.size)) p.block=true:=fun p hp=>by simpa using aZ p hp
 have ajh:∀sp:Nat->Bool,DataW.TrodVars enc P W' sp s.vars ([]:List (xF H)) []:=fun sp=>by rw [hv];rfl
 refine ⟨ds,[],before,[],before,[],jU,by rw [lf];exact ajg _ _ _,by rw [lf];exact ic _ hold,by rw [lf];exact ajh _,aqk hc _,fun _=>?_⟩
 refine ⟨?_,[.lit (.bool true)]++ds,[],[]++before++[],⟨[]++before,[],trodAll_append (ic _ (fun _ _=>rfl)) (ajg _ _ _),ajh _,rfl,?_,?_⟩,?_⟩
 ·intro j t r h1 h2;rw [Gh] at h1 h2
  cases j with
  | zero=>
   simp only [List.getElem?_toArray,vI,yd] at h1;simp only [Value.resultList,List.size_toArray,yI,yP,xD,ye,vI,yd] at h2;subst h1;subst h2;simp [Value.okWide,kw,Cell.okWide,Cell.ok]
  | succ j=>simp at h1
 ·intro b off hp;have hp:MemPlace.cell b off∈before:=by simpa using hp
  rw [aoE hc (b:=b) (aZ _ hp)];exact hz b off hp
 ·intro ha
  have:=hn ha
  simpa using this
 ·intro p hp _;simpa using hp
def aql {O:bA} {n k:Nat} {fn:Func} {s:ybB} {apart fresh handsOn again:Bool} {base:Nat} {args:Array yg} {ds gs:List (xF H)} {before:List wq} {tb:yB}
  (hp:eH O n (zO O.P k fn.params.toList ds) (.bool true)) (rE:O.w0=W) (lf:O.P.funcs[O.ah n]? =some fn) (hb:fn.body.isSome=true) (Az:fn.name≠ "runtime.NumGoroutine")
  (aT:∀(j:Nat) t v,fn.params[j]? =some t->args[j]? =some v->Value.okWide O.P W .any base t v)
  (hW:DataW.Whole enc O.P fn.params.toList s.vars apart W args.toList ds gs before) (hv:s.vars=[]) (NZ:fn.params.toList.all (flat O.P k)=true)
  (hfs:s.fn H (ds++gs)={results:=[.lit (.bool true)],args:=ds}) (Gh:fn.resultTypes=#[tb]) (kw:O.P.underlying tb=some .bool):
  Calls O.P (O.ah n) args W fun e W'=>∃v,e= .returned v/\s.post enc O.P fn apart fresh handsOn again W args v W':=by
 have hA:=hW;obtain ⟨p,q,hA,_⟩:=hA;obtain ⟨h1,h2⟩:=adO (ah:=O.ah) (m:=fa) (S:=fun b=>b<W.heap.size) (fun b hb=>hb) NZ hA (fun j t v a b=>aT j t v (by simpa using a) (by simpa using b));have hi:=hp W (fun b=>b<W.heap.size) args ⟨fun b _=>by rw [rE],by rw [rE];exact yv _⟩ (fun b hb=>hb) h1 h2
 have key:∀e W',ady O W (fun b=>b<W.heap.size) (.bool true) e W'->∃v,e= .returned v/\s.post enc O.P fn apart fresh handsOn again W args v W':=by
  rintro e W' ⟨u,S',rfl,hc,_,_,_,hr⟩;simp only [nh,iA,ai] at hr;obtain ⟨_,_,hu,_⟩:=hr;subst hu;exact ⟨_,rfl,asc hW hv NZ hc hfs Gh kw⟩
 rcases hi with ⟨_,hi⟩ | ⟨u,w',hi,_⟩
 ·exact callsIn_wide.1 (hi.mono key)
 ·rw [MX lf hb Az] at hi;cases hi
end
end
section
namespace J1
open Go Go.Proofs
noncomputable def O (W:yi):bA:=⟨Tryz.prog,VE.aE,Ab zc.ah,VE.prog,NY zc.ck zc.hd,W⟩
def acU {w:yi} {k:Nat} {os:Array Go.Obj}:Calm w (Go.Sort.grow (w.drewN k) os):=Ik (Lib.below_grow w.heap.size w (yv _) k os)
def adP {W w:yi} (h:Lib.TabIs Tryz.prog W "internal/strconv.uint64pow10" .u64 Lib.pow10Tab) (hg:Bn (O W) w):Lib.TabIs Tryz.prog w "internal/strconv.uint64pow10" .u64 Lib.pow10Tab:=by
 unfold Lib.TabIs World.var? at h ⊢
 cases hn:Tryz.prog.globalNamed "internal/strconv.uint64pow10" with
 | none=>rw [hn] at h;exact h
 | some g=>
  rw [hn] at h;simp only [xO] at h ⊢;have hb:g<W.heap.size:=by
   cases hq:W.heap[g]? with
   | none=>rw [hq] at h;cases h
   | some o=>exact (xy.1 hq).1
  rw [hg.1 g hb];exact h
def aBt:∀args w,(callFunc 129 args).run Tryz.prog w= .ok (.enter 129 args) w:=enters_of Tryz.func129 (by kernel_rfl) rfl
def aBu:∀args w,(callFunc 154 args).run Tryz.prog w= .ok (.enter 154 args) w:=enters_of Tryz.func154 (by kernel_rfl) rfl
def aBv:∀args w,(callFunc 202 args).run Tryz.prog w= .ok (.enter 202 args) w:=enters_of Tryz.func202 (by kernel_rfl) rfl
def aBw:∀args w,(callFunc 203 args).run Tryz.prog w= .ok (.enter 203 args) w:=enters_of Tryz.func203 (by kernel_rfl) rfl
def aBx:∀args w,(callFunc 204 args).run Tryz.prog w= .ok (.enter 204 args) w:=enters_of Tryz.func204 (by kernel_rfl) rfl
def aBy:∀args w,(callFunc 178 args).run Tryz.prog w= .ok (.enter 178 args) w:=enters_of Tryz.func178 (by kernel_rfl) rfl
def aBz:∀args w,(callFunc 182 args).run Tryz.prog w= .ok (.enter 182 args) w:=enters_of Tryz.func182 (by kernel_rfl) rfl
def aBA:∀args w,(callFunc 183 args).run Tryz.prog w= .ok (.enter 183 args) w:=enters_of Tryz.func183 (by kernel_rfl) rfl
def aBB:∀args w,(callFunc 184 args).run Tryz.prog w= .ok (.enter 184 args) w:=enters_of Tryz.func184 (by kernel_rfl) rfl
def aBC:∀args w,(callFunc 192 args).run Tryz.prog w= .ok (.enter 192 args) w:=enters_of Tryz.func192 (by kernel_rfl) rfl
def aBD:∀args w,(callFunc 223 args).run Tryz.prog w= .ok (.enter 223 args) w:=enters_of Tryz.func223 (by kernel_rfl) rfl
def aBE:∀args w,(callFunc 167 args).run Tryz.prog w= .ok (.enter 167 args) w:=enters_of Tryz.func167 (by kernel_rfl) rfl
def aue (b:Nat) (w:yi):(callFunc 198 #[.float .f64 b]).run Tryz.prog w= .ok (.value (.int .u64 b)) w:=by
 rw [run_callFunc_extern Tryz.func198 (by kernel_rfl) (by kernel_rfl) (by kernel_rfl) (e:=Extern.MathFloatBits.float64bits) (by kernel_rfl)];rfl
def aoF (b:Nat) (w:yi):(callFunc 201 #[.int .u64 b]).run Tryz.prog w= .ok (.value (.float .f64 b)) w:=by
 rw [run_callFunc_extern Tryz.func201 (by kernel_rfl) (by kernel_rfl) (by kernel_rfl) (e:=Extern.MathFloatBits.float64frombits) (by kernel_rfl)];rfl
def aAe (W:yi) (n:Nat) (sp:List AV->Option AV):Prop:=∀az r,sp az=some r->eH (O W) n az r
section
variable {W:yi} {m:Int} (hm:W.cell? ⟨1,0,none⟩=some (.int .i64 m)) (ht:Lib.TabIs Tryz.prog W "internal/strconv.uint64pow10" .u64 Lib.pow10Tab)
include hm ht
def axs:aj8.lU (aAe W):=
 (Tr.jI (ar2 (O:=O W) (f:=184) (by rfl) aBB (fun s z w hl h=>(Tryz.strconv_Atoi s z hl h w).mono fun _ _ ⟨h1,t,h2⟩=>⟨h1,h2▸Ik (Lib.bytesWorld_below _ _ _)⟩))
  (Tr.jI (ao6 (O:=O W) (f:=204) (by rfl) aBx Tryz.strings_Repeat)
  (Tr.jI (ar1 (O:=O W) (f:=202) (by rfl) aBv (fun z w h0 h1 hg=>(Tryz.strconv_Itoa z h0 h1 w (adP ht hg)).mono fun _ _ ⟨h1,k,os,h2⟩=>⟨h1,h2▸acU⟩))
  (Tr.jI (an3 (O:=O W) (f:=154) (by rfl) aBu Tryz.strings_CutPrefix)
  (Tr.jI (atU (O:=O W) (f:=129) (by rfl) aBt (a:=⟨1,0,none⟩) (m:=m) hm (fun s sep w hs hc=>Tryz.strings_Cut s sep m w hs hc))
  Tr.iY Tr.iY) Tr.iY) (Tr.jI (an1 (O:=O W) (f:=203) (by rfl) aBw (fun z w hz hg=>(Tryz.anR z hz w (adP ht hg)).mono fun _ _ ⟨h1,k,os,h2⟩=>⟨h1,h2▸acU⟩))
  Tr.iY Tr.iY)) (Tr.jI (an4 (O:=O W) (f:=182) (by rfl) aBz Tryz.strings_HasPrefix)
  (Tr.jI (aqc (O:=O W) (f:=178) (by rfl) aBy (fun x y w hx hy=>Tryz.bits_Mul64 x y hx hy w))
  Tr.iY Tr.iY) (Tr.jI (an0 (O:=O W) (f:=183) (by rfl) aBA Tryz.strings_TrimPrefix)
  Tr.iY Tr.iY))) (Tr.jI (aqf (O:=O W) (f:=209) (by rfl) (fun x y b w h=>Tryz.bits_Sub64 x y b h w))
  (Tr.jI (ar3 (O:=O W) (f:=223) (by rfl) aBD (fun x w h0 h1=>Tryz.bits_LeadingZeros64 x w h0 h1))
  (Tr.jI (ar0 (O:=O W) (f:=192) (by rfl) aBC (fun s cs w hs jQ ha=>Tryz.aog s cs w hs jQ ha))
  Tr.iY Tr.iY) (Tr.jI (aqe (O:=O W) (f:=207) (by rfl) (fun x y c w h=>Tryz.bits_Add64 x y c h w))
  Tr.iY Tr.iY)) (Tr.jI (aos (O:=O W) (f:=198) (by rfl) aue)
  (Tr.jI (aqd (O:=O W) (f:=167) (by rfl) aBE (fun x w h0 h1=>Tryz.bits_Len64 x w h0 h1))
  Tr.iY Tr.iY) (Tr.jI (anX (O:=O W) (f:=201) (by rfl) aoF)
  Tr.iY Tr.iY))))
def auf:eR (O W) where
 hint n f g h:=Tr.CK (p:=fun f g=>Ab zc.ah g=f) (RE zc.av8) h
 mixed:=by kernel_rfl
 prog n F h:=Tr.CK zc.aua h
 aE n sp az r h hs:=Tr.CK (axs hm ht) h az r hs
 FI n sp hp ct az v ak aP h:=by cases h
end
end J1
end
section
def cf:List Int->Int
 | []=>0
 | a::r=>if a=0 then cf r else a
def aoG {l:List Int} {i:Nat} (h:i<l.length):cf (l.drop i)=if l[i]=0 then cf (l.drop (i+1)) else l[i]:=by
 rw [yS h,cf]
def nj (lo hi:Int):List Int->Bool
 | []=>false
 | a::r=>if a<lo\/hi<a then true else nj lo hi r
def aji (n:Nat) (lo hi:Int):List (List Int)->Int
 | []=>0
 | r::s=>if r.length≠n then 2 else if nj lo hi r=true then 3 else aji n lo hi s
def aqm (s:List (List Int)):Int:=if s.length=0 then 12 else if 16<s.length then 5 else aji s.length (-1000) 1000 s
def adQ {lo hi:Int} {l:List Int} (h:nj lo hi l=false):∀i (dS:i<l.length),lo<=l[i]/\l[i]<=hi:=by
 induction l with
 | nil=>intro i dS;exact absurd dS (Nat.not_lt_zero _)
 | cons a r ih=>
  simp only [nj] at h
  grind
def aqn {lo hi:Int} {l:List Int} (h:nj lo hi l=false):∀i,nj lo hi (l.take i)=false:=by
 induction l with
 | nil=>intro i;simp [nj]
 | cons a r ih=>
  intro i;simp only [nj] at h
  split at h
  ·grind
  ·rename_i hc
   cases i with
   | zero=>simp [nj]
   | succ i=>simp only [List.take_succ_cons,nj,hc,xi,ih h i]
end
section
def dv:List Int->Nat
 | []=>0
 | a::r=>a.toNat+1000000000*dv r
def mM:∀(a b:List Int),dv (a++b)=dv a+1000000000^a.length*dv b
 | [],b=>by simp [dv]
 | x::a,b=>by
  simp only [xk,dv,mM a b,yI,xd,xG]
  grind
def pc {l:List Int} (i:Nat):dv (l.take (i+1))=dv (l.take i)+1000000000^i*(l.getD i 0).toNat:=by
 by_cases h:i<l.length
 ·rw [yW h,mM,yy,xm (by omega)];simp [dv,xf,xS h]
 ·rw [yC (by omega),yC (by omega)]
  grind
abbrev dg (l:List Int):Prop:=nj 0 999999999 l=false
def iy {a b:List Int}:dg (a++b)↔dg a/\dg b:=by
 induction a with
 | nil=>simp [dg,nj]
 | cons x a ih=>
  simp only [dg,xk,nj] at ih ⊢
  grind
def lD {x:Int}:dg [x]↔0<=x/\x<1000000000:=by
 simp only [dg,nj]
 grind
def iz {l:List Int} (h:dg l) (i:Nat):0<=l.getD i 0/\l.getD i 0<1000000000:=by
 by_cases hi:i<l.length
 ·have:=adQ h i hi
  grind
 ·grind
def CP {l:List Int} (h:dg l) (i:Nat):dg (l.take i):=aqn h i
def jK:∀{l:List Int},dg l->dv l<1000000000^l.length
 | [],_=>by simp [dv]
 | x::l,h=>by
  have h':dg ([x]++l):=h;obtain ⟨h1,h2⟩:=iy.1 h';have h1:=lD.1 h1
  have:=jK h2
  simp only [dv,yI,xd];omega
def eb:List Int->List Int
 | []=>[]
 | a::r=>match eb r with | []=>if a=0 then [] else [a] | t::q=>a::t::q
def Im:∀l:List Int,eb (l++[0])=eb l
 | []=>rfl
 | a::l=>by simp only [xk,eb,Im l]
def Mv {a:Int} (h:a≠0):∀l:List Int,eb (l++[a])=l++[a]
 | []=>by simp [eb,h]
 | b::l=>by
  simp only [xk,eb,Mv h l]
  cases hq:l++[a] with
  | nil=>simp at hq
  | cons t q=>rfl
def zu:∀l:List Int,dv (eb l)=dv l
 | []=>rfl
 | a::l=>by
  have ih:=zu l;simp only [eb,dv]
  split
  ·rename_i h;rw [h] at ih
   split
   ·rename_i h0;subst h0;simp [dv,<-ih]
   ·simp [dv,<-ih]
  ·rename_i t q h;rw [h] at ih;simp only [dv] at ih ⊢;omega
def AZ:∀{l:List Int},dg l->dg (eb l)
 | [],_=>rfl
 | a::l,h=>by
  have h':dg ([a]++l):=h;obtain ⟨h1,h2⟩:=iy.1 h';have ih:=AZ h2;simp only [eb]
  split
  ·grind
  ·rename_i t q hq;rw [hq] at ih
   exact (iy (a:=[a]) (b:=t::q)).2 ⟨h1,ih⟩
def MI:∀l:List Int,(eb l).length<=l.length
 | []=>yv _
 | a::l=>by
  have ih:=MI l;simp only [eb]
  grind
def snoc {α:Type} (l:List α):l=[]\/∃m a,l=m++[a]:=by
 rcases List.eq_nil_or_concat l with h | ⟨m,a,h⟩
 ·grind
 ·grind
def aoH:∀(n:Nat) (l:List Int),l.length=n->eb (eb l)=eb l:=by
 intro n
 induction n with
 | zero=>intro l h;rw [yo h];rfl
 | succ n ih=>
  intro l h;rcases snoc l with rfl | ⟨m,a,rfl⟩
  ·rfl
  ·by_cases h0:a=0
   ·subst h0;rw [Im]
    grind
   ·rw [Mv h0,Mv h0]
def ao9 (l:List Int):eb (eb l)=eb l:=aoH _ l rfl
abbrev nz (l:List Int):Prop:=eb l=l
def ES (l:List Int):nz (eb l):=ao9 l
def N1 {l:List Int} (h:nz l) (hd:dg l) (h0:l≠[]):1000000000^(l.length-1)<=dv l:=by
 rcases snoc l with rfl | ⟨m,a,rfl⟩
 ·grind
 ·by_cases ha:a=0
  ·subst ha
   have:=MI m
   have e:=congrArg tD h;rw [Im] at e
   grind
  ·rw [mM]
   have:=lD.1 (iy.1 hd).2
   simp only [dv,yN,uC,tE,xH,y5];have h1:1<=a.toNat:=by omega
   have:=yZ (1000000000^m.length) h1
   omega
def ahl {l:List Int} (h:nz l) (hd:dg l) (h0:dv l=0):l=[]:=by
 by_cases hl:l=[]
 ·grind
 ·have:=N1 h hd hl
  grind
def Th {a b:List Int} (ha:dg a) (hb:nz b) (cK:dg b) (h:a.length<b.length):dv a<dv b:=by
 have h1:=jK ha;have h2:=N1 hb cK (fun e=>by subst e;simp at h);have h3:1000000000^a.length<=1000000000^(b.length-1):=yY (by decide) (by omega);omega
def dV (m n:Nat):Int:=if m<n then -1 else if n<m then 1 else 0
def aiA {l:List Int} {i:Nat} (h:i<l.length):dv l=dv (l.take i)+1000000000^i*(l[i].toNat+1000000000*dv (l.drop (i+1))):=by
 have e:l=l.take i++l[i]::l.drop (i+1):=by simp_all
 have:dv l=dv (l.take i++l[i]::l.drop (i+1)):=congrArg dv e
 rw [this,mM,yy,xm (by omega)];rfl
def ahm {a b:List Int} {i:Nat} (ha:dg a) (hb:dg b) (h1:i<a.length) (h2:i<b.length) (he:a.drop (i+1)=b.drop (i+1)) (h:a[i]<b[i]):dv a<dv b:=by
 rw [aiA h1,aiA h2,he];have hl:=jK (CP ha i);have g1:=adQ ha i h1;have h3:a[i].toNat+1000000000*dv (b.drop (i+1))+1<=b[i].toNat+1000000000*dv (b.drop (i+1)):=by omega
 have:=yZ (1000000000^i) h3
 grind
def Ti:∀{l:List Int} {j:Nat} {x:Int},j<l.length->dv (l.set j x)+1000000000^j*(l.getD j 0).toNat=dv l+1000000000^j*x.toNat
 | [],j,x,h=>by simp at h
 | a::l,0,x,_=>by simp [dv];omega
 | a::l,j+1,x,h=>by
  have ih:=Ti (l:=l) (j:=j) (x:=x) (by simpa using h);simp only [yau,dv,yao,xd]
  grind
def NG {l:List Int} (h:dg l) {j:Nat} {x:Int} (hx:0<=x/\x<1000000000):dg (l.set j x):=by
 by_cases hj:j<l.length
 ·rw [List.set_eq_take_append_cons_drop,yT hj];have e:l=l.take (j+1)++l.drop (j+1):=(xQ _ _).symm;have hd:dg (l.drop (j+1)):=by rw [e] at h;exact (iy.1 h).2
  exact iy.2 ⟨CP h j,(iy (a:=[x]) (b:=l.drop (j+1))).2 ⟨lD.2 hx,hd⟩⟩
 ·rw [List.set_eq_of_length_le (by omega)];exact h
def adR {l:List Int} {j m:Nat} {x:Int} (h:m≠j):(l.set j x).getD m 0=l.getD m 0:=by grind
def asd {V0 V V' p q A X Y o c s:Nat} (hs:s=o+A*X+c) (a6:V'+p*q*o=V+p*q*(s%1000000000)) (hv:V+p*q*c=V0+p*(A*Y)):
  V'+p*(q*1000000000)*(s/1000000000)=V0+p*(A*(Y+q*X)):=by
 have e:=Nat.mod_add_div s 1000000000;have e2:p*q*s=p*q*(s%1000000000)+p*(q*1000000000)*(s/1000000000):=by
  conv=>lhs;rw [<-e]
  rw [xG,<-xp (p*q),<-xp p q]
 have e3:p*q*s=p*q*o+p*q*(A*X)+p*q*c:=by rw [hs,xG,xG]
 have e4:p*(A*(Y+q*X))=p*(A*Y)+p*q*(A*X):=by
  rw [xG,xG,xp p q,<-xp A q X,xJ A q,xp q A X]
 omega
def adS (n:Nat):dv (yk n 0)=0:=by
 induction n with
 | zero=>rfl
 | succ n ih=>simp [wO,dv,ih]
def adT (n:Nat):dg (yk n 0):=by
 induction n with
 | zero=>rfl
 | succ n ih=>exact (iy (a:=[0]) (b:=yk n 0)).2 ⟨by decide,ih⟩
end
section
def bv (b:Nat):List Nat->Nat
 | []=>0
 | a::r=>a+b*bv b r
def lo (b:Nat) (l:List Nat):Prop:=∀x,x∈l->x<b
section
variable {b:Nat}
def Bg (a:Nat):bv b [a]=a:=by simp [bv]
def rS:∀(l m:List Nat),bv b (l++m)=bv b l+b^l.length*bv b m
 | [],m=>by simp [bv]
 | x::l,m=>by
  simp only [xk,bv,rS l m,yI,xd,xG]
  grind
def gd {l:List Nat} {i:Nat} (h:i<l.length):l[i]=l.getD i 0:=by simp_all
def Tj {l:List Nat} {i:Nat} (h:l.length<=i):l.getD i 0=0:=by simp_all
def jt {l:List Nat} (i:Nat):bv b (l.take (i+1))=bv b (l.take i)+b^i*l.getD i 0:=by
 by_cases h:i<l.length
 ·rw [yW h,rS,yy,xm (by omega),Bg,gd h]
 ·rw [yC (by omega),yC (by omega),Tj (by omega),xH,y5]
def NH:lo b []:=fun _ h=>by simp at h
def MJ {l m:List Nat}:lo b (l++m)↔lo b l/\lo b m:=by
 constructor
 ·intro h;exact ⟨fun x hx=>h x (by simp [hx]),fun x hx=>h x (by simp [hx])⟩
 ·rintro ⟨h1,h2⟩ x hx;rcases List.mem_append.1 hx with h | h
  ·exact h1 x h
  ·exact h2 x h
def Ft {x:Nat}:lo b [x]↔x<b:=by simp [lo]
def ia (hb:0<b) {l:List Nat} (h:lo b l) (i:Nat):l.getD i 0<b:=by
 by_cases hi:i<l.length
 ·rw [<-gd hi];exact h _ (List.getElem_mem hi)
 ·grind
def A6 {l:List Nat} (h:lo b l) (i:Nat):lo b (l.take i):=fun x hx=>h x (List.mem_of_mem_take hx)
def ahn {l:List Nat} (h:lo b l) (i:Nat):lo b (l.drop i):=fun x hx=>h x (List.mem_of_mem_drop hx)
def mf {l:List Nat} (h:lo b l) {i x:Nat} (hx:x<b):lo b (l.set i x):=fun y hy=>by
 rcases List.mem_or_eq_of_mem_set hy with h1 | h1
 ·exact h y h1
 ·omega
def Fu (hb:0<b) (n:Nat):lo b (yk n 0):=fun x hx=>by
 grind
def Fv (n:Nat):bv b (yk n 0)=0:=by
 induction n with
 | zero=>rfl
 | succ n ih=>simp [wO,bv,ih]
def CQ (n m:Nat):(yk n (0:Nat)).getD m 0=0:=by grind
def mj:∀{l:List Nat},lo b l->bv b l<b^l.length
 | [],_=>by simp [bv]
 | x::l,h=>by
  have h1:=h x (by simp);have h2:=mj (l:=l) (fun y hy=>h y (by simp [hy]));simp only [bv,yI,xd,xJ _ b]
  have:=yZ b (show bv b l+1<=b^l.length from h2)
  grind
def nR:∀{l:List Nat} {i x:Nat},i<l.length->bv b (l.set i x)+b^i*l.getD i 0=bv b l+b^i*x
 | [],i,x,h=>by simp at h
 | a::l,0,x,_=>by simp [bv];omega
 | a::l,i+1,x,h=>by
  have ih:=nR (l:=l) (i:=i) (x:=x) (by simpa using h)
  have:=congrArg (fun t=>b*t) ih
  simp only [xG] at this;simp only [yau,bv,yao,xd,xJ _ b,xp] at this ⊢;omega
def pg {l:List Nat} {i m x:Nat} (h:i≠m):(l.set i x).getD m 0=l.getD m 0:=by simp_all
def apa {l:List Nat} {i x:Nat} (h:i<l.length):(l.set i x).getD i 0=x:=by simp_all
def IE (l:List Nat) (i:Nat) (h:i<=l.length):bv b l=bv b (l.take i)+b^i*bv b (l.drop i):=by
 have:=rS (b:=b) (l.take i) (l.drop i)
 simp_all
def ef:List Nat->List Nat
 | []=>[]
 | a::r=>match ef r with | []=>if a=0 then [] else [a] | t::q=>a::t::q
def Mw:∀l:List Nat,ef (l++[0])=ef l
 | []=>rfl
 | a::l=>by simp only [xk,ef,Mw l]
def EG {a:Nat} (h:a≠0):∀l:List Nat,ef (l++[a])=l++[a]
 | []=>by simp [ef,h]
 | b::l=>by
  simp only [xk,ef,EG h l]
  cases hq:l++[a] with
  | nil=>simp at hq
  | cons t q=>rfl
abbrev gW (l:List Nat):Prop:=ef l=l
def apb:∀(n:Nat) (l:List Nat),l.length=n->∃i,i<=n/\ef l=l.take i/\gW (l.take i)/\bv b (l.take i)=bv b l:=by
 intro n
 induction n with
 | zero=>intro l h;rw [yo h];exact ⟨0,yv _,rfl,rfl,rfl⟩
 | succ n ih=>
  intro l h;rcases snoc l with rfl | ⟨m,a,rfl⟩
  ·grind
  ·have hm:m.length=n:=by simp_all
   by_cases h0:a=0
   ·subst h0;obtain ⟨i,h1,h2,h3,h4⟩:=ih m hm;have e:(m++[0]).take i=m.take i:=by grind
    refine ⟨i,by omega,by rw [Mw,h2,e],by rw [e];exact h3,?_⟩
    rw [e,h4,rS];simp [bv]
   ·have e:(m++[a]).take (n+1)=m++[a]:=yC (by simp [hm]);exact ⟨n+1,yv _,by rw [e,EG h0],by rw [e];exact EG h0 m,by rw [e]⟩
def MK (l:List Nat):∃i,i<=l.length/\ef l=l.take i/\gW (ef l)/\bv b (ef l)=bv b l:=by
 obtain ⟨i,h1,h2,h3,h4⟩:=apb (b:=b) l.length l rfl
 grind
def A0 (l:List Nat):bv b (ef l)=bv b l:=by
 obtain ⟨_,_,_,_,h⟩:=MK (b:=b) l;exact h
def A1 (l:List Nat):gW (ef l):=by
 obtain ⟨_,_,_,h,_⟩:=MK (b:=2) l;exact h
def A2 {l:List Nat} (h:lo b l):lo b (ef l):=by
 obtain ⟨i,_,h2,_⟩:=MK (b:=b) l;rw [h2];exact A6 h i
def aqo (l:List Nat):(ef l).length<=l.length:=by
 obtain ⟨i,_,h2,_⟩:=MK (b:=2) l
 grind
def MY {l:List Nat} (h:gW l) (h0:l≠[]):l.getD (l.length-1) 0≠0:=by
 rcases snoc l with rfl | ⟨m,a,rfl⟩
 ·grind
 ·intro ha
  have:a=0:=by
   grind
  subst this;have e:=congrArg tD h;rw [Mw] at e
  have:=aqo m
  grind
def Tk (hb:0<b) {l:List Nat} (h:gW l) (h0:l≠[]):b^(l.length-1)<=bv b l:=by
 rcases snoc l with rfl | ⟨m,a,rfl⟩
 ·grind
 ·have ha:=MY h h0;simp [xf] at ha;rw [rS,Bg];simp only [yN,uC,tE]
  have:=yZ (b^m.length) (show 1<=a by omega)
  omega
def Nl (hb:1<b) {l m:List Nat} (hl:lo b l) (hm:gW m) (h:l.length<m.length):bv b l<bv b m:=by
 have h1:=mj hl;have h2:=Tk (b:=b) (by omega) hm (fun e=>by subst e;simp at h);have h3:b^l.length<=b^(m.length-1):=yY (by omega) (by omega);omega
def aho {l m:List Nat} (hl:lo b l) {i:Nat} (h1:i<l.length) (h2:i<m.length) (he:l.drop (i+1)=m.drop (i+1)) (h:l.getD i 0<m.getD i 0):bv b l<bv b m:=by
 rw [IE l (i+1) (by omega),IE m (i+1) (by omega),he,jt,jt]
 have:=mj (A6 hl i)
 have:=yZ (b^i) (show l.getD i 0+1<=m.getD i 0 from h)
 grind
def aqp (hb:1<b) {l:List Nat} {k:Nat} (h:gW l) (hk:bv b l<b^k):l.length<=k:=by
 by_cases h0:l=[]
 ·grind
 ·have h1:=Tk (b:=b) (by omega) h h0;have h2:b^(l.length-1)<b^k:=wJ h1 hk
  have:=(Nat.pow_lt_pow_iff_right hb).1 h2
  omega
def aca {V v1 v2 vr U u0 u1 u2 ur p t r:Nat} (hV:V=(v1*b+v2)*p+vr) (hU:U=((u0*b+u1)*b+u2)*p+ur) (hur:ur<p)
  (ht:t*v1+r=u0*b+u1) (h:r*b+u2<t*v2):U/V<=t-1:=by
 have h1:U<t*V:=by
  have e:t*((v1*b+v2)*p)=((t*v1)*b+t*v2)*p:=by
   grind
  have h2:((u0*b+u1)*b+u2)+1<=(t*v1)*b+t*v2:=by rw [<-ht,wE];omega
  have h3:=yQ p h2;rw [hV,hU,xG,e]
  grind
 have rF:0<V:=by
  grind
 have:=(Nat.div_lt_iff_lt_mul rF).2 h1
 omega
def acV {V v1 v2 vr U u0 u1 u2 ur p t r:Nat} (hb:0<b) (hV:V=(v1*b+v2)*p+vr) (Lx:vr<p) (hU:U=((u0*b+u1)*b+u2)*p+ur) (fb:0<v1) (dF:v2<b) (kw:t<b)
  (ht:t*v1+r=u0*b+u1) (h:b<=r\/t*v2<=r*b+u2):t<=U/V+1:=by
 have h2:t*v2<=r*b+u2:=by
  rcases h with h | h
  ·have:=Nat.mul_le_mul (uW kw) (uW dF)
   have:=yQ b h
   omega
  ·exact h
 have h3:t*(v1*b+v2)<=(u0*b+u1)*b+u2:=by
  rw [xG,<-xp,<-ht,wE];omega
 have hp:0<p:=by omega
 have aIU:b<=v1*b:=Nat.le_mul_of_pos_left b fb;have rF:0<V:=by
  have:=yab (show 0<v1*b+v2 by omega) hp
  omega
 rcases xq t with h0 | h0
 ·grind
 ·obtain ⟨s,rfl⟩:∃s,t=s+1:=⟨t-1,by omega⟩;have h4:s*V<=U:=by
   have h5:V<=(v1*b+v2+1)*p:=by grind
   have h6:=yZ s h5;have h7:s*(v1*b+v2+1)<=(s+1)*(v1*b+v2):=by
    grind
   have h8:=yQ p (Nat.le_trans h7 h3)
   grind
  exact Nat.succ_le_succ ((yal rF).2 h4)
def Ru {V v1 v2 vr U u0 u1 u2 ur p:Nat} (hV:V=(v1*b+v2)*p+vr) (hU:U=((u0*b+u1)*b+u2)*p+ur) (hur:ur<p) (AE:u2<b) (fb:0<v1):U/V<=(u0*b+u1)/v1:=by
 by_cases rF:V=0
 ·grind
 ·refine (yal fb).2 ?_;have h1:=Nat.div_mul_le_self U V;generalize U/V=q at h1 ⊢;have h2:q*v1*(b*p)<=q*V:=by
   rw [hV,xp]
   grind
  have h3:U<(u0*b+u1+1)*(b*p):=by
   have:(u0*b+u1)*b+u2+1<=(u0*b+u1+1)*b:=by grind
   have:=yQ p this
   grind
  have h4:q*v1*(b*p)<(u0*b+u1+1)*(b*p):=by omega
  have:=tI h4
  omega
def acW {V v1 v2 vr U u0 u1 u2 ur p:Nat} (hV:V=(v1*b+v2)*p+vr) (hU:U=((u0*b+u1)*b+u2)*p+ur) (Lx:vr<p) (dF:v2<b) (h:U<b*V):u0<=v1:=by
 refine Nat.le_of_lt_succ ?_;have h1:V<(v1+1)*(b*p):=by
  have:v1*b+v2+1<=(v1+1)*b:=by grind
  have:=yQ p this
  grind
 have h2:u0*(b*(b*p))<=U:=by
  grind
 have h3:=yZ b (uW h1);have e:b*((v1+1)*(b*p))=(v1+1)*(b*(b*p)):=by grind
 rw [e] at h3;have h4:u0*(b*(b*p))<(v1+1)*(b*(b*p)):=wJ h2 (yU h h3);exact tI h4
end
end
section
section
variable {P:aM} {L:Lib} {f:cD} {F:Nat->cD}
def Ce (f:cD) (F:Nat->cD):Prop:=∀c s r,f c s=some r->∃n,F n c s=some r
def Mon (F:Nat->cD):Prop:=∀n m,n<=m->Le (F n) (F m)
def Mf (h:Ce f F) (n:Nat) (az:List AV) (r:AV) (hr:bP P L f n az=some r):∃k,bP P L (F k) n az=some r:=by
 unfold bP at hr ⊢
 cases hL:L.pure n with
 | some sp=>exact ⟨0,by simpa only [hL] using hr⟩
 | none=>
  simp only [hL] at hr ⊢
  cases hP:P n with
  | none=>simp [hP] at hr
  | some G=>
   simp only [hP] at hr ⊢
   cases hf:f G.body ⟨dM 0 az,[],0,0⟩ with
   | none=>simp [hf] at hr
   | some q=>
    obtain ⟨k,hk⟩:=h _ _ _ hf
    grind
def RF (h:Ce f F) (hp:Hp) (ct:Nat) (n:Nat) (az:List AV) (r:AV×Hp×Nat) (hr:hZ P L f hp ct n az=some r):∃k,hZ P L (F k) hp ct n az=some r:=by
 unfold hZ at hr ⊢
 cases hL:L.heap n with
 | some sp=>exact ⟨0,by simpa only [hL] using hr⟩
 | none=>
  simp only [hL] at hr ⊢
  cases hP:P n with
  | none=>simp [hP] at hr
  | some G=>
   simp only [hP] at hr ⊢
   cases hf:f G.body ⟨dM 0 az,hp,ct,ct⟩ with
   | none=>simp [hf] at hr
   | some q=>
    obtain ⟨k,hk⟩:=h _ _ _ hf
    grind
def abH (h:Ce f F) (hm:Mon F) (hp:Hp) (ct:Nat) (l:Nat) (xs:List AV) (r:AV×Hp×Nat) (hr:nM f hp ct l xs=some r):∃k,nM (F k) hp ct l xs=some r:=by
 have key:∃k,∀g,Le (F k) g->nM g hp ct l xs=some r:=by
  unfold nM at hr
  cases hl:ay hp l with
  | none=>simp [hl] at hr
  | some o=>
   split at hr
   ·rename_i tm ps cQ body pe mD
    cases hb:r7 tm ps xs with
    | none=>simp [hb] at hr
    | some tm'=>
     simp only [hb] at hr
     cases h1:f cQ ⟨tm',hp,ct,ct⟩ with
     | none=>simp [h1] at hr
     | some q=>
      obtain ⟨k1,jE⟩:=h _ _ _ h1
      split at hr
      ·rename_i s1 Up
       split at hr
       ·rename_i jP DU B0 Dm Ar aj5
        cases h2:f body ⟨s1.tm,a6 s1.hp l (.lp jP DU B0 Dm 1 Ar),s1.ct,s1.ct⟩ with
        | none=>simp [h2] at hr
        | some q2=>
         obtain ⟨k2,dj⟩:=h _ _ _ h2;refine ⟨max k1 k2,fun g hg=>?_⟩;have e1:=hg _ _ _ (hm k1 _ (vZ k1 k2) _ _ _ jE);have e2:=hg _ _ _ (hm k2 _ (vO k1 k2) _ _ _ dj);unfold nM
         grind
       ·simp at hr
      ·simp at hr
   ·simp at hr
 obtain ⟨k,hk⟩:=key;exact ⟨k,hk _ (fun _ _ _ h=>h)⟩
def acb (h:Ce f F) (hm:Mon F) (hp:Hp) (ct:Nat) (m:Md) (fv:AV) (xs:List AV) (r:AV×Hp×Nat) (hr:dO P L f hp ct m fv xs=some r):∃k,dO P L (F k) hp ct m fv xs=some r:=by
 unfold dO at hr ⊢
 split at hr
 ·rename_i n first cap
  cases m with
  | pure=>
   cases hz:cO deep hp (first++(xs++cap)) with
   | none=>simp [hz] at hr
   | some q=>
    simp only [hz] at hr ⊢
    cases hc:bP P L f n q.1 with
    | none=>simp [hc] at hr
    | some u=>
     obtain ⟨k,hk⟩:=Mf h n q.1 u hc
     grind
  | own=>
   cases hz:cO deep hp (first++(xs++cap)) with
   | none=>simp [hz] at hr
   | some q=>
    simp only [hz] at hr ⊢
    cases hc:bP P L f n q.1 with
    | none=>simp [hc] at hr
    | some u=>
     obtain ⟨k,hk⟩:=Mf h n q.1 u hc
     grind
  | heap=>exact RF h _ _ _ _ _ hr
  | dyn=>
   cases hz:aK (first++(xs++cap)) with
   | true=>
    simp only [hz,yA] at hr ⊢
    cases hc:bP P L f n (first++(xs++cap)) with
    | none=>simp [hc] at hr
    | some u=>
     obtain ⟨k,hk⟩:=Mf h n _ u hc
     grind
   | false=>
    simp only [hz,yV] at hr ⊢;exact RF h _ _ _ _ _ hr
 ·split at hr
  ·exact abH h hm _ _ _ _ _ hr
  ·exact abH h hm _ _ _ _ _ hr
  ·simp at hr
 ·simp at hr
def ase (h:Ce f F) (hm:Mon F) (tm:Env) (hp:Hp) (ct:Nat) (o:Op) (r:AV×Hp×Nat) (hr:bf P L f tm hp ct o=some r):∃k,bf P L (F k) tm hp ct o=some r:=by
 unfold bf at hr ⊢
 split at hr
 ·exact acb h hm _ _ _ _ _ _ hr
 ·rename_i rs fv xs
  cases hc:dO P L f hp ct .dyn (aF tm fv) (dD tm xs) with
  | none=>simp [hc] at hr
  | some q=>
   obtain ⟨k,hk⟩:=acb h hm _ _ _ _ _ _ hc
   grind
 all_goals exact ⟨0,by simpa only using hr⟩
def R2 (h:Ce f F) (hm:Mon F):∀(ops:List bh) (s s':St),dP P L f ops s=some s'->∃k,dP P L (F k) ops s=some s'
 | [],s,s',hr=>⟨0,by simpa only [dP] using hr⟩
 | ⟨d,gd,o⟩::r,s,s',hr=>by
  simp only [dP] at hr ⊢
  split at hr
  ·rename_i hw
   cases ho:bf P L f s.tm s.hp s.ct o with
   | none=>simp [ho] at hr
   | some q=>
    obtain ⟨k1,jE⟩:=ase h hm _ _ _ _ _ ho;simp only [ho] at hr;obtain ⟨k2,dj⟩:=R2 h hm r _ _ hr;refine ⟨max k1 k2,?_⟩;rw [acO (hm k1 _ (vZ k1 k2)) _ _ _ _ _ jE];exact Mr (hm k2 _ (vO k1 k2)) r _ _ dj
  ·rename_i hw;exact R2 h hm r _ _ hr
  ·simp at hr
def CH (h:Ce f F) (hm:Mon F):∀(c:VC) (s:St) (r:Ex×St),bO P L f c s=some r->∃k,bO P L (F k) c s=some r
 | .skip,s,r,hr=>⟨0,by simpa only [bO] using hr⟩
 | .aH ops,s,r,hr=>by
  simp only [bO] at hr ⊢
  cases ho:dP P L f ops s with
  | none=>simp [ho] at hr
  | some s'=>
   obtain ⟨k,hk⟩:=R2 h hm _ _ _ ho
   grind
 | .seq a b,s,r,hr=>by
  simp only [bO] at hr ⊢
  cases ha:bO P L f a s with
  | none=>simp [ha] at hr
  | some q=>
   obtain ⟨k1,jE⟩:=CH h hm a s q ha;obtain ⟨ex,s1⟩:=q
   cases ex with
   | normal=>
    simp only [ha] at hr;obtain ⟨k2,dj⟩:=CH h hm b s1 r hr;refine ⟨max k1 k2,?_⟩;rw [qF (hm k1 _ (vZ k1 k2)) a s _ jE];exact qF (hm k2 _ (vO k1 k2)) b s1 r dj
   | ret=>exact ⟨k1,by rw [jE];simpa only [ha] using hr⟩
   | exit id=>exact ⟨k1,by rw [jE];simpa only [ha] using hr⟩
 | .cond x a b,s,r,hr=>by
  simp only [bO] at hr ⊢
  split at hr
  ·rename_i t ht
   cases t with
   | true=>simp only [yA] at hr ⊢;exact CH h hm a s r hr
   | false=>simp only [yV] at hr ⊢;exact CH h hm b s r hr
  ·simp at hr
 | .aG id a,s,r,hr=>by
  simp only [bO] at hr ⊢
  cases ha:bO P L f a s with
  | none=>simp [ha] at hr
  | some q=>
   obtain ⟨k,hk⟩:=CH h hm a s q ha
   grind
 | .kp live,s,r,hr=>⟨0,by simpa only [bO] using hr⟩
 | .fz ts,s,r,hr=>⟨0,by simpa only [bO] using hr⟩
 | .loop live a,s,r,hr=>by
  simp only [bO] at hr ⊢
  cases ha:bO P L f a (aJ live s) with
  | none=>simp [ha] at hr
  | some q=>
   obtain ⟨k1,jE⟩:=CH h hm a _ q ha;obtain ⟨ex,s1⟩:=q
   cases ex with
   | normal=>
    simp only [ha] at hr;obtain ⟨k2,dj⟩:=h _ _ _ hr;refine ⟨max k1 k2,?_⟩;rw [qF (hm k1 _ (vZ k1 k2)) a _ _ jE];exact hm k2 _ (vO k1 k2) _ _ _ dj
   | ret=>exact ⟨k1,by rw [jE];simpa only [ha] using hr⟩
   | exit id=>exact ⟨k1,by rw [jE];simpa only [ha] using hr⟩
 | .rf fv ps cQ body,s,r,hr=>by
  simp only [bO] at hr ⊢
  split at hr
  ·rename_i n first cap hx
   split at hr
   ·grind
   ·rename_i hL
    cases hc:hZ P L f ((s.ct,.lp s.tm ps cQ body 0 .none)::s.hp) (s.ct+1) n (first++(.fn (.y s.ct) [] []::cap)) with
    | none=>simp [hc] at hr
    | some q=>
     obtain ⟨k,hk⟩:=RF h _ _ _ _ _ hc
     grind
  ·simp at hr
 | .exit id,s,r,hr=>⟨0,by simpa only [bO] using hr⟩
 | .ret,s,r,hr=>⟨0,by simpa only [bO] using hr⟩
end
section
variable (P:aM) (L:Lib)
noncomputable def D:cD:=fun c s=>@dite _ (∃r n,ev P L n c s=some r) (Classical.propDecidable _) (fun h=>some h.choose) (fun _=>none)
variable {P L}
def akW {c:VC} {s:St} {r:Ex×St} {n:Nat} (h:ev P L n c s=some r):D P L c s=some r:=by
 have hx:∃r n,ev P L n c s=some r:=⟨r,n,h⟩;unfold D;obtain ⟨m,hm⟩:=hx.choose_spec;have e1:=SH P L (vZ n m) _ _ _ h;have e2:=SH P L (vO n m) _ _ _ hm
 grind
def YM {c:VC} {s:St} {r:Ex×St} (h:D P L c s=some r):∃n,ev P L n c s=some r:=by
 unfold D at h;by_cases hx:∃r n,ev P L n c s=some r
 ·grind
 ·grind
def aBF (n:Nat):Le (ev P L n) (D P L):=fun _ _ _ h=>akW h
def ajj:Ce (D P L) (ev P L):=fun _ _ _ h=>YM h
def axt:Mon (ev P L):=fun _ _ h=>SH P L h
def lK (c:VC) (s:St):D P L c s=bO P L (D P L) c s:=by
 cases h:D P L c s with
 | some r=>
  obtain ⟨n,hn⟩:=YM h
  cases n with
  | zero=>rw [IS] at hn;cases hn
  | succ n=>rw [IT] at hn;exact (qF (aBF n) c s r hn).symm
 | none=>
  cases hs:bO P L (D P L) c s with
  | none=>rfl
  | some r=>
   obtain ⟨n,hn⟩:=CH ajj axt c s r hs;rw [<-IT] at hn;rw [akW hn] at h;cases h
def aiB {f:Nat} {az:List AV} {r:AV} (h:bP P L (D P L) f az=some r):∃n,Zy P L n f az=some r:=Mf ajj f az r h
end
end
section
open Go (IntKind BinOp UnOp)
section
variable {P:aM} {L:Lib}
structure Has (P:aM) (L:Lib) (n:Nat) (F:aV):Prop where
 pure:L.pure n=none
 heap:L.heap n=none
 code:P n=some F
noncomputable def jL (P:aM) (L:Lib) (r:Option (Ex×St)) (b:VC):Option (Ex×St):=match r with | some (.normal,s)=>D P L b s | r=>r
def mX (id:Nat) (r:Option (Ex×St)):Option (Ex×St):=match r with | some (.exit j,s)=>bif yx j id then some (.normal,s) else some (.exit j,s) | r=>r
noncomputable def JO (P:aM) (L:Lib) (live:List Nat) (a:VC) (r:Option (Ex×St)):Option (Ex×St):=match r with | some (.normal,s)=>D P L (.loop live a) s | r=>r
def norm (r:Option St):Option (Ex×St):=match r with | some s=>some (.normal,s) | none=>none
noncomputable def N2 (P:aM) (L:Lib) (v:AV) (a b:VC) (s:St):Option (Ex×St):=match v with | .bool t=>bif t then D P L a s else D P L b s | _=>none
def axu (s:St):D P L .skip s=some (.normal,s):=by rw [lK];rfl
def axv (id:Nat) (s:St):D P L (.exit id) s=some (.exit id,s):=by rw [lK];rfl
def aAf (s:St):D P L .ret s=some (.ret,s):=by rw [lK];rfl
def YN (live:List Nat) (s:St):D P L (.kp live) s=some (.normal,aJ live s):=by rw [lK];rfl
def aBG (ts:List Nat) (s:St):D P L (.fz ts) s=norm (pw ts s):=by rw [lK];rfl
def aAg (ops:List bh) (s:St):D P L (.aH ops) s=norm (dP P L (D P L) ops s):=by rw [lK];rfl
def j8 (a b:VC) (s:St):D P L (.seq a b) s=jL P L (D P L a s) b:=by
 rw [lK,lK a];simp only [bO,jL]
 cases bO P L (D P L) a s with
 | none=>rfl
 | some q=>
  obtain ⟨e,s1⟩:=q
  cases e with
  | normal=>exact (lK b s1).symm
  | ret=>rfl
  | exit id=>rfl
def axw (x:X) (a b:VC) (s:St):D P L (.cond x a b) s=N2 P L (aF s.tm x) a b s:=by
 rw [lK];simp only [bO,N2]
 cases aF s.tm x with
 | bool t=>
  cases t with
  | true=>exact (lK a s).symm
  | false=>exact (lK b s).symm
 | _=>rfl
def aAh (id:Nat) (a:VC) (s:St):D P L (.aG id a) s=mX id (D P L a s):=by
 rw [lK,lK a];simp only [bO,mX]
 cases bO P L (D P L) a s with
 | none=>rfl
 | some q=>obtain ⟨e,s1⟩:=q;cases e<;>rfl
def NI (live:List Nat) (a:VC) (s:St):D P L (.loop live a) s=JO P L live a (D P L a (aJ live s)):=by
 rw [lK,lK a];simp only [bO,JO]
 cases bO P L (D P L) a (aJ live s) with
 | none=>rfl
 | some q=>obtain ⟨e,s1⟩:=q;cases e<;>rfl
def fK (s:St) (b:VC):jL P L (some (.normal,s)) b=D P L b s:=rfl
def aug (s:St) (b:VC):jL P L (some (.ret,s)) b=some (.ret,s):=rfl
def auh (id:Nat) (s:St) (b:VC):jL P L (some (.exit id,s)) b=some (.exit id,s):=rfl
def ahp (live:List Nat) (a:VC) (s:St):JO P L live a (some (.normal,s))=D P L (.loop live a) s:=rfl
def aui (live:List Nat) (a:VC) (s:St):JO P L live a (some (.ret,s))=some (.ret,s):=rfl
def auj (live:List Nat) (a:VC) (id:Nat) (s:St):JO P L live a (some (.exit id,s))=some (.exit id,s):=rfl
def auk (id:Nat) (s:St):mX id (some (.normal,s))=some (.normal,s):=rfl
def aul (id:Nat) (s:St):mX id (some (.ret,s))=some (.ret,s):=rfl
def SJ (id:Nat) (s:St):mX id (some (.exit id,s))=some (.normal,s):=by simp only [mX,wP,yA]
def aum {id j:Nat} (s:St) (h:j≠id):mX id (some (.exit j,s))=some (.exit j,s):=by
 have:yx j id=false:=by
  cases hq:yx j id with
  | false=>rfl
  | true=>exact absurd (yt hq) h
 simp only [mX,this,yV]
def axx (s:St):norm (some s)=some (.normal,s):=rfl
def axy:norm none=none:=rfl
def aun (a b:VC) (s:St):N2 P L (.bool true) a b s=D P L a s:=rfl
def auo (a b:VC) (s:St):N2 P L (.bool false) a b s=D P L b s:=rfl
noncomputable def TN (P:aM) (L:Lib) (d:Option Nat) (r:List bh) (tm:Env) (base:Nat) (q:gF):Option St:=
 match q with | some (v,hp,ct)=>dP P L (D P L) r ⟨put d v tm,hp,ct,base⟩ | none=>none
noncomputable def Df (P:aM) (L:Lib) (v:AV) (b:Bool) (d:Option Nat) (o:Op) (r:List bh) (s:St):Option St:=
 match v with
 | .bool c=>bif c==b then dP P L (D P L) (⟨d,none,o⟩::r) s else dP P L (D P L) r ⟨put d (.ae []) s.tm,s.hp,s.ct,s.base⟩
 | .ae []=>dP P L (D P L) r ⟨put d (.ae []) s.tm,s.hp,s.ct,s.base⟩
 | _=>none
def aup (s:St):dP P L (D P L) [] s=some s:=rfl
def asf (d:Option Nat) (o:Op) (r:List bh) (tm:Env) (hp:Hp) (ct base:Nat):
  dP P L (D P L) (⟨d,none,o⟩::r) ⟨tm,hp,ct,base⟩=TN P L d r tm base (bf P L (D P L) tm hp ct o):=by
 simp only [dP,TN]
 grind
def aqq (d:Option Nat) (t:Nat) (b:Bool) (o:Op) (r:List bh) (tm:Env) (hp:Hp) (ct base:Nat):
  dP P L (D P L) (⟨d,some (t,b),o⟩::r) ⟨tm,hp,ct,base⟩=Df P L (af tm t) b d o r ⟨tm,hp,ct,base⟩:=by
 simp only [dP,Df]
 cases af tm t with
 | bool c=>
  simp only
  cases hc:(c==b) with
  | true=>simp only [yA]
  | false=>simp only [yV]
 | ae vs=>cases vs<;>rfl
 | _=>rfl
def auq (d:Option Nat) (r:List bh) (tm:Env) (base:Nat) (v:AV) (hp:Hp) (ct:Nat):TN P L d r tm base (some (v,hp,ct))=dP P L (D P L) r ⟨put d v tm,hp,ct,base⟩:=rfl
def aAi (i:Nat) (v:AV) (tm:Env):put (some i) v tm=(i,v)::tm:=rfl
def aAj (v:AV) (tm:Env):put none v tm=tm:=rfl
def asg (d:Option Nat) (o:Op) (r:List bh) (s:St):Df P L (.bool true) true d o r s=dP P L (D P L) (⟨d,none,o⟩::r) s:=rfl
def ash (d:Option Nat) (o:Op) (r:List bh) (s:St):Df P L (.bool false) false d o r s=dP P L (D P L) (⟨d,none,o⟩::r) s:=rfl
def asi (d:Option Nat) (o:Op) (r:List bh) (tm:Env) (hp:Hp) (ct base:Nat):Df P L (.bool true) false d o r ⟨tm,hp,ct,base⟩=dP P L (D P L) r ⟨put d (.ae []) tm,hp,ct,base⟩:=rfl
def asj (d:Option Nat) (o:Op) (r:List bh) (tm:Env) (hp:Hp) (ct base:Nat):Df P L (.bool false) true d o r ⟨tm,hp,ct,base⟩=dP P L (D P L) r ⟨put d (.ae []) tm,hp,ct,base⟩:=rfl
def aur (b:Bool) (d:Option Nat) (o:Op) (r:List bh) (tm:Env) (hp:Hp) (ct base:Nat):Df P L (.ae []) b d o r ⟨tm,hp,ct,base⟩=dP P L (D P L) r ⟨put d (.ae []) tm,hp,ct,base⟩:=rfl
def hX {j i:Nat} (h:j≠i):yx j i=false:=by
 cases hq:yx j i with
 | false=>rfl
 | true=>exact absurd (yt hq) h
def axz (tm:Env) (i:Nat):aF tm (.t i)=af tm i:=rfl
def axA (tm:Env) (v:AV):aF tm (.c v)=v:=rfl
def aqr (tm:Env):dD tm []=[]:=rfl
def apc (tm:Env) (x:X) (r:List X):dD tm (x::r)=aF tm x::dD tm r:=rfl
def asl (i:Nat) (v:AV) (r:Env):af ((i,v)::r) i=v:=by simp only [af,wP,yA]
def aqs {j i:Nat} (v:AV) (r:Env) (h:j≠i):af ((j,v)::r) i=af r i:=by simp only [af,hX h,yV]
def gZ (i:Nat) (o:Obj) (r:Hp):ay ((i,o)::r) i=some o:=by simp only [ay,wP,yA]
def jo {j i:Nat} (o:Obj) (r:Hp) (h:j≠i):ay ((j,o)::r) i=ay r i:=by simp only [ay,hX h,yV]
def adU (i:Nat) (o u:Obj) (r:Hp):a6 ((i,o)::r) i u=(i,u)::r:=by simp only [a6,wP,yA]
def acX {j i:Nat} (o u:Obj) (r:Hp) (h:j≠i):a6 ((j,o)::r) i u=(j,o)::a6 r i u:=by simp only [a6,hX h,yV]
def asm (i:Nat):dK [] i=[]:=rfl
def adV (i:Nat) (o:Obj) (r:Hp):dK ((i,o)::r) i=dK r i:=by simp only [dK,wP,yA]
def acY {j i:Nat} (o:Obj) (r:Hp) (h:j≠i):dK ((j,o)::r) i=(j,o)::dK r i:=by simp only [dK,hX h,yV]
def rd (hp:Hp) (ct:Nat) (q:Option AV):gF:=match q with | some v=>some (v,hp,ct) | none=>none
def mk (hp:Hp) (ct:Nat) (q:Option (AV×Obj)):gF:=match q with | some (v,b)=>some (v,(ct,b)::hp,ct+1) | none=>none
def aBH (hp:Hp) (ct:Nat) (v:AV):rd hp ct (some v)=some (v,hp,ct):=rfl
def aBI (hp:Hp) (ct:Nat) (v:AV) (b:Obj):mk hp ct (some (v,b))=some (v,(ct,b)::hp,ct+1):=rfl
def TO (c a b:AV):Option AV:=match c with | .bool t=>some (bif t then a else b) | _=>none
def Ly (k:Nat->Option AV) (n:Option Nat):Option AV:=match n with | some i=>k i | none=>none
def ajk (r:Option (List AV)):Option AV:=match r with | some cs=>some (.agg cs) | none=>none
def KJ (ne:Bool) (r:Option Bool):Option AV:=match r with | some b=>some (.bool (ne !=b)) | none=>none
def aBJ:AV->Option AV
 | .ptr id o=>some (.ptr id o)
 | .cg cs=>some (.cg cs)
 | .fn f a b=>some (.fn f a b)
 | _=>none
def KK (i:Nat):AV->Option AV | .ae vs=>vs[i]? | _=>none
section
variable {f:cD} {tm:Env} {hp:Hp} {ct:Nat}
def axB (x:X):bf P L f tm hp ct (.cw x)=some (aF tm x,hp,ct):=rfl
def aus (c a b:X):bf P L f tm hp ct (.pick c a b)=rd hp ct (TO (aF tm c) (aF tm a) (aF tm b)):=by
 rfl
def asn (z:List AV) (ps:List (Nat×Nat×X)):bf P L f tm hp ct (.gk z ps)=rd hp ct (ajk (fill tm z ps)):=by
 rfl
def aAk (sz:Nat) (ag:Bool) (x:X):bf P L f tm hp ct (.ld sz ag x)=rd hp ct (jb hp sz ag (aF tm x)):=rfl
def aut (x:X):bf P L f tm hp ct (.JZ x)=rd hp ct (aBJ (aF tm x)):=by
 rfl
def axC (op:BinOp) (x y:X):bf P L f tm hp ct (.bin op x y)=rd hp ct (binOp op (aF tm x) (aF tm y)):=rfl
def aAl (ne:Bool) (k:P3) (x y:X):bf P L f tm hp ct (.eq ne k x y)=rd hp ct (KJ ne (jN k (aF tm x) (aF tm y))):=by
 rfl
def aAm (op:UnOp) (x:X):bf P L f tm hp ct (.un op x)=rd hp ct (unOp op (aF tm x)):=rfl
def aAn (k:Conv) (x:X):bf P L f tm hp ct (.cv k x)=rd hp ct (pC k (aF tm x)):=rfl
def axD (g:Fr) (a b:List X):bf P L f tm hp ct (.DT g a b)=some (.fn g (dD tm a) (dD tm b),hp,ct):=rfl
def axE (k:Cut) (x:X) (lo hi:Option X):bf P L f tm hp ct (.dR k x lo hi)=rd hp ct (fg hp k (aF tm x) tm lo hi):=rfl
def axF (k:Nat) (x:X):bf P L f tm hp ct (.off k x)=rd hp ct (JA k (aF tm x)):=rfl
def axG (o sz:Nat) (ag:Bool) (x:X):bf P L f tm hp ct (.K3 o sz ag x)=rd hp ct (NQ o sz ag (aF tm x)):=rfl
def axH (sz:Nat) (x i:X):bf P L f tm hp ct (.aU sz x i)=rd hp ct (Ly (fun j=>j0 sz j (aF tm x)) (du (aF tm i))):=by
 rfl
def axI (n sz:Nat) (x i:X):bf P L f tm hp ct (.Gy n sz x i)=rd hp ct (Ly (fun j=>NR n sz j (aF tm x)) (du (aF tm i))):=by
 rfl
def axJ (x i:X):bf P L f tm hp ct (.kW x i)=rd hp ct (Ly (fun j=>mU j (aF tm x)) (du (aF tm i))):=by
 rfl
def axK (n sz:Nat) (ag:Bool) (x i:X):bf P L f tm hp ct (.Gz n sz ag x i)=rd hp ct (Ly (fun j=>NS n sz ag j (aF tm x)) (du (aF tm i))):=by
 rfl
def axL (i:Nat) (x:X):bf P L f tm hp ct (.ext i x)=rd hp ct (KK i (aF tm x)):=by
 rfl
def axM (k:Nat) (x:X):bf P L f tm hp ct (.len k x)=rd hp ct (fE hp k (aF tm x)):=rfl
def axN (sz:Nat) (x:X):bf P L f tm hp ct (.box sz x)=mk hp ct (cU tm hp ct (.box sz x)):=rfl
def auu (n sz:Nat) (z:List AV) (ps:List (Nat×Nat×X)):bf P L f tm hp ct (.dd n sz z ps)=mk hp ct (cU tm hp ct (.dd n sz z ps)):=rfl
def axO (sz cJ:Nat) (z:List AV) (l c:X):bf P L f tm hp ct (.gE sz cJ z l c)=mk hp ct (cU tm hp ct (.gE sz cJ z l c)):=rfl
def axP:bf P L f tm hp ct .Aq=some (.map ct,(ct,.mp true [] [])::hp,ct+1):=rfl
def axQ (x:X):bf P L f tm hp ct (.pU x)=mk hp ct (cU tm hp ct (.pU x)):=rfl
def aAo (sz:Nat) (x v:X):bf P L f tm hp ct (.st sz x v)=cP tm hp ct (.st sz x v):=rfl
def axR (sz cJ:Nat) (s x:X):bf P L f tm hp ct (.aR sz cJ s x)=cP tm hp ct (.aR sz cJ s x):=rfl
def N3 (hp:Hp) (ct:Nat) (r:Option AV):gF:=match r with | some v=>some (shut v,hp,ct) | none=>none
def PC (hp:Hp) (ct:Nat) (r:Option AV):gF:=match r with | some v=>some (own hp ct v) | none=>none
def TP (P:aM) (L:Lib) (f:cD) (ct n:Nat) (q:Option (List AV×Hp)):gF:=match q with | some (az,hp)=>N3 hp ct (bP P L f n az) | none=>none
def TQ (P:aM) (L:Lib) (f:cD) (ct n:Nat) (q:Option (List AV×Hp)):gF:=match q with | some (az,hp)=>PC hp ct (bP P L f n az) | none=>none
def TR (P:aM) (L:Lib) (f:cD) (hp:Hp) (ct:Nat) (fv:AV) (xs:List AV):gF:=dO P L f hp ct .pure fv xs
def TS (P:aM) (L:Lib) (f:cD) (hp:Hp) (ct:Nat) (fv:AV) (xs:List AV):gF:=dO P L f hp ct .own fv xs
def aso (g:X) (xs:List X):bf P L f tm hp ct (.call .pure g xs)=TR P L f hp ct (aF tm g) (dD tm xs):=rfl
def asp (g:X) (xs:List X):bf P L f tm hp ct (.call .own g xs)=TS P L f hp ct (aF tm g) (dD tm xs):=rfl
def asq (g:X) (xs:List X):bf P L f tm hp ct (.call .heap g xs)=dO P L f hp ct .heap (aF tm g) (dD tm xs):=rfl
def auv (n:Nat) (first cap xs:List AV):TR P L f hp ct (.fn (.f n) first cap) xs=TP P L f ct n (cO deep hp (first++(xs++cap))):=by
 simp only [TR,dO,TP,N3]
 cases cO deep hp (first++(xs++cap)) with
 | none=>rfl
 | some q=>cases bP P L f n q.1<;>rfl
def auw (n:Nat) (first cap xs:List AV):TS P L f hp ct (.fn (.f n) first cap) xs=TQ P L f ct n (cO deep hp (first++(xs++cap))):=by
 simp only [TS,dO,TQ,PC]
 cases cO deep hp (first++(xs++cap)) with
 | none=>rfl
 | some q=>cases bP P L f n q.1<;>rfl
def auy (n:Nat) (az:List AV):TP P L f ct n (some (az,hp))=N3 hp ct (bP P L f n az):=rfl
def auz (n:Nat) (az:List AV):TQ P L f ct n (some (az,hp))=PC hp ct (bP P L f n az):=rfl
def auA (v:AV):N3 hp ct (some v)=some (shut v,hp,ct):=rfl
def axS (v:AV):PC hp ct (some v)=some (own hp ct v):=rfl
def PD (hp:Hp) (r:Option AV):Option AV:=match r with | some v=>result hp v | none=>none
def gS (rs:List RV) (q:Option (Ex×St)):Option AV:=
 match q with
 | some (.normal,s) | some (.ret,s)=>PD s.hp (iT s rs)
 | _=>none
def aI {n:Nat} {F:aV} (h:Has P L n F) (az:List AV):bP P L f n az=gS F.fO (f F.body ⟨dM 0 az,[],0,0⟩):=by
 simp only [bP,h.pure,h.code]
 cases hq:f F.body ⟨dM 0 az,[],0,0⟩ with
 | none=>rfl
 | some q=>
  obtain ⟨e,s⟩:=q
  cases e with
  | normal=>rfl
  | ret=>rfl
  | exit id=>rfl
def axT (rs:List RV) (s:St):gS rs (some (.normal,s))=PD s.hp (iT s rs):=rfl
def axU (rs:List RV) (s:St):gS rs (some (.ret,s))=PD s.hp (iT s rs):=rfl
def axV (v:AV):PD hp (some v)=result hp v:=rfl
def YO (r:RV) (s:St):iT s [r]=results1 s r:=by
 simp only [iT,lj];cases results1 s r<;>rfl
def akX (r:Option (List AV)):Option AV:=match r with | some vs=>some (.ae vs) | none=>none
def aBK (r q:RV) (l:List RV) (s:St):iT s (r::q::l)=akX (lj s (r::q::l)):=by
 simp only [iT,lj];cases results1 s r<;>cases results1 s q<;>cases lj s l<;>rfl
def ajl (r:Option AV) (l:Option (List AV)):Option (List AV):=match r,l with | some v,some vs=>some (v::vs) | _,_=>none
def asr (s:St):lj s []=some []:=rfl
def aqt (r:RV) (l:List RV) (s:St):lj s (r::l)=ajl (results1 s r) (lj s l):=rfl
def auB (v:AV) (vs:List AV):ajl (some v) (some vs)=some (v::vs):=rfl
def axW (vs:List AV):akX (some vs)=some (.ae vs):=rfl
def TU (i:Nat) (s:St):results1 s (.t i)=some (af s.tm i):=rfl
def aAp (a:AV):dM 0 [a]=[(0,a)]:=rfl
def aAq (a b:AV):dM 0 [a,b]=[(0,a),(1,b)]:=rfl
def aAr (a b c:AV):dM 0 [a,b,c]=[(0,a),(1,b),(2,c)]:=rfl
def aAs (a b c d:AV):dM 0 [a,b,c,d]=[(0,a),(1,b),(2,c),(3,d)]:=rfl
def aAt (a b c d e:AV):dM 0 [a,b,c,d,e]=[(0,a),(1,b),(2,c),(3,d),(4,e)]:=rfl
def ape (k:y7) (n:Int):result hp (.int k n)=some (.int k n):=rfl
def aoI (b:Bool):result hp (.bool b)=some (.bool b):=rfl
def apf (s:List Nat):result hp (.str s)=some (.str s):=rfl
def aoJ:result hp .aa=some .aa:=rfl
def apg (e:Bool) (n:Nat) (cs:List AV):result hp (.aB e n cs)=some (.aB e n cs):=rfl
def shut_int (k:y7) (n:Int):shut (.int k n)= .int k n:=rfl
def shut_bool (b:Bool):shut (.bool b)= .bool b:=rfl
def ass (s:List Nat):shut (.str s)= .str s:=rfl
def aqu:shut .aa= .aa:=rfl
def ast (e:Bool) (n:Nat) (cs:List AV):shut (.aB e n cs)= .aB e n cs:=rfl
def asu (e:Bool) (sz n:Nat) (cs:List AV):shut (.bw e sz n cs)= .aB e n cs:=rfl
def bX (cs:List AV):shut (.agg cs)= .agg cs:=rfl
def auC (g:Fr) (a b:List AV):shut (.fn g a b)= .fn g a b:=rfl
def mO (vs:List AV):shut (.ae vs)= .ae (Dj vs):=rfl
def mN:Dj []=[]:=rfl
def mL (v:AV) (r:List AV):Dj (v::r)=bQ v::Dj r:=rfl
def zq (k:y7) (n:Int):bQ (.int k n)= .int k n:=rfl
def aph (b:Bool):bQ (.bool b)= .bool b:=rfl
def aqv (s:List Nat):bQ (.str s)= .str s:=rfl
def My:bQ .aa= .aa:=rfl
def aqw (e:Bool) (n:Nat) (cs:List AV):bQ (.aB e n cs)= .aB e n cs:=rfl
def aqx (e:Bool) (sz n:Nat) (cs:List AV):bQ (.bw e sz n cs)= .aB e n cs:=rfl
def AX (cs:List AV):bQ (.agg cs)= .agg cs:=rfl
def YP (n:Nat) (r:List AV) (q:Option (AV×Hp)):Option (List AV×Hp):=match q with | some (v,hp)=>(match cO n hp r with | some (vs,gU)=>some (v::vs,gU) | none=>none) | none=>none
def akY (v:AV) (q:Option (List AV×Hp)):Option (List AV×Hp):=match q with | some (vs,hp)=>some (v::vs,hp) | none=>none
def asv (n:Nat):cO (n+1) hp []=some ([],hp):=rfl
def acZ (n:Nat) (v:AV) (r:List AV):cO (n+1) hp (v::r)=YP n r (freeze n hp v):=by
 simp only [cO,YP];cases freeze n hp v<;>rfl
def aiC (n:Nat) (r:List AV) (v:AV):YP n r (some (v,hp))=akY v (cO n hp r):=by
 rfl
def aiD (v:AV) (vs:List AV):akY v (some (vs,hp))=some (v::vs,hp):=rfl
def auD (n:Nat) (k:y7) (a:Int):freeze (n+1) hp (.int k a)=some (.int k a,hp):=rfl
def asw (n:Nat) (b:Bool):freeze (n+1) hp (.bool b)=some (.bool b,hp):=rfl
def auE (n:Nat) (s:List Nat):freeze (n+1) hp (.str s)=some (.str s,hp):=rfl
def asx (n:Nat):freeze (n+1) hp .aa=some (.aa,hp):=rfl
def auF (n:Nat) (e:Bool) (k:Nat) (cs:List AV):freeze (n+1) hp (.aB e k cs)=some (.aB e k cs,hp):=rfl
def asy (n:Nat) (cs:List AV):freeze (n+1) hp (.cg cs)=some (.cg cs,hp):=rfl
end
end
section
variable {hp:Hp}
def axX (a b:AV):TO (.bool true) a b=some a:=rfl
def axY (a b:AV):TO (.bool false) a b=some b:=rfl
def aAu (k:Nat->Option AV) (n:Nat):Ly k (some n)=k n:=rfl
def rN (k:y7) (n:Nat):du (.int k (n:Int))=some n:=rfl
def Tl (k:y7):du (.int k 0)=some 0:=rfl
def axZ (k:y7):du (.int k 1)=some 1:=rfl
def ax0 (k:y7):du (.int k 2)=some 2:=rfl
def ax1 (k:y7):du (.int k 3)=some 3:=rfl
def ax2 (k:y7):du (.int k 4)=some 4:=rfl
def ax3 (k:y7):du (.int k 5)=some 5:=rfl
def ax4 (k:y7):du (.int k 6)=some 6:=rfl
def ax5 (k:y7):du (.int k 7)=some 7:=rfl
def ax6 (k:y7):du (.int k 8)=some 8:=rfl
def ax7 (k:y7):du (.int k 9)=some 9:=rfl
def auG (cs:List AV):ajk (some cs)=some (.agg cs):=rfl
def ahq (k:y7) (a b:Int):binOp .add (.int k a) (.int k b)=some (.int k (k.wrap (a+b))):=by simp [binOp,lE]
def Nn (k:y7) (a b:Int):binOp .sub (.int k a) (.int k b)=some (.int k (k.wrap (a-b))):=by simp [binOp,lE]
def ahr (k:y7) (a b:Int):binOp .mul (.int k a) (.int k b)=some (.int k (k.wrap (a*b))):=by simp [binOp,lE]
def gL (k:y7) (a b:Int) (h:b≠0):binOp .quo (.int k a) (.int k b)=some (.int k (k.wrap (a.tdiv b))):=by simp [binOp,lE,h]
def iV (k:y7) (a b:Int) (h:b≠0):binOp .rem (.int k a) (.int k b)=some (.int k (a.tmod b)):=by simp [binOp,lE,h]
def auH (k:y7) (a b:Int):binOp .eql (.int k a) (.int k b)=some (.bool (decide (a=b))):=by
 simp [binOp,lE,intCmp,BEq.beq]
def auI (k:y7) (a b:Int):binOp .neq (.int k a) (.int k b)=some (.bool (!decide (a=b))):=by
 simp [binOp,lE,intCmp,bne,BEq.beq]
def auJ (k:y7) (a b:Int):binOp .lss (.int k a) (.int k b)=some (.bool (decide (a<b))):=by simp [binOp,lE,intCmp]
def auK (k:y7) (a b:Int):binOp .leq (.int k a) (.int k b)=some (.bool (decide (a<=b))):=by simp [binOp,lE,intCmp]
def auL (k:y7) (a b:Int):binOp .gtr (.int k a) (.int k b)=some (.bool (decide (b<a))):=by simp [binOp,lE,intCmp]
def auM (k:y7) (a b:Int):binOp .geq (.int k a) (.int k b)=some (.bool (decide (b<=a))):=by simp [binOp,lE,intCmp]
def ax8 (k:y7) (a:Int):unOp .neg (.int k a)=some (.int k (k.wrap (0-a))):=rfl
def ax9 (b:Bool):unOp .not (.bool b)=some (.bool !b):=rfl
def asz:fE hp 1 .aa=some (.int .i64 0):=rfl
def auN (e:Bool) (n:Nat) (cs:List AV):fE hp 1 (.aB e n cs)=some (.int .i64 n):=rfl
def auO (id o n:Nat):fE hp 1 (.aw id o n)=some (.int .i64 n):=rfl
def auP (s:List Nat):fE hp 0 (.str s)=some (.int .i64 s.length):=rfl
def SK {sz i n:Nat} (e:Bool) (cs:List AV) (h:i<n):j0 sz i (.aB e n cs)=some (.cg (cs.drop (i*sz))):=by
 have hb:yR i n=true:=yu h;simp only [j0]
 grind
def bN {sz i n:Nat} (id o:Nat) (h:i<n):j0 sz i (.aw id o n)=some (.ptr id (o+i*sz)):=by
 have hb:yR i n=true:=yu h;simp only [j0]
 grind
def asA (v:AV) (cs:List AV):jb hp 1 false (.cg (v::cs))=some v:=rfl
def QA (sz:Nat) (ag:Bool) (o:Nat) (q:Option Obj):Option AV:=match q with | some (.cells _ _ _ _ cs)=>iC sz ag (cs.drop o) | _=>none
def aya (sz:Nat) (ag:Bool) (id o:Nat):jb hp sz ag (.ptr id o)=QA sz ag o (ay hp id):=by
 rfl
def aAv (sz:Nat) (ag:Bool) (o:Nat) (rw pu ex:Bool) (z:Nat) (cs:List AV):QA sz ag o (some (.cells rw pu ex z cs))=iC sz ag (cs.drop o):=rfl
def Dq (sz:Nat) (v:AV) (cs:List AV):iC sz false (v::cs)=some v:=rfl
def aBL (a:AV) (l:List AV):KK 0 (.ae (a::l))=some a:=rfl
def ext1 (a b:AV) (l:List AV):KK 1 (.ae (a::b::l))=some b:=rfl
def aBM (a b c:AV) (l:List AV):KK 2 (.ae (a::b::c::l))=some c:=rfl
def aBN (a b c d:AV) (l:List AV):KK 3 (.ae (a::b::c::d::l))=some d:=rfl
end
def zS:Env->Bool
 | []=>true
 | (_,v)::r=>a7 v&&zS r
mutual
def aq:∀{v:AV},a7 v=true->refs v=[]
 | .int _ _,_ | .bool _,_ | .bU _ _,_ | .str _,_ | .kR,_ | .cg _,_ | .aa,_ | .aB _ _ _,_ | .iZ,_ | .kh,_ | .jw _ _,_ | .undef,_=>rfl
 | .ptr _ _,h | .aw _ _ _,h | .map _,h | .it _,h | .bw _ _ _ _,h=>by simp [a7] at h
 | .fn (.y _) _ _,h=>by simp [a7] at h
 | .fn (.f _) first cap,h=>by
  simp only [a7,yh] at h;simp only [refs,Io h.1,Io h.2,wo]
 | .agg cs,h=>by simp only [a7] at h;simp only [refs,Io h]
 | .ae cs,h=>by simp only [a7] at h;simp only [refs,Io h]
def Io:∀{vs:List AV},aK vs=true->iI vs=[]
 | [],_=>rfl
 | v::r,h=>by
  simp only [aK,yh] at h;simp only [iI,aq h.1,Io h.2,wo]
end
mutual
def au (f:Nat->Option Nat):∀{v:AV},a7 v=true->ck f v=v
 | .int _ _,_ | .bool _,_ | .bU _ _,_ | .str _,_ | .kR,_ | .cg _,_ | .aa,_ | .aB _ _ _,_ | .iZ,_ | .kh,_ | .jw _ _,_ | .undef,_=>rfl
 | .ptr _ _,h | .aw _ _ _,h | .map _,h | .it _,h | .bw _ _ _ _,h=>by simp [a7] at h
 | .fn (.y _) _ _,h=>by simp [a7] at h
 | .fn (.f _) first cap,h=>by
  simp only [a7,yh] at h;simp only [ck,Iw f h.1,Iw f h.2]
 | .agg cs,h=>by simp only [a7] at h;simp only [ck,Iw f h]
 | .ae cs,h=>by simp only [a7] at h;simp only [ck,Iw f h]
def Iw (f:Nat->Option Nat):∀{vs:List AV},aK vs=true->fo f vs=vs
 | [],_=>rfl
 | v::r,h=>by
  simp only [aK,yh] at h;simp only [fo,au f h.1,Iw f h.2]
end
def acd:∀{tm:Env},zS tm=true->fL tm=[]
 | [],_=>rfl
 | (i,v)::r,h=>by
  simp only [zS,yh] at h;simp only [fL,aq h.1,acd h.2,wo]
def ac0 (f:Nat->Option Nat):∀{tm:Env},zS tm=true->gm f tm=tm
 | [],_=>rfl
 | (i,v)::r,h=>by
  simp only [zS,yh] at h;simp only [gm,au f h.1,ac0 f h.2]
def aoh {live:List Nat} {tm:Env} {ct:Nat} (h:zS (cC tm live)=true):aJ live ⟨tm,[],ct,0⟩=⟨cC tm live,[],0,0⟩:=by
 simp only [aJ,acd h,jr,wo];simp only [reach,ib,mh,ac0 _ h,yP,y5]
def aoK {tm:Env} {ct:Nat}:aJ [] ⟨tm,[],ct,0⟩=⟨[],[],0,0⟩:=rfl
def adW {P:aM} {L:Lib} {live:List Nat} {a:VC} (I:Nat->St->Prop) (Q:Ex->St->Prop)
  (step:∀k s,I k s->(∃s' k',D P L a (aJ live s)=some (.normal,s')/\k'<k/\I k' s')\/(∃ex s',D P L a (aJ live s)=some (ex,s')/\ex≠.normal/\Q ex s')):
  ∀k s,I k s->∃ex s',D P L (.loop live a) s=some (ex,s')/\Q ex s':=by
 intro k
 induction k using vJ with
 | _ k ih=>
  intro s hI;rw [NI];rcases step k s hI with ⟨s',k',h1,h2,h3⟩ | ⟨ex,s',h1,h2,h3⟩
  ·rw [h1,ahp];exact ih k' h2 s' h3
  ·rw [h1]
   cases ex with
   | normal=>exact absurd rfl h2
   | ret=>exact ⟨.ret,s',rfl,h3⟩
   | exit id=>exact ⟨.exit id,s',rfl,h3⟩
def eP {P:aM} {L:Lib} {live:List Nat} {a:VC} (I:Nat->St->Prop) (Q:Ex->St->Prop)
  (step:∀k s,I k s->(∃s' k',D P L a s=some (.normal,s')/\k'<k/\I k' (aJ live s'))\/(∃ex s',D P L a s=some (ex,s')/\ex≠.normal/\Q ex s')):
  ∀k s,I k (aJ live s)->∃ex s',D P L (.loop live a) s=some (ex,s')/\Q ex s':=
 adW (fun k s=>I k (aJ live s)) Q (fun k s h=>step k _ h)
def cY {P:aM} {L:Lib} {live:List Nat} {a:VC} {I:Nat->St->Prop} {Q:Ex->St->Prop}
  (step:∀k s,I k s->(∃s' k',D P L a s=some (.normal,s')/\k'<k/\I k' (aJ live s'))\/(∃ex s',D P L a s=some (ex,s')/\ex≠.normal/\Q ex s')):
  ∀k s s0,aJ live s=s0->I k s0->∃ex s',D P L (.loop live a) s=some (ex,s')/\Q ex s':=fun k s s0 h hi=>eP I Q step k s (h▸hi)
def bq {P:aM} {L:Lib} {c:VC} {s:St} {q:Option (Ex×St)} {I:St->Prop} {Q:Ex->St->Prop} (hq:D P L c s=q) (key:∀s,I s->∃ex s',D P L c s=some (ex,s')/\Q ex s') (hI:I s):
  ∃ex s',q=some (ex,s')/\Q ex s':=by
 rw [<-hq];exact key s hI
def asB (tm:Env):cC tm []=[]:=rfl
def aqy (tm:Env) (i:Nat) (r:List Nat):cC tm (i::r)=(i,af tm i)::cC tm r:=rfl
def aqz:zS []=true:=rfl
def api (i:Nat) (v:AV) (r:Env):zS ((i,v)::r)=(a7 v&&zS r):=rfl
def aiE (k:y7) (n:Int):a7 (.int k n)=true:=(rfl)
def auQ (b:Bool):a7 (.bool b)=true:=(rfl)
def aiF (s:List Nat):a7 (.str s)=true:=(rfl)
def auR:a7 .aa=true:=(rfl)
def ayb (e:Bool) (n:Nat) (cs:List AV):a7 (.aB e n cs)=true:=(rfl)
def auS (cs:List AV):a7 (.cg cs)=true:=(rfl)
def asC:a7 .undef=true:=(rfl)
attribute [go_sem] deep aoK asB aqy aqz api aiE auQ aiF auR ayb auS asC vj xY
attribute [go_sem] axu axv aAf YN aBG aAg j8 axw aAh fK aug auh ahp aui auj auk aul SJ aum axx axy aun auo
 aup asf aqq auq aAi aAj asg ash asi asj aur axz axA aqr apc asl aqs gZ jo adU acX asm adV acY
 aBH aBI axB aus asn aAk aut axC aAl aAm aAn axD axE axF axG axH axI axJ axK axL axM axN auu axO axP axQ aAo axR aso asp asq
 auv auw auy auz auA axS axT axU axV YO aBK asr aqt auB axW TU aAp aAq aAr aAs aAt
 ape aoI apf aoJ apg shut_int shut_bool ass aqu ast asu bX auC mO mN mL zq aph aqv My aqw aqx AX
 asv acZ aiC aiD auD asw auE asx auF asy
 axX axY aAu rN Tl axZ ax0 ax1 ax2 ax3 ax4 ax5 ax6 ax7 auG ahq Nn ahr auH auI auJ auK auL auM ax8 ax9 asz auN auO auP asA aya aAv Dq aBL ext1 aBM aBN
 xC wo xk yr ym Bool.not_true Bool.not_false ub xt
end
section
open Go (IntKind)
abbrev ab (n:Int):AV:= .int .i64 n
def cW (v:AV) (cs:List AV):Prop:=(v= .aa/\cs=[])\/∃e,v= .aB e cs.length cs
section
variable {v:AV} {cs:List AV} {hp:Hp}
def cW.len (h:cW v cs) {hp:Hp}:fE hp 1 v=some (.int .i64 (cs.length:Nat)):=by
 rcases h with ⟨rfl,rfl⟩ | ⟨e,rfl⟩<;>rfl
def cW.pu (h:cW v cs):a7 v=true:=by
 rcases h with ⟨rfl,rfl⟩ | ⟨e,rfl⟩<;>rfl
def cW.an (h:cW v cs) (n:Nat) {hp:Hp}:freeze (n+1) hp v=some (v,hp):=by
 rcases h with ⟨rfl,rfl⟩ | ⟨e,rfl⟩<;>rfl
def cW.shut (h:cW v cs):shut v=v:=by
 rcases h with ⟨rfl,rfl⟩ | ⟨e,rfl⟩<;>rfl
def cW.bQ (h:cW v cs):bQ v=v:=by
 rcases h with ⟨rfl,rfl⟩ | ⟨e,rfl⟩<;>rfl
def cW.fO (h:cW v cs) {hp:Hp}:result hp v=some v:=by
 rcases h with ⟨rfl,rfl⟩ | ⟨e,rfl⟩<;>rfl
def cW.aU (h:cW v cs) {i:Nat} (hi:i<cs.length):j0 1 i v=some (.cg (cs[i]::cs.drop (i+1))):=by
 rcases h with ⟨rfl,rfl⟩ | ⟨e,rfl⟩
 ·grind
 ·rw [SK e _ hi,Nat.mul_one,yS hi]
def cW.one (h:cW v cs):dt v=true:=by
 rcases h with ⟨rfl,rfl⟩ | ⟨e,rfl⟩<;>rfl
def cW.cells (h:cW v cs):cellsOf v=[v]:=by
 rcases h with ⟨rfl,rfl⟩ | ⟨e,rfl⟩<;>rfl
def ET (e:Bool) (cs:List AV):cW (.aB e cs.length cs) cs:= .inr ⟨e,rfl⟩
def oW:cW .aa []:= .inl ⟨rfl,rfl⟩
end
def bC (v:AV) (l:List Int):Prop:=cW v (l.map ab)
section
variable {v:AV} {l:List Int}
def bC.len (h:bC v l) {hp:Hp}:fE hp 1 v=some (.int .i64 (l.length:Nat)):=by
 have:=cW.len (hp:=hp) h
 grind
def bC.pu (h:bC v l):a7 v=true:=cW.pu h
def bC.an (h:bC v l) (n:Nat) {hp:Hp}:freeze (n+1) hp v=some (v,hp):=cW.an h n
def bC.shut (h:bC v l):VE.shut v=v:=cW.shut h
def bC.bQ (h:bC v l):VE.bQ v=v:=cW.bQ h
def bC.fO (h:bC v l) {hp:Hp}:result hp v=some v:=cW.fO h
def bC.one (h:bC v l):dt v=true:=cW.one h
def bC.cells (h:bC v l):cellsOf v=[v]:=cW.cells h
def bC.aU (h:bC v l) {i:Nat} (hi:i<l.length):j0 1 i v=some (.cg (.int .i64 l[i]::(l.map ab).drop (i+1))):=by
 have:=cW.aU h (i:=i) (by simpa using hi)
 grind
def ma (e:Bool) (l:List Int):bC (.aB e l.length (l.map ab)) l:=by
 have:=ET e (l.map ab)
 rwa [yj] at this
end
def b7 {α β:Type} (p:α->β->Prop):List α->List β->Prop
 | [],[]=>True
 | a::r,b::s=>p a b/\b7 p r s
 | _,_=>False
section
variable {α β:Type} {p:α->β->Prop}
def b7.len:∀{l:List α} {m:List β},b7 p l m->l.length=m.length
 | [],[],_=>rfl
 | _::_,_::_,h=>by rw [yI,yI,h.2.len]
def b7.get:∀{l:List α} {m:List β} (_:b7 p l m) {i:Nat} (h1:i<l.length) (h2:i<m.length),p l[i] m[i]
 | a::r,b::s,h,0,_,_=>h.1
 | a::r,b::s,h,i+1,h1,h2=>by
  exact h.2.get (by simpa using h1) (by simpa using h2)
end
def IsS (v:AV) (s:List (List Int)):Prop:=∃rows,cW v rows/\b7 bC rows s
def wrap64 {n:Int} (h1: -9223372036854775808<=n) (h2:n<9223372036854775808):IntKind.wrap .i64 n=n:=by
 simp only [IntKind.wrap,IntKind.bits,IntKind.signed,xY]
 grind
def wrapN {n:Nat} (h:n<9223372036854775808):IntKind.wrap .i64 (n:Int)=n:=wrap64 (by omega) (by omega)
end
section
open Go (IntKind)
section
variable {P:aM} {L:Lib}
abbrev aj (P:aM) (L:Lib) (f:Nat) (az:List AV) (r:AV):Prop:=bP P L (D P L) f az=some r
end
end
section
open Go (IntKind)
section
variable {P:aM} {L:Lib} {f:cD} {tm:Env} {hp:Hp} {ct:Nat}
def aqA (k:y7) (n:Int):cellsOf (.int k n)=[.int k n]:=(rfl)
def apj (b:Bool):cellsOf (.bool b)=[.bool b]:=(rfl)
def aqB (s:List Nat):cellsOf (.str s)=[.str s]:=(rfl)
def apk:cellsOf .aa=[.aa]:=(rfl)
def aqC (e:Bool) (n:Nat) (cs:List AV):cellsOf (.aB e n cs)=[.aB e n cs]:=(rfl)
def aqD (id o n:Nat):cellsOf (.aw id o n)=[.aw id o n]:=(rfl)
def aqE (id o:Nat):cellsOf (.ptr id o)=[.ptr id o]:=(rfl)
def asD (g:Fr) (a b:List AV):cellsOf (.fn g a b)=[.fn g a b]:=(rfl)
def aqF (cs:List AV):cellsOf (.agg cs)=cs:=(rfl)
def ahs (k:y7) (n:Int):dt (.int k n)=true:=(rfl)
def asE (b:Bool):dt (.bool b)=true:=(rfl)
def aht (s:List Nat):dt (.str s)=true:=(rfl)
def asF:dt .aa=true:=(rfl)
def auT (e:Bool) (n:Nat) (cs:List AV):dt (.aB e n cs)=true:=(rfl)
def auU (id o n:Nat):dt (.aw id o n)=true:=(rfl)
def auV (id o:Nat):dt (.ptr id o)=true:=(rfl)
def ayc (g:Fr) (a b:List AV):dt (.fn g a b)=true:=(rfl)
def asG:cu []=true:=(rfl)
def ac1 (v:AV) (r:List AV):cu (v::r)=(dt v&&cu r):=(rfl)
def aqG:aK []=true:=(rfl)
def apl (v:AV) (r:List AV):aK (v::r)=(a7 v&&aK r):=(rfl)
def ayd (id o:Nat):a7 (.ptr id o)=false:=(rfl)
def aye (id o n:Nat):a7 (.aw id o n)=false:=(rfl)
def aAw (g:Nat) (a b:List AV):a7 (.fn (.f g) a b)=(aK a&&aK b):=(rfl)
def aBO (l:Nat) (a b:List AV):a7 (.fn (.y l) a b)=false:=(rfl)
def ayf (cs:List AV):a7 (.agg cs)=aK cs:=(rfl)
def ayg (cs:List AV):a7 (.ae cs)=aK cs:=(rfl)
def Gi (ct sz:Nat) (cs:List AV):Option (AV×Obj):=bif yx cs.length sz&&cu cs then some (.ptr ct 0,.cells true (aK cs) true sz cs) else none
def ayh (sz:Nat) (x:X):cU tm hp ct (.box sz x)=Gi ct sz (cellsOf (aF tm x)):=rfl
def N4 {v:AV} (h:dt v=true):Gi ct 1 [v]=some (.ptr ct 0,.cells true (a7 v&&true) true 1 [v]):=by
 simp [Gi,cu,aK,h]
def bj {cs:List AV} {n:Nat} (hn:cs.length=n) (h:cu cs=true):Gi ct n cs=some (.ptr ct 0,.cells true (aK cs) true n cs):=by
 subst hn;simp [Gi,h]
def im (hp:Hp) (ct id o sz:Nat) (new:List AV) (q:Option Obj):gF:=
 match q with
 | some (.cells true pu ex z cs)=>bif yx new.length sz&&yG (o+sz) cs.length&&cu new then some (.ae [],a6 hp id (.cells true (pu&&aK new) ex z (over o new cs)),ct) else none
 | _=>none
def stV (hp:Hp) (ct sz:Nat) (p:AV) (new:List AV):gF:=match p with | .ptr id o=>im hp ct id o sz new (ay hp id) | _=>none
def adX (sz:Nat) (x v:X):cP tm hp ct (.st sz x v)=stV hp ct sz (aF tm x) (cellsOf (aF tm v)):=rfl
def ajm (sz id o:Nat) (new:List AV):stV hp ct sz (.ptr id o) new=im hp ct id o sz new (ay hp id):=rfl
def aBP {v u:AV} {id z:Nat} {pu ex:Bool} (h:dt v=true):im hp ct id 0 1 [v] (some (.cells true pu ex z [u]))=some (.ae [],a6 hp id (.cells true (pu&&(a7 v&&true)) ex z [v]),ct):=by
 simp [im,cu,aK,h,over];rfl
def qW {new cs:List AV} {id o sz z:Nat} {pu ex:Bool} (h1:new.length=sz) (h2:o+sz<=cs.length) (h:cu new=true):
  im hp ct id o sz new (some (.cells true pu ex z cs))=some (.ae [],a6 hp id (.cells true (pu&&aK new) ex z (over o new cs)),ct):=by
 subst h1;simp [im,h,yu h2]
def N5 (ct n sz:Nat) (q:Option (List AV)):Option (AV×Obj):=match q with | some cs=>bif yx cs.length (n*sz) then some (.aw ct 0 n,.cells true (aK cs) true sz cs) else none | none=>none
def auW (n sz:Nat) (z:List AV) (ps:List (Nat×Nat×X)):cU tm hp ct (.dd n sz z ps)=N5 ct n sz (fill tm z ps):=by
 simp only [cU,N5];cases fill tm z ps<;>rfl
def SL {n sz:Nat} {cs:List AV} (h:cs.length=n*sz):N5 ct n sz (some cs)=some (.aw ct 0 n,.cells true (aK cs) true sz cs):=by
 simp [N5,h]
def qX (tm:Env) (cs:List AV) (o sz:Nat) (new:List AV) (r:List (Nat×Nat×X)):Option (List AV):=
 bif yx new.length sz&&yG (o+sz) cs.length&&cu new then fill tm (over o new cs) r else none
def asH (cs:List AV):fill tm cs []=some cs:=rfl
def aqH (cs:List AV) (o sz:Nat) (x:X) (r:List (Nat×Nat×X)):fill tm cs ((o,sz,x)::r)=qX tm cs o sz (cellsOf (aF tm x)) r:=rfl
def ahu {cs:List AV} {o:Nat} {v:AV} {r:List (Nat×Nat×X)} (h1:o+1<=cs.length) (h2:dt v=true):qX tm cs o 1 [v] r=fill tm (over o [v] cs) r:=by
 simp [qX,cu,h2,yu h1]
def SM {cs new:List AV} {o sz:Nat} {r:List (Nat×Nat×X)} (h0:new.length=sz) (h1:o+sz<=cs.length) (h2:cu new=true):qX tm cs o sz new r=fill tm (over o new cs) r:=by
 subst h0;simp [qX,h2,yu h1]
def aAx (v u:AV) (r:List AV):over 0 [v] (u::r)=v::r:=rfl
def aAy (v a u:AV) (r:List AV):over 1 [v] (a::u::r)=a::v::r:=rfl
def aAz (v a b u:AV) (r:List AV):over 2 [v] (a::b::u::r)=a::b::v::r:=rfl
def aAA (v a b c u:AV) (r:List AV):over 3 [v] (a::b::c::u::r)=a::b::c::v::r:=rfl
def aAB (v a b c d u:AV) (r:List AV):over 4 [v] (a::b::c::d::u::r)=a::b::c::d::v::r:=rfl
def aAC (v a b c d e u:AV) (r:List AV):over 5 [v] (a::b::c::d::e::u::r)=a::b::c::d::e::v::r:=rfl
def pL (ct sz cJ:Nat) (zero:List AV) (l c:Option Nat):Option (AV×Obj):=
 match l,c with
 | some l,some c=>bif yG l c&&(yG c room&&(yG (c*cJ) room&&(yx zero.length sz&&cu zero))) then some (.aw ct 0 l,.cells true (aK zero) (yx l c) sz (yk l zero).flatten) else none
 | _,_=>none
def ayi (sz cJ:Nat) (z:List AV) (l c:X):cU tm hp ct (.gE sz cJ z l c)=pL ct sz cJ z (du (aF tm l)) (du (aF tm c)):=by
 simp only [cU,pL]
 grind
def Bh {sz cJ l:Nat} {z:List AV} (h1:l<=1099511627776) (h2:l*cJ<=1099511627776) (h3:z.length=sz) (h4:cu z=true):
  pL ct sz cJ z (some l) (some l)=some (.aw ct 0 l,.cells true (aK z) true sz (yk l z).flatten):=by
 subst h3;simp [pL,h4,yu (show l<=room from h1),yu (show l*cJ<=room from h2),yu (yv l)]
def BM (hp:Hp) (ct sz cJ:Nat) (s:AV) (src:Option (Nat×List AV)):gF:=
 match src with
 | none=>none
 | some (m,new)=>
  match s with
  | .aa=>
   bif yx m 0 then some (.aa,hp,ct)
   else bif yG m room&&(yG (m*cJ) room&&yR 0 sz) then some (.aw ct 0 m,(ct,.cells true (aK new) false sz new)::hp,ct+1) else none
  | .aB true n cs=>
   bif yx m 0 then some (.aB true n cs,hp,ct)
   else bif yG (n+m) room&&(yG ((n+m)*cJ) room&&(yx cs.length (n*sz)&&yR 0 sz)) then some (.aw ct 0 (n+m),(ct,.cells true (aK cs&&aK new) false sz (cs++new))::hp,ct+1) else none
  | .aw id o n=>
   match ay hp id with
   | some (.cells true pu _ z cs)=>
    bif yx z sz&&(yG (n+m) room&&(yG ((n+m)*cJ) room&&(yG (o+n*sz) cs.length&&(yR 0 sz&&cu new)))) then
     some (.aw ct 0 (n+m),(ct,.cells true (pu&&aK new) false sz (slice o (n*sz) cs++new))::dK hp id,ct+1)
    else none
   | _=>none
  | _=>none
def aqI (sz cJ:Nat) (s x:X):cP tm hp ct (.aR sz cJ s x)=BM hp ct sz cJ (aF tm s) (r5 hp sz (aF tm x)):=by
 simp only [cP,BM]
 cases r5 hp sz (aF tm x) with
 | none=>rfl
 | some q=>obtain ⟨m,new⟩:=q;cases aF tm s<;>rfl
def apm (sz id o n:Nat):r5 hp sz (.aw id o n)=kJ hp sz (.aw id o n):=rfl
def apn (sz:Nat) (e:Bool) (n:Nat) (cs:List AV):r5 hp sz (.aB e n cs)=kJ hp sz (.aB e n cs):=rfl
def aoL (sz:Nat):r5 hp sz .aa=some (0,[]):=rfl
def atC (o n sz:Nat) (q:Option Obj):Option (Nat×List AV):=match q with | some (.cells _ _ _ _ cs)=>bif yG (o+n*sz) cs.length then some (n,slice o (n*sz) cs) else none | _=>none
def aoM (sz id o n:Nat):kJ hp sz (.aw id o n)=atC o n sz (ay hp id):=rfl
def aAD (rw pu ex:Bool) (z:Nat) (v:AV):atC 0 1 1 (some (.cells rw pu ex z [v]))=some (1,[v]):=rfl
def fQ {sz cJ:Nat} {new:List AV} {m:Nat} (hm:0<m) (h1:m<=1099511627776) (h2:m*cJ<=1099511627776) (hs:0<sz):
  BM hp ct sz cJ .aa (some (m,new))=some (.aw ct 0 m,(ct,.cells true (aK new) false sz new)::hp,ct+1):=by
 have e1:yx m 0=false:=hX (by omega);have e2:yR 0 sz=true:=yu hs;simp [BM,e1,e2,yu (show m<=room from h1),yu (show m*cJ<=room from h2)]
def fC {sz cJ id n m:Nat} {pu ex:Bool} {cs new:List AV} (hg:ay hp id=some (.cells true pu ex sz cs)) (hl:cs.length=n*sz) (h1:n+m<=1099511627776) (h2:(n+m)*cJ<=1099511627776) (hs:0<sz) (ho:cu new=true):
  BM hp ct sz cJ (.aw id 0 n) (some (m,new))=some (.aw ct 0 (n+m),(ct,.cells true (pu&&aK new) false sz (cs++new))::dK hp id,ct+1):=by
 have e2:yR 0 sz=true:=yu hs;simp only [BM,hg];simp [e2,ho,yu (show n+m<=room from h1),yu (show (n+m)*cJ<=room from h2),<-hl,slice,yu (yv cs.length)]
def akZ (n:Nat) (g:Nat) (cap:List AV) (q:Option (List AV×Hp)):Option (AV×Hp):=match q with | some (first,hp)=>(match cO n hp cap with | some (Oc,gU)=>some (.fn (.f g) first Oc,gU) | none=>none) | none=>none
def ak0 (g:Nat) (first:List AV) (q:Option (List AV×Hp)):Option (AV×Hp):=match q with | some (cap,hp)=>some (.fn (.f g) first cap,hp) | none=>none
def ayj (n g:Nat) (first cap:List AV):freeze (n+1) hp (.fn (.f g) first cap)=akZ n g cap (cO n hp first):=rfl
def ayk (n g:Nat) (first cap:List AV):akZ n g cap (some (first,hp))=ak0 g first (cO n hp cap):=rfl
def ayl (g:Nat) (first cap:List AV):ak0 g first (some (cap,hp))=some (.fn (.f g) first cap,hp):=rfl
def ak1 (o:Nat) (q:Option (Bool×Nat×List AV×Hp)):Option (AV×Hp):=match q with | some (_,_,cs,hp)=>some (.cg (cs.drop o),hp) | none=>none
def auX (n id o:Nat):freeze (n+1) hp (.ptr id o)=ak1 o (oT n hp id):=rfl
def aym (o:Nat) (ex:Bool) (sz:Nat) (cs:List AV):ak1 o (some (ex,sz,cs,hp))=some (.cg (cs.drop o),hp):=rfl
def jO (o k:Nat) (q:Option (Bool×Nat×List AV×Hp)):Option (AV×Hp):=
 match q with
 | some (ex,sz,cs,hp)=>bif yG (o+k*sz) cs.length then some (.aB (ex&&yR 0 sz&&yx (o+k*sz) cs.length) k (slice o (k*sz) cs),hp) else none
 | none=>none
def SN (n id o k:Nat):freeze (n+1) hp (.aw id o k)=jO o k (oT n hp id):=rfl
def kI {sz k:Nat} {cs:List AV} (ex:Bool) (hl:cs.length=k*sz) (hs:0<sz):jO 0 k (some (ex,sz,cs,hp))=some (.aB ex k cs,hp):=by
 have e2:yR 0 sz=true:=yu hs;simp [jO,<-hl,e2,slice,yu (yv cs.length)]
def YQ (n id:Nat) (hp:Hp) (q:Option Obj):Option (Bool×Nat×List AV×Hp):=
 match q with
 | some (.cells rw pu ex sz cs)=>
  bif pu then some (ex,sz,cs,bif rw then a6 hp id (.cells false true ex sz cs) else hp)
  else match cO n hp cs with
   | some (dX,ak)=>some (ex,sz,dX,a6 ak id (.cells false false ex sz cs))
   | none=>none
 | _=>none
def SO (n id:Nat):oT (n+1) hp id=YQ n id hp (ay hp id):=rfl
def ayn (n id:Nat) (ex:Bool) (sz:Nat) (cs:List AV):YQ n id hp (some (.cells true true ex sz cs))=some (ex,sz,cs,a6 hp id (.cells false true ex sz cs)):=rfl
def ayo (n id:Nat) (ex:Bool) (sz:Nat) (cs:List AV):YQ n id hp (some (.cells false true ex sz cs))=some (ex,sz,cs,hp):=rfl
def cF (n:Nat) (cs:List AV) (h:cO n hp cs=some (cs,hp)):freeze (n+1) hp (.agg cs)=some (.agg cs,hp):=by
 simp only [freeze,h]
def rO {id n sz:Nat} {ex:Bool} {cs:List AV} (hg:ay hp id=some (.cells true true ex sz cs)) (hl:cs.length=n*sz) (hs:0<sz):result hp (.aw id 0 n)=some (.bw ex sz n cs):=by
 have e2:yR 0 sz=true:=yu hs;simp only [result,jY,hg,ye,<-hl,yu (yv cs.length),yA,e2,vj,slice,yK,xB]
 simp
def ac2 {k id n sz:Nat} {ex:Bool} {cs:List AV} (hg:ay hp id=some (.cells true true ex sz cs)) (hl:cs.length=n*sz) (hs:0<sz):jY k hp (.aw id 0 n)=some (.bw ex sz n cs,dK hp id):=by
 have e2:yR 0 sz=true:=yu hs;simp only [jY,hg,ye,<-hl,yu (yv cs.length),yA,e2,vj,slice,yK,xB]
 simp
def aoi {id n sz:Nat} {ex:Bool} {cs:List AV} {k:y7} {b:Int} (hg:ay hp id=some (.cells true true ex sz cs)) (hl:cs.length=n*sz) (hs:0<sz):result hp (.ae [.aw id 0 n,.int k b])=some (.ae [.bw ex sz n cs,.int k b]):=by
 have h1:A9 [.aw id 0 n,.int k b]=some [id]:=rfl;simp only [result,h1,qM,ac2 hg hl hs];rfl
def an5 (b:Bool):result hp (.ae [.aa,.bool b])=some (.ae [.aa,.bool b]):=rfl
def an6 (k:y7) (b:Int):result hp (.ae [.aa,.int k b])=some (.ae [.aa,.int k b]):=rfl
def an7 (e:Bool) (n:Nat) (cs:List AV) (k:y7) (b:Int):result hp (.ae [.aB e n cs,.int k b])=some (.ae [.aB e n cs,.int k b]):=rfl
def aqJ (s:St):pw [] s=some s:=rfl
def fzC (t:Nat) (r:List Nat) (tm:Env) (ct base:Nat) (q:Option (AV×Hp)):Option St:=match q with | some (v,hp)=>pw r ⟨(t,v)::tm,hp,ct,base⟩ | none=>none
def apo (t:Nat) (r:List Nat) (tm:Env) (hp:Hp) (ct base:Nat):pw (t::r) ⟨tm,hp,ct,base⟩=fzC t r tm ct base (freeze deep hp (af tm t)):=by
 simp only [pw,fzC];cases freeze deep hp (af tm t)<;>rfl
def aAE (t:Nat) (r:List Nat) (tm:Env) (ct base:Nat) (v:AV) (hp:Hp):fzC t r tm ct base (some (v,hp))=pw r ⟨(t,v)::tm,hp,ct,base⟩:=rfl
end
attribute [go_sem] an5 an6 an7 aqA apj aqB apk aqC aqD aqE asD aqF ahs asE aht asF auT auU auV ayc asG ac1
 aqG apl ayd aye aAw aBO ayf ayg ayh N4 adX ajm aBP auW asH aqH aAx aAy aAz aAA aAB aAC ayi
 aqI apm apn aoL aoM aAD ayj ayk ayl auX aym SN kI SL ahu SO ayn ayo aqJ apo aAE
 Bool.and_false Bool.false_and yK eq_self
end
section
open Go (IntKind)
def adY:∀hp:Hp,jr 0 hp=[]
 | []=>rfl
 | (id,o)::r=>by
  have:yR id 0=false:=rfl
  simp only [jr,this,yV,adY r]
def aiG (f:Nat->Option Nat):∀hp:Hp,mh 0 f hp=[]
 | []=>rfl
 | (id,o)::r=>by
  have:yR id 0=false:=rfl
  simp only [mh,this,yV,aiG f r]
def pos (seen:List Nat):Nat->Option Nat:=fun id=>fh id seen 0
def YR (tm:Env) (hp:Hp) (seen:List Nat):St:=⟨gm (pos seen) tm,ib hp (pos seen) seen 0 [],seen.length,0⟩
def mE (hp:Hp):Nat->List Nat->List Nat->List Nat:=reach hp 0
def av (live:List Nat) (tm:Env) (hp:Hp) (ct:Nat):aJ live ⟨tm,hp,ct,0⟩=YR (cC tm live) hp (mE hp 100000 (fL (cC tm live)) []):=by
 have e:∀seen,kN 0 seen=pos seen:=fun seen=>by
  funext id
  have:yR id 0=false:=rfl
  simp only [kN,this,yV,pos]
 simp only [aJ,adY,wo,e,aiG,YR,mE,ye]
def aqK:fL []=[]:=rfl
def apq (i:Nat) (v:AV) (r:Env):fL ((i,v)::r)=refs v++fL r:=rfl
def asI (k:y7) (n:Int):refs (.int k n)=[]:=rfl
def aqL (b:Bool):refs (.bool b)=[]:=rfl
def asJ (s:List Nat):refs (.str s)=[]:=rfl
def aqM:refs .aa=[]:=rfl
def asK (e:Bool) (n:Nat) (cs:List AV):refs (.aB e n cs)=[]:=rfl
def aqN (cs:List AV):refs (.cg cs)=[]:=rfl
def apr:refs .undef=[]:=rfl
def asL (id o:Nat):refs (.ptr id o)=[id]:=rfl
def asM (id o n:Nat):refs (.aw id o n)=[id]:=rfl
def auY (g:Nat) (a b:List AV):refs (.fn (.f g) a b)=iI a++iI b:=rfl
def ayp (l:Nat) (a b:List AV):refs (.fn (.y l) a b)=[l]:=rfl
def asN (cs:List AV):refs (.agg cs)=iI cs:=rfl
def aqO:iI []=[]:=rfl
def aps (v:AV) (r:List AV):iI (v::r)=refs v++iI r:=rfl
def PE (hp:Hp) (n id:Nat) (fS seen:List Nat) (q:Option Obj):List Nat:=match q with | some o=>mE hp n (kM o++fS) (seen++[id]) | none=>mE hp n fS seen
def PF (hp:Hp) (n id:Nat) (fS seen:List Nat) (b:Bool):List Nat:=bif b then mE hp n fS seen else PE hp n id fS seen (ay hp id)
def ahv (hp:Hp) (n:Nat) (seen:List Nat):mE hp (n+1) [] seen=seen:=rfl
def Sp (hp:Hp) (n id:Nat) (fS seen:List Nat):mE hp (n+1) (id::fS) seen=PF hp n id fS seen (jx id seen):=by
 have:yR id 0=false:=rfl
 simp only [mE,reach,this,Bool.false_or,PF,PE]
 cases jx id seen with
 | true=>rfl
 | false=>simp only [yV];cases ay hp id<;>rfl
def ayq (hp:Hp) (n id:Nat) (fS seen:List Nat):PF hp n id fS seen true=mE hp n fS seen:=rfl
def Tm (hp:Hp) (n id:Nat) (fS seen:List Nat):PF hp n id fS seen false=PE hp n id fS seen (ay hp id):=rfl
def Tn (hp:Hp) (n id:Nat) (fS seen:List Nat) (o:Obj):PE hp n id fS seen (some o)=mE hp n (kM o++fS) (seen++[id]):=rfl
def adZ (i:Nat):jx i []=false:=rfl
def ad0 (i:Nat) (r:List Nat):jx i (i::r)=true:=by simp only [jx,wP,yA]
def ac3 {i j:Nat} (r:List Nat) (h:j≠i):jx i (j::r)=jx i r:=by simp only [jx,hX h,yV]
def auZ (rw ex:Bool) (sz:Nat) (cs:List AV):kM (.cells rw true ex sz cs)=[]:=rfl
def ahw (rw ex:Bool) (sz:Nat) (cs:List AV):kM (.cells rw false ex sz cs)=iI cs:=rfl
def asP (tm:Env) (ps:List Nat) (a b:VC) (st:Nat) (pe:zY):kM (.lp tm ps a b st pe)=fL tm:=rfl
def ahx (i:Nat) (r:List Nat) (k:Nat):fh i (i::r) k=some k:=by simp only [fh,wP,yA]
def ad1 {i j:Nat} (r:List Nat) (k:Nat) (h:j≠i):fh i (j::r) k=fh i r (k+1):=by simp only [fh,hX h,yV]
def pos_eq (seen:List Nat) (i:Nat):pos seen i=fh i seen 0:=rfl
def ajn (o:Nat) (q:Option Nat):AV:=match q with | some j=> .ptr j o | none=> .undef
def ajo (o n:Nat) (q:Option Nat):AV:=match q with | some j=> .aw j o n | none=> .undef
def asQ (s:List Nat):gm (pos s) []=[]:=rfl
def aqP (s:List Nat) (i:Nat) (v:AV) (r:Env):gm (pos s) ((i,v)::r)=(i,ck (pos s) v)::gm (pos s) r:=rfl
def au0 (s:List Nat) (k:y7) (n:Int):ck (pos s) (.int k n)= .int k n:=rfl
def asR (s:List Nat) (b:Bool):ck (pos s) (.bool b)= .bool b:=rfl
def au1 (s:List Nat) (t:List Nat):ck (pos s) (.str t)= .str t:=rfl
def asS (s:List Nat):ck (pos s) .aa= .aa:=rfl
def au2 (s:List Nat) (e:Bool) (n:Nat) (cs:List AV):ck (pos s) (.aB e n cs)= .aB e n cs:=rfl
def asT (s:List Nat) (cs:List AV):ck (pos s) (.cg cs)= .cg cs:=rfl
def aqQ (s:List Nat):ck (pos s) .undef= .undef:=rfl
def au3 (s:List Nat) (id o:Nat):ck (pos s) (.ptr id o)=ajn o (fh id s 0):=rfl
def au4 (s:List Nat) (id o n:Nat):ck (pos s) (.aw id o n)=ajo o n (fh id s 0):=rfl
def ayr (s:List Nat) (g:Nat) (a b:List AV):ck (pos s) (.fn (.f g) a b)= .fn (.f g) (fo (pos s) a) (fo (pos s) b):=rfl
def au5 (s:List Nat) (cs:List AV):ck (pos s) (.agg cs)= .agg (fo (pos s) cs):=rfl
def asU (s:List Nat):fo (pos s) []=[]:=rfl
def aqR (s:List Nat) (v:AV) (r:List AV):fo (pos s) (v::r)=ck (pos s) v::fo (pos s) r:=rfl
def au6 (o j:Nat):ajn o (some j)= .ptr j o:=rfl
def au7 (o n j:Nat):ajo o n (some j)= .aw j o n:=rfl
def YS (hp:Hp) (f:Nat->Option Nat) (r:List Nat) (k:Nat) (acc:Hp) (q:Option Obj):Hp:=match q with | some o=>ib hp f r (k+1) ((k,ja f o)::acc) | none=>ib hp f r (k+1) acc
def aqS (hp:Hp) (s:List Nat) (k:Nat) (acc:Hp):ib hp (pos s) [] k acc=acc:=rfl
def apt (hp:Hp) (s:List Nat) (id:Nat) (r:List Nat) (k:Nat) (acc:Hp):ib hp (pos s) (id::r) k acc=YS hp (pos s) r k acc (ay hp id):=by
 simp only [ib,YS];cases ay hp id<;>rfl
def ays (hp:Hp) (s r:List Nat) (k:Nat) (acc:Hp) (o:Obj):YS hp (pos s) r k acc (some o)=ib hp (pos s) r (k+1) ((k,ja (pos s) o)::acc):=rfl
def ayt (f:Nat->Option Nat) (rw ex:Bool) (sz:Nat) (cs:List AV):ja f (.cells rw true ex sz cs)= .cells rw true ex sz cs:=rfl
def ayu (f:Nat->Option Nat) (rw ex:Bool) (sz:Nat) (cs:List AV):ja f (.cells rw false ex sz cs)= .cells rw false ex sz (fo f cs):=rfl
def au8 (f:Nat->Option Nat) (tm:Env) (ps:List Nat) (a b:VC) (st:Nat) (pe:zY):ja f (.lp tm ps a b st pe)= .lp (gm f tm) ps a b st pe:=rfl
def ahy (tm:Env) (hp:Hp) (seen:List Nat):YR tm hp seen=⟨gm (pos seen) tm,ib hp (pos seen) seen 0 [],seen.length,0⟩:=rfl
attribute [go_sem] aqK apq asI aqL asJ aqM asK aqN apr asL asM auY ayp asN aqO aps ahv Sp ayq Tm Tn
 adZ ad0 ac3 auZ ahw asP ahx ad1 asQ aqP au0 asR au1 asS au2 asT aqQ au3 au4 ayr au5 asU aqR au6 au7
 aqS apt ays ayt ayu au8 ahy yI yP
end
section
open Go (IntKind)
section
variable {P:aM} {L:Lib}
def ML {k:y7} {n:Int} (h:0<=n):du (.int k n)=some n.toNat:=by
 cases n with
 | ofNat n=>rfl
 | negSucc n=>exact absurd h (by simp)
end
end
section
open Go (IntKind)
section
variable {P:aM} {L:Lib}
def cd (k id o:Nat):JA k (.ptr id o)=some (.ptr id (o+k)):=rfl
def dh {α:Type} (a:α) (l:List α):vT 1 (a::l)=l:=rfl
def aAF {α:Type} (a b:α) (l:List α):vT 2 (a::b::l)=l:=rfl
def ajp {α:Type} (a b c:α) (l:List α):vT 3 (a::b::c::l)=l:=rfl
end
end
section
open Go (IntKind)
section
variable {P:aM} {L:Lib}
abbrev Nm (n:Int):AV:= .agg [ab n,.aa]
def sf (hp:Hp) (ct id:Nat) (a:Int) (x y:AV):im hp ct id 0 2 [.int .i64 a,.aa] (some (.cells true true true 2 [x,y]))=some (.ae [],a6 hp id (.cells true true true 2 [.int .i64 a,.aa]),ct):=rfl
def eG (b:Bool):KJ false (some b)=some (.bool b):=by cases b<;>rfl
def aiH (f:cD) (tm:Env) (hp:Hp) (ct:Nat) (x y:X):bf P L f tm hp ct (.mn [x,y])=rd hp ct (min2 (aF tm x) (aF tm y)):=by
 simp only [bf,rd,bG,dD,Bl]
 grind
def Ju (f:cD) (tm:Env) (hp:Hp) (ct:Nat) (x y:X):bf P L f tm hp ct (.mx [x,y])=rd hp ct (max2 (aF tm x) (aF tm y)):=by
 simp only [bf,rd,bG,dD,Bl]
 grind
def ad2 (k k':y7) (x y:Int):min2 (.int k x) (.int k' y)=some (.int k (if y<x then y else x)):=rfl
def IF (k k':y7) (x y:Int):max2 (.int k x) (.int k' y)=some (.int k (if y>x then y else x)):=rfl
def cX (n:Int):Int:=if n<0 then -1 else if n=0 then 0 else 1
def ayv (n:Int):(if (if n<1 then n else 1)> -1 then (if n<1 then n else 1) else -1)=cX n:=by
 unfold cX
 grind
def n117 (h:Has P L 117 Om) (n:Int):aj P L 117 [ab n] (Nm n):=by
 unfold aj;rw [aI h];simp only [go_sem,ya,yb,Nat.reduceLeDiff,Om,bj,ye,sf];rfl
def pz (hp:Hp) (p q:Bool):jN .b (.bool p) (.bool q)=some (p==q):=rfl
end
end
section
open Go (IntKind)
section
variable {P:aM} {L:Lib}
def jq {n:Nat} {sp:List AV->Option AV} (h:L.pure n=some sp) {f:cD} (az:List AV):bP P L f n az=sp az:=by simp only [bP,h]
abbrev U64 (n:Int):AV:= .int .u64 n
def aAG {n:Int} (h1:0<=n) (h2:n<18446744073709551616):IntKind.wrap .u64 n=n:=by
 simp only [IntKind.wrap,IntKind.signed,IntKind.bits]
 grind
def aiI (n:Int):pC (.toInt .u64) (ab n)=some (U64 (IntKind.wrap .u64 n)):=rfl
def NJ (n:Int):pC (.toInt .i64) (U64 n)=some (ab (IntKind.wrap .i64 n)):=rfl
def Jv (b:Bool):KJ true (some b)=some (.bool (!b)):=by cases b<;>rfl
def cy (a b:AV) (r:List AV):iC 2 true (a::b::r)=some (.agg [a,b]):=rfl
def iK (a b c d:AV) (r:List AV):iC 4 true (a::b::c::d::r)=some (.agg [a,b,c,d]):=rfl
def aqT {a b:Int} (hb:0<b):(a.tmod b<0->a/b=a.tdiv b-1/\a%b=a.tmod b+b)/\(¬a.tmod b<0->a/b=a.tdiv b/\a%b=a.tmod b):=by
 have h1:=Int.mul_tdiv_add_tmod a b;have h2:a.tmod b<b:=Int.tmod_lt_of_pos a hb;have h3: -b<a.tmod b:=Int.lt_tmod_of_pos a hb;refine ⟨fun h=>(tg hb).2 ⟨?_,?_,?_⟩,fun h=>(tg hb).2 ⟨?_,?_,?_⟩⟩
 ·grind
 ·omega
 ·omega
 ·omega
 ·omega
 ·omega
def asV (a b:Nat) (hb:b≠0):wG b (a%b)=wG a b:=by
 rw [uX b,<-ybL,uX]
end
end
section
def dB (a b:Int):Int:=a/(wX a b:Nat)
def dE (a b:Int):Int:=b/(wX a b:Nat)
def No {a b:Int} (hb:0<b):(0:Int)<(wX a b:Nat):=by
 have:=Int.gcd_pos_of_ne_zero_right a (show b≠0 by omega)
 omega
def ayw (a b:Int):a=(wX a b:Nat)*dB a b:=(yap (tn a b)).symm
def ayx (a b:Int):b=(wX a b:Nat)*dE a b:=(yap (uZ a b)).symm
def IG {a b:Int} (hb:0<b):0<dE a b:=by
 have h1:=No (a:=a) hb;have h2:=ayx a b;rcases Int.lt_trichotomy (dE a b) 0 with h | h | h
 ·have:=Int.mul_neg_of_pos_of_neg h1 h;omega
 ·grind
 ·exact h
def ad3 (a b:Int):(dB a b).natAbs<=a.natAbs:=by
 unfold dB;rw [uj (tn a b)];exact vB _ _
def ad4 (a b:Int):(dE a b).natAbs<=b.natAbs:=by
 unfold dE;rw [uj (uZ a b)];exact vB _ _
def pM (a b:Int):List Nat:=if dE a b=1 then aX (dB a b) else aX (dB a b)++[47]++aX (dE a b)
end
section
def ajq {a b:Nat} (h:¬a<b):yR a b=false:=by
 cases hb:yR a b with
 | false=>rfl
 | true=>exact absurd (yz hb) (by omega)
def SP:∀(f n:Nat) (acc:List Nat),n<f->mQ f n acc=mQ f n []++acc
 | 0,_,_,h=>by omega
 | f+1,n,acc,h=>by
  simp only [mQ];by_cases h1:n<10
  ·rw [show yR n 10=true from yu h1];rfl
  ·rw [show yR n 10=false from ajq (by omega)];rw [SP f (n/10) _ (by omega),SP f (n/10) [48+n%10] (by omega)]
   simp
def R3 {f n:Nat} (h:n<10):mQ (f+1) n []=[48+n]:=by
 simp only [mQ];rw [show yR n 10=true from yu h];rfl
def SQ {f n:Nat} (h:¬n<10) (hf:n<=f):mQ (f+1) n []=mQ f (n/10) []++[48+n%10]:=by
 rw [<-SP f (n/10) _ (by omega)];simp only [mQ];rw [show yR n 10=false from ajq (by omega)];rfl
def asW:∀(n f:Nat),n<f->mQ f n []=aD n:=by
 intro n
 induction n using vJ with
 | _ n ih=>
  intro f hf;obtain ⟨g,rfl⟩:∃g,f=g+1:=⟨f-1,by omega⟩;by_cases h:n<10
  ·rw [R3 h];unfold aD;rw [R3 h]
  ·rw [SQ h (by omega),ih (n/10) (by omega) g (by omega)];unfold aD;rw [SQ h (yv n),ih (n/10) (by omega) n (by omega)];rfl
def oS {n:Nat} (h:n<10):aD n=[48+n]:=R3 h
def qJ {n:Nat} (h:¬n<10):aD n=aD (n/10)++[48+n%10]:=by
 rw [show aD n=mQ (n+1) n [] from rfl,SQ h (yv n),asW (n/10) n (by omega)]
def rU:∀{k n:Nat},n<10^(k+1)->(aD n).length<=k+1
 | 0,n,h=>by rw [oS (by simpa using h)];simp
 | k+1,n,h=>by
  by_cases h1:n<10
  ·rw [oS h1];simp
  ·rw [qJ h1,yN]
   have:n/10<10^(k+1):=by
    grind
   have:=rU this
   grind
def Mz {n:Nat} (h:n<18446744073709551616):(aD n).length<=20:=rU (k:=19) (by omega)
def ll (n:Nat):aX (n:Int)=aD n:=rfl
def mP {n:Int} (h:n<0):aX n=45::aD n.natAbs:=by
 cases n with
 | ofNat n=>exact absurd h (by simp)
 | negSucc n=>rfl
def b6:List Nat->Nat
 | []=>0
 | b::r=>if b=47 then 0 else b6 r+1
def aoN {s:List Nat} {i:Nat} (h:i<s.length):b6 (s.drop i)=if s[i]=47 then 0 else b6 (s.drop (i+1))+1:=by
 rw [yS h];rfl
def Ix:∀s:List Nat,b6 s<=s.length
 | []=>yv _
 | b::r=>by
  unfold b6
  have:=Ix r
  grind
def dn:List Nat->Bool
 | []=>true
 | b::r=>yG 48 b&&yG b 57&&dn r
def Mh:∀(a b:List Nat),dn (a++b)=(dn a&&dn b)
 | [],b=>by simp [dn]
 | x::a,b=>by simp [dn,Mh a b,Bool.and_assoc]
def Iy (n:Nat):dn (aD n)=true:=by
 induction n using vJ with
 | _ n ih=>
  by_cases h:n<10
  ·rw [oS h];simp [dn];omega
  ·rw [qJ h,Mh,ih (n/10) (by omega)];simp [dn];omega
def Mi:∀{s:List Nat} (r:List Nat),dn s=true->b6 (s++r)=s.length+b6 r
 | [],r,_=>by simp
 | b::s,r,h=>by
  simp only [dn,yh] at h;have h1:=yz h.1.1;simp only [xk,b6,yI];rw [yD (by omega),Mi r h.2];omega
def Mj:∀(l:List Nat) (a d:Nat),d<10->cT (l++[48+d]) a=(cT l a).map (fun v=>10*v+d)
 | [],a,d,h=>by
  simp only [xC,cT];rw [show yG 48 (48+d)=true from yu (by omega),show yG (48+d) 57=true from yu (by omega)]
  simp
 | b::l,a,d,h=>by
  simp only [xk,cT]
  cases (yG 48 b&&yG b 57) with
  | true=>exact Mj l _ d h
  | false=>rfl
def CI (n:Nat):cT (aD n) 0=some n:=by
 induction n using vJ with
 | _ n ih=>
  by_cases h:n<10
  ·rw [oS h]
   have:=Mj [] 0 n h
   simpa [cT] using this
  ·rw [qJ h,Mj _ _ _ (by omega),ih (n/10) (by omega)]
   simp;omega
def aqU {s:List Nat} {i a v:Nat} (h:i<s.length) (hv:cT (s.drop i) a=some v):48<=s[i]/\s[i]<=57/\cT (s.drop (i+1)) (10*a+(s[i]-48))=some v:=by
 rw [yS h] at hv;simp only [cT] at hv
 cases hb:(yG 48 s[i]&&yG s[i] 57) with
 | false=>rw [hb] at hv;cases hv
 | true=>
  simp_all
def iN:Nat->Nat->List Nat
 | 0,_=>[]
 | k+1,n=>iN k (n/10)++[48+n%10]
def Sq:∀k n,(iN k n).length=k
 | 0,_=>rfl
 | k+1,n=>by simp [iN,Sq k]
def MZ:∀(k m r:Nat),0<m->r<10^k->aD (m*10^k+r)=aD m++iN k r
 | 0,m,r,_,h=>by simp at h;subst h;simp [iN]
 | k+1,m,r,hm,h=>by
  have h1:m*10^(k+1)+r=(m*10^k)*10+r:=by grind
  have hp:0<m*10^k:=yab hm (Nat.pow_pos (by decide));have e1:(m*10^(k+1)+r)/10=m*10^k+r/10:=by omega
  have e2:(m*10^(k+1)+r)%10=r%10:=by omega
  rw [qJ (by omega),e1,e2,MZ k m (r/10) hm (by rw [xd] at h;omega)];simp [iN]
def ad5:∀(k r a:Nat),r<10^k->cT (iN k r) a=some (a*10^k+r)
 | 0,r,a,h=>by simp at h;subst h;simp [iN,cT]
 | k+1,r,a,h=>by
  rw [iN,Mj _ _ _ (xE _ (by decide)),ad5 k (r/10) a (by omega)];simp only [wD,yd,xd]
  grind
def asX {m:Nat} (h:1000000000<=m):aD m=aD (m/1000000000)++iN 9 (m%1000000000):=by
 have:=MZ 9 (m/1000000000) (m%1000000000) (by omega) (by omega)
 grind
end
section
open Go (IntKind)
def iB (s:List Nat) (l h:Option Nat):Option AV:=
 match l,h with
 | some l,some h=>bif yG l h&&yG h s.length then some (.str ((s.take h).drop l)) else none
 | _,_=>none
def eQ (hp:Hp) (s:List Nat) (tm:Env) (lo hi:Option X):fg hp .str (.str s) tm lo hi=iB s (df tm 0 lo) (df tm s.length hi):=by
 unfold iB;simp only [fg]
 grind
def ff (tm:Env) (d:Nat):df tm d none=some d:=rfl
def dJ (tm:Env) (d:Nat) (x:X):df tm d (some x)=du (aF tm x):=rfl
def lz {s:List Nat} {l h:Nat} (h1:l<=h) (h2:h<=s.length):iB s (some l) (some h)=some (.str ((s.take h).drop l)):=by
 simp [iB,yu h1,yu h2]
def gM {a b:List Nat} (h:a.length+b.length<=9223372036854775807):binOp .add (.str a) (.str b)=some (.str (a++b)):=by
 show Jz .add a b=_
 simp only [Jz,yu h,yA]
def au9 (k:y7) (n:Int):pC (.toInt .i64) (.int k n)=some (ab (IntKind.wrap .i64 n)):=rfl
def lC (a b:List Nat):binOp .eql (.str a) (.str b)=some (.bool (db a b)):=rfl
def qO {s:List Nat} {i:Nat} (h:i<s.length):mU i (.str s)=some (.int .u8 (s[i]:Nat)):=by
 simp only [mU,xS h]
def ace {r:Nat} (h:r<10):iB [48,49,50,51,52,53,54,55,56,57] (some r) (some (r+1))=some (.str [48+r]):=by
 have:r=0\/r=1\/r=2\/r=3\/r=4\/r=5\/r=6\/r=7\/r=8\/r=9:=by omega
 rcases this with rfl | rfl | rfl | rfl | rfl | rfl | rfl | rfl | rfl | rfl<;>rfl
section
variable {P:aM} {L:Lib}
def YT (h:Has P L 292 z8) {n:Nat} (hn:n<9223372036854775808):aj P L 292 [ab n,ab 1] (.str (aD n)):=by
 have key:=eP (P:=P) (L:=L) (live:=[0,1,5]) (a:=nQ)
  (I:=fun k st=>∃(m:Nat) (s:List Nat),st=⟨[(0,ab m),(1,ab 1),(5,.str s)],[],0,0⟩/\m<=n/\m+(1-s.length)=k/\s.length<=20/\((s=[]/\m=n)\/(0<s.length/\(m=0->s=aD n)/\(0<m->aD n=aD m++s))))
  (Q:=fun ex st=>∃tm ct,st=⟨tm,[],ct,0⟩/\ex= .exit 0/\af tm 5= .str (aD n)) ?_
 ·unfold aj;rw [aI h];simp only [go_sem,z8];generalize hq:D P L (.loop [0,1,5] nQ) _=q;obtain ⟨ex,st,rfl,tm,ct,rfl,rfl,h2⟩:=bq hq (key (n+1)) ⟨n,[],by simp only [go_sem,ya,av]<;>rfl,by omega,rfl,by simp,.inl ⟨rfl,rfl⟩⟩
  simp only [go_sem,av,h2]
 ·rintro k st ⟨m,s,rfl,hm,hk,hl,hs⟩;by_cases zd:0<m\/s.length<1
  ·left
   have hc:((decide ((0:Int)<m))=true)\/((decide ((0:Int)<m))=false/\((s.length:Nat):Int)<1):=by
    by_cases h0:0<m
    ·exact .inl (xx (by omega))
    ·exact .inr ⟨xa (by omega),by omega⟩
   have hr:((m:Int)).tmod 10=((m%10:Nat):Int):=by rw [xZ (by omega)];rfl
   have hq:((m:Int)).tdiv 10=((m/10:Nat):Int):=by rw [Int.tdiv_eq_ediv_of_nonneg (by omega)];rfl
   have hd:=ace (r:=m%10) (by omega);have fin:∃s' k',D P L nQ ⟨[(0,ab m),(1,ab 1),(5,.str s)],[],0,0⟩=some (.normal,s')/\k'<k/\aJ [0,1,5] s'=⟨[(0,ab (m/10:Nat)),(1,ab 1),(5,.str ([48+m%10]++s))],[],0,0⟩/\m/10+(1-([48+m%10]++s).length)=k':=by
    rcases hc with hc | ⟨hc,sZ⟩
    ·have hc:(0:Int)<m:=of_decide_eq_true hc
     simp only [go_sem,ya,yb,nQ,hc,iV _ _ _ (show (10:Int)≠0 by decide),gL _ _ _ (show (10:Int)≠0 by decide),hr,hq,wrapN (n:=m%10+1) (by omega),wrap64 (n:=((m/10:Nat):Int)) (by omega) (by omega),eQ,dJ,show ((m%10:Nat):Int)+1=((m%10+1:Nat):Int) from rfl,hd,gM (a:=[48+m%10]) (b:=s) (by simp;omega)];refine ⟨_,_,rfl,?_,by simp only [go_sem,ya,av],rfl⟩
     simp;omega
    ·have hc:¬(0:Int)<m:=of_decide_eq_false hc
     simp only [go_sem,ya,yb,nQ,hc,sZ,iV _ _ _ (show (10:Int)≠0 by decide),gL _ _ _ (show (10:Int)≠0 by decide),hr,hq,wrapN (n:=m%10+1) (by omega),wrap64 (n:=((m/10:Nat):Int)) (by omega) (by omega),eQ,dJ,show ((m%10:Nat):Int)+1=((m%10+1:Nat):Int) from rfl,hd,gM (a:=[48+m%10]) (b:=s) (by simp;omega)];refine ⟨_,_,rfl,?_,by simp only [go_sem,ya,av],rfl⟩
     simp;omega
   obtain ⟨s',k',f1,f2,f3,f4⟩:=fin;refine ⟨s',k',f1,f2,m/10,[48+m%10]++s,f3,by omega,f4,?_,.inr ⟨by simp,fun h0=>?_,fun h0=>?_⟩⟩
   ·have aIV:=Mz (n:=n) (by omega);rcases hs with ⟨rfl,rfl⟩ | ⟨h1,h2,h3⟩
    ·simp
    ·by_cases h0:0<m
     ·have e:=congrArg tD (h3 h0);have e2:0<(aD m).length:=by
       by_cases h9:m<10
       ·rw [oS h9];simp
       ·rw [qJ h9];simp
      simp only [yN] at e
      simp;omega
     ·omega
   ·have h9:m<10:=by omega
    rcases hs with ⟨rfl,rfl⟩ | ⟨h1,h2,h3⟩
    ·rw [oS h9,yX h9];rfl
    ·have:0<m:=by omega
     rw [h3 this,oS h9,yX h9]
   ·have h9:¬m<10:=by omega
    rcases hs with ⟨rfl,rfl⟩ | ⟨h1,h2,h3⟩
    ·rw [qJ h9];simp
    ·rw [h3 (by omega),qJ h9];simp
  ·right
   simp only [go_sem,ya,nQ,show ¬(0:Int)<m by omega,show ¬((s.length:Nat):Int)<1 by omega];refine ⟨_,_,rfl,by simp,_,_,rfl,rfl,?_⟩;simp only [go_sem,ya];rcases hs with ⟨rfl,rfl⟩ | ⟨h1,h2,h3⟩
   ·simp at zd
   ·rw [h2 (by omega)]
def aBQ (h:Has P L 291 Kp) {a b:Nat} (ha:a<9223372036854775808) (hb:b<9223372036854775808):aj P L 291 [ab a,ab b] (ab (wG a b)):=by
 have key:=eP (P:=P) (L:=L) (live:=[0,1]) (a:=Jm)
  (I:=fun k st=>∃x y:Nat,st=⟨[(0,ab x),(1,ab y)],[],0,0⟩/\y=k/\wG x y=wG a b)
  (Q:=fun ex st=>∃tm ct,st=⟨tm,[],ct,0⟩/\ex= .exit 0/\af tm 0=ab (wG a b)) ?_
 ·unfold aj;rw [aI h];simp only [go_sem,Kp];generalize hq:D P L (.loop [0,1] Jm) _=q;obtain ⟨ex,st,rfl,tm,ct,rfl,rfl,h2⟩:=bq hq (key b) ⟨a,b,by simp only [go_sem,ya,av]<;>rfl,rfl,rfl⟩
  simp only [go_sem,av,h2]
 ·rintro k st ⟨x,y,rfl,rfl,hg⟩;by_cases hy:y=0
  ·right
   subst hy;simp only [go_sem,ya,Jm,show ¬(0:Int)<((0:Nat):Int) by omega];refine ⟨_,_,rfl,by simp,_,_,rfl,rfl,?_⟩;simp only [go_sem,ya];rw [<-hg,Nat.gcd_zero_right]
  ·left
   have hr:((x:Int)).tmod y=((x%y:Nat):Int):=by rw [xZ (by omega)];rfl
   simp only [go_sem,ya,Jm,show (0:Int)<y by omega,iV _ _ _ (show (y:Int)≠0 by omega),hr];refine ⟨_,x%y,rfl,xE _ (by omega),y,x%y,by simp only [go_sem,ya,av],rfl,?_⟩;rw [<-hg,uX y,<-ybL,uX]
end
end
section
open Go (IntKind)
section
variable {P:aM} {L:Lib}
def Gj (h:Has P L 272 Km) {s:List Nat} (hl:s.length<9223372036854775808):aj P L 272 [.str s] (ab (b6 s)):=by
 have key:=eP (P:=P) (L:=L) (live:=[0,3]) (a:=Fi)
  (I:=fun k st=>∃i:Nat,st=⟨[(0,.str s),(3,ab i)],[],0,0⟩/\i+k=s.length/\i+b6 (s.drop i)=b6 s)
  (Q:=fun ex st=>∃tm ct,st=⟨tm,[],ct,0⟩/\((ex= .ret/\af tm 2=ab (b6 s))\/(ex= .exit 0/\af tm 0= .str s/\b6 s=s.length))) ?_
 ·unfold aj;rw [aI h];simp only [go_sem,Km];generalize hq:D P L (.loop [0,3] Fi) _=q;obtain ⟨ex,st,rfl,tm,ct,rfl,h2⟩:=bq hq (key s.length) ⟨0,by simp only [go_sem,ya,av]<;>rfl,by omega,by simp⟩
  rcases h2 with ⟨rfl,h2⟩ | ⟨rfl,h2,h3⟩
  ·simp only [go_sem,h2]
  ·simp only [go_sem,av,h2,h3]
 ·rintro k st ⟨i,rfl,hk,hs⟩;by_cases hi:i<s.length
  ·rw [aoN hi] at hs;by_cases h7:s[i]=47
   ·right
    rw [yT h7] at hs;simp only [go_sem,ya,Fi,show (i:Int)<s.length by omega,qO hi,show ((s[i]:Nat):Int)=47 by omega];refine ⟨_,_,rfl,by simp,_,_,rfl,.inl ⟨rfl,?_⟩⟩;simp only [go_sem];rw [<-hs];rfl
   ·left
    rw [yD h7] at hs;simp only [go_sem,ya,Fi,show (i:Int)<s.length by omega,qO hi,show ¬((s[i]:Nat):Int)=47 by omega];refine ⟨_,k-1,rfl,by omega,i+1,?_,by omega,by omega⟩;rw [wrap64 (by omega) (by omega)];simp only [go_sem,ya,av]<;>rfl
  ·right
   simp only [go_sem,ya,Fi,show ¬(i:Int)<s.length by omega];refine ⟨_,_,rfl,by simp,_,_,rfl,.inr ⟨rfl,by simp only [go_sem,ya],?_⟩⟩;rw [xh (by omega)] at hs;simp only [b6] at hs;omega
def KL (h:Has P L 290 FR) {s:List Nat} {v:Nat} (hl:s.length<=18) (hv:cT s 0=some v):aj P L 290 [.str s] (ab v):=by
 have key:=eP (P:=P) (L:=L) (live:=[0,3,4]) (a:=Jl)
  (I:=fun k st=>∃i a:Nat,st=⟨[(0,.str s),(3,ab a),(4,ab i)],[],0,0⟩/\i+k=s.length/\a<10^i/\cT (s.drop i) a=some v)
  (Q:=fun ex st=>∃tm ct,st=⟨tm,[],ct,0⟩/\ex= .exit 0/\af tm 3=ab v) ?_
 ·unfold aj;rw [aI h];simp only [go_sem,FR];generalize hq:D P L (.loop [0,3,4] Jl) _=q;obtain ⟨ex,st,rfl,tm,ct,rfl,rfl,h2⟩:=bq hq (key s.length) ⟨0,0,by simp only [go_sem,ya,av]<;>rfl,by omega,by simp,hv⟩
  simp only [go_sem,av,h2]
 ·rintro k st ⟨i,a,rfl,hk,ha,hs⟩;by_cases hi:i<s.length
  ·left
   obtain ⟨h1,h2,h3⟩:=aqU hi hs;have hp:10^i<=10^17:=yY (by decide) (by omega);have hb:IntKind.wrap .i64 ((s[i]:Nat):Int)=((s[i]:Nat):Int):=wrap64 (by omega) (by omega)
   simp only [go_sem,ya,Jl,show (i:Int)<s.length by omega,qO hi,au9,hb,wrap64 (n:=10*(a:Int)) (by omega) (by omega),wrap64 (n:=10*(a:Int)+(s[i]:Nat)) (by omega) (by omega),wrap64 (n:=10*(a:Int)+(s[i]:Nat)-48) (by omega) (by omega)];refine ⟨_,k-1,rfl,by omega,i+1,10*a+(s[i]-48),?_,by omega,?_,h3⟩
   ·rw [wrap64 (by omega) (by omega),show 10*(a:Int)+(s[i]:Nat)-48=((10*a+(s[i]-48):Nat):Int) by omega];simp only [go_sem,ya,av]<;>rfl
   ·rw [xd];omega
  ·right
   simp only [go_sem,ya,Jl,show ¬(i:Int)<s.length by omega];refine ⟨_,_,rfl,by simp,_,_,rfl,rfl,?_⟩;rw [xh (by omega)] at hs;simp only [cT,yd] at hs;subst hs;simp only [go_sem,ya]
def Np (a:Int):(if 0-a>a then 0-a else a)=(a.natAbs:Int):=by omega
def M0 (a b:Int):a.tdiv (wX a b:Nat)=dB a b:=tV (tn a b)
def M1 (a b:Int):b.tdiv (wX a b:Nat)=dE a b:=tV (uZ a b)
def nK (n:Int):(if n<0 then [45] else [])++aD n.natAbs=aX n:=by
 split
 ·rename_i h;rw [mP h];rfl
 ·rename_i h;obtain ⟨m,rfl⟩:∃m:Nat,n=m:=⟨n.toNat,by omega⟩;rfl
def asY {n:Int} (h:n.natAbs<18446744073709551616):(aX n).length<=21:=by
 rw [<-nK]
 have:=Mz h
 grind
def ava {a b:Int} (hb:0<b):pM a b=(if 1<dE a b then (aX (dB a b)++[47])++aD (dE a b).natAbs else aX (dB a b)):=by
 have h:=IG (a:=a) hb;unfold pM;by_cases h1:dE a b=1
 ·grind
 ·rw [yD h1,yT (by omega)];obtain ⟨m,hm⟩:∃m:Nat,dE a b=m:=⟨(dE a b).toNat,by omega⟩;rw [hm];rfl
def aBR (h:Has P L 277 DB) (YU:Has P L 291 Kp) (rh:Has P L 292 z8) {a b:Int} (ha: -4000000000000000000<=a/\a<=4000000000000000000) (hb:0<b/\b<=4000000000000000000):
  aj P L 277 [ab a,ab b] (.str (pM a b)):=by
 have hn:=ad3 a b;have hd:=ad4 a b;have hp:=IG (a:=a) hb.1;have e1:=aBQ YU (a:=a.natAbs) (b:=b.natAbs) (by omega) (by omega);have e2:=YT rh (n:=(dB a b).natAbs) (by omega);have e3:=YT rh (n:=(dE a b).natAbs) (by omega);have hg:=No (a:=a) hb.1;rw [show ((b.natAbs:Nat):Int)=b by omega,show wG a.natAbs b.natAbs=wX a b from rfl] at e1;rw [show (((dE a b).natAbs:Nat):Int)=dE a b by omega] at e3;have ns:=asY (n:=dB a b) (by omega);have oA:=Mz (n:=(dB a b).natAbs) (by omega);have hl3:=Mz (n:=(dE a b).natAbs) (by omega);have hT:=ava (a:=a) hb.1;have hS:=nK (dB a b);unfold aj at e1 e2 e3 ⊢;rw [aI h];by_cases h0:dB a b<0
 ·rw [yT h0] at hS;by_cases h1:1<dE a b
  ·rw [yT h1] at hT
   simp only [go_sem,ya,DB,show ¬a< -4000000000000000000 by omega,show ¬4000000000000000000<a by omega,show ¬b< -4000000000000000000 by omega,show ¬4000000000000000000<b by omega,show ¬b<0 by omega,wrap64 (n:=0-a) (by omega) (by omega),Ju,IF,Np,e1,gL _ _ _ (show ((wX a b:Nat):Int)≠0 by omega),M0,M1,wrap64 (n:=dB a b) (by omega) (by omega),wrap64 (n:=dE a b) (by omega) (by omega),h0,wrap64 (n:=0-dB a b) (by omega) (by omega),e2,gM (a:=[45]) (b:=aD (dB a b).natAbs) (by simp;omega),hS,h1,gM (a:=aX (dB a b)) (b:=[47]) (by simp;omega),e3,gM (a:=aX (dB a b)++[47]) (b:=aD (dE a b).natAbs) (by simp;omega),hT]
  ·rw [yD h1] at hT
   simp only [go_sem,ya,DB,show ¬a< -4000000000000000000 by omega,show ¬4000000000000000000<a by omega,show ¬b< -4000000000000000000 by omega,show ¬4000000000000000000<b by omega,show ¬b<0 by omega,wrap64 (n:=0-a) (by omega) (by omega),Ju,IF,Np,e1,gL _ _ _ (show ((wX a b:Nat):Int)≠0 by omega),M0,M1,wrap64 (n:=dB a b) (by omega) (by omega),wrap64 (n:=dE a b) (by omega) (by omega),h0,wrap64 (n:=0-dB a b) (by omega) (by omega),e2,gM (a:=[45]) (b:=aD (dB a b).natAbs) (by simp;omega),hS,h1,hT]
 ·rw [yD h0] at hS;by_cases h1:1<dE a b
  ·rw [yT h1] at hT
   simp only [go_sem,ya,DB,show ¬a< -4000000000000000000 by omega,show ¬4000000000000000000<a by omega,show ¬b< -4000000000000000000 by omega,show ¬4000000000000000000<b by omega,show ¬b<0 by omega,wrap64 (n:=0-a) (by omega) (by omega),Ju,IF,Np,e1,gL _ _ _ (show ((wX a b:Nat):Int)≠0 by omega),M0,M1,wrap64 (n:=dB a b) (by omega) (by omega),wrap64 (n:=dE a b) (by omega) (by omega),h0,wrap64 (n:=0-dB a b) (by omega) (by omega),e2,gM (a:=[]) (b:=aD (dB a b).natAbs) (by simp;omega),hS,h1,gM (a:=aX (dB a b)) (b:=[47]) (by simp;omega),e3,gM (a:=aX (dB a b)++[47]) (b:=aD (dE a b).natAbs) (by simp;omega),hT]
  ·rw [yD h1] at hT
   simp only [go_sem,ya,DB,show ¬a< -4000000000000000000 by omega,show ¬4000000000000000000<a by omega,show ¬b< -4000000000000000000 by omega,show ¬4000000000000000000<b by omega,show ¬b<0 by omega,wrap64 (n:=0-a) (by omega) (by omega),Ju,IF,Np,e1,gL _ _ _ (show ((wX a b:Nat):Int)≠0 by omega),M0,M1,wrap64 (n:=dB a b) (by omega) (by omega),wrap64 (n:=dE a b) (by omega) (by omega),h0,wrap64 (n:=0-dB a b) (by omega) (by omega),e2,gM (a:=[]) (b:=aD (dB a b).natAbs) (by simp;omega),hS,h1,hT]
end
end
section
open Go (IntKind)
def TT (n:Int) (d:Nat):List Nat:=aX n++(if d=1 then [] else 47::aD d)
def avb {a b:Int} (hb:0<b):pM a b=TT (dB a b) (dE a b).toNat:=by
 have h:=IG (a:=a) hb;unfold pM TT;by_cases h1:dE a b=1
 ·grind
 ·rw [yD h1,yD (by omega)];obtain ⟨m,hm⟩:∃m:Nat,dE a b=m:=⟨(dE a b).toNat,by omega⟩;rw [hm,List.append_assoc];rfl
def zx (n:Nat):0<(aD n).length:=by
 by_cases h:n<10
 ·rw [oS h];simp
 ·rw [qJ h];simp
def IV:∀(n:Nat),n<10^(aD n).length:=by
 intro n
 induction n using vJ with
 | _ n ih=>
  by_cases h:n<10
  ·rw [oS h];simpa using h
  ·have:=ih (n/10) (by omega)
   rw [qJ h,yN,uC,xd];omega
def ad6 {n:Nat} (h:(aD n).length<=9):n<1000000000:=
 yU (IV n) (by simpa using yY (show 0<10 by decide) h)
def EK (n:Nat):∃b r,aD n=b::r/\48<=b/\b<=57:=by
 cases hq:aD n with
 | nil=>have:=zx n;rw [hq] at this;simp at this
 | cons b r=>
  have:=Iy n
  rw [hq] at this;simp only [dn,yh] at this
  simp_all
section
variable {P:aM} {L:Lib}
def DH (s:List Nat):mU 0 (.str (45::s))=some (.int .u8 45):=rfl
def To (q:Bool) (n:Int) (d:Nat):AV:=if q=true then .ae [ab n,ab d,.bool true] else .ae [ab 0,ab 0,.bool false]
def zT (d:Nat):List Nat:=if d=1 then [] else 47::aD d
def apu (d:Nat):b6 (zT d)=0:=by unfold zT;split<;>rfl
def aBS (h:Has P L 276 pJ) (BN:Has P L 272 Km) (Ag:Has P L 290 FR) {n:Int} {d:Nat} (hl:(TT n d).length<=20000000000):
  ∃q:Bool,aj P L 276 [.str (TT n d)] (To q n d)/\(q=true->n.natAbs<1000000000/\d<1000000000):=by
 generalize hs:TT n d=s at hl;by_cases nB:20<s.length
 ·refine ⟨false,?_,fun h=>by cases h⟩;unfold aj;rw [aI h];simp only [go_sem,ya,pJ,show (20:Int)<s.length by omega];rfl
 ·have hu:∃u,u=aD n.natAbs++zT d:=⟨_,rfl⟩;obtain ⟨u,hu⟩:=hu;have hK:∃K,K=(aD n.natAbs).length:=⟨_,rfl⟩;obtain ⟨K,hK⟩:=hK;have P9:b6 u=K:=by rw [hu,Mi _ (Iy _),apu,hK];rfl
  have hlen:u.length=K+(zT d).length:=by rw [hu,hK,yN]
  have hp:=zx n.natAbs;obtain ⟨b,r,hb,mC,hb2⟩:=EK n.natAbs;have D9:(n<0/\s=45::u)\/(¬n<0/\s=u):=by
   by_cases h0:n<0
   ·left;refine ⟨h0,?_⟩;rw [<-hs,hu,TT,mP h0];rfl
   ·right;refine ⟨h0,?_⟩;rw [<-hs,hu,TT,<-nK,yD h0];rfl
  have hul:u.length<=s.length:=by rcases D9 with ⟨_,e⟩ | ⟨_,e⟩<;>rw [e]<;>simp
  have Cf:0<u.length:=by omega
  have rB:u[0]=b:=by
   have:u=b::(r++zT d):=by rw [hu,hb];rfl
   simp [this]
  have e1:=Gj BN (s:=u) (by omega);rw [P9] at e1;have eC:iB u (some 0) (some K)=some (.str (aD n.natAbs)):=by
   rw [lz (by omega) (by omega),yK,hu,hK,List.take_left]
  unfold aj at e1;by_cases h9:9<K
  ·refine ⟨false,?_,fun h=>by cases h⟩;unfold aj;rw [aI h];rcases D9 with ⟨h0,e⟩ | ⟨h0,e⟩
   ·have nB:¬20<u.length+1:=by rw [e] at nB;exact nB
    have kZ:iB (45::u) (some 1) (some (u.length+1))=some (.str u):=by rw [lz (s:=45::u) (l:=1) (h:=u.length+1) (by omega) (by simp)];simp
    rw [e];simp only [go_sem,ya,pJ,show ¬(20:Int)<((u.length+1:Nat):Int) by omega,show (0:Int)<((u.length+1:Nat):Int) by omega,DH,eQ,ff,dJ,kZ,e1,show (9:Int)<(K:Int) by omega];rfl
   ·rw [e];simp only [go_sem,ya,pJ,show ¬(20:Int)<(u.length:Nat) by omega,show (0:Int)<(u.length:Nat) by omega,qO Cf,rB,show ¬((b:Nat):Int)=45 by omega,e1,show (9:Int)<(K:Int) by omega];rfl
  ·by_cases iQ:10<(zT d).length
   ·refine ⟨false,?_,fun h=>by cases h⟩;unfold aj;rw [aI h];rcases D9 with ⟨h0,e⟩ | ⟨h0,e⟩
    ·have nB:¬20<u.length+1:=by rw [e] at nB;exact nB
     have kZ:iB (45::u) (some 1) (some (u.length+1))=some (.str u):=by rw [lz (s:=45::u) (l:=1) (h:=u.length+1) (by omega) (by simp)];simp
     rw [e]
     simp only [go_sem,ya,pJ,show ¬(20:Int)<((u.length+1:Nat):Int) by omega,show (0:Int)<((u.length+1:Nat):Int) by omega,DH,eQ,ff,dJ,kZ,e1,show ¬(9:Int)<(K:Int) by omega,wrap64 (n:=(u.length:Int)-(K:Int)) (by omega) (by omega),show (10:Int)<(u.length:Int)-(K:Int) by omega];rfl
    ·rw [e]
     simp only [go_sem,ya,pJ,show ¬(20:Int)<(u.length:Nat) by omega,show (0:Int)<(u.length:Nat) by omega,qO Cf,rB,show ¬((b:Nat):Int)=45 by omega,e1,show ¬(9:Int)<(K:Int) by omega,wrap64 (n:=(u.length:Int)-(K:Int)) (by omega) (by omega),show (10:Int)<(u.length:Int)-(K:Int) by omega];rfl
   ·have e2:=KL Ag (s:=aD n.natAbs) (by omega) (CI n.natAbs);unfold aj at e2;have hm:=ad6 (n:=n.natAbs) (by omega);by_cases hd:d=1
    ·subst hd;have eN:zT 1=[]:=rfl;refine ⟨true,?_,fun _=>⟨hm,by decide⟩⟩;rw [eN] at hlen;simp only [yP,y5] at hlen;unfold aj;rw [aI h];rcases D9 with ⟨h0,e⟩ | ⟨h0,e⟩
     ·have nB:¬20<u.length+1:=by rw [e] at nB;exact nB
      have kZ:iB (45::u) (some 1) (some (u.length+1))=some (.str u):=by rw [lz (s:=45::u) (l:=1) (h:=u.length+1) (by omega) (by simp)];simp
      rw [e]
      simp only [go_sem,ya,pJ,show ¬(20:Int)<((u.length+1:Nat):Int) by omega,show (0:Int)<((u.length+1:Nat):Int) by omega,DH,eQ,ff,dJ,kZ,e1,show ¬(9:Int)<(K:Int) by omega,wrap64 (n:=(u.length:Int)-(K:Int)) (by omega) (by omega),show ¬(10:Int)<(u.length:Int)-(K:Int) by omega,eC,e2,show ¬(K:Int)<(u.length:Int) by omega,wrap64 (n:=0-(n.natAbs:Int)) (by omega) (by omega)];rw [show 0-(n.natAbs:Int)=n by omega];rfl
     ·rw [e]
      simp only [go_sem,ya,pJ,show ¬(20:Int)<(u.length:Nat) by omega,show (0:Int)<(u.length:Nat) by omega,qO Cf,rB,show ¬((b:Nat):Int)=45 by omega,eQ,ff,dJ,e1,show ¬(9:Int)<(K:Int) by omega,wrap64 (n:=(u.length:Int)-(K:Int)) (by omega) (by omega),show ¬(10:Int)<(u.length:Int)-(K:Int) by omega,eC,e2,show ¬(K:Int)<(u.length:Int) by omega];rw [show (n.natAbs:Int)=n by omega];rfl
    ·have eN:zT d=47::aD d:=yD hd;have Lz:(zT d).length=(aD d).length+1:=by rw [eN];rfl
     have hpd:=zx d;have hd9:=ad6 (n:=d) (by omega);have e3:=KL Ag (s:=aD d) (by omega) (CI d);unfold aj at e3;have sZ:iB u (some (K+1)) (some u.length)=some (.str (aD d)):=by
      rw [lz (by omega) (yv _),xB,hu,eN,hK,show (aD n.natAbs).length+1=(aD n.natAbs++[47]).length by simp,show aD n.natAbs++47::aD d=(aD n.natAbs++[47])++aD d by simp,List.drop_left]
     refine ⟨true,?_,fun _=>⟨hm,hd9⟩⟩;unfold aj;rw [aI h];rcases D9 with ⟨h0,e⟩ | ⟨h0,e⟩
     ·have nB:¬20<u.length+1:=by rw [e] at nB;exact nB
      have kZ:iB (45::u) (some 1) (some (u.length+1))=some (.str u):=by rw [lz (s:=45::u) (l:=1) (h:=u.length+1) (by omega) (by simp)];simp
      rw [e]
      simp only [go_sem,ya,pJ,show ¬(20:Int)<((u.length+1:Nat):Int) by omega,show (0:Int)<((u.length+1:Nat):Int) by omega,DH,eQ,ff,dJ,kZ,e1,show ¬(9:Int)<(K:Int) by omega,wrap64 (n:=(u.length:Int)-(K:Int)) (by omega) (by omega),show ¬(10:Int)<(u.length:Int)-(K:Int) by omega,eC,e2,show (K:Int)<(u.length:Int) by omega,wrapN (n:=K+1) (by omega),show (K:Int)+1=((K+1:Nat):Int) from rfl,sZ,e3,wrap64 (n:=0-(n.natAbs:Int)) (by omega) (by omega)];rw [show 0-(n.natAbs:Int)=n by omega];rfl
     ·rw [e]
      simp only [go_sem,ya,pJ,show ¬(20:Int)<(u.length:Nat) by omega,show (0:Int)<(u.length:Nat) by omega,qO Cf,rB,show ¬((b:Nat):Int)=45 by omega,eQ,ff,dJ,e1,show ¬(9:Int)<(K:Int) by omega,wrap64 (n:=(u.length:Int)-(K:Int)) (by omega) (by omega),show ¬(10:Int)<(u.length:Int)-(K:Int) by omega,eC,e2,show (K:Int)<(u.length:Int) by omega,wrapN (n:=K+1) (by omega),show (K:Int)+1=((K+1:Nat):Int) from rfl,sZ,e3];rw [show (n.natAbs:Int)=n by omega];rfl
end
end
end VE
