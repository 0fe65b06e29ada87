import Derived.ChangeKeysEq
import Derived.Laws.Tables
import Derived.IntWalk
import Derived.Laws.CopyOwn
import Derived.Test.YtlkgmaenobiooaaGreatDoorTaa
set_option linter.all false
set_option maxRecDepth 100000
open Array renaming length_toList→vR,range→uk
open Bool renaming and_assoc→tv,and_eq_true→yg,not_eq_true'→ud
open Go renaming MapEntry→uz,Obj→yaG,Oper→yZ,Operand→xu,Program→xe,TypeDesc→vc,TypeId→yt,Value→yf,World→yh,binOp→xK
open List renaming append_assoc→xD,cons_append→xk,drop_drop→vG,ext_getElem?→yat,flatten_append→yaf,flatten_cons→vH,getElem?_append_left→wz,getElem?_append_right→xU,getElem?_drop→yao,getElem?_take_of_lt→tE,length_append→yU,length_cons→yx,length_drop→wm,length_take→yR,map_cons→xi,range→wS,replicate→yF,replicate_succ→vd,take_succ_cons→wx
open Nat renaming add_mul→wL,beq→yu,beq_refl→vj,ble→yG,blt→yL,eq_of_beq_eq_true→yo,le_of_ble_eq_true→yv,le_refl→yA,mul_comm→xB,one_mul→ybS,zero_add→yd
open Option.some renaming injEq→yc
open Prod.mk renaming injEq→yq
open UInt8 renaming toNat→xf
namespace VE
section
open Go
def JU:∀(k1 k2:List Nat) (a b:List AV) (r:Bool),dS (k1++k2) a b=some r->
  ∃r1 r2,dS k1 (a.take k1.length) (b.take k1.length)=some r1/\dS k2 (a.drop k1.length) (b.drop k1.length)=some r2/\r=(r1&&r2)
 | [],k2,a,b,r,h=>⟨true,r,by simp [dS],by simpa using h,by simp⟩
 | k::k1,k2,[],b,r,h=>by
  simp only [xk] at h;unfold dS at h
  grind
 | k::k1,k2,x::a,[],r,h=>by
  unfold dS at h
  grind
 | k::k1,k2,x::a,y::b,r,h=>by
  have step:∀(q:Bool) (f:Bool->Bool),(match dS (k1++k2) a b with | some r=>some (f r) | none=>none)=some q->∃r0,dS (k1++k2) a b=some r0/\q=f r0:=by grind
  unfold dS at h
  split at h
  ·grind
  ·rename_i e1 e2 e3;obtain ⟨rfl,rfl⟩:=e1;obtain ⟨rfl,rfl⟩:=e2;obtain ⟨rfl,rfl⟩:=e3;obtain ⟨r0,h0,rfl⟩:=step r _ h;obtain ⟨r1,r2,h1,h2,rfl⟩:=JU k1 k2 _ _ r0 h0;exact ⟨_,r2,by simp only [yx,wx,dS,h1],by simpa using h2,(tv _ _ _).symm⟩
  ·rename_i e1 e2 e3;obtain ⟨rfl,rfl⟩:=e1;obtain ⟨rfl,rfl⟩:=e2;obtain ⟨rfl,rfl⟩:=e3
   split at h
   ·rename_i hk;obtain ⟨r0,h0,rfl⟩:=step r _ h;obtain ⟨r1,r2,h1,h2,rfl⟩:=JU k1 k2 _ _ r0 h0;exact ⟨_,r2,by simp only [yx,wx,dS,h1,hk,xm],by simpa using h2,(tv _ _ _).symm⟩
   ·cases h
  ·rename_i e1 e2 e3;obtain ⟨rfl,rfl⟩:=e1;obtain ⟨rfl,rfl⟩:=e2;obtain ⟨rfl,rfl⟩:=e3;obtain ⟨r0,h0,rfl⟩:=step r _ h;obtain ⟨r1,r2,h1,h2,rfl⟩:=JU k1 k2 _ _ r0 h0;exact ⟨_,r2,by simp only [yx,wx,dS,h1],by simpa using h2,(tv _ _ _).symm⟩
  ·cases h
def aea:∀(ks:List Nat) (a b:List AV) (r:Bool),dS ks a b=some r->a.length=ks.length/\b.length=ks.length
 | [],a,b,r,h=>by
  unfold dS at h
  grind
 | k::ks,[],b,r,h=>by
  unfold dS at h
  grind
 | k::ks,x::a,[],r,h=>by
  unfold dS at h
  grind
 | k::ks,x::a,y::b,r,h=>by
  have:∃r0,dS ks a b=some r0:=by
   cases he:dS ks a b with
   | some r0=>exact ⟨r0,rfl⟩
   | none=>unfold dS at h;split at h<;>simp_all
  obtain ⟨r0,h0⟩:=this
  have:=aea ks a b r0 h0
  simp [this]
def Is (P:xe) (t:yt) (x:yf) (xs:List yf):Prop:=(eb P t=some true/\x= .agg xs.toArray)\/(eb P t=some false/\xs=[x])
section
variable {P:xe} {aj:Nat->Nat} {m:Mp} {S:Nat->Prop} {w:yh}
def Ui {t:yt} {ag:Bool} (ha:eb P t=some ag):(isAgg t).run P w= .ok ag w:=by
 unfold eb at ha
 cases hu:P.underlying t with
 | none=>simp [hu] at ha
 | some d=>cases d<;>simp_all [isAgg,underlying]
def atE {t:yt} {s o:Nat} {xs:List yf} (hz:cU P t=some s) (ha:∃ag,eb P t=some ag) (h1:eb P t=some false->s=1) (hl:o+s<=xs.length):
  ∃u,(part t xs.toArray o).run P w= .ok u w/\Is P t u ((xs.drop o).take s):=by
 obtain ⟨ag,ha⟩:=ha
 cases ag with
 | true=>
  refine ⟨.agg ((xs.drop o).take s).toArray,?_,.inl ⟨ha,rfl⟩⟩;simp [part,Ui ha,n8 hz,List.extract_eq_take_drop]
 | false=>
  have hs:=h1 ha;subst hs;have aZ:o<xs.length:=by omega
  refine ⟨xs[o],?_,.inr ⟨ha,?_⟩⟩
  ·simp [part,Ui ha,List.getElem?_eq_getElem aZ]
  ·rw [List.drop_eq_getElem_cons aZ,wx,List.take_zero]
def arQ {n:Nat} {t:yt} {ks:List Nat} (h:kinds P n t=some ks):∃ag,eb P t=some ag/\(ag=false->ks.length=1):=by
 cases n with
 | zero=>simp [kinds] at h
 | succ n=>
  unfold kinds at h;unfold eb
  split at h<;>simp_all
  all_goals (rw [<-h];rfl)
def Wo (P:xe) (aj:Nat->Nat) (m:Mp) (S:Nat->Prop) (w:yh) (n:Nat):Prop:=
 ∀(t:yt) (ks:List Nat),kinds P n t=some ks->P.stoodInHeld t=false->∀(d:Nat),n<=d->∀(xs ys:List yf) (cs eG:List AV) (r:Bool) (x y:yf),
  aA aj m S w cs xs->aA aj m S w eG ys->dS ks cs eG=some r->Is P t x xs->Is P t y ys->(Op.equalIn d t x y).run P w= .ok r w
def afe {n:Nat} (ih:Wo P aj m S w n) {t:yt} {ks:List Nat} {s o d:Nat} (hk:kinds P n t=some ks) (aY:P.stoodInHeld t=false) (hz:cU P t=some s) (hs:ks.length=s) (hd:n<=d)
  {xs ys:List yf} {cs eG:List AV} (h1:aA aj m S w cs xs) (h2:aA aj m S w eG ys) {r:Bool} (he:dS ks ((cs.drop o).take s) ((eG.drop o).take s)=some r):
  ∃u u',(part t xs.toArray o).run P w= .ok u w/\(part t ys.toArray o).run P w= .ok u' w/\(Op.equalIn d t u u').run P w= .ok r w:=by
 obtain ⟨ag,ha,h1s⟩:=arQ hk;obtain ⟨l1,l2⟩:=aea _ _ _ _ he;have q1:=iY _ _ h1;have q2:=iY _ _ h2;simp only [yR,wm] at l1 l2;have nS:eb P t=some false->s=1:=fun h=>by
  grind
 have nR:o+s<=xs.length\/s=0:=by omega
 have oR:o+s<=ys.length\/s=0:=by omega
 have get:∀(zs:List yf),(o+s<=zs.length\/s=0)->∃u,(part t zs.toArray o).run P w= .ok u w/\Is P t u ((zs.drop o).take s):=by
  intro zs hl;rcases hl with hl | hl
  ·exact atE hz ⟨ag,ha⟩ nS hl
  ·subst hl
   cases ag with
   | false=>have:=nS ha;omega
   | true=>
    refine ⟨.agg ((zs.drop o).take 0).toArray,?_,.inl ⟨ha,rfl⟩⟩;simp [part,Ui ha,n8 hz]
 obtain ⟨u,p1,v1⟩:=get xs nR;obtain ⟨u',p2,v2⟩:=get ys oR;exact ⟨u,u',p1,p2,ih t ks hk aY d hd _ _ _ _ r u u' (F3 s (Ka o h1)) (F3 s (Ka o h2)) he v1 v2⟩
def aeb {n:Nat} (ih:Wo P aj m S w n) {d:Nat} (hd:n<=d) {xs ys:List yf} {cs eG:List AV} (h1:aA aj m S w cs xs) (h2:aA aj m S w eG ys):
  ∀(fs:List Field) (o:Nat) (ks:List Nat) (r:Bool),FZ P (fun u=>kinds P n u) fs o=some ks->dS ks (cs.drop o) (eG.drop o)=some r->(Op.eqFields d xs.toArray ys.toArray fs).run P w= .ok r w
 | [],o,ks,r,h,he=>by
  simp only [FZ,yc] at h;unfold dS at he
  split at he<;>simp_all [Op.eqFields]
 | f::fs,o,ks,r,h,he=>by
  simp only [FZ] at h
  cases hk:kinds P n f.type with
  | none=>simp [hk] at h
  | some kf=>
   cases hz:cU P f.type with
   | none=>simp [hk,hz] at h
   | some s=>
    simp only [hk,hz] at h
    cases hc:(f.name != "_"&&yu f.offset o&&yu kf.length s&& !P.stoodInHeld f.type) with
    | false=>rw [hc] at h;cases h
    | true=>
     rw [hc] at h;simp only [yB] at h;simp only [yg,bne_iff_ne,ud] at hc;obtain ⟨⟨⟨hn,ho⟩,hl⟩,aY⟩:=hc;have ho:=yo ho;have hl:=yo hl
     cases hr:FZ P (fun u=>kinds P n u) fs (o+s) with
     | none=>simp [hr] at h
     | some kr=>
      simp only [hr,yc] at h;subst h;obtain ⟨r1,r2,e1,e2,rfl⟩:=JU _ _ _ _ _ he;rw [hl] at e1 e2;rw [vG,vG] at e2;obtain ⟨u,u',p1,p2,p3⟩:=afe ih (o:=o) hk aY hz hl hd h1 h2 e1;have rest:=aeb ih hd h1 h2 fs (o+s) kr r2 hr e2;subst ho;simp only [Op.eqFields]
      cases r1 with
      | true=>simp [hn,p1,p2,p3,rest]
      | false=>simp [hn,p1,p2,p3]
def aex {n:Nat} (ih:Wo P aj m S w n) {d:Nat} (hd:n<=d) {xs ys:List yf} {cs eG:List AV} (h1:aA aj m S w cs xs) (h2:aA aj m S w eG ys)
  {e:yt} {ks:List Nat} {s:Nat} (hk:kinds P n e=some ks) (aY:P.stoodInHeld e=false) (hz:cU P e=some s) (hl:ks.length=s):
  ∀(k j:Nat) (r:Bool),dS (yF k ks).flatten (cs.drop (j*s)) (eG.drop (j*s))=some r->(Op.eqItems d e s xs.toArray ys.toArray (List.range' j k)).run P w= .ok r w
 | 0,j,r,he=>by
  unfold dS at he
  split at he<;>simp_all [Op.eqItems]
 | k+1,j,r,he=>by
  obtain ⟨r1,r2,e1,e2,rfl⟩:=JU _ _ _ _ _ he;rw [hl] at e1 e2;rw [vG,vG,show j*s+s=(j+1)*s by rw [wL,ybS]] at e2;obtain ⟨u,u',p1,p2,p3⟩:=afe ih (o:=j*s) hk aY hz hl hd h1 h2 e1;have rest:=aex ih hd h1 h2 hk aY hz hl k (j+1) r2 e2;rw [List.range'_succ];simp only [Op.eqItems]
  cases r1 with
  | true=>simp [p1,p2,p3,rest]
  | false=>simp [p1,p2,p3]
def VS:∀(n:Nat) (t:yt) (ks:List Nat),kinds P n t=some ks->P.stoodInHeld t=false->∀(d:Nat),n<=d->∀(xs ys:List yf) (cs eG:List AV) (r:Bool) (x y:yf),
  aA aj m S w cs xs->aA aj m S w eG ys->dS ks cs eG=some r->Is P t x xs->Is P t y ys->(Op.equalIn d t x y).run P w= .ok r w
 | 0,t,ks,h,_,_,_,_,_,_,_,_,_,_,_,_,_,_,_=>by simp [kinds] at h
 | n+1,t,ks,h,aY,0,hd,_,_,_,_,_,_,_,_,_,_,_,_=>by omega
 | n+1,t,ks,h,aY,d+1,hd,xs,ys,cs,eG,r,x,y,h1,h2,he,hx,hy=>by
  unfold kinds at h;have one:∀{k:Nat},ks=[k]->eb P t=some false->∃c c',cs=[c]/\eG=[c']/\an aj m S w c x/\an aj m S w c' y:=by
   intro k hk ha;rcases hx with ⟨hx,_⟩ | ⟨_,rfl⟩
   ·grind
   rcases hy with ⟨hy,_⟩ | ⟨_,rfl⟩
   ·grind
   have l1:=iY _ _ h1;have l2:=iY _ _ h2
   match cs,eG,l1,l2 with
   | [c],[c'],_,_=>
    simp only [aA] at h1 h2
    grind
  split at h
  ·rename_i hu;simp only [yc] at h;have ha:eb P t=some false:=by simp [eb,hu]
   obtain ⟨c,c',rfl,rfl,r1,r2⟩:=one h.symm ha;subst h;unfold dS at he
   split at he<;>simp_all [dS]
   subst he;simp only [an] at r1 r2;subst r1;subst r2;simp [Op.equalIn,run_underlying hu]
  ·rename_i k0 hu;simp only [yc] at h;have ha:eb P t=some false:=by simp [eb,hu]
   obtain ⟨c,c',rfl,rfl,r1,r2⟩:=one h.symm ha;subst h;unfold dS at he
   split at he<;>simp_all [dS]
   obtain ⟨hk,he⟩:=he;subst he;simp only [an] at r1 r2;subst r1;subst r2;simp [Op.equalIn,run_underlying hu]
  ·rename_i hu;simp only [yc] at h;have ha:eb P t=some false:=by simp [eb,hu]
   obtain ⟨c,c',rfl,rfl,r1,r2⟩:=one h.symm ha;subst h;unfold dS at he
   split at he<;>simp_all [dS]
   subst he;simp only [an] at r1 r2;obtain ⟨s,rfl,rfl⟩:=r1;obtain ⟨s',rfl,rfl⟩:=r2;simp only [Op.equalIn,Sem.run_bind,run_underlying hu,Result.andThen_ok,Sem.run_pure,afd];rfl
  ·rename_i fs hu;have ha:eb P t=some true:=by simp [eb,hu]
   rcases hx with ⟨_,rfl⟩ | ⟨hx,_⟩
   ·rcases hy with ⟨_,rfl⟩ | ⟨hy,_⟩
    ·have hf:P.fieldsOf t=fs:=by simp [Program.fieldsOf,hu]
     rw [run_equalIn_struct w d t _ _ (by rw [hf];exact hu) aY,hf]
     exact aeb (VS n) (by omega) h1 h2 fs.toList 0 ks r h (by simpa using he)
    ·rw [ha] at hy;cases hy
   ·rw [ha] at hx;cases hx
  ·rename_i k e hu;have ha:eb P t=some true:=by simp [eb,hu]
   rcases hx with ⟨_,rfl⟩ | ⟨hx,_⟩
   ·rcases hy with ⟨_,rfl⟩ | ⟨hy,_⟩
    ·cases hk:kinds P n e with
     | none=>simp [hk] at h
     | some ke=>
      cases hz:cU P e with
      | none=>simp [hk,hz] at h
      | some s=>
       simp only [hk,hz] at h
       cases hc:(yu ke.length s&& !P.stoodInHeld e) with
       | false=>rw [hc] at h;cases h
       | true=>
        rw [hc] at h;simp only [yB,yc] at h;subst h;simp only [yg,ud] at hc;have mg:=hz;unfold cU at mg
        cases hi:P.info? e with
        | none=>simp [hi] at mg
        | some i=>
         simp only [hi,yc] at mg;have C9:P.cellsOf e=s:=by simp [Program.cellsOf,hi,mg]
         rw [run_equalIn_array w d _ _ hu hi,C9,List.range_eq_range'];exact aex (VS n) (by omega) h1 h2 hk hc.2 hz (yo hc.1) k 0 r (by simpa using he)
    ·rw [ha] at hy;cases hy
   ·rw [ha] at hx;cases hx
  ·cases h
end
end
section
open Go
def dR {tm:Env} {hp:Hp} {v:AV} (h:bH tm hp bad=some v):False:=by simp [bad,bH] at h
section
variable {O:bw} {H:Hint} {m:Mp} {S:Nat->Prop} {w:yh} {tm:Env} {a:Act} {hp:Hp} {ct:Nat}
def avO {aj:Nat->Nat} {va vb v:AV} {x y:yf} (hx:an aj m S w va x) (hy:an aj m S w vb y) (h:VE.min2 va vb=some v):∃u,(Builtin.min2 x y).run O.P w= .ok u w/\an aj m S w v u:=by
 unfold VE.min2 at h
 split at h
 ·simp only [an] at hx hy;subst hx;subst hy;simp only [yc] at h;subst h;exact ⟨_,by simp only [Builtin.min2,Sem.run_pure];rfl,by simp only [an]⟩
 ·rename_i k p k' q;simp only [an] at hx hy;subst hx;subst hy
  cases ho:k.format.order p q with
  | none=>simp [ho] at h
  | some c=>cases c<;>(simp only [ho,yc] at h;subst h;exact ⟨_,by simp only [Builtin.min2,ho,Sem.run_pure];rfl,by simp only [an]⟩)
 ·cases h
def avP {aj:Nat->Nat} {va vb v:AV} {x y:yf} (hx:an aj m S w va x) (hy:an aj m S w vb y) (h:VE.max2 va vb=some v):∃u,(Builtin.max2 x y).run O.P w= .ok u w/\an aj m S w v u:=by
 unfold VE.max2 at h
 split at h
 ·simp only [an] at hx hy;subst hx;subst hy;simp only [yc] at h;subst h;exact ⟨_,by simp only [Builtin.max2,Sem.run_pure];rfl,by simp only [an]⟩
 ·rename_i k p k' q;simp only [an] at hx hy;subst hx;subst hy
  cases ho:k.format.order p q with
  | none=>simp [ho] at h
  | some c=>cases c<;>(simp only [ho,yc] at h;subst h;exact ⟨_,by simp only [Builtin.max2,ho,Sem.run_pure];rfl,by simp only [an]⟩)
 ·cases h
def Vq {aj:Nat->Nat} {f:AV->AV->Option AV} {g:yf->yf->Sem yf} (hfg:∀va vb v x y,an aj m S w va x->an aj m S w vb y->f va vb=some v->∃u,(g x y).run O.P w= .ok u w/\an aj m S w v u):
  ∀(l:List AV) (us:List yf) (va v:AV) (x:yf),an aj m S w va x->aA aj m S w l us->Ci f va l=some v->∃u,(us.foldlM g x).run O.P w= .ok u w/\an aj m S w v u
 | [],us,va,v,x,hx,hl,h=>by
  simp only [aA] at hl;subst hl;simp only [Ci,yc] at h;subst h;exact ⟨x,by simp,hx⟩
 | b::l,us,va,v,x,hx,hl,h=>by
  simp only [aA] at hl;obtain ⟨u,r,rfl,hu,hr⟩:=hl;simp only [Ci] at h
  cases hf:f va b with
  | none=>simp [hf] at h
  | some c=>
   simp only [hf] at h;obtain ⟨u1,h1,h2⟩:=hfg _ _ _ _ _ hx hu hf;obtain ⟨u2,h3,h4⟩:=Vq hfg l r c v u1 h2 hr h;exact ⟨u2,by simp [h1,h3],h4⟩
def VT {t:yt} {vx v:AV} {x:yf} {ty:yt} (hh:aX O m S w hp ct) (hx:an O.aj m S w vx x)
  {k:Nat} (hu:(k=0/\O.P.underlying t=some .string)\/(k=1/\∃e,O.P.underlying t=some (.slice e))\/(k=2/\∃kt e,O.P.underlying t=some (.map kt e)))
  (h:jb hp k vx=some v):∃u,(Builtin.len_ #[t] ty #[x]).run O.P w= .ok u w/\an O.aj m S w v u:=by
 rcases hu with ⟨rfl,hu⟩ | ⟨rfl,e,hu⟩ | ⟨rfl,kt,e,hu⟩
 all_goals cases vx<;>simp only [jb,reduceCtorEq] at h
 case inl.str s=>
  simp only [an] at hx;obtain ⟨b,rfl,rfl⟩:=hx;simp only [yc] at h;subst h;refine ⟨_,by simp [Builtin.len_,run_underlying hu];rfl,?_⟩
  simp only [an,goInt];rw [Lib.size_eq];simp
 case inr.inl.aa=>
  simp only [an] at hx;subst hx;simp only [yc] at h;subst h;exact ⟨_,by simp [Builtin.len_,run_underlying hu];rfl,by simp [an,goInt]⟩
 case inr.inl.ap ex n cs=>
  simp only [an] at hx;rcases hx with ⟨b,o,c,rfl,_⟩ | ⟨a,rfl,rfl,rfl⟩
  all_goals
   simp only [yc] at h;subst h;exact ⟨_,by simp [Builtin.len_,run_underlying hu];rfl,by simp [an,goInt]⟩
 case inr.inl.ay id o n=>
  simp only [an] at hx;obtain ⟨p,c,_,rfl,_⟩:=hx;simp only [yc] at h;subst h;exact ⟨_,by simp [Builtin.len_,run_underlying hu];rfl,by simp [an,goInt]⟩
 case inr.inr.kD=>
  simp only [an] at hx;subst hx;simp only [yc] at h;subst h;exact ⟨_,by simp [Builtin.len_,run_underlying hu];rfl,by simp [an,goInt]⟩
 case inr.inr.jD ks vs=>
  simp only [an] at hx;obtain ⟨b,es,clock,rfl,_,_,_,hb,h1,_⟩:=hx;simp only [yc] at h;subst h;refine ⟨_,by simp [Builtin.len_,run_underlying hu,getObj,Sem.run,hb];rfl,?_⟩
  have:=iY _ _ h1
  simp only [an,goInt];rw [<-this];simp
 case inr.inr.map id=>
  simp only [an] at hx;obtain ⟨p,hm,rfl⟩:=hx
  split at h
  case h_2=>cases h
  rename_i rw0 ks vs En;simp only [yc] at h;subst h;obtain ⟨p',es,clock,iR,hb,h1,_⟩:=hh.obj id _ _ En hm;rw [hm] at iR;injection iR with iR;subst iR
  refine ⟨_,by simp [Builtin.len_,run_underlying hu,getObj,Sem.run,hb];rfl,?_⟩
  have:=iY _ _ h1
  simp only [an,goInt];rw [<-this];simp
end
end
section
open Go
section
variable {O:bw} {H:Hint} {m:Mp} {S:Nat->Prop} {w:yh} {tm:Env} {a:Act} {hp:Hp} {ct:Nat}
def Gl {t:yt} {z:AV} (h:nD O.P t=some z):∃v,(zeroValue t).run O.P w= .ok v w/\z=eS v:=by
 unfold nD at h
 cases hi:O.P.info? t with
 | none=>simp [hi] at h
 | some i=>
  simp only [hi] at h
  cases hz:i.zero with
  | none=>simp [hz] at h
  | some v=>
   simp only [hz,yc] at h;exact ⟨v,by simp [zeroValue,typeInfo,hi,hz],h.symm⟩
def Reads (O:bw) (m:Mp) (S:Nat->Prop) (w:yh) (a:Act) (o:yZ) (v:AV):Prop:=
 ∃u,(execOp a.eval o).run O.P w= .ok (.value u) w/\an O.aj m S w v u
def jX {o:yZ} {v:AV} {s:Sem yf} (he:execOp a.eval o=(do pure (.value (<-s)):Sem Next)) (h:∃u,s.run O.P w= .ok u w/\an O.aj m S w v u):Reads O m S w a o v:=by
 obtain ⟨u,h1,h2⟩:=h;exact ⟨u,by rw [he];simp [h1],h2⟩
def atF {o:yZ} {op:BinOp} {t ty:yt} {x y:xu} {k:Nat} {v:AV} (hH:fM O H) (ht:cA O m S w tm a.tmps) (ho:o.op= .binOp op t x y ty)
  (hv:bH tm hp (bi O.P H k o)=some v):Reads O m S w a o v:=by
 have rx:=cL hH ht x;have ry:=cL hH ht y;have guard:∀{u:yf},(∀xs ys,¬(a.eval x= .agg xs/\a.eval y= .agg ys))\/O.P.eqGuardType O.P.depth t=false->a.eval x≠.nilIface->(xK op t (a.eval x) (a.eval y)).run O.P w= .ok u w->
   (do eqGuard op t x y (a.eval x) (a.eval y);xK op t (a.eval x) (a.eval y):Sem yf).run O.P w= .ok u w:=by
  intro u h1 h2 h3
  simp only [Sem.run_bind,aqX (P:=O.P) (w:=w) (t:=t) (op:=op) (x:=x) (y:=y) (h1.symm) h2,Result.andThen_ok,h3]
 have plain:bH tm hp (.bin op (aT H x) (aT H y))=some v->Reads O m S w a o v:=by
  intro hv;simp only [bH] at hv;obtain ⟨u,h1,h2⟩:=atA (P:=O.P) (t:=t) rx ry hv
  refine jX (s:=do eqGuard op t x y (a.eval x) (a.eval y);xK op t (a.eval x) (a.eval y)) (by simp only [execOp,ho]) ⟨u,guard (.inl ?_) ?_ h1,h2⟩
  ·rintro xs ys ⟨e1,e2⟩;rw [e1] at rx;unfold VE.binOp at hv
   split at hv
   ·rename_i h3 _;rw [h3] at rx;simp [an] at rx
   ·rename_i h3 _;rw [h3] at rx;simp [an] at rx
   ·rename_i h3 _;rw [h3] at rx;simp [an] at rx
   ·cases hv
  ·intro e1;rw [e1] at rx;unfold VE.binOp at hv
   split at hv
   ·rename_i h3 _;rw [h3] at rx;simp [an] at rx
   ·rename_i h3 _;rw [h3] at rx;simp [an] at rx
   ·rename_i h3 _;rw [h3] at rx;simp [an] at rx
   ·cases hv
 have other:∀(ne:Bool) (kd:VE.SA),(op= .eql/\ne=false\/op= .neq/\ne=true)->(∀r,iH kd (aG tm (aT H x)) (aG tm (aT H y))=some r->(Op.equal t (a.eval x) (a.eval y)).run O.P w= .ok r w/\
    ((∀xs ys,¬(a.eval x= .agg xs/\a.eval y= .agg ys))\/O.P.eqGuardType O.P.depth t=false)/\a.eval x≠.nilIface/\
    ∀q:Bool,(op= .eql->xK op t (a.eval x) (a.eval y)=(do pure (.bool (<-Op.equal t (a.eval x) (a.eval y)))))/\(op= .neq->xK op t (a.eval x) (a.eval y)=(do pure (.bool (!(<-Op.equal t (a.eval x) (a.eval y)))))))->
   bH tm hp (.eq ne kd (aT H x) (aT H y))=some v->Reads O m S w a o v:=by
  intro ne kd gn mI hv;simp only [bH] at hv
  cases he:iH kd (aG tm (aT H x)) (aG tm (aT H y)) with
  | none=>simp [he] at hv
  | some r=>
   simp only [he,yc] at hv;subst hv;obtain ⟨h1,h2,h3,h4⟩:=mI r he;obtain ⟨h5,h6⟩:=h4 true
   refine jX (s:=do eqGuard op t x y (a.eval x) (a.eval y);xK op t (a.eval x) (a.eval y)) (by simp only [execOp,ho]) ⟨.bool (ne !=r),guard h2 h3 ?_,by simp [an]⟩
   rcases gn with ⟨rfl,rfl⟩ | ⟨rfl,rfl⟩
   ·rw [h5 rfl];simp [h1]
   ·rw [h6 rfl];simp [h1]
 have pB:O.P.underlying t=some .bool->∀r,iH .b (aG tm (aT H x)) (aG tm (aT H y))=some r->∃p q,a.eval x= .bool p/\a.eval y= .bool q/\(Op.equal t (a.eval x) (a.eval y)).run O.P w= .ok r w:=by
  intro hu r he;cases hx:aG tm (aT H x)<;>cases hy:aG tm (aT H y)<;>rw [hx,hy] at he<;>simp only [iH,reduceCtorEq] at he
  rw [hx] at rx;rw [hy] at ry;simp only [an] at rx ry;simp only [yc] at he;refine ⟨_,_,rx,ry,?_⟩;rw [rx,ry,OD,<-he];exact axV hu
 have pS:∀e,O.P.underlying t=some (.slice e)->∀r,iH .sl (aG tm (aT H x)) (aG tm (aT H y))=some r->∃p n c q n' c',a.eval x= .slice p n c/\a.eval y= .slice q n' c'/\(Op.equal t (a.eval x) (a.eval y)).run O.P w= .ok r w:=by
  intro e hu r he;have h1:=avL hu rx ry he;have sl:∀{v:AV} {u:yf},an O.aj m S w v u->(v= .aa\/(∃a b c,v= .ap a b c)\/∃a b c,v= .ay a b c)->∃p n c,u= .slice p n c:=by
   intro v u hr hv;rcases hv with rfl | ⟨_,_,_,rfl⟩ | ⟨_,_,_,rfl⟩
   ·simp only [an] at hr;exact ⟨_,_,_,hr⟩
   ·simp only [an] at hr;rcases hr with ⟨b,o,c,hr,_⟩ | ⟨_,hr,_⟩<;>exact ⟨_,_,_,hr⟩
   ·simp only [an] at hr;obtain ⟨b,c,_,hr,_⟩:=hr;exact ⟨_,_,_,hr⟩
  have dM:(aG tm (aT H x)= .aa\/(∃a b c,aG tm (aT H x)= .ap a b c)\/∃a b c,aG tm (aT H x)= .ay a b c)/\
    (aG tm (aT H y)= .aa\/(∃a b c,aG tm (aT H y)= .ap a b c)\/∃a b c,aG tm (aT H y)= .ay a b c):=by
   cases hx:aG tm (aT H x)<;>cases hy:aG tm (aT H y)<;>rw [hx,hy] at he<;>simp [iH] at he ⊢
  obtain ⟨p,n,c,e1⟩:=sl rx dM.1;obtain ⟨q,n',c',e2⟩:=sl ry dM.2;exact ⟨p,n,c,q,n',c',e1,e2,h1⟩
 have pF:∀ps rs vr,O.P.underlying t=some (.func ps rs vr)->∀r,iH .fn (aG tm (aT H x)) (aG tm (aT H y))=some r->
   ((a.eval x= .nilFunc\/∃f p q,a.eval x= .func f p q)/\(a.eval y= .nilFunc\/∃f p q,a.eval y= .func f p q))/\(Op.equal t (a.eval x) (a.eval y)).run O.P w= .ok r w:=by
  intro ps rs vr hu r he;have h1:=avM hu rx ry he;have sl:∀{v:AV} {u:yf},an O.aj m S w v u->(v= .jd\/(∃a b c,v= .fn a b c))->(u= .nilFunc\/∃f p q,u= .func f p q):=by
   intro v u hr hv;rcases hv with rfl | ⟨f,_,_,rfl⟩
   ·simp only [an] at hr;exact .inl hr
   ·cases f with
    | f g=>simp only [an] at hr;obtain ⟨b,c,hr,_⟩:=hr;exact .inr ⟨_,_,_,hr⟩
    | y l=>simp only [an] at hr;obtain ⟨b,_,hr⟩:=hr;exact .inr ⟨_,_,_,hr⟩
  have dM:(aG tm (aT H x)= .jd\/(∃a b c,aG tm (aT H x)= .fn a b c))/\(aG tm (aT H y)= .jd\/(∃a b c,aG tm (aT H y)= .fn a b c)):=by
   cases hx:aG tm (aT H x)<;>cases hy:aG tm (aT H y)<;>rw [hx,hy] at he<;>simp [iH] at he ⊢
  exact ⟨⟨sl rx dM.1,sl ry dM.2⟩,h1⟩
 have pA:∀ks,kinds O.P 20 t=some ks->eb O.P t=some true->O.P.stoodInHeld t=false->∀r,iH (.ag ks) (aG tm (aT H x)) (aG tm (aT H y))=some r->∃p q,a.eval x= .agg p/\a.eval y= .agg q/\(Op.equal t (a.eval x) (a.eval y)).run O.P w= .ok r w:=by
  intro ks hk ha aY r he;cases hx:aG tm (aT H x)<;>cases hy:aG tm (aT H y)<;>rw [hx,hy] at he<;>simp only [iH,reduceCtorEq] at he
  rw [hx] at rx;rw [hy] at ry;simp only [an] at rx ry;obtain ⟨p,e1,h1⟩:=rx;obtain ⟨q,e2,h2⟩:=ry;refine ⟨p,q,e1,e2,?_⟩;rw [e1,e2,OD];exact VS 20 t ks hk aY 10000 (by omega) _ _ _ _ r _ _ h1 h2 he (.inl ⟨ha,by simp⟩) (.inl ⟨ha,by simp⟩)
 have eqs:∀(ne:Bool),(op= .eql/\ne=false\/op= .neq/\ne=true)->bH tm hp (sq O.P H ne op t x y)=some v->Reads O m S w a o v:=by
  intro ne gn hv;have agg:eb O.P t=some true->bH tm hp (zP O.P H ne t x y)=some v->Reads O m S w a o v:=by
   intro ha hv;unfold zP at hv
   cases hk:kinds O.P 20 t with
   | none=>rw [hk] at hv;exact (dR hv).elim
   | some ks=>
    simp only [hk] at hv
    cases hc:(O.P.stoodInHeld t||O.P.eqGuardType O.P.depth t) with
    | true=>rw [hc] at hv;exact (dR hv).elim
    | false=>
     rw [hc] at hv;simp only [yM] at hv;simp only [Bool.or_eq_false_iff] at hc;refine other ne (.ag ks) gn (fun r hr=>?_) hv;obtain ⟨p,q,e1,e2,h1⟩:=pA ks hk ha hc.1 r hr;refine ⟨h1,.inr hc.2,by rw [e1];simp,fun _=>?_⟩
     rw [e1,e2];exact ⟨fun e=>by subst e;rfl,fun e=>by subst e;rfl⟩
  unfold sq at hv
  split at hv
  ·exact plain hv
  ·exact plain hv
  ·exact plain hv
  ·rename_i hu;refine other ne .b gn (fun r hr=>?_) hv;obtain ⟨p,q,e1,e2,h1⟩:=pB hu r hr;refine ⟨h1,.inl (by rw [e1];simp),by rw [e1];simp,fun _=>?_⟩
   rw [e1,e2];exact ⟨fun e=>by subst e;rfl,fun e=>by subst e;rfl⟩
  ·rename_i e hu;refine other ne .sl gn (fun r hr=>?_) hv;obtain ⟨p,n,c,q,n',c',e1,e2,h1⟩:=pS e hu r hr;refine ⟨h1,.inl (by rw [e1];simp),by rw [e1];simp,fun _=>?_⟩
   rw [e1,e2];exact ⟨fun e=>by subst e;rfl,fun e=>by subst e;rfl⟩
  ·rename_i ps rs vr hu;refine other ne .fn gn (fun r hr=>?_) hv;obtain ⟨⟨e1,e2⟩,h1⟩:=pF ps rs vr hu r hr;refine ⟨h1,.inl ?_,?_,fun _=>?_⟩
   ·rcases e1 with e1 | ⟨_,_,_,e1⟩<;>rw [e1]<;>simp
   ·rcases e1 with e1 | ⟨_,_,_,e1⟩<;>rw [e1]<;>simp
   ·rcases e1 with e1 | ⟨_,_,_,e1⟩<;>rcases e2 with e2 | ⟨_,_,_,e2⟩<;>rw [e1,e2]<;>exact ⟨fun e=>by subst e;rfl,fun e=>by subst e;rfl⟩
  ·rename_i fs hu;exact agg (by simp [eb,hu]) hv
  ·rename_i k0 e hu;exact agg (by simp [eb,hu]) hv
  ·exact (dR hv).elim
 cases op
 case eql=>exact eqs false (.inl ⟨rfl,rfl⟩) (by simpa only [bi,ho] using hv)
 case neq=>exact eqs true (.inr ⟨rfl,rfl⟩) (by simpa only [bi,ho] using hv)
 all_goals exact plain (by simpa only [bi,ho] using hv)
end
end
section
open Go
section
variable {O:bw} {H:Hint} {m:Mp} {S:Nat->Prop} {w:yh} {tm:Env} {a:Act} {hp:Hp} {ct:Nat}
def JV {o:yZ} {b:Builtin} {args:Array xu} {ts:Array yt} (ho:o.op= .call {callee:= .builtin b,args:=args,argTypes:=ts}):
  ∃cs,(execOp a.eval o).run O.P w=(builtin b ts o.type cs (args.map a.eval)).run O.P w:=by
 exact ⟨_,by simp only [execOp,ho,resolve,Sem.run_bind,Sem.run_pure,Result.andThen_ok,invoke];rfl⟩
def arR {o:yZ} {c:Call} {k:Nat} {v:AV} (hH:fM O H) (ht:cA O m S w tm a.tmps) (hh:aX O m S w hp ct) (ho:o.op= .call c)
  (hv:bH tm hp (bi O.P H k o)=some v):Reads O m S w a o v:=by
 obtain ⟨callee,args,ts⟩:=c;simp only [bi,ho] at hv
 split at hv
 ·cases hmd:H.mode k<;>simp [hmd,bH] at hv
 ·rename_i _ b
  split at hv
  ·have key:∀{bb:Bool} {sz cO:Nat} {x y:X},bH tm hp (bif bb then .a7 sz cO x y else bad)=some v->False:=by
    intro bb sz cO x y h
    cases bb
    ·exact dR h
    ·simp [bH] at h
   split at hv
   ·split at hv
    ·exact (key hv).elim
    ·simp_all
   ·split at hv
    ·exact (key hv).elim
    ·simp_all
   ·simp_all
  ·rename_i x t gW qG;obtain ⟨al⟩:=args;obtain ⟨tl⟩:=ts;simp only at gW qG;subst gW;subst qG;obtain ⟨cs,gN⟩:=JV (O:=O) (w:=w) (a:=a) ho;have fin:(∃u,(Builtin.len_ #[t] o.type #[a.eval x]).run O.P w= .ok u w/\an O.aj m S w v u)->Reads O m S w a o v:=by
    rintro ⟨u,h1,h2⟩;refine ⟨u,?_,h2⟩;rw [gN];simp [builtin,h1]
   split at hv
   ·rename_i n e hu;simp only [bH,aG,yc] at hv;subst hv;exact fin ⟨_,by simp [Builtin.len_,run_underlying hu];rfl,by simp [an,goInt]⟩
   ·rename_i hu;simp only [bH] at hv;exact fin (VT hh (cL hH ht x) (.inl ⟨rfl,hu⟩) hv)
   ·rename_i e hu;simp only [bH] at hv;exact fin (VT hh (cL hH ht x) (.inr (.inl ⟨rfl,e,hu⟩)) hv)
   ·rename_i kt e hu;simp only [bH] at hv;exact fin (VT hh (cL hH ht x) (.inr (.inr ⟨rfl,kt,e,hu⟩)) hv)
   ·exact (dR hv).elim
  ·split at hv
   ·split at hv
    ·simp [bH] at hv
    ·exact (dR hv).elim
   ·exact (dR hv).elim
  ·simp only [bH] at hv;obtain ⟨cs,gN⟩:=JV (O:=O) (w:=w) (a:=a) ho;have hl:=D4 hH ht args.toList
   cases hx:dK tm (gY H args.toList) with
   | nil=>simp [hx] at hv
   | cons c r=>
    simp only [hx] at hv;rw [hx] at hl;simp only [aA] at hl;obtain ⟨u,us,h1,h2,h3⟩:=hl;obtain ⟨q,h4,h5⟩:=Vq (O:=O) (g:=Builtin.min2) (fun va vb v x y hx hy h=>avO hx hy h) r us c v u h2 h3 hv;refine ⟨q,?_,h5⟩;rw [gN];simp [builtin,Builtin.min_,h1,h4]
  ·simp only [bH] at hv;obtain ⟨cs,gN⟩:=JV (O:=O) (w:=w) (a:=a) ho;have hl:=D4 hH ht args.toList
   cases hx:dK tm (gY H args.toList) with
   | nil=>simp [hx] at hv
   | cons c r=>
    simp only [hx] at hv;rw [hx] at hl;simp only [aA] at hl;obtain ⟨u,us,h1,h2,h3⟩:=hl;obtain ⟨q,h4,h5⟩:=Vq (O:=O) (g:=Builtin.max2) (fun va vb v x y hx hy h=>avP hx hy h) r us c v u h2 h3 hv;refine ⟨q,?_,h5⟩;rw [gN];simp [builtin,Builtin.max_,h1,h4]
  ·exact (dR hv).elim
 ·exact (dR hv).elim
def aey {kt:yt} {kk:Nat} {vk:AV} (hk:keyOf O.P kt=some kk) (h:zO kk vk=true):∃d,O.P.underlying kt=some d/\Qa d=true/\fits d vk=true:=by
 unfold keyOf at hk
 split at hk
 ·rename_i hu;simp only [yc] at hk;subst hk;refine ⟨_,hu,rfl,?_⟩;cases vk<;>simp_all [zO,fits]
 ·rename_i hu;simp only [yc] at hk;subst hk;refine ⟨_,hu,rfl,?_⟩;cases vk<;>simp_all [zO,fits]
 ·rename_i hu;simp only [yc] at hk;subst hk;refine ⟨_,hu,rfl,?_⟩;cases vk<;>simp_all [zO,fits]
 ·cases hk
def agX {o:yZ} {k:Nat} {v:AV} (hH:fM O H) (ht:cA O m S w tm a.tmps) (hh:aX O m S w hp ct)
  (hv:bH tm hp (bi O.P H k o)=some v):Reads O m S w a o v:=by
 cases ho:o.op with
 | call c=>exact arR hH ht hh ho hv
 | binOp op t x y ty=>exact atF hH ht ho hv
 | move x=>
  simp only [bi,ho,bH,yc] at hv;subst hv;exact ⟨_,by simp only [execOp,ho,Sem.run_pure],cL hH ht x⟩
 | assign x=>
  simp only [bi,ho,bH,yc] at hv;subst hv;exact ⟨_,by simp only [execOp,ho,Sem.run_pure],cL hH ht x⟩
 | pick c x y=>
  simp only [bi,ho,bH] at hv;have rc:=cL hH ht c;cases hc:aG tm (aT H c)<;>rw [hc] at hv<;>simp only [reduceCtorEq] at hv
  rename_i b;rw [hc] at rc;simp only [an] at rc;simp only [yc] at hv;subst hv
  cases b with
  | true=>exact ⟨a.eval x,by simp [execOp,ho,rc,asBool],cL hH ht x⟩
  | false=>exact ⟨a.eval y,by simp [execOp,ho,rc,asBool],cL hH ht y⟩
 | load t x=>
  simp only [bi,ho] at hv
  split at hv
  ·rename_i s ag hz ha;simp only [bH] at hv;exact jX (by simp only [execOp,ho]) (aBJ hh hz ha (cL hH ht x) hv)
  ·exact (dR hv).elim
 | fieldAddr t x i=>
  simp only [bi,ho] at hv
  split at hv
  ·rename_i fs hu
   split at hv
   ·rename_i f hf
    split at hv
    ·rename_i s hz;simp only [bH] at hv;exact jX (by simp only [execOp,ho]) (axW hu hf hz (cL hH ht x) hv)
    ·exact (dR hv).elim
   ·exact (dR hv).elim
  ·exact (dR hv).elim
 | field t x i=>
  simp only [bi,ho] at hv
  split at hv
  ·rename_i fs hu
   split at hv
   ·rename_i f hf
    split at hv
    ·rename_i s ag hz ha;simp only [bH] at hv;exact jX (by simp only [execOp,ho]) (axX hu hf hz ha (cL hH ht x) hv)
    ·exact (dR hv).elim
   ·exact (dR hv).elim
  ·exact (dR hv).elim
 | nilCheck x=>
  simp only [bi,ho,bH] at hv;have rx:=cL hH ht x;cases hx:aG tm (aT H x)<;>rw [hx] at hv rx<;>simp only [reduceCtorEq,yc] at hv
  ·subst hv;have r':=rx;simp only [an] at r';obtain ⟨p,_,e⟩:=r';exact ⟨a.eval x,by simp only [execOp,ho,e,Sem.run_pure],rx⟩
  ·subst hv;have r':=rx;simp only [an] at r';obtain ⟨b,o',e,_⟩:=r';exact ⟨a.eval x,by simp only [execOp,ho,e,Sem.run_pure],rx⟩
  ·subst hv;rename_i f _ _
   cases f with
   | f g=>
    have r':=rx;simp only [an] at r';obtain ⟨fi,ca,e,_⟩:=r';exact ⟨a.eval x,by simp only [execOp,ho,e,Sem.run_pure],rx⟩
   | y l=>
    have r':=rx;simp only [an] at r';obtain ⟨p,_,e⟩:=r';exact ⟨a.eval x,by simp only [execOp,ho,e,Sem.run_pure],rx⟩
 | unOp op t x=>
  simp only [bi,ho,bH] at hv;exact jX (by simp only [execOp,ho]) (avN (cL hH ht x) hv)
 | convert s d x=>
  simp only [bi,ho] at hv
  split at hv
  ·rename_i k1 k2 hs hd;simp only [bH] at hv;exact jX (by simp only [execOp,ho]) (afX hd (.inl ⟨_,hs⟩) (cL hH ht x) hv)
  ·rename_i k1 k2 hs hd;simp only [bH] at hv;exact jX (by simp only [execOp,ho]) (afX hd (.inr ⟨_,hs⟩) (cL hH ht x) hv)
  ·rename_i k1 k2 hs hd;simp only [bH] at hv;exact jX (by simp only [execOp,ho]) (afY hd (.inl ⟨_,hs⟩) (cL hH ht x) hv)
  ·rename_i k1 k2 hs hd;simp only [bH] at hv;exact jX (by simp only [execOp,ho]) (afY hd (.inr ⟨_,hs⟩) (cL hH ht x) hv)
  ·rename_i hs hd;simp only [bH] at hv;exact jX (by simp only [execOp,ho]) (atB hd hs (cL hH ht x) hv)
  ·exact (dR hv).elim
 | makeFunc fn first cap=>
  cases fn with
  | func f=>
   simp only [bi,ho] at hv
   split at hv
   ·rename_i g hg;simp only [bH,yc] at hv;subst hv;refine ⟨.func (.func f) (first.map a.eval) (cap.map a.eval),by simp [execOp,ho,Instr.makeFunc],?_⟩;simp only [an];exact ⟨_,_,by rw [hH f g hg],by simpa using D4 hH ht first.toList,by simpa using D4 hH ht cap.toList⟩
   ·exact (dR hv).elim
  | _=>simp only [bi,ho] at hv;exact (dR hv).elim
 | slice t x lo hi mx=>
  cases mx with
  | some q=>simp only [bi,ho] at hv;exact (dR hv).elim
  | none=>
   simp only [bi,ho] at hv
   split at hv
   ·rename_i hu;simp only [bH] at hv;exact jX (by simp only [execOp,ho];rfl) (arP hH ht hu (cL hH ht x) hv)
   ·rename_i e hu
    split at hv
    ·rename_i s hz;simp only [bH] at hv;exact jX (by simp only [execOp,ho];rfl) (atD hH ht hu hz hh (cL hH ht x) hv)
    ·exact (dR hv).elim
   ·split at hv
    ·simp only [bH] at hv;cases hx:aG tm (aT H x)<;>rw [hx] at hv<;>simp [fC] at hv
    ·exact (dR hv).elim
   ·exact (dR hv).elim
 | indexAddr t x i=>
  simp only [bi,ho] at hv
  split at hv
  ·rename_i e hu
   split at hv
   ·rename_i s hz;simp only [bH] at hv
    cases hk:dP (aG tm (aT H i)) with
    | none=>simp [hk] at hv
    | some j=>
     simp only [hk] at hv;exact jX (by simp only [execOp,ho]) (axY hu hz (cL hH ht x) (cL hH ht i) hk hv)
   ·exact (dR hv).elim
  ·rename_i n e hu
   split at hv
   ·rename_i s hz;simp only [bH] at hv
    cases hk:dP (aG tm (aT H i)) with
    | none=>simp [hk] at hv
    | some j=>
     simp only [hk] at hv;exact jX (by simp only [execOp,ho]) (axZ hu hz (cL hH ht x) (cL hH ht i) hk hv)
   ·exact (dR hv).elim
  ·exact (dR hv).elim
 | index t x i=>
  simp only [bi,ho] at hv
  split at hv
  ·rename_i hu;simp only [bH] at hv
   cases hk:dP (aG tm (aT H i)) with
   | none=>simp [hk] at hv
   | some j=>
    simp only [hk] at hv;exact jX (by simp only [execOp,ho]) (ax1 hu (cL hH ht x) (cL hH ht i) hk hv)
  ·rename_i n e hu
   split at hv
   ·rename_i s ag hz ha;simp only [bH] at hv
    cases hk:dP (aG tm (aT H i)) with
    | none=>simp [hk] at hv
    | some j=>
     simp only [hk] at hv;exact jX (by simp only [execOp,ho]) (ax0 hu hz ha (cL hH ht x) (cL hH ht i) hk hv)
   ·exact (dR hv).elim
  ·exact (dR hv).elim
 | lookup t x i ok=>
  simp only [bi,ho] at hv
  split at hv
  ·rename_i kt e hu
   split at hv
   ·rename_i kk z zc hz;simp only [bH] at hv
    cases hf:zO kk (aG tm (aT H i)) with
    | false=>simp [hf] at hv
    | true=>
     simp only [hf,yB] at hv;obtain ⟨d,kP,hZ,hd3⟩:=aey zc hf;obtain ⟨zv,mT,rfl⟩:=Gl (w:=w) hz
     cases hr:Cj hp (aG tm (aT H i)) (aG tm (aT H x)) with
     | none=>simp [hr] at hv
     | some r=>
      refine jX (by simp only [execOp,ho]) (ax2 (ok:=ok) (r:=r) (z:=eS zv) hh hu kP hZ hd3 mT (cL hH ht x) (cL hH ht i) (O1 zv) hr ?_);cases r<;>simpa [hr] using hv
   ·exact (dR hv).elim
  ·exact (dR hv).elim
 | extract x i=>
  simp only [bi,ho,bH] at hv;have rx:=cL hH ht x;cases hx:aG tm (aT H x)<;>rw [hx] at hv rx<;>simp only [reduceCtorEq] at hv
  simp only [an] at rx;obtain ⟨xs,e,hr⟩:=rx;obtain ⟨u,h1,h2⟩:=UY hr hv;refine ⟨u,?_,h2⟩;have Na:xs[i]? =some u:=by simpa using h1
  simp [execOp,ho,e,Instr.extract,Na]
 | build t parts=>
  simp only [bi,ho] at hv
  split at hv
  ·rename_i fs z hu hz
   split at hv
   ·rename_i pl aDc;have kO:=run_places (P:=O.P) w fs.toList pl aDc
    split at hv
    case h_2=>exact (dR hv).elim
    rename_i ps iB;simp only [bH] at hv
    cases hf:fill tm z ps with
    | none=>simp [hf] at hv
    | some cs=>
     simp only [hf,yc] at hv;subst hv;obtain ⟨zv,mT,jV⟩:=Gl (w:=w) hz;have Be:aA O.aj m S w z zv.cells.toList:=by
      have:=FV (aj:=O.aj) (m:=m) (S:=S) (w:=w) zv
      rw [<-jV] at this;exact this
     obtain ⟨out,h1,h2⟩:=O3 hH ht (place:=fun i=>pl[i]?) parts.toList ps z cs zv.cells iB Be hf;refine ⟨.agg out,?_,by simp only [an];exact ⟨out,rfl,h2⟩⟩
     have hm:(Array.mapM (fun f=>Functor.map (Prod.mk f.offset) (Go.sizeOf f.type)) fs:Sem (Array (Nat×Nat))).run O.P w= .ok pl.toArray w:=by
      rw [Array.mapM_eq_mapM_toList];simp [kO]
     simp [execOp,ho,Instr.build,mT,run_underlying hu,hm,h1]
   ·exact (dR hv).elim
  ·rename_i n e z hu hz
   split at hv
   ·rename_i s hs
    split at hv
    ·rename_i ps iB;simp only [bH] at hv
     cases hf:fill tm z ps with
     | none=>simp [hf] at hv
     | some cs=>
      simp only [hf,yc] at hv;subst hv;obtain ⟨zv,mT,jV⟩:=Gl (w:=w) hz;have Be:aA O.aj m S w z zv.cells.toList:=by
       have:=FV (aj:=O.aj) (m:=m) (S:=S) (w:=w) zv
       rw [<-jV] at this;exact this
      obtain ⟨out,h1,h2⟩:=O3 hH ht (place:=fun i=>some (i*s,s)) parts.toList ps z cs zv.cells iB Be hf;refine ⟨.agg out,?_,by simp only [an];exact ⟨out,rfl,h2⟩⟩
      simp [execOp,ho,Instr.build,mT,run_underlying hu,n8 hs,h1]
    ·exact (dR hv).elim
   ·exact (dR hv).elim
  ·exact (dR hv).elim
 | alloc t=>simp only [bi,ho] at hv;split at hv<;>simp [bH,bad] at hv
 | box t x=>simp only [bi,ho] at hv;split at hv<;>simp [bH,bad] at hv
 | buildSlice t n parts=>
  simp only [bi,ho] at hv
  split at hv
  ·split at hv
   ·rename_i s z _ _
    cases hc:yG (n*s) 16777216 with
    | false=>rw [hc] at hv;exact (dR hv).elim
    | true=>
     rw [hc] at hv;simp only [yB] at hv
     split at hv
     ·simp [bH] at hv
     ·exact (dR hv).elim
   ·exact (dR hv).elim
  ·exact (dR hv).elim
 | makeMap t r=>
  cases r<;>simp only [bi,ho] at hv
  ·repeat' split at hv
   all_goals simp [bH,bad] at hv
  ·exact (dR hv).elim
 | makeSlice t l c=>
  simp only [bi,ho] at hv
  repeat' split at hv
  all_goals simp [bH,bad] at hv
 | insert t x k y=>
  simp only [bi,ho] at hv
  repeat' split at hv
  all_goals simp [bH,bad] at hv
 | mapUpdate t x k y=>
  simp only [bi,ho] at hv
  repeat' split at hv
  all_goals simp [bH,bad] at hv
 | store t x y=>simp only [bi,ho] at hv;split at hv<;>simp [bH,bad] at hv
 | range t x=>simp only [bi,ho] at hv;split at hv<;>simp [bH,bad] at hv
 | next x b=>cases b<;>simp [bi,ho,bH,bad] at hv
 | _=>simp [bi,ho,bH,bad] at hv
end
end
section
open Go
def fG (m:Mp) (id:Nat) (p:Pl):Mp:=fun i=>if i=id then some p else m i
def eP {m:Mp} {id:Nat} {p:Pl}:fG m id p id=some p:=by simp [fG]
def eO {m:Mp} {id i:Nat} {p:Pl} (h:i≠id):fG m id p i=m i:=by simp [fG,h]
section
variable {O:bw} {m:Mp} {S:Nat->Prop} {w:yh} {hp:Hp} {ct:Nat}
def dN (m m':Mp):Prop:=∀id p,m id=some p->m' id=some p
def dN.refl {m:Mp}:dN m m:=fun _ _ h=>h
def dN.trans {m m' M8:Mp} (h:dN m m') (k:dN m' M8):dN m M8:=fun id p hp=>k id p (h id p hp)
def kW {i:Nat} (h:m i=none) {p:Pl}:dN m (fG m i p):=by
 intro id q hq;rw [eO]
 ·grind
 ·grind
def BL {tm:Env} {tmps:Array yf} {m':Mp} {S':Nat->Prop} {w':yh} (hm:∀id p,m id=some p->m' id=some p) (hS:∀b,S b->S' b) (hw:fS S w w')
  (h:cA O m S w tm tmps):cA O m' S' w' tm tmps:=fun i=>mv hm hS hw _ _ (h i)
def alloc_old {o:yaG} {b:Nat} (hb:b<w.heap.size):(w.alloc o).heap[b]? =w.heap[b]? :=RowKit.Below.heap_alloc w o b hb
def r9 {m':Mp} {S':Nat->Prop} {w':yh} {id:Nat} {o:Obj} (hm:∀id p,m id=some p->m' id=some p) (hS:∀b,S b->S' b) (hw:fS S w w') (hb:∀p,m id=some p->w'.heap[p.b]? =w.heap[p.b]?)
  (hn:∀p,m id=some p->S' p.b->S p.b) (h:fF O m S w id o):fF O m' S' w' id o:=by
 have rowAt:∀(cs:List AV) (b k:Nat),w'.heap[b]? =w.heap[b]? ->b7 O.aj m S w cs b k->b7 O.aj m' S' w' cs b k:=by
  intro cs
  induction cs with
  | nil=>intro b k _ _;simp only [b7]
  | cons c cs ih=>
   intro b k zd hr;obtain ⟨⟨u,h1,h2⟩,h3⟩:=hr;exact ⟨⟨u,(N5 zd).trans h1,mv hm hS hw _ _ h2⟩,ih b (k+1) zd h3⟩
 cases o with
 | cells rw pu ex sz cs=>
  obtain ⟨p,arr,t,h1,h2,h3,h4,h5,h6,h7,h8,h9,iS⟩:=h;exact ⟨p,arr,t,hm _ _ h1,(hb p h1).trans h2,h3,h4,h5,h6,rowAt cs p.b p.o (hb p h1) h7,h8,fun hr hs=>h9 hr (hn p h1 hs),fun hr=>hS _ (iS hr)⟩
 | mp rw ks vs=>
  obtain ⟨p,es,clock,h1,h2,h3,h4,h5,h6⟩:=h;exact ⟨p,es,clock,hm _ _ h1,(hb p h1).trans h2,ib hm hS hw _ _ h3,ib hm hS hw _ _ h4,fun hr hs=>h5 hr (hn p h1 hs),fun hr=>hS _ (h6 hr)⟩
 | si s pos=>
  obtain ⟨p,t,h1,h2,h3,h4⟩:=h;exact ⟨p,t,hm _ _ h1,(hb p h1).trans h2,h3,fun hs=>h4 (hn p h1 hs)⟩
 | lp tm ps cT body st pe=>
  obtain ⟨p,l,hi,h1,h2,h3,h4,h5,h6,h7,h8⟩:=h;exact ⟨p,l,hi,hm _ _ h1,(hb p h1).trans h2,fun hs=>h3 (hn p h1 hs),h4,h5,h6,BL hm hS hw h7,h8⟩
def ic {id i:Nat} {o:Obj}:aF ((id,o)::hp) i=if id=i then some o else aF hp i:=by
 simp only [aF]
 simp_all
def J3 (hh:aX O m S w hp ct) (g:yaG):fS S w (w.alloc g):=fun b hb=>alloc_old (hh.slt b hb)
def jH:Obj->Obj->Prop
 | .cells rw pu ex sz cs,o'=>∃fm,o'= .cells fm pu ex sz cs/\(fm=true->rw=true)
 | .mp rw ks vs,o'=>∃fm,o'= .mp fm ks vs/\(fm=true->rw=true)
 | .si s pos,o'=>o'= .si s pos
 | .lp tm ps cT body st pe,o'=>o'= .lp tm ps cT body st pe
def jH.refl:∀o,jH o o
 | .cells rw _ _ _ _=>⟨rw,rfl,fun h=>h⟩
 | .mp rw _ _=>⟨rw,rfl,fun h=>h⟩
 | .si _ _=>rfl
 | .lp _ _ _ _ _ _=>rfl
def jH.trans {a b c:Obj} (h:jH a b) (k:jH b c):jH a c:=by
 cases a with
 | cells rw pu ex sz cs=>
  obtain ⟨r1,rfl,h1⟩:=h;obtain ⟨r2,rfl,h2⟩:=k;exact ⟨r2,rfl,fun h=>h1 (h2 h)⟩
 | mp rw ks vs=>
  obtain ⟨r1,rfl,h1⟩:=h;obtain ⟨r2,rfl,h2⟩:=k;exact ⟨r2,rfl,fun h=>h1 (h2 h)⟩
 | si s pos=>simp only [jH] at h;subst h;exact k
 | lp tm ps cT body st pe=>simp only [jH] at h;subst h;exact k
def dC (hp aw:Hp):Prop:=∀id o,aF hp id=some o->∃o',aF aw id=some o'/\jH o o'
def dC.refl {hp:Hp}:dC hp hp:=fun _ o h=>⟨o,h,jH.refl o⟩
def dC.trans {a b c:Hp} (h:dC a b) (k:dC b c):dC a c:=fun id o ho=>
 let ⟨o1,h1,l1⟩:=h id o ho
 let ⟨o2,h2,l2⟩:=k id o1 h1
 ⟨o2,h2,l1.trans l2⟩
def jv:Obj->Prop
 | .cells rw _ _ _ _=>rw=false
 | .mp rw _ _=>rw=false
 | _=>False
def agY {aw:Hp} {a6:Nat} (hh:aX O m S w hp ct) (hl:dC hp aw) (hd:∀id o p,aF aw id=some o->m id=some p->∃o',aF hp id=some o') (eh:ct<=a6) (aDd:∀id o,aF aw id=some o->id<a6):
  ∃S',aX O m S' w aw a6/\(∀b,S b->S' b)/\∀b,S' b->S b\/eI m hp b:=by
 refine ⟨fun b=>S b\/∃id p o,m id=some p/\p.b=b/\aF aw id=some o/\jv o,?_,fun b h=> .inl h,?_⟩
 ·refine ⟨?_,fun id p h=>Nat.lt_of_lt_of_le (hh.lt id p h) eh,?_,?_,hh.blt,hh.low,hh.lY,hh.fT,aDd⟩
  ·intro id o' p nQ hm;obtain ⟨o,ho⟩:=hd id o' p nQ hm;obtain ⟨o'',h1,h2⟩:=hl id o ho;rw [nQ] at h1;injection h1 with h1
   subst h1;have h3:=hh.obj id o p ho hm;have hS:∀b,S b->(S b\/∃id p o,m id=some p/\p.b=b/\aF aw id=some o/\jv o):=fun b h=> .inl h
   have lG:∀q,m id=some q->(∃id p o,m id=some p/\p.b=q.b/\aF aw id=some o/\jv o)->jv o':=by
    rintro q hq ⟨j,pj,oj,hj1,hj2,hj3,hj4⟩;obtain ⟨Nb,hj5⟩:=hd j oj pj hj3 hj1
    have:=hh.inj id j o Nb q pj ho hj5 hq hj1 hj2.symm
    grind
   have aY:fS S w w:=fun _ _=>rfl
   cases o with
   | cells rw pu ex sz cs=>
    obtain ⟨fm,rfl,oS⟩:=h2;obtain ⟨q,arr,t,h1,h2,h3,h4,h5,h6,h7,h8,h9,iS⟩:=h3;refine ⟨q,arr,t,h1,h2,h3,h4,h5,h6,?_,h8,?_,?_⟩
    ·clear h4 h6 h8;revert h7;generalize q.o=k
     induction cs generalizing k with
     | nil=>intro _;simp only [b7]
     | cons c cs ih=>
      intro hr;simp only [b7] at hr ⊢;obtain ⟨⟨u,g1,g2⟩,g3⟩:=hr
      exact ⟨⟨u,g1,mv (fun _ _ h=>h) hS aY _ _ g2⟩,by
       have Fj:∀(cs:List AV) (b k:Nat),b7 O.aj m S w cs b k->b7 O.aj m (fun b=>S b\/∃id p o,m id=some p/\p.b=b/\aF aw id=some o/\jv o) w cs b k:=by
        intro cs
        induction cs with
        | nil=>intro b k _;simp only [b7]
        | cons c cs ih=>
         intro b k hr;simp only [b7] at hr ⊢;obtain ⟨⟨u,g1,g2⟩,g3⟩:=hr;exact ⟨⟨u,g1,mv (fun _ _ h=>h) hS aY _ _ g2⟩,ih b (k+1) g3⟩
       exact Fj _ _ _ g3⟩
    ·rintro hr (hs | hs)
     ·grind
     ·have:=lG q h1 hs
      simp only [jv] at this
      grind
    ·intro hr;exact .inr ⟨id,q,_,h1,rfl,nQ,hr⟩
   | mp rw ks vs=>
    obtain ⟨fm,rfl,oS⟩:=h2;obtain ⟨q,es,clock,h1,h2,h3,h4,h5,h6⟩:=h3;refine ⟨q,es,clock,h1,h2,ib (fun _ _ h=>h) hS aY _ _ h3,ib (fun _ _ h=>h) hS aY _ _ h4,?_,?_⟩
    ·rintro hr (hs | hs)
     ·grind
     ·have:=lG q h1 hs
      simp only [jv] at this
      grind
    ·intro hr;exact .inr ⟨id,q,_,h1,rfl,nQ,hr⟩
   | si s pos=>
    simp only [jH] at h2;subst h2;refine r9 (fun _ _ h=>h) hS aY (fun _ _=>rfl) (fun q hq hs=>?_) h3;rcases hs with hs | hs
    ·grind
    ·exact (lG q hq hs).elim
   | lp tm ps cT body st pe=>
    simp only [jH] at h2;subst h2;refine r9 (fun _ _ h=>h) hS aY (fun _ _=>rfl) (fun q hq hs=>?_) h3;rcases hs with hs | hs
    ·grind
    ·exact (lG q hq hs).elim
  ·intro i j oi oj pi pj hi hj bW gA e;obtain ⟨Nc,fy⟩:=hd i oi pi hi bW;obtain ⟨Nb,hj'⟩:=hd j oj pj hj gA;exact hh.inj i j Nc Nb pi pj fy hj' bW gA e
  ·rintro b (hb | ⟨id,p,o,h1,rfl,_,_⟩)
   ·exact hh.slt b hb
   ·exact hh.blt id p h1
 ·rintro b (hb | ⟨id,p,o,h1,rfl,h3,_⟩)
  ·exact .inl hb
  ·obtain ⟨o',nQ⟩:=hd id o p h3 h1;exact .inr ⟨id,o',p,nQ,h1,rfl⟩
def af0 {i:Nat} (hh:aX O m S w hp ct) (hi:m i=none) (It:i<ct) {g:yaG} {p:Pl} (hb:p.b=w.heap.size)
  (hf:∀o,aF hp i=some o->(fF O (fG m i p) S (w.alloc g) i o/\¬jv o)\/
   (jv o/\fF O (fG m i p) (fun b=>S b\/b=w.heap.size) (w.alloc g) i o)):
  ∃S',aX O (fG m i p) S' (w.alloc g) hp ct/\(∀b,S b->S' b)/\∀b,S' b->S b\/b=w.heap.size:=by
 have eY:(w.alloc g).heap.size=w.heap.size+1:=by simp
 have a8:O.w0.heap.size<=w.heap.size:=hh.fT;have gen:∀S':Nat->Prop,(∀b,S b->S' b)->(∀b,S' b->S b\/b=w.heap.size)->(∀o,aF hp i=some o->fF O (fG m i p) S' (w.alloc g) i o)->aX O (fG m i p) S' (w.alloc g) hp ct:=by
  intro S' h1 h2 h3;have Nf:∀id q,m id=some q->¬q.b=w.heap.size:=fun id q hq=>by have:=hh.blt id q hq;omega
  refine ⟨?_,?_,?_,?_,?_,?_,?_,?_,hh.aZ⟩
  ·intro id o q ho hm;by_cases hc:id=i
   ·grind
   ·rw [eO hc] at hm;refine r9 (kW hi) h1 (J3 hh g) (fun q' cm=>alloc_old (hh.blt id q' cm)) (fun q' cm hs=>?_) (hh.obj id o q ho hm)
    grind
  ·intro id q hm;by_cases hc:id=i
   ·grind
   ·rw [eO hc] at hm;exact hh.lt id q hm
  ·intro a b oa ob pa pb ha da Fl Ap e;by_cases ca:a=i
   ·by_cases cb:b=i
    ·grind
    ·subst ca;rw [eP] at Fl;rw [eO cb] at Ap
     grind
   ·rw [eO ca] at Fl;by_cases cb:b=i
    ·subst cb;rw [eP] at Ap
     grind
    ·rw [eO cb] at Ap;exact hh.inj a b oa ob pa pb ha da Fl Ap e
  ·intro b hs;rcases h2 b hs with h | h
   ·have:=hh.slt b h;omega
   ·omega
  ·intro id q hm;by_cases hc:id=i
   ·subst hc;rw [eP] at hm
    grind
   ·rw [eO hc] at hm
    have:=hh.blt id q hm
    omega
  ·intro id q hm;by_cases hc:id=i
   ·subst hc;rw [eP] at hm
    grind
   ·rw [eO hc] at hm;exact hh.low id q hm
  ·intro b zd;exact (alloc_old (by omega)).trans (hh.lY b zd)
  ·omega
 cases ho:aF hp i with
 | none=>exact ⟨S,gen S (fun _ h=>h) (fun _ h=> .inl h) (fun o h=>by rw [ho] at h;cases h),fun _ h=>h,fun _ h=> .inl h⟩
 | some o=>
  rcases hf o ho with ⟨h1,_⟩ | ⟨_,h1⟩
  ·exact ⟨S,gen S (fun _ h=>h) (fun _ h=> .inl h) (fun o' h=>by rw [ho] at h;injection h with h;subst h;exact h1),fun _ h=>h,fun _ h=> .inl h⟩
  ·exact ⟨_,gen (fun b=>S b\/b=w.heap.size) (fun _ h=> .inl h) (fun _ h=>h) (fun o' h=>by rw [ho] at h;injection h with h;subst h;exact h1),fun _ h=> .inl h,fun _ h=>h⟩
def aec {id:Nat} {o o':Obj} {p:Pl} (hl:jH o o') (hm:m id=some p) (h:fF O m S w id o) (hn:¬jv o):
  (fF O m S w id o'/\¬jv o')\/(jv o'/\fF O m (fun b=>S b\/b=p.b) w id o'):=by
 have hS:∀b,S b->(S b\/b=p.b):=fun _ h=> .inl h
 have aY:fS S w w:=fun _ _=>rfl
 cases o with
 | cells rw pu ex sz cs=>
  obtain ⟨fm,rfl,oS⟩:=hl
  cases fm with
  | true=>
   grind
  | false=>
   refine .inr ⟨rfl,?_⟩;obtain ⟨q,arr,t,h1,h2,h3,h4,h5,h6,h7,h8,h9,iS⟩:=h;rw [hm] at h1;injection h1 with h1
   subst h1;have Fj:∀(cs:List AV) (b k:Nat),b7 O.aj m S w cs b k->b7 O.aj m (fun b=>S b\/b=p.b) w cs b k:=by
    intro cs
    induction cs with
    | nil=>intro b k _;simp only [b7]
    | cons c cs ih=>
     intro b k hr;obtain ⟨⟨u,g1,g2⟩,g3⟩:=hr;exact ⟨⟨u,g1,mv (fun _ _ h=>h) hS aY _ _ g2⟩,ih b (k+1) g3⟩
   exact ⟨p,arr,t,hm,h2,h3,h4,h5,h6,Fj _ _ _ h7,h8,by simp,fun _=> .inr rfl⟩
 | mp rw ks vs=>
  obtain ⟨fm,rfl,oS⟩:=hl
  cases fm with
  | true=>
   grind
  | false=>
   refine .inr ⟨rfl,?_⟩;obtain ⟨q,es,clock,h1,h2,h3,h4,h5,h6⟩:=h;rw [hm] at h1;injection h1 with h1
   subst h1;exact ⟨p,es,clock,hm,h2,ib (fun _ _ h=>h) hS aY _ _ h3,ib (fun _ _ h=>h) hS aY _ _ h4,by simp,fun _=> .inr rfl⟩
 | si s pos=>simp only [jH] at hl;subst hl;exact .inl ⟨h,hn⟩
 | lp tm ps cT body st pe=>simp only [jH] at hl;subst hl;exact .inl ⟨h,hn⟩
end
end
section
open Go
section
variable {O:bw} {H:Hint} {m:Mp} {S:Nat->Prop} {w:yh} {tm:Env} {a:Act} {hp:Hp} {ct cq:Nat}
def UA {aj:Nat->Nat} {b:Nat} {arr:Array yf} {t:yt} {fr:Nat×Nat} (hb:w.heap[b]? =some (.cells arr t fr)):∀(cs:List AV) (us:List yf) (o:Nat),
  aA aj m S w cs us->(∀(j:Nat) (u:yf),us[j]? =some u->arr[o+j]? =some u)->b7 aj m S w cs b o
 | [],us,o,_,_=>by simp only [b7]
 | c::cs,us,o,h,hu=>by
  simp only [aA] at h;obtain ⟨u,r,rfl,h2,h3⟩:=h;simp only [b7];refine ⟨⟨u,?_,h2⟩,UA hb cs r (o+1) h3 (fun j v hv=>?_)⟩
  ·have:=hu 0 u (by simp)
   simpa [World.cell?,hb] using this
  ·have:=hu (j+1) v (by simpa using hv)
   rw [show o+1+j=o+(j+1) by omega];exact this
def avQ (hh:aX O m S w hp cq) {i:Nat} {arr:Array yf} {t:yt} {cs:List AV} {us:List yf} {pu ex:Bool} {sz:Nat} (hr:aA O.aj m S w cs us)
  (hu:∀(j:Nat) (u:yf),us[j]? =some u->arr[j]? =some u) (hl:cs.length<=arr.size) (hex:ex=true->cs.length=arr.size) (iQ:pu=true->aO cs=true)
  (m':Mp) (hm:dN m m') (hi:m' i=some ⟨w.heap.size,0,arr.size,sz⟩):fF O m' S (w.alloc (.cells arr t)) i (.cells true pu ex sz cs):=by
 refine ⟨⟨w.heap.size,0,arr.size,sz⟩,arr,t,hi,heap_alloc_new w _,rfl,hl,by simp,hex,?_,iQ,?_,by simp⟩
 ·exact UA (heap_alloc_new w _) cs us 0 (ib hm (fun _ h=>h) (J3 hh _) _ _ hr) (by simpa using hu)
 ·intro _ hS
  have:=hh.slt _ hS
  simp at this
def Eo (O:bw) (m:Mp) (S:Nat->Prop) (w:yh) (a:Act) (ct:Nat) (o:yZ) (v:AV) (b:Obj):Prop:=
 ∃u g p,(execOp a.eval o).run O.P w= .ok (.value u) (w.alloc g)/\p.b=w.heap.size/\¬jv b/\
  ∀m',dN m m'->m' ct=some p->fF O m' S (w.alloc g) ct b/\an O.aj m' S (w.alloc g) v u
def UB {o:yZ} {arr:Array yf} {t:yt} {cs:List AV} {us:List yf} {pu ex:Bool} {sz:Nat} {v:AV} {u:yf} (hh:aX O m S w hp cq)
  (he:(execOp a.eval o).run O.P w= .ok (.value u) (w.alloc (.cells arr t))) (hr:aA O.aj m S w cs us)
  (hu:∀(j:Nat) (u:yf),us[j]? =some u->arr[j]? =some u) (hl:cs.length<=arr.size) (hex:ex=true->cs.length=arr.size) (iQ:pu=true->aO cs=true)
  (hv:∀m':Mp,m' ct=some ⟨w.heap.size,0,arr.size,sz⟩->an O.aj m' S (w.alloc (.cells arr t)) v u):Eo O m S w a ct o v (.cells true pu ex sz cs):=
 ⟨u,_,⟨w.heap.size,0,arr.size,sz⟩,he,rfl,by simp [jv],fun m' hm hi=>⟨avQ hh hr hu hl hex iQ m' hm hi,hv m' hi⟩⟩
def af1 {o:yZ} {t:yt} {x:yf} {vx v:AV} {b:Obj} {sz:Nat} (hh:aX O m S w hp cq) (he:(execOp a.eval o).run O.P w= .ok (.value (.pointer (some ⟨w.heap.size,0,none⟩))) (w.alloc (.cells x.cells t))) (hx:aA O.aj m S w (cellsOf vx) x.cells.toList)
  (hv:(bif yu (cellsOf vx).length sz&&cr (cellsOf vx) then some (AV.ptr ct 0,Obj.cells true (aO (cellsOf vx)) true sz (cellsOf vx)) else none)=some (v,b)):Eo O m S w a ct o v b:=by
 cases hc:(yu (cellsOf vx).length sz&&cr (cellsOf vx)) with
 | false=>rw [hc] at hv;cases hv
 | true=>
  rw [hc] at hv;obtain ⟨rfl,rfl⟩:=hv;have hlen:=iY _ _ hx;refine UB hh he hx (fun j u hj=>by simpa using hj) (by rw [<-hlen];simp) (fun _=>by rw [<-hlen];simp) (fun h=>h) (fun m' hi=>?_)
  simp only [an];exact ⟨_,hi,by simp⟩
def atG {o:yZ} {t:yt} {r:Option xu} (hh:aX O m S w hp cq) (ho:o.op= .makeMap t r) (hr:r=none):Eo O m S w a ct o (.map ct) (.mp true [] []):=by
 subst hr;refine ⟨.map (some w.heap.size),.map #[] 0,⟨w.heap.size,0,0,0⟩,by simp [execOp,ho,Instr.makeMap],rfl,by simp [jv],fun m' _ hi=>⟨?_,?_⟩⟩
 ·refine ⟨_,#[],0,hi,heap_alloc_new w _,by simp [aA],by simp [aA],?_,by simp⟩;intro _ hS
  have:=hh.slt _ hS
  simp at this
 ·simp only [an];exact ⟨_,hi,rfl⟩
def arS {o:yZ} {t:yt} {x:xu} {s:List Nat} (hh:aX O m S w hp cq) (ho:o.op= .range t x) (hu:O.P.underlying t=some .string) (hx:an O.aj m S w (.str s) (a.eval x)):
  Eo O m S w a ct o (.it ct) (.si s 0):=by
 obtain ⟨b,e,rfl⟩:=hx;refine ⟨.pointer (some ⟨w.heap.size,0,none⟩),.stringIter b 0,⟨w.heap.size,0,0,0⟩,by simp [execOp,ho,Instr.range,run_underlying hu,e],rfl,by simp [jv],fun m' _ hi=>⟨?_,?_⟩⟩
 ·refine ⟨_,b,hi,heap_alloc_new w _,rfl,?_⟩;intro hS
  have:=hh.slt _ hS
  simp at this
 ·simp only [an];exact ⟨_,hi,rfl⟩
end
def arT (zero:Array yf):(wS zero.size).map (fun j=>zero[j]!)=zero.toList:=by
 apply List.ext_getElem
 ·simp
 ·grind
def aez (zero:Array yf):∀n:Nat,(wS (n*zero.size)).map (fun i=>zero[i%zero.size]!)=(yF n zero.toList).flatten
 | 0=>by simp
 | n+1=>by
  rw [wL,ybS,List.range_add,List.map_append,aez zero n,List.replicate_succ',yaf]
  congr 1
  simp only [List.map_map,vH,List.flatten_nil,List.append_nil];rw [<-arT zero];apply List.map_congr_left;intro j hj;simp at hj;simp [Function.comp,xB n,Nat.mod_eq_of_lt hj]
def U1 {aj:Nat->Nat} {m:Mp} {S:Nat->Prop} {w:yh} {cs:List AV} {us:List yf} (h:aA aj m S w cs us):∀n,aA aj m S w (yF n cs).flatten (yF n us).flatten
 | 0=>by simp [aA]
 | n+1=>by rw [vd,vd,vH,vH];exact mr h (U1 h n)
section
variable {O:bw} {H:Hint} {m:Mp} {S:Nat->Prop} {w:yh} {tm:Env} {a:Act} {hp:Hp} {ct cq:Nat}
def aff (zero:Array yf) (n:Nat):(Array.map (fun i=>zero[i%zero.size]!) (uk (n*zero.size))).toList=(yF n zero.toList).flatten:=by
 rw [<-aez zero n]
 simp
def af2 (tm:Env):∀(ps:List (Nat×Nat×X)) (zero cs:List AV),fill tm zero ps=some cs->cs.length=zero.length
 | [],zero,cs,h=>by simp only [fill,yc] at h;rw [h]
 | (o,sz,x)::r,zero,cs,h=>by
  simp only [fill] at h
  cases hc:(yu (cellsOf (aG tm x)).length sz&&yG (o+sz) zero.length&&cr (cellsOf (aG tm x))) with
  | false=>rw [hc] at h;cases h
  | true=>
   rw [hc] at h;simp only [yg] at hc;have h1:=yo hc.1.1;have h2:=yv hc.1.2;rw [af2 tm r _ _ h];simp only [over,yU,yR,wm];omega
def OE {α:Type} (l:List α):∀n,(yF n l).flatten.length=n*l.length
 | 0=>by simp
 | n+1=>by simp [vd,OE l n,wL,Nat.add_comm]
def arU {o:yZ} {t e:yt} {n s:Nat} {z:AV} {parts:Array (Nat×xu)} {ps:List (Nat×Nat×X)} {v:AV} {b:Obj} (hH:fM O H) (ht:cA O m S w tm a.tmps) (hh:aX O m S w hp cq)
  (ho:o.op= .buildSlice t n parts) (hu:O.P.underlying t=some (.slice e)) (hs:cU O.P e=some s) (hz:nD O.P e=some z) (hn:n*s<=16777216)
  (iB:partsOf H (fun i=>some (i*s,s)) parts.toList=some ps)
  (hv:de tm hp ct (.cQ n s (yF n (cellsOf z)).flatten ps)=some (v,b)):Eo O m S w a ct o v b:=by
 simp only [de] at hv
 cases hf:fill tm (yF n (cellsOf z)).flatten ps with
 | none=>simp [hf] at hv
 | some cs=>
  simp only [hf] at hv
  cases hc:yu cs.length (n*s) with
  | false=>rw [hc] at hv;cases hv
  | true=>
   rw [hc] at hv;simp only [yB,yc,yq] at hv;obtain ⟨rfl,rfl⟩:=hv;have hlen:=yo hc;obtain ⟨zv,mT,rfl⟩:=Gl (w:=w) hz;have Be:aA O.aj m S w (cellsOf (eS zv)) zv.cells.toList:=FV zv;have Bf:=iY _ _ Be;have ze:=af2 tm ps _ _ hf;rw [OE] at ze;have Iu:n*s=n*zv.cells.size:=by
    rw [<-hlen,ze,<-Bf];simp
   have key:∃zr:Array yf,(n*s=0->zr=#[])/\(n*s≠0->zr=zv.cells)/\aA O.aj m S w (yF n (cellsOf (eS zv))).flatten ((uk (n*s)).map (fun x=>zr[x%zr.size]!)).toList:=by
    by_cases h0:n*s=0
    ·refine ⟨#[],fun _=>rfl,fun h=>(h h0).elim,?_⟩
     have:(yF n (cellsOf (eS zv))).flatten=[]:=by
      apply List.eq_nil_of_length_eq_zero;rw [OE,<-Bf];simp only [vR];omega
     rw [this];simp [aA,h0]
    ·refine ⟨zv.cells,fun h=>(h0 h).elim,fun _=>rfl,?_⟩;rw [Iu,aff];exact U1 Be n
   obtain ⟨zr,hk0,nT,Bg⟩:=key;obtain ⟨out,h1,h2⟩:=O3 hH ht (place:=fun i=>some (i*s,s)) parts.toList ps _ cs _ iB Bg hf;have oR:=iY _ _ h2
   refine UB (arr:=out) (t:=e) (us:=out.toList) hh ?_ h2 (fun j u hj=>by simpa using hj) (by rw [<-oR];simp) (fun _=>by rw [<-oR];simp) (fun h=>h) (u:= .slice (some ⟨w.heap.size,0,none⟩) n n) ?_
   ·have mU:¬(n*s>2^24):=by omega
    by_cases h0:n*s=0
    ·have:=hk0 h0
     subst this;simp only [h0] at h1;simp [execOp,ho,Instr.buildSlice,run_underlying hu,n8 hs,h0,newRow] at h1 ⊢;simp [h1]
    ·have:=nT h0
     subst this;simp [execOp,ho,Instr.buildSlice,run_underlying hu,n8 hs,h0,mU,mT,newRow] at h1 ⊢;simp [h1]
   ·intro m' hi;simp only [an];refine ⟨_,n,hi,by simp,yA _,?_⟩;simp only [yd];rw [<-hlen,<-oR];simp
def FW:∀{a b:List AV},aO a=true->aO b=true->aO (a++b)=true
 | [],_,_,h=>h
 | c::r,b,h,k=>by
  simp only [aO,yg] at h;simp only [xk,aO,yg];exact ⟨h.1,FW h.2 k⟩
def afg {z:List AV} (h:aO z=true):∀n,aO (yF n z).flatten=true
 | 0=>by simp [aO]
 | n+1=>by rw [vd,vH];exact FW h (afg h n)
def atH {o:yZ} {t e:yt} {s cO:Nat} {z:AV} {l c:xu} {v:AV} {b:Obj} (hH:fM O H) (ht:cA O m S w tm a.tmps) (hh:aX O m S w hp cq)
  (ho:o.op= .makeSlice t l c) (hu:O.P.underlying t=some (.slice e)) (hs:cU O.P e=some s) (hb:C6 O.P e=some cO) (hz:nD O.P e=some z)
  (hv:de tm hp ct (.iA s cO (cellsOf z) (aT H l) (aT H c))=some (v,b)):Eo O m S w a ct o v b:=by
 simp only [de] at hv
 cases hl:dP (aG tm (aT H l)) with
 | none=>simp [hl] at hv
 | some ln=>
  cases hc:dP (aG tm (aT H c)) with
  | none=>simp [hl,hc] at hv
  | some cn=>
   simp only [hl,hc] at hv
   cases hk:(yG ln cn&&(yG cn room&&(yG (cn*cO) room&&(yu (cellsOf z).length s&&cr (cellsOf z))))) with
   | false=>rw [hk] at hv;cases hv
   | true=>
    rw [hk] at hv;simp only [yB,yc,yq] at hv;obtain ⟨rfl,rfl⟩:=hv;simp only [yg] at hk;have h1:=yv hk.1;have h2:=yv hk.2.1;have h3:=yv hk.2.2.1;have h4:=yo hk.2.2.2.1;simp only [room] at h2 h3;obtain ⟨kl,el⟩:=zQ (cL hH ht l) hl;obtain ⟨kc,ec⟩:=zQ (cL hH ht c) hc;obtain ⟨zv,mT,rfl⟩:=Gl (w:=w) hz;have Be:aA O.aj m S w (cellsOf (eS zv)) zv.cells.toList:=FV zv;have Bf:=iY _ _ Be;have Ng:zv.cells.size=s:=by rw [<-h4,<-Bf];simp
    have wrapN:∀k:Nat,k<=1099511627776->IntKind.i64.wrap (k:Int)=k:=fun k hk=>IntWalk.i64_in _ (by omega)
    obtain ⟨ti,Bh,eY,hby⟩:∃ti,O.P.info? e=some ti/\ti.size=s/\ti.bytes=cO:=by
     unfold cU at hs;unfold C6 at hb
     cases hi:O.P.info? e with
     | none=>simp [hi] at hs
     | some ti=>simp only [hi,yc] at hs hb;exact ⟨ti,rfl,hs,hb⟩
    have Eu:((uk (cn*s)).map (zv.cells[·%zv.cells.size]!)).toList=(yF ln zv.cells.toList).flatten++(yF (cn-ln) zv.cells.toList).flatten:=by
     rw [<-Ng,aff,<-yaf,List.replicate_append_replicate]
     grind
    have lF:(yF ln (cellsOf (eS zv))).flatten.length=ln*s:=by rw [OE,h4]
    have hmul:ln*s<=cn*s:=Nat.mul_le_mul_right _ h1
    refine UB (arr:=(uk (cn*s)).map (zv.cells[·%zv.cells.size]!)) (t:=e) (us:=(yF ln zv.cells.toList).flatten) hh (u:= .slice (some ⟨w.heap.size,0,none⟩) ln cn) ?_
     (U1 Be ln) ?_ ?_ ?_ (fun h=>?_) ?_
    ·have aKL:cO*cn<=1099511627776:=by rw [xB];exact h3
     have zg:((cO*cn:Nat):Int)<=1099511627776:=by omega
     rw [Int.natCast_mul] at zg;have hlc:(ln:Int)<=(cn:Int):=by omega
     have g1:¬(281474976710656<(cO:Int)*(cn:Int)):=by omega
     have g2:¬(((ln:Int)<0)):=by omega
     have g3:¬(((cn:Int)<0)):=by omega
     have g4:¬((ln:Int)>(cn:Int)):=by omega
     by_cases h0:cn*s=0
     ·simp [execOp,ho,Instr.makeSlice,run_underlying hu,el,ec,asInt,asIntOf,typeInfo,Bh,hby,wrapN ln (by omega),wrapN cn h2,g1,g2,g3,g4,n8 hs,h0,newRow,askRoom,roomBytes]
      grind
     ·simp [execOp,ho,Instr.makeSlice,run_underlying hu,el,ec,asInt,asIntOf,typeInfo,Bh,hby,wrapN ln (by omega),wrapN cn h2,g1,g2,g3,g4,n8 hs,h0,newRow,askRoom,roomBytes,mT]
    ·intro j u hj
     have:((uk (cn*s)).map (zv.cells[·%zv.cells.size]!)).toList[j]? =some u:=by
      grind
     grind
    ·grind
    ·simp_all
    ·exact afg h ln
    ·intro m' hi;simp only [an];refine ⟨_,cn,hi,by simp,h1,?_⟩
     simp
def avR {o:yZ} {k:Nat} {v:AV} {b:Obj} (hH:fM O H) (ht:cA O m S w tm a.tmps) (hh:aX O m S w hp cq)
  (hv:de tm hp ct (bi O.P H k o)=some (v,b)):Eo O m S w a ct o v b:=by
 cases ho:o.op with
 | call c=>
  obtain ⟨callee,args,ts⟩:=c;simp only [bi,ho] at hv
  repeat' split at hv
  all_goals first
   | (simp [de,bad] at hv;done)
   | (revert hv;generalize yu _ _=bb;intro hv;cases bb<;>simp [de,bad] at hv)
 | alloc t=>
  simp only [bi,ho] at hv
  split at hv
  ·rename_i s z hs hz;obtain ⟨zv,mT,rfl⟩:=Gl (w:=w) hz
   exact af1 (x:=zv) (t:=t) hh (by simp [execOp,ho,Instr.alloc,mT,newVar,newRow]) (FV zv) (by simpa only [de,aG] using hv)
  ·simp [de,bad] at hv
 | box t x=>
  simp only [bi,ho] at hv
  split at hv
  ·rename_i s hs;simp only [de] at hv
   cases hc:(yu (cellsOf (aG tm (aT H x))).length s&&cr (cellsOf (aG tm (aT H x)))) with
   | false=>rw [hc] at hv;cases hv
   | true=>
    have h1:=hc;simp only [yg] at h1
    exact af1 (x:=a.eval x) (t:=t) hh (by simp [execOp,ho,Instr.box,newVar,newRow]) (Uz (cL hH ht x) h1.2) hv
  ·simp [de,bad] at hv
 | buildSlice t n parts=>
  simp only [bi,ho] at hv
  split at hv
  ·rename_i e hu
   split at hv
   ·rename_i s z hs hz
    cases hc:yG (n*s) 16777216 with
    | false=>rw [hc] at hv;simp [de,bad] at hv
    | true=>
     rw [hc] at hv;simp only [yB] at hv
     split at hv
     ·rename_i ps iB;exact arU hH ht hh ho hu hs hz (yv hc) iB hv
     ·simp [de,bad] at hv
   ·simp [de,bad] at hv
  ·simp [de,bad] at hv
 | makeSlice t l c=>
  simp only [bi,ho] at hv
  split at hv
  ·rename_i e hu
   split at hv
   ·rename_i s cO z hs hb hz
    exact atH hH ht hh ho hu hs hb hz hv
   ·simp [de,bad] at hv
  ·simp [de,bad] at hv
 | makeMap t r=>
  cases r with
  | some x=>simp [bi,ho,de,bad] at hv
  | none=>
   simp only [bi,ho] at hv
   repeat' split at hv
   all_goals first
    | (simp [de,bad] at hv;done)
    | (
      simp only [de,yc,yq] at hv;obtain ⟨rfl,rfl⟩:=hv
      exact atG hh ho rfl)
 | range t x=>
  simp only [bi,ho] at hv
  split at hv
  ·rename_i hu;simp only [de] at hv;have rx:=cL hH ht x;cases hx:aG tm (aT H x)<;>rw [hx] at hv rx<;>simp only [reduceCtorEq] at hv
   simp only [yc,yq] at hv;obtain ⟨rfl,rfl⟩:=hv;exact arS hh ho hu rx
  ·simp [de,bad] at hv
 | next x b=>cases b<;>simp [bi,ho,de,bad] at hv
 | binOp op t x y ty=>
  cases op<;>simp only [bi,ho,sq,zP] at hv
  case eql=>
        repeat' split at hv
        all_goals first
         | (simp [de,bad] at hv;done)
         | (cases hb:(O.P.stoodInHeld t||O.P.eqGuardType O.P.depth t)<;>rw [hb] at hv<;>simp [de,bad] at hv)
  case neq=>
        repeat' split at hv
        all_goals first
         | (simp [de,bad] at hv;done)
         | (cases hb:(O.P.stoodInHeld t||O.P.eqGuardType O.P.depth t)<;>rw [hb] at hv<;>simp [de,bad] at hv)
  all_goals simp [de] at hv
 | _=>
  simp only [bi,ho] at hv
  (repeat' split at hv)
  all_goals first
   | contradiction
   | (simp [de,bad] at hv;done)
end
end
section
open Go
def sc {hp:Hp} {id i:Nat} {o:Obj}:aF (bf hp id o) i=if id=i then (if (aF hp id).isSome then some o else none) else aF hp i:=by
 induction hp with
 | nil=>simp [bf,aF]
 | cons x r ih=>
  obtain ⟨j,q⟩:=x;simp only [bf];by_cases hj:j=id
  ·subst hj;simp only [vj,yB,aF];by_cases hi:j=i
   ·simp_all
   ·have:yu j i=false:=by
     cases hq:yu j i with
     | false=>rfl
     | true=>exact absurd (yo hq) hi
    grind
  ·have hb:yu j id=false:=by
    cases hq:yu j id with
    | false=>rfl
    | true=>exact absurd (yo hq) hj
   simp only [hb,yM];rw [show aF ((j,q)::bf r id o) i=bif yu j i then some q else aF (bf r id o) i from rfl,ih];by_cases hi:j=i
   ·subst hi
    have:¬id=j:=fun h=>hj h.symm
    simp [vj,this,aF]
   ·have zg:yu j i=false:=by
     cases hq:yu j i with
     | false=>rfl
     | true=>exact absurd (yo hq) hi
    simp [zg,aF,hb]
def j0 (hp aw:Hp):Prop:=∀id,(aF aw id).isSome=(aF hp id).isSome
def j0.refl {hp:Hp}:j0 hp hp:=fun _=>rfl
def j0.trans {a b c:Hp} (h:j0 a b) (k:j0 b c):j0 a c:=fun id=>(k id).trans (h id)
def Vr {hp:Hp} {id:Nat} {o o':Obj} (h:aF hp id=some o) (hl:jH o o'):dC hp (bf hp id o')/\j0 hp (bf hp id o'):=by
 constructor
 ·intro i q hq;rw [sc];by_cases hi:id=i
  ·grind
  ·exact ⟨q,by simp [hi,hq],jH.refl q⟩
 ·intro i;rw [sc]
  grind
def afh {hp H:Hp} {id:Nat} {pu ex:Bool} {sz:Nat} {cs:List AV} (hl:dC hp H) (h:aF hp id=some (.cells false pu ex sz cs)):aF H id=some (.cells false pu ex sz cs):=by
 obtain ⟨o',h1,fm,rfl,h2⟩:=hl id _ h
 cases fm with
 | false=>exact h1
 | true=>exact absurd (h2 rfl) (by simp)
section
variable {O:bw}
def aBL (O:bw) (m:Mp) (S:Nat->Prop) (w:yh) (p:Pl) (ex:Bool) (sz:Nat) (cs:List AV):Prop:=
 p.z=sz/\cs.length<=p.e/\(ex=true->cs.length=p.e)/\S p.b/\aO cs=true/\b7 O.aj m S w cs p.b p.o
def WQ (O:bw) (aw:Hp) (v v':AV):Prop:=∀H m S w ct,dC aw H->aX O m S w H ct->(∀u,an O.aj m S w v u->an O.aj m S w v' u)/\bg v'=true
def al4 (O:bw) (aw:Hp) (vs eH:List AV):Prop:=∀H m S w ct,dC aw H->aX O m S w H ct->(∀us,aA O.aj m S w vs us->aA O.aj m S w eH us)/\aO eH=true
def aDe (O:bw) (aw:Hp) (id:Nat) (ex:Bool) (sz:Nat) (cs:List AV):Prop:=∀H m S w ct,dC aw H->aX O m S w H ct->∀p,m id=some p->aBL O m S w p ex sz cs
def Ga {aj:Nat->Nat} {m:Mp} {S:Nat->Prop} {w:yh} {b:Nat}:∀(cs:List AV) (us:List yf) (o:Nat),aA aj m S w cs us->
  (∀(j:Nat) (u:yf),us[j]? =some u->w.cell? ⟨b,o+j,none⟩=some u)->b7 aj m S w cs b o
 | [],us,o,_,_=>by simp only [b7]
 | c::cs,us,o,h,hu=>by
  obtain ⟨u,r,rfl,h2,h3⟩:=h;refine ⟨⟨u,by simpa using hu 0 u (by simp),h2⟩,Ga cs r (o+1) h3 (fun j v hv=>?_)⟩;rw [show o+1+j=o+(j+1) by omega]
  simp_all
def aBM {m:Mp} {S:Nat->Prop} {w:yh} {cs eG:List AV} (h:∀us,aA O.aj m S w cs us->aA O.aj m S w eG us) {b o:Nat} (hr:b7 O.aj m S w cs b o):b7 O.aj m S w eG b o:=by
 obtain ⟨us,h1,_,h3⟩:=zG cs b o hr;exact Ga eG us o (h us h1) h3
def DI:∀(k:Nat) {cs:List AV},aO cs=true->aO (cs.take k)=true
 | 0,_,_=>by simp [aO]
 | k+1,[],_=>by simp [aO]
 | k+1,c::cs,h=>by
  simp only [aO,yg,wx] at h ⊢;exact ⟨h.1,DI k h.2⟩
def atI {aw:Hp} {vs eH:List AV}:∀{n:Nat} {hp:Hp},dc n hp vs=some (eH,aw)->eH.length=vs.length:=by
 intro n
 induction n generalizing vs eH aw with
 | zero=>intro hp h;simp [dc] at h
 | succ n ih=>
  intro hp h
  cases vs with
  | nil=>simp only [dc,yc,yq] at h;rw [<-h.1]
  | cons v r=>
   simp only [dc] at h
   cases h1:freeze n hp v with
   | none=>simp [h1] at h
   | some q=>
    obtain ⟨v',bI⟩:=q;simp only [h1] at h
    cases h2:dc n bI r with
    | none=>simp [h2] at h
    | some q2=>
     grind
def aeA:∀n:Nat,
  (∀hp v v' aw,freeze n hp v=some (v',aw)->dC hp aw/\j0 hp aw/\WQ O aw v v')/\
  (∀hp id ex sz cs aw,rZ n hp id=some (ex,sz,cs,aw)->dC hp aw/\j0 hp aw/\aDe O aw id ex sz cs)/\
  (∀hp vs eH aw,dc n hp vs=some (eH,aw)->dC hp aw/\j0 hp aw/\al4 O aw vs eH):=by
 intro n
 induction n with
 | zero=>refine ⟨?_,?_,?_⟩<;>intros<;>simp_all [freeze,rZ,dc]
 | succ n ih=>
  obtain ⟨ihV,ihB,Iv⟩:=ih;refine ⟨?_,?_,?_⟩
  ·intro hp v v' aw h;have plain:∀{v v':AV} {hp aw:Hp},(bif bg v then some (v,hp) else none)=some (v',aw)->dC hp aw/\j0 hp aw/\WQ O aw v v':=by
    intro v v' hp aw h
    cases hc:bg v with
    | false=>rw [hc] at h;cases h
    | true=>
     rw [hc] at h;simp only [yB,yc,yq] at h;obtain ⟨rfl,rfl⟩:=h;exact ⟨dC.refl,j0.refl,fun _ _ _ _ _ _ _=>⟨fun _ h=>h,hc⟩⟩
   cases v<;>simp only [freeze] at h<;>first | exact plain h | skip
   case ay id o k=>
    cases hb:rZ n hp id with
    | none=>simp [hb] at h
    | some q=>
     obtain ⟨ex,sz,cs,bI⟩:=q;simp only [hb] at h
     cases hc:yG (o+k*sz) cs.length with
     | false=>rw [hc] at h;cases h
     | true=>
      rw [hc] at h;simp only [yB,yc,yq] at h;obtain ⟨rfl,rfl⟩:=h;have hle:=yv hc;obtain ⟨h1,h2,h3⟩:=ihB _ _ _ _ _ _ hb;refine ⟨h1,h2,fun H m S w ct hl hh=>⟨fun u hu=>?_,by simp only [bg]⟩⟩;simp only [an] at hu ⊢;obtain ⟨p,c,hm,rfl,Bi,SC⟩:=hu;obtain ⟨g1,g2,g3,g4,g5,g6⟩:=h3 H m S w ct hl hh p hm;refine .inl ⟨p.b,p.o+o,c,rfl,Bi,?_,.inr g4,DI _ (BJ _ _ g5),DL _ _ _ _ (rY _ _ _ _ g6)⟩;intro hx;simp only [yg] at hx;have e1:=yo hx.2;have e2:0<sz:=by
       simp_all
      have e3:=g3 hx.1.1;rw [g1] at SC
      have:c*sz=k*sz:=by omega
      exact Nat.eq_of_mul_eq_mul_right e2 this
   case ptr id o=>
    cases hb:rZ n hp id with
    | none=>simp [hb] at h
    | some q=>
     obtain ⟨ex,sz,cs,bI⟩:=q;simp only [hb,yc,yq] at h;obtain ⟨rfl,rfl⟩:=h;obtain ⟨h1,h2,h3⟩:=ihB _ _ _ _ _ _ hb;refine ⟨h1,h2,fun H m S w ct hl hh=>⟨fun u hu=>?_,by simp only [bg]⟩⟩;simp only [an] at hu ⊢;obtain ⟨p,hm,rfl⟩:=hu;obtain ⟨g1,g2,g3,g4,g5,g6⟩:=h3 H m S w ct hl hh p hm;exact ⟨p.b,p.o+o,rfl,.inr g4,BJ _ _ g5,rY _ _ _ _ g6⟩
   case map id=>
    cases hg:aF hp id with
    | none=>simp [hg] at h
    | some ob=>
     cases ob<;>simp only [hg,reduceCtorEq] at h
     rename_i rw ks vs
     cases hc:(aO ks&&aO vs) with
     | false=>rw [hc] at h;cases h
     | true=>
      rw [hc] at h;simp only [yB,yc,yq] at h;obtain ⟨rfl,rfl⟩:=h;simp only [yg] at hc;obtain ⟨h1,h2⟩:=Vr hg (o':= .mp false ks vs) ⟨false,rfl,by simp⟩;refine ⟨h1,h2,fun H m S w ct hl hh=>⟨fun u hu=>?_,by simp only [bg]⟩⟩;simp only [an] at hu ⊢;obtain ⟨p,hm,rfl⟩:=hu;have hq:aF (bf hp id (.mp false ks vs)) id=some (.mp false ks vs):=by rw [sc];simp [hg]
      obtain ⟨o',h3,fm,rfl,h4⟩:=hl id _ hq;have oS:fm=false:=by cases fm with | false=>rfl | true=>exact absurd (h4 rfl) (by simp)
      subst oS;obtain ⟨p',es,clock,g1,g2,g3,g4,g5,g6⟩:=hh.obj id _ _ h3 hm;rw [hm] at g1;injection g1 with g1
      subst g1;exact ⟨p.b,es,clock,rfl,g6 rfl,hc.1,hc.2,g2,g3,g4⟩
   case fn f first cap=>
    cases f with
    | y l=>simp only [bg,yM,reduceCtorEq] at h
    | f g=>
     simp only at h
     cases h1:dc n hp first with
     | none=>simp [h1] at h
     | some q=>
      obtain ⟨aj1,bI⟩:=q;simp only [h1] at h
      cases h2:dc n bI cap with
      | none=>simp [h2] at h
      | some q2=>
       obtain ⟨P8,jF⟩:=q2;simp only [h2,yc,yq] at h;obtain ⟨rfl,rfl⟩:=h;obtain ⟨a1,a2,a3⟩:=Iv _ _ _ _ h1;obtain ⟨b1,b2,b3⟩:=Iv _ _ _ _ h2;refine ⟨a1.trans b1,a2.trans b2,fun H m S w ct hl hh=>?_⟩;obtain ⟨c1,c2⟩:=a3 H m S w ct (b1.trans hl) hh;obtain ⟨d1,d2⟩:=b3 H m S w ct hl hh;refine ⟨fun u hu=>?_,by simp [bg,c2,d2]⟩;simp only [an] at hu ⊢;obtain ⟨fi,ca,rfl,e1,e2⟩:=hu;exact ⟨fi,ca,rfl,c1 _ e1,d1 _ e2⟩
   case agg cs=>
    cases h1:dc n hp cs with
    | none=>simp [h1] at h
    | some q=>
     obtain ⟨eG,bI⟩:=q;simp only [h1,yc,yq] at h;obtain ⟨rfl,rfl⟩:=h;obtain ⟨a1,a2,a3⟩:=Iv _ _ _ _ h1;refine ⟨a1,a2,fun H m S w ct hl hh=>?_⟩;obtain ⟨c1,c2⟩:=a3 H m S w ct hl hh;refine ⟨fun u hu=>?_,by simpa [bg] using c2⟩;simp only [an] at hu ⊢;obtain ⟨xs,rfl,e1⟩:=hu;exact ⟨xs,rfl,c1 _ e1⟩
   case af cs=>
    cases h1:dc n hp cs with
    | none=>simp [h1] at h
    | some q=>
     obtain ⟨eG,bI⟩:=q;simp only [h1,yc,yq] at h;obtain ⟨rfl,rfl⟩:=h;obtain ⟨a1,a2,a3⟩:=Iv _ _ _ _ h1;refine ⟨a1,a2,fun H m S w ct hl hh=>?_⟩;obtain ⟨c1,c2⟩:=a3 H m S w ct hl hh;refine ⟨fun u hu=>?_,by simpa [bg] using c2⟩;simp only [an] at hu ⊢;obtain ⟨xs,rfl,e1⟩:=hu;exact ⟨xs,rfl,c1 _ e1⟩
  ·intro hp id ex sz eG aw h;simp only [rZ] at h
   cases hg:aF hp id with
   | none=>simp [hg] at h
   | some ob=>
    cases ob<;>simp only [hg,reduceCtorEq] at h
    rename_i rw pu za Db cs
    cases pu with
    | true=>
     simp only [yB,yc,yq] at h;obtain ⟨rfl,rfl,rfl,rfl⟩:=h;have hq:dC hp (bif rw then bf hp id (.cells false true za Db cs) else hp)/\j0 hp (bif rw then bf hp id (.cells false true za Db cs) else hp)/\aF (bif rw then bf hp id (.cells false true za Db cs) else hp) id=some (.cells false true za Db cs):=by
      cases rw with
      | true=>
       obtain ⟨h1,h2⟩:=Vr hg (o':= .cells false true za Db cs) ⟨false,rfl,by simp⟩;exact ⟨h1,h2,by simp [sc,hg]⟩
      | false=>exact ⟨dC.refl,j0.refl,hg⟩
     refine ⟨hq.1,hq.2.1,fun H m S w ct hl hh p hm=>?_⟩;obtain ⟨p',arr,t,g1,g2,g3,g4,g5,g6,g7,g8,g9,g10⟩:=hh.obj id _ _ (afh hl hq.2.2) hm;rw [hm] at g1;injection g1 with g1
     subst g1;exact ⟨g3,g4,g6,g10 rfl,g8 rfl,g7⟩
    | false=>
     simp only [yM] at h
     cases h1:dc n hp cs with
     | none=>simp [h1] at h
     | some q=>
      obtain ⟨zh,bI⟩:=q;simp only [h1,yc,yq] at h;obtain ⟨rfl,rfl,rfl,rfl⟩:=h;obtain ⟨a1,a2,a3⟩:=Iv _ _ _ _ h1;obtain ⟨o1,iC,rw1,rfl,_⟩:=a1 id _ hg;obtain ⟨b1,b2⟩:=Vr iC (o':= .cells false false za Db cs) ⟨false,rfl,by simp⟩;refine ⟨a1.trans b1,a2.trans b2,fun H m S w ct hl hh p hm=>?_⟩;have hq:aF (bf bI id (.cells false false za Db cs)) id=some (.cells false false za Db cs):=by simp [sc,iC]
      obtain ⟨p',arr,t,g1,g2,g3,g4,g5,g6,g7,g8,g9,g10⟩:=hh.obj id _ _ (afh hl hq) hm;rw [hm] at g1;injection g1 with g1
      subst g1;obtain ⟨c1,c2⟩:=a3 H m S w ct (b1.trans hl) hh;have hlen:=atI h1
      exact ⟨g3,by omega,fun hx=>by have:=g6 hx;omega,g10 rfl,c2,aBM c1 g7⟩
  ·intro hp vs eH aw h
   cases vs with
   | nil=>
    simp only [dc,yc,yq] at h;obtain ⟨rfl,rfl⟩:=h;exact ⟨dC.refl,j0.refl,fun _ _ _ _ _ _ _=>⟨fun _ h=>h,rfl⟩⟩
   | cons v r=>
    simp only [dc] at h
    cases h1:freeze n hp v with
    | none=>simp [h1] at h
    | some q=>
     obtain ⟨v1,bI⟩:=q;simp only [h1] at h
     cases h2:dc n bI r with
     | none=>simp [h2] at h
     | some q2=>
      obtain ⟨r1,jF⟩:=q2;simp only [h2,yc,yq] at h;obtain ⟨rfl,rfl⟩:=h;obtain ⟨a1,a2,a3⟩:=ihV _ _ _ _ h1;obtain ⟨b1,b2,b3⟩:=Iv _ _ _ _ h2;refine ⟨a1.trans b1,a2.trans b2,fun H m S w ct hl hh=>?_⟩;obtain ⟨c1,c2⟩:=a3 H m S w ct (b1.trans hl) hh;obtain ⟨d1,d2⟩:=b3 H m S w ct hl hh;refine ⟨fun us hu=>?_,by simp [aO,c2,d2]⟩;simp only [aA] at hu ⊢;obtain ⟨u,t,rfl,e1,e2⟩:=hu;exact ⟨u,t,rfl,c1 _ e1,d1 _ e2⟩
def Uj {n:Nat} {hp aw:Hp} {vs eH:List AV} (h:dc n hp vs=some (eH,aw)):dC hp aw/\j0 hp aw/\al4 O aw vs eH:=(aeA n).2.2 _ _ _ _ h
def UC {n:Nat} {hp aw:Hp} {v v':AV} (h:freeze n hp v=some (v',aw)):dC hp aw/\j0 hp aw/\WQ O aw v v':=(aeA n).1 _ _ _ _ h
end
end
section
open Go
section
variable {O:bw} {H:Hint} {m:Mp} {S:Nat->Prop} {w:yh} {tm:Env} {a:Act} {hp:Hp} {ct:Nat}
structure One (w w':yh) (g:Nat):Prop where
 os:w'.os=w.os
 tape:w'.tape=w.tape
 output:w'.output=w.output
 size:w'.heap.size=w.heap.size
 other:∀b,b≠g->w'.heap[b]? =w.heap[b]?
def Uk (w:yh) (g:Nat) (cs:Array yf):One w (w.setRow g cs) g:=
 ⟨rfl,rfl,rfl,by simp,fun b hb=>setRow_other w g b cs hb⟩
def KO {id:Nat} {o:Obj} {p:Pl} (h:aF hp id=some o) (hm:m id=some p):eI m hp p.b:=⟨id,o,p,h,hm,rfl⟩
def atJ {id:Nat} {o':Obj} {b:Nat} (h:eI m (bf hp id o') b):eI m hp b:=by
 obtain ⟨i,o,p,h1,h2,h3⟩:=h;rw [sc] at h1;by_cases hi:id=i
 ·subst hi
  cases hq:aF hp id with
  | none=>simp [hq] at h1
  | some q=>exact ⟨id,q,p,hq,h2,h3⟩
 ·simp only [hi,y9] at h1;exact ⟨i,o,p,h1,h2,h3⟩
def Kn (hh:aX O m S w hp ct) {id:Nat} {o o':Obj} {p:Pl} {w':yh} (ho:aF hp id=some o) (hm:m id=some p) (hn:¬S p.b) (hw:One w w' p.b) (h':fF O m S w' id o') (hk:∀r:Loop,w.heap[p.b]? =some (.loop r)->∃r':Loop,w'.heap[p.b]? =some (.loop r')):
  aX O m S w' (bf hp id o') ct/\cC m S w hp m S w' (bf hp id o') ct:=by
 have aY:fS S w w':=fun b hb=>hw.other b (fun e=>hn (e▸hb))
 refine ⟨⟨?_,hh.lt,?_,?_,?_,hh.low,?_,?_,fun i q hq=>(by
  rw [sc] at hq;by_cases hc:id=i
  ·subst hc;exact hh.aZ _ _ ho
  ·simp only [hc,y9] at hq;exact hh.aZ _ _ hq)⟩,⟨hw.os,hw.tape,hw.output,by rw [hw.size];exact yA _,?_,fun _ h=>h,fun b hb=>aY b hb,fun b hb=> .inl hb,fun b hb=> .inl (atJ hb),fun _ _ _ h=>h,fun b r hb=>?_⟩⟩
 rotate_right
 ·by_cases hc:b=p.b
  ·subst hc;exact hk r hb
  ·exact ⟨r,(hw.other b hc).trans hb⟩
 ·intro i q pi hi bW;rw [sc] at hi;by_cases hc:id=i
  ·subst hc;simp only [xm,ho,Option.isSome_some] at hi;injection hi with hi
   subst hi;exact h'
  ·simp only [hc,y9] at hi;refine r9 (fun _ _ h=>h) (fun _ h=>h) aY (fun q' cm=>?_) (fun _ _ h=>h) (hh.obj i q pi hi bW);exact hw.other _ (fun e=>hc (hh.inj i id q o q' p hi ho cm hm e).symm)
 ·intro i j oi oj pi pj hi hj bW gA e;have key:∀{i:Nat} {oi:Obj},aF (bf hp id o') i=some oi->∃Nc,aF hp i=some Nc:=by
   intro i oi hi;rw [sc] at hi;by_cases hc:id=i
   ·subst hc;exact ⟨o,ho⟩
   ·simp only [hc,y9] at hi;exact ⟨oi,hi⟩
  obtain ⟨Nc,fy⟩:=key hi;obtain ⟨Nb,hj'⟩:=key hj;exact hh.inj i j Nc Nb pi pj fy hj' bW gA e
 ·intro b hb;rw [hw.size];exact hh.slt b hb
 ·intro i q hq;rw [hw.size];exact hh.blt i q hq
 ·intro b hb
  rw [hw.other b (fun e=>by have:=hh.low id p hm;omega)];exact hh.lY b hb
 ·rw [hw.size];exact hh.fT
 ·intro b _ hb;exact hw.other b (fun e=>hb (e▸KO ho hm))
def Ah (O:bw) (m:Mp) (S:Nat->Prop) (w:yh) (a:Act) (hp:Hp) (ct:Nat) (o:yZ) (v:AV) (aw:Hp) (a6:Nat):Prop:=
 ∃n u w' m' S',(execOp a.eval o).run O.P w= .ok n w'/\(n= .value u\/(n= .skip/\u=undef))/\aX O m' S' w' aw a6/\an O.aj m' S' w' v u/\dN m m'/\cC m S w hp m' S' w' aw ct
def atK {aj:Nat->Nat} {v:AV} {u:yf} (h:an aj m S w v u) (ho:cP v=true):u.oneCell'=true:=by
 cases v with
 | fn f a b=>
  cases f with
  | f g=>simp only [an] at h;obtain ⟨_,_,rfl,_⟩:=h;rfl
  | y l=>simp only [an] at h;obtain ⟨_,_,rfl⟩:=h;rfl
 | int k n=>simp only [an] at h;subst h;rfl
 | bool b=>simp only [an] at h;subst h;rfl
 | b5 k n=>simp only [an] at h;subst h;rfl
 | str s=>simp only [an] at h;obtain ⟨_,rfl,_⟩:=h;rfl
 | lm=>simp only [an] at h;subst h;rfl
 | ptr i k=>simp only [an] at h;obtain ⟨_,_,rfl⟩:=h;rfl
 | cz cs=>simp only [an] at h;obtain ⟨_,_,rfl,_⟩:=h;rfl
 | aa=>simp only [an] at h;subst h;rfl
 | ap e n cs=>simp only [an] at h;rcases h with ⟨_,_,_,rfl,_⟩ | ⟨_,rfl,_,_⟩<;>rfl
 | bV _ _ _ _=>simp [cP] at ho
 | ay i k n=>simp only [an] at h;obtain ⟨_,_,_,rfl,_⟩:=h;rfl
 | jd=>simp only [an] at h;subst h;rfl
 | kD=>simp only [an] at h;subst h;rfl
 | map i=>simp only [an] at h;obtain ⟨_,_,rfl⟩:=h;rfl
 | jD ks vs=>simp only [an] at h;obtain ⟨_,_,_,rfl,_⟩:=h;rfl
 | it i=>simp only [an] at h;obtain ⟨_,_,rfl⟩:=h;rfl
 | agg cs=>simp [cP] at ho
 | af cs=>simp [cP] at ho
 | undef=>simp [cP] at ho
def Oo {aj:Nat->Nat}:∀{vs:List AV} {us:List yf},aA aj m S w vs us->cr vs=true->∀u∈us,u.oneCell'=true
 | [],us,h,_,u,hu=>by simp only [aA] at h;subst h;cases hu
 | v::r,us,h,ho,u,hu=>by
  obtain ⟨u',t,rfl,h1,h2⟩:=h;simp only [cr,yg] at ho;rcases List.mem_cons.1 hu with rfl | hu
  ·exact atK h1 ho.1
  ·exact Oo h2 ho.2 u hu
def af3 {arr:Array yf} {t:yt} {p:Pl} {cs new:List AV} {vs:List yf} {o:Nat} {S':Nat->Prop} {m':Mp} (hb:w.heap[p.b]? =some (.cells arr t (0,0))) (hr:b7 O.aj m S w cs p.b p.o)
  (hv:aA O.aj m S w new vs) (hl:o+new.length<=cs.length) (hs:p.o+cs.length<=arr.size) {w':yh} (hm:dN m m') (hS:∀b,S b->S' b) (aY:fS S w w')
  (hw:w'.heap[p.b]? =some (.cells (arr.toList.take (p.o+o)++vs++arr.toList.drop (p.o+o+vs.length)).toArray t (0,0))):b7 O.aj m' S' w' (over o new cs) p.b p.o:=by
 obtain ⟨us,h1,h2,h3⟩:=zG cs p.b p.o hr;have hvl:=iY _ _ hv;have h4:aA O.aj m S w (over o new cs) (us.take o++vs++us.drop (o+new.length)):=mr (mr (F3 o h1) hv) (Ka _ h1);refine Ga _ _ _ (ib hm hS aY _ _ h4) (fun j u hj=>?_);have Ep:∀k u,us[k]? =some u->arr[p.o+k]? =some u:=by
  intro k u hk
  have:=h3 k u hk
  simpa [World.cell?,hb] using this
 simp only [World.cell?,hw,Option.isSome_none,Bool.false_eq_true,y9];rw [List.getElem?_toArray];have e1:(arr.toList.take (p.o+o)).length=p.o+o:=by rw [yR,vR];omega
 have e2:(us.take o).length=o:=by rw [yR];omega
 by_cases c1:j<o
 ·have g1:(us.take o++vs++us.drop (o+new.length))[j]? =us[j]? :=by
   rw [xD,wz (by omega),tE c1]
  rw [g1] at hj;rw [xD,wz (by omega),tE (by omega)];simpa using Ep j u hj
 ·by_cases c2:j<o+vs.length
  ·have g1:(us.take o++vs++us.drop (o+new.length))[j]? =vs[j-o]? :=by
    rw [xD,xU (by omega),e2,wz (by omega)]
   rw [g1] at hj;rw [xD,xU (by omega),e1,wz (by omega),show p.o+j-(p.o+o)=j-o by omega];exact hj
  ·have g1:(us.take o++vs++us.drop (o+new.length))[j]? =us[j]? :=by
    rw [xD,xU (by omega),e2,xU (by omega),yao]
    congr 1
    omega
   rw [g1] at hj;rw [xD,xU (by omega),e1,xU (by omega),yao,show p.o+o+vs.length+(p.o+j-(p.o+o)-vs.length)=p.o+j by omega];simpa using Ep j u hj
def OF {o:Nat} {new cs:List AV} (hl:o+new.length<=cs.length):(over o new cs).length=cs.length:=by
 simp only [over,yU,yR,wm];omega
def aeB {o:Nat} {new cs:List AV} (h:aO cs=true) (h':aO new=true):aO (over o new cs)=true:=
 FW (FW (DI _ h) h') (BJ _ _ h)
def avS {o:yZ} {t:yt} {x y:xu} {sz:Nat} {v:AV} {aw:Hp} {a6:Nat} (hH:fM O H) (ht:cA O m S w tm a.tmps) (hh:aX O m S w hp ct)
  (ho:o.op= .store t x y) (hz:cU O.P t=some sz) (hv:dz tm hp ct (.st sz (aT H x) (aT H y))=some (v,aw,a6)):Ah O m S w a hp ct o v aw a6:=by
 simp only [dz] at hv;have rx:=cL hH ht x;cases hx:aG tm (aT H x)<;>rw [hx] at hv rx<;>simp only [reduceCtorEq] at hv
 rename_i id k;simp only [an] at rx;obtain ⟨p,hm,ex⟩:=rx
 split at hv
 case h_2=>cases hv
 rename_i pu SE z cs hg
 cases hc:(yu (cellsOf (aG tm (aT H y))).length sz&&yG (k+sz) cs.length&&cr (cellsOf (aG tm (aT H y)))) with
 | false=>rw [hc] at hv;cases hv
 | true=>
  rw [hc] at hv;simp only [yB,yc,yq] at hv;obtain ⟨rfl,rfl,rfl⟩:=hv;simp only [yg] at hc;have c1:=yo hc.1.1;have c2:=yv hc.1.2;have ry:=Uz (cL hH ht y) hc.2;have hl:=iY _ _ ry;obtain ⟨p',arr,t',g1,g2,g3,g4,g5,g6,g7,g8,g9,g10⟩:=hh.obj id _ _ hg hm;rw [hm] at g1;injection g1 with g1
  subst g1;have fO:=Oo ry hc.2;have gN:=run_storeCells_at O.P p.b (p.o+k) t' (a.eval y).cells.toList 0 arr w g2 (by rw [hl];omega) fO;simp only [Nat.add_zero] at gN;have aBN:(a.eval y).cells.size=sz:=by simp_all
  have oT:fF O m S (w.setRow p.b (arr.toList.take (p.o+k)++(a.eval y).cells.toList++arr.toList.drop (p.o+k+(a.eval y).cells.toList.length)).toArray) id
    (.cells true (pu&&aO (cellsOf (aG tm (aT H y)))) SE z (over k (cellsOf (aG tm (aT H y))) cs)):=by
   refine ⟨p,_,t',hm,setRow_heap w p.b arr _ t' _ g2,g3,by rw [OF (by omega)];exact g4,?_,fun h=>by rw [OF (by omega)];exact g6 h,?_,?_,fun _=>g9 rfl,by simp⟩
   ·grind
   ·exact af3 g2 g7 ry (by omega) (by omega) dN.refl (fun _ h=>h) (fun b hb=>setRow_other w p.b b _ (fun e=>g9 rfl (e▸hb))) (setRow_heap w p.b arr _ t' _ g2)
   ·intro h;simp only [yg] at h;exact aeB (g8 h.1) h.2
  obtain ⟨e1,e2⟩:=Kn hh hg hm (g9 rfl) (Uk w p.b _) oT (fun r hr=>by rw [g2] at hr;cases hr);refine ⟨.skip,undef,_,m,S,?_,.inr ⟨rfl,rfl⟩,e1,by simp [an,aA,undef],dN.refl,e2⟩;simp only [execOp,ho,Instr.storeAt,ex,Instr.sureAddr,Sem.run_bind,Sem.run_pure,Result.andThen_ok,storeVar,n8 hz,aBN,ne_eq,um,y9];simp [gN]
def aeC {d:vc} {k k':yf} (h:Instr.sameNow d k k'=some true):k=k':=by
 unfold Instr.sameNow at h
 split at h
 ·grind
 ·rename_i p q;simp only [yc] at h;have h2:(p.data==q.data)=true:=by cases p;exact h
  cases p;cases q
  grind
 ·grind
 ·cases h
def sameBits_self {d:vc} {k k':yf} (h:Instr.sameNow d k k'=some true) (n:Nat):Instr.sameBits n k' k=true:=by
 have e:=aeC h;subst e;unfold Instr.sameNow at h
 split at h
 ·simp [Instr.sameBits]
 ·simp only [yc] at h;simp [Instr.sameBits,h]
 ·simp [Instr.sameBits]
 ·cases h
def Put (aj:Nat->Nat) (m:Mp) (S:Nat->Prop) (w:yh) (d:vc) (k x:yf) (es:List uz) (i:Nat) (kL eH:List AV):Prop:=
 (Instr.findNow d k es i=some none/\aA aj m S w kL (es.map (·.key)++[k])/\aA aj m S w eH (es.map (·.val)++[x]))\/
 ∃(j:Nat) (e0:uz),Instr.findNow d k es i=some (some (i+j,e0.val))/\es[j]? =some e0/\Instr.sameNow d k e0.key=some true/\aA aj m S w kL (es.map (·.key))/\aA aj m S w eH ((es.map (·.val)).set j x)
def agZ {aj:Nat->Nat} {vk vx:AV} {k x:yf} {d:vc} (hk:an aj m S w vk k) (hx:an aj m S w vx x) (hd:fits d vk=true):∀(ks vs:List AV) (es:List uz) (i:Nat) (kL eH:List AV),
  aA aj m S w ks (es.map (·.key))->aA aj m S w vs (es.map (·.val))->Cy vk vx ks vs=some (kL,eH)->Put aj m S w d k x es i kL eH
 | [],[],es,i,kL,eH,h1,h2,h=>by
  simp only [aA,List.map_eq_nil_iff] at h1;subst h1;obtain ⟨rfl,rfl⟩:=h;exact .inl ⟨rfl,by simp [aA,hk],by simp [aA,hx]⟩
 | [],_::_,es,i,kL,eH,h1,h2,h=>by simp [Cy] at h
 | _::_,[],es,i,kL,eH,h1,h2,h=>by simp [Cy] at h
 | c::ks,v::vs,es,i,kL,eH,h1,h2,h=>by
  cases es with
  | nil=>simp [aA] at h1
  | cons e es=>
   obtain ⟨u,t,⟨rfl,rfl⟩,hc,SD⟩:=h1;obtain ⟨u',t',⟨rfl,rfl⟩,hv,Bb⟩:=h2;simp only [Cy] at h
   cases Bc:GU vk c with
   | none=>simp [Bc] at h
   | some b=>
    have hs:=afZ (d:=d) hk hc Bc hd
    cases b with
    | true=>
     simp only [Bc,yc,yq] at h;obtain ⟨rfl,rfl⟩:=h;refine .inr ⟨0,e,by simp [Instr.findNow,hs],rfl,hs,?_,?_⟩
     ·simp only [xi,aA];exact ⟨_,_,rfl,hc,SD⟩
     ·simp only [xi,List.set_cons_zero,aA];exact ⟨_,_,rfl,hx,Bb⟩
    | false=>
     simp only [Bc] at h
     cases hm:Cy vk vx ks vs with
     | none=>simp [hm] at h
     | some q=>
      obtain ⟨k1,v1⟩:=q;simp only [hm,yc,yq] at h;obtain ⟨rfl,rfl⟩:=h;rcases agZ hk hx hd ks vs es (i+1) k1 v1 SD Bb hm with ⟨g1,g2,g3⟩ | ⟨j,e0,g1,g2,g3,g4,g5⟩
      ·refine .inl ⟨by simp [Instr.findNow,hs,g1],?_,?_⟩
       ·simp only [xi,xk,aA];exact ⟨_,_,rfl,hc,g2⟩
       ·simp only [xi,xk,aA];exact ⟨_,_,rfl,hv,g3⟩
      ·refine .inr ⟨j+1,e0,?_,by simpa using g2,g3,?_,?_⟩
       ·simp only [Instr.findNow,hs,g1]
        grind
       ·simp only [xi,aA];exact ⟨_,_,rfl,hc,g4⟩
       ·simp only [xi,List.set_cons_succ,aA];exact ⟨_,_,rfl,hv,g5⟩
def F0 (w:yh) (g:Nat) (o:yaG):One w {w with heap:=w.heap.setIfInBounds g o} g:=
 ⟨rfl,rfl,rfl,by simp,fun b hb=>by simp [Array.getElem?_setIfInBounds_ne (fun e=>hb e.symm)]⟩
def Ob {g:Nat} {o q:yaG} (h:w.heap[g]? =some q):({w with heap:=w.heap.setIfInBounds g o}:yh).heap[g]? =some o:=by grind
def af4 {o:yZ} {t kt e:yt} {x k y:xu} {kk:Nat} {v:AV} {aw:Hp} {a6:Nat} (hH:fM O H) (ht:cA O m S w tm a.tmps) (hh:aX O m S w hp ct)
  (ho:o.op= .mapUpdate t x k y\/o.op= .insert t x k y) (hu:O.P.underlying t=some (.map kt e)) (zc:VE.keyOf O.P kt=some kk) (hv:dz tm hp ct (.qw kk (aT H x) (aT H k) (aT H y))=some (v,aw,a6)):Ah O m S w a hp ct o v aw a6:=by
 simp only [dz] at hv;have rx:=cL hH ht x;cases hx:aG tm (aT H x)<;>rw [hx] at hv rx<;>simp only [reduceCtorEq] at hv
 rename_i id;simp only [an] at rx;obtain ⟨p,hm,ex⟩:=rx
 split at hv
 case h_2=>cases hv
 rename_i ks vs hg
 cases hc:zO kk (aG tm (aT H k)) with
 | false=>simp [hc] at hv
 | true=>
  simp only [hc,Bool.not_true,yM] at hv
  cases bI:Cy (aG tm (aT H k)) (aG tm (aT H y)) ks vs with
  | none=>simp [bI] at hv
  | some q=>
   obtain ⟨kL,eH⟩:=q;simp only [bI,yc,yq] at hv;obtain ⟨rfl,rfl,rfl⟩:=hv;obtain ⟨d,kP,hZ,hd3⟩:=aey zc hc;obtain ⟨p',es,clock,g1,g2,g3,g4,g5,g6⟩:=hh.obj id _ _ hg hm;rw [hm] at g1;injection g1 with g1
   subst g1;have aDf:=agZ (d:=d) (cL hH ht k) (cL hH ht y) hd3 ks vs es.toList 0 kL eH g3 g4 bI
   have fin:∀(Fm:Array uz) (c':Nat),(Instr.mapUpdate t (a.eval x) (a.eval k) (a.eval y)).run O.P w= .ok () {w with heap:=w.heap.setIfInBounds p.b (.map Fm c')}->
     aA O.aj m S w kL (Fm.toList.map (·.key))->aA O.aj m S w eH (Fm.toList.map (·.val))->Ah O m S w a hp ct o (.af []) (bf hp id (.mp true kL eH)) ct:=by
    intro Fm c' gN h1 h2
    have aY:fS S w {w with heap:=w.heap.setIfInBounds p.b (.map Fm c')}:=fun b hb=>(F0 w p.b _).other b (fun e=>g5 rfl (e▸hb))
    have oT:fF O m S {w with heap:=w.heap.setIfInBounds p.b (.map Fm c')} id (.mp true kL eH):=
     ⟨p,Fm,c',hm,Ob g2,ib (fun _ _ h=>h) (fun _ h=>h) aY _ _ h1,ib (fun _ _ h=>h) (fun _ h=>h) aY _ _ h2,fun _=>g5 rfl,by simp⟩
    obtain ⟨e1,e2⟩:=Kn hh hg hm (g5 rfl) (F0 w p.b _) oT (fun r hr=>by rw [g2] at hr;cases hr);refine ⟨.skip,undef,_,m,S,?_,.inr ⟨rfl,rfl⟩,e1,by simp [an,aA,undef],dN.refl,e2⟩;rcases ho with ho | ho<;>simp [execOp,ho,gN]
   have rL:=N3 (P:=O.P) (w:=w) kP hZ false (a.eval k);rcases aDf with ⟨h1,h2,h3⟩ | ⟨j,e0,h1,h2,h3,h4,h5⟩
   ·refine fin (es.push ⟨a.eval k,a.eval y,clock⟩) (clock+1) ?_ (by simpa using h2) (by simpa using h3);rw [ex];simp [Instr.mapUpdate,run_underlying hu,MapKept.run_getObj_map g2,rL,Instr.findKey,run_underlying kP,h1,MapKept.run_setObj_map _ g2]
   ·have hj:es[j]? =some e0:=by simp_all
    simp only [yd] at h1;have al5:=aeC h3
    refine fin (es.modify j fun e=>{e with key:=a.eval k,val:=a.eval y}) clock ?_ ?_ ?_
    ·rw [ex];have hsb:Instr.sameBits 10000 (a.eval k) (a.eval k)=true:=by have:=sameBits_self h3 10000;rwa [<-al5] at this
     simp [Instr.mapUpdate,run_underlying hu,MapKept.run_getObj_map g2,rL,Instr.findKey,run_underlying kP,h1,MapKept.run_setObj_map _ g2,hj,Instr.keyThatStays,hsb,al5.symm]
    ·have:(es.modify j fun e=>{e with key:=a.eval k,val:=a.eval y}).toList.map (·.key)=es.toList.map (·.key):=by
      apply yat
      grind
     grind
    ·have:(es.modify j fun e=>{e with key:=a.eval k,val:=a.eval y}).toList.map (·.val)=(es.toList.map (·.val)).set j (a.eval y):=by
      apply yat
      grind
     grind
def avT (t:ByteArray) (i:Nat):(t.get! i).toNat=(t.data.toList.map xf).getD i 0:=by
 have:t.get! i=t.data[i]! :=by cases t;rfl
 rw [this];by_cases h:i<t.data.size
 ·grind
 ·simp only [Array.getElem!_eq_getD,Array.getD_eq_getD_getElem?,List.getD_eq_getElem?_getD,List.getElem?_map,Array.getElem?_toList];rw [Array.getElem?_eq_none (by omega)];rfl
def arV (t:ByteArray) (i:Nat):decodeL (t.data.toList.map xf) i=Utf8.decode t i:=by
 have eY:(t.data.toList.map xf).length=t.size:=by simp
 simp only [decodeL,Utf8.decode,avT,eY]
def atL {o:yZ} {x:xu} {v:AV} {aw:Hp} {a6:Nat} (hH:fM O H) (ht:cA O m S w tm a.tmps) (hh:aX O m S w hp ct)
  (ho:o.op= .next x true) (hv:dz tm hp ct (.qC (aT H x))=some (v,aw,a6)):Ah O m S w a hp ct o v aw a6:=by
 simp only [dz] at hv;have rx:=cL hH ht x;cases hx:aG tm (aT H x)<;>rw [hx] at hv rx<;>simp only [reduceCtorEq] at hv
 rename_i id;simp only [an] at rx;obtain ⟨p,hm,ex⟩:=rx
 split at hv
 case h_2=>cases hv
 rename_i s pos hg;obtain ⟨p',t,g1,g2,g3,g4⟩:=hh.obj id _ _ hg hm;rw [hm] at g1;injection g1 with g1
 subst g1;have aF:(getObj p.b).run O.P w= .ok (.stringIter t pos) w:=by simp [getObj,Sem.run,g2]
 have hlen:s.length=t.size:=by rw [<-g3];simp
 cases hc:yL pos s.length with
 | false=>
  rw [hc] at hv;simp only [yM,yc,yq] at hv;obtain ⟨rfl,rfl,rfl⟩:=hv;have aZ:¬pos<t.size:=by
   intro h
   have:yL pos s.length=true:=by simp [yL];omega
   grind
  refine ⟨.value (.tuple #[.bool false]),.tuple #[.bool false],w,m,S,?_,.inl rfl,hh,by simp [an,aA],dN.refl,cC.refl⟩;simp [execOp,ho,ex,Instr.next,aF,aZ]
 | true=>
  rw [hc] at hv;simp only [yB] at hv;have aZ:pos<t.size:=by
   simp_all
  cases hdc:decodeL s pos with | mk c wd=>
  rw [hdc] at hv;simp only [yc,yq] at hv;obtain ⟨rfl,rfl,rfl⟩:=hv;have hd:Utf8.decode t pos=(c,wd):=by rw [<-arV,g3,hdc]
  have oT:fF O m S {w with heap:=w.heap.setIfInBounds p.b (.stringIter t (pos+wd))} id (.si s (pos+wd)):=⟨p,t,hm,Ob g2,g3,g4⟩;obtain ⟨e1,e2⟩:=Kn hh hg hm g4 (F0 w p.b _) oT (fun r hr=>by rw [g2] at hr;cases hr);refine ⟨.value (.tuple #[.bool true,goInt pos,.int .i32 c]),_,_,m,S,?_,.inl rfl,e1,by simp [an,aA,goInt],dN.refl,e2⟩
  have bf:(setObj p.b (.stringIter t (pos+wd))).run O.P w= .ok () {w with heap:=w.heap.setIfInBounds p.b (.stringIter t (pos+wd))}:=by simp [setObj,Sem.run,g2]
  simp [execOp,ho,ex,Instr.next,aF,aZ,hd,bf]
end
end
end VE
