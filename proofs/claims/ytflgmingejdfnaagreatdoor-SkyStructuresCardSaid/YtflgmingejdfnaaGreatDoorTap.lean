import Derived.Test.YtflgmingejdfnaaGreatDoorTao
import Derived.Test.YtflgmingejdfnaaGreatDoorTak
set_option linter.all false
set_option maxRecDepth 100000
open Bool renaming false_eq_true→yq,false_or→yak
open Go renaming DataW→yY,Field→vK,FloatKind→w8,IntKind→yG,MemPlace→xF,Program→yJ,TypeId→yj,Value→yd,World→yf
open Int renaming emod_emod→yaE,reduceEq→ss,tmod_eq_emod_of_nonneg→xp
open List renaming any_cons→yal,cons_append→yH,drop_eq_getElem_cons→yT,drop_eq_nil_of_le→xr,drop_zero→vc,eq_nil_of_length_eq_zero→yB,flatMap_def→tL,getD_eq_getElem?_getD→xD,length→yaK,length_append→yW,length_cons→yx,length_map→yL,length_singleton→uB,length_take→yN,mapM_cons→wS,map_cons→yP,mem_cons_of_mem→xU,mem_cons_self→wJ,mem_map→wZ,replicate→yu,take_of_length_le→yF,take_succ_eq_append_getElem→wF
open Nat renaming add_mul→w7,add_sub_cancel→tq,add_zero→xH,beq→yk,beq_refl→y9,ble→yy,ble_eq_true_of_le→yt,blt→yA,le_div_iff_mul_le→uM,le_of_lt→uC,le_refl→yC,lt_of_mul_lt_mul_right→ug,min_eq_left→xX,mul_add→xY,mul_assoc→xZ,mul_comm→uJ,mul_le_mul_left→xn,mul_le_mul_right→xo,mul_one→yv,mul_zero→wz,not_lt_zero→w5,pow_succ→xq,reduceAdd→yc,reduceEqDiff→ya,reduceLT→yV,reduceLeDiff→ym,zero_add→yp
open Option renaming bind_eq_bind→wk,bind_some→xt,map_eq_some_iff→xG,pure_def→xO
open Option.some renaming injEq→yb
open Prod.mk renaming injEq→yg
namespace VE
section
open Go (IntKind)
abbrev ab (n:Int):AV:= .int .i64 n
def b4 (v:AV) (cs:List AV):Prop:=(v= .aa/\cs=[])\/∃e,v= .aB e cs.length cs
section
variable {v:AV} {cs:List AV} {hp:Hp}
def b4.len (h:b4 v cs) {hp:Hp}:fh hp 1 v=some (.int .i64 (cs.length:Nat)):=by
 rcases h with ⟨rfl,rfl⟩ | ⟨e,rfl⟩<;>rfl
def b4.pu (h:b4 v cs):aI v=true:=by
 rcases h with ⟨rfl,rfl⟩ | ⟨e,rfl⟩<;>rfl
def b4.aE (h:b4 v cs) (n:Nat) {hp:Hp}:freeze (n+1) hp v=some (v,hp):=by
 rcases h with ⟨rfl,rfl⟩ | ⟨e,rfl⟩<;>rfl
def b4.shut (h:b4 v cs):shut v=v:=by
 rcases h with ⟨rfl,rfl⟩ | ⟨e,rfl⟩<;>rfl
def b4.bW (h:b4 v cs):bW v=v:=by
 rcases h with ⟨rfl,rfl⟩ | ⟨e,rfl⟩<;>rfl
def b4.dI (h:b4 v cs) {hp:Hp}:result hp v=some v:=by
 rcases h with ⟨rfl,rfl⟩ | ⟨e,rfl⟩<;>rfl
def b4.bt (h:b4 v cs) {i:Nat} (hi:i<cs.length):fw 1 i v=some (.ay (cs[i]::cs.drop (i+1))):=by
 rcases h with ⟨rfl,rfl⟩ | ⟨e,rfl⟩
 ·grind
 ·rw [Ef e _ hi,yv,yT hi]
def b4.one (h:b4 v cs):cm v=true:=by
 rcases h with ⟨rfl,rfl⟩ | ⟨e,rfl⟩<;>rfl
def b4.cells (h:b4 v cs):cellsOf v=[v]:=by
 rcases h with ⟨rfl,rfl⟩ | ⟨e,rfl⟩<;>rfl
def sQ (e:Bool) (cs:List AV):b4 (.aB e cs.length cs) cs:= .inr ⟨e,rfl⟩
def ni:b4 .aa []:= .inl ⟨rfl,rfl⟩
end
def aX (v:AV) (l:List Int):Prop:=b4 v (l.map ab)
section
variable {v:AV} {l:List Int}
def aX.len (h:aX v l) {hp:Hp}:fh hp 1 v=some (.int .i64 (l.length:Nat)):=by
 have:=b4.len (hp:=hp) h
 grind
def aX.pu (h:aX v l):aI v=true:=b4.pu h
def aX.aE (h:aX v l) (n:Nat) {hp:Hp}:freeze (n+1) hp v=some (v,hp):=b4.aE h n
def aX.shut (h:aX v l):VE.shut v=v:=b4.shut h
def aX.bW (h:aX v l):VE.bW v=v:=b4.bW h
def aX.dI (h:aX v l) {hp:Hp}:result hp v=some v:=b4.dI h
def aX.one (h:aX v l):cm v=true:=b4.one h
def aX.cells (h:aX v l):cellsOf v=[v]:=b4.cells h
def aX.bt (h:aX v l) {i:Nat} (hi:i<l.length):fw 1 i v=some (.ay (.int .i64 l[i]::(l.map ab).drop (i+1))):=by
 have:=b4.bt h (i:=i) (by simpa using hi)
 grind
def gC (e:Bool) (l:List Int):aX (.aB e l.length (l.map ab)) l:=by
 have:=sQ e (l.map ab)
 rwa [yL] at this
end
def gJ {α β:Type} (p:α->β->Prop):List α->List β->Prop
 | [],[]=>True
 | a::r,b::s=>p a b/\gJ p r s
 | _,_=>False
section
variable {α β:Type} {p:α->β->Prop}
def gJ.len:∀{l:List α} {m:List β},gJ p l m->l.length=m.length
 | [],[],_=>rfl
 | _::_,_::_,h=>by rw [yx,yx,h.2.len]
def gJ.get:∀{l:List α} {m:List β} (_:gJ p l m) {i:Nat} (h1:i<l.length) (h2:i<m.length),p l[i] m[i]
 | a::r,b::s,h,0,_,_=>h.1
 | a::r,b::s,h,i+1,h1,h2=>by
  exact h.2.get (by simpa using h1) (by simpa using h2)
def gJ.append:∀{l l':List α} {m m':List β},gJ p l m->gJ p l' m'->gJ p (l++l') (m++m')
 | [],_,[],_,_,h=>h
 | _::_,_,_::_,_,h,k=>⟨h.1,h.2.append k⟩
end
def cf (v:AV) (s:List (List Int)):Prop:=∃rows,b4 v rows/\gJ aX rows s
section
variable {v:AV} {s:List (List Int)}
def cf.len (h:cf v s) {hp:Hp}:fh hp 1 v=some (.int .i64 (s.length:Nat)):=by
 obtain ⟨rows,h1,h2⟩:=h;rw [<-h2.len];exact h1.len
def cf.pu (h:cf v s):aI v=true:=by obtain ⟨rows,h1,h2⟩:=h;exact h1.pu
def cf.aE (h:cf v s) (n:Nat) {hp:Hp}:freeze (n+1) hp v=some (v,hp):=by obtain ⟨rows,h1,h2⟩:=h;exact h1.aE n
def cf.shut (h:cf v s):VE.shut v=v:=by obtain ⟨rows,h1,h2⟩:=h;exact h1.shut
def cf.bW (h:cf v s):VE.bW v=v:=by obtain ⟨rows,h1,h2⟩:=h;exact h1.bW
def cf.dI (h:cf v s) {hp:Hp}:result hp v=some v:=by obtain ⟨rows,h1,h2⟩:=h;exact h1.dI
def cf.one (h:cf v s):cm v=true:=by obtain ⟨rows,h1,h2⟩:=h;exact h1.one
def cf.cells (h:cf v s):cellsOf v=[v]:=by obtain ⟨rows,h1,h2⟩:=h;exact h1.cells
def cf.bt (h:cf v s) {i:Nat} (hi:i<s.length):∃r rest,aX r s[i]/\fw 1 i v=some (.ay (r::rest)):=by
 obtain ⟨rows,h1,h2⟩:=h;have dj:i<rows.length:=by rw [h2.len];exact hi
 exact ⟨_,_,h2.get dj hi,h1.bt dj⟩
def abx:cf .aa []:=⟨[],ni,trivial⟩
end
def wrap64 {n:Int} (h1: -9223372036854775808<=n) (h2:n<9223372036854775808):IntKind.wrap .i64 n=n:=by
 simp only [IntKind.wrap,IntKind.bits,IntKind.signed,Bool.true_and]
 grind
def wrapN {n:Nat} (h:n<9223372036854775808):IntKind.wrap .i64 (n:Int)=n:=wrap64 (by omega) (by omega)
end
section
open Go
section
variable {H:Type} {enc:yj×yd->H} {P:yJ} {w:yf} {base:Nat} {sp:Nat->Bool} {held:Bool}
def mapM_mem {α β:Type} {f:α->Option β}:∀{l:List α} {r:List β},l.mapM f=some r->∀y,y∈r->∃x,f x=some y
 | [],r,h,y,hy=>by simp only [List.mapM_nil,xO,yb] at h;subst h;cases hy
 | x::l,r,h,y,hy=>by
  rw [wS] at h
  cases h1:f x with
  | none=>simp [h1] at h
  | some z=>
   cases h2:l.mapM f with
   | none=>simp [h1,h2] at h
   | some zs=>
    simp only [h1,h2,xt,wk,xO,yb] at h;subst h;rcases List.mem_cons.1 hy with rfl | hy
    ·exact ⟨x,h1⟩
    ·exact mapM_mem h2 y hy
def Rd (enc:yj×yd->H) (P:yJ) (w:yf) (base:Nat) (sp:Nat->Bool) (held:Bool) (t:yj) (d:yY H):Prop:=∃a7 cs ps,DataW.trod enc P w base sp held a7 t cs=some (d,ps)
def agl {t:yj} {k:yG} {d:yY H} {n:Nat} (ht:P.underlying t=some (.int k)) (h:Rd enc P w base sp held t d):∃z,b8 P (n+1) t d=[.int k z]/\(Lit.int k z).wf=true:=by
 obtain ⟨a7,cs,ps,h⟩:=h
 cases a7 with
 | zero=>simp [DataW.trod] at h
 | succ a7=>
  unfold DataW.trod at h
  split at h
  all_goals first
   | (rename_i hu;rw [ht] at hu;cases hu;done)
   | skip
  ·rename_i k1 k2 z hu;rw [ht] at hu;injection hu with hu
   injection hu with hu
   subst hu
   split at h
   ·rename_i hk;simp only [yb,yg] at h;obtain ⟨rfl,rfl⟩:=h;exact ⟨z,by simp only [b8,ht],hk.2⟩
   ·cases h
  all_goals (cases h;done)
def aby {t e:yj} {d:yY H} {n:Nat} (ht:P.underlying t=some (.slice e)) (h:Rd enc P w base sp held t d):
  b8 P (n+1) t d=[.aa]\/∃(x:Bool) (gF:List (yY H)),b8 P (n+1) t d=[.aB x gF.length (gF.flatMap fun y=>b8 P n e y)]/\∀y,y∈gF->Rd enc P w base sp held e y:=by
 obtain ⟨a7,cs,ps,h⟩:=h
 cases a7 with
 | zero=>simp [DataW.trod] at h
 | succ a7=>
  unfold DataW.trod at h
  split at h
  all_goals first
   | (rename_i hu;rw [ht] at hu;cases hu;done)
   | skip
  ·simp only [yb,yg] at h;obtain ⟨rfl,rfl⟩:=h;exact .inl (by simp only [b8,ht])
  ·rename_i e' a len cap hu;rw [ht] at hu;injection hu with hu
   injection hu with hu
   subst hu;simp only at h
   split at h
   case isFalse=>cases h
   cases h1:(List.range len).mapM fun i=>(w.cells? base (a.add (i*P.cellsOf e)) (P.cellsOf e)).bind (DataW.trod enc P w base sp held a7 e) with
   | none=>rw [h1] at h;simp at h
   | some gF=>
    rw [h1] at h;simp only [xt] at h;obtain ⟨rest,_,h⟩:=xG.1 h;simp only [yg] at h;obtain ⟨rfl,rfl⟩:=h;refine .inr ⟨(rest.map (·.1)).isEmpty,gF.map (·.1),by simp only [b8,ht,yL],?_⟩;intro y hy;obtain ⟨p,hp,rfl⟩:=wZ.1 hy;obtain ⟨i,hi⟩:=mapM_mem h1 p hp;obtain ⟨cF,_,pC⟩:=Option.bind_eq_some_iff.1 hi;exact ⟨a7,cF,p.2,pC⟩
  all_goals (cases h;done)
def Zz {t:yj} {fs:Array vK} {d:yY H} {n:Nat} (ht:P.underlying t=some (.struct fs)) (h:Rd enc P w base sp held t d):
  ∃ds:List (yY H),ds.length=fs.toList.length/\b8 P (n+1) t d=(fs.toList.zip ds).flatMap (fun x=>b8 P n x.1.type x.2)/\∀i (h1:i<fs.toList.length) (h2:i<ds.length),Rd enc P w base sp held fs.toList[i].type ds[i]:=by
 obtain ⟨a7,cs,ps,h⟩:=h
 cases a7 with
 | zero=>simp [DataW.trod] at h
 | succ a7=>
  unfold DataW.trod at h
  split at h
  all_goals first
   | (rename_i hu;rw [ht] at hu;cases hu;done)
   | (cases h;done)
   | skip
  rename_i cs x1 CX fs' hu;rw [ht] at hu;injection hu with hu
  injection hu with hu
  subst hu
  split at h
  case isFalse=>cases h
  obtain ⟨xs,h1,h⟩:=xG.1 h;simp only [yg] at h;obtain ⟨rfl,rfl⟩:=h;refine ⟨xs.map (·.1),by simp [DH h1],by simp only [b8,ht],?_⟩;have key:∀{r:List vK} {xs:List (yY H×List xF)},r.mapM (fun f=>DataW.trod enc P w base sp held a7 f.type ((cs.drop f.offset).take (P.cellsOf f.type)))=some xs->
    ∀i (h1:i<r.length) (h2:i<(xs.map (·.1)).length),Rd enc P w base sp held r[i].type (xs.map (·.1))[i]:=by
   intro r
   induction r with
   | nil=>intro xs h i h1;exact absurd h1 (w5 i)
   | cons f r ih=>
    intro xs h i h1 h2;rw [wS] at h
    cases g1:DataW.trod enc P w base sp held a7 f.type ((cs.drop f.offset).take (P.cellsOf f.type)) with
    | none=>simp [g1] at h
    | some x=>
     cases g2:r.mapM (fun f=>DataW.trod enc P w base sp held a7 f.type ((cs.drop f.offset).take (P.cellsOf f.type))) with
     | none=>simp [g1,g2] at h
     | some ys=>
      simp only [g1,g2,xt,wk,xO,yb] at h;subst h
      cases i with
      | zero=>exact ⟨a7,_,x.2,g1⟩
      | succ i=>exact ih g2 i (by simpa using h1) (by simpa using h2)
  exact key h1
def abz {t e:yj} {k:Nat} {d:yY H} {n:Nat} (ht:P.underlying t=some (.array k e)) (h:Rd enc P w base sp held t d):
  ∃ds:List (yY H),ds.length=k/\b8 P (n+1) t d=ds.flatMap (fun x=>b8 P n e x)/\∀y,y∈ds->Rd enc P w base sp held e y:=by
 obtain ⟨a7,cs,ps,h⟩:=h
 cases a7 with
 | zero=>simp [DataW.trod] at h
 | succ a7=>
  unfold DataW.trod at h
  split at h
  all_goals first
   | (rename_i hu;rw [ht] at hu;cases hu;done)
   | (cases h;done)
   | skip
  rename_i cs x1 CX k' e' hu;rw [ht] at hu;injection hu with hu
  injection hu with lQ Gt
  subst lQ;subst Gt
  split at h
  case isFalse=>cases h
  obtain ⟨xs,h1,h⟩:=xG.1 h;simp only [yg] at h;obtain ⟨rfl,rfl⟩:=h;refine ⟨xs.map (·.1),by simp [DH h1],by simp only [b8,ht],fun y hy=>?_⟩;obtain ⟨p,hp,rfl⟩:=wZ.1 hy;obtain ⟨i,hi⟩:=mapM_mem h1 p hp;exact ⟨a7,_,p.2,hi⟩
end
end
section
open Go
inductive Ty
 | int (k:yG)
 | cx (k:w8)
 | bool
 | str
 | sl (e:Ty)
 | nil
 | cat (a b:Ty)
 | ar (n:Nat) (e:Ty)
def ji:Ty->List AV->Prop
 | .int k,l=>∃z,l=[.int k z]/\(Lit.int k z).wf=true
 | .cx k,l=>∃b,l=[.cx k b]
 | .bool,l=>∃b,l=[.bool b]
 | .str,l=>∃s:List Nat,l=[.str s]/\s.length<9223372036854775808/\∀c,c∈s->c<256
 | .sl e,l=>l=[.aa]\/∃(x:Bool) (ps:List (List AV)),l=[.aB x ps.length ps.flatten]/\∀p,p∈ps->ji e p
 | .nil,l=>l=[]
 | .cat a b,l=>∃x y,l=x++y/\ji a x/\ji b y
 | .ar n e,l=>∃ps:List (List AV),ps.length=n/\l=ps.flatten/\∀p,p∈ps->ji e p
def jw:List (Option Ty)->Option Ty
 | []=>some .nil
 | some a::r=>match jw r with
  | some b=>some (.cat a b)
  | none=>none
 | none::_=>none
def eB (P:yJ):Nat->yj->Option Ty
 | 0,_=>none
 | n+1,t=>
  match P.underlying t with
  | some .bool=>some .bool
  | some (.int k)=>some (.int k)
  | some (.float k)=>some (.cx k)
  | some .string=>some .str
  | some (.slice e)=>(eB P n e).map .sl
  | some (.struct fs)=>jw (fs.toList.map fun f=>eB P n f.type)
  | some (.array k e)=>(eB P n e).map (.ar k)
  | _=>none
section
variable {H:Type} {enc:yj×yd->H} {P:yJ} {w:yf} {base:Nat} {sp:Nat->Bool} {held:Bool}
def agm {t:yj} {k:w8} {d:yY H} {n:Nat} (ht:P.underlying t=some (.float k)) (h:Rd enc P w base sp held t d):∃b,b8 P (n+1) t d=[.cx k b]:=by
 obtain ⟨a7,cs,ps,h⟩:=h
 cases a7 with
 | zero=>simp [DataW.trod] at h
 | succ a7=>
  unfold DataW.trod at h
  split at h
  all_goals first
   | (rename_i hu;rw [ht] at hu;cases hu;done)
   | skip
  ·rename_i k1 k2 z hu;rw [ht] at hu;injection hu with hu
   injection hu with hu
   subst hu
   split at h
   ·simp only [yb,yg] at h;obtain ⟨rfl,rfl⟩:=h;exact ⟨z,by simp only [b8,ht]⟩
   ·cases h
  all_goals (cases h;done)
def adO {t:yj} {d:yY H} {n:Nat} (ht:P.underlying t=some .bool) (h:Rd enc P w base sp held t d):∃b,b8 P (n+1) t d=[.bool b]:=by
 obtain ⟨a7,cs,ps,h⟩:=h
 cases a7 with
 | zero=>simp [DataW.trod] at h
 | succ a7=>
  unfold DataW.trod at h
  split at h
  all_goals first
   | (rename_i hu;rw [ht] at hu;cases hu;done)
   | skip
  ·simp only [yb,yg] at h;obtain ⟨rfl,rfl⟩:=h;rename_i b _;exact ⟨b,by simp only [b8,ht]⟩
  all_goals (cases h;done)
def agn {t:yj} {d:yY H} {n:Nat} (ht:P.underlying t=some .string) (h:Rd enc P w base sp held t d):
  ∃s:List Nat,b8 P (n+1) t d=[.str s]/\s.length<9223372036854775808/\∀c,c∈s->c<256:=by
 obtain ⟨a7,cs,ps,h⟩:=h
 cases a7 with
 | zero=>simp [DataW.trod] at h
 | succ a7=>
  unfold DataW.trod at h
  split at h
  all_goals first
   | (rename_i hu;rw [ht] at hu;cases hu;done)
   | skip
  ·rename_i s hu
   split at h
   ·rename_i hs;simp only [yb,yg] at h;obtain ⟨rfl,rfl⟩:=h;refine ⟨_,by simp only [b8,ht];rfl,?_,fun c hc=>?_⟩
    ·simp only [yL,Array.length_toList];have h1:s.size<=9223372036854775807:=hs;have h2:s.data.size=s.size:=rfl;omega
    ·obtain ⟨b,_,rfl⟩:=wZ.1 hc;exact b.toNat_lt
   ·cases h
  all_goals (cases h;done)
def MM {n:Nat} (ih:∀{t:yj} {T:Ty} {d:yY H},eB P n t=some T->Rd enc P w base sp held t d->ji T (b8 P n t d)):
  ∀(fs:List vK) (ds:List (yY H)) (T:Ty),jw (fs.map fun f=>eB P n f.type)=some T->ds.length=fs.length->(∀i (h1:i<fs.length) (h2:i<ds.length),Rd enc P w base sp held fs[i].type ds[i])->
   ji T ((fs.zip ds).flatMap fun x=>b8 P n x.1.type x.2)
 | [],ds,T,hT,_,_=>by
  simp only [List.map_nil,jw,yb] at hT;subst hT;simp [ji]
 | f::fs,[],T,_,hl,_=>by simp at hl
 | f::fs,d::ds,T,hT,hl,hr=>by
  simp only [yP] at hT
  cases h1:eB P n f.type with
  | none=>simp [h1,jw] at hT
  | some a=>
   cases h2:jw (fs.map fun f=>eB P n f.type) with
   | none=>simp [h1,h2,jw] at hT
   | some b=>
    simp only [h1,h2,jw,yb] at hT;subst hT;simp only [List.zip_cons_cons,List.flatMap_cons];exact ⟨_,_,rfl,ih h1 (hr 0 (by simp) (by simp)),MM ih fs ds b h2 (by simpa using hl) (fun i h1 h2=>hr (i+1) (by simpa using h1) (by simpa using h2))⟩
def Q3:∀(n:Nat) {t:yj} {T:Ty} {d:yY H},eB P n t=some T->Rd enc P w base sp held t d->ji T (b8 P n t d)
 | 0,t,T,d,hT,_=>by simp [eB] at hT
 | n+1,t,T,d,hT,hr=>by
  have ih:=@Q3 n
  cases hu:P.underlying t with
  | none=>simp [eB,hu] at hT
  | some u=>
   cases u with
   | slice e=>
    simp only [eB,hu] at hT;obtain ⟨E,hE,rfl⟩:=xG.1 hT
    rcases aby (n:=n) hu hr with h | ⟨x,gF,h,hm⟩
    ·exact .inl h
    ·refine .inr ⟨x,gF.map (b8 P n e),by rw [h,yL,tL],fun p hp=>?_⟩;obtain ⟨y,hy,rfl⟩:=wZ.1 hp;exact ih hE (hm y hy)
   | struct fs=>
    simp only [eB,hu] at hT;obtain ⟨ds,e1,e2,e3⟩:=Zz (n:=n) hu hr;rw [e2];exact MM ih fs.toList ds T hT e1 e3
   | array k e=>
    simp only [eB,hu] at hT;obtain ⟨E,hE,rfl⟩:=xG.1 hT;obtain ⟨ds,e1,e2,e3⟩:=abz (n:=n) hu hr;refine ⟨ds.map (b8 P n e),by simp [e1],by rw [e2,tL],fun p hp=>?_⟩;obtain ⟨y,hy,rfl⟩:=wZ.1 hp;exact ih hE (e3 y hy)
   | int k=>
    simp only [eB,hu,yb] at hT;subst hT;exact agl hu hr
   | float k=>
    simp only [eB,hu,yb] at hT;subst hT;exact agm hu hr
   | bool=>
    simp only [eB,hu,yb] at hT;subst hT;exact adO hu hr
   | string=>
    simp only [eB,hu,yb] at hT;subst hT;exact agn hu hr
   | _=>simp [eB,hu] at hT
def zG:Ty->List AV->AV
 | .nil,l | .cat _ _,l | .ar _ _,l=> .agg l
 | _,l=>l.headD .undef
def ZA:∀{l:List (Option Ty)} {T:Ty},jw l=some T->∀x,zG T x= .agg x
 | [],T,h=>by simp only [jw,yb] at h;subst h;exact fun _=>rfl
 | none::r,T,h=>by simp [jw] at h
 | some a::r,T,h=>by
  cases h1:jw r with
  | none=>simp [jw,h1] at h
  | some b=>
   simp only [jw,h1,yb] at h;subst h;exact fun _=>rfl
def aif {n:Nat} {t:yj} {T:Ty} {d:yY H} (hT:eB P n t=some T):iG P n t d=zG T (b8 P n t d):=by
 cases n with
 | zero=>simp [eB] at hT
 | succ n=>
  cases hu:P.underlying t with
  | none=>simp [eB,hu] at hT
  | some u=>
   cases u with
   | slice e=>
    simp only [eB,hu] at hT;obtain ⟨E,hE,rfl⟩:=xG.1 hT;simp only [iG,hu,zG]
   | struct fs=>
    simp only [eB,hu] at hT;rw [ZA hT];simp only [iG,hu]
   | array k e=>
    simp only [eB,hu] at hT;obtain ⟨E,hE,rfl⟩:=xG.1 hT;simp only [iG,hu,zG]
   | _=>
    simp only [eB,hu,yb,reduceCtorEq] at hT<;>
    (subst hT
     simp only [iG,hu,zG])
def BO:List Ty->List (List AV)->List AV
 | T::Ts,l::ls=>zG T l::BO Ts ls
 | _,_=>[]
def Oq {n:Nat}:∀{ts:List yj} {Ts:List Ty} {vs:List yd} {ds:List (yY H)} {ps:List xF},(ts.map (eB P n))=Ts.map some->DataW.TrodAll enc P w base sp held ts vs ds ps->
  ∃ls,gJ ji Ts ls/\nC P n ts ds=BO Ts ls/\ds.length=ts.length
 | [],[],[],[],ps,_,_=>⟨[],trivial,rfl,rfl⟩
 | t::ts,T::Ts,v::vs,d::ds,ps,hT,⟨p,q,⟨a7,h1⟩,h2,_⟩=>by
  simp only [yP,List.cons.injEq] at hT;obtain ⟨ls,k1,k2,k3⟩:=Oq hT.2 h2;exact ⟨b8 P n t d::ls,⟨Q3 n hT.1 ⟨a7,_,_,h1⟩,k1⟩,by simp only [nC,BO,k2,aif hT.1],by simp [k3]⟩
 | [],_::_,_,_,_,h,_=>by simp at h
 | _::_,[],_,_,_,h,_=>by simp at h
 | [],[],_::_,_,_,_,h=>by simp [DataW.TrodAll] at h
 | [],[],[],_::_,_,_,h=>by simp [DataW.TrodAll] at h
 | _::_,_,[],_,_,_,h=>by simp [DataW.TrodAll] at h
 | _::_,_,_::_,[],_,_,h=>by simp [DataW.TrodAll] at h
def ago {α β:Type} {p:α->β->Prop} {a:α}:∀{l:List β},gJ p [a] l->∃x,l=[x]/\p a x
 | [x],h=>⟨x,rfl,h.1⟩
 | [],h=>h.elim
 | _::_::_,h=>h.2.elim
def agp {α β:Type} {p:α->β->Prop} {a b:α}:∀{l:List β},gJ p [a,b] l->∃x y,l=[x,y]/\p a x/\p b y
 | x::l,h=>let ⟨y,h1,h2⟩:=ago h.2;⟨x,y,by rw [h1],h.1,h2⟩
 | [],h=>h.elim
def agq {α β:Type} {p:α->β->Prop} {a b c:α}:∀{l:List β},gJ p [a,b,c] l->∃x y z,l=[x,y,z]/\p a x/\p b y/\p c z
 | x::l,h=>let ⟨y,z,h1,h2,h3⟩:=agp h.2;⟨x,y,z,by rw [h1],h.1,h2,h3⟩
 | [],h=>h.elim
end
end
section
open Go (IntKind)
abbrev Ju:Ty:= .sl (.int .i64)
abbrev Px:Ty:= .sl Ju
def Ot:∀{ps:List (List AV)},(∀p,p∈ps->ji (.int .i64) p)->∃zs:List Int,zs.length=ps.length/\ps.flatten=zs.map ab
 | [],_=>⟨[],rfl,rfl⟩
 | p::ps,h=>by
  obtain ⟨z,rfl,_⟩:=h p wJ;obtain ⟨zs,h1,h2⟩:=Ot (ps:=ps) (fun q hq=>h q (xU _ hq));exact ⟨z::zs,by simp [h1],by simp [h2]⟩
def abA {l:List AV} (h:ji Ju l):∃(v:AV) (zs:List Int),l=[v]/\aX v zs:=by
 rcases h with rfl | ⟨x,ps,rfl,h⟩
 ·exact ⟨_,[],rfl,ni⟩
 ·obtain ⟨zs,h1,h2⟩:=Ot h;refine ⟨_,zs,rfl,?_⟩;rw [h2,<-h1];exact gC x zs
def Ou:∀{ps:List (List AV)},(∀p,p∈ps->ji Ju p)->∃s:List (List Int),s.length=ps.length/\ps.flatten.length=ps.length/\gJ aX ps.flatten s
 | [],_=>⟨[],rfl,rfl,trivial⟩
 | p::ps,h=>by
  obtain ⟨v,zs,rfl,hv⟩:=abA (h p wJ);obtain ⟨s,h1,h2,h3⟩:=Ou (ps:=ps) (fun q hq=>h q (xU _ hq));exact ⟨zs::s,by simp [h1],by simp [h2],hv,h3⟩
def Yl {l:List AV} (h:ji Px l):∃(v:AV) (s:List (List Int)),l=[v]/\cf v s:=by
 rcases h with rfl | ⟨x,ps,rfl,h⟩
 ·exact ⟨_,[],rfl,abx⟩
 ·obtain ⟨s,h1,h2,h3⟩:=Ou h;refine ⟨_,s,rfl,ps.flatten,?_,h3⟩
  have:=sQ x ps.flatten
  rwa [h2] at this
end
section
def cu:List Int->Int
 | []=>0
 | a::r=>if a=0 then cu r else a
def XK {l:List Int} {i:Nat} (h:i<l.length):cu (l.drop i)=if l[i]=0 then cu (l.drop (i+1)) else l[i]:=by
 rw [yT h,cu]
def dz (lo hi:Int):List Int->Bool
 | []=>false
 | a::r=>if a<lo\/hi<a then true else dz lo hi r
def ZB {lo hi:Int} {l:List Int} {i:Nat} (h:i<l.length):dz lo hi (l.drop i)=if l[i]<lo\/hi<l[i] then true else dz lo hi (l.drop (i+1)):=by
 rw [yT h,dz]
def dZ (n:Nat) (lo hi:Int):List (List Int)->Int
 | []=>0
 | r::s=>if r.length≠n then 2 else if dz lo hi r=true then 3 else dZ n lo hi s
def MN {n:Nat} {lo hi:Int} {s:List (List Int)} {i:Nat} (h:i<s.length):
  dZ n lo hi (s.drop i)=if s[i].length≠n then 2 else if dz lo hi s[i]=true then 3 else dZ n lo hi (s.drop (i+1)):=by
 rw [yT h,dZ]
def cV (s:List (List Int)):Int:=if s.length=0 then 12 else if 16<s.length then 5 else dZ s.length (-1000) 1000 s
def Ie {lo hi:Int} {l:List Int} (h:dz lo hi l=false):∀i (dj:i<l.length),lo<=l[i]/\l[i]<=hi:=by
 induction l with
 | nil=>intro i dj;exact absurd dj (w5 _)
 | cons a r ih=>
  simp only [dz] at h
  grind
def ZC {lo hi:Int} {l:List Int} (h:dz lo hi l=false):∀i,dz lo hi (l.take i)=false:=by
 induction l with
 | nil=>intro i;simp [dz]
 | cons a r ih=>
  intro i;simp only [dz] at h
  split at h
  ·grind
  ·rename_i hc
   cases i with
   | zero=>simp [dz]
   | succ i=>simp only [List.take_succ_cons,dz,hc,yM,ih h i]
def bk (s:List (List Int)) (c r:Int):Int:=(s.getD (r%s.length).toNat []).getD (c%s.length).toNat 0
def adP {n m:Int} (h:0<m):(n.tmod m+m).tmod m=n%m:=by
 have e:n.tmod m=if 0<=n\/m∣n then n%m else n%m-m:=by
  grind
 have h1:=Int.emod_nonneg n (by omega:m≠0);rw [e]
 split
 ·rw [xp (by omega),Int.add_emod_right,yaE]
 ·rw [show n%m-m+m=n%m by omega,xp h1,yaE]
def mc {n:Nat} {lo hi:Int} {s:List (List Int)} (h:dZ n lo hi s=0):∀i (dj:i<s.length),s[i].length=n/\dz lo hi s[i]=false:=by
 induction s with
 | nil=>intro i dj;exact absurd dj (w5 _)
 | cons r s ih=>
  simp only [dZ] at h
  grind
end
section
def dv:List Int->Nat
 | []=>0
 | a::r=>a.toNat+1000000000*dv r
def iT:∀(a b:List Int),dv (a++b)=dv a+1000000000^a.length*dv b
 | [],b=>by simp [dv]
 | x::a,b=>by
  simp only [yH,dv,iT a b,yx,xq,xY]
  grind
def kw {l:List Int} (i:Nat):dv (l.take (i+1))=dv (l.take i)+1000000000^i*(l.getD i 0).toNat:=by
 by_cases h:i<l.length
 ·rw [wF h,iT,yN,xX (by omega)];simp [dv,xD,List.getElem?_eq_getElem h]
 ·rw [yF (by omega),yF (by omega)]
  grind
abbrev dg (l:List Int):Prop:=dz 0 999999999 l=false
def eU {a b:List Int}:dg (a++b)↔dg a/\dg b:=by
 induction a with
 | nil=>simp [dg,dz]
 | cons x a ih=>
  simp only [dg,yH,dz] at ih ⊢
  grind
def ig {x:Int}:dg [x]↔0<=x/\x<1000000000:=by
 simp only [dg,dz]
 grind
def fe {l:List Int} (h:dg l) (i:Nat):0<=l.getD i 0/\l.getD i 0<1000000000:=by
 by_cases hi:i<l.length
 ·have:=Ie h i hi
  grind
 ·grind
def qC {l:List Int} (h:dg l) (i:Nat):dg (l.take i):=ZC h i
def gG:∀{l:List Int},dg l->dv l<1000000000^l.length
 | [],_=>by simp [dv]
 | x::l,h=>by
  have h':dg ([x]++l):=h;obtain ⟨h1,h2⟩:=eU.1 h';have h1:=ig.1 h1
  have:=gG h2
  simp only [dv,yx,xq];omega
def cX:List Int->List Int
 | []=>[]
 | a::r=>match cX r with | []=>if a=0 then [] else [a] | t::q=>a::t::q
def AI:∀l:List Int,cX (l++[0])=cX l
 | []=>rfl
 | a::l=>by simp only [yH,cX,AI l]
def DB {a:Int} (h:a≠0):∀l:List Int,cX (l++[a])=l++[a]
 | []=>by simp [cX,h]
 | b::l=>by
  simp only [yH,cX,DB h l]
  cases hq:l++[a] with
  | nil=>simp at hq
  | cons t q=>rfl
def nj:∀l:List Int,dv (cX l)=dv l
 | []=>rfl
 | a::l=>by
  have ih:=nj l;simp only [cX,dv]
  split
  ·rename_i h;rw [h] at ih
   split
   ·rename_i h0;subst h0;simp [dv,<-ih]
   ·simp [dv,<-ih]
  ·rename_i t q h;rw [h] at ih;simp only [dv] at ih ⊢;omega
def oE:∀{l:List Int},dg l->dg (cX l)
 | [],_=>rfl
 | a::l,h=>by
  have h':dg ([a]++l):=h;obtain ⟨h1,h2⟩:=eU.1 h';have ih:=oE h2;simp only [cX]
  split
  ·grind
  ·rename_i t q hq;rw [hq] at ih
   exact (eU (a:=[a]) (b:=t::q)).2 ⟨h1,ih⟩
def DI:∀l:List Int,(cX l).length<=l.length
 | []=>yC _
 | a::l=>by
  have ih:=DI l;simp only [cX]
  grind
def snoc {α:Type} (l:List α):l=[]\/∃m a,l=m++[a]:=by
 rcases List.eq_nil_or_concat l with h | ⟨m,a,h⟩
 ·grind
 ·grind
def XL:∀(n:Nat) (l:List Int),l.length=n->cX (cX l)=cX l:=by
 intro n
 induction n with
 | zero=>intro l h;rw [yB h];rfl
 | succ n ih=>
  intro l h;rcases snoc l with rfl | ⟨m,a,rfl⟩
  ·rfl
  ·by_cases h0:a=0
   ·subst h0;rw [AI]
    grind
   ·rw [DB h0,DB h0]
def Ym (l:List Int):cX (cX l)=cX l:=XL _ l rfl
abbrev nz (l:List Int):Prop:=cX l=l
def sR (l:List Int):nz (cX l):=Ym l
def EW {l:List Int} (h:nz l) (hd:dg l) (h0:l≠[]):1000000000^(l.length-1)<=dv l:=by
 rcases snoc l with rfl | ⟨m,a,rfl⟩
 ·grind
 ·by_cases ha:a=0
  ·subst ha
   have:=DI m
   have e:=congrArg yaK h;rw [AI] at e
   grind
  ·rw [iT]
   have:=ig.1 (eU.1 hd).2
   simp only [dv,yW,uB,tq,wz,xH];have h1:1<=a.toNat:=by omega
   have:=xn (1000000000^m.length) h1
   omega
def Py {l:List Int} (h:nz l) (hd:dg l) (h0:dv l=0):l=[]:=by
 by_cases hl:l=[]
 ·grind
 ·have:=EW h hd hl
  grind
def I4 {a b:List Int} (ha:dg a) (hb:nz b) (db:dg b) (h:a.length<b.length):dv a<dv b:=by
 have h1:=gG ha;have h2:=EW hb db (fun e=>by subst e;simp at h);have h3:1000000000^a.length<=1000000000^(b.length-1):=Nat.pow_le_pow_right (by decide) (by omega);omega
def gl (m n:Nat):Int:=if m<n then -1 else if n<m then 1 else 0
def Q4 {l:List Int} {i:Nat} (h:i<l.length):dv l=dv (l.take i)+1000000000^i*(l[i].toNat+1000000000*dv (l.drop (i+1))):=by
 have e:l=l.take i++l[i]::l.drop (i+1):=by simp_all
 have:dv l=dv (l.take i++l[i]::l.drop (i+1)):=congrArg dv e
 rw [this,iT,yN,xX (by omega)];rfl
def Pz {a b:List Int} {i:Nat} (ha:dg a) (hb:dg b) (h1:i<a.length) (h2:i<b.length) (he:a.drop (i+1)=b.drop (i+1)) (h:a[i]<b[i]):dv a<dv b:=by
 rw [Q4 h1,Q4 h2,he];have hl:=gG (qC ha i);have g1:=Ie ha i h1;have h3:a[i].toNat+1000000000*dv (b.drop (i+1))+1<=b[i].toNat+1000000000*dv (b.drop (i+1)):=by omega
 have:=xn (1000000000^i) h3
 grind
def I5:∀{l:List Int} {j:Nat} {x:Int},j<l.length->dv (l.set j x)+1000000000^j*(l.getD j 0).toNat=dv l+1000000000^j*x.toNat
 | [],j,x,h=>by simp at h
 | a::l,0,x,_=>by simp [dv];omega
 | a::l,j+1,x,h=>by
  have ih:=I5 (l:=l) (j:=j) (x:=x) (by simpa using h);simp only [List.set_cons_succ,dv,List.getD_cons_succ,xq]
  grind
def Et {l:List Int} (h:dg l) {j:Nat} {x:Int} (hx:0<=x/\x<1000000000):dg (l.set j x):=by
 by_cases hj:j<l.length
 ·rw [List.set_eq_take_append_cons_drop,yS hj];have e:l=l.take (j+1)++l.drop (j+1):=(List.take_append_drop _ _).symm;have hd:dg (l.drop (j+1)):=by rw [e] at h;exact (eU.1 h).2
  exact eU.2 ⟨qC h j,(eU (a:=[x]) (b:=l.drop (j+1))).2 ⟨ig.2 hx,hd⟩⟩
 ·rw [List.set_eq_of_length_le (by omega)];exact h
def Ov {l:List Int} {j m:Nat} {x:Int} (h:m≠j):(l.set j x).getD m 0=l.getD m 0:=by grind
def abB {V0 V V' p q A X Y o c s:Nat} (hs:s=o+A*X+c) (aY:V'+p*q*o=V+p*q*(s%1000000000)) (hv:V+p*q*c=V0+p*(A*Y)):
  V'+p*(q*1000000000)*(s/1000000000)=V0+p*(A*(Y+q*X)):=by
 have e:=Nat.mod_add_div s 1000000000;have e2:p*q*s=p*q*(s%1000000000)+p*(q*1000000000)*(s/1000000000):=by
  conv=>lhs;rw [<-e]
  rw [xY,<-xZ (p*q),<-xZ p q]
 have e3:p*q*s=p*q*o+p*q*(A*X)+p*q*c:=by rw [hs,xY,xY]
 have e4:p*(A*(Y+q*X))=p*(A*Y)+p*q*(A*X):=by
  rw [xY,xY,xZ p q,<-xZ A q X,uJ A q,xZ q A X]
 omega
def Ow (n:Nat):dv (yu n 0)=0:=by
 induction n with
 | zero=>rfl
 | succ n ih=>simp [List.replicate_succ,dv,ih]
def Ox (n:Nat):dg (yu n 0):=by
 induction n with
 | zero=>rfl
 | succ n ih=>exact (eU (a:=[0]) (b:=yu n 0)).2 ⟨by decide,ih⟩
end
section
def bv (b:Nat):List Nat->Nat
 | []=>0
 | a::r=>a+b*bv b r
def lo (b:Nat) (l:List Nat):Prop:=∀x,x∈l->x<b
section
variable {b:Nat}
def Q5 (a:Nat):bv b [a]=a:=by simp [bv]
def DJ:∀(l m:List Nat),bv b (l++m)=bv b l+b^l.length*bv b m
 | [],m=>by simp [bv]
 | x::l,m=>by
  simp only [yH,bv,DJ l m,yx,xq,xY]
  grind
def gd {l:List Nat} {i:Nat} (h:i<l.length):l[i]=l.getD i 0:=by simp_all
def agr {l:List Nat} {i:Nat} (h:l.length<=i):l.getD i 0=0:=by simp_all
def A5 {l:List Nat} (i:Nat):bv b (l.take (i+1))=bv b (l.take i)+b^i*l.getD i 0:=by
 by_cases h:i<l.length
 ·rw [wF h,DJ,yN,xX (by omega),Q5,gd h]
 ·rw [yF (by omega),yF (by omega),agr (by omega),wz,xH]
def Bs (hb:0<b) {l:List Nat} (h:lo b l) (i:Nat):l.getD i 0<b:=by
 by_cases hi:i<l.length
 ·rw [<-gd hi];exact h _ (List.getElem_mem hi)
 ·grind
def PA {l:List Nat} (h:lo b l) (i:Nat):lo b (l.take i):=fun x hx=>h x (List.mem_of_mem_take hx)
def Jv:∀{l:List Nat},lo b l->bv b l<b^l.length
 | [],_=>by simp [bv]
 | x::l,h=>by
  have h1:=h x (by simp);have h2:=Jv (l:=l) (fun y hy=>h y (by simp [hy]));simp only [bv,yx,xq,uJ _ b]
  have:=xn b (show bv b l+1<=b^l.length from h2)
  grind
def jP:List Nat->List Nat
 | []=>[]
 | a::r=>match jP r with | []=>if a=0 then [] else [a] | t::q=>a::t::q
def Hh:∀l:List Nat,jP (l++[0])=jP l
 | []=>rfl
 | a::l=>by simp only [yH,jP,Hh l]
def Hi {a:Nat} (h:a≠0):∀l:List Nat,jP (l++[a])=l++[a]
 | []=>by simp [jP,h]
 | b::l=>by
  simp only [yH,jP,Hi h l]
  cases hq:l++[a] with
  | nil=>simp at hq
  | cons t q=>rfl
abbrev od (l:List Nat):Prop:=jP l=l
def Yn:∀(n:Nat) (l:List Nat),l.length=n->∃i,i<=n/\jP l=l.take i/\od (l.take i)/\bv b (l.take i)=bv b l:=by
 intro n
 induction n with
 | zero=>intro l h;rw [yB h];exact ⟨0,yC _,rfl,rfl,rfl⟩
 | succ n ih=>
  intro l h;rcases snoc l with rfl | ⟨m,a,rfl⟩
  ·grind
  ·have hm:m.length=n:=by simp_all
   by_cases h0:a=0
   ·subst h0;obtain ⟨i,h1,h2,h3,h4⟩:=ih m hm;have e:(m++[0]).take i=m.take i:=by grind
    refine ⟨i,by omega,by rw [Hh,h2,e],by rw [e];exact h3,?_⟩
    rw [e,h4,DJ];simp [bv]
   ·have e:(m++[a]).take (n+1)=m++[a]:=yF (by simp [hm]);exact ⟨n+1,yC _,by rw [e,Hi h0],by rw [e];exact Hi h0 m,by rw [e]⟩
def ZD (l:List Nat):∃i,i<=l.length/\jP l=l.take i/\od (jP l)/\bv b (jP l)=bv b l:=by
 obtain ⟨i,h1,h2,h3,h4⟩:=Yn (b:=b) l.length l rfl
 grind
def ZE (l:List Nat):(jP l).length<=l.length:=by
 obtain ⟨i,_,h2,_⟩:=ZD (b:=2) l
 grind
def abC {l:List Nat} (h:od l) (h0:l≠[]):l.getD (l.length-1) 0≠0:=by
 rcases snoc l with rfl | ⟨m,a,rfl⟩
 ·grind
 ·intro ha
  have:a=0:=by
   grind
  subst this;have e:=congrArg yaK h;rw [Hh] at e
  have:=ZE m
  grind
def ags (hb:0<b) {l:List Nat} (h:od l) (h0:l≠[]):b^(l.length-1)<=bv b l:=by
 rcases snoc l with rfl | ⟨m,a,rfl⟩
 ·grind
 ·have ha:=abC h h0;simp [xD] at ha;rw [DJ,Q5];simp only [yW,uB,tq]
  have:=xn (b^m.length) (show 1<=a by omega)
  omega
def abD (hb:0<b) {l:List Nat} (h:od l) (h0:bv b l=0):l=[]:=by
 by_cases hl:l=[]
 ·grind
 ·have:=ags hb h hl
  grind
def MO {V v1 v2 vr U u0 u1 u2 ur p t r:Nat} (hV:V=(v1*b+v2)*p+vr) (hU:U=((u0*b+u1)*b+u2)*p+ur) (hur:ur<p)
  (ht:t*v1+r=u0*b+u1) (h:r*b+u2<t*v2):U/V<=t-1:=by
 have h1:U<t*V:=by
  have e:t*((v1*b+v2)*p)=((t*v1)*b+t*v2)*p:=by
   grind
  have h2:((u0*b+u1)*b+u2)+1<=(t*v1)*b+t*v2:=by rw [<-ht,w7];omega
  have h3:=xo p h2;rw [hV,hU,xY,e]
  grind
 have oe:0<V:=by
  grind
 have:=(Nat.div_lt_iff_lt_mul oe).2 h1
 omega
def NF {V v1 v2 vr U u0 u1 u2 ur p t r:Nat} (hb:0<b) (hV:V=(v1*b+v2)*p+vr) (K5:vr<p) (hU:U=((u0*b+u1)*b+u2)*p+ur) (eO:0<v1) (cT:v2<b) (iP:t<b)
  (ht:t*v1+r=u0*b+u1) (h:b<=r\/t*v2<=r*b+u2):t<=U/V+1:=by
 have h2:t*v2<=r*b+u2:=by
  rcases h with h | h
  ·have:=Nat.mul_le_mul (uC iP) (uC cT)
   have:=xo b h
   omega
  ·exact h
 have h3:t*(v1*b+v2)<=(u0*b+u1)*b+u2:=by
  rw [xY,<-xZ,<-ht,w7];omega
 have hp:0<p:=by omega
 have anr:b<=v1*b:=Nat.le_mul_of_pos_left b eO;have oe:0<V:=by
  have:=Nat.mul_pos (show 0<v1*b+v2 by omega) hp
  omega
 rcases Nat.eq_zero_or_pos t with h0 | h0
 ·grind
 ·obtain ⟨s,rfl⟩:∃s,t=s+1:=⟨t-1,by omega⟩;have h4:s*V<=U:=by
   have h5:V<=(v1*b+v2+1)*p:=by grind
   have h6:=xn s h5;have h7:s*(v1*b+v2+1)<=(s+1)*(v1*b+v2):=by
    grind
   have h8:=xo p (Nat.le_trans h7 h3)
   grind
  exact Nat.succ_le_succ ((uM oe).2 h4)
def Me {V v1 v2 vr U u0 u1 u2 ur p:Nat} (hV:V=(v1*b+v2)*p+vr) (hU:U=((u0*b+u1)*b+u2)*p+ur) (hur:ur<p) (Gt:u2<b) (eO:0<v1):U/V<=(u0*b+u1)/v1:=by
 by_cases oe:V=0
 ·grind
 ·refine (uM eO).2 ?_;have h1:=Nat.div_mul_le_self U V;generalize U/V=q at h1 ⊢;have h2:q*v1*(b*p)<=q*V:=by
   rw [hV,xZ]
   grind
  have h3:U<(u0*b+u1+1)*(b*p):=by
   have:(u0*b+u1)*b+u2+1<=(u0*b+u1+1)*b:=by grind
   have:=xo p this
   grind
  have h4:q*v1*(b*p)<(u0*b+u1+1)*(b*p):=by omega
  have:=ug h4
  omega
def NG {V v1 v2 vr U u0 u1 u2 ur p:Nat} (hV:V=(v1*b+v2)*p+vr) (hU:U=((u0*b+u1)*b+u2)*p+ur) (K5:vr<p) (cT:v2<b) (h:U<b*V):u0<=v1:=by
 refine Nat.le_of_lt_succ ?_;have h1:V<(v1+1)*(b*p):=by
  have:v1*b+v2+1<=(v1+1)*b:=by grind
  have:=xo p this
  grind
 have h2:u0*(b*(b*p))<=U:=by
  grind
 have h3:=xn b (uC h1);have e:b*((v1+1)*(b*p))=(v1+1)*(b*(b*p)):=by grind
 rw [e] at h3;have h4:u0*(b*(b*p))<(v1+1)*(b*(b*p)):=Nat.lt_of_le_of_lt h2 (Nat.lt_of_lt_of_le h h3);exact ug h4
end
end
section
open Go (IntKind)
section
variable {P:aF} {L:Lib}
abbrev aj (P:aF) (L:Lib) (f:Nat) (ap:List AV) (r:AV):Prop:=b5 P L (D P L) f ap=some r
def VZ (h:Has P L 30 rY) (n lo hi:Int):aj P L 30 [ab n,ab lo,ab hi] (ab (if n<lo\/hi<n then 3 else 0)):=by
 unfold aj;rw [aR h];by_cases h1:n<lo
 ·simp only [go_sem,ya,rY,h1,true_or,yR]
 ·by_cases h2:hi<n
  ·simp only [go_sem,ya,rY,h1,h2,or_true,yR]
  ·simp only [go_sem,ya,rY,h1,h2,or_self,yM]
def r9 (h:Has P L 31 pP) (b:Bool) (n:Int):aj P L 31 [.bool b,ab n] (ab (if b=true then n else 0)):=by
 unfold aj;rw [aR h]
 cases b with
 | true=>simp only [go_sem,ya,pP,yR]
 | false=>simp only [go_sem,ya,pP];rfl
def s34 (h:Has P L 34 rZ) (j8:Has P L 31 pP) (n lo hi:Int):aj P L 34 [ab n,ab lo,ab hi] (ab (if n<lo\/hi<n then 3 else 0)):=by
 unfold aj;rw [aR h];by_cases h1:n<lo
 ·simp only [go_sem,ya,rZ,h1,true_or,yR,r9 j8]
 ·by_cases h2:hi<n
  ·simp only [go_sem,ya,rZ,h1,h2,or_true,yR,r9 j8]
  ·simp only [go_sem,ya,rZ,h1,h2,or_self,yM,r9 j8];rfl
def Gu (h:Has P L 33 CO) {v:AV} {l:List Int} (hv:aX v l) (hl:l.length<=1000000):aj P L 33 [v] (ab (cu l)):=by
 unfold aj;rw [aR h];simp only [go_sem,ya,CO,hv.len];have key:=Ic (P:=P) (L:=L) (live:=[5,6,7]) (a:=EP)
  (I:=fun k s=>∃tm ct i,s=⟨tm,[],ct,0⟩/\ah tm 5=v/\ah tm 6=ab l.length/\ah tm 7=ab (i:Nat)/\i+k=l.length/\cu (l.drop i)=cu l)
  (Q:=fun ex s=>∃tm,s=⟨tm,[],0,0⟩/\((ex= .ret/\ah tm 2=ab (cu l))\/(ex= .exit 0/\cu l=0))) ?_ l.length
 ·generalize hq:D P L (.loop [5,6,7] EP) _=q;obtain ⟨ex,s,rfl,tm,rfl,h2⟩:=cW hq key ⟨_,_,0,rfl,rfl,rfl,rfl,by omega,rfl⟩;rcases h2 with ⟨rfl,h2⟩ | ⟨rfl,h2⟩
  ·simp only [go_sem,h2]
  ·rw [h2];simp only [go_sem]
 ·rintro k s ⟨tm,ct,i,rfl,h5,h6,h7,hk,hf⟩;rw [LW (by simp only [go_sem,h5,h6,h7,hv.pu])];simp only [go_sem,ya,h5,h6,h7,EP];by_cases hi:i<l.length
  ·have dj:(i:Int)<l.length:=by omega
   rw [XK hi] at hf;by_cases hz:l[i]=0
   ·left
    simp only [go_sem,ya,dj,hv.bt hi,hz];refine ⟨_,k-1,rfl,by omega,_,_,i+1,rfl,?_⟩;rw [wrap64 (by omega) (by omega)];rw [yS hz] at hf;simp only [go_sem,ya];exact ⟨trivial,trivial,rfl,by omega,hf⟩
   ·right
    simp only [go_sem,ya,dj,hv.bt hi,hz];rw [yE hz] at hf;refine ⟨_,_,rfl,by simp,_,rfl,.inl ⟨rfl,?_⟩⟩;simp only [go_sem,hf]
  ·right
   have dj:¬(i:Int)<l.length:=by omega
   simp only [go_sem,dj];refine ⟨_,_,rfl,by simp,_,rfl,.inr ⟨rfl,?_⟩⟩;rw [<-hf,xr (by omega)];rfl
def Ut (h:Has P L 134 rA) {n m:Int} (hm:0<m) (eu:m<=1000000):aj P L 134 [ab n,ab m] (ab (n%m)):=by
 unfold aj;rw [aR h];have h1:m≠0:=by omega
 have h2:n.tmod m<m:=Int.tmod_lt_of_pos n hm;have h3: -m<n.tmod m:=by
  have h:=Int.lt_tmod_of_pos n hm;omega
 simp only [go_sem,ya,rA,eJ _ _ _ h1,wrap64 (n:=n.tmod m+m) (by omega) (by omega),adP hm]
end
end
section
open Go (IntKind)
section
variable {P:aF} {L:Lib} {f:b9} {tm:Env} {hp:Hp} {ct:Nat}
def ZF (k:yG) (n:Int):cellsOf (.int k n)=[.int k n]:=(rfl)
def Yo (b:Bool):cellsOf (.bool b)=[.bool b]:=(rfl)
def ZG (s:List Nat):cellsOf (.str s)=[.str s]:=(rfl)
def Yp:cellsOf .aa=[.aa]:=(rfl)
def ZH (e:Bool) (n:Nat) (cs:List AV):cellsOf (.aB e n cs)=[.aB e n cs]:=(rfl)
def ZI (id o n:Nat):cellsOf (.au id o n)=[.au id o n]:=(rfl)
def ZJ (id o:Nat):cellsOf (.ptr id o)=[.ptr id o]:=(rfl)
def abE (g:Fr) (a b:List AV):cellsOf (.fn g a b)=[.fn g a b]:=(rfl)
def ZK (cs:List AV):cellsOf (.agg cs)=cs:=(rfl)
def Eg (k:yG) (n:Int):cm (.int k n)=true:=(rfl)
def abF (b:Bool):cm (.bool b)=true:=(rfl)
def adQ (s:List Nat):cm (.str s)=true:=(rfl)
def abG:cm .aa=true:=(rfl)
def adR (e:Bool) (n:Nat) (cs:List AV):cm (.aB e n cs)=true:=(rfl)
def adS (id o n:Nat):cm (.au id o n)=true:=(rfl)
def adT (id o:Nat):cm (.ptr id o)=true:=(rfl)
def agt (g:Fr) (a b:List AV):cm (.fn g a b)=true:=(rfl)
def abH:bY []=true:=(rfl)
def NH (v:AV) (r:List AV):bY (v::r)=(cm v&&bY r):=(rfl)
def ZL:az []=true:=(rfl)
def MP (v:AV) (r:List AV):az (v::r)=(aI v&&az r):=(rfl)
def agu (id o:Nat):aI (.ptr id o)=false:=(rfl)
def Q6 (id o n:Nat):aI (.au id o n)=false:=(rfl)
def aih (g:Nat) (a b:List AV):aI (.fn (.f g) a b)=(az a&&az b):=(rfl)
def ajN (l:Nat) (a b:List AV):aI (.fn (.y l) a b)=false:=(rfl)
def agv (cs:List AV):aI (.agg cs)=az cs:=(rfl)
def agw (cs:List AV):aI (.aw cs)=az cs:=(rfl)
def o8 (ct sz:Nat) (cs:List AV):Option (AV×Obj):=bif yk cs.length sz&&bY cs then some (.ptr ct 0,.cells true (az cs) true sz cs) else none
def agx (sz:Nat) (x:X):b6 tm hp ct (.box sz x)=o8 ct sz (cellsOf (aq tm x)):=rfl
def SS {v:AV} (h:cm v=true):o8 ct 1 [v]=some (.ptr ct 0,.cells true (aI v&&true) true 1 [v]):=by
 simp [o8,bY,az,h]
def bL {cs:List AV} {n:Nat} (hn:cs.length=n) (h:bY cs=true):o8 ct n cs=some (.ptr ct 0,.cells true (az cs) true n cs):=by
 subst hn;simp [o8,h]
def iQ (hp:Hp) (ct id o sz:Nat) (new:List AV) (q:Option Obj):eF:=
 match q with
 | some (.cells true pu ex z cs)=>bif yk new.length sz&&yy (o+sz) cs.length&&bY new then some (.aw [],aY hp id (.cells true (pu&&az new) ex z (over o new cs)),ct) else none
 | _=>none
def V1 (hp:Hp) (ct sz:Nat) (p:AV) (new:List AV):eF:=match p with | .ptr id o=>iQ hp ct id o sz new (ak hp id) | _=>none
def abI (sz:Nat) (x v:X):cg tm hp ct (.st sz x v)=V1 hp ct sz (aq tm x) (cellsOf (aq tm v)):=rfl
def aii (sz id o:Nat) (new:List AV):V1 hp ct sz (.ptr id o) new=iQ hp ct id o sz new (ak hp id):=rfl
def ajO {v u:AV} {id z:Nat} {pu ex:Bool} (h:cm v=true):iQ hp ct id 0 1 [v] (some (.cells true pu ex z [u]))=some (.aw [],aY hp id (.cells true (pu&&(aI v&&true)) ex z [v]),ct):=by
 simp [iQ,bY,az,h,over];rfl
def zh {new cs:List AV} {id o sz z:Nat} {pu ex:Bool} (h1:new.length=sz) (h2:o+sz<=cs.length) (h:bY new=true):
  iQ hp ct id o sz new (some (.cells true pu ex z cs))=some (.aw [],aY hp id (.cells true (pu&&az new) ex z (over o new cs)),ct):=by
 subst h1;simp [iQ,h,yt h2]
def EX (ct n sz:Nat) (q:Option (List AV)):Option (AV×Obj):=match q with | some cs=>bif yk cs.length (n*sz) then some (.au ct 0 n,.cells true (az cs) true sz cs) else none | none=>none
def adU (n sz:Nat) (z:List AV) (ps:List (Nat×Nat×X)):b6 tm hp ct (.bw n sz z ps)=EX ct n sz (fill tm z ps):=by
 simp only [b6,EX];cases fill tm z ps<;>rfl
def adV {n sz:Nat} {cs:List AV} (h:cs.length=n*sz):EX ct n sz (some cs)=some (.au ct 0 n,.cells true (az cs) true sz cs):=by
 simp [EX,h]
def BP (tm:Env) (cs:List AV) (o sz:Nat) (new:List AV) (r:List (Nat×Nat×X)):Option (List AV):=
 bif yk new.length sz&&yy (o+sz) cs.length&&bY new then fill tm (over o new cs) r else none
def abJ (cs:List AV):fill tm cs []=some cs:=rfl
def ZM (cs:List AV) (o sz:Nat) (x:X) (r:List (Nat×Nat×X)):fill tm cs ((o,sz,x)::r)=BP tm cs o sz (cellsOf (aq tm x)) r:=rfl
def adW {cs:List AV} {o:Nat} {v:AV} {r:List (Nat×Nat×X)} (h1:o+1<=cs.length) (h2:cm v=true):BP tm cs o 1 [v] r=fill tm (over o [v] cs) r:=by
 simp [BP,bY,h2,yt h1]
def aij (v u:AV) (r:List AV):over 0 [v] (u::r)=v::r:=rfl
def aik (v a u:AV) (r:List AV):over 1 [v] (a::u::r)=a::v::r:=rfl
def ail (v a b u:AV) (r:List AV):over 2 [v] (a::b::u::r)=a::b::v::r:=rfl
def aim (v a b c u:AV) (r:List AV):over 3 [v] (a::b::c::u::r)=a::b::c::v::r:=rfl
def ain (v a b c d u:AV) (r:List AV):over 4 [v] (a::b::c::d::u::r)=a::b::c::d::v::r:=rfl
def aio (v a b c d e u:AV) (r:List AV):over 5 [v] (a::b::c::d::e::u::r)=a::b::c::d::e::v::r:=rfl
def o9 (ct sz by':Nat) (zero:List AV) (l c:Option Nat):Option (AV×Obj):=
 match l,c with
 | some l,some c=>bif yy l c&&(yy c room&&(yy (c*by') room&&(yk zero.length sz&&bY zero))) then some (.au ct 0 l,.cells true (az zero) (yk l c) sz (yu l zero).flatten) else none
 | _,_=>none
def agy (sz by':Nat) (z:List AV) (l c:X):b6 tm hp ct (.eY sz by' z l c)=o9 ct sz by' z (cQ (aq tm l)) (cQ (aq tm c)):=by
 simp only [b6,o9]
 grind
def Bt {sz by' l:Nat} {z:List AV} (h1:l<=1099511627776) (h2:l*by'<=1099511627776) (h3:z.length=sz) (h4:bY z=true):
  o9 ct sz by' z (some l) (some l)=some (.au ct 0 l,.cells true (az z) true sz (yu l z).flatten):=by
 subst h3;simp [o9,h4,yt (show l<=room from h1),yt (show l*by'<=room from h2),yt (yC l)]
def rF (hp:Hp) (ct sz by':Nat) (s:AV) (src:Option (Nat×List AV)):eF:=
 match src with
 | none=>none
 | some (m,new)=>
  match s with
  | .aa=>
   bif yk m 0 then some (.aa,hp,ct)
   else bif yy m room&&(yy (m*by') room&&yA 0 sz) then some (.au ct 0 m,(ct,.cells true (az new) false sz new)::hp,ct+1) else none
  | .aB true n cs=>
   bif yk m 0 then some (.aB true n cs,hp,ct)
   else bif yy (n+m) room&&(yy ((n+m)*by') room&&(yk cs.length (n*sz)&&yA 0 sz)) then some (.au ct 0 (n+m),(ct,.cells true (az cs&&az new) false sz (cs++new))::hp,ct+1) else none
  | .au id o n=>
   match ak hp id with
   | some (.cells true pu _ z cs)=>
    bif yk z sz&&(yy (n+m) room&&(yy ((n+m)*by') room&&(yy (o+n*sz) cs.length&&(yA 0 sz&&bY new)))) then
     some (.au ct 0 (n+m),(ct,.cells true (pu&&az new) false sz (slice o (n*sz) cs++new))::cw hp id,ct+1)
    else none
   | _=>none
  | _=>none
def ZN (sz by':Nat) (s x:X):cg tm hp ct (.cy sz by' s x)=rF hp ct sz by' (aq tm s) (nt hp sz (aq tm x)):=by
 simp only [cg,rF]
 cases nt hp sz (aq tm x) with
 | none=>rfl
 | some q=>obtain ⟨m,new⟩:=q;cases aq tm s<;>rfl
def Yq (sz id o n:Nat):nt hp sz (.au id o n)=lj hp sz (.au id o n):=rfl
def Yr (sz:Nat) (e:Bool) (n:Nat) (cs:List AV):nt hp sz (.aB e n cs)=lj hp sz (.aB e n cs):=rfl
def XM (sz:Nat):nt hp sz .aa=some (0,[]):=rfl
def V2 (o n sz:Nat) (q:Option Obj):Option (Nat×List AV):=match q with | some (.cells _ _ _ _ cs)=>bif yy (o+n*sz) cs.length then some (n,slice o (n*sz) cs) else none | _=>none
def XN (sz id o n:Nat):lj hp sz (.au id o n)=V2 o n sz (ak hp id):=rfl
def aip (rw pu ex:Bool) (z:Nat) (v:AV):V2 0 1 1 (some (.cells rw pu ex z [v]))=some (1,[v]):=rfl
def jH {sz by':Nat} {new:List AV} {m:Nat} (hm:0<m) (h1:m<=1099511627776) (h2:m*by'<=1099511627776) (hs:0<sz):
  rF hp ct sz by' .aa (some (m,new))=some (.au ct 0 m,(ct,.cells true (az new) false sz new)::hp,ct+1):=by
 have e1:yk m 0=false:=cD (by omega);have e2:yA 0 sz=true:=yt hs;simp [rF,e1,e2,yt (show m<=room from h1),yt (show m*by'<=room from h2)]
def jn {sz by' id n m:Nat} {pu ex:Bool} {cs new:List AV} (hg:ak hp id=some (.cells true pu ex sz cs)) (hl:cs.length=n*sz) (h1:n+m<=1099511627776) (h2:(n+m)*by'<=1099511627776) (hs:0<sz) (ho:bY new=true):
  rF hp ct sz by' (.au id 0 n) (some (m,new))=some (.au ct 0 (n+m),(ct,.cells true (pu&&az new) false sz (cs++new))::cw hp id,ct+1):=by
 have e2:yA 0 sz=true:=yt hs;simp only [rF,hg];simp [e2,ho,yt (show n+m<=room from h1),yt (show (n+m)*by'<=room from h2),<-hl,slice,yt (yC cs.length)]
def Uu (n:Nat) (g:Nat) (cap:List AV) (q:Option (List AV×Hp)):Option (AV×Hp):=match q with | some (first,hp)=>(match bS n hp cap with | some (E2,lI)=>some (.fn (.f g) first E2,lI) | none=>none) | none=>none
def Uv (g:Nat) (first:List AV) (q:Option (List AV×Hp)):Option (AV×Hp):=match q with | some (cap,hp)=>some (.fn (.f g) first cap,hp) | none=>none
def agz (n g:Nat) (first cap:List AV):freeze (n+1) hp (.fn (.f g) first cap)=Uu n g cap (bS n hp first):=rfl
def agA (n g:Nat) (first cap:List AV):Uu n g cap (some (first,hp))=Uv g first (bS n hp cap):=rfl
def agB (g:Nat) (first cap:List AV):Uv g first (some (cap,hp))=some (.fn (.f g) first cap,hp):=rfl
def Uw (o:Nat) (q:Option (Bool×Nat×List AV×Hp)):Option (AV×Hp):=match q with | some (_,_,cs,hp)=>some (.ay (cs.drop o),hp) | none=>none
def adX (n id o:Nat):freeze (n+1) hp (.ptr id o)=Uw o (lZ n hp id):=rfl
def agC (o:Nat) (ex:Bool) (sz:Nat) (cs:List AV):Uw o (some (ex,sz,cs,hp))=some (.ay (cs.drop o),hp):=rfl
def jT (o k:Nat) (q:Option (Bool×Nat×List AV×Hp)):Option (AV×Hp):=
 match q with
 | some (ex,sz,cs,hp)=>bif yy (o+k*sz) cs.length then some (.aB (ex&&yA 0 sz&&yk (o+k*sz) cs.length) k (slice o (k*sz) cs),hp) else none
 | none=>none
def IF (n id o k:Nat):freeze (n+1) hp (.au id o k)=jT o k (lZ n hp id):=rfl
def jl {sz k:Nat} {cs:List AV} (ex:Bool) (hl:cs.length=k*sz) (hs:0<sz):jT 0 k (some (ex,sz,cs,hp))=some (.aB ex k cs,hp):=by
 have e2:yA 0 sz=true:=yt hs;simp [jT,<-hl,e2,slice,yt (yC cs.length)]
def Ch (n id:Nat) (hp:Hp) (q:Option Obj):Option (Bool×Nat×List AV×Hp):=
 match q with
 | some (.cells rw pu ex sz cs)=>
  bif pu then some (ex,sz,cs,bif rw then aY hp id (.cells false true ex sz cs) else hp)
  else match bS n hp cs with
   | some (cF,ai)=>some (ex,sz,cF,aY ai id (.cells false false ex sz cs))
   | none=>none
 | _=>none
def IG (n id:Nat):lZ (n+1) hp id=Ch n id hp (ak hp id):=rfl
def Q7 (n id:Nat) (ex:Bool) (sz:Nat) (cs:List AV):Ch n id hp (some (.cells true true ex sz cs))=some (ex,sz,cs,aY hp id (.cells false true ex sz cs)):=rfl
def Q8 (n id:Nat) (ex:Bool) (sz:Nat) (cs:List AV):Ch n id hp (some (.cells false true ex sz cs))=some (ex,sz,cs,hp):=rfl
def df (n:Nat) (cs:List AV) (h:bS n hp cs=some (cs,hp)):freeze (n+1) hp (.agg cs)=some (.agg cs,hp):=by
 simp only [freeze,h]
def Ys {id n sz:Nat} {ex:Bool} {cs:List AV} (hg:ak hp id=some (.cells true true ex sz cs)) (hl:cs.length=n*sz) (hs:0<sz):result hp (.au id 0 n)=some (.bX ex sz n cs):=by
 have e2:yA 0 sz=true:=yt hs;simp only [result,oJ,hg,yp,<-hl,yt (yC cs.length),yi,e2,Bool.and_true,slice,vc,List.take_length]
 simp
def Xd (b:Bool):result hp (.aw [.aa,.bool b])=some (.aw [.aa,.bool b]):=rfl
def Xe (k:yG) (b:Int):result hp (.aw [.aa,.int k b])=some (.aw [.aa,.int k b]):=rfl
def Xf (e:Bool) (n:Nat) (cs:List AV) (k:yG) (b:Int):result hp (.aw [.aB e n cs,.int k b])=some (.aw [.aB e n cs,.int k b]):=rfl
def ZO (s:St):kC [] s=some s:=rfl
def K6 (t:Nat) (r:List Nat) (tm:Env) (ct base:Nat) (q:Option (AV×Hp)):Option St:=match q with | some (v,hp)=>kC r ⟨(t,v)::tm,hp,ct,base⟩ | none=>none
def Yt (t:Nat) (r:List Nat) (tm:Env) (hp:Hp) (ct base:Nat):kC (t::r) ⟨tm,hp,ct,base⟩=K6 t r tm ct base (freeze deep hp (ah tm t)):=by
 simp only [kC,K6];cases freeze deep hp (ah tm t)<;>rfl
def aiq (t:Nat) (r:List Nat) (tm:Env) (ct base:Nat) (v:AV) (hp:Hp):K6 t r tm ct base (some (v,hp))=kC r ⟨(t,v)::tm,hp,ct,base⟩:=rfl
end
attribute [go_sem] Xd Xe Xf ZF Yo ZG Yp ZH ZI ZJ abE ZK Eg abF adQ abG adR adS adT agt abH NH
 ZL MP agu Q6 aih ajN agv agw agx SS abI aii ajO adU abJ ZM aij aik ail aim ain aio agy
 ZN Yq Yr XM XN aip agz agA agB adX agC IF jl adV adW IG Q7 Q8 ZO Yt aiq
 Bool.and_false Bool.false_and vc eq_self
end
section
open Go (IntKind)
def Oy:∀hp:Hp,cJ 0 hp=[]
 | []=>rfl
 | (id,o)::r=>by
  have:yA id 0=false:=rfl
  simp only [cJ,this,yr,Oy r]
def Q9 (f:Nat->Option Nat):∀hp:Hp,iX 0 f hp=[]
 | []=>rfl
 | (id,o)::r=>by
  have:yA id 0=false:=rfl
  simp only [iX,this,yr,Q9 f r]
def pos (seen:List Nat):Nat->Option Nat:=fun id=>iZ id seen 0
def JV (tm:Env) (hp:Hp) (seen:List Nat):St:=⟨ir (pos seen) tm,im hp (pos seen) seen 0 [],seen.length,0⟩
def mV (hp:Hp):Nat->List Nat->List Nat->List Nat:=reach hp 0
def aM (live:List Nat) (tm:Env) (hp:Hp) (ct:Nat):bA live ⟨tm,hp,ct,0⟩=JV (cN tm live) hp (mV hp 100000 (dP (cN tm live)) []):=by
 have e:∀seen,il 0 seen=pos seen:=fun seen=>by
  funext id
  have:yA id 0=false:=rfl
  simp only [il,this,yr,pos]
 simp only [bA,Oy,List.append_nil,e,Q9,JV,mV,yp]
def ZP:dP []=[]:=rfl
def Yu (i:Nat) (v:AV) (r:Env):dP ((i,v)::r)=refs v++dP r:=rfl
def abK (k:yG) (n:Int):refs (.int k n)=[]:=rfl
def ZQ (b:Bool):refs (.bool b)=[]:=rfl
def abL (s:List Nat):refs (.str s)=[]:=rfl
def ZR:refs .aa=[]:=rfl
def abM (e:Bool) (n:Nat) (cs:List AV):refs (.aB e n cs)=[]:=rfl
def ZS (cs:List AV):refs (.ay cs)=[]:=rfl
def Yv:refs .undef=[]:=rfl
def abN (id o:Nat):refs (.ptr id o)=[id]:=rfl
def abO (id o n:Nat):refs (.au id o n)=[id]:=rfl
def adY (g:Nat) (a b:List AV):refs (.fn (.f g) a b)=dC a++dC b:=rfl
def agD (l:Nat) (a b:List AV):refs (.fn (.y l) a b)=[l]:=rfl
def abP (cs:List AV):refs (.agg cs)=dC cs:=rfl
def ZT:dC []=[]:=rfl
def Yw (v:AV) (r:List AV):dC (v::r)=refs v++dC r:=rfl
def FB (hp:Hp) (n id:Nat) (fN seen:List Nat) (q:Option Obj):List Nat:=match q with | some o=>mV hp n (dN o++fN) (seen++[id]) | none=>mV hp n fN seen
def FC (hp:Hp) (n id:Nat) (fN seen:List Nat) (b:Bool):List Nat:=bif b then mV hp n fN seen else FB hp n id fN seen (ak hp id)
def adZ (hp:Hp) (n:Nat) (seen:List Nat):mV hp (n+1) [] seen=seen:=rfl
def abQ (hp:Hp) (n id:Nat) (fN seen:List Nat):mV hp (n+1) (id::fN) seen=FC hp n id fN seen (iJ id seen):=by
 have:yA id 0=false:=rfl
 simp only [mV,reach,this,yak,FC,FB]
 cases iJ id seen with
 | true=>rfl
 | false=>simp only [yr];cases ak hp id<;>rfl
def agE (hp:Hp) (n id:Nat) (fN seen:List Nat):FC hp n id fN seen true=mV hp n fN seen:=rfl
def agF (hp:Hp) (n id:Nat) (fN seen:List Nat):FC hp n id fN seen false=FB hp n id fN seen (ak hp id):=rfl
def agG (hp:Hp) (n id:Nat) (fN seen:List Nat) (o:Obj):FB hp n id fN seen (some o)=mV hp n (dN o++fN) (seen++[id]):=rfl
def abR (i:Nat):iJ i []=false:=rfl
def abS (i:Nat) (r:List Nat):iJ i (i::r)=true:=by simp only [iJ,y9,yi]
def ZU {i j:Nat} (r:List Nat) (h:j≠i):iJ i (j::r)=iJ i r:=by simp only [iJ,cD h,yr]
def ad0 (rw ex:Bool) (sz:Nat) (cs:List AV):dN (.cells rw true ex sz cs)=[]:=rfl
def ad1 (rw ex:Bool) (sz:Nat) (cs:List AV):dN (.cells rw false ex sz cs)=dC cs:=rfl
def abT (tm:Env) (ps:List Nat) (a b:VC) (st:Nat) (pe:mw):dN (.lp tm ps a b st pe)=dP tm:=rfl
def ad2 (i:Nat) (r:List Nat) (k:Nat):iZ i (i::r) k=some k:=by simp only [iZ,y9,yi]
def abU {i j:Nat} (r:List Nat) (k:Nat) (h:j≠i):iZ i (j::r) k=iZ i r (k+1):=by simp only [iZ,cD h,yr]
def SU (o:Nat) (q:Option Nat):AV:=match q with | some j=> .ptr j o | none=> .undef
def SV (o n:Nat) (q:Option Nat):AV:=match q with | some j=> .au j o n | none=> .undef
def abV (s:List Nat):ir (pos s) []=[]:=rfl
def ZV (s:List Nat) (i:Nat) (v:AV) (r:Env):ir (pos s) ((i,v)::r)=(i,bH (pos s) v)::ir (pos s) r:=rfl
def ad3 (s:List Nat) (k:yG) (n:Int):bH (pos s) (.int k n)= .int k n:=rfl
def abW (s:List Nat) (b:Bool):bH (pos s) (.bool b)= .bool b:=rfl
def ad4 (s:List Nat) (t:List Nat):bH (pos s) (.str t)= .str t:=rfl
def abX (s:List Nat):bH (pos s) .aa= .aa:=rfl
def ad5 (s:List Nat) (e:Bool) (n:Nat) (cs:List AV):bH (pos s) (.aB e n cs)= .aB e n cs:=rfl
def abY (s:List Nat) (cs:List AV):bH (pos s) (.ay cs)= .ay cs:=rfl
def ZW (s:List Nat):bH (pos s) .undef= .undef:=rfl
def ad6 (s:List Nat) (id o:Nat):bH (pos s) (.ptr id o)=SU o (iZ id s 0):=rfl
def ad7 (s:List Nat) (id o n:Nat):bH (pos s) (.au id o n)=SV o n (iZ id s 0):=rfl
def agH (s:List Nat) (g:Nat) (a b:List AV):bH (pos s) (.fn (.f g) a b)= .fn (.f g) (eb (pos s) a) (eb (pos s) b):=rfl
def ad8 (s:List Nat) (cs:List AV):bH (pos s) (.agg cs)= .agg (eb (pos s) cs):=rfl
def abZ (s:List Nat):eb (pos s) []=[]:=rfl
def ZX (s:List Nat) (v:AV) (r:List AV):eb (pos s) (v::r)=bH (pos s) v::eb (pos s) r:=rfl
def ad9 (o j:Nat):SU o (some j)= .ptr j o:=rfl
def aea (o n j:Nat):SV o n (some j)= .au j o n:=rfl
def JW (hp:Hp) (f:Nat->Option Nat) (r:List Nat) (k:Nat) (acc:Hp) (q:Option Obj):Hp:=match q with | some o=>im hp f r (k+1) ((k,iI f o)::acc) | none=>im hp f r (k+1) acc
def ZY (hp:Hp) (s:List Nat) (k:Nat) (acc:Hp):im hp (pos s) [] k acc=acc:=rfl
def Yx (hp:Hp) (s:List Nat) (id:Nat) (r:List Nat) (k:Nat) (acc:Hp):im hp (pos s) (id::r) k acc=JW hp (pos s) r k acc (ak hp id):=by
 simp only [im,JW];cases ak hp id<;>rfl
def agI (hp:Hp) (s r:List Nat) (k:Nat) (acc:Hp) (o:Obj):JW hp (pos s) r k acc (some o)=im hp (pos s) r (k+1) ((k,iI (pos s) o)::acc):=rfl
def agJ (f:Nat->Option Nat) (rw ex:Bool) (sz:Nat) (cs:List AV):iI f (.cells rw true ex sz cs)= .cells rw true ex sz cs:=rfl
def agK (f:Nat->Option Nat) (rw ex:Bool) (sz:Nat) (cs:List AV):iI f (.cells rw false ex sz cs)= .cells rw false ex sz (eb f cs):=rfl
def aeb (f:Nat->Option Nat) (tm:Env) (ps:List Nat) (a b:VC) (st:Nat) (pe:mw):iI f (.lp tm ps a b st pe)= .lp (ir f tm) ps a b st pe:=rfl
def aec (tm:Env) (hp:Hp) (seen:List Nat):JV tm hp seen=⟨ir (pos seen) tm,im hp (pos seen) seen 0 [],seen.length,0⟩:=rfl
attribute [go_sem] ZP Yu abK ZQ abL ZR abM ZS Yv abN abO adY agD abP ZT Yw adZ abQ agE agF agG
 abR abS ZU ad0 ad1 abT ad2 abU abV ZV ad3 abW ad4 abX ad5 abY ZW ad6 ad7 agH ad8 abZ ZX ad9 aea
 ZY Yx agI agJ agK aeb aec yx List.length_nil
end
section
open Go (IntKind)
section
variable {P:aF} {L:Lib}
def ab0 {α:Type} {p:α->Bool} {l:List α} {i:Nat} (h:i<l.length):(l.drop i).any p=(p l[i]||(l.drop (i+1)).any p):=by
 rw [yT h,yal]
def ajP (h:Has P L 132 B0) {v:AV} {l:List Int} (hv:aX v l) (hl:l.length<=1000000) {g:Nat} {cap:List AV} {p:Int->Bool} (hc:az cap=true)
  (hz:∀x hp,bS deep hp (ab x::cap)=some (ab x::cap,hp)) (hg:∀x,aj P L g (ab x::cap) (.bool (p x))):∃n:Int,aj P L 132 [v,.fn (.f g) [] cap] (ab n)/\decide (0<=n)=l.any p:=by
 have sa:aI (.fn (.f g) [] cap)=true:=by simp [aI,az,hc]
 simp only [aj,deep] at hg hz;have key:=Ic (P:=P) (L:=L) (live:=[0,1,7,8]) (a:=Er)
  (I:=fun k s=>∃tm ct i,s=⟨tm,[],ct,0⟩/\ah tm 0=v/\ah tm 1= .fn (.f g) [] cap/\ah tm 7=ab l.length/\ah tm 8=ab (i:Nat)/\i+k=l.length/\(l.drop i).any p=l.any p)
  (Q:=fun ex s=>∃tm,s=⟨tm,[],0,0⟩/\((∃n:Int,ex= .ret/\ah tm 4=ab n/\0<=n/\l.any p=true)\/(ex= .exit 0/\l.any p=false))) ?_ l.length
 ·simp only [aj];rw [aR h];simp only [go_sem,ya,B0,hv.len];generalize hq:D P L (.loop [0,1,7,8] Er) _=q;obtain ⟨ex,s,rfl,tm,rfl,h2⟩:=cW hq key ⟨_,_,0,rfl,rfl,rfl,rfl,rfl,by omega,rfl⟩;rcases h2 with ⟨n,rfl,h2,h3,h4⟩ | ⟨rfl,h2⟩
  ·exact ⟨n,by simp only [go_sem,h2],by rw [h4];simpa using h3⟩
  ·exact ⟨-1,by simp only [go_sem],by rw [h2];decide⟩
 ·rintro k s ⟨tm,ct,i,rfl,h0,h1,h7,h8,hk,hf⟩;rw [LW (by simp only [go_sem,h0,h1,h7,h8,hv.pu,sa])];simp only [go_sem,ya,h0,h1,h7,h8,Er];by_cases hi:i<l.length
  ·have dj:(i:Int)<l.length:=by omega
   rw [ab0 hi] at hf
   cases ew:p l[i] with
   | false=>
    left
    simp only [go_sem,ya,dj,hv.bt hi,hz,hg,ew];refine ⟨_,k-1,rfl,by omega,_,_,i+1,rfl,?_⟩;rw [wrap64 (by omega) (by omega)];rw [ew,yak] at hf;simp only [go_sem,ya];exact ⟨trivial,trivial,trivial,rfl,by omega,hf⟩
   | true=>
    right
    simp only [go_sem,ya,dj,hv.bt hi,hz,hg,ew];refine ⟨_,_,rfl,by simp,_,rfl,.inl ⟨i,rfl,?_,by omega,?_⟩⟩
    ·simp only [go_sem]
    ·rw [<-hf,ew,Bool.true_or]
  ·right
   have dj:¬(i:Int)<l.length:=by omega
   simp only [go_sem,dj];refine ⟨_,_,rfl,by simp,_,rfl,.inr ⟨rfl,?_⟩⟩;rw [<-hf,xr (by omega)];rfl
def s95 (h:Has P L 95 Gf) (JX:Has P L 132 B0) {v:AV} {l:List Int} (hv:aX v l) (hl:l.length<=1000000) {g:Nat} {cap:List AV} {p:Int->Bool} (hc:az cap=true)
  (hz:∀x hp,bS deep hp (ab x::cap)=some (ab x::cap,hp)) (hg:∀x,aj P L g (ab x::cap) (.bool (p x)))
  (fR:∀n hp,freeze (n+500) hp (.fn (.f g) [] cap)=some (.fn (.f g) [] cap,hp)):aj P L 95 [v,.fn (.f g) [] cap] (.bool (l.any p)):=by
 obtain ⟨n,h1,h2⟩:=ajP JX hv hl hc hz hg;unfold aj at h1 ⊢;rw [aR h];have ajQ:∀hp,freeze 998 hp (.fn (.f g) [] cap)=some (.fn (.f g) [] cap,hp):=fun hp=>fR 498 hp
 simp only [go_sem,ya,Gf,hv.aE,ajQ,h1,h2]
def s94 (h:Has P L 94 z7) {m:Int} (hm:0<=m) (eu:m<=1000000) (x:Int):aj P L 94 [ab x,.ay [ab m]] (.bool (decide (x< -m\/m<x))):=by
 unfold aj;rw [aR h];by_cases h1:x< -m
 ·simp only [go_sem,ya,z7,DZ,wrap64 (n:=0-m) (by omega) (by omega),show x<0-m by omega,h1,true_or]
 ·by_cases h2:m<x
  ·simp only [go_sem,ya,z7,DZ,wrap64 (n:=0-m) (by omega) (by omega),show ¬x<0-m by omega,h1,h2,or_true]
  ·simp only [go_sem,ya,z7,DZ,wrap64 (n:=0-m) (by omega) (by omega),show ¬x<0-m by omega,h1,h2,or_self]
def ab1 (m:Int) (l:List Int):l.any (fun x=>decide (x< -m\/m<x))=dz (-m) m l:=by
 induction l with
 | nil=>rfl
 | cons a r ih=>
  simp only [yal,dz,ih]
  grind
structure Sq (P:aF) (L:Lib):Prop where
 h32:Has P L 32 KT
 j8:Has P L 31 pP
 CZ:Has P L 33 CO
 h94:Has P L 94 z7
 h95:Has P L 95 Gf
 JX:Has P L 132 B0
 h4:Has P L 4 c4
 h9:Has P L 9 c9
def s32 (h:Sq P L) {v:AV} {s:List (List Int)} (hv:cf v s) (hl:s.length<=1000000) (hr:∀i (hi:i<s.length),s[i].length<=1000000) {m:Int} (hm:0<=m) (eu:m<=1000000):
  aj P L 32 [v,ab m] (ab (dZ s.length (-m) m s)):=by
 have key:=dt (P:=P) (L:=L) (live:=[0,3,9,10,11]) (a:=EO)
  (I:=fun k st=>∃(i:Nat) (rw:Bool),st=⟨[(0,v),(3,.ptr 0 0),(9,v),(10,ab s.length),(11,ab i)],[(0,.cells rw true true 1 [ab m])],1,0⟩/\i+k=s.length/\dZ s.length (-m) m (s.drop i)=dZ s.length (-m) m s)
  (Q:=fun ex st=>∃tm hp ct,st=⟨tm,hp,ct,0⟩/\((ex= .ret/\ah tm 4=ab (dZ s.length (-m) m s))\/(ex= .exit 0/\dZ s.length (-m) m s=0))) ?_
 ·unfold aj;rw [aR h.h32];simp only [go_sem,ya,yc,KT,hv.len];generalize hq:D P L (.loop [0,3,9,10,11] EO) _=q;obtain ⟨ex,st,rfl,tm,hp,ct,rfl,h2⟩:=cW hq (key s.length) ⟨0,true,by simp only [go_sem,ya,yc,aM,a6 hv.pu,bc _ hv.pu]<;>rfl,by omega,rfl⟩
  rcases h2 with ⟨rfl,h2⟩ | ⟨rfl,h2⟩
  ·simp only [go_sem,h2]
  ·rw [h2];simp only [go_sem,aM]
 ·rintro k st ⟨i,rw,rfl,hk,hf⟩;simp only [go_sem,ya,EO];by_cases hi:i<s.length
  ·have dj:(i:Int)<s.length:=by omega
   rw [MN hi] at hf;obtain ⟨r,rest,cz,eH⟩:=hv.bt hi;have hc:aj P L 95 [r,.fn (.f 94) [] [.ay [ab m]]] (.bool (dz (-m) m s[i])):=by
    rw [<-ab1];exact s95 h.h95 h.JX cz (hr i hi) rfl (fun x hp=>by simp only [go_sem]) (fun x=>s94 h.h94 hm eu x) (fun n hp=>by simp only [go_sem])
   have gA:∀a b:Int,aj P L 33 [.aB true 2 [.int .i64 a,.int .i64 b]] (ab (cu [a,b])):=fun a b=>Gu h.CZ (gC true [a,b]) (by simp)
   unfold aj at hc gA;by_cases h1:s[i].length=s.length
   ·have zL:(s[i].length:Int)=s.length:=by omega
    simp only [h1,yap,vo,yM] at hf
    cases h2:dz (-m) m s[i] with
    | false=>
     left
     simp only [h2,yq,yM] at hf;cases rw<;>simp only [go_sem,ya,yc,yV,ym,yv,dj,eH,hc,zL,h2,r9 h.j8,gA,cz.len,cz.aE,hv.len,yq,yM,cu,yR]
     all_goals
      refine ⟨_,k-1,rfl,by omega,i+1,false,?_,by omega,hf⟩;rw [wrap64 (by omega) (by omega)];simp only [go_sem,ya,yc,aM,a6 hv.pu,bc _ hv.pu];rfl
    | true=>
     right
     simp only [h2,yR] at hf;cases rw<;>simp only [go_sem,ya,yc,yV,ym,yv,dj,eH,hc,zL,h2,r9 h.j8,gA,cz.len,cz.aE,hv.len,yq,yM,cu,yR,ss]
     all_goals
      refine ⟨_,_,rfl,by simp,_,_,_,rfl,.inl ⟨rfl,?_⟩⟩;simp only [go_sem,hf]
   ·right
    have zL:¬(s[i].length:Int)=s.length:=by omega
    simp only [h1,yap,uj,yR] at hf;cases h2:dz (-m) m s[i]<;>cases rw<;>simp only [go_sem,ya,yc,yV,ym,yv,dj,eH,hc,zL,h2,r9 h.j8,gA,cz.len,cz.aE,hv.len,yq,yM,cu,yR,ss]
    all_goals
     refine ⟨_,_,rfl,by simp,_,_,_,rfl,.inl ⟨rfl,?_⟩⟩;simp only [go_sem,hf]
  ·right
   have dj:¬(i:Int)<s.length:=by omega
   simp only [go_sem,dj];refine ⟨_,_,rfl,by simp,_,_,_,rfl,.inr ⟨rfl,?_⟩⟩;rw [<-hf,xr (by omega)];rfl
end
end
section
open Go (IntKind)
section
variable {P:aF} {L:Lib}
def s4 (h:Sq P L) {v:AV} {s:List (List Int)} (hv:cf v s) (hl:s.length<=1000000) (hr:∀i (hi:i<s.length),s[i].length<=1000000):aj P L 4 [v] (ab (cV s)):=by
 have hc:=s32 h hv hl hr (m:=1000) (by decide) (by decide);have hf:∀a b c:Int,aj P L 33 [.aB true 3 [.int .i64 a,.int .i64 b,.int .i64 c]] (ab (cu [a,b,c])):=fun a b c=>Gu h.CZ (gC true [a,b,c]) (by simp)
 unfold aj at hc hf ⊢;rw [aR h.h4];simp only [go_sem,ya,yc,yV,ym,yv,c4,hv.len,hv.aE,hc,r9 h.j8,hf];unfold cV;by_cases h1:s.length=0
 ·simp [h1,cu]
 ·by_cases h2:16<s.length
  ·simp [h1,h2,cu,show (16:Int)<s.length by omega]
  ·simp only [h1,h2,cu,show ¬(16:Int)<s.length by omega,show ¬(s.length:Int)=0 by omega,yD,yq,yM,yR]
   split<;>simp_all
end
end
end VE
