import Derived.Test.YtflgmingejdfnaaGreatDoorXao
import Derived.Test.YtflgmingejdfnaaGreatDoorXak
set_option linter.all false
set_option maxRecDepth 100000
open Bool renaming false_eq_true→yt,false_or→yag
open Go renaming DataW→yY,Field→vK,FloatKind→w8,IntKind→yJ,MemPlace→xC,Program→yM,TypeId→yp,Value→ye,World→yg
open Int renaming emod_emod→yax,reduceEq→wK,tmod_eq_emod_of_nonneg→yT
open List renaming any_cons→yah,cons_append→yH,drop_eq_getElem_cons→yO,drop_eq_nil_of_le→yZ,drop_zero→vc,eq_nil_of_length_eq_zero→yP,flatMap_def→tM,getD_eq_getElem?_getD→xk,length→yaB,length_append→yW,length_cons→yz,length_map→yU,length_singleton→uI,length_take→yK,mapM_cons→wW,map_cons→yV,mem_cons_of_mem→xT,mem_cons_self→wP,mem_map→wB,replicate→yx,take_of_length_le→yI,take_succ_cons→xK,take_succ_eq_append_getElem→wb
open Nat renaming add_mul→vd,add_sub_cancel→tx,add_zero→xS,beq→yq,beq_refl→y7,ble→yA,ble_eq_true_of_le→yv,blt→yB,le_div_iff_mul_le→uT,le_of_lt→uJ,le_refl→yC,lt_of_mul_lt_mul_right→uk,min_eq_left→xJ,mul_add→xY,mul_assoc→xZ,mul_comm→uR,mul_le_mul_left→xq,mul_le_mul_right→xr,mul_one→yh,mul_zero→vD,not_lt_zero→wE,pow_succ→xy,reduceAdd→yc,reduceEqDiff→ya,reduceLT→yj,reduceLeDiff→yd,zero_add→yy
open Option renaming bind_eq_bind→wu,bind_some→xt,map_eq_some_iff→xD,pure_def→xN
open Option.some renaming injEq→yb
open Prod.mk renaming injEq→yi
namespace VE
section
open Go (IntKind)
abbrev aa (n:Int):AV:= .int .i64 n
def bU (v:AV) (cs:List AV):Prop:=(v= .ab/\cs=[])\/∃e,v= .aC e cs.length cs
section
variable {v:AV} {cs:List AV} {hp:Hp}
def bU.len (h:bU v cs) {hp:Hp}:eY hp 1 v=some (.int .i64 (cs.length:Nat)):=by
 rcases h with ⟨rfl,rfl⟩ | ⟨e,rfl⟩<;>rfl
def bU.pu (h:bU v cs):aG v=true:=by
 rcases h with ⟨rfl,rfl⟩ | ⟨e,rfl⟩<;>rfl
def bU.aE (h:bU v cs) (n:Nat) {hp:Hp}:freeze (n+1) hp v=some (v,hp):=by
 rcases h with ⟨rfl,rfl⟩ | ⟨e,rfl⟩<;>rfl
def bU.shut (h:bU v cs):shut v=v:=by
 rcases h with ⟨rfl,rfl⟩ | ⟨e,rfl⟩<;>rfl
def bU.bg (h:bU v cs):bg v=v:=by
 rcases h with ⟨rfl,rfl⟩ | ⟨e,rfl⟩<;>rfl
def bU.bF (h:bU v cs) {hp:Hp}:result hp v=some v:=by
 rcases h with ⟨rfl,rfl⟩ | ⟨e,rfl⟩<;>rfl
def bU.a7 (h:bU v cs) {i:Nat} (hi:i<cs.length):fh 1 i v=some (.aO (cs[i]::cs.drop (i+1))):=by
 rcases h with ⟨rfl,rfl⟩ | ⟨e,rfl⟩
 ·grind
 ·rw [Ej e _ hi,yh,yO hi]
def bU.one (h:bU v cs):cg v=true:=by
 rcases h with ⟨rfl,rfl⟩ | ⟨e,rfl⟩<;>rfl
def bU.cells (h:bU v cs):cellsOf v=[v]:=by
 rcases h with ⟨rfl,rfl⟩ | ⟨e,rfl⟩<;>rfl
def A8 (e:Bool) (cs:List AV):bU (.aC e cs.length cs) cs:= .inr ⟨e,rfl⟩
def oP:bU .ab []:= .inl ⟨rfl,rfl⟩
end
def aX (v:AV) (l:List Int):Prop:=bU v (l.map aa)
section
variable {v:AV} {l:List Int}
def aX.len (h:aX v l) {hp:Hp}:eY hp 1 v=some (.int .i64 (l.length:Nat)):=by
 have:=bU.len (hp:=hp) h
 grind
def aX.pu (h:aX v l):aG v=true:=bU.pu h
def aX.aE (h:aX v l) (n:Nat) {hp:Hp}:freeze (n+1) hp v=some (v,hp):=bU.aE h n
def aX.shut (h:aX v l):VE.shut v=v:=bU.shut h
def aX.bg (h:aX v l):VE.bg v=v:=bU.bg h
def aX.bF (h:aX v l) {hp:Hp}:result hp v=some v:=bU.bF h
def aX.one (h:aX v l):cg v=true:=bU.one h
def aX.cells (h:aX v l):cellsOf v=[v]:=bU.cells h
def aX.a7 (h:aX v l) {i:Nat} (hi:i<l.length):fh 1 i v=some (.aO (.int .i64 l[i]::(l.map aa).drop (i+1))):=by
 have:=bU.a7 h (i:=i) (by simpa using hi)
 grind
def fM (e:Bool) (l:List Int):aX (.aC e l.length (l.map aa)) l:=by
 have:=A8 e (l.map aa)
 rwa [yU] at this
end
def gr {α β:Type} (p:α->β->Prop):List α->List β->Prop
 | [],[]=>True
 | a::r,b::s=>p a b/\gr p r s
 | _,_=>False
section
variable {α β:Type} {p:α->β->Prop}
def gr.len:∀{l:List α} {m:List β},gr p l m->l.length=m.length
 | [],[],_=>rfl
 | _::_,_::_,h=>by rw [yz,yz,h.2.len]
def gr.get:∀{l:List α} {m:List β} (_:gr p l m) {i:Nat} (h1:i<l.length) (h2:i<m.length),p l[i] m[i]
 | a::r,b::s,h,0,_,_=>h.1
 | a::r,b::s,h,i+1,h1,h2=>by
  exact h.2.get (by simpa using h1) (by simpa using h2)
def gr.append:∀{l l':List α} {m m':List β},gr p l m->gr p l' m'->gr p (l++l') (m++m')
 | [],_,[],_,_,h=>h
 | _::_,_,_::_,_,h,k=>⟨h.1,h.2.append k⟩
end
def bK (v:AV) (s:List (List Int)):Prop:=∃rows,bU v rows/\gr aX rows s
section
variable {v:AV} {s:List (List Int)}
def bK.len (h:bK v s) {hp:Hp}:eY hp 1 v=some (.int .i64 (s.length:Nat)):=by
 obtain ⟨rows,h1,h2⟩:=h;rw [<-h2.len];exact h1.len
def bK.pu (h:bK v s):aG v=true:=by obtain ⟨rows,h1,h2⟩:=h;exact h1.pu
def bK.aE (h:bK v s) (n:Nat) {hp:Hp}:freeze (n+1) hp v=some (v,hp):=by obtain ⟨rows,h1,h2⟩:=h;exact h1.aE n
def bK.shut (h:bK v s):VE.shut v=v:=by obtain ⟨rows,h1,h2⟩:=h;exact h1.shut
def bK.bg (h:bK v s):VE.bg v=v:=by obtain ⟨rows,h1,h2⟩:=h;exact h1.bg
def bK.bF (h:bK v s) {hp:Hp}:result hp v=some v:=by obtain ⟨rows,h1,h2⟩:=h;exact h1.bF
def bK.one (h:bK v s):cg v=true:=by obtain ⟨rows,h1,h2⟩:=h;exact h1.one
def bK.cells (h:bK v s):cellsOf v=[v]:=by obtain ⟨rows,h1,h2⟩:=h;exact h1.cells
def bK.a7 (h:bK v s) {i:Nat} (hi:i<s.length):∃r rest,aX r s[i]/\fh 1 i v=some (.aO (r::rest)):=by
 obtain ⟨rows,h1,h2⟩:=h;have bP:i<rows.length:=by rw [h2.len];exact hi
 exact ⟨_,_,h2.get bP hi,h1.a7 bP⟩
def abc:bK .ab []:=⟨[],oP,trivial⟩
end
def wrap64 {n:Int} (h1: -9223372036854775808<=n) (h2:n<9223372036854775808):IntKind.wrap .i64 n=n:=by
 simp only [IntKind.wrap,IntKind.bits,IntKind.signed,Bool.true_and]
 grind
def wrapN {n:Nat} (h:n<9223372036854775808):IntKind.wrap .i64 (n:Int)=n:=wrap64 (by omega) (by omega)
end
section
open Go
section
variable {H:Type} {enc:yp×ye->H} {P:yM} {w:yg} {base:Nat} {sp:Nat->Bool} {held:Bool}
def mapM_mem {α β:Type} {f:α->Option β}:∀{l:List α} {r:List β},l.mapM f=some r->∀y,y∈r->∃x,f x=some y
 | [],r,h,y,hy=>by simp only [List.mapM_nil,xN,yb] at h;subst h;cases hy
 | x::l,r,h,y,hy=>by
  rw [wW] at h
  cases h1:f x with
  | none=>simp [h1] at h
  | some z=>
   cases h2:l.mapM f with
   | none=>simp [h1,h2] at h
   | some zs=>
    simp only [h1,h2,xt,wu,xN,yb] at h;subst h;rcases List.mem_cons.1 hy with rfl | hy
    ·exact ⟨x,h1⟩
    ·exact mapM_mem h2 y hy
def Rd (enc:yp×ye->H) (P:yM) (w:yg) (base:Nat) (sp:Nat->Bool) (held:Bool) (t:yp) (d:yY H):Prop:=∃a6 cs ps,DataW.trod enc P w base sp held a6 t cs=some (d,ps)
def af0 {t:yp} {k:yJ} {d:yY H} {n:Nat} (ht:P.underlying t=some (.int k)) (h:Rd enc P w base sp held t d):∃z,bX P (n+1) t d=[.int k z]/\(Lit.int k z).wf=true:=by
 obtain ⟨a6,cs,ps,h⟩:=h
 cases a6 with
 | zero=>simp [DataW.trod] at h
 | succ a6=>
  unfold DataW.trod at h
  split at h
  all_goals first
   | (rename_i hu;rw [ht] at hu;cases hu;done)
   | skip
  ·rename_i k1 k2 z hu;rw [ht] at hu;injection hu with hu
   injection hu with hu
   subst hu
   split at h
   ·rename_i hk;simp only [yb,yi] at h;obtain ⟨rfl,rfl⟩:=h;exact ⟨z,by simp only [bX,ht],hk.2⟩
   ·cases h
  all_goals (cases h;done)
def abd {t e:yp} {d:yY H} {n:Nat} (ht:P.underlying t=some (.slice e)) (h:Rd enc P w base sp held t d):
  bX P (n+1) t d=[.ab]\/∃(x:Bool) (gj:List (yY H)),bX P (n+1) t d=[.aC x gj.length (gj.flatMap fun y=>bX P n e y)]/\∀y,y∈gj->Rd enc P w base sp held e y:=by
 obtain ⟨a6,cs,ps,h⟩:=h
 cases a6 with
 | zero=>simp [DataW.trod] at h
 | succ a6=>
  unfold DataW.trod at h
  split at h
  all_goals first
   | (rename_i hu;rw [ht] at hu;cases hu;done)
   | skip
  ·simp only [yb,yi] at h;obtain ⟨rfl,rfl⟩:=h;exact .inl (by simp only [bX,ht])
  ·rename_i e' a len cap hu;rw [ht] at hu;injection hu with hu
   injection hu with hu
   subst hu;simp only at h
   split at h
   case isFalse=>cases h
   cases h1:(List.range len).mapM fun i=>(w.cells? base (a.add (i*P.cellsOf e)) (P.cellsOf e)).bind (DataW.trod enc P w base sp held a6 e) with
   | none=>rw [h1] at h;simp at h
   | some gj=>
    rw [h1] at h;simp only [xt] at h;obtain ⟨rest,_,h⟩:=xD.1 h;simp only [yi] at h;obtain ⟨rfl,rfl⟩:=h;refine .inr ⟨(rest.map (·.1)).isEmpty,gj.map (·.1),by simp only [bX,ht,yU],?_⟩;intro y hy;obtain ⟨p,hp,rfl⟩:=wB.1 hy;obtain ⟨i,hi⟩:=mapM_mem h1 p hp;obtain ⟨cK,_,pM⟩:=Option.bind_eq_some_iff.1 hi;exact ⟨a6,cK,p.2,pM⟩
  all_goals (cases h;done)
def Zj {t:yp} {fs:Array vK} {d:yY H} {n:Nat} (ht:P.underlying t=some (.struct fs)) (h:Rd enc P w base sp held t d):
  ∃ds:List (yY H),ds.length=fs.toList.length/\bX P (n+1) t d=(fs.toList.zip ds).flatMap (fun x=>bX P n x.1.type x.2)/\∀i (h1:i<fs.toList.length) (h2:i<ds.length),Rd enc P w base sp held fs.toList[i].type ds[i]:=by
 obtain ⟨a6,cs,ps,h⟩:=h
 cases a6 with
 | zero=>simp [DataW.trod] at h
 | succ a6=>
  unfold DataW.trod at h
  split at h
  all_goals first
   | (rename_i hu;rw [ht] at hu;cases hu;done)
   | (cases h;done)
   | skip
  rename_i cs x1 CW fs' hu;rw [ht] at hu;injection hu with hu
  injection hu with hu
  subst hu
  split at h
  case isFalse=>cases h
  obtain ⟨xs,h1,h⟩:=xD.1 h;simp only [yi] at h;obtain ⟨rfl,rfl⟩:=h;refine ⟨xs.map (·.1),by simp [DH h1],by simp only [bX,ht],?_⟩;have key:∀{r:List vK} {xs:List (yY H×List xC)},r.mapM (fun f=>DataW.trod enc P w base sp held a6 f.type ((cs.drop f.offset).take (P.cellsOf f.type)))=some xs->
    ∀i (h1:i<r.length) (h2:i<(xs.map (·.1)).length),Rd enc P w base sp held r[i].type (xs.map (·.1))[i]:=by
   intro r
   induction r with
   | nil=>intro xs h i h1;exact absurd h1 (wE i)
   | cons f r ih=>
    intro xs h i h1 h2;rw [wW] at h
    cases g1:DataW.trod enc P w base sp held a6 f.type ((cs.drop f.offset).take (P.cellsOf f.type)) with
    | none=>simp [g1] at h
    | some x=>
     cases g2:r.mapM (fun f=>DataW.trod enc P w base sp held a6 f.type ((cs.drop f.offset).take (P.cellsOf f.type))) with
     | none=>simp [g1,g2] at h
     | some ys=>
      simp only [g1,g2,xt,wu,xN,yb] at h;subst h
      cases i with
      | zero=>exact ⟨a6,_,x.2,g1⟩
      | succ i=>exact ih g2 i (by simpa using h1) (by simpa using h2)
  exact key h1
def abe {t e:yp} {k:Nat} {d:yY H} {n:Nat} (ht:P.underlying t=some (.array k e)) (h:Rd enc P w base sp held t d):
  ∃ds:List (yY H),ds.length=k/\bX P (n+1) t d=ds.flatMap (fun x=>bX P n e x)/\∀y,y∈ds->Rd enc P w base sp held e y:=by
 obtain ⟨a6,cs,ps,h⟩:=h
 cases a6 with
 | zero=>simp [DataW.trod] at h
 | succ a6=>
  unfold DataW.trod at h
  split at h
  all_goals first
   | (rename_i hu;rw [ht] at hu;cases hu;done)
   | (cases h;done)
   | skip
  rename_i cs x1 CW k' e' hu;rw [ht] at hu;injection hu with hu
  injection hu with lY Gn
  subst lY;subst Gn
  split at h
  case isFalse=>cases h
  obtain ⟨xs,h1,h⟩:=xD.1 h;simp only [yi] at h;obtain ⟨rfl,rfl⟩:=h;refine ⟨xs.map (·.1),by simp [DH h1],by simp only [bX,ht],fun y hy=>?_⟩;obtain ⟨p,hp,rfl⟩:=wB.1 hy;obtain ⟨i,hi⟩:=mapM_mem h1 p hp;exact ⟨a6,_,p.2,hi⟩
end
end
section
open Go
inductive Ty
 | int (k:yJ)
 | cu (k:w8)
 | bool
 | str
 | sl (e:Ty)
 | nil
 | cat (a b:Ty)
 | ar (n:Nat) (e:Ty)
def iZ:Ty->List AV->Prop
 | .int k,l=>∃z,l=[.int k z]/\(Lit.int k z).wf=true
 | .cu k,l=>∃b,l=[.cu k b]
 | .bool,l=>∃b,l=[.bool b]
 | .str,l=>∃s:List Nat,l=[.str s]/\s.length<9223372036854775808/\∀c,c∈s->c<256
 | .sl e,l=>l=[.ab]\/∃(x:Bool) (ps:List (List AV)),l=[.aC x ps.length ps.flatten]/\∀p,p∈ps->iZ e p
 | .nil,l=>l=[]
 | .cat a b,l=>∃x y,l=x++y/\iZ a x/\iZ b y
 | .ar n e,l=>∃ps:List (List AV),ps.length=n/\l=ps.flatten/\∀p,p∈ps->iZ e p
def jj:List (Option Ty)->Option Ty
 | []=>some .nil
 | some a::r=>match jj r with
  | some b=>some (.cat a b)
  | none=>none
 | none::_=>none
def eu (P:yM):Nat->yp->Option Ty
 | 0,_=>none
 | n+1,t=>
  match P.underlying t with
  | some .bool=>some .bool
  | some (.int k)=>some (.int k)
  | some (.float k)=>some (.cu k)
  | some .string=>some .str
  | some (.slice e)=>(eu P n e).map .sl
  | some (.struct fs)=>jj (fs.toList.map fun f=>eu P n f.type)
  | some (.array k e)=>(eu P n e).map (.ar k)
  | _=>none
section
variable {H:Type} {enc:yp×ye->H} {P:yM} {w:yg} {base:Nat} {sp:Nat->Bool} {held:Bool}
def af1 {t:yp} {k:w8} {d:yY H} {n:Nat} (ht:P.underlying t=some (.float k)) (h:Rd enc P w base sp held t d):∃b,bX P (n+1) t d=[.cu k b]:=by
 obtain ⟨a6,cs,ps,h⟩:=h
 cases a6 with
 | zero=>simp [DataW.trod] at h
 | succ a6=>
  unfold DataW.trod at h
  split at h
  all_goals first
   | (rename_i hu;rw [ht] at hu;cases hu;done)
   | skip
  ·rename_i k1 k2 z hu;rw [ht] at hu;injection hu with hu
   injection hu with hu
   subst hu
   split at h
   ·simp only [yb,yi] at h;obtain ⟨rfl,rfl⟩:=h;exact ⟨z,by simp only [bX,ht]⟩
   ·cases h
  all_goals (cases h;done)
def adn {t:yp} {d:yY H} {n:Nat} (ht:P.underlying t=some .bool) (h:Rd enc P w base sp held t d):∃b,bX P (n+1) t d=[.bool b]:=by
 obtain ⟨a6,cs,ps,h⟩:=h
 cases a6 with
 | zero=>simp [DataW.trod] at h
 | succ a6=>
  unfold DataW.trod at h
  split at h
  all_goals first
   | (rename_i hu;rw [ht] at hu;cases hu;done)
   | skip
  ·simp only [yb,yi] at h;obtain ⟨rfl,rfl⟩:=h;rename_i b _;exact ⟨b,by simp only [bX,ht]⟩
  all_goals (cases h;done)
def af2 {t:yp} {d:yY H} {n:Nat} (ht:P.underlying t=some .string) (h:Rd enc P w base sp held t d):
  ∃s:List Nat,bX P (n+1) t d=[.str s]/\s.length<9223372036854775808/\∀c,c∈s->c<256:=by
 obtain ⟨a6,cs,ps,h⟩:=h
 cases a6 with
 | zero=>simp [DataW.trod] at h
 | succ a6=>
  unfold DataW.trod at h
  split at h
  all_goals first
   | (rename_i hu;rw [ht] at hu;cases hu;done)
   | skip
  ·rename_i s hu
   split at h
   ·rename_i hs;simp only [yb,yi] at h;obtain ⟨rfl,rfl⟩:=h;refine ⟨_,by simp only [bX,ht];rfl,?_,fun c hc=>?_⟩
    ·simp only [yU,Array.length_toList];have h1:s.size<=9223372036854775807:=hs;have h2:s.data.size=s.size:=rfl;omega
    ·obtain ⟨b,_,rfl⟩:=wB.1 hc;exact b.toNat_lt
   ·cases h
  all_goals (cases h;done)
def Mu {n:Nat} (ih:∀{t:yp} {T:Ty} {d:yY H},eu P n t=some T->Rd enc P w base sp held t d->iZ T (bX P n t d)):
  ∀(fs:List vK) (ds:List (yY H)) (T:Ty),jj (fs.map fun f=>eu P n f.type)=some T->ds.length=fs.length->(∀i (h1:i<fs.length) (h2:i<ds.length),Rd enc P w base sp held fs[i].type ds[i])->
   iZ T ((fs.zip ds).flatMap fun x=>bX P n x.1.type x.2)
 | [],ds,T,hT,_,_=>by
  simp only [List.map_nil,jj,yb] at hT;subst hT;simp [iZ]
 | f::fs,[],T,_,hl,_=>by simp at hl
 | f::fs,d::ds,T,hT,hl,hr=>by
  simp only [yV] at hT
  cases h1:eu P n f.type with
  | none=>simp [h1,jj] at hT
  | some a=>
   cases h2:jj (fs.map fun f=>eu P n f.type) with
   | none=>simp [h1,h2,jj] at hT
   | some b=>
    simp only [h1,h2,jj,yb] at hT;subst hT;simp only [List.zip_cons_cons,List.flatMap_cons];exact ⟨_,_,rfl,ih h1 (hr 0 (by simp) (by simp)),Mu ih fs ds b h2 (by simpa using hl) (fun i h1 h2=>hr (i+1) (by simpa using h1) (by simpa using h2))⟩
def Rj:∀(n:Nat) {t:yp} {T:Ty} {d:yY H},eu P n t=some T->Rd enc P w base sp held t d->iZ T (bX P n t d)
 | 0,t,T,d,hT,_=>by simp [eu] at hT
 | n+1,t,T,d,hT,hr=>by
  have ih:=@Rj n
  cases hu:P.underlying t with
  | none=>simp [eu,hu] at hT
  | some u=>
   cases u with
   | slice e=>
    simp only [eu,hu] at hT;obtain ⟨E,hE,rfl⟩:=xD.1 hT
    rcases abd (n:=n) hu hr with h | ⟨x,gj,h,hm⟩
    ·exact .inl h
    ·refine .inr ⟨x,gj.map (bX P n e),by rw [h,yU,tM],fun p hp=>?_⟩;obtain ⟨y,hy,rfl⟩:=wB.1 hp;exact ih hE (hm y hy)
   | struct fs=>
    simp only [eu,hu] at hT;obtain ⟨ds,e1,e2,e3⟩:=Zj (n:=n) hu hr;rw [e2];exact Mu ih fs.toList ds T hT e1 e3
   | array k e=>
    simp only [eu,hu] at hT;obtain ⟨E,hE,rfl⟩:=xD.1 hT;obtain ⟨ds,e1,e2,e3⟩:=abe (n:=n) hu hr;refine ⟨ds.map (bX P n e),by simp [e1],by rw [e2,tM],fun p hp=>?_⟩;obtain ⟨y,hy,rfl⟩:=wB.1 hp;exact ih hE (e3 y hy)
   | int k=>
    simp only [eu,hu,yb] at hT;subst hT;exact af0 hu hr
   | float k=>
    simp only [eu,hu,yb] at hT;subst hT;exact af1 hu hr
   | bool=>
    simp only [eu,hu,yb] at hT;subst hT;exact adn hu hr
   | string=>
    simp only [eu,hu,yb] at hT;subst hT;exact af2 hu hr
   | _=>simp [eu,hu] at hT
def zK:Ty->List AV->AV
 | .nil,l | .cat _ _,l | .ar _ _,l=> .agg l
 | _,l=>l.headD .undef
def Zk:∀{l:List (Option Ty)} {T:Ty},jj l=some T->∀x,zK T x= .agg x
 | [],T,h=>by simp only [jj,yb] at h;subst h;exact fun _=>rfl
 | none::r,T,h=>by simp [jj] at h
 | some a::r,T,h=>by
  cases h1:jj r with
  | none=>simp [jj,h1] at h
  | some b=>
   simp only [jj,h1,yb] at h;subst h;exact fun _=>rfl
def ahJ {n:Nat} {t:yp} {T:Ty} {d:yY H} (hT:eu P n t=some T):ix P n t d=zK T (bX P n t d):=by
 cases n with
 | zero=>simp [eu] at hT
 | succ n=>
  cases hu:P.underlying t with
  | none=>simp [eu,hu] at hT
  | some u=>
   cases u with
   | slice e=>
    simp only [eu,hu] at hT;obtain ⟨E,hE,rfl⟩:=xD.1 hT;simp only [ix,hu,zK]
   | struct fs=>
    simp only [eu,hu] at hT;rw [Zk hT];simp only [ix,hu]
   | array k e=>
    simp only [eu,hu] at hT;obtain ⟨E,hE,rfl⟩:=xD.1 hT;simp only [ix,hu,zK]
   | _=>
    simp only [eu,hu,yb,reduceCtorEq] at hT<;>
    (subst hT
     simp only [ix,hu,zK])
def BV:List Ty->List (List AV)->List AV
 | T::Ts,l::ls=>zK T l::BV Ts ls
 | _,_=>[]
def Oc {n:Nat}:∀{ts:List yp} {Ts:List Ty} {vs:List ye} {ds:List (yY H)} {ps:List xC},(ts.map (eu P n))=Ts.map some->DataW.TrodAll enc P w base sp held ts vs ds ps->
  ∃ls,gr iZ Ts ls/\nD P n ts ds=BV Ts ls/\ds.length=ts.length
 | [],[],[],[],ps,_,_=>⟨[],trivial,rfl,rfl⟩
 | t::ts,T::Ts,v::vs,d::ds,ps,hT,⟨p,q,⟨a6,h1⟩,h2,_⟩=>by
  simp only [yV,List.cons.injEq] at hT;obtain ⟨ls,k1,k2,k3⟩:=Oc hT.2 h2;exact ⟨bX P n t d::ls,⟨Rj n hT.1 ⟨a6,_,_,h1⟩,k1⟩,by simp only [nD,BV,k2,ahJ hT.1],by simp [k3]⟩
 | [],_::_,_,_,_,h,_=>by simp at h
 | _::_,[],_,_,_,h,_=>by simp at h
 | [],[],_::_,_,_,_,h=>by simp [DataW.TrodAll] at h
 | [],[],[],_::_,_,_,h=>by simp [DataW.TrodAll] at h
 | _::_,_,[],_,_,_,h=>by simp [DataW.TrodAll] at h
 | _::_,_,_::_,[],_,_,h=>by simp [DataW.TrodAll] at h
def af3 {α β:Type} {p:α->β->Prop} {a:α}:∀{l:List β},gr p [a] l->∃x,l=[x]/\p a x
 | [x],h=>⟨x,rfl,h.1⟩
 | [],h=>h.elim
 | _::_::_,h=>h.2.elim
def af4 {α β:Type} {p:α->β->Prop} {a b:α}:∀{l:List β},gr p [a,b] l->∃x y,l=[x,y]/\p a x/\p b y
 | x::l,h=>let ⟨y,h1,h2⟩:=af3 h.2;⟨x,y,by rw [h1],h.1,h2⟩
 | [],h=>h.elim
def af5 {α β:Type} {p:α->β->Prop} {a b c:α}:∀{l:List β},gr p [a,b,c] l->∃x y z,l=[x,y,z]/\p a x/\p b y/\p c z
 | x::l,h=>let ⟨y,z,h1,h2,h3⟩:=af4 h.2;⟨x,y,z,by rw [h1],h.1,h2,h3⟩
 | [],h=>h.elim
end
end
section
open Go (IntKind)
abbrev EZ:Ty:= .sl (.int .i64)
abbrev PK:Ty:= .sl EZ
def Od:∀{ps:List (List AV)},(∀p,p∈ps->iZ (.int .i64) p)->∃zs:List Int,zs.length=ps.length/\ps.flatten=zs.map aa
 | [],_=>⟨[],rfl,rfl⟩
 | p::ps,h=>by
  obtain ⟨z,rfl,_⟩:=h p wP;obtain ⟨zs,h1,h2⟩:=Od (ps:=ps) (fun q hq=>h q (xT _ hq));exact ⟨z::zs,by simp [h1],by simp [h2]⟩
def Oe {l:List AV} (h:iZ EZ l):∃(v:AV) (zs:List Int),l=[v]/\aX v zs:=by
 rcases h with rfl | ⟨x,ps,rfl,h⟩
 ·exact ⟨_,[],rfl,oP⟩
 ·obtain ⟨zs,h1,h2⟩:=Od h;refine ⟨_,zs,rfl,?_⟩;rw [h2,<-h1];exact fM x zs
def Of:∀{ps:List (List AV)},(∀p,p∈ps->iZ EZ p)->∃s:List (List Int),s.length=ps.length/\ps.flatten.length=ps.length/\gr aX ps.flatten s
 | [],_=>⟨[],rfl,rfl,trivial⟩
 | p::ps,h=>by
  obtain ⟨v,zs,rfl,hv⟩:=Oe (h p wP);obtain ⟨s,h1,h2,h3⟩:=Of (ps:=ps) (fun q hq=>h q (xT _ hq));exact ⟨zs::s,by simp [h1],by simp [h2],hv,h3⟩
def X0 {l:List AV} (h:iZ PK l):∃(v:AV) (s:List (List Int)),l=[v]/\bK v s:=by
 rcases h with rfl | ⟨x,ps,rfl,h⟩
 ·exact ⟨_,[],rfl,abc⟩
 ·obtain ⟨s,h1,h2,h3⟩:=Of h;refine ⟨_,s,rfl,ps.flatten,?_,h3⟩
  have:=A8 x ps.flatten
  rwa [h2] at this
end
section
def bM:List Int->Int
 | []=>0
 | a::r=>if a=0 then bM r else a
def Xo {l:List Int} {i:Nat} (h:i<l.length):bM (l.drop i)=if l[i]=0 then bM (l.drop (i+1)) else l[i]:=by
 rw [yO h,bM]
def bA (lo hi:Int):List Int->Bool
 | []=>false
 | a::r=>if a<lo\/hi<a then true else bA lo hi r
def HG {lo hi:Int} {l:List Int} {i:Nat} (h:i<l.length):bA lo hi (l.drop i)=if l[i]<lo\/hi<l[i] then true else bA lo hi (l.drop (i+1)):=by
 rw [yO h,bA]
def cy (n:Nat) (lo hi:Int):List (List Int)->Int
 | []=>0
 | r::s=>if r.length≠n then 2 else if bA lo hi r=true then 3 else cy n lo hi s
def He {n:Nat} {lo hi:Int} {s:List (List Int)} {i:Nat} (h:i<s.length):
  cy n lo hi (s.drop i)=if s[i].length≠n then 2 else if bA lo hi s[i]=true then 3 else cy n lo hi (s.drop (i+1)):=by
 rw [yO h,cy]
def cF (s:List (List Int)):Int:=if s.length=0 then 12 else if 16<s.length then 5 else cy s.length (-1000) 1000 s
def jY (k:List (List Int)):Int:=if k.length=0 then 12 else if 5<k.length then 5 else if k.length%2=0 then 2 else cy k.length (-100) 100 k
def b6:List Int->Int
 | []=>0
 | a::r=>a+b6 r
def oK {l:List Int} {i:Nat} (h:i<l.length):b6 (l.take (i+1))=b6 (l.take i)+l[i]:=by
 induction l generalizing i with
 | nil=>exact absurd h (wE _)
 | cons a r ih=>
  cases i with
  | zero=>simp [b6]
  | succ i=>
   have h':i<r.length:=by simp_all
   simp only [xK,b6,List.getElem_cons_succ,ih h'];omega
def sL {l:List Int} (h:bA 0 1000 l=false):0<=b6 l/\b6 l<=1000*l.length:=by
 induction l with
 | nil=>simp [b6]
 | cons a r ih=>
  simp only [bA] at h
  split at h
  ·grind
  ·rename_i hc
   have:=ih h
   simp only [b6,yz];omega
def sQ {lo hi:Int} {l:List Int} (h:bA lo hi l=false):∀i (bP:i<l.length),lo<=l[i]/\l[i]<=hi:=by
 induction l with
 | nil=>intro i bP;exact absurd bP (wE _)
 | cons a r ih=>
  simp only [bA] at h
  grind
def HI {lo hi:Int} {l:List Int} (h:bA lo hi l=false):∀i,bA lo hi (l.take i)=false:=by
 induction l with
 | nil=>intro i;simp [bA]
 | cons a r ih=>
  intro i;simp only [bA] at h
  split at h
  ·grind
  ·rename_i hc
   cases i with
   | zero=>simp [bA]
   | succ i=>simp only [xK,bA,hc,yG,ih h i]
def jd (key side:Int) (w:List Int):Int:=
 if key<1\/2147483646<key then 3 else if side<1\/16<side then 3 else if w.length=0 then 12 else if 33<w.length then 5 else if w.length%2=0 then 2 else
 if bA 0 1000 w=true then 3 else if b6 w=0 then 6 else 0
def bB (s:List (List Int)) (c r:Int):Int:=(s.getD (r%s.length).toNat []).getD (c%s.length).toNat 0
def ado {n m:Int} (h:0<m):(n.tmod m+m).tmod m=n%m:=by
 have e:n.tmod m=if 0<=n\/m∣n then n%m else n%m-m:=by
  grind
 have h1:=Int.emod_nonneg n (by omega:m≠0);rw [e]
 split
 ·rw [yT (by omega),Int.add_emod_right,yax]
 ·rw [show n%m-m+m=n%m by omega,yT h1,yax]
def jx {n:Nat} {lo hi:Int} {s:List (List Int)} (h:cy n lo hi s=0):∀i (bP:i<s.length),s[i].length=n/\bA lo hi s[i]=false:=by
 induction s with
 | nil=>intro i bP;exact absurd bP (wE _)
 | cons r s ih=>
  simp only [cy] at h
  grind
end
section
def dv:List Int->Nat
 | []=>0
 | a::r=>a.toNat+1000000000*dv r
def jy:∀(a b:List Int),dv (a++b)=dv a+1000000000^a.length*dv b
 | [],b=>by simp [dv]
 | x::a,b=>by
  simp only [yH,dv,jy a b,yz,xy,xY]
  grind
def oU {l:List Int} (i:Nat):dv (l.take (i+1))=dv (l.take i)+1000000000^i*(l.getD i 0).toNat:=by
 by_cases h:i<l.length
 ·rw [wb h,jy,yK,xJ (by omega)];simp [dv,xk,List.getElem?_eq_getElem h]
 ·rw [yI (by omega),yI (by omega)]
  grind
abbrev dg (l:List Int):Prop:=bA 0 999999999 l=false
def fc {a b:List Int}:dg (a++b)↔dg a/\dg b:=by
 induction a with
 | nil=>simp [dg,bA]
 | cons x a ih=>
  simp only [dg,yH,bA] at ih ⊢
  grind
def iP {x:Int}:dg [x]↔0<=x/\x<1000000000:=by
 simp only [dg,bA]
 grind
def gb {l:List Int} (h:dg l) (i:Nat):0<=l.getD i 0/\l.getD i 0<1000000000:=by
 by_cases hi:i<l.length
 ·have:=sQ h i hi
  grind
 ·grind
def qM {l:List Int} (h:dg l) (i:Nat):dg (l.take i):=HI h i
def iy:∀{l:List Int},dg l->dv l<1000000000^l.length
 | [],_=>by simp [dv]
 | x::l,h=>by
  have h':dg ([x]++l):=h;obtain ⟨h1,h2⟩:=fc.1 h';have h1:=iP.1 h1
  have:=iy h2
  simp only [dv,yz,xy];omega
def di:List Int->List Int
 | []=>[]
 | a::r=>match di r with | []=>if a=0 then [] else [a] | t::q=>a::t::q
def AI:∀l:List Int,di (l++[0])=di l
 | []=>rfl
 | a::l=>by simp only [yH,di,AI l]
def DC {a:Int} (h:a≠0):∀l:List Int,di (l++[a])=l++[a]
 | []=>by simp [di,h]
 | b::l=>by
  simp only [yH,di,DC h l]
  cases hq:l++[a] with
  | nil=>simp at hq
  | cons t q=>rfl
def qF:∀l:List Int,dv (di l)=dv l
 | []=>rfl
 | a::l=>by
  have ih:=qF l;simp only [di,dv]
  split
  ·rename_i h;rw [h] at ih
   split
   ·rename_i h0;subst h0;simp [dv,<-ih]
   ·simp [dv,<-ih]
  ·rename_i t q h;rw [h] at ih;simp only [dv] at ih ⊢;omega
def qG:∀{l:List Int},dg l->dg (di l)
 | [],_=>rfl
 | a::l,h=>by
  have h':dg ([a]++l):=h;obtain ⟨h1,h2⟩:=fc.1 h';have ih:=qG h2;simp only [di]
  split
  ·grind
  ·rename_i t q hq;rw [hq] at ih
   exact (fc (a:=[a]) (b:=t::q)).2 ⟨h1,ih⟩
def DI:∀l:List Int,(di l).length<=l.length
 | []=>yC _
 | a::l=>by
  have ih:=DI l;simp only [di]
  grind
def snoc {α:Type} (l:List α):l=[]\/∃m a,l=m++[a]:=by
 rcases List.eq_nil_or_concat l with h | ⟨m,a,h⟩
 ·grind
 ·grind
def Xp:∀(n:Nat) (l:List Int),l.length=n->di (di l)=di l:=by
 intro n
 induction n with
 | zero=>intro l h;rw [yP h];rfl
 | succ n ih=>
  intro l h;rcases snoc l with rfl | ⟨m,a,rfl⟩
  ·rfl
  ·by_cases h0:a=0
   ·subst h0;rw [AI]
    grind
   ·rw [DC h0,DC h0]
def X1 (l:List Int):di (di l)=di l:=Xp _ l rfl
abbrev nz (l:List Int):Prop:=di l=l
def A9 (l:List Int):nz (di l):=X1 l
def E0 {l:List Int} (h:nz l) (hd:dg l) (h0:l≠[]):1000000000^(l.length-1)<=dv l:=by
 rcases snoc l with rfl | ⟨m,a,rfl⟩
 ·grind
 ·by_cases ha:a=0
  ·subst ha
   have:=DI m
   have e:=congrArg yaB h;rw [AI] at e
   grind
  ·rw [jy]
   have:=iP.1 (fc.1 hd).2
   simp only [dv,yW,uI,tx,vD,xS];have h1:1<=a.toNat:=by omega
   have:=xq (1000000000^m.length) h1
   omega
def PL {l:List Int} (h:nz l) (hd:dg l) (h0:dv l=0):l=[]:=by
 by_cases hl:l=[]
 ·grind
 ·have:=E0 h hd hl
  grind
def Rk {a b:List Int} (ha:dg a) (hb:nz b) (dn:dg b) (h:a.length<b.length):dv a<dv b:=by
 have h1:=iy ha;have h2:=E0 hb dn (fun e=>by subst e;simp at h);have h3:1000000000^a.length<=1000000000^(b.length-1):=Nat.pow_le_pow_right (by decide) (by omega);omega
def iC (m n:Nat):Int:=if m<n then -1 else if n<m then 1 else 0
def Rl {l:List Int} {i:Nat} (h:i<l.length):dv l=dv (l.take i)+1000000000^i*(l[i].toNat+1000000000*dv (l.drop (i+1))):=by
 have e:l=l.take i++l[i]::l.drop (i+1):=by simp_all
 have:dv l=dv (l.take i++l[i]::l.drop (i+1)):=congrArg dv e
 rw [this,jy,yK,xJ (by omega)];rfl
def PM {a b:List Int} {i:Nat} (ha:dg a) (hb:dg b) (h1:i<a.length) (h2:i<b.length) (he:a.drop (i+1)=b.drop (i+1)) (h:a[i]<b[i]):dv a<dv b:=by
 rw [Rl h1,Rl h2,he];have hl:=iy (qM ha i);have g1:=sQ ha i h1;have h3:a[i].toNat+1000000000*dv (b.drop (i+1))+1<=b[i].toNat+1000000000*dv (b.drop (i+1)):=by omega
 have:=xq (1000000000^i) h3
 grind
def IT:∀{l:List Int} {j:Nat} {x:Int},j<l.length->dv (l.set j x)+1000000000^j*(l.getD j 0).toNat=dv l+1000000000^j*x.toNat
 | [],j,x,h=>by simp at h
 | a::l,0,x,_=>by simp [dv];omega
 | a::l,j+1,x,h=>by
  have ih:=IT (l:=l) (j:=j) (x:=x) (by simpa using h);simp only [List.set_cons_succ,dv,List.getD_cons_succ,xy]
  grind
def Ey {l:List Int} (h:dg l) {j:Nat} {x:Int} (hx:0<=x/\x<1000000000):dg (l.set j x):=by
 by_cases hj:j<l.length
 ·rw [List.set_eq_take_append_cons_drop,yS hj];have e:l=l.take (j+1)++l.drop (j+1):=(List.take_append_drop _ _).symm;have hd:dg (l.drop (j+1)):=by rw [e] at h;exact (fc.1 h).2
  exact fc.2 ⟨qM h j,(fc (a:=[x]) (b:=l.drop (j+1))).2 ⟨iP.2 hx,hd⟩⟩
 ·rw [List.set_eq_of_length_le (by omega)];exact h
def Og {l:List Int} {j m:Nat} {x:Int} (h:m≠j):(l.set j x).getD m 0=l.getD m 0:=by grind
def abf {V0 V V' p q A X Y o c s:Nat} (hs:s=o+A*X+c) (aW:V'+p*q*o=V+p*q*(s%1000000000)) (hv:V+p*q*c=V0+p*(A*Y)):
  V'+p*(q*1000000000)*(s/1000000000)=V0+p*(A*(Y+q*X)):=by
 have e:=Nat.mod_add_div s 1000000000;have e2:p*q*s=p*q*(s%1000000000)+p*(q*1000000000)*(s/1000000000):=by
  conv=>lhs;rw [<-e]
  rw [xY,<-xZ (p*q),<-xZ p q]
 have e3:p*q*s=p*q*o+p*q*(A*X)+p*q*c:=by rw [hs,xY,xY]
 have e4:p*(A*(Y+q*X))=p*(A*Y)+p*q*(A*X):=by
  rw [xY,xY,xZ p q,<-xZ A q X,uR A q,xZ q A X]
 omega
def Oh (n:Nat):dv (yx n 0)=0:=by
 induction n with
 | zero=>rfl
 | succ n ih=>simp [List.replicate_succ,dv,ih]
def Oi (n:Nat):dg (yx n 0):=by
 induction n with
 | zero=>rfl
 | succ n ih=>exact (fc (a:=[0]) (b:=yx n 0)).2 ⟨by decide,ih⟩
end
section
def bv (b:Nat):List Nat->Nat
 | []=>0
 | a::r=>a+b*bv b r
def lo (b:Nat) (l:List Nat):Prop:=∀x,x∈l->x<b
section
variable {b:Nat}
def Ro (a:Nat):bv b [a]=a:=by simp [bv]
def DJ:∀(l m:List Nat),bv b (l++m)=bv b l+b^l.length*bv b m
 | [],m=>by simp [bv]
 | x::l,m=>by
  simp only [yH,bv,DJ l m,yz,xy,xY]
  grind
def gd {l:List Nat} {i:Nat} (h:i<l.length):l[i]=l.getD i 0:=by simp_all
def af6 {l:List Nat} {i:Nat} (h:l.length<=i):l.getD i 0=0:=by simp_all
def Ba {l:List Nat} (i:Nat):bv b (l.take (i+1))=bv b (l.take i)+b^i*l.getD i 0:=by
 by_cases h:i<l.length
 ·rw [wb h,DJ,yK,xJ (by omega),Ro,gd h]
 ·rw [yI (by omega),yI (by omega),af6 (by omega),vD,xS]
def Bx (hb:0<b) {l:List Nat} (h:lo b l) (i:Nat):l.getD i 0<b:=by
 by_cases hi:i<l.length
 ·rw [<-gd hi];exact h _ (List.getElem_mem hi)
 ·grind
def PN {l:List Nat} (h:lo b l) (i:Nat):lo b (l.take i):=fun x hx=>h x (List.mem_of_mem_take hx)
def Jg:∀{l:List Nat},lo b l->bv b l<b^l.length
 | [],_=>by simp [bv]
 | x::l,h=>by
  have h1:=h x (by simp);have h2:=Jg (l:=l) (fun y hy=>h y (by simp [hy]));simp only [bv,yz,xy,uR _ b]
  have:=xq b (show bv b l+1<=b^l.length from h2)
  grind
def jH:List Nat->List Nat
 | []=>[]
 | a::r=>match jH r with | []=>if a=0 then [] else [a] | t::q=>a::t::q
def Hf:∀l:List Nat,jH (l++[0])=jH l
 | []=>rfl
 | a::l=>by simp only [yH,jH,Hf l]
def Hg {a:Nat} (h:a≠0):∀l:List Nat,jH (l++[a])=l++[a]
 | []=>by simp [jH,h]
 | b::l=>by
  simp only [yH,jH,Hg h l]
  cases hq:l++[a] with
  | nil=>simp at hq
  | cons t q=>rfl
abbrev ov (l:List Nat):Prop:=jH l=l
def X2:∀(n:Nat) (l:List Nat),l.length=n->∃i,i<=n/\jH l=l.take i/\ov (l.take i)/\bv b (l.take i)=bv b l:=by
 intro n
 induction n with
 | zero=>intro l h;rw [yP h];exact ⟨0,yC _,rfl,rfl,rfl⟩
 | succ n ih=>
  intro l h;rcases snoc l with rfl | ⟨m,a,rfl⟩
  ·grind
  ·have hm:m.length=n:=by simp_all
   by_cases h0:a=0
   ·subst h0;obtain ⟨i,h1,h2,h3,h4⟩:=ih m hm;have e:(m++[0]).take i=m.take i:=by grind
    refine ⟨i,by omega,by rw [Hf,h2,e],by rw [e];exact h3,?_⟩
    rw [e,h4,DJ];simp [bv]
   ·have e:(m++[a]).take (n+1)=m++[a]:=yI (by simp [hm]);exact ⟨n+1,yC _,by rw [e,Hg h0],by rw [e];exact Hg h0 m,by rw [e]⟩
def Zl (l:List Nat):∃i,i<=l.length/\jH l=l.take i/\ov (jH l)/\bv b (jH l)=bv b l:=by
 obtain ⟨i,h1,h2,h3,h4⟩:=X2 (b:=b) l.length l rfl
 grind
def Zm (l:List Nat):(jH l).length<=l.length:=by
 obtain ⟨i,_,h2,_⟩:=Zl (b:=2) l
 grind
def abg {l:List Nat} (h:ov l) (h0:l≠[]):l.getD (l.length-1) 0≠0:=by
 rcases snoc l with rfl | ⟨m,a,rfl⟩
 ·grind
 ·intro ha
  have:a=0:=by
   grind
  subst this;have e:=congrArg yaB h;rw [Hf] at e
  have:=Zm m
  grind
def af7 (hb:0<b) {l:List Nat} (h:ov l) (h0:l≠[]):b^(l.length-1)<=bv b l:=by
 rcases snoc l with rfl | ⟨m,a,rfl⟩
 ·grind
 ·have ha:=abg h h0;simp [xk] at ha;rw [DJ,Ro];simp only [yW,uI,tx]
  have:=xq (b^m.length) (show 1<=a by omega)
  omega
def abh (hb:0<b) {l:List Nat} (h:ov l) (h0:bv b l=0):l=[]:=by
 by_cases hl:l=[]
 ·grind
 ·have:=af7 hb h hl
  grind
def Mv {V v1 v2 vr U u0 u1 u2 ur p t r:Nat} (hV:V=(v1*b+v2)*p+vr) (hU:U=((u0*b+u1)*b+u2)*p+ur) (hur:ur<p)
  (ht:t*v1+r=u0*b+u1) (h:r*b+u2<t*v2):U/V<=t-1:=by
 have h1:U<t*V:=by
  have e:t*((v1*b+v2)*p)=((t*v1)*b+t*v2)*p:=by
   grind
  have h2:((u0*b+u1)*b+u2)+1<=(t*v1)*b+t*v2:=by rw [<-ht,vd];omega
  have h3:=xr p h2;rw [hV,hU,xY,e]
  grind
 have ow:0<V:=by
  grind
 have:=(Nat.div_lt_iff_lt_mul ow).2 h1
 omega
def Nj {V v1 v2 vr U u0 u1 u2 ur p t r:Nat} (hb:0<b) (hV:V=(v1*b+v2)*p+vr) (KM:vr<p) (hU:U=((u0*b+u1)*b+u2)*p+ur) (eI:0<v1) (cR:v2<b) (iH:t<b)
  (ht:t*v1+r=u0*b+u1) (h:b<=r\/t*v2<=r*b+u2):t<=U/V+1:=by
 have h2:t*v2<=r*b+u2:=by
  rcases h with h | h
  ·have:=Nat.mul_le_mul (uJ iH) (uJ cR)
   have:=xr b h
   omega
  ·exact h
 have h3:t*(v1*b+v2)<=(u0*b+u1)*b+u2:=by
  rw [xY,<-xZ,<-ht,vd];omega
 have hp:0<p:=by omega
 have amQ:b<=v1*b:=Nat.le_mul_of_pos_left b eI;have ow:0<V:=by
  have:=Nat.mul_pos (show 0<v1*b+v2 by omega) hp
  omega
 rcases Nat.eq_zero_or_pos t with h0 | h0
 ·grind
 ·obtain ⟨s,rfl⟩:∃s,t=s+1:=⟨t-1,by omega⟩;have h4:s*V<=U:=by
   have h5:V<=(v1*b+v2+1)*p:=by grind
   have h6:=xq s h5;have h7:s*(v1*b+v2+1)<=(s+1)*(v1*b+v2):=by
    grind
   have h8:=xr p (Nat.le_trans h7 h3)
   grind
  exact Nat.succ_le_succ ((uT ow).2 h4)
def LS {V v1 v2 vr U u0 u1 u2 ur p:Nat} (hV:V=(v1*b+v2)*p+vr) (hU:U=((u0*b+u1)*b+u2)*p+ur) (hur:ur<p) (Gn:u2<b) (eI:0<v1):U/V<=(u0*b+u1)/v1:=by
 by_cases ow:V=0
 ·grind
 ·refine (uT eI).2 ?_;have h1:=Nat.div_mul_le_self U V;generalize U/V=q at h1 ⊢;have h2:q*v1*(b*p)<=q*V:=by
   rw [hV,xZ]
   grind
  have h3:U<(u0*b+u1+1)*(b*p):=by
   have:(u0*b+u1)*b+u2+1<=(u0*b+u1+1)*b:=by grind
   have:=xr p this
   grind
  have h4:q*v1*(b*p)<(u0*b+u1+1)*(b*p):=by omega
  have:=uk h4
  omega
def Nk {V v1 v2 vr U u0 u1 u2 ur p:Nat} (hV:V=(v1*b+v2)*p+vr) (hU:U=((u0*b+u1)*b+u2)*p+ur) (KM:vr<p) (cR:v2<b) (h:U<b*V):u0<=v1:=by
 refine Nat.le_of_lt_succ ?_;have h1:V<(v1+1)*(b*p):=by
  have:v1*b+v2+1<=(v1+1)*b:=by grind
  have:=xr p this
  grind
 have h2:u0*(b*(b*p))<=U:=by
  grind
 have h3:=xq b (uJ h1);have e:b*((v1+1)*(b*p))=(v1+1)*(b*(b*p)):=by grind
 rw [e] at h3;have h4:u0*(b*(b*p))<(v1+1)*(b*(b*p)):=Nat.lt_of_le_of_lt h2 (Nat.lt_of_lt_of_le h h3);exact uk h4
end
end
section
open Go (IntKind)
section
variable {P:aA} {L:Lib}
abbrev an (P:aA) (L:Lib) (f:Nat) (vals:List AV) (r:AV):Prop:=cf P L (D P L) f vals=some r
def lh (h:Has P L 30 ol) (n lo hi:Int):an P L 30 [aa n,aa lo,aa hi] (aa (if n<lo\/hi<n then 3 else 0)):=by
 unfold an;rw [aT h];by_cases h1:n<lo
 ·simp only [go_sem,ya,ol,h1,true_or,yQ]
 ·by_cases h2:hi<n
  ·simp only [go_sem,ya,ol,h1,h2,or_true,yQ]
  ·simp only [go_sem,ya,ol,h1,h2,or_self,yG]
def jU (h:Has P L 31 om) (b:Bool) (n:Int):an P L 31 [.bool b,aa n] (aa (if b=true then n else 0)):=by
 unfold an;rw [aT h]
 cases b with
 | true=>simp only [go_sem,ya,om,yQ]
 | false=>simp only [go_sem,ya,om];rfl
def Ag (h:Has P L 34 ot) (eD:Has P L 31 om) (n lo hi:Int):an P L 34 [aa n,aa lo,aa hi] (aa (if n<lo\/hi<n then 3 else 0)):=by
 unfold an;rw [aT h];by_cases h1:n<lo
 ·simp only [go_sem,ya,ot,h1,true_or,yQ,jU eD]
 ·by_cases h2:hi<n
  ·simp only [go_sem,ya,ot,h1,h2,or_true,yQ,jU eD]
  ·simp only [go_sem,ya,ot,h1,h2,or_self,yG,jU eD];rfl
def s36 (h:Has P L 36 F5) (jv:Has P L 34 ot) (eD:Has P L 31 om) (n:Int):an P L 36 [aa n] (aa (if n<0\/1000<n then 3 else 0)):=by
 unfold an;rw [aT h];simp only [go_sem,ya,F5,Ag jv eD]
def s38 (h:Has P L 38 CN) (a b:Int):an P L 38 [aa a,aa b] (aa (IntKind.wrap .i64 (a+b))):=by
 unfold an;rw [aT h];simp only [go_sem,ya,CN]
def sa (h:Has P L 33 CM) {v:AV} {l:List Int} (hv:aX v l) (hl:l.length<=1000000):an P L 33 [v] (aa (bM l)):=by
 unfold an;rw [aT h];simp only [go_sem,ya,CM,hv.len];have key:=Ic (P:=P) (L:=L) (live:=[5,6,7]) (a:=EQ)
  (I:=fun k s=>∃tm ct i,s=⟨tm,[],ct,0⟩/\ah tm 5=v/\ah tm 6=aa l.length/\ah tm 7=aa (i:Nat)/\i+k=l.length/\bM (l.drop i)=bM l)
  (Q:=fun ex s=>∃tm,s=⟨tm,[],0,0⟩/\((ex= .ret/\ah tm 2=aa (bM l))\/(ex= .exit 0/\bM l=0))) ?_ l.length
 ·generalize hq:D P L (.loop [5,6,7] EQ) _=q;obtain ⟨ex,s,rfl,tm,rfl,h2⟩:=cm hq key ⟨_,_,0,rfl,rfl,rfl,rfl,by omega,rfl⟩;rcases h2 with ⟨rfl,h2⟩ | ⟨rfl,h2⟩
  ·simp only [go_sem,h2]
  ·rw [h2];simp only [go_sem]
 ·rintro k s ⟨tm,ct,i,rfl,h5,h6,h7,hk,hf⟩;rw [LA (by simp only [go_sem,h5,h6,h7,hv.pu])];simp only [go_sem,ya,h5,h6,h7,EQ];by_cases hi:i<l.length
  ·have bP:(i:Int)<l.length:=by omega
   rw [Xo hi] at hf;by_cases hz:l[i]=0
   ·left
    simp only [go_sem,ya,bP,hv.a7 hi,hz];refine ⟨_,k-1,rfl,by omega,_,_,i+1,rfl,?_⟩;rw [wrap64 (by omega) (by omega)];rw [yS hz] at hf;simp only [go_sem,ya];exact ⟨trivial,trivial,rfl,by omega,hf⟩
   ·right
    simp only [go_sem,ya,bP,hv.a7 hi,hz];rw [yD hz] at hf;refine ⟨_,_,rfl,by simp,_,rfl,.inl ⟨rfl,?_⟩⟩;simp only [go_sem,hf]
  ·right
   have bP:¬(i:Int)<l.length:=by omega
   simp only [go_sem,bP];refine ⟨_,_,rfl,by simp,_,rfl,.inr ⟨rfl,?_⟩⟩;rw [<-hf,yZ (by omega)];rfl
def Ui (h:Has P L 134 rH) {n m:Int} (hm:0<m) (ek:m<=1000000):an P L 134 [aa n,aa m] (aa (n%m)):=by
 unfold an;rw [aT h];have h1:m≠0:=by omega
 have h2:n.tmod m<m:=Int.tmod_lt_of_pos n hm;have h3: -m<n.tmod m:=by
  have h:=Int.lt_tmod_of_pos n hm;omega
 simp only [go_sem,ya,rH,dw _ _ _ h1,wrap64 (n:=n.tmod m+m) (by omega) (by omega),ado hm]
end
end
section
open Go (IntKind)
section
variable {P:aA} {L:Lib} {f:bZ} {tm:Env} {hp:Hp} {ct:Nat}
def Zn (k:yJ) (n:Int):cellsOf (.int k n)=[.int k n]:=(rfl)
def X3 (b:Bool):cellsOf (.bool b)=[.bool b]:=(rfl)
def Zo (s:List Nat):cellsOf (.str s)=[.str s]:=(rfl)
def X4:cellsOf .ab=[.ab]:=(rfl)
def Zp (e:Bool) (n:Nat) (cs:List AV):cellsOf (.aC e n cs)=[.aC e n cs]:=(rfl)
def Zq (id o n:Nat):cellsOf (.aq id o n)=[.aq id o n]:=(rfl)
def Zr (id o:Nat):cellsOf (.ptr id o)=[.ptr id o]:=(rfl)
def abi (g:Fr) (a b:List AV):cellsOf (.fn g a b)=[.fn g a b]:=(rfl)
def Zs (cs:List AV):cellsOf (.agg cs)=cs:=(rfl)
def Ek (k:yJ) (n:Int):cg (.int k n)=true:=(rfl)
def abj (b:Bool):cg (.bool b)=true:=(rfl)
def adp (s:List Nat):cg (.str s)=true:=(rfl)
def abk:cg .ab=true:=(rfl)
def adq (e:Bool) (n:Nat) (cs:List AV):cg (.aC e n cs)=true:=(rfl)
def adr (id o n:Nat):cg (.aq id o n)=true:=(rfl)
def ads (id o:Nat):cg (.ptr id o)=true:=(rfl)
def af8 (g:Fr) (a b:List AV):cg (.fn g a b)=true:=(rfl)
def abl:bT []=true:=(rfl)
def Nl (v:AV) (r:List AV):bT (v::r)=(cg v&&bT r):=(rfl)
def Zt:ax []=true:=(rfl)
def Mw (v:AV) (r:List AV):ax (v::r)=(aG v&&ax r):=(rfl)
def af9 (id o:Nat):aG (.ptr id o)=false:=(rfl)
def Rr (id o n:Nat):aG (.aq id o n)=false:=(rfl)
def ahK (g:Nat) (a b:List AV):aG (.fn (.f g) a b)=(ax a&&ax b):=(rfl)
def ajf (l:Nat) (a b:List AV):aG (.fn (.y l) a b)=false:=(rfl)
def aga (cs:List AV):aG (.agg cs)=ax cs:=(rfl)
def agb (cs:List AV):aG (.ay cs)=ax cs:=(rfl)
def px (ct sz:Nat) (cs:List AV):Option (AV×Obj):=bif yq cs.length sz&&bT cs then some (.ptr ct 0,.cells true (ax cs) true sz cs) else none
def agc (sz:Nat) (x:X):bV tm hp ct (.box sz x)=px ct sz (cellsOf (ao tm x)):=rfl
def Sz {v:AV} (h:cg v=true):px ct 1 [v]=some (.ptr ct 0,.cells true (aG v&&true) true 1 [v]):=by
 simp [px,bT,ax,h]
def b9 {cs:List AV} {n:Nat} (hn:cs.length=n) (h:bT cs=true):px ct n cs=some (.ptr ct 0,.cells true (ax cs) true n cs):=by
 subst hn;simp [px,h]
def iI (hp:Hp) (ct id o sz:Nat) (new:List AV) (q:Option Obj):ez:=
 match q with
 | some (.cells true pu ex z cs)=>bif yq new.length sz&&yA (o+sz) cs.length&&bT new then some (.ay [],aW hp id (.cells true (pu&&ax new) ex z (over o new cs)),ct) else none
 | _=>none
def VF (hp:Hp) (ct sz:Nat) (p:AV) (new:List AV):ez:=match p with | .ptr id o=>iI hp ct id o sz new (aj hp id) | _=>none
def abm (sz:Nat) (x v:X):b8 tm hp ct (.st sz x v)=VF hp ct sz (ao tm x) (cellsOf (ao tm v)):=rfl
def ahL (sz id o:Nat) (new:List AV):VF hp ct sz (.ptr id o) new=iI hp ct id o sz new (aj hp id):=rfl
def ajg {v u:AV} {id z:Nat} {pu ex:Bool} (h:cg v=true):iI hp ct id 0 1 [v] (some (.cells true pu ex z [u]))=some (.ay [],aW hp id (.cells true (pu&&(aG v&&true)) ex z [v]),ct):=by
 simp [iI,bT,ax,h,over];rfl
def zp {new cs:List AV} {id o sz z:Nat} {pu ex:Bool} (h1:new.length=sz) (h2:o+sz<=cs.length) (h:bT new=true):
  iI hp ct id o sz new (some (.cells true pu ex z cs))=some (.ay [],aW hp id (.cells true (pu&&ax new) ex z (over o new cs)),ct):=by
 subst h1;simp [iI,h,yv h2]
def E1 (ct n sz:Nat) (q:Option (List AV)):Option (AV×Obj):=match q with | some cs=>bif yq cs.length (n*sz) then some (.aq ct 0 n,.cells true (ax cs) true sz cs) else none | none=>none
def adt (n sz:Nat) (z:List AV) (ps:List (Nat×Nat×X)):bV tm hp ct (.cd n sz z ps)=E1 ct n sz (fill tm z ps):=by
 simp only [bV,E1];cases fill tm z ps<;>rfl
def adu {n sz:Nat} {cs:List AV} (h:cs.length=n*sz):E1 ct n sz (some cs)=some (.aq ct 0 n,.cells true (ax cs) true sz cs):=by
 simp [E1,h]
def BW (tm:Env) (cs:List AV) (o sz:Nat) (new:List AV) (r:List (Nat×Nat×X)):Option (List AV):=
 bif yq new.length sz&&yA (o+sz) cs.length&&bT new then fill tm (over o new cs) r else none
def abn (cs:List AV):fill tm cs []=some cs:=rfl
def Zu (cs:List AV) (o sz:Nat) (x:X) (r:List (Nat×Nat×X)):fill tm cs ((o,sz,x)::r)=BW tm cs o sz (cellsOf (ao tm x)) r:=rfl
def adv {cs:List AV} {o:Nat} {v:AV} {r:List (Nat×Nat×X)} (h1:o+1<=cs.length) (h2:cg v=true):BW tm cs o 1 [v] r=fill tm (over o [v] cs) r:=by
 simp [BW,bT,h2,yv h1]
def ahM (v u:AV) (r:List AV):over 0 [v] (u::r)=v::r:=rfl
def ahN (v a u:AV) (r:List AV):over 1 [v] (a::u::r)=a::v::r:=rfl
def ahO (v a b u:AV) (r:List AV):over 2 [v] (a::b::u::r)=a::b::v::r:=rfl
def ahP (v a b c u:AV) (r:List AV):over 3 [v] (a::b::c::u::r)=a::b::c::v::r:=rfl
def ahQ (v a b c d u:AV) (r:List AV):over 4 [v] (a::b::c::d::u::r)=a::b::c::d::v::r:=rfl
def ahR (v a b c d e u:AV) (r:List AV):over 5 [v] (a::b::c::d::e::u::r)=a::b::c::d::e::v::r:=rfl
def py (ct sz by':Nat) (zero:List AV) (l c:Option Nat):Option (AV×Obj):=
 match l,c with
 | some l,some c=>bif yA l c&&(yA c room&&(yA (c*by') room&&(yq zero.length sz&&bT zero))) then some (.aq ct 0 l,.cells true (ax zero) (yq l c) sz (yx l zero).flatten) else none
 | _,_=>none
def agd (sz by':Nat) (z:List AV) (l c:X):bV tm hp ct (.eT sz by' z l c)=py ct sz by' z (cP (ao tm l)) (cP (ao tm c)):=by
 simp only [bV,py]
 grind
def By {sz by' l:Nat} {z:List AV} (h1:l<=1099511627776) (h2:l*by'<=1099511627776) (h3:z.length=sz) (h4:bT z=true):
  py ct sz by' z (some l) (some l)=some (.aq ct 0 l,.cells true (ax z) true sz (yx l z).flatten):=by
 subst h3;simp [py,h4,yv (show l<=room from h1),yv (show l*by'<=room from h2),yv (yC l)]
def rM (hp:Hp) (ct sz by':Nat) (s:AV) (src:Option (Nat×List AV)):ez:=
 match src with
 | none=>none
 | some (m,new)=>
  match s with
  | .ab=>
   bif yq m 0 then some (.ab,hp,ct)
   else bif yA m room&&(yA (m*by') room&&yB 0 sz) then some (.aq ct 0 m,(ct,.cells true (ax new) false sz new)::hp,ct+1) else none
  | .aC true n cs=>
   bif yq m 0 then some (.aC true n cs,hp,ct)
   else bif yA (n+m) room&&(yA ((n+m)*by') room&&(yq cs.length (n*sz)&&yB 0 sz)) then some (.aq ct 0 (n+m),(ct,.cells true (ax cs&&ax new) false sz (cs++new))::hp,ct+1) else none
  | .aq id o n=>
   match aj hp id with
   | some (.cells true pu _ z cs)=>
    bif yq z sz&&(yA (n+m) room&&(yA ((n+m)*by') room&&(yA (o+n*sz) cs.length&&(yB 0 sz&&bT new)))) then
     some (.aq ct 0 (n+m),(ct,.cells true (pu&&ax new) false sz (slice o (n*sz) cs++new))::cp hp id,ct+1)
    else none
   | _=>none
  | _=>none
def Zv (sz by':Nat) (s x:X):b8 tm hp ct (.cC sz by' s x)=rM hp ct sz by' (ao tm s) (nu hp sz (ao tm x)):=by
 simp only [b8,rM]
 cases nu hp sz (ao tm x) with
 | none=>rfl
 | some q=>obtain ⟨m,new⟩:=q;cases ao tm s<;>rfl
def X5 (sz id o n:Nat):nu hp sz (.aq id o n)=lD hp sz (.aq id o n):=rfl
def X6 (sz:Nat) (e:Bool) (n:Nat) (cs:List AV):nu hp sz (.aC e n cs)=lD hp sz (.aC e n cs):=rfl
def Xq (sz:Nat):nu hp sz .ab=some (0,[]):=rfl
def VG (o n sz:Nat) (q:Option Obj):Option (Nat×List AV):=match q with | some (.cells _ _ _ _ cs)=>bif yA (o+n*sz) cs.length then some (n,slice o (n*sz) cs) else none | _=>none
def Xr (sz id o n:Nat):lD hp sz (.aq id o n)=VG o n sz (aj hp id):=rfl
def ahS (rw pu ex:Bool) (z:Nat) (v:AV):VG 0 1 1 (some (.cells rw pu ex z [v]))=some (1,[v]):=rfl
def mq {sz by':Nat} {new:List AV} {m:Nat} (hm:0<m) (h1:m<=1099511627776) (h2:m*by'<=1099511627776) (hs:0<sz):
  rM hp ct sz by' .ab (some (m,new))=some (.aq ct 0 m,(ct,.cells true (ax new) false sz new)::hp,ct+1):=by
 have e1:yq m 0=false:=ck (by omega);have e2:yB 0 sz=true:=yv hs;simp [rM,e1,e2,yv (show m<=room from h1),yv (show m*by'<=room from h2)]
def mr {sz by' id n m:Nat} {pu ex:Bool} {cs new:List AV} (hg:aj hp id=some (.cells true pu ex sz cs)) (hl:cs.length=n*sz) (h1:n+m<=1099511627776) (h2:(n+m)*by'<=1099511627776) (hs:0<sz) (ho:bT new=true):
  rM hp ct sz by' (.aq id 0 n) (some (m,new))=some (.aq ct 0 (n+m),(ct,.cells true (pu&&ax new) false sz (cs++new))::cp hp id,ct+1):=by
 have e2:yB 0 sz=true:=yv hs;simp only [rM,hg];simp [e2,ho,yv (show n+m<=room from h1),yv (show (n+m)*by'<=room from h2),<-hl,slice,yv (yC cs.length)]
def Uj (n:Nat) (g:Nat) (cap:List AV) (q:Option (List AV×Hp)):Option (AV×Hp):=match q with | some (first,hp)=>(match bO n hp cap with | some (E5,lR)=>some (.fn (.f g) first E5,lR) | none=>none) | none=>none
def Uk (g:Nat) (first:List AV) (q:Option (List AV×Hp)):Option (AV×Hp):=match q with | some (cap,hp)=>some (.fn (.f g) first cap,hp) | none=>none
def age (n g:Nat) (first cap:List AV):freeze (n+1) hp (.fn (.f g) first cap)=Uj n g cap (bO n hp first):=rfl
def agf (n g:Nat) (first cap:List AV):Uj n g cap (some (first,hp))=Uk g first (bO n hp cap):=rfl
def agh (g:Nat) (first cap:List AV):Uk g first (some (cap,hp))=some (.fn (.f g) first cap,hp):=rfl
def Ul (o:Nat) (q:Option (Bool×Nat×List AV×Hp)):Option (AV×Hp):=match q with | some (_,_,cs,hp)=>some (.aO (cs.drop o),hp) | none=>none
def adw (n id o:Nat):freeze (n+1) hp (.ptr id o)=Ul o (mj n hp id):=rfl
def agi (o:Nat) (ex:Bool) (sz:Nat) (cs:List AV):Ul o (some (ex,sz,cs,hp))=some (.aO (cs.drop o),hp):=rfl
def kI (o k:Nat) (q:Option (Bool×Nat×List AV×Hp)):Option (AV×Hp):=
 match q with
 | some (ex,sz,cs,hp)=>bif yA (o+k*sz) cs.length then some (.aC (ex&&yB 0 sz&&yq (o+k*sz) cs.length) k (slice o (k*sz) cs),hp) else none
 | none=>none
def IC (n id o k:Nat):freeze (n+1) hp (.aq id o k)=kI o k (mj n hp id):=rfl
def jz {sz k:Nat} {cs:List AV} (ex:Bool) (hl:cs.length=k*sz) (hs:0<sz):kI 0 k (some (ex,sz,cs,hp))=some (.aC ex k cs,hp):=by
 have e2:yB 0 sz=true:=yv hs;simp [kI,<-hl,e2,slice,yv (yC cs.length)]
def Ce (n id:Nat) (hp:Hp) (q:Option Obj):Option (Bool×Nat×List AV×Hp):=
 match q with
 | some (.cells rw pu ex sz cs)=>
  bif pu then some (ex,sz,cs,bif rw then aW hp id (.cells false true ex sz cs) else hp)
  else match bO n hp cs with
   | some (cK,ai)=>some (ex,sz,cK,aW ai id (.cells false false ex sz cs))
   | none=>none
 | _=>none
def ID (n id:Nat):mj (n+1) hp id=Ce n id hp (aj hp id):=rfl
def Rs (n id:Nat) (ex:Bool) (sz:Nat) (cs:List AV):Ce n id hp (some (.cells true true ex sz cs))=some (ex,sz,cs,aW hp id (.cells false true ex sz cs)):=rfl
def Ru (n id:Nat) (ex:Bool) (sz:Nat) (cs:List AV):Ce n id hp (some (.cells false true ex sz cs))=some (ex,sz,cs,hp):=rfl
def ef (n:Nat) (cs:List AV) (h:bO n hp cs=some (cs,hp)):freeze (n+1) hp (.agg cs)=some (.agg cs,hp):=by
 simp only [freeze,h]
def X7 {id n sz:Nat} {ex:Bool} {cs:List AV} (hg:aj hp id=some (.cells true true ex sz cs)) (hl:cs.length=n*sz) (hs:0<sz):result hp (.aq id 0 n)=some (.bS ex sz n cs):=by
 have e2:yB 0 sz=true:=yv hs;simp only [result,nt,hg,yy,<-hl,yv (yC cs.length),ym,e2,Bool.and_true,slice,vc,List.take_length]
 simp
def WQ (b:Bool):result hp (.ay [.ab,.bool b])=some (.ay [.ab,.bool b]):=rfl
def WR (k:yJ) (b:Int):result hp (.ay [.ab,.int k b])=some (.ay [.ab,.int k b]):=rfl
def WS (e:Bool) (n:Nat) (cs:List AV) (k:yJ) (b:Int):result hp (.ay [.aC e n cs,.int k b])=some (.ay [.aC e n cs,.int k b]):=rfl
def Zw (s:St):kA [] s=some s:=rfl
def KN (t:Nat) (r:List Nat) (tm:Env) (ct base:Nat) (q:Option (AV×Hp)):Option St:=match q with | some (v,hp)=>kA r ⟨(t,v)::tm,hp,ct,base⟩ | none=>none
def X8 (t:Nat) (r:List Nat) (tm:Env) (hp:Hp) (ct base:Nat):kA (t::r) ⟨tm,hp,ct,base⟩=KN t r tm ct base (freeze deep hp (ah tm t)):=by
 simp only [kA,KN];cases freeze deep hp (ah tm t)<;>rfl
def ahT (t:Nat) (r:List Nat) (tm:Env) (ct base:Nat) (v:AV) (hp:Hp):KN t r tm ct base (some (v,hp))=kA r ⟨(t,v)::tm,hp,ct,base⟩:=rfl
end
attribute [go_sem] WQ WR WS Zn X3 Zo X4 Zp Zq Zr abi Zs Ek abj adp abk adq adr ads af8 abl Nl
 Zt Mw af9 Rr ahK ajf aga agb agc Sz abm ahL ajg adt abn Zu ahM ahN ahO ahP ahQ ahR agd
 Zv X5 X6 Xq Xr ahS age agf agh adw agi IC jz adu adv ID Rs Ru Zw X8 ahT
 Bool.and_false Bool.false_and vc eq_self
end
section
open Go (IntKind)
def Oj:∀hp:Hp,b7 0 hp=[]
 | []=>rfl
 | (id,o)::r=>by
  have:yB id 0=false:=rfl
  simp only [b7,this,yu,Oj r]
def Rv (f:Nat->Option Nat):∀hp:Hp,iQ 0 f hp=[]
 | []=>rfl
 | (id,o)::r=>by
  have:yB id 0=false:=rfl
  simp only [iQ,this,yu,Rv f r]
def pos (seen:List Nat):Nat->Option Nat:=fun id=>iS id seen 0
def JE (tm:Env) (hp:Hp) (seen:List Nat):St:=⟨hZ (pos seen) tm,hX hp (pos seen) seen 0 [],seen.length,0⟩
def mZ (hp:Hp):Nat->List Nat->List Nat->List Nat:=reach hp 0
def aJ (live:List Nat) (tm:Env) (hp:Hp) (ct:Nat):bw live ⟨tm,hp,ct,0⟩=JE (cz tm live) hp (mZ hp 100000 (dB (cz tm live)) []):=by
 have e:∀seen,hJ 0 seen=pos seen:=fun seen=>by
  funext id
  have:yB id 0=false:=rfl
  simp only [hJ,this,yu,pos]
 simp only [bw,Oj,List.append_nil,e,Rv,JE,mZ,yy]
def Zx:dB []=[]:=rfl
def X9 (i:Nat) (v:AV) (r:Env):dB ((i,v)::r)=refs v++dB r:=rfl
def abo (k:yJ) (n:Int):refs (.int k n)=[]:=rfl
def Zy (b:Bool):refs (.bool b)=[]:=rfl
def abp (s:List Nat):refs (.str s)=[]:=rfl
def Zz:refs .ab=[]:=rfl
def abq (e:Bool) (n:Nat) (cs:List AV):refs (.aC e n cs)=[]:=rfl
def ZA (cs:List AV):refs (.aO cs)=[]:=rfl
def Ya:refs .undef=[]:=rfl
def abr (id o:Nat):refs (.ptr id o)=[id]:=rfl
def abt (id o n:Nat):refs (.aq id o n)=[id]:=rfl
def adx (g:Nat) (a b:List AV):refs (.fn (.f g) a b)=dh a++dh b:=rfl
def agj (l:Nat) (a b:List AV):refs (.fn (.y l) a b)=[l]:=rfl
def abu (cs:List AV):refs (.agg cs)=dh cs:=rfl
def ZB:dh []=[]:=rfl
def Yb (v:AV) (r:List AV):dh (v::r)=refs v++dh r:=rfl
def FB (hp:Hp) (n id:Nat) (fE seen:List Nat) (q:Option Obj):List Nat:=match q with | some o=>mZ hp n (dC o++fE) (seen++[id]) | none=>mZ hp n fE seen
def FC (hp:Hp) (n id:Nat) (fE seen:List Nat) (b:Bool):List Nat:=bif b then mZ hp n fE seen else FB hp n id fE seen (aj hp id)
def ady (hp:Hp) (n:Nat) (seen:List Nat):mZ hp (n+1) [] seen=seen:=rfl
def abv (hp:Hp) (n id:Nat) (fE seen:List Nat):mZ hp (n+1) (id::fE) seen=FC hp n id fE seen (iA id seen):=by
 have:yB id 0=false:=rfl
 simp only [mZ,reach,this,yag,FC,FB]
 cases iA id seen with
 | true=>rfl
 | false=>simp only [yu];cases aj hp id<;>rfl
def agk (hp:Hp) (n id:Nat) (fE seen:List Nat):FC hp n id fE seen true=mZ hp n fE seen:=rfl
def agl (hp:Hp) (n id:Nat) (fE seen:List Nat):FC hp n id fE seen false=FB hp n id fE seen (aj hp id):=rfl
def agm (hp:Hp) (n id:Nat) (fE seen:List Nat) (o:Obj):FB hp n id fE seen (some o)=mZ hp n (dC o++fE) (seen++[id]):=rfl
def abw (i:Nat):iA i []=false:=rfl
def abx (i:Nat) (r:List Nat):iA i (i::r)=true:=by simp only [iA,y7,ym]
def ZC {i j:Nat} (r:List Nat) (h:j≠i):iA i (j::r)=iA i r:=by simp only [iA,ck h,yu]
def adz (rw ex:Bool) (sz:Nat) (cs:List AV):dC (.cells rw true ex sz cs)=[]:=rfl
def adA (rw ex:Bool) (sz:Nat) (cs:List AV):dC (.cells rw false ex sz cs)=dh cs:=rfl
def aby (tm:Env) (ps:List Nat) (a b:VC) (st:Nat) (pe:mE):dC (.lp tm ps a b st pe)=dB tm:=rfl
def adB (i:Nat) (r:List Nat) (k:Nat):iS i (i::r) k=some k:=by simp only [iS,y7,ym]
def abz {i j:Nat} (r:List Nat) (k:Nat) (h:j≠i):iS i (j::r) k=iS i r (k+1):=by simp only [iS,ck h,yu]
def SA (o:Nat) (q:Option Nat):AV:=match q with | some j=> .ptr j o | none=> .undef
def SB (o n:Nat) (q:Option Nat):AV:=match q with | some j=> .aq j o n | none=> .undef
def abA (s:List Nat):hZ (pos s) []=[]:=rfl
def ZD (s:List Nat) (i:Nat) (v:AV) (r:Env):hZ (pos s) ((i,v)::r)=(i,bE (pos s) v)::hZ (pos s) r:=rfl
def adC (s:List Nat) (k:yJ) (n:Int):bE (pos s) (.int k n)= .int k n:=rfl
def abB (s:List Nat) (b:Bool):bE (pos s) (.bool b)= .bool b:=rfl
def adD (s:List Nat) (t:List Nat):bE (pos s) (.str t)= .str t:=rfl
def abC (s:List Nat):bE (pos s) .ab= .ab:=rfl
def adE (s:List Nat) (e:Bool) (n:Nat) (cs:List AV):bE (pos s) (.aC e n cs)= .aC e n cs:=rfl
def abD (s:List Nat) (cs:List AV):bE (pos s) (.aO cs)= .aO cs:=rfl
def ZE (s:List Nat):bE (pos s) .undef= .undef:=rfl
def adF (s:List Nat) (id o:Nat):bE (pos s) (.ptr id o)=SA o (iS id s 0):=rfl
def adG (s:List Nat) (id o n:Nat):bE (pos s) (.aq id o n)=SB o n (iS id s 0):=rfl
def agn (s:List Nat) (g:Nat) (a b:List AV):bE (pos s) (.fn (.f g) a b)= .fn (.f g) (dY (pos s) a) (dY (pos s) b):=rfl
def adH (s:List Nat) (cs:List AV):bE (pos s) (.agg cs)= .agg (dY (pos s) cs):=rfl
def abE (s:List Nat):dY (pos s) []=[]:=rfl
def ZF (s:List Nat) (v:AV) (r:List AV):dY (pos s) (v::r)=bE (pos s) v::dY (pos s) r:=rfl
def adI (o j:Nat):SA o (some j)= .ptr j o:=rfl
def adJ (o n j:Nat):SB o n (some j)= .aq j o n:=rfl
def JF (hp:Hp) (f:Nat->Option Nat) (r:List Nat) (k:Nat) (acc:Hp) (q:Option Obj):Hp:=match q with | some o=>hX hp f r (k+1) ((k,iz f o)::acc) | none=>hX hp f r (k+1) acc
def ZG (hp:Hp) (s:List Nat) (k:Nat) (acc:Hp):hX hp (pos s) [] k acc=acc:=rfl
def Yc (hp:Hp) (s:List Nat) (id:Nat) (r:List Nat) (k:Nat) (acc:Hp):hX hp (pos s) (id::r) k acc=JF hp (pos s) r k acc (aj hp id):=by
 simp only [hX,JF];cases aj hp id<;>rfl
def ago (hp:Hp) (s r:List Nat) (k:Nat) (acc:Hp) (o:Obj):JF hp (pos s) r k acc (some o)=hX hp (pos s) r (k+1) ((k,iz (pos s) o)::acc):=rfl
def agp (f:Nat->Option Nat) (rw ex:Bool) (sz:Nat) (cs:List AV):iz f (.cells rw true ex sz cs)= .cells rw true ex sz cs:=rfl
def agq (f:Nat->Option Nat) (rw ex:Bool) (sz:Nat) (cs:List AV):iz f (.cells rw false ex sz cs)= .cells rw false ex sz (dY f cs):=rfl
def adK (f:Nat->Option Nat) (tm:Env) (ps:List Nat) (a b:VC) (st:Nat) (pe:mE):iz f (.lp tm ps a b st pe)= .lp (hZ f tm) ps a b st pe:=rfl
def adL (tm:Env) (hp:Hp) (seen:List Nat):JE tm hp seen=⟨hZ (pos seen) tm,hX hp (pos seen) seen 0 [],seen.length,0⟩:=rfl
attribute [go_sem] Zx X9 abo Zy abp Zz abq ZA Ya abr abt adx agj abu ZB Yb ady abv agk agl agm
 abw abx ZC adz adA aby adB abz abA ZD adC abB adD abC adE abD ZE adF adG agn adH abE ZF adI adJ
 ZG Yc ago agp agq adK adL yz List.length_nil
end
section
open Go (IntKind)
section
variable {P:aA} {L:Lib}
def abF {α:Type} {p:α->Bool} {l:List α} {i:Nat} (h:i<l.length):(l.drop i).any p=(p l[i]||(l.drop (i+1)).any p):=by
 rw [yO h,yah]
def ajh (h:Has P L 132 B4) {v:AV} {l:List Int} (hv:aX v l) (hl:l.length<=1000000) {g:Nat} {cap:List AV} {p:Int->Bool} (hc:ax cap=true)
  (hz:∀x hp,bO deep hp (aa x::cap)=some (aa x::cap,hp)) (hg:∀x,an P L g (aa x::cap) (.bool (p x))):∃n:Int,an P L 132 [v,.fn (.f g) [] cap] (aa n)/\decide (0<=n)=l.any p:=by
 have sb:aG (.fn (.f g) [] cap)=true:=by simp [aG,ax,hc]
 simp only [an,deep] at hg hz;have key:=Ic (P:=P) (L:=L) (live:=[0,1,7,8]) (a:=Ev)
  (I:=fun k s=>∃tm ct i,s=⟨tm,[],ct,0⟩/\ah tm 0=v/\ah tm 1= .fn (.f g) [] cap/\ah tm 7=aa l.length/\ah tm 8=aa (i:Nat)/\i+k=l.length/\(l.drop i).any p=l.any p)
  (Q:=fun ex s=>∃tm,s=⟨tm,[],0,0⟩/\((∃n:Int,ex= .ret/\ah tm 4=aa n/\0<=n/\l.any p=true)\/(ex= .exit 0/\l.any p=false))) ?_ l.length
 ·simp only [an];rw [aT h];simp only [go_sem,ya,B4,hv.len];generalize hq:D P L (.loop [0,1,7,8] Ev) _=q;obtain ⟨ex,s,rfl,tm,rfl,h2⟩:=cm hq key ⟨_,_,0,rfl,rfl,rfl,rfl,rfl,by omega,rfl⟩;rcases h2 with ⟨n,rfl,h2,h3,h4⟩ | ⟨rfl,h2⟩
  ·exact ⟨n,by simp only [go_sem,h2],by rw [h4];simpa using h3⟩
  ·exact ⟨-1,by simp only [go_sem],by rw [h2];decide⟩
 ·rintro k s ⟨tm,ct,i,rfl,h0,h1,h7,h8,hk,hf⟩;rw [LA (by simp only [go_sem,h0,h1,h7,h8,hv.pu,sb])];simp only [go_sem,ya,h0,h1,h7,h8,Ev];by_cases hi:i<l.length
  ·have bP:(i:Int)<l.length:=by omega
   rw [abF hi] at hf
   cases fH:p l[i] with
   | false=>
    left
    simp only [go_sem,ya,bP,hv.a7 hi,hz,hg,fH];refine ⟨_,k-1,rfl,by omega,_,_,i+1,rfl,?_⟩;rw [wrap64 (by omega) (by omega)];rw [fH,yag] at hf;simp only [go_sem,ya];exact ⟨trivial,trivial,trivial,rfl,by omega,hf⟩
   | true=>
    right
    simp only [go_sem,ya,bP,hv.a7 hi,hz,hg,fH];refine ⟨_,_,rfl,by simp,_,rfl,.inl ⟨i,rfl,?_,by omega,?_⟩⟩
    ·simp only [go_sem]
    ·rw [<-hf,fH,Bool.true_or]
  ·right
   have bP:¬(i:Int)<l.length:=by omega
   simp only [go_sem,bP];refine ⟨_,_,rfl,by simp,_,rfl,.inr ⟨rfl,?_⟩⟩;rw [<-hf,yZ (by omega)];rfl
def s95 (h:Has P L 95 Gg) (JG:Has P L 132 B4) {v:AV} {l:List Int} (hv:aX v l) (hl:l.length<=1000000) {g:Nat} {cap:List AV} {p:Int->Bool} (hc:ax cap=true)
  (hz:∀x hp,bO deep hp (aa x::cap)=some (aa x::cap,hp)) (hg:∀x,an P L g (aa x::cap) (.bool (p x)))
  (iW:∀n hp,freeze (n+500) hp (.fn (.f g) [] cap)=some (.fn (.f g) [] cap,hp)):an P L 95 [v,.fn (.f g) [] cap] (.bool (l.any p)):=by
 obtain ⟨n,h1,h2⟩:=ajh JG hv hl hc hz hg;unfold an at h1 ⊢;rw [aT h];have aji:∀hp,freeze 998 hp (.fn (.f g) [] cap)=some (.fn (.f g) [] cap,hp):=fun hp=>iW 498 hp
 simp only [go_sem,ya,Gg,hv.aE,aji,h1,h2]
def s94 (h:Has P L 94 Ad) {m:Int} (hm:0<=m) (ek:m<=1000000) (x:Int):an P L 94 [aa x,.aO [aa m]] (.bool (decide (x< -m\/m<x))):=by
 unfold an;rw [aT h];by_cases h1:x< -m
 ·simp only [go_sem,ya,Ad,D2,wrap64 (n:=0-m) (by omega) (by omega),show x<0-m by omega,h1,true_or]
 ·by_cases h2:m<x
  ·simp only [go_sem,ya,Ad,D2,wrap64 (n:=0-m) (by omega) (by omega),show ¬x<0-m by omega,h1,h2,or_true]
  ·simp only [go_sem,ya,Ad,D2,wrap64 (n:=0-m) (by omega) (by omega),show ¬x<0-m by omega,h1,h2,or_self]
def abG (m:Int) (l:List Int):l.any (fun x=>decide (x< -m\/m<x))=bA (-m) m l:=by
 induction l with
 | nil=>rfl
 | cons a r ih=>
  simp only [yah,bA,ih]
  grind
structure Sq (P:aA) (L:Lib):Prop where
 h32:Has P L 32 KA
 eD:Has P L 31 om
 p6:Has P L 33 CM
 h94:Has P L 94 Ad
 h95:Has P L 95 Gg
 JG:Has P L 132 B4
 h4:Has P L 4 c4
 h9:Has P L 9 c9
def KO (h:Sq P L) {v:AV} {s:List (List Int)} (hv:bK v s) (hl:s.length<=1000000) (hr:∀i (hi:i<s.length),s[i].length<=1000000) {m:Int} (hm:0<=m) (ek:m<=1000000):
  an P L 32 [v,aa m] (aa (cy s.length (-m) m s)):=by
 have key:=cG (P:=P) (L:=L) (live:=[0,3,9,10,11]) (a:=EP)
  (I:=fun k st=>∃(i:Nat) (rw:Bool),st=⟨[(0,v),(3,.ptr 0 0),(9,v),(10,aa s.length),(11,aa i)],[(0,.cells rw true true 1 [aa m])],1,0⟩/\i+k=s.length/\cy s.length (-m) m (s.drop i)=cy s.length (-m) m s)
  (Q:=fun ex st=>∃tm hp ct,st=⟨tm,hp,ct,0⟩/\((ex= .ret/\ah tm 4=aa (cy s.length (-m) m s))\/(ex= .exit 0/\cy s.length (-m) m s=0))) ?_
 ·unfold an;rw [aT h.h32];simp only [go_sem,ya,yc,KA,hv.len];generalize hq:D P L (.loop [0,3,9,10,11] EP) _=q;obtain ⟨ex,st,rfl,tm,hp,ct,rfl,h2⟩:=cm hq (key s.length) ⟨0,true,by simp only [go_sem,ya,yc,aJ,aP hv.pu,aS _ hv.pu]<;>rfl,by omega,rfl⟩
  rcases h2 with ⟨rfl,h2⟩ | ⟨rfl,h2⟩
  ·simp only [go_sem,h2]
  ·rw [h2];simp only [go_sem,aJ]
 ·rintro k st ⟨i,rw,rfl,hk,hf⟩;simp only [go_sem,ya,EP];by_cases hi:i<s.length
  ·have bP:(i:Int)<s.length:=by omega
   rw [He hi] at hf;obtain ⟨r,rest,bG,dA⟩:=hv.a7 hi;have hc:an P L 95 [r,.fn (.f 94) [] [.aO [aa m]]] (.bool (bA (-m) m s[i])):=by
    rw [<-abG];exact s95 h.h95 h.JG bG (hr i hi) rfl (fun x hp=>by simp only [go_sem]) (fun x=>s94 h.h94 hm ek x) (fun n hp=>by simp only [go_sem])
   have ga:∀a b:Int,an P L 33 [.aC true 2 [.int .i64 a,.int .i64 b]] (aa (bM [a,b])):=fun a b=>sa h.p6 (fM true [a,b]) (by simp)
   unfold an at hc ga;by_cases h1:s[i].length=s.length
   ·have zW:(s[i].length:Int)=s.length:=by omega
    simp only [h1,uH,wq,yG] at hf
    cases h2:bA (-m) m s[i] with
    | false=>
     left
     simp only [h2,yt,yG] at hf;cases rw<;>simp only [go_sem,ya,yc,yj,yd,yh,bP,dA,hc,zW,h2,jU h.eD,ga,bG.len,bG.aE,hv.len,yt,yG,bM,yQ]
     all_goals
      refine ⟨_,k-1,rfl,by omega,i+1,false,?_,by omega,hf⟩;rw [wrap64 (by omega) (by omega)];simp only [go_sem,ya,yc,aJ,aP hv.pu,aS _ hv.pu];rfl
    | true=>
     right
     simp only [h2,yQ] at hf;cases rw<;>simp only [go_sem,ya,yc,yj,yd,yh,bP,dA,hc,zW,h2,jU h.eD,ga,bG.len,bG.aE,hv.len,yt,yG,bM,yQ,wK]
     all_goals
      refine ⟨_,_,rfl,by simp,_,_,_,rfl,.inl ⟨rfl,?_⟩⟩;simp only [go_sem,hf]
   ·right
    have zW:¬(s[i].length:Int)=s.length:=by omega
    simp only [h1,uH,vt,yQ] at hf;cases h2:bA (-m) m s[i]<;>cases rw<;>simp only [go_sem,ya,yc,yj,yd,yh,bP,dA,hc,zW,h2,jU h.eD,ga,bG.len,bG.aE,hv.len,yt,yG,bM,yQ,wK]
    all_goals
     refine ⟨_,_,rfl,by simp,_,_,_,rfl,.inl ⟨rfl,?_⟩⟩;simp only [go_sem,hf]
  ·right
   have bP:¬(i:Int)<s.length:=by omega
   simp only [go_sem,bP];refine ⟨_,_,rfl,by simp,_,_,_,rfl,.inr ⟨rfl,?_⟩⟩;rw [<-hf,yZ (by omega)];rfl
end
end
section
open Go (IntKind)
section
variable {P:aA} {L:Lib}
def s59 (h:Has P L 59 CR) {v w:AV} {l m:List Int} (hv:aX v l) (hw:aX w m) (hl:l.length<=1000000) (he:l=m):an P L 59 [v,w] (.bool true):=by
 subst he;have key:=cG (P:=P) (L:=L) (live:=[0,1,5]) (a:=ES)
  (I:=fun k st=>∃i:Nat,st=⟨[(0,v),(1,w),(5,aa i)],[],0,0⟩/\i+k=l.length)
  (Q:=fun ex st=>∃tm ct,st=⟨tm,[],ct,0⟩/\ex= .exit 0) ?_
 ·unfold an;rw [aT h];simp only [go_sem,ya,CR,hv.len,hw.len];generalize hq:D P L (.loop [0,1,5] ES) _=q;obtain ⟨ex,st,rfl,tm,ct,rfl,rfl⟩:=cm hq (key l.length) ⟨0,by simp only [go_sem,ya,aJ,aP hv.pu,aS _ hv.pu,aP hw.pu,aS _ hw.pu]<;>rfl,by omega⟩
  simp only [go_sem]
 ·rintro k st ⟨i,rfl,hk⟩;simp only [go_sem,ya,ES,hv.len];by_cases hi:i<l.length
  ·have bP:(i:Int)<l.length:=by omega
   left
   simp only [go_sem,ya,bP,hv.a7 hi,hw.a7 hi];refine ⟨_,k-1,rfl,by omega,i+1,?_,by omega⟩;rw [wrap64 (by omega) (by omega)];simp only [go_sem,ya,aJ,aP hv.pu,aS _ hv.pu,aP hw.pu,aS _ hw.pu]<;>rfl
  ·right
   simp only [go_sem,show ¬(i:Int)<l.length by omega];exact ⟨_,_,rfl,by simp,_,_,rfl,rfl⟩
def s21 (h:Has P L 21 F0) (KP:Has P L 59 CR) {v w:AV} {s t:List (List Int)} (hv:bK v s) (hw:bK w t) (hl:s.length<=1000000) (hr:∀i (hi:i<s.length),s[i].length<=1000000) (he:s=t):an P L 21 [v,w] (.bool true):=by
 subst he;have key:=cG (P:=P) (L:=L) (live:=[0,1,5]) (a:=EO)
  (I:=fun k st=>∃i:Nat,st=⟨[(0,v),(1,w),(5,aa i)],[],0,0⟩/\i+k=s.length)
  (Q:=fun ex st=>∃tm ct,st=⟨tm,[],ct,0⟩/\ex= .exit 0) ?_
 ·unfold an;rw [aT h];simp only [go_sem,ya,F0,hv.len,hw.len];generalize hq:D P L (.loop [0,1,5] EO) _=q;obtain ⟨ex,st,rfl,tm,ct,rfl,rfl⟩:=cm hq (key s.length) ⟨0,by simp only [go_sem,ya,aJ,aP hv.pu,aS _ hv.pu,aP hw.pu,aS _ hw.pu]<;>rfl,by omega⟩
  simp only [go_sem]
 ·rintro k st ⟨i,rfl,hk⟩;simp only [go_sem,ya,EO,hv.len];by_cases hi:i<s.length
  ·have bP:(i:Int)<s.length:=by omega
   obtain ⟨r,rest,bG,dA⟩:=hv.a7 hi;obtain ⟨q,Jh,ja,oz⟩:=hw.a7 hi;have hc:=s59 KP bG ja (hr i hi) rfl;left
   simp only [go_sem,ya,bP,dA,oz,bG.aE,ja.aE,hc];refine ⟨_,k-1,rfl,by omega,i+1,?_,by omega⟩;rw [wrap64 (by omega) (by omega)];simp only [go_sem,ya,aJ,aP hv.pu,aS _ hv.pu,aP hw.pu,aS _ hw.pu]<;>rfl
  ·right
   simp only [go_sem,show ¬(i:Int)<s.length by omega];exact ⟨_,_,rfl,by simp,_,_,rfl,rfl⟩
def s4 (h:Sq P L) {v:AV} {s:List (List Int)} (hv:bK v s) (hl:s.length<=1000000) (hr:∀i (hi:i<s.length),s[i].length<=1000000):an P L 4 [v] (aa (cF s)):=by
 have hc:=KO h hv hl hr (m:=1000) (by decide) (by decide);have hf:∀a b c:Int,an P L 33 [.aC true 3 [.int .i64 a,.int .i64 b,.int .i64 c]] (aa (bM [a,b,c])):=fun a b c=>sa h.p6 (fM true [a,b,c]) (by simp)
 unfold an at hc hf ⊢;rw [aT h.h4];simp only [go_sem,ya,yc,yj,yd,yh,c4,hv.len,hv.aE,hc,jU h.eD,hf];unfold cF;by_cases h1:s.length=0
 ·simp [h1,bM]
 ·by_cases h2:16<s.length
  ·simp [h1,h2,bM,show (16:Int)<s.length by omega]
  ·simp only [h1,h2,bM,show ¬(16:Int)<s.length by omega,show ¬(s.length:Int)=0 by omega,yF,yt,yG,yQ]
   split<;>simp_all
end
end
end VE
