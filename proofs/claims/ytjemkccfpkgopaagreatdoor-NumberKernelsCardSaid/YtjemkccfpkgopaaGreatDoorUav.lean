import Derived.Test.YtjemkccfpkgopaaGreatDoorUat
import Derived.Test.YtjemkccfpkgopaaGreatDoorUai
import Derived.Test.YtjemkccfpkgopaaGreatDoorUap
import Derived.Test.YtjemkccfpkgopaaGreatDoorUas
import Derived.Test.YtjemkccfpkgopaaGreatDoorUaq
set_option linter.all false
set_option maxRecDepth 100000
open Bool renaming and_eq_true→ye,and_self→wN,false_and→xO,false_eq_true→yJ,false_or→uE,not_false→yR,not_true→yQ,true_and→xH,true_or→ybw
open Go renaming DataW→xq,Field→uK,FloatKind→vM,IntKind→yY,MemPlace→wb,Program→y8,TypeId→yD,Value→yf,World→yh
open Int renaming natAbs_natCast→xY,natCast_mul→vv,neg_neg→ybP,tdiv_eq_ediv_of_nonneg→xV,tmod_eq_emod_of_nonneg→xX,toNat_natCast→xZ,toNat_of_nonneg→yaf
open List renaming append_assoc→xu,append_nil→wA,drop→vZ,drop_eq_getElem_cons→yX,drop_eq_nil_of_le→xj,drop_zero→yH,eq_nil_of_length_eq_zero→yC,flatMap_def→yax,length_append→yL,length_cons→yG,length_drop→xT,length_map→yk,length_nil→yO,length_take→yI,mapM_cons→vU,map_append→xy,map_cons→xe,map_set→ybu,mem_cons→wM,mem_map→wm,replicate→yq,set_eq_take_append_cons_drop→vz,take_length→xx,take_of_length_le→yN
open Nat renaming add_zero→yZ,beq→yx,ble→yF,blt→yP,eq_of_beq_eq_true→ym,gcd→wz,le_of_ble_eq_true→yA,le_refl→yo,le_trans→xf,lt_of_lt_of_le→yV,mul_assoc→xk,mul_one→yi,mul_zero→xD,pow_add→wG,pow_le_pow_left→tg,pow_le_pow_right→xb,pow_mul→uW,pow_succ→xc,reduceAdd→yb,reduceEqDiff→ya,reduceLT→yM,reduceLeDiff→yy,reduceMul→xM,zero_add→yg
open Option renaming bind_eq_bind→wZ,bind_some→xI,map_eq_some_iff→wg,pure_def→wF
open Option.some renaming injEq→yd
open Prod.mk renaming injEq→yj
namespace VE
section
open Go (IntKind)
def anC:∀(cs:List AV) (l:List Nat),qK cs=some l->cs=l.map uc/\lo 18446744073709551616 l:=by
 intro cs
 induction cs with
 | nil=>
  intro l h;simp only [qK,yd] at h;subst h;exact ⟨rfl,fun _ h=>by cases h⟩
 | cons c cs ih=>
  intro l h;unfold qK at h
  split at h
  ·grind
  ·rename_i d r nK;cases nK
   cases hb:yP d 18446744073709551616 with
   | false=>rw [hb] at h;cases h
   | true=>
    rw [hb] at h
    cases hw:qK cs with
    | none=>rw [hw] at h;cases h
    | some l'=>
     rw [hw] at h;cases h;obtain ⟨k1,k2⟩:=ih l' hw;refine ⟨by rw [k1];rfl,fun x hx=>?_⟩
     rcases wM.1 hx with rfl | hx
     ·simp_all
     ·exact k2 x hx
  ·cases h
def abx:∀{l:List Nat},As l=true->fW l
 | [],h=>by cases h
 | [a],h=>by
  have h0:a≠0:=fun e=>by subst e;cases h
  exact Dp h0 []
 | a::b::r,h=>by
  have h1:dL (b::r)=b::r:=abx (l:=b::r) h;show dL (a::(b::r))=_
  simp only [dL] at h1 ⊢;rw [h1]
section
variable {P:aH} {L:Lib}
def atl (h:Has P L 99 CQ) (XB:L.pure 135=some Ip) {s:Int} (hs:Ao s=true):bH P L (D P L) 99 [.agg [ab s,.aa]]=some (.str (aU s)):=by
 have e1:bH P L (D P L) 135 [ab s]=some (.str (aU s)):=by
  rw [iL XB];show (bif Ao s then some (AV.str (aU s)) else none)=_
  rw [hs];rfl
 rw [aI h];simp only [go_sem,ya,yb,CQ,bg,bY,yg,cX,gk,ed,e1]
end
section
open Go
variable {O:bl}
def ao8 (hO:eA O) (hN:Nu O.prog O.aD) (XB:O.aD.pure 135=some Ip) (CF:O.aD.pure 138=some zK) (ze:O.aD.pure 139=some zZ) (FH:Has O.prog O.aD 99 CQ) {fn:Func} {c:Code} (kC:O.P.funcs[O.af 99]? =some fn) (iH:fn.body=some c) (Ov:fn.ntmps=69)
  (Xy:Od 5 c) (ht:Q2 O.P c):∀aq r,LS aq=some r->ef O 99 aq r:=by
 intro aq r h;unfold LS at h
 split at h
 ·rename_i s
  cases hs:Ao s with
  | false=>rw [hs] at h;cases h
  | true=>
   rw [hs] at h;cases h;obtain ⟨k,hk⟩:=agH (atl (P:=O.prog) (L:=O.aD) FH XB hs);exact sound hO hk
 ·rename_i s e n cs
  cases hw:qK cs with
  | none=>rw [hw] at h;cases h
  | some l=>
   rw [hw] at h;simp only at h
   cases hb:(yx l.length n&&(yF n 4000000000&&(As l&&yF 9223372036854775808 (rk l)))) with
   | false=>rw [hb] at h;cases h
   | true=>
    rw [hb] at h;simp only [ye] at hb;obtain ⟨h1,h2,h3,h4⟩:=hb;obtain ⟨rfl,bf⟩:=anC cs l hw;have h1:=ym h1;subst h1;have h2:=yA h2;have h4:=yA h4;have h3:=abx h3;rw [Q0] at h4 h;have aW:=lQ bf;have key:=fun (s z:Int) (hz:z.natAbs=bv 18446744073709551616 l) (hs:s=if z<0 then -1 else 1)=>
     arb hO hN CF ze FH.code kC iH Ov Xy ht (s:=s) (z:=z) (e:=e) (l:=l) (.inr ⟨e,l,rfl,bf,h3,hz.symm,hs,by omega⟩) (by omega) h2 (by omega)
    split at h
    ·cases h
     have:=key 1 (bv 18446744073709551616 l:Nat) (by simp) (by rw [yr (by omega)])
     exact this
    ·cases h
     have:=key (-1) (-(bv 18446744073709551616 l:Nat):Int) (by simp) (by rw [yE (by omega)])
     rw [lC (by omega)] at this
     grind
    ·cases h
 ·cases h
end
end
section
open Go
def RH (L:Lib) (n:Nat) (sp:List AV->Option AV):Lib:=⟨fun i=>bif yx i n then some sp else L.pure i,L.heap⟩
def ao9 {O:bl} (hO:eA O) {n:Nat} {sp:List AV->Option AV} (h:∀aq r,sp aq=some r->ef O n aq r):eA (O.sj (RH O.aD n sp)) where
 hint:=hO.hint
 mixed:=hO.mixed
 prog:=hO.prog
 aD i OI aq r hi hs:=by
  show ef O i aq r
  simp only [RH] at hi
  cases hb:yx i n with
  | true=>
   simp_all
  | false=>
   rw [hb] at hi;exact hO.aD i OI aq r hi hs
 Ek i OI hp ct aq v ap aY hi hs:=abh (hO.Ek i OI hp ct aq v ap aY hi hs)
end
section
open Go
section
variable {H:Type} {enc:yD×yf->H} {P:y8} {w:yh} {base:Nat} {sp:Nat->Bool} {held:Bool}
def mapM_mem {α β:Type} {f:α->Option β}:∀{l:List α} {r:List β},l.mapM f=some r->∀y,y∈r->∃x,f x=some y
 | [],r,h,y,hy=>by simp only [List.mapM_nil,wF,yd] at h;subst h;cases hy
 | x::l,r,h,y,hy=>by
  rw [vU] at h
  cases h1:f x with
  | none=>simp [h1] at h
  | some z=>
   cases h2:l.mapM f with
   | none=>simp [h1,h2] at h
   | some zs=>
    simp only [h1,h2,xI,wZ,wF,yd] at h;subst h;rcases wM.1 hy with rfl | hy
    ·exact ⟨x,h1⟩
    ·exact mapM_mem h2 y hy
def Rd (enc:yD×yf->H) (P:y8) (w:yh) (base:Nat) (sp:Nat->Bool) (held:Bool) (t:yD) (d:xq H):Prop:=∃bn cs ps,DataW.trod enc P w base sp held bn t cs=some (d,ps)
def axg {t:yD} {k:yY} {d:xq H} {n:Nat} (ht:P.underlying t=some (.int k)) (h:Rd enc P w base sp held t d):∃z,cQ P (n+1) t d=[.int k z]/\(Lit.int k z).wf=true:=by
 obtain ⟨bn,cs,ps,h⟩:=h
 cases bn with
 | zero=>simp [DataW.trod] at h
 | succ bn=>
  unfold DataW.trod at h
  split at h
  all_goals first
   | (rename_i hu;rw [ht] at hu;cases hu;done)
   | skip
  ·rename_i k1 k2 z hu;rw [ht] at hu;injection hu with hu
   injection hu with hu
   subst hu
   split at h
   ·rename_i hk;simp only [yd,yj] at h;obtain ⟨rfl,rfl⟩:=h;exact ⟨z,by simp only [cQ,ht],hk.2⟩
   ·cases h
  all_goals (cases h;done)
def arf {t e:yD} {d:xq H} {n:Nat} (ht:P.underlying t=some (.slice e)) (h:Rd enc P w base sp held t d):
  cQ P (n+1) t d=[.aa]\/∃(x:Bool) (jg:List (xq H)),cQ P (n+1) t d=[.ai x jg.length (jg.flatMap fun y=>cQ P n e y)]/\∀y,y∈jg->Rd enc P w base sp held e y:=by
 obtain ⟨bn,cs,ps,h⟩:=h
 cases bn with
 | zero=>simp [DataW.trod] at h
 | succ bn=>
  unfold DataW.trod at h
  split at h
  all_goals first
   | (rename_i hu;rw [ht] at hu;cases hu;done)
   | skip
  ·simp only [yd,yj] at h;obtain ⟨rfl,rfl⟩:=h;exact .inl (by simp only [cQ,ht])
  ·rename_i e' a len cap hu;rw [ht] at hu;injection hu with hu
   injection hu with hu
   subst hu;simp only at h
   split at h
   case isFalse=>cases h
   cases h1:(List.range len).mapM fun i=>(w.cells? base (a.add (i*P.cellsOf e)) (P.cellsOf e)).bind (DataW.trod enc P w base sp held bn e) with
   | none=>rw [h1] at h;simp at h
   | some jg=>
    rw [h1] at h;simp only [xI] at h;obtain ⟨rest,_,h⟩:=wg.1 h;simp only [yj] at h;obtain ⟨rfl,rfl⟩:=h;refine .inr ⟨(rest.map (·.1)).isEmpty,jg.map (·.1),by simp only [cQ,ht,yk],?_⟩;intro y hy;obtain ⟨p,hp,rfl⟩:=wm.1 hy;obtain ⟨i,hi⟩:=mapM_mem h1 p hp;obtain ⟨dP,_,rC⟩:=Option.bind_eq_some_iff.1 hi;exact ⟨bn,dP,p.2,rC⟩
  all_goals (cases h;done)
def apa {t:yD} {fs:Array uK} {d:xq H} {n:Nat} (ht:P.underlying t=some (.struct fs)) (h:Rd enc P w base sp held t d):
  ∃ds:List (xq H),ds.length=fs.toList.length/\cQ P (n+1) t d=(fs.toList.zip ds).flatMap (fun x=>cQ P n x.1.type x.2)/\∀i (h1:i<fs.toList.length) (h2:i<ds.length),Rd enc P w base sp held fs.toList[i].type ds[i]:=by
 obtain ⟨bn,cs,ps,h⟩:=h
 cases bn with
 | zero=>simp [DataW.trod] at h
 | succ bn=>
  unfold DataW.trod at h
  split at h
  all_goals first
   | (rename_i hu;rw [ht] at hu;cases hu;done)
   | (cases h;done)
   | skip
  rename_i cs x1 J8 fs' hu;rw [ht] at hu;injection hu with hu
  injection hu with hu
  subst hu
  split at h
  case isFalse=>cases h
  obtain ⟨xs,h1,h⟩:=wg.1 h;simp only [yj] at h;obtain ⟨rfl,rfl⟩:=h;refine ⟨xs.map (·.1),by simp [K6 h1],by simp only [cQ,ht],?_⟩;have key:∀{r:List uK} {xs:List (xq H×List wb)},r.mapM (fun f=>DataW.trod enc P w base sp held bn f.type ((cs.drop f.offset).take (P.cellsOf f.type)))=some xs->
    ∀i (h1:i<r.length) (h2:i<(xs.map (·.1)).length),Rd enc P w base sp held r[i].type (xs.map (·.1))[i]:=by
   intro r
   induction r with
   | nil=>intro xs h i h1;exact absurd h1 (Nat.not_lt_zero i)
   | cons f r ih=>
    intro xs h i h1 h2;rw [vU] at h
    cases g1:DataW.trod enc P w base sp held bn f.type ((cs.drop f.offset).take (P.cellsOf f.type)) with
    | none=>simp [g1] at h
    | some x=>
     cases g2:r.mapM (fun f=>DataW.trod enc P w base sp held bn f.type ((cs.drop f.offset).take (P.cellsOf f.type))) with
     | none=>simp [g1,g2] at h
     | some ys=>
      simp only [g1,g2,xI,wZ,wF,yd] at h;subst h
      cases i with
      | zero=>exact ⟨bn,_,x.2,g1⟩
      | succ i=>exact ih g2 i (by simpa using h1) (by simpa using h2)
  exact key h1
def arh {t e:yD} {k:Nat} {d:xq H} {n:Nat} (ht:P.underlying t=some (.array k e)) (h:Rd enc P w base sp held t d):
  ∃ds:List (xq H),ds.length=k/\cQ P (n+1) t d=ds.flatMap (fun x=>cQ P n e x)/\∀y,y∈ds->Rd enc P w base sp held e y:=by
 obtain ⟨bn,cs,ps,h⟩:=h
 cases bn with
 | zero=>simp [DataW.trod] at h
 | succ bn=>
  unfold DataW.trod at h
  split at h
  all_goals first
   | (rename_i hu;rw [ht] at hu;cases hu;done)
   | (cases h;done)
   | skip
  rename_i cs x1 J8 k' e' hu;rw [ht] at hu;injection hu with hu
  injection hu with pW zC
  subst pW;subst zC
  split at h
  case isFalse=>cases h
  obtain ⟨xs,h1,h⟩:=wg.1 h;simp only [yj] at h;obtain ⟨rfl,rfl⟩:=h;refine ⟨xs.map (·.1),by simp [K6 h1],by simp only [cQ,ht],fun y hy=>?_⟩;obtain ⟨p,hp,rfl⟩:=wm.1 hy;obtain ⟨i,hi⟩:=mapM_mem h1 p hp;exact ⟨bn,_,p.2,hi⟩
end
end
section
open Go
inductive Ty
 | int (k:yY)
 | bM (k:vM)
 | bool
 | str
 | sl (e:Ty)
 | nil
 | cat (a b:Ty)
 | ar (n:Nat) (e:Ty)
def ml:Ty->List AV->Prop
 | .int k,l=>∃z,l=[.int k z]/\(Lit.int k z).wf=true
 | .bM k,l=>∃b,l=[.bM k b]
 | .bool,l=>∃b,l=[.bool b]
 | .str,l=>∃s:List Nat,l=[.str s]/\s.length<9223372036854775808/\∀c,c∈s->c<256
 | .sl e,l=>l=[.aa]\/∃(x:Bool) (ps:List (List AV)),l=[.ai x ps.length ps.flatten]/\∀p,p∈ps->ml e p
 | .nil,l=>l=[]
 | .cat a b,l=>∃x y,l=x++y/\ml a x/\ml b y
 | .ar n e,l=>∃ps:List (List AV),ps.length=n/\l=ps.flatten/\∀p,p∈ps->ml e p
def mG:List (Option Ty)->Option Ty
 | []=>some .nil
 | some a::r=>match mG r with
  | some b=>some (.cat a b)
  | none=>none
 | none::_=>none
def fH (P:y8):Nat->yD->Option Ty
 | 0,_=>none
 | n+1,t=>
  match P.underlying t with
  | some .bool=>some .bool
  | some (.int k)=>some (.int k)
  | some (.float k)=>some (.bM k)
  | some .string=>some .str
  | some (.slice e)=>(fH P n e).map .sl
  | some (.struct fs)=>mG (fs.toList.map fun f=>fH P n f.type)
  | some (.array k e)=>(fH P n e).map (.ar k)
  | _=>none
section
variable {H:Type} {enc:yD×yf->H} {P:y8} {w:yh} {base:Nat} {sp:Nat->Bool} {held:Bool}
def axh {t:yD} {k:vM} {d:xq H} {n:Nat} (ht:P.underlying t=some (.float k)) (h:Rd enc P w base sp held t d):∃b,cQ P (n+1) t d=[.bM k b]:=by
 obtain ⟨bn,cs,ps,h⟩:=h
 cases bn with
 | zero=>simp [DataW.trod] at h
 | succ bn=>
  unfold DataW.trod at h
  split at h
  all_goals first
   | (rename_i hu;rw [ht] at hu;cases hu;done)
   | skip
  ·rename_i k1 k2 z hu;rw [ht] at hu;injection hu with hu
   injection hu with hu
   subst hu
   split at h
   ·simp only [yd,yj] at h;obtain ⟨rfl,rfl⟩:=h;exact ⟨z,by simp only [cQ,ht]⟩
   ·cases h
  all_goals (cases h;done)
def atm {t:yD} {d:xq H} {n:Nat} (ht:P.underlying t=some .bool) (h:Rd enc P w base sp held t d):∃b,cQ P (n+1) t d=[.bool b]:=by
 obtain ⟨bn,cs,ps,h⟩:=h
 cases bn with
 | zero=>simp [DataW.trod] at h
 | succ bn=>
  unfold DataW.trod at h
  split at h
  all_goals first
   | (rename_i hu;rw [ht] at hu;cases hu;done)
   | skip
  ·simp only [yd,yj] at h;obtain ⟨rfl,rfl⟩:=h;rename_i b _;exact ⟨b,by simp only [cQ,ht]⟩
  all_goals (cases h;done)
def axi {t:yD} {d:xq H} {n:Nat} (ht:P.underlying t=some .string) (h:Rd enc P w base sp held t d):
  ∃s:List Nat,cQ P (n+1) t d=[.str s]/\s.length<9223372036854775808/\∀c,c∈s->c<256:=by
 obtain ⟨bn,cs,ps,h⟩:=h
 cases bn with
 | zero=>simp [DataW.trod] at h
 | succ bn=>
  unfold DataW.trod at h
  split at h
  all_goals first
   | (rename_i hu;rw [ht] at hu;cases hu;done)
   | skip
  ·rename_i s hu
   split at h
   ·rename_i hs;simp only [yd,yj] at h;obtain ⟨rfl,rfl⟩:=h;refine ⟨_,by simp only [cQ,ht];rfl,?_,fun c hc=>?_⟩
    ·simp only [yk,Array.length_toList];have h1:s.size<=9223372036854775807:=hs;have h2:s.data.size=s.size:=rfl;omega
    ·obtain ⟨b,_,rfl⟩:=wm.1 hc;exact b.toNat_lt
   ·cases h
  all_goals (cases h;done)
def aaQ {n:Nat} (ih:∀{t:yD} {T:Ty} {d:xq H},fH P n t=some T->Rd enc P w base sp held t d->ml T (cQ P n t d)):
  ∀(fs:List uK) (ds:List (xq H)) (T:Ty),mG (fs.map fun f=>fH P n f.type)=some T->ds.length=fs.length->(∀i (h1:i<fs.length) (h2:i<ds.length),Rd enc P w base sp held fs[i].type ds[i])->
   ml T ((fs.zip ds).flatMap fun x=>cQ P n x.1.type x.2)
 | [],ds,T,hT,_,_=>by
  simp only [List.map_nil,mG,yd] at hT;subst hT;simp [ml]
 | f::fs,[],T,_,hl,_=>by simp at hl
 | f::fs,d::ds,T,hT,hl,hr=>by
  simp only [xe] at hT
  cases h1:fH P n f.type with
  | none=>simp [h1,mG] at hT
  | some a=>
   cases h2:mG (fs.map fun f=>fH P n f.type) with
   | none=>simp [h1,h2,mG] at hT
   | some b=>
    simp only [h1,h2,mG,yd] at hT;subst hT;simp only [List.zip_cons_cons,List.flatMap_cons];exact ⟨_,_,rfl,ih h1 (hr 0 (by simp) (by simp)),aaQ ih fs ds b h2 (by simpa using hl) (fun i h1 h2=>hr (i+1) (by simpa using h1) (by simpa using h2))⟩
def agU:∀(n:Nat) {t:yD} {T:Ty} {d:xq H},fH P n t=some T->Rd enc P w base sp held t d->ml T (cQ P n t d)
 | 0,t,T,d,hT,_=>by simp [fH] at hT
 | n+1,t,T,d,hT,hr=>by
  have ih:=@agU n
  cases hu:P.underlying t with
  | none=>simp [fH,hu] at hT
  | some u=>
   cases u with
   | slice e=>
    simp only [fH,hu] at hT;obtain ⟨E,hE,rfl⟩:=wg.1 hT
    rcases arf (n:=n) hu hr with h | ⟨x,jg,h,hm⟩
    ·exact .inl h
    ·refine .inr ⟨x,jg.map (cQ P n e),by rw [h,yk,yax],fun p hp=>?_⟩;obtain ⟨y,hy,rfl⟩:=wm.1 hp;exact ih hE (hm y hy)
   | struct fs=>
    simp only [fH,hu] at hT;obtain ⟨ds,e1,e2,e3⟩:=apa (n:=n) hu hr;rw [e2];exact aaQ ih fs.toList ds T hT e1 e3
   | array k e=>
    simp only [fH,hu] at hT;obtain ⟨E,hE,rfl⟩:=wg.1 hT;obtain ⟨ds,e1,e2,e3⟩:=arh (n:=n) hu hr;refine ⟨ds.map (cQ P n e),by simp [e1],by rw [e2,yax],fun p hp=>?_⟩;obtain ⟨y,hy,rfl⟩:=wm.1 hp;exact ih hE (e3 y hy)
   | int k=>
    simp only [fH,hu,yd] at hT;subst hT;exact axg hu hr
   | float k=>
    simp only [fH,hu,yd] at hT;subst hT;exact axh hu hr
   | bool=>
    simp only [fH,hu,yd] at hT;subst hT;exact atm hu hr
   | string=>
    simp only [fH,hu,yd] at hT;subst hT;exact axi hu hr
   | _=>simp [fH,hu] at hT
def E0:Ty->List AV->AV
 | .nil,l | .cat _ _,l | .ar _ _,l=> .agg l
 | _,l=>l.headD .undef
def apb:∀{l:List (Option Ty)} {T:Ty},mG l=some T->∀x,E0 T x= .agg x
 | [],T,h=>by simp only [mG,yd] at h;subst h;exact fun _=>rfl
 | none::r,T,h=>by simp [mG] at h
 | some a::r,T,h=>by
  cases h1:mG r with
  | none=>simp [mG,h1] at h
  | some b=>
   simp only [mG,h1,yd] at h;subst h;exact fun _=>rfl
def ay9 {n:Nat} {t:yD} {T:Ty} {d:xq H} (hT:fH P n t=some T):kM P n t d=E0 T (cQ P n t d):=by
 cases n with
 | zero=>simp [fH] at hT
 | succ n=>
  cases hu:P.underlying t with
  | none=>simp [fH,hu] at hT
  | some u=>
   cases u with
   | slice e=>
    simp only [fH,hu] at hT;obtain ⟨E,hE,rfl⟩:=wg.1 hT;simp only [kM,hu,E0]
   | struct fs=>
    simp only [fH,hu] at hT;rw [apb hT];simp only [kM,hu]
   | array k e=>
    simp only [fH,hu] at hT;obtain ⟨E,hE,rfl⟩:=wg.1 hT;simp only [kM,hu,E0]
   | _=>
    simp only [fH,hu,yd,reduceCtorEq] at hT<;>
    (subst hT
     simp only [kM,hu,E0])
def Iv:List Ty->List (List AV)->List AV
 | T::Ts,l::ls=>E0 T l::Iv Ts ls
 | _,_=>[]
def acw {n:Nat}:∀{ts:List yD} {Ts:List Ty} {vs:List yf} {ds:List (xq H)} {ps:List wb},(ts.map (fH P n))=Ts.map some->DataW.TrodAll enc P w base sp held ts vs ds ps->
  ∃ls,cz ml Ts ls/\sD P n ts ds=Iv Ts ls/\ds.length=ts.length
 | [],[],[],[],ps,_,_=>⟨[],trivial,rfl,rfl⟩
 | t::ts,T::Ts,v::vs,d::ds,ps,hT,⟨p,q,⟨bn,h1⟩,h2,_⟩=>by
  simp only [xe,List.cons.injEq] at hT;obtain ⟨ls,k1,k2,k3⟩:=acw hT.2 h2;exact ⟨cQ P n t d::ls,⟨agU n hT.1 ⟨bn,_,_,h1⟩,k1⟩,by simp only [sD,Iv,k2,ay9 hT.1],by simp [k3]⟩
 | [],_::_,_,_,_,h,_=>by simp at h
 | _::_,[],_,_,_,h,_=>by simp at h
 | [],[],_::_,_,_,_,h=>by simp [DataW.TrodAll] at h
 | [],[],[],_::_,_,_,h=>by simp [DataW.TrodAll] at h
 | _::_,_,[],_,_,_,h=>by simp [DataW.TrodAll] at h
 | _::_,_,_::_,[],_,_,h=>by simp [DataW.TrodAll] at h
def axj {α β:Type} {p:α->β->Prop} {a:α}:∀{l:List β},cz p [a] l->∃x,l=[x]/\p a x
 | [x],h=>⟨x,rfl,h.1⟩
 | [],h=>h.elim
 | _::_::_,h=>h.2.elim
def axk {α β:Type} {p:α->β->Prop} {a b:α}:∀{l:List β},cz p [a,b] l->∃x y,l=[x,y]/\p a x/\p b y
 | x::l,h=>let ⟨y,h1,h2⟩:=axj h.2;⟨x,y,by rw [h1],h.1,h2⟩
 | [],h=>h.elim
end
end
section
open Go (IntKind)
def Hz (n:Nat):10^n<=2^(4*n):=by
 rw [uW];exact tg (by decide) n
def aby {b:Nat} {r:List Nat} (h:cZ (b::r)=true):48<=b/\b<=57:=by
 simp only [cZ,ye] at h
 simp_all
section
variable {P:aH} {L:Lib}
def agV (h:Tx P L) {ds:List Nat} {N:Nat} (hD:cN ds 0=some N) (hl:ds.length<=4000000000) {neg:Bool} {o1 o2:AV}:
  ∀m st,(∃(pre rest:List Nat) (a:Nat) (s:Int) (w:AV),aQ [0,2,3,4] st=⟨[(0,.str rest),(2,.ptr 0 0),(3,.bool neg),(4,.ptr 1 0)],[(1,.cells true true true 2 [ab s,w]),(0,.cells true true true 2 [o1,o2])],2,0⟩/\ds=pre++rest/\cN pre 0=some a/\dh s w a/\rest.length=m)->
   ∃ex st',D P L (.loop [0,2,3,4] DO) st=some (ex,st')/\∃tm s w,st'=⟨tm,[(1,.cells true true true 2 [ab s,w]),(0,.cells true true true 2 [o1,o2])],2,0⟩/\ex= .exit 0/\aj tm 2= .ptr 0 0/\aj tm 3= .bool neg/\aj tm 4= .ptr 1 0/\dh s w N:=by
 intro dq sq;generalize bk:aQ [0,2,3,4] sq=s0;revert bk s0 sq dq;apply di;rintro m st ⟨pre,rest,a,s,w,rfl,C3,eP,hn,rfl⟩;obtain ⟨l1,u1⟩:=hn.aV;have kQ:=hD;rw [C3,Hi,eP] at kQ;have kQ:cN rest a=some N:=kQ;have hlen:pre.length+rest.length<=4000000000:=by rw [C3,yL] at hl;exact hl
 by_cases h0:rest.length=0
 ·right
  have hr:rest=[]:=yC h0;subst hr
  have:a=N:=by simpa [cN] using kQ
  subst this;simp only [go_sem,DO,yO,show ¬(0:Int)<((0:Nat):Int) by omega];exact ⟨_,_,rfl,by simp,_,s,w,rfl,rfl,by simp only [go_sem,ya],by simp only [go_sem,ya],by simp only [go_sem,ya],hn⟩
 ·left
  obtain ⟨n,zu⟩:∃n,n=min 18 rest.length:=⟨_,rfl⟩;have ah3:(if (rest.length:Int)<18 then (rest.length:Int) else 18)=(n:Int):=by split<;>omega
  have gI:rest.take n++rest.drop n=rest:=List.take_append_drop n rest;obtain ⟨a',CM⟩:∃a',cN (rest.take n) a=some a':=by
   rw [<-gI,Hi] at kQ
   cases hq:cN (rest.take n) a with
   | none=>rw [hq] at kQ;cases kQ
   | some a'=>exact ⟨a',rfl⟩
  obtain ⟨v,hv⟩:∃v,cN (rest.take n) 0=some v:=by
   have:∀(l:List Nat) (x y b:Nat),cN l x=some y->∃z,cN l b=some z:=by
    intro l
    induction l with
    | nil=>intro x y b _;exact ⟨b,rfl⟩
    | cons c l ih=>
     intro x y b hh;simp only [cN] at hh ⊢
     cases hb:(yF 48 c&&yF c 57) with
     | false=>rw [hb] at hh;cases hh
     | true=>rw [hb] at hh;exact ih _ _ _ hh
   exact this _ _ _ 0 CM
  have ajI:=aq9 (a:=a) hv;have Ze:(rest.take n).length=n:=by rw [yI];omega
  rw [Ze,CM,yd] at ajI;have XC:=Q1 hv;rw [Ze] at XC;have aHi:v<1000000000000000000:=yV XC (xb (n:=10) (by decide) (show n<=18 by omega));have e1:=ati (P:=P) h.Xu (f:=D P L) (s:=rest.take n) (by omega) (by omega) hv;obtain ⟨t1,t2⟩:=CD h.toNu (z:=10) (by decide) (by decide);obtain ⟨t3,t4⟩:=CD h.toNu (z:=(v:Int)) (by omega) (by omega);obtain ⟨p,e2,hp⟩:=aAM h.toNu h.Xw t2 (K:=4) (k:=n) (by unfold Bd;decide) (by omega) (by omega)
  have halt:=Q1 eP;have ba:Bd (4*pre.length) (a:Int):=yV halt (Hz _);have bp:Bd (4*n+1) ((10:Int)^n):=Bd.pow (k:=4) (by unfold Bd;decide) n
  obtain ⟨q,e3,hq⟩:=AJ h.toNu (v:= .agg [ab s,w]) ⟨s,w,rfl,hn⟩ hp (K:=4*pre.length+4*n+1) (ba.mono (by omega)) (bp.mono (by omega)) (by omega);have bv':Bd (4*n) (v:Int):=yV XC (Hz _);obtain ⟨r,e4,hr⟩:=Js h.toNu hq t4 (K:=4*pre.length+4*n+1) ((ba.mul bp).mono (by omega)) (bv'.mono (by omega)) (by omega);have aO:(a:Int)*10^n+(v:Int)=(a':Int):=by
   rw [ajI]
   simp
  rw [aO] at hr;obtain ⟨s2,w2,rfl,h2⟩:=hp;obtain ⟨s3,w3,rfl,h3⟩:=hq;obtain ⟨s4,w4,rfl,h4⟩:=hr;obtain ⟨l2,u2⟩:=h2.aV;obtain ⟨l3,u3⟩:=h3.aV;obtain ⟨l4,u4⟩:=h4.aV;have un:=r8;have c1:ic rest (some 0) (some n)=some (.str (rest.take n)):=by rw [lF (by omega) (by omega),yH]
  have c2:ic rest (some n) (some rest.length)=some (.str (rest.drop n)):=by rw [lF (by omega) (by omega),xx]
  simp only [go_sem,ya,DO,show (0:Int)<(rest.length:Nat) by omega,agL,acg,ah3,eG,eU,dD,c1,c2,e1,cd,t1,t3,cG,u1.ao,u2.ao,u3.ao,un.ao,e2,e3,e4,bW,cd,yH,dM u4];refine ⟨_,(rest.drop n).length,rfl,by rw [xT];omega,pre++rest.take n,rest.drop n,a',s4,w4,by simp only [go_sem,ya,yb,av],by rw [xu,gI];exact C3,by rw [Hi,eP];exact CM,h4,rfl⟩
def Qe {b:Nat} {r:List Nat} (h:48<=b):fP [45] (b::r)=false:=by
 show (yx 45 b&&true)=false
 rw [fY (by omega)];rfl
def Ju (h:Tx P L) {z:Int} (hz:(aU z).length<=4000000000):∃r,ak P L 110 [.str (aU z)] r/\cE r z:=by
 have hN:=qj z.natAbs;have un:=r8;have zp:(aw z.natAbs).length<=4000000000:=by
  by_cases h0:z<0
  ·rw [lC h0] at hz;simp at hz;omega
  ·rw [<-mY,yr h0] at hz;simpa using hz
 have ba:Bd (4*(aw z.natAbs).length) (z.natAbs:Int):=yV (Q1 hN) (Hz _);by_cases h0:z<0
 ·have hs:aU z=45::aw z.natAbs:=lC h0;have e1:bH P L (D P L) 152 [.str (45::aw z.natAbs),.str [45]]=some (.bool true):=by rw [iL h.ajC];rfl
  have e2:bH P L (D P L) 153 [.str (45::aw z.natAbs),.str [45]]=some (.str (aw z.natAbs)):=by rw [iL h.Xt];rfl
  have iB:∃s w r,ak P L 110 [.str (aU z)] r/\dh s w (z.natAbs:Int)/\ak P L 147 [.agg [ab s,w]] r/\cE r (-(z.natAbs:Int)):=by
   rw [hs];unfold ak;rw [aI h.ajE];simp only [go_sem,ya,yb,MO,bg,e1,e2,un.pu,un.one,dM un];generalize hq:D P L (.loop [0,2,3,4] DO) _=q;obtain ⟨ex,st,rfl,tm,s,w,rfl,rfl,t2,t3,t4,h5⟩:=bI hq (agV (P:=P) (L:=L) h hN zp (neg:=true) (o1:= .int .i64 0) (o2:= .aa) (aw z.natAbs).length) ⟨[],aw z.natAbs,0,0,.aa,by simp only [go_sem,ya,yb,av]<;>rfl,rfl,rfl,.inl ⟨rfl,rfl,by decide,by decide⟩,rfl⟩
   obtain ⟨l5,u5⟩:=h5.aV;obtain ⟨r,e3,hr⟩:=EZ h.toNu (v:= .agg [ab s,w]) ⟨s,w,rfl,h5⟩ (K:=4*(aw z.natAbs).length) ba (by omega);have bR:=hr;obtain ⟨s6,w6,rfl,h6⟩:=hr;obtain ⟨l6,u6⟩:=h6.aV;refine ⟨s,w,_,?_,h5,e3,bR⟩;simp only [go_sem,ya,yb,av,t2,t3,t4,cd,cG,u5.ao,e3,bW,e9,fa,cd,yH,mD u6,dM u6]
  obtain ⟨s,w,r,g1,_,_,g2⟩:=iB;rw [show -((z.natAbs:Nat):Int)=z by omega] at g2;exact ⟨r,g1,g2⟩
 ·have hs:aU z=aw z.natAbs:=by rw [<-mY,yr h0];rfl
  obtain ⟨b,r0,hb,mi,hb2⟩:=Du z.natAbs;have e1:bH P L (D P L) 152 [.str (aw z.natAbs),.str [45]]=some (.bool false):=by
   rw [iL h.ajC,hb];show some (AV.bool (fP [45] (b::r0)))=_
   rw [Qe mi]
  have e2:bH P L (D P L) 153 [.str (aw z.natAbs),.str [45]]=some (.str (aw z.natAbs)):=by
   rw [iL h.Xt,hb];show some (AV.str (bif fP [45] (b::r0) then _ else _))=_
   rw [Qe mi];rfl
  have iB:∃s w,ak P L 110 [.str (aU z)] (.agg [ab s,w])/\dh s w (z.natAbs:Int):=by
   rw [hs];unfold ak;rw [aI h.ajE];simp only [go_sem,ya,yb,MO,bg,e1,e2,un.pu,un.one,dM un];generalize hq:D P L (.loop [0,2,3,4] DO) _=q;obtain ⟨ex,st,rfl,tm,s,w,rfl,rfl,t2,t3,t4,h5⟩:=bI hq (agV (P:=P) (L:=L) h hN zp (neg:=false) (o1:= .int .i64 0) (o2:= .aa) (aw z.natAbs).length) ⟨[],aw z.natAbs,0,0,.aa,by simp only [go_sem,ya,yb,av]<;>rfl,rfl,rfl,.inl ⟨rfl,rfl,by decide,by decide⟩,rfl⟩
   obtain ⟨l5,u5⟩:=h5.aV;refine ⟨s,w,?_,h5⟩;simp only [go_sem,ya,yb,av,t2,t3,t4,cd,e9,fa,cd,yH,mD u5,dM u5]
  obtain ⟨s,w,g1,g2⟩:=iB;rw [show ((z.natAbs:Nat):Int)=z by omega] at g2;exact ⟨_,g1,s,w,rfl,g2⟩
def Ha (b:Nat) (r:List Nat) (c:Nat):fP [c] (b::r)=yx c b:=by
 show (yx c b&&true)=_
 grind
def aad:∀(l r:List Nat) (k:Nat),(∀x,x∈l->x≠47)->lJ [47] (l++47::r) k=some (k+l.length)
 | [],r,k,_=>by
  show (bif fP [47] (47::r) then some k else _)=_
  rw [Ha];rfl
 | b::l,r,k,h=>by
  show (bif fP [47] (b::(l++47::r)) then some k else lJ [47] (l++47::r) (k+1))=_
  rw [Ha,fY (fun e=>h b (by simp) e.symm),yS,aad l r (k+1) (fun x hx=>h x (by simp [hx])),yG]
  grind
def index_none:∀(l:List Nat) (k:Nat),(∀x,x∈l->x≠47)->lJ [47] l k=none
 | [],k,_=>rfl
 | b::l,k,h=>by
  show (bif fP [47] (b::l) then some k else lJ [47] l (k+1))=_
  rw [Ha,fY (fun e=>h b (by simp) e.symm),yS,index_none l (k+1) (fun x hx=>h x (by simp [hx]))]
def acx:∀{l:List Nat},cZ l=true->∀x,x∈l->48<=x/\x<=57
 | [],_,x,hx=>by simp at hx
 | b::l,h,x,hx=>by
  have h1:=aby h;simp only [cZ,ye] at h;rcases wM.1 hx with rfl | hx
  ·grind
  ·exact acx h.2 x hx
def amc (z:Int):∀x,x∈aU z->x≠47:=fun x hx=>by
 rw [<-mY] at hx;rcases List.mem_append.1 hx with h | h
 ·grind
 ·have:=acx (zR _) x h;omega
def m62 (h:Tx P L) {a:Rat} (hl:(RT a).length<4000000000):∃r,ak P L 62 [.str (RT a)] r/\dX r a:=by
 have Fk:=amc a.num;unfold RT at hl ⊢;by_cases hd:a.den=1
 ·rw [yE hd,wA] at hl ⊢;obtain ⟨p,e1,hp⟩:=Ju h (z:=a.num) (by omega);obtain ⟨r,e2,hr⟩:=Xs h.toFr' hp;rw [<-QZ a hd] at hr;have bR:=hr;obtain ⟨s1,w1,rfl,h1⟩:=hp;obtain ⟨s2,w2,s3,w3,rfl,h2,h3⟩:=hr;obtain ⟨l1,u1⟩:=h1.aV;obtain ⟨l2,u2⟩:=h2.aV;obtain ⟨l3,u3⟩:=h3.aV;have e0:bH P L (D P L) 109 [.str (aU a.num),.str [47]]=some (.ae [.str (aU a.num),.str [],.bool false]):=by
   rw [iL h.Xv];show (bif yP (aU a.num).length 4294967281 then (match lJ [47] (aU a.num) 0 with | some i=>_ | none=>some (AV.ae [.str (aU a.num),.str [],.bool false])) else none)=_
   rw [jS (by omega),index_none _ _ Fk];rfl
  refine ⟨_,?_,bR⟩;unfold ak;rw [aI h.O8];simp only [go_sem,ya,yb,Fv,bg,e0,e1,bW,u1.ao,cG,e2,mE u2 u3,e9,fa,yH,iT,mF u2 u3]
 ·rw [yr hd] at hl ⊢;simp only [yL,yG] at hl;obtain ⟨p,e1,hp⟩:=Ju h (z:=a.num) (by omega);obtain ⟨q,e2,hq⟩:=Ju h (z:=(a.den:Int)) (by rw [jL];omega);rw [jL] at e2;obtain ⟨s1,w1,rfl,h1⟩:=hp;obtain ⟨s2,w2,rfl,h2⟩:=hq;obtain ⟨l1,u1⟩:=h1.aV;obtain ⟨l2,u2⟩:=h2.aV;have e0:bH P L (D P L) 109 [.str (aU a.num++47::aw a.den),.str [47]]=some (.ae [.str (aU a.num),.str (aw a.den),.bool true]):=by
   rw [iL h.Xv];show (bif yP (aU a.num++47::aw a.den).length 4294967281 then (match lJ [47] (aU a.num++47::aw a.den) 0 with | some i=>some (AV.ae [.str ((aU a.num++47::aw a.den).take i),.str ((aU a.num++47::aw a.den).drop (i+1)),.bool true]) | none=>_) else none)=_
   rw [jS (by simp;omega),aad _ _ _ Fk];simp only [yg,yB,List.take_left];rw [show (aU a.num).length+1=(aU a.num++[47]).length by simp,show aU a.num++47::aw a.den=(aU a.num++[47])++aw a.den by simp,List.drop_left]
  refine ⟨.agg [ab s1,w1,ab s2,w2],?_,s1,w1,s2,w2,rfl,h1,h2⟩;unfold ak;rw [aI h.O8];simp only [go_sem,ya,yb,Fv,bg,e0,e1,e2,bW,u1.one,u2.one,DH,DI,mE u1 u2,e9,fa,yH,iT,mF u1 u2]
end
end
section
open Go (IntKind)
def dw (p:List Nat):Bool:=cZ p&&(match p with | []=>false | b::r=> !(yx b 48)||r.isEmpty)
def fc (p:List Nat):Nat:=(cN p 0).getD 0
def mb (neg:Bool) (t:List Nat):Int:=
 if dw (t.take (bU t))=false\/(neg=true/\t.take (bU t)=[48]) then 1
 else if bU t<t.length/\(dw (t.drop (bU t+1))=false\/t.drop (bU t+1)=[48]\/t.drop (bU t+1)=[49]) then 1
 else if 600<bU t\/600<t.length-bU t-1 then 4
 else if bU t<t.length/\wz (fc (t.take (bU t))) (fc (t.drop (bU t+1)))≠1 then 1
 else 0
def cu:List Nat->Int
 | []=>mb false []
 | b::t=>if b=45 then mb true t else mb false (b::t)
def acy:∀{p:List Nat} (a:Nat),cZ p=true->∃n,cN p a=some n
 | [],a,_=>⟨a,rfl⟩
 | b::r,a,h=>by
  have h':=h;simp only [cZ,ye] at h';obtain ⟨n,hn⟩:=acy (p:=r) (10*a+(b-48)) h'.2;exact ⟨n,by simp only [cN,h'.1.1,h'.1.2,wN,yB];exact hn⟩
def Dv:∀(k:Nat) {p:List Nat},p.length=k->dw p=true->aw (fc p)=p:=by
 intro k
 induction k with
 | zero=>intro p hl h;rw [yC hl] at h;simp [dw] at h
 | succ k ih=>
  intro p hl h;rcases snoc p with rfl | ⟨m,a,rfl⟩
  ·grind
  ·simp only [dw,ye,KK] at h;obtain ⟨⟨h1,h2⟩,h3⟩:=h;simp only [cZ,ye] at h2;have ha1:=yA h2.1.1;have ha2:=yA h2.1.2;obtain ⟨n,hn⟩:=acy 0 h1;have hv:fc (m++[a])=10*n+(a-48):=by
    unfold fc;rw [Hi,hn];simp only [xI,cN,h2.1.1,h2.1.2,wN,yB,Option.getD_some]
   cases m with
   | nil=>
    have:n=0:=by simpa [cN] using hn.symm
    rw [hv,mX (by omega)]
    simp;omega
   | cons b r=>
    have hd:dw (b::r)=true:=by
     simp only [dw,h1,xH]
     cases r with
     | nil=>simp
     | cons c r=>simp at h3 ⊢;exact h3
    have hm:=ih (p:=b::r) (by simpa using hl) hd;have hnv:fc (b::r)=n:=by unfold fc;rw [hn];rfl
    rw [hnv] at hm;have A1:n≠0:=fun e=>by
     rw [mX (by omega)] at hm
     simp_all
    rw [hv,nX (by omega),show (10*n+(a-48))/10=n by omega,show 48+(10*n+(a-48))%10=a by omega,hm]
def ZO (t:List Nat):bU t<t.length->t=t.take (bU t)++47::t.drop (bU t+1):=by
 induction t with
 | nil=>simp
 | cons b r ih=>
  intro h;simp only [bU] at h ⊢
  grind
def abz {n:Int} {d:Nat} (hd:0<d) (hg:wz n.natAbs d=1):∃r:Rat,r.num=n/\r.den=d:=⟨⟨n,d,by omega,hg⟩,rfl,rfl⟩
def axl {s:List Nat} (h:cu s=0):∃r:Rat,s=RT r/\(aw r.num.natAbs).length<=600/\(aw r.den).length<=600:=by
 have key:∀(neg:Bool) (t:List Nat),mb neg t=0->∃r:Rat,(if neg=true then [45] else [])++t=RT r/\(aw r.num.natAbs).length<=600/\(aw r.den).length<=600:=by
  intro neg t h;unfold mb at h
  split at h
  ·grind
  rename_i h1
  split at h
  ·grind
  rename_i h2
  split at h
  ·grind
  rename_i h3
  split at h
  ·grind
  rename_i h4;have hle:=G8 t;have hp:dw (t.take (bU t))=true:=by
   cases hb:dw (t.take (bU t)) with
   | true=>rfl
   | false=>exact absurd (.inl hb) h1
  have p7:=Dv _ rfl hp;generalize hn:fc (t.take (bU t))=n at*
  have aza:neg=true->n≠0:=fun hh e=>by
   subst e;exact h1 (.inr ⟨hh,by rw [<-p7];rfl⟩)
  have hint:(if neg=true then [45] else [])++aw n=aU (if neg=true then -(n:Int) else n):=by
   cases neg with
   | true=>
    have:=aza rfl
    simp only [xA];rw [lC (by omega)]
    simp
   | false=>simp [jL]
  have XD:(if neg=true then -(n:Int) else n).natAbs=n:=by split<;>omega
  have hln:(aw n).length<=600:=by rw [p7,yI];omega
  by_cases hs:bU t<t.length
  ·have hq:dw (t.drop (bU t+1))=true:=by
    cases hb:dw (t.drop (bU t+1)) with
    | true=>rfl
    | false=>exact absurd ⟨hs,.inl hb⟩ h2
   have nR:=Dv _ rfl hq;have hg:wz n (fc (t.drop (bU t+1)))=1:=by
    grind
   have ju:=ZO t hs;have Kr:(t.drop (bU t+1)).length<=600:=by rw [xT];omega
   rw [<-nR] at ju Kr;have fX:fc (t.drop (bU t+1))≠0:=fun e=>by
    rw [e] at nR;exact h2 ⟨hs,.inr (.inl (by rw [<-nR];rfl))⟩
   have iC:fc (t.drop (bU t+1))≠1:=fun e=>by
    rw [e] at nR;exact h2 ⟨hs,.inr (.inr (by rw [<-nR];rfl))⟩
   generalize fc (t.drop (bU t+1))=d at*
   obtain ⟨r,cV,mh⟩:=abz (n:=if neg=true then -(n:Int) else n) (d:=d) (by omega) (by rw [XD];exact hg)
   refine ⟨r,?_,by rw [cV,XD];exact hln,by rw [mh];exact Kr⟩
   unfold RT;rw [cV,mh,yr iC,<-hint,xu]
   congr 1
   rw [p7];exact ju
  ·have ht:t.take (bU t)=t:=yN (by omega);rw [ht] at p7;obtain ⟨r,cV,mh⟩:=abz (n:=if neg=true then -(n:Int) else n) (d:=1) (by omega) (Nat.gcd_one_right _);refine ⟨r,?_,by rw [cV,XD];exact hln,by rw [mh];decide⟩
   unfold RT;rw [cV,mh,yE rfl,<-hint,wA,p7]
 cases s with
 | nil=>exact absurd h (by decide)
 | cons b t=>
  simp only [cu] at h
  split at h
  ·rename_i hb;subst hb;exact key true t h
  ·exact key false (b::t) h
end
section
namespace Nd
structure Ord (n:Nat) (l:List Int):Prop where
 len:l.length=n
 oQ:∀a,a<n->0<=l.getD a 0/\l.getD a 0<n
 inj:∀a b,a<n->b<n->l.getD a 0=l.getD b 0->a=b
end Nd
end
section
namespace Nd
open Go (IntKind)
section
variable {P:aH} {L:Lib}
abbrev ak (P:aH) (L:Lib) (f:Nat) (aq:List AV) (r:AV):Prop:=bH P L (D P L) f aq=some r
def stS {hp:Hp} {ct id o:Nat} {v:Int} {ex:Bool} {l:List Int} (h:o<l.length):gU hp ct id o 1 [.int .i64 v] (some (.cells true true ex 1 (l.map ab)))=some (.ae [],bc hp id (.cells true true ex 1 ((l.set o v).map ab)),ct):=by
 rw [qQ (by rfl) (by simp;omega) (by rfl)]
 have:over o [AV.int .i64 v] (l.map ab)=(l.set o v).map ab:=by
  simp only [over,yG,yO,yg];rw [ybu,vz,yE (by simpa using h)]
  simp
 rw [this];rfl
def mM (h:Has P L 124 Eo) (b:Bool) (n:Int):ak P L 124 [.bool b,ab n] (ab (if b=true then n else 0)):=by
 unfold ak;rw [aI h]
 cases b with
 | true=>simp only [go_sem,ya,Eo,xA]
 | false=>simp only [go_sem,ya,Eo];rfl
def XE (h:Has P L 125 MQ) {v:AV} {l:List Int} (hv:br v l) (hl:l.length<=1000000):ak P L 125 [v] (ab (b9 l)):=by
 unfold ak;rw [aI h];simp only [go_sem,ya,MQ,hv.len];have key:=acd (P:=P) (L:=L) (live:=[5,6,7]) (a:=L4)
  (I:=fun k s=>∃tm ct i,s=⟨tm,[],ct,0⟩/\aj tm 5=v/\aj tm 6=ab l.length/\aj tm 7=ab (i:Nat)/\i+k=l.length/\b9 (l.drop i)=b9 l)
  (Q:=fun ex s=>∃tm,s=⟨tm,[],0,0⟩/\((ex= .ret/\aj tm 2=ab (b9 l))\/(ex= .exit 0/\b9 l=0))) ?_ l.length
 ·generalize hq:D P L (.loop [5,6,7] L4) _=q;obtain ⟨ex,s,rfl,tm,rfl,h2⟩:=bI hq key ⟨_,_,0,rfl,rfl,rfl,rfl,by omega,rfl⟩;rcases h2 with ⟨rfl,h2⟩ | ⟨rfl,h2⟩
  ·simp only [go_sem,h2]
  ·rw [h2];simp only [go_sem]
 ·rintro k s ⟨tm,ct,i,rfl,h5,h6,h7,hk,hf⟩;rw [aml (by simp only [go_sem,h5,h6,h7,hv.pu])];simp only [go_sem,ya,h5,h6,h7,L4];by_cases hi:i<l.length
  ·have cS:(i:Int)<l.length:=by omega
   rw [amI hi] at hf;by_cases hz:l[i]=0
   ·left
    simp only [go_sem,ya,cS,hv.aM hi,hz];refine ⟨_,k-1,rfl,by omega,_,_,i+1,rfl,?_⟩;rw [wrap64 (by omega) (by omega)];rw [yE hz] at hf;simp only [go_sem,ya];exact ⟨trivial,trivial,rfl,by omega,hf⟩
   ·right
    simp only [go_sem,ya,cS,hv.aM hi,hz];rw [yr hz] at hf;refine ⟨_,_,rfl,by simp,_,rfl,.inl ⟨rfl,?_⟩⟩;simp only [go_sem,hf]
  ·right
   have cS:¬(i:Int)<l.length:=by omega
   simp only [go_sem,cS];refine ⟨_,_,rfl,by simp,_,rfl,.inr ⟨rfl,?_⟩⟩;rw [<-hf,xj (by omega)];rfl
end
end Nd
end
section
open Go (IntKind)
def acz (i:Nat):En i [48,49,50,51,52,53,54,55,56,57]=(yF 48 i&&yF i 57):=by
 by_cases h:48<=i/\i<=57
 ·obtain ⟨h1,h2⟩:=h;obtain ⟨k,rfl⟩:∃k,i=48+k:=⟨i-48,by omega⟩;rcases (show k=0\/k=1\/k=2\/k=3\/k=4\/k=5\/k=6\/k=7\/k=8\/k=9 by omega) with rfl | rfl | rfl | rfl | rfl | rfl | rfl | rfl | rfl | rfl<;>rfl
 ·have e:(yF 48 i&&yF i 57)=false:=by
   cases h1:yF 48 i with
   | false=>rfl
   | true=>
    cases h2:yF i 57 with
    | false=>rfl
    | true=>exact absurd ⟨yA h1,yA h2⟩ h
  rw [e];have ne:∀c,48<=c->c<=57->yx c i=false:=fun c h1 h2=>fY (by omega)
  simp only [En,ne 48 (by decide) (by decide),ne 49 (by decide) (by decide),ne 50 (by decide) (by decide),ne 51 (by decide) (by decide),ne 52 (by decide) (by decide),ne 53 (by decide) (by decide),ne 54 (by decide) (by decide),ne 55 (by decide) (by decide),ne 56 (by decide) (by decide),ne 57 (by decide) (by decide),yS]
def Qf:∀l:List Nat,jR [48,49,50,51,52,53,54,55,56,57] l=[]↔cZ l=true
 | []=>by simp [jR,cZ]
 | b::r=>by
  simp only [jR,cZ,acz]
  cases hb:(yF 48 b&&yF b 57) with
  | true=>simp only [yB,xH];exact Qf r
  | false=>simp
def Ls:∀l:List Nat,cZ l.reverse=cZ l
 | []=>rfl
 | b::r=>by rw [List.reverse_cons,KK,Ls r];simp [cZ,Bool.and_comm]
def ZS:∀l:List Nat,cZ l=false->cZ (jR [48,49,50,51,52,53,54,55,56,57] l)=false
 | [],h=>by simp [cZ] at h
 | b::r,h=>by
  simp only [jR,acz]
  cases hb:(yF 48 b&&yF b 57) with
  | true=>
   simp only [cZ,hb,xH] at h;exact ZS r h
  | false=>simp only [yS];exact h
def ari (p:List Nat):cU (jR [48,49,50,51,52,53,54,55,56,57] (jR [48,49,50,51,52,53,54,55,56,57] p.reverse).reverse) []=cZ p:=by
 cases hd:cZ p with
 | true=>
  have h1:=(Qf p.reverse).2 (by rw [Ls];exact hd)
  rw [h1];rfl
 | false=>
  have h1:=ZS p.reverse (by rw [Ls];exact hd)
  have h2:cZ (jR [48,49,50,51,52,53,54,55,56,57] p.reverse).reverse=false:=by rw [Ls];exact h1
  cases hq:jR [48,49,50,51,52,53,54,55,56,57] (jR [48,49,50,51,52,53,54,55,56,57] p.reverse).reverse with
  | nil=>have:=(Qf _).1 hq;rw [h2] at this;exact absurd this (by decide)
  | cons b r=>rfl
def ZT:∀(t:List Nat) (k:Nat),lJ [47] t k=if bU t<t.length then some (k+bU t) else none
 | [],k=>by simp [lJ,fP,bU]
 | b::r,k=>by
  by_cases hb:b=47
  ·subst hb;have e:bU (47::r)=0:=by simp [bU]
   rw [e,yE (by simp)];rfl
  ·have e:bU (b::r)=bU r+1:=by simp [bU,hb]
   have hp:fP [47] (b::r)=false:=by rw [Ha];exact fY (fun e=>hb e.symm)
   rw [e,lJ,hp,yS,ZT r (k+1)]
   grind
def qF (a b:List Nat):binOp .neq (.str a) (.str b)=some (.bool (!(cU a b))):=rfl
structure Ck (P:aH) (L:Lib):Prop extends Tx P L where
 aAN:L.pure 128=some KT
 aAO:L.pure 162=some trimS
 h86:Has P L 86 dC
 oL:Has P L 124 Eo
 XF:Has P L 125 MQ
 aAP:Has P L 129 Ep
section
variable {P:aH} {L:Lib}
def mM (h:Has P L 124 Eo) (b:Bool) (n:Int):ak P L 124 [.bool b,ab n] (ab (if b=true then n else 0)):=Nd.mM h b n
def ajJ (h:Ck P L) {p:List Nat} (hl:p.length<=4000000000):ak P L 129 [.str p] (.bool (dw p)):=by
 have e1:bH P L (D P L) 162 [.str p,.str [48,49,50,51,52,53,54,55,56,57]]=some (.str (jR [48,49,50,51,52,53,54,55,56,57] (jR [48,49,50,51,52,53,54,55,56,57] p.reverse).reverse)):=by
  rw [iL h.aAO];show (bif DN [48,49,50,51,52,53,54,55,56,57]&&(yP p.length 4294967281&&yP 10 4294967281) then _ else none)=_
  rw [jS (by omega)];rfl
 have e2:=ari p;unfold ak;rw [aI h.aAP]
 match p,e1,e2 with
 | [],_,_=>
  simp only [go_sem,ya,Ep,qF,show cU [] []=true from rfl,yQ];rfl
 | b::r,e1,e2=>
  have hI:mz 0 (.str (b::r))=some (.int .u8 (b:Nat)):=rfl;have h0:cU (b::r) []=false:=rfl;have hd:dw (b::r)=(cZ (b::r)&&(!(yx b 48)||r.isEmpty)):=rfl;rw [hd]
  cases kF:cZ (b::r) with
  | false=>
   rw [kF] at e2;simp only [go_sem,ya,Ep,qF,h0,yR,e1,jN,e2,xO]
  | true=>
   rw [kF] at e2;by_cases hb:b=48
   ·subst hb;have e3:cU (48::r) [48]=r.isEmpty:=by
     cases r with
     | nil=>rfl
     | cons c r=>rfl
    have Yk:mz 0 (.str (48::r))=some (.int .u8 48):=rfl;simp only [go_sem,ya,Ep,qF,h0,yR,e1,jN,e2,Yk,yu,yQ,e3];rfl
   ·have:yx b 48=false:=fY hb
    rw [this];simp only [go_sem,ya,Ep,qF,h0,yR,e1,jN,e2,hI,show ¬((b:Nat):Int)=48 by omega,yv,yR];rfl
def aAQ (h:Ck P L) (s:List Nat):bH P L (D P L) 128 [.str s,.str [45]]=some (if s.head? =some 45 then .ae [.str s.tail,.bool true] else .ae [.str s,.bool false]):=by
 rw [iL h.aAN];show some (bif fP [45] s then AV.ae [.str (s.drop 1),.bool true] else .ae [.str s,.bool false])=_
 cases s with
 | nil=>rfl
 | cons b r=>
  by_cases hb:b=45
  ·subst hb;rfl
  ·have:fP [45] (b::r)=false:=by rw [Ha];exact fY (fun e=>hb e.symm)
   grind
def aAR (h:Ck P L) {t:List Nat} (hl:t.length<=4000000000):bH P L (D P L) 109 [.str t,.str [47]]=some (.ae [.str (t.take (bU t)),.str (t.drop (bU t+1)),.bool (decide (bU t<t.length))]):=by
 rw [iL h.Xv];show (bif yP t.length 4294967281 then (match lJ [47] t 0 with | some i=>some (AV.ae [.str (t.take i),.str (t.drop (i+1)),.bool true]) | none=>some (AV.ae [.str t,.str [],.bool false])) else none)=_
 rw [jS (by omega),ZT];by_cases hs:bU t<t.length
 ·grind
 ·rw [yr hs,y7 hs,yN (by omega),xj (by omega)];rfl
def anD {P:aH} {L:Lib} (a b c d:VC) (s:St):D P L (.seq a (.seq b (.seq c d))) s=mC P L (D P L (.seq a (.seq b c)) s) d:=by
 have e:=BC (P:=P) (L:=L) b c d;rw [jw,jw]
 cases D P L a s with
 | none=>rfl
 | some q=>
  obtain ⟨ex,st⟩:=q
  cases ex with
  | normal=>rw [fD,fD];exact e st
  | ret=>rfl
  | exit id=>rfl
def apc {P:aH} {L:Lib} (a b c d f:VC) (s:St):D P L (.seq a (.seq b (.seq c (.seq d f)))) s=mC P L (D P L (.seq a (.seq b (.seq c d))) s) f:=by
 have e:=anD (P:=P) (L:=L) b c d f;rw [jw,jw]
 cases D P L a s with
 | none=>rfl
 | some q=>
  obtain ⟨ex,st⟩:=q
  cases ex with
  | normal=>rw [fD,fD];exact e st
  | ret=>rfl
  | exit id=>rfl
def Q3 {a b:List Nat} (h:a=b):cU a b=true:=by
 subst h
 induction a with
 | nil=>rfl
 | cons x a ih=>simp [cU,ih]
def Q4 {a b:List Nat} (h:a≠b):cU a b=false:=by
 cases hb:cU a b with
 | false=>rfl
 | true=>
  exact absurd (by
   clear h;revert b
   induction a with
   | nil=>intro b hb;cases b with | nil=>rfl | cons y b=>simp [cU] at hb
   | cons x a ih=>
    intro b hb
    cases b with
    | nil=>simp [cU] at hb
    | cons y b=>
     simp only [cU,ye] at hb
     rw [ym hb.1,ih hb.2]) h
def azb (h:Ck P L) {p q:List Nat} {ok found:Bool} (lp:p.length<=1000000000) (lq:q.length<=1000000000) (iK:ok=true->dw p=true/\(found=true->dw q=true)) {tm:Env} (t5:aj tm 5= .str p) (t6:aj tm 6= .str q) (t7:aj tm 7= .bool found) (t8:aj tm 8= .bool ok):
  fR [.t 2] (D P L (aA (aA (aA (aA (aA dC.body))))) ⟨tm,[],0,0⟩)=some (ab (
   if ok=false then 1
   else if 600<p.length\/600<q.length then 4
   else if found=true/\wz (fc p) (fc q)≠1 then 1
   else 0)):=by
 have w1:=mM h.oL (!ok) 1;have Pc:∀a b:Int,ak P L 125 [.ai true 2 [ab a,ab b]] (ab (b9 [a,b])):=fun a b=>Nd.XE h.XF (mv true [a,b]) (by simp)
 cases ok with
 | false=>
  have f1:=Pc 1 0;have f2:=Pc 1 4;have w2:=mM h.oL false 4;have w3:=mM h.oL true 4;simp only [yR,xA,yJ,xd] at w1 w2 w3;rw [show b9 [1,0]=1 by decide] at f1;rw [show b9 [1,4]=1 by decide] at f2;unfold ak at w1 w2 w3 f1 f2;by_cases h1:600<p.length
  ·simp only [go_sem,ya,yb,yM,yy,yi,dC,aA,show ¬(1:Int)=0 by decide,yR,t5,t8,yR,w1,show (600:Int)<(p.length:Int) by omega,yu,w3,f2,yv]
   simp
  ·by_cases h2:600<q.length
   ·simp only [go_sem,ya,yb,yM,yy,yi,dC,aA,show ¬(1:Int)=0 by decide,yR,t5,t6,t8,yR,w1,show ¬(600:Int)<(p.length:Int) by omega,show (600:Int)<(q.length:Int) by omega,yu,yv,w3,f2]
    simp
   ·simp only [go_sem,ya,yb,yM,yy,yi,dC,aA,show ¬(1:Int)=0 by decide,yR,t5,t6,t8,yR,w1,show ¬(600:Int)<(p.length:Int) by omega,show ¬(600:Int)<(q.length:Int) by omega,yv,w2,f1]
    simp
 | true=>
  obtain ⟨hp,hq⟩:=iK rfl;have f1:=Pc 0 0;have f2:=Pc 0 4;have w2:=mM h.oL false 4;have w3:=mM h.oL true 4;have w4:=mM h.oL false 1;have w5:=mM h.oL true 1;simp only [yQ,xA,yJ,xd] at w1 w2 w3 w4 w5;rw [show b9 [0,0]=0 by decide] at f1;rw [show b9 [0,4]=4 by decide] at f2;unfold ak at w1 w2 w3 w4 w5 f1 f2;rw [yr (by decide)];by_cases h1:600<p.length
  ·rw [yE (.inl h1)];simp only [go_sem,ya,yb,yM,yy,yi,dC,aA,show ¬(4:Int)=0 by decide,yR,t5,t8,yQ,w1,show (600:Int)<(p.length:Int) by omega,yu,w3,f2,yv]
  ·by_cases h2:600<q.length
   ·rw [yE (.inr h2)];simp only [go_sem,ya,yb,yM,yy,yi,dC,aA,show ¬(4:Int)=0 by decide,yR,t5,t6,t8,yQ,w1,show ¬(600:Int)<(p.length:Int) by omega,show (600:Int)<(q.length:Int) by omega,yu,yv,w3,f2]
   ·rw [yr (by omega)]
    cases found with
    | false=>
     rw [yr (by simp)];simp only [go_sem,ya,yb,yM,yy,yi,dC,aA,t5,t6,t7,t8,yQ,w1,show ¬(600:Int)<(p.length:Int) by omega,show ¬(600:Int)<(q.length:Int) by omega,yu,yv,w2,f1]
    | true=>
     have p7:=Dv _ rfl hp;have nR:=Dv _ rfl (hq rfl);generalize fc p=n at*
     generalize fc q=d at*
     subst p7;subst nR;obtain ⟨M,hM⟩:∃M:Nat,M=2400:=⟨_,rfl⟩;have bd:∀{m:Nat},(aw m).length<=600->Bd M (m:Int):=fun {m} hm=>by
      have h1:=Hy m;have h2:=Hz (aw m).length;have h3:(2:Nat)^(4*(aw m).length)<=2^M:=xb (by decide) (by omega);unfold Bd;rw [xY];exact yV h1 (xf h2 h3)
     obtain ⟨x,e1,hx⟩:=Ju h.toTx (z:=(n:Int)) (by rw [jL];omega);obtain ⟨y,e2,hy⟩:=Ju h.toTx (z:=(d:Int)) (by rw [jL];omega);rw [jL] at e1 e2;have kn:=bd (m:=n) (by omega);have kd:=bd (m:=d) (by omega);obtain ⟨g,e3,hg⟩:=ajz h.toNu hx hy kn kd (by omega);obtain ⟨e4,X4⟩:=CD h.toNu (z:=1) (by decide) (by decide);have kg:Bd M ((Int.gcd (n:Int) (d:Int):Nat):Int):=by
      rcases Nat.eq_zero_or_pos d with h0 | h0
      ·subst h0;simpa using kn
      ·exact kd.le (by have:=Nat.gcd_le_right n h0;simpa using this)
     have e5:=aAB h.toNu hg X4 (K:=M) kg (by unfold Bd;exact Nat.one_lt_two_pow (by omega)) (by omega)
     have aAS:Int.gcd (n:Int) (d:Int)=wz n d:=rfl;rw [aAS] at e5;obtain ⟨xs,xw,rfl,C8⟩:=hx;obtain ⟨ys,yw,rfl,C9⟩:=hy;obtain ⟨gs,gw,rfl,Zf⟩:=hg;obtain ⟨l1,u1⟩:=C8.aV;obtain ⟨l2,u2⟩:=C9.aV;obtain ⟨l3,u3⟩:=Zf.aV;by_cases gT:wz n d=1
     ·rw [yr (by simp [gT])];have hs:db (((wz n d:Nat):Int)-1)=0:=by rw [gT];rfl
      rw [hs] at e5;simp only [go_sem,ya,yb,yM,yy,yi,dC,aA,t5,t6,t7,t8,yQ,w1,show ¬(600:Int)<((aw n).length:Int) by omega,show ¬(600:Int)<((aw d).length:Int) by omega,yu,yv,w2,f1,e1,e2,u1.ao,u2.ao,u3.ao,bW,cG,e3,e4,e5]
     ·rw [yE ⟨rfl,gT⟩];obtain ⟨c,hc,kB⟩:∃c,db (((wz n d:Nat):Int)-1)=c/\c≠0:=⟨_,rfl,fun e=>gT (by
       unfold db at e
       split at e
       ·exact absurd e (by decide)
       ·split at e
        ·omega
        ·exact absurd e (by decide))⟩
      rw [hc] at e5;simp only [go_sem,ya,yb,yM,yy,yi,dC,aA,yR,t5,t6,t7,t8,yQ,w1,show ¬(600:Int)<((aw n).length:Int) by omega,show ¬(600:Int)<((aw d).length:Int) by omega,yu,yv,w2,f1,e1,e2,u1.ao,u2.ao,u3.ao,bW,cG,e3,e4,e5,kB,yR,w5]
def m86 (h:Ck P L) {s:List Nat} (hl:s.length<=1000000000):ak P L 86 [.str s] (ab (cu s)):=by
 have key:∀(neg:Bool) (t:List Nat),t.length<=1000000000->bH P L (D P L) 128 [.str s,.str [45]]=some (.ae [.str t,.bool neg])->ak P L 86 [.str s] (ab (mb neg t)):=by
  intro neg t hl e0;have e1:=aAR h (t:=t) (by omega);obtain ⟨k,hk⟩:∃k,k=bU t:=⟨_,rfl⟩;have Zg:k<=t.length:=by rw [hk];exact G8 t
  have e2:=ajJ h (p:=t.take k) (by rw [yI];omega);have e3:=ajJ h (p:=t.drop (k+1)) (by rw [xT];omega);have lp:(t.take k).length=k:=by rw [yI];omega
  have lq:(t.drop (k+1)).length=t.length-k-1:=by rw [xT];omega
  unfold mb;rw [<-hk] at e1 ⊢;generalize hp:t.take k=p at*
  generalize hq:t.drop (k+1)=q at*
  obtain ⟨Bk,rm⟩:∃ok:Bool,ok=(dw p&&(!neg|| !(cU p [48]))):=⟨_,rfl⟩;obtain ⟨ok,iK⟩:∃ok:Bool,ok=(Bk&&(!(decide (k<t.length))||(dw q&&(!(cU q [48])&& !(cU q [49]))))):=⟨_,rfl⟩
  have EV:(if dw p=false\/(neg=true/\p=[48]) then 1
    else if k<t.length/\(dw q=false\/q=[48]\/q=[49]) then 1
    else if 600<k\/600<t.length-k-1 then 4
    else if k<t.length/\wz (fc p) (fc q)≠1 then 1 else 0:Int)=(if ok=false then 1
    else if 600<p.length\/600<q.length then 4
    else if decide (k<t.length)=true/\wz (fc p) (fc q)≠1 then 1
    else 0):=by
   rw [lp,lq];have a1:(dw p=false\/(neg=true/\p=[48]))↔Bk=false:=by
    rw [rm];cases dw p<;>cases neg<;>simp
    by_cases e:p=[48]
    ·simp [e,Q3]
    ·simp [e,Q4 e]
   have a2:ok=false↔(Bk=false\/(k<t.length/\(dw q=false\/q=[48]\/q=[49]))):=by
    rw [iK];by_cases hs:k<t.length
    ·simp only [hs,yu,yQ,uE,uX];cases Bk<;>cases dw q<;>simp
     by_cases e:q=[48]
     ·simp [e,Q3]
     ·by_cases e':q=[49]
      ·simp [e',Q3]
      ·simp [e,e',Q4 e,Q4 e']
    ·simp [hs]
   by_cases h1:Bk=false
   ·rw [yE (a1.2 h1),yE (a2.2 (.inl h1))]
   ·rw [yr (fun e=>h1 (a1.1 e))];by_cases h2:k<t.length/\(dw q=false\/q=[48]\/q=[49])
    ·rw [yE h2,yE (a2.2 (.inr h2))]
    ·rw [yr h2,yr (fun e=>(a2.1 e).elim h1 h2)];simp only [xK]
  rw [EV];have aAT:ok=true->dw p=true/\(decide (k<t.length)=true->dw q=true):=fun e=>by
   rw [iK,ye] at e;obtain ⟨e1,e2⟩:=e;rw [rm,ye] at e1;refine ⟨e1.1,fun hs=>?_⟩;rw [hs,yQ,uE,ye] at e2;exact e2.1
  have tail:∀tm,aj tm 5= .str p->aj tm 6= .str q->aj tm 7= .bool (decide (k<t.length))->aj tm 8= .bool ok->fR [.t 2] (D P L (aA (aA (aA (aA (aA dC.body))))) ⟨tm,[],0,0⟩)=_:=fun tm t5 t6 t7 t8=>
   azb h (by omega) (by omega) aAT t5 t6 t7 t8
  have mid:∀tm,aj tm 5= .str p->aj tm 6= .str q->aj tm 7= .bool (decide (k<t.length))->aj tm 8= .bool Bk->
    ∃cg,D P L (bB (aA (aA (aA (aA dC.body))))) ⟨tm,[],0,0⟩=some (.normal,⟨cg,[],0,0⟩)/\aj cg 5= .str p/\aj cg 6= .str q/\aj cg 7= .bool (decide (k<t.length))/\aj cg 8= .bool ok:=fun tm t5 t6 t7 t8=>by
   unfold ak at e3;by_cases hs:k<t.length
   ·rw [xi hs] at t7 iK ⊢;simp only [yQ,uE] at iK
    cases Bk with
    | false=>
     rw [xO] at iK;subst iK;refine ⟨_,by simp only [go_sem,ya,dC,bB,aA,t7,t8]<;>rfl,?_⟩
     simp only [go_sem,ya,t5,t6,t7,uX]
    | true=>
     rw [xH] at iK
     cases hd:dw q with
     | false=>
      rw [hd] at e3 iK;rw [xO] at iK;subst iK;refine ⟨_,by simp only [go_sem,ya,dC,bB,aA,t6,t7,t8,e3]<;>rfl,?_⟩
      simp only [go_sem,ya,t5,t6,t7,uX]
     | true=>
      rw [hd] at e3 iK;rw [xH] at iK
      cases jb:cU q [48] with
      | true=>
       rw [jb,yQ,xO] at iK;subst iK;refine ⟨_,by simp only [go_sem,ya,dC,bB,aA,t6,t7,t8,e3,qF,jb,yQ]<;>rfl,?_⟩
       simp only [go_sem,ya,t5,t6,t7,uX]
      | false=>
       rw [jb,yR,xH] at iK;subst iK;refine ⟨_,by simp only [go_sem,ya,dC,bB,aA,t6,t7,t8,e3,qF,jb,yR]<;>rfl,?_⟩
       simp only [go_sem,ya,t5,t6,t7,uX]
   ·rw [y7 hs] at t7 iK ⊢;simp only [yR,ybw,Bool.and_true] at iK;subst iK;refine ⟨_,by simp only [go_sem,dC,bB,aA,t7]<;>rfl,?_⟩
    simp only [go_sem,ya,t5,t6,t7,t8,uX]
  have fin:∀tm,aj tm 5= .str p->aj tm 6= .str q->aj tm 7= .bool (decide (k<t.length))->aj tm 8= .bool Bk->
    D P L (.seq (bB dC.body) (.seq (bB (aA dC.body)) (.seq (bB (aA (aA dC.body))) (bB (aA (aA (aA dC.body))))))) ⟨[(0,.str s)],[],0,0⟩=some (.normal,⟨tm,[],0,0⟩)->ak P L 86 [.str s] _:=fun tm t5 t6 t7 t8 e=>by
   obtain ⟨cg,e',f5,f6,f7,f8⟩:=mid tm t5 t6 t7 t8;unfold ak;rw [aI h.h86];show fR [.t 2] (D P L (.seq (bB dC.body) (.seq (bB (aA dC.body)) (.seq (bB (aA (aA dC.body))) (.seq (bB (aA (aA (aA dC.body)))) (.seq (bB (aA (aA (aA (aA dC.body))))) (aA (aA (aA (aA (aA dC.body)))))))))) ⟨[(0,.str s)],[],0,0⟩)=_
   rw [apc,e,fD,jw,e',fD];exact tail cg f5 f6 f7 f8
  unfold ak at e2
  cases hd:dw p with
  | false=>
   rw [hd] at e2 rm;rw [xO] at rm;subst rm;refine fin _ ?_ ?_ ?_ ?_ (by simp only [go_sem,ya,dC,bB,aA,e0,e1,e2]<;>rfl)<;>simp only [go_sem,ya]
  | true=>
   rw [hd] at e2 rm
   cases neg with
   | false=>
    simp only [yR,ybw] at rm;subst rm;refine fin _ ?_ ?_ ?_ ?_ (by simp only [go_sem,ya,dC,bB,aA,e0,e1,e2,yR]<;>rfl)<;>simp only [go_sem,ya]
   | true=>
    simp only [yQ,uE] at rm;subst rm;refine fin _ ?_ ?_ ?_ ?_ (by simp only [go_sem,ya,dC,bB,aA,e0,e1,e2,yQ,qF]<;>rfl)<;>simp only [go_sem,ya]
 unfold cu;have e0:=aAQ h s
 cases s with
 | nil=>exact key false [] (by simp) e0
 | cons b r=>
  by_cases hb:b=45
  ·subst hb;exact key true r (by simp at hl;omega) e0
  ·simp only [hb,xd];rw [yr (by simpa using hb)] at e0;exact key false (b::r) hl e0
end
end
section
open Go (IntKind)
def LN (z:Int):Bool:=decide (600<(aw z.natAbs).length)
def LG (r:Rat):Bool:=LN r.num||LN (r.den:Int)
def PT {m B k:Nat} (hB:B<=3*k) (hk:0<k) (h:m<2^B):(aw m).length<=k:=by
 obtain ⟨j,rfl⟩:∃j,k=j+1:=⟨k-1,by omega⟩;refine qw (yV h (xf (xb (by decide) hB) ?_));rw [uW];exact tg (by decide) _
def Q5:∀f n:Nat,et f n<=f
 | 0,_=>yo _
 | f+1,n=>by
  unfold et
  cases yx n 0 with
  | true=>exact Nat.zero_le _
  | false=>have:=Q5 f (n/2);simp only [yS];omega
def axm {P:aH} {L:Lib} {f:cy} (h:L.pure 175=some HH) {x:Nat} (hx:x<18446744073709551616):bH P L f 175 [uc x]=some (ab (et 64 x:Nat)):=by
 rw [iL h];show (bif yP x 18446744073709551616 then _ else none)=_
 rw [jS hx];rfl
def atn {V n top low:Nat} (hn:0<n) (h0:0<top) (ht:top<18446744073709551616) (hV:V=low+18446744073709551616^(n-1)*top) (hl:low<18446744073709551616^(n-1)):V<2^(64*(n-1)+et 64 top):=by
 obtain ⟨l1,l2,l3⟩:=QA h0 ht;have hle:=Q5 64 top;have h1:top<2^et 64 top:=by
  have e:(18446744073709551616:Nat)=2^et 64 top*2^(64-et 64 top):=by rw [<-wG,show et 64 top+(64-et 64 top)=64 by omega]
  rw [e] at l3;exact Nat.lt_of_mul_lt_mul_right l3
 have h3:=Nat.mul_le_mul_left (18446744073709551616^(n-1)) (show top+1<=2^et 64 top from h1);rw [wG,uW]
 grind
section
variable {P:aH} {L:Lib}
def arj (K:Nat):2^K<=18446744073709551616^(K/64+1):=by
 rw [show (18446744073709551616:Nat)=2^64 from rfl,<-uW];exact xb (by decide) (by omega)
def azc (h:Tx P L) {v:AV} {z:Int} {K:Nat} (hv:cE v z) (hz:Bd K z) (hK:K<=4000000000):∃B:Nat,ak P L 172 [v] (ab B)/\z.natAbs<2^B/\B<=K+64:=by
 obtain ⟨s,w,rfl,hn⟩:=hv;obtain ⟨l,u⟩:=hn.aV;obtain ⟨r,e1,hr⟩:=zd h.toNu hn;obtain ⟨ws,hw,g,nz',hb⟩:=hr;have hl:ws.length<=K/64+1:=nB nz' hb (yV hz (arj K));unfold ak at e1 ⊢;by_cases h0:ws=[]
 ·subst h0;have lh:z.natAbs=0:=by rw [<-hb];rfl
  refine ⟨0,?_,by rw [lh];decide,by omega⟩
  rw [aI h.ajD];simp only [go_sem,ya,yb,MY,bg,cd,cG,u.pu,u.ao,u.one,e1,hw.len,yO,show ((0:Nat):Int)=0 from rfl,yu]
 ·have hp:0<ws.length:=List.length_pos_iff.2 h0;have Ar:=Lo nz' h0;have C0:=gg (show 0<18446744073709551616 by decide) g (ws.length-1);have ei:=hw.aM (i:=ws.length-1) (by omega);have eD:=iO (b:=18446744073709551616) (l:=ws) (ws.length-1);have Jv:=lQ (z6 g (ws.length-1));rw [yI,Nat.min_eq_left (by omega)] at Jv;rw [show ws.length-1+1=ws.length by omega,yN (yo _)] at eD;generalize ws.getD (ws.length-1) 0=top at*
  have e2:=axm (P:=P) (f:=D P L) h.aAG C0;have hle:=Q5 64 top;have ahB:=atn hp (Nat.pos_of_ne_zero Ar) C0 eD Jv;rw [hb] at ahB;refine ⟨64*(ws.length-1)+et 64 top,?_,ahB,by omega⟩;rw [aI h.ajD]
  simp only [go_sem,ya,yb,MY,bg,cd,cG,u.pu,u.ao,u.one,e1,hw.len,show ¬(ws.length:Int)=0 by omega,show (ws.length:Int)-1=((ws.length-1:Nat):Int) by omega,wrapN (n:=ws.length-1) (by omega),show (64:Int)*((ws.length-1:Nat):Int)=((64*(ws.length-1):Nat):Int) by omega,wrapN (n:=64*(ws.length-1)) (by omega),ei,e2,show ((64*(ws.length-1):Nat):Int)+((et 64 top:Nat):Int)=((64*(ws.length-1)+et 64 top:Nat):Int) from rfl,wrapN (n:=64*(ws.length-1)+et 64 top) (by omega)]
def aAU (h:Tx P L) {v:AV} {z:Int} {K:Nat} (hv:cE v z) (hz:Bd K z) (hK:K<=4000000000):∃B:Nat,ak P L 172 [v] (ab B)/\z.natAbs<2^B/\B<=300000000000:=by
 obtain ⟨B,h1,h2,h3⟩:=azc h hv hz hK;exact ⟨B,h1,h2,by omega⟩
def ape (z:Int):(if fP [45] (aU z)=true then (aU z).drop 1 else aU z)=aw z.natAbs:=by
 by_cases h:z<0
 ·rw [lC h];rfl
 ·obtain ⟨m,rfl⟩:∃m:Nat,z=m:=⟨z.toNat,by omega⟩;rw [jL];obtain ⟨b,r,hb,h1,_⟩:=Du m;rw [xY,hb,Qe h1];rfl
def ajK (h:Tx P L) {v:AV} {z:Int} {K:Nat} (hv:cE v z) (hz:Bd K z) (hK:K<=4000000000):ak P L 151 [v] (.bool (LN z)):=by
 obtain ⟨B,e1,hB,hBb⟩:=aAU h hv hz hK;have e2:=Zb h hv hz hK;obtain ⟨s,w,rfl,hn⟩:=hv;obtain ⟨l,u⟩:=hn.aV;have e3:bH P L (D P L) 153 [.str (aU z),.str [45]]=some (.str (aw z.natAbs)):=by
  rw [iL h.Xt,<-ape];show some (AV.str (bif fP [45] (aU z) then (aU z).drop 1 else aU z))=_
  cases fP [45] (aU z)<;>rfl
 unfold ak at e1 e2 ⊢;rw [aI h.aAH];unfold LN;by_cases h1:1800<B
 ·simp only [go_sem,ya,yb,MT,bg,cd,cG,u.pu,u.ao,u.one,e1,show (1800:Int)<(B:Int) by omega,yu,e2,e3];by_cases h2:600<(aw z.natAbs).length
  ·rw [xi h2,xi (by omega)]
  ·rw [y7 h2,y7 (by omega)]
 ·have h2:=PT (k:=600) (by omega) (by decide) hB;rw [y7 (by omega)];simp only [go_sem,ya,yb,MT,bg,cd,cG,u.pu,u.ao,u.one,e1,show ¬(1800:Int)<(B:Int) by omega,yv]
def aAV (h:Tx P L) {v:AV} {a:Rat} {K:Nat} (hv:dX v a) (ka:Hq K a) (hK:K<=4000000000):ak P L 107 [v] (.bool (LG a)):=by
 obtain ⟨s1,w1,s2,w2,rfl,h1,h2⟩:=hv;have e1:=ajK h ⟨s1,w1,rfl,h1⟩ ka.1 hK;have e2:=ajK h ⟨s2,w2,rfl,h2⟩ ka.2 hK;obtain ⟨l1,u1⟩:=h1.aV;obtain ⟨l2,u2⟩:=h2.aV;unfold ak at e1 e2 ⊢;rw [aI h.aAI];unfold LG
 cases hb:LN a.num with
 | true=>
  rw [hb] at e1;simp only [go_sem,ya,yb,MN,bg,bY,yg,cd,cG,u1.pu,u1.ao,u1.one,u2.pu,u2.one,e1];rfl
 | false=>
  rw [hb] at e1;simp only [go_sem,ya,yb,MN,bg,bY,yg,show vZ 2 [ab s1,w1,ab s2,w2]=[ab s2,w2] from rfl,cd,cG,u1.pu,u1.ao,u1.one,u2.pu,u2.ao,u2.one,e1,e2];rfl
end
end
section
open Go (IntKind)
def apf (p s:Nat):p*(s%1000000000)+p*1000000000*(s/1000000000)=p*s:=by
 rw [xk,<-Nat.mul_add,Nat.mod_add_div]
def Hj {l:List Int} {i:Nat} (h:l.length<=i):l.getD i 0=0:=by simp_all
def ark {a b out:List Int} {i c:Nat} {x y:Int} (hx:x=a.getD i 0) (hy:y=b.getD i 0) (h1:0<=x) (h2:0<=y) (hl:out.length=i) (hv:dv out+1000000000^i*c=dv (a.take i)+dv (b.take i)):
  dv (out++[(((x.toNat+y.toNat+c)%1000000000:Nat):Int)])+1000000000^(i+1)*((x.toNat+y.toNat+c)/1000000000)=dv (a.take (i+1))+dv (b.take (i+1)):=by
 rw [n7,n7,mr,hl,<-hx,<-hy];simp only [dv,xZ,xD,yZ,xc]
 have:=apf (1000000000^i) (x.toNat+y.toNat+c)
 grind
section
variable {P:aH} {L:Lib}
def axn (mN:Has P L 302 qZ) {v w:AV} {a b:List Int} (hv:br v a) (hw:br w b) (ha:dg a) (hb:dg b) {N:Nat} (la:a.length<=N) (lb:b.length<=N) (lN:N<=20000000000):
  ∀k s,(∃(i c:Nat) (out:List Int),2*(N-i)+c=k/\out.length=i/\c<=1/\dg out/\dv out+1000000000^i*c=dv (a.take i)+dv (b.take i)/\i<=N+1/\(i<=N\/c=0)/\
    ((i=0/\aQ [0,1,5,6,7] s=⟨[(0,v),(1,w),(5,.aa),(6,ab c),(7,ab i)],[],0,0⟩)\/
    (0<i/\aQ [0,1,5,6,7] s=⟨[(0,v),(1,w),(5,.aC 0 0 i),(6,ab c),(7,ab i)],[(0,.cells true true false 1 (out.map ab))],1,0⟩)))->
   ∃ex s',D P L (.loop [0,1,5,6,7] oh) s=some (ex,s')/\∃tm out,ex= .exit 0/\dg out/\dv out=dv a+dv b/\out.length<=N+1/\((out=[]/\aj tm 5= .aa/\s'=⟨tm,[],0,0⟩)\/(0<out.length/\aj tm 5= .aC 0 0 out.length/\s'=⟨tm,[(0,.cells true true false 1 (out.map ab))],1,0⟩)):=by
 intro dq sq;generalize bk:aQ [0,1,5,6,7] sq=s0;revert bk s0 sq dq;apply di;rintro k s ⟨i,c,out,hk,hlen,hc,kF,aO,hi,Fj,hs⟩;have e1:=Xe mN hv i;have e2:=Xe mN hw i;unfold ak at e1 e2;have ga:=gN ha i;have gb:=gN hb i;by_cases rN:i<a.length\/i<b.length\/0<c
 ·left
  obtain ⟨x,hx⟩:∃x,x=a.getD i 0:=⟨_,rfl⟩;obtain ⟨y,hy⟩:∃y,y=b.getD i 0:=⟨_,rfl⟩;rw [<-hx] at e1 ga;rw [<-hy] at e2 gb;have jT:=ark (c:=c) hx hy ga.1 gb.1 hlen aO;obtain ⟨s0,zk⟩:∃s0,s0=x.toNat+y.toNat+c:=⟨_,rfl⟩;rw [<-zk] at jT;have AL:x+y+(c:Int)=(s0:Int):=by omega
  have hs9:s0<2000000000:=by omega
  have hr:((s0:Nat):Int).tmod 1000000000=((s0%1000000000:Nat):Int):=by rw [xX (by omega)];rfl
  have hq:((s0:Nat):Int).tdiv 1000000000=((s0/1000000000:Nat):Int):=by rw [xV (by omega)];rfl
  have kD:s0/1000000000<=1:=by omega
  have azd:2*(N-(i+1))+s0/1000000000<k:=by
   by_cases hm:i<N
   ·omega
   ·have:c=1:=by omega
    have zD:x=0:=by rw [hx];exact Hj (by omega)
    have jo:y=0:=by rw [hy];exact Hj (by omega)
    subst zD;subst jo
    have:s0=1:=by rw [zk,this];rfl
    subst this;omega
  have E1:dg (out++[((s0%1000000000:Nat):Int)]):=gM.2 ⟨kF,kK.2 (by omega)⟩;have R8:(out++[((s0%1000000000:Nat):Int)]).length=i+1:=by simp [hlen]
  have aAW:i+1<=N\/s0/1000000000=0:=by
   by_cases hm:i<N
   ·exact .inl hm
   ·right
    have:c=1:=by omega
    have zD:x=0:=by rw [hx];exact Hj (by omega)
    have jo:y=0:=by rw [hy];exact Hj (by omega)
    subst zD;subst jo
    have:s0=1:=by rw [zk,this];rfl
    subst this;rfl
  have fin:∃s',D P L oh s=some (.normal,s')/\aQ [0,1,5,6,7] s'=⟨[(0,v),(1,w),(5,.aC 0 0 (i+1)),(6,ab (s0/1000000000:Nat)),(7,ab (i+1:Nat))],[(0,.cells true true false 1 ((out++[((s0%1000000000:Nat):Int)]).map ab))],1,0⟩:=by
   have three:((i:Int)<a.length)\/(¬(i:Int)<a.length/\(i:Int)<b.length)\/(¬(i:Int)<a.length/\¬(i:Int)<b.length/\(0:Int)<c):=by omega
   rcases three with t1 | ⟨t1,t2⟩ | ⟨t1,t2,t3⟩
   ·rcases hs with ⟨h0,rfl⟩ | ⟨h0,rfl⟩
    ·subst h0;have mc:out=[]:=yC hlen;subst mc
     simp only [go_sem,ya,yb,xM,yM,yy,yi,oh,hv.len,hv.ao,hw.ao,t1,e1,e2,wrap64 (n:=x+y) (by omega) (by omega),AL,wrap64 (n:=(s0:Int)) (by omega) (by omega),iq _ _ _ (show (1000000000:Int)≠0 by decide),fO _ _ _ (show (1000000000:Int)≠0 by decide),hr,hq,wrap64 (n:=((s0/1000000000:Nat):Int)) (by omega) (by omega),im];refine ⟨_,rfl,?_⟩;rw [wrap64 (by omega) (by omega)];simp only [go_sem,ya,yb,av,au hv.pu,ax _ hv.pu,au hw.pu,ax _ hw.pu]<;>rfl
    ·simp only [go_sem,ya,yb,yy,yi,oh,hv.len,hv.ao,hw.ao,t1,e1,e2,wrap64 (n:=x+y) (by omega) (by omega),AL,wrap64 (n:=(s0:Int)) (by omega) (by omega),iq _ _ _ (show (1000000000:Int)≠0 by decide),hr]
     rw [gY (ex:=false) (pu:=true) (cs:=out.map ab) (by simp only [go_sem,ya]) (by rw [yk,hlen,yi]) (by omega) (by omega) (by decide) (by simp only [go_sem])]
     simp only [go_sem,ya,yb,fO _ _ _ (show (1000000000:Int)≠0 by decide),hq,wrap64 (n:=((s0/1000000000:Nat):Int)) (by omega) (by omega)];refine ⟨_,rfl,?_⟩;rw [wrap64 (by omega) (by omega),xy];simp only [go_sem,ya,yb,av,au hv.pu,ax _ hv.pu,au hw.pu,ax _ hw.pu]<;>rfl
   ·rcases hs with ⟨h0,rfl⟩ | ⟨h0,rfl⟩
    ·subst h0;have mc:out=[]:=yC hlen;subst mc
     simp only [go_sem,ya,yb,xM,yM,yy,yi,oh,hv.len,hv.ao,hw.len,hw.ao,t1,t2,e1,e2,wrap64 (n:=x+y) (by omega) (by omega),AL,wrap64 (n:=(s0:Int)) (by omega) (by omega),iq _ _ _ (show (1000000000:Int)≠0 by decide),fO _ _ _ (show (1000000000:Int)≠0 by decide),hr,hq,wrap64 (n:=((s0/1000000000:Nat):Int)) (by omega) (by omega),im];refine ⟨_,rfl,?_⟩;rw [wrap64 (by omega) (by omega)];simp only [go_sem,ya,yb,av,au hv.pu,ax _ hv.pu,au hw.pu,ax _ hw.pu]<;>rfl
    ·simp only [go_sem,ya,yb,yy,yi,oh,hv.len,hv.ao,hw.len,hw.ao,t1,t2,e1,e2,wrap64 (n:=x+y) (by omega) (by omega),AL,wrap64 (n:=(s0:Int)) (by omega) (by omega),iq _ _ _ (show (1000000000:Int)≠0 by decide),hr]
     rw [gY (ex:=false) (pu:=true) (cs:=out.map ab) (by simp only [go_sem,ya]) (by rw [yk,hlen,yi]) (by omega) (by omega) (by decide) (by simp only [go_sem])]
     simp only [go_sem,ya,yb,fO _ _ _ (show (1000000000:Int)≠0 by decide),hq,wrap64 (n:=((s0/1000000000:Nat):Int)) (by omega) (by omega)];refine ⟨_,rfl,?_⟩;rw [wrap64 (by omega) (by omega),xy];simp only [go_sem,ya,yb,av,au hv.pu,ax _ hv.pu,au hw.pu,ax _ hw.pu]<;>rfl
   ·rcases hs with ⟨h0,rfl⟩ | ⟨h0,rfl⟩
    ·subst h0;have mc:out=[]:=yC hlen;subst mc
     simp only [go_sem,ya,yb,xM,yM,yy,yi,oh,hv.len,hv.ao,hw.len,hw.ao,t1,t2,t3,e1,e2,wrap64 (n:=x+y) (by omega) (by omega),AL,wrap64 (n:=(s0:Int)) (by omega) (by omega),iq _ _ _ (show (1000000000:Int)≠0 by decide),fO _ _ _ (show (1000000000:Int)≠0 by decide),hr,hq,wrap64 (n:=((s0/1000000000:Nat):Int)) (by omega) (by omega),im];refine ⟨_,rfl,?_⟩;rw [wrap64 (by omega) (by omega)];simp only [go_sem,ya,yb,av,au hv.pu,ax _ hv.pu,au hw.pu,ax _ hw.pu]<;>rfl
    ·simp only [go_sem,ya,yb,yy,yi,oh,hv.len,hv.ao,hw.len,hw.ao,t1,t2,t3,e1,e2,wrap64 (n:=x+y) (by omega) (by omega),AL,wrap64 (n:=(s0:Int)) (by omega) (by omega),iq _ _ _ (show (1000000000:Int)≠0 by decide),hr]
     rw [gY (ex:=false) (pu:=true) (cs:=out.map ab) (by simp only [go_sem,ya]) (by rw [yk,hlen,yi]) (by omega) (by omega) (by decide) (by simp only [go_sem])]
     simp only [go_sem,ya,yb,fO _ _ _ (show (1000000000:Int)≠0 by decide),hq,wrap64 (n:=((s0/1000000000:Nat):Int)) (by omega) (by omega)];refine ⟨_,rfl,?_⟩;rw [wrap64 (by omega) (by omega),xy];simp only [go_sem,ya,yb,av,au hv.pu,ax _ hv.pu,au hw.pu,ax _ hw.pu]<;>rfl
  obtain ⟨s',f1,f2⟩:=fin;exact ⟨s',_,f1,azd,i+1,s0/1000000000,_,rfl,R8,kD,E1,jT,by omega,aAW,.inr ⟨by omega,f2⟩⟩
 ·right
  have kB:c=0:=by omega
  subst kB;rw [xD,yZ,yN (by omega),yN (by omega)] at aO;rcases hs with ⟨h0,rfl⟩ | ⟨h0,rfl⟩
  ·simp only [go_sem,ya,oh,hv.len,hw.len,show ¬(i:Int)<a.length by omega,show ¬(i:Int)<b.length by omega,show ¬(0:Int)<((0:Nat):Int) by omega];exact ⟨_,_,rfl,by simp,_,out,rfl,kF,aO,by omega,.inl ⟨yC (by omega),by simp only [go_sem,ya],rfl⟩⟩
  ·simp only [go_sem,ya,oh,hv.len,hw.len,show ¬(i:Int)<a.length by omega,show ¬(i:Int)<b.length by omega,show ¬(0:Int)<((0:Nat):Int) by omega];exact ⟨_,_,rfl,by simp,_,out,rfl,kF,aO,by omega,.inr ⟨by omega,by rw [hlen];simp only [go_sem,ya],rfl⟩⟩
def aAX (h:Has P L 295 IX) (mN:Has P L 302 qZ) {v w:AV} {a b:List Int} (hv:br v a) (hw:br w b) (ha:dg a) (hb:dg b) (la:a.length<=20000000000) (lb:b.length<=20000000000):
  ∃r out,ak P L 295 [v,w] r/\br (shut r) out/\dg out/\dv out=dv a+dv b/\out.length<=max a.length b.length+1:=by
 have iB:∃out,ak P L 295 [v,w] (if out=[] then .aa else .bt false 1 out.length (out.map ab))/\dg out/\dv out=dv a+dv b/\out.length<=max a.length b.length+1:=by
  unfold ak;rw [aI h];simp only [go_sem,IX];generalize hq:D P L (.loop [0,1,5,6,7] oh) _=q;obtain ⟨ex,s,rfl,tm,out,rfl,hd,aO,hl,hs⟩:=bI hq (axn (P:=P) (L:=L) mN hv hw ha hb (N:=max a.length b.length) (by omega) (by omega) (by omega) (2*(max a.length b.length))) ⟨0,0,[],by omega,rfl,by omega,rfl,by simp [dv],by omega,.inr rfl,.inl ⟨rfl,by simp only [go_sem,ya,av,au hv.pu,ax _ hv.pu,au hw.pu,ax _ hw.pu]<;>rfl⟩⟩
  refine ⟨out,?_,hd,aO,hl⟩;rcases hs with ⟨h0,h5,rfl⟩ | ⟨h0,h5,rfl⟩
  ·rw [yE h0];simp only [go_sem,av,h5]
  ·rw [yr (by intro e;subst e;simp at h0)];simp only [go_sem,yb,av,h5];exact By (qt _ _ _) (by simp) (by decide)
 obtain ⟨out,g1,g2,g3,g4⟩:=iB;refine ⟨_,out,g1,?_,g2,g3,g4⟩
 split
 ·rename_i e;subst e;exact qu
 ·exact mv false out
end
end
section
open Go (IntKind)
section
variable {P:aH} {L:Lib}
def XG (h:Has P L 296 qY) {v w:AV} {a b:List Int} (hv:br v a) (hw:br w b) (ha:dg a) (hb:dg b) (na:nz a) (nb:nz b) (la:a.length<=20000000000) (lb:b.length<=20000000000):
  ak P L 296 [v,w] (ab (dF (dv a) (dv b))):=by
 unfold ak;rw [aI h];by_cases hlen:a.length=b.length
 ·have key:=fN (P:=P) (L:=L) (live:=[0,1,5]) (a:=BV)
   (I:=fun k st=>∃j:Nat,st=⟨[(0,v),(1,w),(5,ab ((j:Int)-1))],[],0,0⟩/\j<=a.length/\j=k/\a.drop j=b.drop j)
   (Q:=fun ex st=>∃tm ct,st=⟨tm,[],ct,0⟩/\((ex= .ret/\aj tm 4=ab (dF (dv a) (dv b)))\/(ex= .exit 0/\a=b))) ?_
  ·simp only [go_sem,ya,qY,hv.len,hw.len,show (a.length:Int)=b.length by omega];generalize hq:D P L (.loop [0,1,5] BV) _=q;obtain ⟨ex,st,rfl,tm,ct,rfl,h2⟩:=bI hq (key a.length) ⟨a.length,by
    rw [wrap64 (by omega) (by omega)];rw [hlen]
    simp only [go_sem,ya,av,au hv.pu,ax _ hv.pu,au hw.pu,ax _ hw.pu]<;>rfl,yo _,rfl,by rw [xj (yo _),xj (by omega)]⟩
   rcases h2 with ⟨rfl,h2⟩ | ⟨rfl,h2⟩
   ·simp only [go_sem,h2]
   ·simp only [go_sem,av];subst h2;simp [dF]
  ·rintro k st ⟨j,rfl,hj,rfl,he⟩
   cases j with
   | zero=>
    right
    simp only [go_sem,ya,BV,show ¬(0:Int)<=((0:Nat):Int)-1 by omega];exact ⟨_,_,rfl,by simp,_,_,rfl,.inr ⟨rfl,by simpa using he⟩⟩
   | succ i=>
    have h1:i<a.length:=by omega
    have h2:i<b.length:=by omega
    have Fp:=afx ha hb h1 h2 he;have aW:=afx hb ha h2 h1 he.symm;by_cases c1:a[i]<b[i]
    ·right
     simp only [go_sem,ya,BV,show ((i+1:Nat):Int)-1=(i:Int) by omega,show (0:Int)<=(i:Int) by omega,hv.aM h1,hw.aM h2,c1];refine ⟨_,_,rfl,by simp,_,_,rfl,.inl ⟨rfl,?_⟩⟩;simp only [go_sem];unfold dF;rw [yE (Fp c1)]
    ·by_cases c2:b[i]<a[i]
     ·right
      simp only [go_sem,ya,BV,show ((i+1:Nat):Int)-1=(i:Int) by omega,show (0:Int)<=(i:Int) by omega,hv.aM h1,hw.aM h2,c1,c2];refine ⟨_,_,rfl,by simp,_,_,rfl,.inl ⟨rfl,?_⟩⟩;simp only [go_sem];unfold dF;rw [yr (by omega),yE (by omega)]
     ·left
      simp only [go_sem,ya,BV,show ((i+1:Nat):Int)-1=(i:Int) by omega,show (0:Int)<=(i:Int) by omega,hv.aM h1,hw.aM h2,c1,c2];refine ⟨_,i,rfl,by omega,i,?_,by omega,rfl,?_⟩
      ·rw [wrap64 (by omega) (by omega)];simp only [go_sem,ya,av,au hv.pu,ax _ hv.pu,au hw.pu,ax _ hw.pu]<;>rfl
      ·rw [yX h1,yX h2,he,show a[i]=b[i] by omega]
 ·by_cases c1:a.length<b.length
  ·have:=Ru ha nb hb c1
   simp only [go_sem,ya,qY,hv.len,hw.len,show ¬(a.length:Int)=b.length by omega,show (a.length:Int)<b.length by omega];unfold dF;rw [yE this]
  ·have:=Ru hb na ha (show b.length<a.length by omega)
   simp only [go_sem,ya,qY,hv.len,hw.len,show ¬(a.length:Int)=b.length by omega,show ¬(a.length:Int)<b.length by omega];unfold dF;rw [yr (by omega),yE this]
def arl {a b out:List Int} {i c:Nat} {x y z:Int} {c':Nat} (hx:x=a.getD i 0) (hy:y=b.getD i 0) (h1:0<=x) (h2:0<=y) (h3:0<=z) (hz:z=x-y-c+1000000000*c') (hl:out.length=i) (hv:dv out+dv (b.take i)=dv (a.take i)+1000000000^i*c):
  dv (out++[z])+dv (b.take (i+1))=dv (a.take (i+1))+1000000000^(i+1)*c':=by
 rw [n7,n7,mr,hl,<-hx,<-hy];simp only [dv,xD,yZ,xc];have e:z.toNat+y.toNat+c=x.toNat+1000000000*c':=by omega
 grind
end
end
section
open Go (IntKind)
section
variable {P:aH} {L:Lib}
def axo (mN:Has P L 302 qZ) {v w:AV} {a b:List Int} (hv:br v a) (hw:br w b) (ha:dg a) (hb:dg b) (la:a.length<=20000000000) (hle:dv b<=dv a) (C6:b.length<=a.length):
  ∀k s,(∃(i c:Nat) (out:List Int),i+k=a.length/\out.length=i/\c<=1/\dg out/\dv out+dv (b.take i)=dv (a.take i)+1000000000^i*c/\
    ((i=0/\aQ [0,1,5,6,7] s=⟨[(0,v),(1,w),(5,.aa),(6,ab c),(7,ab i)],[],0,0⟩)\/
    (0<i/\aQ [0,1,5,6,7] s=⟨[(0,v),(1,w),(5,.aC 0 0 i),(6,ab c),(7,ab i)],[(0,.cells true true false 1 (out.map ab))],1,0⟩)))->
   ∃ex s',D P L (.loop [0,1,5,6,7] qI) s=some (ex,s')/\∃tm out,ex= .exit 0/\dg out/\dv out+dv b=dv a/\out.length<=20000000000/\((out=[]/\aj tm 5= .aa/\s'=⟨tm,[],0,0⟩)\/(0<out.length/\aj tm 5= .aC 0 0 out.length/\s'=⟨tm,[(0,.cells true true false 1 (out.map ab))],1,0⟩)):=by
 intro dq sq;generalize bk:aQ [0,1,5,6,7] sq=s0;revert bk s0 sq dq;apply di;rintro k s ⟨i,c,out,hk,hlen,hc,kF,aO,hs⟩;have e2:=Xe mN hw i;unfold ak at e2;have ga:=gN ha i;have gb:=gN hb i;by_cases rN:i<a.length
 ·left
  obtain ⟨x,hx⟩:∃x,x=a.getD i 0:=⟨_,rfl⟩;obtain ⟨y,hy⟩:∃y,y=b.getD i 0:=⟨_,rfl⟩;have C8:a[i]=x:=by rw [hx];simp [List.getD_eq_getElem?_getD,List.getElem?_eq_getElem rN]
  have e1:=hv.aM rN;rw [C8] at e1;rw [<-hx] at ga;rw [<-hy] at e2 gb;obtain ⟨z,c',hz,kD,lh,mg,Ce⟩:∃(z:Int) (c':Nat),z=x-y-c+1000000000*c'/\c'<=1/\0<=z/\z<1000000000/\((x-y-c<0/\c'=1)\/(¬x-y-c<0/\c'=0)):=by
   by_cases h:x-y-c<0
   ·exact ⟨x-y-c+1000000000,1,by omega,by omega,by omega,by omega,.inl ⟨h,rfl⟩⟩
   ·exact ⟨x-y-c,0,by omega,by omega,by omega,by omega,.inr ⟨h,rfl⟩⟩
  have jT:=arl hx hy ga.1 gb.1 lh hz hlen aO;have E1:dg (out++[z]):=gM.2 ⟨kF,kK.2 ⟨lh,mg⟩⟩;have R8:(out++[z]).length=i+1:=by simp [hlen]
  have fin:∃s',D P L qI s=some (.normal,s')/\aQ [0,1,5,6,7] s'=⟨[(0,v),(1,w),(5,.aC 0 0 (i+1)),(6,ab c'),(7,ab (i+1:Nat))],[(0,.cells true true false 1 ((out++[z]).map ab))],1,0⟩:=by
   rcases Ce with ⟨gC,rfl⟩ | ⟨gC,rfl⟩
   ·have fk:x-y-c+1000000000=z:=by omega
    rcases hs with ⟨h0,rfl⟩ | ⟨h0,rfl⟩
    ·subst h0;have mc:out=[]:=yC hlen;subst mc
     simp only [go_sem,ya,yb,xM,yM,yy,yi,qI,hv.len,hw.ao,show ((0:Nat):Int)<a.length by omega,e1,e2,wrap64 (n:=x-y) (by omega) (by omega),wrap64 (n:=x-y-(c:Int)) (by omega) (by omega),gC,fk,wrap64 (n:=z) (by omega) (by omega),im];refine ⟨_,rfl,?_⟩;rw [wrap64 (by omega) (by omega)];simp only [go_sem,ya,yb,av,au hv.pu,ax _ hv.pu,au hw.pu,ax _ hw.pu]<;>rfl
    ·simp only [go_sem,ya,yb,yy,yi,qI,hv.len,hw.ao,show (i:Int)<a.length by omega,e1,e2,wrap64 (n:=x-y) (by omega) (by omega),wrap64 (n:=x-y-(c:Int)) (by omega) (by omega),gC,fk,wrap64 (n:=z) (by omega) (by omega)]
     rw [gY (ex:=false) (pu:=true) (cs:=out.map ab) (by simp only [go_sem,ya]) (by rw [yk,hlen,yi]) (by omega) (by omega) (by decide) (by simp only [go_sem])];simp only [go_sem,ya,yb];refine ⟨_,rfl,?_⟩;rw [wrap64 (by omega) (by omega),xy];simp only [go_sem,ya,yb,av,au hv.pu,ax _ hv.pu,au hw.pu,ax _ hw.pu]<;>rfl
   ·have fk:x-y-c=z:=by omega
    have gC:¬z<0:=by omega
    rcases hs with ⟨h0,rfl⟩ | ⟨h0,rfl⟩
    ·subst h0;have mc:out=[]:=yC hlen;subst mc
     simp only [go_sem,ya,yb,xM,yM,yy,yi,qI,hv.len,hw.ao,show ((0:Nat):Int)<a.length by omega,e1,e2,wrap64 (n:=x-y) (by omega) (by omega),fk,wrap64 (n:=z) (by omega) (by omega),gC,im];refine ⟨_,rfl,?_⟩;rw [wrap64 (by omega) (by omega)];simp only [go_sem,ya,yb,av,au hv.pu,ax _ hv.pu,au hw.pu,ax _ hw.pu]<;>rfl
    ·simp only [go_sem,ya,yb,yy,yi,qI,hv.len,hw.ao,show (i:Int)<a.length by omega,e1,e2,wrap64 (n:=x-y) (by omega) (by omega),fk,wrap64 (n:=z) (by omega) (by omega),gC]
     rw [gY (ex:=false) (pu:=true) (cs:=out.map ab) (by simp only [go_sem,ya]) (by rw [yk,hlen,yi]) (by omega) (by omega) (by decide) (by simp only [go_sem])];simp only [go_sem,ya,yb];refine ⟨_,rfl,?_⟩;rw [wrap64 (by omega) (by omega),xy];simp only [go_sem,ya,yb,av,au hv.pu,ax _ hv.pu,au hw.pu,ax _ hw.pu]<;>rfl
  obtain ⟨s',f1,f2⟩:=fin;exact ⟨s',k-1,f1,by omega,i+1,c',_,by omega,R8,kD,E1,jT,.inr ⟨by omega,f2⟩⟩
 ·right
  have ahC:dv out+dv b=dv a:=by
   rw [yN (by omega),yN (by omega)] at aO;have aW:=jh kF;rw [hlen] at aW;rcases (show c=0\/c=1 by omega) with rfl | rfl
   ·omega
   ·omega
  rcases hs with ⟨h0,rfl⟩ | ⟨h0,rfl⟩
  ·simp only [go_sem,ya,qI,hv.len,show ¬(i:Int)<a.length by omega];exact ⟨_,_,rfl,by simp,_,out,rfl,kF,ahC,by omega,.inl ⟨yC (by omega),by simp only [go_sem,ya],rfl⟩⟩
  ·simp only [go_sem,ya,qI,hv.len,show ¬(i:Int)<a.length by omega];exact ⟨_,_,rfl,by simp,_,out,rfl,kF,ahC,by omega,.inr ⟨by omega,by rw [hlen];simp only [go_sem,ya],rfl⟩⟩
def ajL (h:Has P L 297 IY) (mN:Has P L 302 qZ) (cR:Has P L 300 kS) {v w:AV} {a b:List Int} (hv:br v a) (hw:br w b) (ha:dg a) (hb:dg b) (na:nz a) (nb:nz b) (la:a.length<=20000000000) (hle:dv b<=dv a):
  ∃r out,ak P L 297 [v,w] r/\br r out/\shut r=r/\dg out/\nz out/\dv out+dv b=dv a:=by
 have C6:b.length<=a.length:=by
  by_cases h:a.length<b.length
  ·have:=Ru ha nb hb h;omega
  ·omega
 unfold ak;rw [aI h];simp only [go_sem,IY];generalize hq:D P L (.loop [0,1,5,6,7] qI) _=q;obtain ⟨ex,s,rfl,tm,out,rfl,hd,aO,hl,hs⟩:=bI hq (axo (P:=P) (L:=L) mN hv hw ha hb la hle C6 a.length) ⟨0,0,[],by omega,rfl,by omega,rfl,by simp [dv],.inl ⟨rfl,by simp only [go_sem,ya,av,au hv.pu,ax _ hv.pu,au hw.pu,ax _ hw.pu]<;>rfl⟩⟩
 have gS:=mv false out;rcases hs with ⟨h0,h5,rfl⟩ | ⟨h0,h5,rfl⟩
 ·subst h0;obtain ⟨r,e1,hr,jq⟩:=AG cR (v:= .aa) (l:=[]) qu (by simp);refine ⟨r,dK [],?_,hr,jq,rfl,rfl,by rw [r7];exact aO⟩
  simp only [go_sem,av,h5,e1,jq,hr.fT]
 ·obtain ⟨r,e1,hr,jq⟩:=AG cR gS hl;refine ⟨r,dK out,?_,hr,jq,zT hd,DG out,by rw [r7];exact aO⟩
  have iI:∀hp:Hp,jY 0 out.length (some (false,1,out.map ab,hp))=some (.ai false out.length (out.map ab),hp):=fun hp=>nW false (by simp) (by decide)
  simp only [go_sem,yb,av,h5,iI,e1,jq,hr.fT]
end
end
section
open Go (IntKind)
def Bl {hp:Hp} {ct id o:Nat} {v:Int} {ex:Bool} {l:List Int} (h:o<l.length):gU hp ct id o 1 [.int .i64 v] (some (.cells true true ex 1 (l.map ab)))=some (.ae [],bc hp id (.cells true true ex 1 ((l.set o v).map ab)),ct):=by
 rw [qQ (by rfl) (by simp;omega) (by rfl)]
 have:over o [AV.int .i64 v] (l.map ab)=(l.set o v).map ab:=by
  simp only [over,yG,yO,yg];rw [ybu,vz,yE (by simpa using h)]
  simp
 rw [this];rfl
def qS {l:List Int} {o:Nat} (h:o<l.length):vZ o (l.map ab)=AV.int .i64 (l.getD o 0)::vZ (o+1) (l.map ab):=by
 rw [yX (by simpa using h)]
 grind
def pO {v:AV} {l:List Int} (hv:br v l) {i:Nat} (h:i<l.length):jv 1 i v=some (.bZ (.int .i64 (l.getD i 0)::(l.map ab).drop (i+1))):=by
 rw [hv.aM h]
 grind
def arm {o x y c:Int} (ho:0<=o/\o<1000000000) (hx:0<=x/\x<1000000000) (hy:0<=y/\y<1000000000) (hc:0<=c/\c<1000000000):
  (0<=x*y/\x*y<=999999998000000001)/\0<=o+x*y+c/\o+x*y+c<1000000000000000000:=by
 have h1:=Int.mul_nonneg hx.1 hy.1;have h2:=Int.mul_le_mul (show x<=999999999 by omega) (show y<=999999999 by omega) hy.1 (by decide);omega
section
variable {P:aH} {L:Lib}
def axp {v w:AV} {a b:List Int} (hv:br v a) (hw:br w b) (ha:dg a) (hb:dg b) (la:a.length<=20000000000) (lb:b.length<=20000000000) {n i:Nat} (hn:n=a.length+b.length) (hi:i<a.length) {out0:List Int}:
  ∀k s,(∃(j:Nat) (c:Int) (out:List Int),aQ [0,1,5,6,7,8] s=⟨[(0,v),(1,w),(5,.aC 0 0 n),(6,ab i),(7,ab c),(8,ab j)],[(0,.cells true true true 1 (out.map ab))],1,0⟩/\j+k=b.length/\out.length=n/\dg out/\(0<=c/\c<1000000000)/\
    dv out+1000000000^i*1000000000^j*c.toNat=dv out0+1000000000^i*((a.getD i 0).toNat*dv (b.take j))/\(∀m,i+b.length<=m->out.getD m 0=out0.getD m 0))->
   ∃ex s',D P L (.loop [0,1,5,6,7,8] HY) s=some (ex,s')/\∃tm c out,s'=⟨tm,[(0,.cells true true true 1 (out.map ab))],1,0⟩/\ex= .exit 2/\aj tm 0=v/\aj tm 1=w/\aj tm 5= .aC 0 0 n/\aj tm 6=ab i/\aj tm 7=ab c/\out.length=n/\dg out/\(0<=c/\c<1000000000)/\
    dv out+1000000000^i*1000000000^b.length*c.toNat=dv out0+1000000000^i*((a.getD i 0).toNat*dv b)/\(∀m,i+b.length<=m->out.getD m 0=out0.getD m 0):=by
 intro dq sq;generalize bk:aQ [0,1,5,6,7,8] sq=s0;revert bk s0 sq dq;apply di;rintro k s ⟨j,c,out,rfl,hk,hlen,hd,hc,aO,fL⟩;by_cases hj:j<b.length
 ·left
  obtain ⟨x,hx⟩:∃x,x=a.getD i 0:=⟨_,rfl⟩;obtain ⟨y,hy⟩:∃y,y=b.getD j 0:=⟨_,rfl⟩;obtain ⟨o,ho⟩:∃o,o=out.getD (i+j) 0:=⟨_,rfl⟩;have gx:=gN ha i;have gy:=gN hb j;have mS:=gN hd (i+j);rw [<-hx] at gx;rw [<-hy] at gy;rw [<-ho] at mS;obtain ⟨p1,p2,p3⟩:=arm mS gx gy hc;obtain ⟨t,ht⟩:∃t:Nat,o+x*y+c=t:=⟨(o+x*y+c).toNat,by omega⟩;have hr:((t:Nat):Int).tmod 1000000000=((t%1000000000:Nat):Int):=by rw [xX (by omega)];rfl
  have hq:((t:Nat):Int).tdiv 1000000000=((t/1000000000:Nat):Int):=by rw [xV (by omega)];rfl
  have e1:=pO hv hi;have e2:=pO hw hj;rw [<-hx] at e1;rw [<-hy] at e2;have e3:=qS (l:=out) (o:=i+j) (by omega);rw [<-ho] at e3;have jE:t=o.toNat+x.toNat*y.toNat+c.toNat:=by
   have:((x.toNat*y.toNat:Nat):Int)=x*y:=by rw [vv,yaf gx.1,yaf gy.1]
   omega
  have bc:=Rv (l:=out) (j:=i+j) (x:=((t%1000000000:Nat):Int)) (by omega);rw [<-ho,xZ,wG] at bc;have jT:=aqc (Y:=dv (b.take j)) jE bc (by rw [hx];exact aO)
  simp only [go_sem,ya,yi,HY,hw.len,show (j:Int)<b.length by omega,wrapN (n:=i+j) (by omega),show (i:Int)+(j:Int)=((i+j:Nat):Int) from rfl,cp 0 0 (show i+j<n by omega),yg,e3,e1,e2,wrap64 (n:=x*y) (by omega) (by omega),wrap64 (n:=o+x*y) (by omega) (by omega),ht,wrapN (n:=t) (by omega),iq _ _ _ (show (1000000000:Int)≠0 by decide),fO _ _ _ (show (1000000000:Int)≠0 by decide),hr,hq,wrapN (n:=t/1000000000) (by omega),Bl (l:=out) (o:=i+j) (by omega)];refine ⟨_,k-1,rfl,by omega,j+1,((t/1000000000:Nat):Int),out.set (i+j) ((t%1000000000:Nat):Int),?_,by omega,by simp [hlen],L7 hd (by omega),by omega,?_,fun m hm=>?_⟩
  ·rw [wrap64 (by omega) (by omega)];simp only [go_sem,ya,yb,av,au hv.pu,ax _ hv.pu,au hw.pu,ax _ hw.pu]<;>rfl
  ·rw [xZ,n7,xc,<-hx,<-hy];exact jT
  ·rw [ab9 (by omega)];exact fL m hm
 ·right
  have:j=b.length:=by omega
  subst this;rw [xx] at aO;simp only [go_sem,ya,HY,hw.len,show ¬(b.length:Int)<b.length by omega];exact ⟨_,_,rfl,by simp,_,c,out,rfl,rfl,by simp only [go_sem,ya],by simp only [go_sem,ya],by simp only [go_sem,ya],by simp only [go_sem,ya],by simp only [go_sem,ya],hlen,hd,hc,aO,fL⟩
end
end
section
open Go (IntKind)
def PU (n:Nat):(yq n [AV.int .i64 0]).flatten=(yq n (0:Int)).map ab:=by simp_all
def ato (b:Bool):Ji true (some b)=some (.bool (!b)):=by cases b<;>rfl
def aaR (n m:Nat):(yq n (0:Int)).getD m 0=0:=by grind
section
variable {P:aH} {L:Lib}
def axq {v w:AV} {a b:List Int} (hv:br v a) (hw:br w b) (ha:dg a) (hb:dg b) (la:a.length<=20000000000) (lb:b.length<=20000000000) {n:Nat} (hn:n=a.length+b.length):
  ∀k s,(∃(i:Nat) (out:List Int),aQ [0,1,5,6] s=⟨[(0,v),(1,w),(5,.aC 0 0 n),(6,ab i)],[(0,.cells true true true 1 (out.map ab))],1,0⟩/\i+k=a.length/\out.length=n/\dg out/\dv out=dv (a.take i)*dv b/\(∀m,i+b.length<=m->out.getD m 0=0))->
   ∃ex s',D P L (.loop [0,1,5,6] HZ) s=some (ex,s')/\∃tm out,s'=⟨tm,[(0,.cells true true true 1 (out.map ab))],1,0⟩/\ex= .exit 0/\aj tm 5= .aC 0 0 n/\out.length=n/\dg out/\dv out=dv a*dv b:=by
 intro dq sq;generalize bk:aQ [0,1,5,6] sq=s0;revert bk s0 sq dq;apply di;rintro k s ⟨i,out,rfl,hk,hlen,hd,aO,fL⟩;by_cases hi:i<a.length
 ·left
  simp only [go_sem,ya,HZ,hv.len,show (i:Int)<a.length by omega];generalize hq:D P L (.loop [0,1,5,6,7,8] HY) _=q;obtain ⟨ex,s,rfl,tm,c,rh,rfl,rfl,t0,t1,t5,t6,t7,R5,iC,hc,R6,Jm⟩:=bI hq (axp (P:=P) (L:=L) hv hw ha hb la lb hn hi (out0:=out) b.length) ⟨0,0,out,by simp only [go_sem,ya,yb,av,au hv.pu,ax _ hv.pu,au hw.pu,ax _ hw.pu]<;>rfl,by omega,hlen,hd,by omega,by simp [dv],fun m _=>rfl⟩
  have hz:rh.getD (i+b.length) 0=0:=by rw [Jm _ (yo _),fL _ (yo _)]
  have e3:=qS (l:=rh) (o:=i+b.length) (by omega);rw [hz] at e3;have bc:=Rv (l:=rh) (j:=i+b.length) (x:=c) (by omega);rw [hz,wG] at bc
  simp only [go_sem,ya,yi,av,t0,t1,t5,t6,t7,hw.len,au hv.pu,ax _ hv.pu,au hw.pu,ax _ hw.pu,wrapN (n:=i+b.length) (by omega),show (i:Int)+(b.length:Int)=((i+b.length:Nat):Int) from rfl,cp 0 0 (show i+b.length<n by omega),yg,e3,Int.zero_add,wrap64 (n:=c) (by omega) (by omega),Bl (l:=rh) (o:=i+b.length) (by omega)];refine ⟨_,k-1,rfl,by omega,i+1,rh.set (i+b.length) c,?_,by omega,by simp [R5],L7 iC hc,?_,fun m hm=>?_⟩
  ·rw [wrap64 (by omega) (by omega)];simp only [go_sem,ya,yb,av,au hv.pu,ax _ hv.pu,au hw.pu,ax _ hw.pu]<;>rfl
  ·rw [n7,Nat.add_mul,<-aO,xk];simp only [Int.toNat_zero,xD,yZ] at bc;rw [bc];exact R6
  ·rw [ab9 (by omega),Jm m (by omega),fL m (by omega)]
 ·right
  have:i=a.length:=by omega
  subst this;rw [xx] at aO;simp only [go_sem,ya,HZ,hv.len,show ¬(a.length:Int)<a.length by omega];exact ⟨_,_,rfl,by simp,_,out,rfl,rfl,by simp only [go_sem,ya],hlen,hd,aO⟩
def XH (h:Has P L 293 Ax) (cR:Has P L 300 kS) {v w:AV} {a b:List Int} (hv:br v a) (hw:br w b) (ha:dg a) (hb:dg b) (la:a.length<=8000000000) (lb:b.length<=8000000000):
  ∃r out,ak P L 293 [v,w] r/\br r out/\shut r=r/\dg out/\nz out/\dv out=dv a*dv b:=by
 obtain ⟨n,hn⟩:∃n,n=a.length+b.length:=⟨_,rfl⟩;have cL:∀ct:Nat,oI ct 1 8 [.int .i64 0] (some n) (some n)=some (.aC ct 0 n,.cells true true true 1 ((yq n (0:Int)).map ab)):=fun ct=>by
  rw [Ag (sz:=1) (by omega) (by omega) (by rfl) (by rfl),PU];rfl
 unfold ak;rw [aI h]
 simp only [go_sem,ya,yb,Ax,hv.len,hw.len,wrapN (n:=n) (by omega),show (a.length:Int)+(b.length:Int)=((a.length+b.length:Nat):Int) from rfl,<-hn,cL];generalize hq:D P L (.loop [0,1,5,6] HZ) _=q;obtain ⟨ex,s,rfl,tm,out,rfl,rfl,t5,hlen,hd,aO⟩:=bI hq (axq (P:=P) (L:=L) hv hw ha hb (by omega) (by omega) hn a.length) ⟨0,yq n 0,by simp only [go_sem,ya,yb,av,au hv.pu,ax _ hv.pu,au hw.pu,ax _ hw.pu]<;>rfl,by omega,by simp,acb n,by rw [aca];simp [dv],fun m _=>aaR n m⟩
 have gS:=mv true out;rw [hlen] at gS;obtain ⟨r,e1,hr,jq⟩:=AG cR gS (by omega);refine ⟨r,dK out,?_,hr,jq,zT hd,DG out,by rw [r7];exact aO⟩
 have iI:∀hp:Hp,jY 0 n (some (true,1,out.map ab,hp))=some (.ai true n (out.map ab),hp):=fun hp=>nW true (by simp [hlen]) (by decide)
 simp only [go_sem,yb,av,t5,iI,e1,jq,hr.fT]
def Jw (h:Has P L 278 M2) (jZ:Has P L 293 Ax) (iW:Has P L 294 Ay) (cR:Has P L 300 kS) {v w:AV} {n m:Int} {K:Nat} (hK:K<=8000000000) (hv:jJ v n) (hw:jJ w m) (hn:n.natAbs<1000000000^K) (hm:m.natAbs<1000000000^K):
  ∃r,ak P L 278 [v,w] r/\jJ r (n*m):=by
 obtain ⟨x,a,rfl,hx,ha,na,va⟩:=hv;obtain ⟨y,b,rfl,hy,hb,nb,vb⟩:=hw;have la:=xf (iP ha na (by rw [va];exact hn)) hK
 have lb:=xf (iP hb nb (by rw [vb];exact hm)) hK
 obtain ⟨z,out,e1,hz,jq,hd,Bf,aO⟩:=XH jZ cR hx hy ha hb la lb;have lo:out.length<=20000000000:=by
  refine iP hd Bf ?_;rw [aO];have h1:=jh ha;have h2:=jh hb;have h3:dv a*dv b<1000000000^a.length*1000000000^b.length:=Nat.mul_lt_mul'' h1 h2;rw [<-wG] at h3;have hk:∀K,a.length+b.length<=K->dv a*dv b<1000000000^K:=fun K h=>yV h3 (xb (by decide) h)
  exact hk 20000000000 (by omega)
 obtain ⟨r,e2,hr⟩:=za iW cR (!(decide (n<0)==decide (m<0))) hz hd lo;have e:cA (!(decide (n<0)==decide (m<0))) (dv out)=n*m:=by
  rw [aO,va,vb];have hnm:((n.natAbs*m.natAbs:Nat):Int)=(n.natAbs:Int)*m.natAbs:=vv _ _;unfold cA;by_cases h0:n<0<;>by_cases h1:m<0<;>simp only [h0,h1,yu,yv,tH,yQ,yJ,xd,hnm]
  ·rw [show (n.natAbs:Int)= -n by omega,show (m.natAbs:Int)= -m by omega,Int.neg_mul_neg]
  ·rw [show (true==false)=false from rfl,yR,yE rfl,show (n.natAbs:Int)= -n by omega,show (m.natAbs:Int)=m by omega,Int.neg_mul,ybP]
  ·rw [show (false==true)=false from rfl,yR,yE rfl,show (n.natAbs:Int)=n by omega,show (m.natAbs:Int)= -m by omega,Int.mul_neg,ybP]
  ·rw [show (n.natAbs:Int)=n by omega,show (m.natAbs:Int)=m by omega]
 rw [e] at hr;obtain ⟨w2,l2,rfl,gJ,gH,jm,zb⟩:=hr;refine ⟨_,?_,w2,l2,rfl,gJ,gH,jm,zb⟩;unfold ak at e1 e2 ⊢;rw [aI h];simp only [go_sem,ya,yb,M2,bg,hx.pu,hx.ao,hx.one,hy.pu,hy.ao,hy.one,hz.ao,hz.shut,gJ.pu,gJ.one,bY,yg,cX,e1,oA,ato,e2,gj,bW];rcases gJ with ⟨rfl,_⟩ | ⟨e,rfl⟩<;>rfl
end
end
end VE
