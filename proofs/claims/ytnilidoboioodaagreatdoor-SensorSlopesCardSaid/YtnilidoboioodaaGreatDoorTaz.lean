import Derived.Test.YtnilidoboioodaaGreatDoorTax
import Derived.Test.YtnilidoboioodaaGreatDoorTah
import Derived.Test.YtnilidoboioodaaGreatDoorTat
import Derived.Test.YtnilidoboioodaaGreatDoorTaw
import Derived.Test.YtnilidoboioodaaGreatDoorTau
import Derived.Test.YtnilidoboioodaaGreatDoorTai
set_option linter.all false
set_option maxRecDepth 100000
open Bool renaming and_eq_true→yf,and_self→wC,false_and→wq,false_eq_true→yB,false_or→vR,not_false→yY,not_true→y5,true_and→wB,true_or→uN
open Go renaming DataW→xr,Field→vd,FloatKind→xV,IntKind→yV,MemPlace→xR,Program→yK,TypeId→yq,Value→yg,World→yh
open Int renaming natAbs_natCast→wP,natCast_mul→vv,neg_neg→ybj,tdiv_eq_ediv_of_nonneg→xM,tmod_eq_emod_of_nonneg→xQ,toNat_natCast→wm,toNat_of_nonneg→tI
open List renaming append_assoc→xn,append_nil→wD,drop→vJ,drop_eq_getElem_cons→yP,drop_eq_nil_of_le→xa,drop_zero→yy,eq_nil_of_length_eq_zero→yA,flatMap_def→tZ,length_append→yU,length_cons→yH,length_drop→xJ,length_map→xc,length_nil→yM,length_take→yQ,mapM_cons→vA,map_append→xx,map_cons→yW,map_set→yaT,mem_cons→wc,mem_map→ud,replicate→yC,set_eq_take_append_cons_drop→uj,take_length→xy,take_of_length_le→yD
open List.cons renaming injEq→ui
open Nat renaming add_zero→yX,beq→ym,ble→yx,blt→yF,eq_of_beq_eq_true→yi,gcd→we,le_of_ble_eq_true→yr,le_refl→yv,le_trans→xi,lt_of_lt_of_le→yR,mul_assoc→xf,mul_one→yo,mul_zero→xz,pow_add→wi,pow_le_pow_left→uH,pow_le_pow_right→xA,pow_mul→uI,pow_succ→y9,reduceAdd→yc,reduceEqDiff→ya,reduceLT→yz,reduceLeDiff→yt,reduceMul→xk,zero_add→yj
open Option renaming bind_eq_bind→wR,bind_some→xN,map_eq_some_iff→xS,pure_def→wh
open Option.some renaming injEq→yb
open Prod.mk renaming injEq→yk
namespace VE
open Go (IntKind)
def abx:∀(cs:List AV) (l:List Nat),om cs=some l->cs=l.map uc/\lo 18446744073709551616 l:=by
 intro cs
 induction cs with
 | nil=>
  intro l h;simp only [om,yb] at h;subst h;exact ⟨rfl,fun _ h=>by cases h⟩
 | cons c cs ih=>
  intro l h;unfold om at h
  split at h
  ·grind
  ·rename_i d r iE;cases iE
   cases hb:yF d 18446744073709551616 with
   | false=>rw [hb] at h;cases h
   | true=>
    rw [hb] at h
    cases hw:om cs with
    | none=>rw [hw] at h;cases h
    | some l'=>
     rw [hw] at h;cases h;obtain ⟨k1,k2⟩:=ih l' hw;refine ⟨by rw [k1];rfl,fun x hx=>?_⟩
     rcases wc.1 hx with rfl | hx
     ·simp_all
     ·exact k2 x hx
  ·cases h
def Sy:∀{l:List Nat},su l=true->fo l
 | [],h=>by cases h
 | [a],h=>by
  have h0:a≠0:=fun e=>by subst e;cases h
  exact Bu h0 []
 | a::b::r,h=>by
  have h1:dt (b::r)=b::r:=Sy (l:=b::r) h;show dt (a::(b::r))=_
  simp only [dt] at h1 ⊢;rw [h1]
section
variable {P:aR} {L:Lib}
def ahe (h:Has P L 99 A8) (OE:L.pure 135=some Fo) {s:Int} (hs:sn s=true):bA P L (D P L) 99 [.agg [aa s,.af]]=some (.str (aS s)):=by
 have e1:bA P L (D P L) 135 [aa s]=some (.str (aS s)):=by
  rw [gX OE];show (bif sn s then some (AV.str (aS s)) else none)=_
  rw [hs];rfl
 rw [aK h];simp only [go_sem,ya,yc,A8,aZ,bL,yj,cB,fA,c8,e1]
end
section
open Go
variable {O:bh}
def ac8 (hO:fw O) (hN:Nu O.prog O.aG) (OE:O.aG.pure 135=some Fo) (AQ:O.aG.pure 138=some rq) (qG:O.aG.pure 139=some rM) (C3:Has O.prog O.aG 99 A8) {fn:Func} {c:Code} (jn:O.P.funcs[O.ab 99]? =some fn) (gT:fn.body=some c) (Kp:fn.ntmps=69)
  (OB:J8 5 c) (ht:MK O.P c):∀aj r,IN aj=some r->dG O 99 aj r:=by
 intro aj r h;unfold IN at h
 split at h
 ·rename_i s
  cases hs:sn s with
  | false=>rw [hs] at h;cases h
  | true=>
   rw [hs] at h;cases h;obtain ⟨k,hk⟩:=UL (ahe (P:=O.prog) (L:=O.aG) C3 OE hs);exact sound hO hk
 ·rename_i s e n cs
  cases hw:om cs with
  | none=>rw [hw] at h;cases h
  | some l=>
   rw [hw] at h;simp only at h
   cases hb:(ym l.length n&&(yx n 4000000000&&(su l&&yx 9223372036854775808 (oM l)))) with
   | false=>rw [hb] at h;cases h
   | true=>
    rw [hb] at h;simp only [yf] at hb;obtain ⟨h1,h2,h3,h4⟩:=hb;obtain ⟨rfl,aY⟩:=abx cs l hw;have h1:=yi h1;subst h1;have h2:=yr h2;have h4:=yr h4;have h3:=Sy h3;rw [MI] at h4 h;have aO:=jZ aY;have key:=fun (s z:Int) (hz:z.natAbs=bv 18446744073709551616 l) (hs:s=if z<0 then -1 else 1)=>
     afe hO hN AQ qG C3.code jn gT Kp OB ht (s:=s) (z:=z) (e:=e) (l:=l) (.inr ⟨e,l,rfl,aY,h3,hz.symm,hs,by omega⟩) (by omega) h2 (by omega)
    split at h
    ·cases h
     have:=key 1 (bv 18446744073709551616 l:Nat) (by simp) (by rw [yE (by omega)])
     exact this
    ·cases h
     have:=key (-1) (-(bv 18446744073709551616 l:Nat):Int) (by simp) (by rw [yT (by omega)])
     rw [lm (by omega)] at this
     grind
    ·cases h
 ·cases h
end
section
open Go
def M9 (L:Lib) (n:Nat) (sp:List AV->Option AV):Lib:=⟨fun i=>bif ym i n then some sp else L.pure i,L.heap⟩
def ac9 {O:bh} (hO:fw O) {n:Nat} {sp:List AV->Option AV} (h:∀aj r,sp aj=some r->dG O n aj r):fw (O.pK (M9 O.aG n sp)) where
 hint:=hO.hint
 mixed:=hO.mixed
 prog:=hO.prog
 aG i Ky aj r hi hs:=by
  show dG O i aj r
  simp only [M9] at hi
  cases hb:ym i n with
  | true=>
   simp_all
  | false=>
   rw [hb] at hi;exact hO.aG i Ky aj r hi hs
 Cc i Ky hp ct aj v an aT hi hs:=Sh (hO.Cc i Ky hp ct aj v an aT hi hs)
end
section
open Go
section
variable {H:Type} {enc:yq×yg->H} {P:yK} {w:yh} {base:Nat} {sp:Nat->Bool} {held:Bool}
def mapM_mem {α β:Type} {f:α->Option β}:∀{l:List α} {r:List β},l.mapM f=some r->∀y,y∈r->∃x,f x=some y
 | [],r,h,y,hy=>by simp only [List.mapM_nil,wh,yb] at h;subst h;cases hy
 | x::l,r,h,y,hy=>by
  rw [vA] at h
  cases h1:f x with
  | none=>simp [h1] at h
  | some z=>
   cases h2:l.mapM f with
   | none=>simp [h1,h2] at h
   | some zs=>
    simp only [h1,h2,xN,wR,wh,yb] at h;subst h;rcases wc.1 hy with rfl | hy
    ·grind
    ·exact mapM_mem h2 y hy
def Rd (enc:yq×yg->H) (P:yK) (w:yh) (base:Nat) (sp:Nat->Bool) (held:Bool) (t:yq) (d:xr H):Prop:=∃bc cs ps,DataW.trod enc P w base sp held bc t cs=some (d,ps)
def akk {t:yq} {k:yV} {d:xr H} {n:Nat} (ht:P.underlying t=some (.int k)) (h:Rd enc P w base sp held t d):∃z,cz P (n+1) t d=[.int k z]/\(Lit.int k z).wf=true:=by
 obtain ⟨bc,cs,ps,h⟩:=h
 cases bc with
 | zero=>simp [DataW.trod] at h
 | succ bc=>
  unfold DataW.trod at h
  split at h
  all_goals first
   | (rename_i hu;rw [ht] at hu;cases hu;done)
   | skip
  ·rename_i k1 k2 z hu;rw [ht] at hu;injection hu with hu
   injection hu with hu
   subst hu
   split at h
   ·rename_i hk;obtain ⟨rfl,rfl⟩:=h;exact ⟨z,by simp only [cz,ht],hk.2⟩
   ·cases h
  grind
def afi {t e:yq} {d:xr H} {n:Nat} (ht:P.underlying t=some (.slice e)) (h:Rd enc P w base sp held t d):
  cz P (n+1) t d=[.af]\/∃(x:Bool) (ix:List (xr H)),cz P (n+1) t d=[.aq x ix.length (ix.flatMap fun y=>cz P n e y)]/\∀y,y∈ix->Rd enc P w base sp held e y:=by
 obtain ⟨bc,cs,ps,h⟩:=h
 cases bc with
 | zero=>simp [DataW.trod] at h
 | succ bc=>
  unfold DataW.trod at h
  split at h
  all_goals first
   | (rename_i hu;rw [ht] at hu;cases hu;done)
   | skip
  ·simp only [yb,yk] at h;obtain ⟨rfl,rfl⟩:=h;exact .inl (by simp only [cz,ht])
  ·rename_i e' a len cap hu;rw [ht] at hu;injection hu with hu
   injection hu with hu
   subst hu;simp only at h
   split at h
   case isFalse=>cases h
   cases h1:(List.range len).mapM fun i=>(w.cells? base (a.add (i*P.cellsOf e)) (P.cellsOf e)).bind (DataW.trod enc P w base sp held bc e) with
   | none=>rw [h1] at h;simp at h
   | some ix=>
    rw [h1] at h;obtain ⟨rest,_,h⟩:=xS.1 h;obtain ⟨rfl,rfl⟩:=h;refine .inr ⟨(rest.map (·.1)).isEmpty,ix.map (·.1),by simp only [cz,ht,xc],?_⟩;intro y hy;obtain ⟨p,hp,rfl⟩:=ud.1 hy;obtain ⟨i,hi⟩:=mapM_mem h1 p hp;obtain ⟨b8,_,gO⟩:=Option.bind_eq_some_iff.1 hi;exact ⟨bc,b8,p.2,gO⟩
  grind
def ada {t:yq} {fs:Array vd} {d:xr H} {n:Nat} (ht:P.underlying t=some (.struct fs)) (h:Rd enc P w base sp held t d):
  ∃ds:List (xr H),ds.length=fs.toList.length/\cz P (n+1) t d=(fs.toList.zip ds).flatMap (fun x=>cz P n x.1.type x.2)/\∀i (h1:i<fs.toList.length) (h2:i<ds.length),Rd enc P w base sp held fs.toList[i].type ds[i]:=by
 obtain ⟨bc,cs,ps,h⟩:=h
 cases bc with
 | zero=>simp [DataW.trod] at h
 | succ bc=>
  unfold DataW.trod at h
  split at h
  all_goals first
   | (rename_i hu;rw [ht] at hu;cases hu;done)
   | (cases h;done)
   | skip
  rename_i cs x1 GV fs' hu;rw [ht] at hu;injection hu with hu
  injection hu with hu
  subst hu
  split at h
  case isFalse=>cases h
  obtain ⟨xs,h1,h⟩:=xS.1 h;obtain ⟨rfl,rfl⟩:=h;refine ⟨xs.map (·.1),by simp [HZ h1],by simp only [cz,ht],?_⟩;have key:∀{r:List vd} {xs:List (xr H×List xR)},r.mapM (fun f=>DataW.trod enc P w base sp held bc f.type ((cs.drop f.offset).take (P.cellsOf f.type)))=some xs->
    ∀i (h1:i<r.length) (h2:i<(xs.map (·.1)).length),Rd enc P w base sp held r[i].type (xs.map (·.1))[i]:=by
   intro r
   induction r with
   | nil=>intro xs h i h1;exact absurd h1 (Nat.not_lt_zero i)
   | cons f r ih=>
    intro xs h i h1 h2;rw [vA] at h
    cases g1:DataW.trod enc P w base sp held bc f.type ((cs.drop f.offset).take (P.cellsOf f.type)) with
    | none=>simp [g1] at h
    | some x=>
     cases g2:r.mapM (fun f=>DataW.trod enc P w base sp held bc f.type ((cs.drop f.offset).take (P.cellsOf f.type))) with
     | none=>simp [g1,g2] at h
     | some ys=>
      simp only [g1,g2,xN,wR,wh,yb] at h;subst h
      cases i with
      | zero=>exact ⟨bc,_,x.2,g1⟩
      | succ i=>exact ih g2 i (by simpa using h1) (by simpa using h2)
  exact key h1
def afj {t e:yq} {k:Nat} {d:xr H} {n:Nat} (ht:P.underlying t=some (.array k e)) (h:Rd enc P w base sp held t d):
  ∃ds:List (xr H),ds.length=k/\cz P (n+1) t d=ds.flatMap (fun x=>cz P n e x)/\∀y,y∈ds->Rd enc P w base sp held e y:=by
 obtain ⟨bc,cs,ps,h⟩:=h
 cases bc with
 | zero=>simp [DataW.trod] at h
 | succ bc=>
  unfold DataW.trod at h
  split at h
  all_goals first
   | (rename_i hu;rw [ht] at hu;cases hu;done)
   | (cases h;done)
   | skip
  rename_i cs x1 GV k' e' hu;rw [ht] at hu;injection hu with hu
  injection hu with nU qY
  subst nU;subst qY
  split at h
  case isFalse=>cases h
  obtain ⟨xs,h1,h⟩:=xS.1 h;obtain ⟨rfl,rfl⟩:=h;refine ⟨xs.map (·.1),by simp [HZ h1],by simp only [cz,ht],fun y hy=>?_⟩;obtain ⟨p,hp,rfl⟩:=ud.1 hy;obtain ⟨i,hi⟩:=mapM_mem h1 p hp;exact ⟨bc,_,p.2,hi⟩
end
end
section
open Go
inductive Ty
 | int (k:yV)
 | aD (k:xV)
 | bool
 | str
 | sl (e:Ty)
 | nil
 | cat (a b:Ty)
 | ar (n:Nat) (e:Ty)
def lh:Ty->List AV->Prop
 | .int k,l=>∃z,l=[.int k z]/\(Lit.int k z).wf=true
 | .aD k,l=>∃b,l=[.aD k b]/\(Lit.float k b).wf=true
 | .bool,l=>∃b,l=[.bool b]
 | .str,l=>∃s:List Nat,l=[.str s]/\s.length<9223372036854775808/\∀c,c∈s->c<256
 | .sl e,l=>l=[.af]\/∃(x:Bool) (ps:List (List AV)),l=[.aq x ps.length ps.flatten]/\∀p,p∈ps->lh e p
 | .nil,l=>l=[]
 | .cat a b,l=>∃x y,l=x++y/\lh a x/\lh b y
 | .ar n e,l=>∃ps:List (List AV),ps.length=n/\l=ps.flatten/\∀p,p∈ps->lh e p
def kK:List (Option Ty)->Option Ty
 | []=>some .nil
 | some a::r=>match kK r with
  | some b=>some (.cat a b)
  | none=>none
 | none::_=>none
def eS (P:yK):Nat->yq->Option Ty
 | 0,_=>none
 | n+1,t=>
  match P.underlying t with
  | some .bool=>some .bool
  | some (.int k)=>some (.int k)
  | some (.float k)=>some (.aD k)
  | some .string=>some .str
  | some (.slice e)=>(eS P n e).map .sl
  | some (.struct fs)=>kK (fs.toList.map fun f=>eS P n f.type)
  | some (.array k e)=>(eS P n e).map (.ar k)
  | _=>none
section
variable {H:Type} {enc:yq×yg->H} {P:yK} {w:yh} {base:Nat} {sp:Nat->Bool} {held:Bool}
def akl {t:yq} {k:xV} {d:xr H} {n:Nat} (ht:P.underlying t=some (.float k)) (h:Rd enc P w base sp held t d):∃b,cz P (n+1) t d=[.aD k b]/\(Lit.float k b).wf=true:=by
 obtain ⟨bc,cs,ps,h⟩:=h
 cases bc with
 | zero=>simp [DataW.trod] at h
 | succ bc=>
  unfold DataW.trod at h
  split at h
  all_goals first
   | (rename_i hu;rw [ht] at hu;cases hu;done)
   | skip
  ·rename_i k1 k2 z hu;rw [ht] at hu;injection hu with hu
   injection hu with hu
   subst hu
   split at h
   ·rename_i hw;obtain ⟨rfl,rfl⟩:=h;exact ⟨z,by simp only [cz,ht],hw.2⟩
   ·cases h
  grind
def ahf {t:yq} {d:xr H} {n:Nat} (ht:P.underlying t=some .bool) (h:Rd enc P w base sp held t d):∃b,cz P (n+1) t d=[.bool b]:=by
 obtain ⟨bc,cs,ps,h⟩:=h
 cases bc with
 | zero=>simp [DataW.trod] at h
 | succ bc=>
  unfold DataW.trod at h
  split at h
  all_goals first
   | (rename_i hu;rw [ht] at hu;cases hu;done)
   | skip
  ·simp only [yb,yk] at h;obtain ⟨rfl,rfl⟩:=h;rename_i b _;exact ⟨b,by simp only [cz,ht]⟩
  grind
def akm {t:yq} {d:xr H} {n:Nat} (ht:P.underlying t=some .string) (h:Rd enc P w base sp held t d):
  ∃s:List Nat,cz P (n+1) t d=[.str s]/\s.length<9223372036854775808/\∀c,c∈s->c<256:=by
 obtain ⟨bc,cs,ps,h⟩:=h
 cases bc with
 | zero=>simp [DataW.trod] at h
 | succ bc=>
  unfold DataW.trod at h
  split at h
  all_goals first
   | (rename_i hu;rw [ht] at hu;cases hu;done)
   | skip
  ·rename_i s hu
   split at h
   ·rename_i hs;obtain ⟨rfl,rfl⟩:=h;refine ⟨_,by simp only [cz,ht];rfl,?_,fun c hc=>?_⟩
    ·simp only [xc,Array.length_toList];have h1:s.size<=9223372036854775807:=hs;have h2:s.data.size=s.size:=rfl;omega
    ·obtain ⟨b,_,rfl⟩:=ud.1 hc;exact b.toNat_lt
   ·cases h
  grind
def RH {n:Nat} (ih:∀{t:yq} {T:Ty} {d:xr H},eS P n t=some T->Rd enc P w base sp held t d->lh T (cz P n t d)):
  ∀(fs:List vd) (ds:List (xr H)) (T:Ty),kK (fs.map fun f=>eS P n f.type)=some T->ds.length=fs.length->(∀i (h1:i<fs.length) (h2:i<ds.length),Rd enc P w base sp held fs[i].type ds[i])->
   lh T ((fs.zip ds).flatMap fun x=>cz P n x.1.type x.2)
 | [],ds,T,hT,_,_=>by
  simp only [List.map_nil,kK,yb] at hT;subst hT;simp [lh]
 | f::fs,[],T,_,hl,_=>by simp at hl
 | f::fs,d::ds,T,hT,hl,hr=>by
  simp only [yW] at hT
  cases h1:eS P n f.type with
  | none=>simp [h1,kK] at hT
  | some a=>
   cases h2:kK (fs.map fun f=>eS P n f.type) with
   | none=>simp [h1,h2,kK] at hT
   | some b=>
    simp only [h1,h2,kK,yb] at hT;subst hT;exact ⟨_,_,rfl,ih h1 (hr 0 (by simp) (by simp)),RH ih fs ds b h2 (by simpa using hl) (fun i h1 h2=>hr (i+1) (by simpa using h1) (by simpa using h2))⟩
def UZ:∀(n:Nat) {t:yq} {T:Ty} {d:xr H},eS P n t=some T->Rd enc P w base sp held t d->lh T (cz P n t d)
 | 0,t,T,d,hT,_=>by simp [eS] at hT
 | n+1,t,T,d,hT,hr=>by
  have ih:=@UZ n
  cases hu:P.underlying t with
  | none=>simp [eS,hu] at hT
  | some u=>
   cases u with
   | slice e=>
    simp only [eS,hu] at hT;obtain ⟨E,hE,rfl⟩:=xS.1 hT
    rcases afi (n:=n) hu hr with h | ⟨x,ix,h,hm⟩
    ·exact .inl h
    ·refine .inr ⟨x,ix.map (cz P n e),by rw [h,xc,tZ],fun p hp=>?_⟩
     grind
   | struct fs=>
    simp only [eS,hu] at hT;obtain ⟨ds,e1,e2,e3⟩:=ada (n:=n) hu hr;rw [e2];exact RH ih fs.toList ds T hT e1 e3
   | array k e=>
    simp only [eS,hu] at hT;obtain ⟨E,hE,rfl⟩:=xS.1 hT;obtain ⟨ds,e1,e2,e3⟩:=afj (n:=n) hu hr;refine ⟨ds.map (cz P n e),by simp [e1],by rw [e2,tZ],fun p hp=>?_⟩
    grind
   | int k=>
    simp only [eS,hu,yb] at hT;subst hT;exact akk hu hr
   | float k=>
    simp only [eS,hu,yb] at hT;subst hT;exact akl hu hr
   | bool=>
    simp only [eS,hu,yb] at hT;subst hT;exact ahf hu hr
   | string=>
    simp only [eS,hu,yb] at hT;subst hT;exact akm hu hr
   | _=>simp [eS,hu] at hT
def Cy:Ty->List AV->AV
 | .nil,l | .cat _ _,l | .ar _ _,l=> .agg l
 | _,l=>l.headD .undef
def adb:∀{l:List (Option Ty)} {T:Ty},kK l=some T->∀x,Cy T x= .agg x
 | [],T,h=>by simp only [kK,yb] at h;subst h;exact fun _=>rfl
 | none::r,T,h=>by simp [kK] at h
 | some a::r,T,h=>by
  cases h1:kK r with
  | none=>simp [kK,h1] at h
  | some b=>
   simp only [kK,h1,yb] at h;subst h;exact fun _=>rfl
def alU {n:Nat} {t:yq} {T:Ty} {d:xr H} (hT:eS P n t=some T):jA P n t d=Cy T (cz P n t d):=by
 cases n with
 | zero=>simp [eS] at hT
 | succ n=>
  cases hu:P.underlying t with
  | none=>simp [eS,hu] at hT
  | some u=>
   cases u with
   | slice e=>
    simp only [eS,hu] at hT;obtain ⟨E,hE,rfl⟩:=xS.1 hT;simp only [jA,hu,Cy]
   | struct fs=>
    simp only [eS,hu] at hT;rw [adb hT];simp only [jA,hu]
   | array k e=>
    simp only [eS,hu] at hT;obtain ⟨E,hE,rfl⟩:=xS.1 hT;simp only [jA,hu,Cy]
   | _=>
    simp only [eS,hu,yb,reduceCtorEq] at hT<;>
    (subst hT
     simp only [jA,hu,Cy])
def Fw:List Ty->List (List AV)->List AV
 | T::Ts,l::ls=>Cy T l::Fw Ts ls
 | _,_=>[]
def Tv {n:Nat}:∀{ts:List yq} {Ts:List Ty} {vs:List yg} {ds:List (xr H)} {ps:List xR},(ts.map (eS P n))=Ts.map some->DataW.TrodAll enc P w base sp held ts vs ds ps->
  ∃ls,AJ lh Ts ls/\pT P n ts ds=Fw Ts ls/\ds.length=ts.length
 | [],[],[],[],ps,_,_=>⟨[],trivial,rfl,rfl⟩
 | t::ts,T::Ts,v::vs,d::ds,ps,hT,⟨p,q,⟨bc,h1⟩,h2,_⟩=>by
  simp only [yW,ui] at hT;obtain ⟨ls,k1,k2,k3⟩:=Tv hT.2 h2;exact ⟨cz P n t d::ls,⟨UZ n hT.1 ⟨bc,_,_,h1⟩,k1⟩,by simp only [pT,Fw,k2,alU hT.1],by simp [k3]⟩
 | [],_::_,_,_,_,h,_=>by simp at h
 | _::_,[],_,_,_,h,_=>by simp at h
 | [],[],_::_,_,_,_,h=>by simp [DataW.TrodAll] at h
 | [],[],[],_::_,_,_,h=>by simp [DataW.TrodAll] at h
 | _::_,_,[],_,_,_,h=>by simp [DataW.TrodAll] at h
 | _::_,_,_::_,[],_,_,h=>by simp [DataW.TrodAll] at h
def akn {α β:Type} {p:α->β->Prop} {a:α}:∀{l:List β},AJ p [a] l->∃x,l=[x]/\p a x
 | [x],h=>⟨x,rfl,h.1⟩
 | [],h=>h.elim
 | _::_::_,h=>h.2.elim
def ako {α β:Type} {p:α->β->Prop} {a b:α}:∀{l:List β},AJ p [a,b] l->∃x y,l=[x,y]/\p a x/\p b y
 | x::l,h=>let ⟨y,h1,h2⟩:=akn h.2;⟨x,y,by rw [h1],h.1,h2⟩
 | [],h=>h.elim
end
end
def EG (n:Nat):10^n<=2^(4*n):=by
 rw [uI];exact uH (by decide) n
def ade {b:Nat} {r:List Nat} (h:cM (b::r)=true):48<=b/\b<=57:=by
 simp only [cM,yf] at h
 simp_all
section
variable {P:aR} {L:Lib}
def U1 (h:Tx P L) {ds:List Nat} {N:Nat} (hD:cr ds 0=some N) (hl:ds.length<=4000000000) {neg:Bool} {o1 o2:AV}:
  ∀m st,(∃(pre rest:List Nat) (a:Nat) (s:Int) (w:AV),aV [0,2,3,4] st=⟨[(0,.str rest),(2,.ptr 0 0),(3,.bool neg),(4,.ptr 1 0)],[(1,.cells true true true 2 [aa s,w]),(0,.cells true true true 2 [o1,o2])],2,0⟩/\ds=pre++rest/\cr pre 0=some a/\cU s w a/\rest.length=m)->
   ∃ex st',D P L (.loop [0,2,3,4] BO) st=some (ex,st')/\∃tm s w,st'=⟨tm,[(1,.cells true true true 2 [aa s,w]),(0,.cells true true true 2 [o1,o2])],2,0⟩/\ex= .exit 0/\ah tm 2= .ptr 0 0/\ah tm 3= .bool neg/\ah tm 4= .ptr 1 0/\cU s w N:=by
 intro dq sq;generalize bz:aV [0,2,3,4] sq=s0;revert bz s0 sq dq;apply eb;rintro m st ⟨pre,rest,a,s,w,rfl,Bj,dw,hn,rfl⟩;obtain ⟨l1,u1⟩:=hn.aU;have jg:=hD;rw [Bj,Eu,dw] at jg;have jg:cr rest a=some N:=jg;have hlen:pre.length+rest.length<=4000000000:=by rw [Bj,yU] at hl;exact hl
 by_cases h0:rest.length=0
 ·right
  have hr:rest=[]:=yA h0;subst hr
  have:a=N:=by simpa [cr] using jg
  subst this;simp only [go_sem,BO,yM,show ¬(0:Int)<((0:Nat):Int) by omega];exact ⟨_,_,rfl,by simp,_,s,w,rfl,rfl,by simp only [go_sem,ya],by simp only [go_sem,ya],by simp only [go_sem,ya],hn⟩
 ·left
  obtain ⟨n,ph⟩:∃n,n=min 18 rest.length:=⟨_,rfl⟩;have Wv:(if (rest.length:Int)<18 then (rest.length:Int) else 18)=(n:Int):=by split<;>omega
  have gR:rest.take n++rest.drop n=rest:=List.take_append_drop n rest;obtain ⟨a',A1⟩:∃a',cr (rest.take n) a=some a':=by
   rw [<-gR,Eu] at jg
   cases hq:cr (rest.take n) a with
   | none=>rw [hq] at jg;cases jg
   | some a'=>exact ⟨a',rfl⟩
  obtain ⟨v,hv⟩:∃v,cr (rest.take n) 0=some v:=by
   have:∀(l:List Nat) (x y b:Nat),cr l x=some y->∃z,cr l b=some z:=by
    intro l
    induction l with
    | nil=>intro x y b _;exact ⟨b,rfl⟩
    | cons c l ih=>
     intro x y b hh;simp only [cr] at hh ⊢
     cases hb:(yx 48 c&&yx c 57) with
     | false=>rw [hb] at hh;cases hh
     | true=>rw [hb] at hh;exact ih _ _ _ hh
   exact this _ _ _ 0 A1
  have Xl:=afc (a:=a) hv;have Qb:(rest.take n).length=n:=by rw [yQ];omega
  rw [Qb,A1,yb] at Xl;have OF:=MJ hv;rw [Qb] at OF;have arG:v<1000000000000000000:=yR OF (xA (n:=10) (by decide) (show n<=18 by omega));have e1:=ahb (P:=P) h.Ox (f:=D P L) (s:=rest.take n) (by omega) (by omega) hv;obtain ⟨t1,t2⟩:=AO h.toNu (z:=10) (by decide) (by decide);obtain ⟨t3,t4⟩:=AO h.toNu (z:=(v:Int)) (by omega) (by omega);obtain ⟨p,e2,hp⟩:=anx h.toNu h.Oz t2 (K:=4) (k:=n) (by unfold Bd;decide) (by omega) (by omega)
  have halt:=MJ dw;have ba:Bd (4*pre.length) (a:Int):=yR halt (EG _);have bp:Bd (4*n+1) ((10:Int)^n):=Bd.pow (k:=4) (by unfold Bd;decide) n
  obtain ⟨q,e3,hq⟩:=Cx h.toNu (v:= .agg [aa s,w]) ⟨s,w,rfl,hn⟩ hp (K:=4*pre.length+4*n+1) (ba.mono (by omega)) (bp.mono (by omega)) (by omega);have bv':Bd (4*n) (v:Int):=yR OF (EG _);obtain ⟨r,e4,hr⟩:=Ge h.toNu hq t4 (K:=4*pre.length+4*n+1) ((ba.mul bp).mono (by omega)) (bv'.mono (by omega)) (by omega);have aI:(a:Int)*10^n+(v:Int)=(a':Int):=by
   rw [Xl]
   simp
  rw [aI] at hr;obtain ⟨s2,w2,rfl,h2⟩:=hp;obtain ⟨s3,w3,rfl,h3⟩:=hq;obtain ⟨s4,w4,rfl,h4⟩:=hr;obtain ⟨l2,u2⟩:=h2.aU;obtain ⟨l3,u3⟩:=h3.aU;obtain ⟨l4,u4⟩:=h4.aU;have un:=pI;have c1:fP rest (some 0) (some n)=some (.str (rest.take n)):=by rw [jv (by omega) (by omega),yy]
  have c2:fP rest (some n) (some rest.length)=some (.str (rest.drop n)):=by rw [jv (by omega) (by omega),xy]
  simp only [go_sem,ya,BO,show (0:Int)<(rest.length:Nat) by omega,UP,Tg,Wv,dK,dW,c7,c1,c2,e1,bQ,t1,t3,bY,u1.ak,u2.ak,u3.ak,un.ak,e2,e3,e4,bN,bQ,yy,du u4];refine ⟨_,(rest.drop n).length,rfl,by rw [xJ];omega,pre++rest.take n,rest.drop n,a',s4,w4,by simp only [go_sem,ya,yc,aA],by rw [xn,gR];exact Bj,by rw [Eu,dw];exact A1,h4,rfl⟩
def LU {b:Nat} {r:List Nat} (h:48<=b):fe [45] (b::r)=false:=by
 show (ym 45 b&&true)=false
 rw [fM (by omega)];rfl
def Gh (h:Tx P L) {z:Int} (hz:(aS z).length<=4000000000):∃r,ai P L 110 [.str (aS z)] r/\b7 r z:=by
 have hN:=Bx z.natAbs;have un:=pI;have nS:(aw z.natAbs).length<=4000000000:=by
  by_cases h0:z<0
  ·rw [lm h0] at hz;simp at hz;omega
  ·rw [<-lk,yE h0] at hz;simpa using hz
 have ba:Bd (4*(aw z.natAbs).length) (z.natAbs:Int):=yR (MJ hN) (EG _);by_cases h0:z<0
 ·have hs:aS z=45::aw z.natAbs:=lm h0;have e1:bA P L (D P L) 152 [.str (45::aw z.natAbs),.str [45]]=some (.bool true):=by rw [gX h.Xg];rfl
  have e2:bA P L (D P L) 153 [.str (45::aw z.natAbs),.str [45]]=some (.str (aw z.natAbs)):=by rw [gX h.Ow];rfl
  have gN:∃s w r,ai P L 110 [.str (aS z)] r/\cU s w (z.natAbs:Int)/\ai P L 147 [.agg [aa s,w]] r/\b7 r (-(z.natAbs:Int)):=by
   rw [hs];unfold ai;rw [aK h.Xi];simp only [go_sem,ya,yc,Jz,aZ,e1,e2,un.pu,un.one,du un];generalize hq:D P L (.loop [0,2,3,4] BO) _=q;obtain ⟨ex,st,rfl,tm,s,w,rfl,rfl,t2,t3,t4,h5⟩:=bP hq (U1 (P:=P) (L:=L) h hN nS (neg:=true) (o1:= .int .i64 0) (o2:= .af) (aw z.natAbs).length) ⟨[],aw z.natAbs,0,0,.af,by simp only [go_sem,ya,yc,aA]<;>rfl,rfl,rfl,.inl ⟨rfl,rfl,by decide,by decide⟩,rfl⟩
   obtain ⟨l5,u5⟩:=h5.aU;obtain ⟨r,e3,hr⟩:=Cw h.toNu (v:= .agg [aa s,w]) ⟨s,w,rfl,h5⟩ (K:=4*(aw z.natAbs).length) ba (by omega);have b9:=hr;obtain ⟨s6,w6,rfl,h6⟩:=hr;obtain ⟨l6,u6⟩:=h6.aU;refine ⟨s,w,_,?_,h5,e3,b9⟩;simp only [go_sem,ya,yc,aA,t2,t3,t4,bQ,bY,u5.ak,e3,bN,ek,er,bQ,yy,kJ u6,du u6]
  obtain ⟨s,w,r,g1,_,_,g2⟩:=gN;rw [show -((z.natAbs:Nat):Int)=z by omega] at g2;exact ⟨r,g1,g2⟩
 ·have hs:aS z=aw z.natAbs:=by rw [<-lk,yE h0];rfl
  obtain ⟨b,r0,hb,iC,CV⟩:=By z.natAbs;have e1:bA P L (D P L) 152 [.str (aw z.natAbs),.str [45]]=some (.bool false):=by
   rw [gX h.Xg,hb];show some (AV.bool (fe [45] (b::r0)))=_
   rw [LU iC]
  have e2:bA P L (D P L) 153 [.str (aw z.natAbs),.str [45]]=some (.str (aw z.natAbs)):=by
   rw [gX h.Ow,hb];show some (AV.str (bif fe [45] (b::r0) then _ else _))=_
   rw [LU iC];rfl
  have gN:∃s w,ai P L 110 [.str (aS z)] (.agg [aa s,w])/\cU s w (z.natAbs:Int):=by
   rw [hs];unfold ai;rw [aK h.Xi];simp only [go_sem,ya,yc,Jz,aZ,e1,e2,un.pu,un.one,du un];generalize hq:D P L (.loop [0,2,3,4] BO) _=q;obtain ⟨ex,st,rfl,tm,s,w,rfl,rfl,t2,t3,t4,h5⟩:=bP hq (U1 (P:=P) (L:=L) h hN nS (neg:=false) (o1:= .int .i64 0) (o2:= .af) (aw z.natAbs).length) ⟨[],aw z.natAbs,0,0,.af,by simp only [go_sem,ya,yc,aA]<;>rfl,rfl,rfl,.inl ⟨rfl,rfl,by decide,by decide⟩,rfl⟩
   obtain ⟨l5,u5⟩:=h5.aU;refine ⟨s,w,?_,h5⟩;simp only [go_sem,ya,yc,aA,t2,t3,t4,bQ,ek,er,bQ,yy,kJ u5,du u5]
  obtain ⟨s,w,g1,g2⟩:=gN;rw [show ((z.natAbs:Nat):Int)=z by omega] at g2;exact ⟨_,g1,s,w,rfl,g2⟩
def En (b:Nat) (r:List Nat) (c:Nat):fe [c] (b::r)=ym c b:=by
 show (ym c b&&true)=_
 grind
def QW:∀(l r:List Nat) (k:Nat),(∀x,x∈l->x≠47)->jV [47] (l++47::r) k=some (k+l.length)
 | [],r,k,_=>by
  show (bif fe [47] (47::r) then some k else _)=_
  rw [En];rfl
 | b::l,r,k,h=>by
  show (bif fe [47] (b::(l++47::r)) then some k else jV [47] (l++47::r) (k+1))=_
  rw [En,fM (fun e=>h b (by simp) e.symm),yI,QW l r (k+1) (fun x hx=>h x (by simp [hx])),yH]
  grind
def index_none:∀(l:List Nat) (k:Nat),(∀x,x∈l->x≠47)->jV [47] l k=none
 | [],k,_=>rfl
 | b::l,k,h=>by
  show (bif fe [47] (b::l) then some k else jV [47] l (k+1))=_
  rw [En,fM (fun e=>h b (by simp) e.symm),yI,index_none l (k+1) (fun x hx=>h x (by simp [hx]))]
def Tw:∀{l:List Nat},cM l=true->∀x,x∈l->48<=x/\x<=57
 | [],_,x,hx=>by simp at hx
 | b::l,h,x,hx=>by
  have h1:=ade h;simp only [cM,yf] at h;rcases wc.1 hx with rfl | hx
  ·grind
  ·exact Tw h.2 x hx
def ZZ (z:Int):∀x,x∈aS z->x≠47:=fun x hx=>by
 rw [<-lk] at hx;rcases List.mem_append.1 hx with h | h
 ·grind
 ·have:=Tw (El _) x h;omega
def m62 (h:Tx P L) {a:Rat} (hl:(RT a).length<4000000000):∃r,ai P L 62 [.str (RT a)] r/\ez r a:=by
 have CK:=ZZ a.num;unfold RT at hl ⊢;by_cases hd:a.den=1
 ·rw [yT hd,wD] at hl ⊢;obtain ⟨p,e1,hp⟩:=Gh h (z:=a.num) (by omega);obtain ⟨r,e2,hr⟩:=Ov h.toFr' hp;rw [<-MH a hd] at hr;have b9:=hr;obtain ⟨s1,w1,rfl,h1⟩:=hp;obtain ⟨s2,w2,s3,w3,rfl,h2,h3⟩:=hr;obtain ⟨l1,u1⟩:=h1.aU;obtain ⟨l2,u2⟩:=h2.aU;obtain ⟨l3,u3⟩:=h3.aU;have e0:bA P L (D P L) 109 [.str (aS a.num),.str [47]]=some (.av [.str (aS a.num),.str [],.bool false]):=by
   rw [gX h.Oy];show (bif yF (aS a.num).length 4294967281 then (match jV [47] (aS a.num) 0 with | some i=>_ | none=>some (AV.av [.str (aS a.num),.str [],.bool false])) else none)=_
   rw [jd (by omega),index_none _ _ CK];rfl
  refine ⟨_,?_,b9⟩;unfold ai;rw [aK h.KY];simp only [go_sem,ya,yc,KB,aZ,e0,e1,bN,u1.ak,bY,e2,lK u2 u3,ek,er,yy,iM,lL u2 u3]
 ·rw [yE hd] at hl ⊢;simp only [yU,yH] at hl;obtain ⟨p,e1,hp⟩:=Gh h (z:=a.num) (by omega);obtain ⟨q,e2,hq⟩:=Gh h (z:=(a.den:Int)) (by rw [jQ];omega);rw [jQ] at e2;obtain ⟨s1,w1,rfl,h1⟩:=hp;obtain ⟨s2,w2,rfl,h2⟩:=hq;obtain ⟨l1,u1⟩:=h1.aU;obtain ⟨l2,u2⟩:=h2.aU;have e0:bA P L (D P L) 109 [.str (aS a.num++47::aw a.den),.str [47]]=some (.av [.str (aS a.num),.str (aw a.den),.bool true]):=by
   rw [gX h.Oy];show (bif yF (aS a.num++47::aw a.den).length 4294967281 then (match jV [47] (aS a.num++47::aw a.den) 0 with | some i=>some (AV.av [.str ((aS a.num++47::aw a.den).take i),.str ((aS a.num++47::aw a.den).drop (i+1)),.bool true]) | none=>_) else none)=_
   rw [jd (by simp;omega),QW _ _ _ CK];simp only [yj,yp,List.take_left];rw [show (aS a.num).length+1=(aS a.num++[47]).length by simp,show aS a.num++47::aw a.den=(aS a.num++[47])++aw a.den by simp,List.drop_left]
  refine ⟨.agg [aa s1,w1,aa s2,w2],?_,s1,w1,s2,w2,rfl,h1,h2⟩;unfold ai;rw [aK h.KY];simp only [go_sem,ya,yc,KB,aZ,e0,e1,e2,bN,u1.one,u2.one,BH,BI,lK u1 u2,ek,er,yy,iM,lL u1 u2]
end
def dh (p:List Nat):Bool:=cM p&&(match p with | []=>false | b::r=> !(ym b 48)||r.isEmpty)
def eI (p:List Nat):Nat:=(cr p 0).getD 0
def qH (neg:Bool) (t:List Nat):Int:=
 if dh (t.take (bE t))=false\/(neg=true/\t.take (bE t)=[48]) then 1
 else if bE t<t.length/\(dh (t.drop (bE t+1))=false\/t.drop (bE t+1)=[48]\/t.drop (bE t+1)=[49]) then 1
 else if 600<bE t\/600<t.length-bE t-1 then 4
 else if bE t<t.length/\we (eI (t.take (bE t))) (eI (t.drop (bE t+1)))≠1 then 1
 else 0
def cg:List Nat->Int
 | []=>qH false []
 | b::t=>if b=45 then qH true t else qH false (b::t)
def Tz:∀{p:List Nat} (a:Nat),cM p=true->∃n,cr p a=some n
 | [],a,_=>⟨a,rfl⟩
 | b::r,a,h=>by
  have h':=h;simp only [cM,yf] at h';obtain ⟨n,hn⟩:=Tz (p:=r) (10*a+(b-48)) h'.2;exact ⟨n,by simp only [cr,h'.1.1,h'.1.2,wC,yp];exact hn⟩
def Bz:∀(k:Nat) {p:List Nat},p.length=k->dh p=true->aw (eI p)=p:=by
 intro k
 induction k with
 | zero=>intro p hl h;rw [yA hl] at h;simp [dh] at h
 | succ k ih=>
  intro p hl h;rcases snoc p with rfl | ⟨m,a,rfl⟩
  ·grind
  ·simp only [dh,yf,Hx] at h;obtain ⟨⟨h1,h2⟩,h3⟩:=h;simp only [cM,yf] at h2;have ha1:=yr h2.1.1;have ha2:=yr h2.1.2;obtain ⟨n,hn⟩:=Tz 0 h1;have hv:eI (m++[a])=10*n+(a-48):=by
    unfold eI;rw [Eu,hn];simp only [xN,cr,h2.1.1,h2.1.2,wC,yp,Option.getD_some]
   cases m with
   | nil=>
    have:n=0:=by simpa [cr] using hn.symm
    rw [hv,mo (by omega)]
    simp;omega
   | cons b r=>
    have hd:dh (b::r)=true:=by
     simp only [dh,h1,wB]
     cases r with
     | nil=>simp
     | cons c r=>simp at h3 ⊢;exact h3
    have hm:=ih (p:=b::r) (by simpa using hl) hd;have hnv:eI (b::r)=n:=by unfold eI;rw [hn];rfl
    rw [hnv] at hm;have sX:n≠0:=fun e=>by
     rw [mo (by omega)] at hm
     simp_all
    rw [hv,nB (by omega),show (10*n+(a-48))/10=n by omega,show 48+(10*n+(a-48))%10=a by omega,hm]
def Qu (t:List Nat):bE t<t.length->t=t.take (bE t)++47::t.drop (bE t+1):=by
 induction t with
 | nil=>simp
 | cons b r ih=>
  intro h;simp only [bE] at h ⊢
  grind
def Sz {n:Int} {d:Nat} (hd:0<d) (hg:we n.natAbs d=1):∃r:Rat,r.num=n/\r.den=d:=⟨⟨n,d,by omega,hg⟩,rfl,rfl⟩
def akp {s:List Nat} (h:cg s=0):∃r:Rat,s=RT r/\(aw r.num.natAbs).length<=600/\(aw r.den).length<=600:=by
 have key:∀(neg:Bool) (t:List Nat),qH neg t=0->∃r:Rat,(if neg=true then [45] else [])++t=RT r/\(aw r.num.natAbs).length<=600/\(aw r.den).length<=600:=by
  intro neg t h;unfold qH at h
  split at h
  ·grind
  rename_i h1
  split at h
  ·grind
  rename_i h2
  split at h
  ·grind
  rename_i h3
  split at h
  ·grind
  rename_i h4;have hle:=Ek t;have hp:dh (t.take (bE t))=true:=by
   cases hb:dh (t.take (bE t)) with
   | true=>rfl
   | false=>exact absurd (.inl hb) h1
  have nY:=Bz _ rfl hp;generalize hn:eI (t.take (bE t))=n at*
  have alV:neg=true->n≠0:=fun hh e=>by
   subst e;exact h1 (.inr ⟨hh,by rw [<-nY];rfl⟩)
  have hint:(if neg=true then [45] else [])++aw n=aS (if neg=true then -(n:Int) else n):=by
   cases neg with
   | true=>
    have:=alV rfl
    simp only [xm];rw [lm (by omega)]
    simp
   | false=>simp [jQ]
  have OG:(if neg=true then -(n:Int) else n).natAbs=n:=by split<;>omega
  have Zm:(aw n).length<=600:=by rw [nY,yQ];omega
  by_cases hs:bE t<t.length
  ·have hq:dh (t.drop (bE t+1))=true:=by
    cases hb:dh (t.drop (bE t+1)) with
    | true=>rfl
    | false=>exact absurd ⟨hs,.inl hb⟩ h2
   have mj:=Bz _ rfl hq;have hg:we n (eI (t.drop (bE t+1)))=1:=by
    grind
   have iK:=Qu t hs;have Hd:(t.drop (bE t+1)).length<=600:=by rw [xJ];omega
   rw [<-mj] at iK Hd;have fU:eI (t.drop (bE t+1))≠0:=fun e=>by
    rw [e] at mj;exact h2 ⟨hs,.inr (.inl (by rw [<-mj];rfl))⟩
   have nd:eI (t.drop (bE t+1))≠1:=fun e=>by
    rw [e] at mj;exact h2 ⟨hs,.inr (.inr (by rw [<-mj];rfl))⟩
   generalize eI (t.drop (bE t+1))=d at*
   obtain ⟨r,dC,kw⟩:=Sz (n:=if neg=true then -(n:Int) else n) (d:=d) (by omega) (by rw [OG];exact hg)
   refine ⟨r,?_,by rw [dC,OG];exact Zm,by rw [kw];exact Hd⟩
   unfold RT;rw [dC,kw,yE nd,<-hint,xn]
   congr 1
   rw [nY];exact iK
  ·have ht:t.take (bE t)=t:=yD (by omega);rw [ht] at nY;obtain ⟨r,dC,kw⟩:=Sz (n:=if neg=true then -(n:Int) else n) (d:=1) (by omega) (Nat.gcd_one_right _);refine ⟨r,?_,by rw [dC,OG];exact Zm,by rw [kw];decide⟩
   unfold RT;rw [dC,kw,yT rfl,<-hint,wD,nY]
 cases s with
 | nil=>exact absurd h (by decide)
 | cons b t=>
  simp only [cg] at h
  split at h
  ·rename_i hb;subst hb;exact key true t h
  ·exact key false (b::t) h
namespace Nd
structure Ord (n:Nat) (l:List Int):Prop where
 len:l.length=n
 mT:∀a,a<n->0<=l.getD a 0/\l.getD a 0<n
 inj:∀a b,a<n->b<n->l.getD a 0=l.getD b 0->a=b
end Nd
namespace Nd
open Go (IntKind)
section
variable {P:aR} {L:Lib}
abbrev ai (P:aR) (L:Lib) (f:Nat) (aj:List AV) (r:AV):Prop:=bA P L (D P L) f aj=some r
def Zn {hp:Hp} {ct id o:Nat} {v:Int} {ex:Bool} {l:List Int} (h:o<l.length):ie hp ct id o 1 [.int .i64 v] (some (.cells true true ex 1 (l.map aa)))=some (.av [],a6 hp id (.cells true true ex 1 ((l.set o v).map aa)),ct):=by
 rw [B6 (by rfl) (by simp;omega) (by rfl)]
 have:over o [AV.int .i64 v] (l.map aa)=(l.set o v).map aa:=by
  simp only [over,yH,yM,yj];rw [yaT,uj,yT (by simpa using h)]
  simp
 rw [this];rfl
def qI (h:Has P L 124 Ch) (b:Bool) (n:Int):ai P L 124 [.bool b,aa n] (aa (if b=true then n else 0)):=by
 unfold ai;rw [aK h]
 cases b with
 | true=>simp only [go_sem,ya,Ch,xm]
 | false=>simp only [go_sem,ya,Ch];rfl
def anz (h:Has P L 125 JB) {v:AV} {l:List Int} (hv:bg v l) (hl:l.length<=1000000):ai P L 125 [v] (aa (bW l)):=by
 unfold ai;rw [aK h];simp only [go_sem,ya,JB,hv.len];have key:=Il (P:=P) (L:=L) (live:=[5,6,7]) (a:=IV)
  (I:=fun k s=>∃tm ct i,s=⟨tm,[],ct,0⟩/\ah tm 5=v/\ah tm 6=aa l.length/\ah tm 7=aa (i:Nat)/\i+k=l.length/\bW (l.drop i)=bW l)
  (Q:=fun ex s=>∃tm,s=⟨tm,[],0,0⟩/\((ex= .ret/\ah tm 2=aa (bW l))\/(ex= .exit 0/\bW l=0))) ?_ l.length
 ·generalize hq:D P L (.loop [5,6,7] IV) _=q;obtain ⟨ex,s,rfl,tm,rfl,h2⟩:=bP hq key ⟨_,_,0,rfl,rfl,rfl,rfl,by omega,rfl⟩;rcases h2 with ⟨rfl,h2⟩ | ⟨rfl,h2⟩
  ·simp only [go_sem,h2]
  ·rw [h2];simp only [go_sem]
 ·rintro k s ⟨tm,ct,i,rfl,h5,h6,h7,hk,hf⟩;rw [Lb (by simp only [go_sem,h5,h6,h7,hv.pu])];simp only [go_sem,ya,h5,h6,h7,IV];by_cases hi:i<l.length
  ·have dJ:(i:Int)<l.length:=by omega
   rw [Lj hi] at hf;by_cases hz:l[i]=0
   ·left
    simp only [go_sem,ya,dJ,hv.bt hi,hz];refine ⟨_,k-1,rfl,by omega,_,_,i+1,rfl,?_⟩;rw [wrap64 (by omega) (by omega)];rw [yT hz] at hf;simp only [go_sem,ya];exact ⟨trivial,trivial,rfl,by omega,hf⟩
   ·right
    simp only [go_sem,ya,dJ,hv.bt hi,hz];rw [yE hz] at hf;refine ⟨_,_,rfl,by simp,_,rfl,.inl ⟨rfl,?_⟩⟩;simp only [go_sem,hf]
  ·right
   have dJ:¬(i:Int)<l.length:=by omega
   simp only [go_sem,dJ];refine ⟨_,_,rfl,by simp,_,rfl,.inr ⟨rfl,?_⟩⟩;rw [<-hf,xa (by omega)];rfl
end
end Nd
def TA (i:Nat):Cg i [48,49,50,51,52,53,54,55,56,57]=(yx 48 i&&yx i 57):=by
 by_cases h:48<=i/\i<=57
 ·obtain ⟨h1,h2⟩:=h;obtain ⟨k,rfl⟩:∃k,i=48+k:=⟨i-48,by omega⟩;rcases (show k=0\/k=1\/k=2\/k=3\/k=4\/k=5\/k=6\/k=7\/k=8\/k=9 by omega) with rfl | rfl | rfl | rfl | rfl | rfl | rfl | rfl | rfl | rfl<;>rfl
 ·have e:(yx 48 i&&yx i 57)=false:=by
   cases h1:yx 48 i with
   | false=>rfl
   | true=>
    cases h2:yx i 57 with
    | false=>rfl
    | true=>exact absurd ⟨yr h1,yr h2⟩ h
  rw [e];have ne:∀c,48<=c->c<=57->ym c i=false:=fun c h1 h2=>fM (by omega)
  simp only [Cg,ne 48 (by decide) (by decide),ne 49 (by decide) (by decide),ne 50 (by decide) (by decide),ne 51 (by decide) (by decide),ne 52 (by decide) (by decide),ne 53 (by decide) (by decide),ne 54 (by decide) (by decide),ne 55 (by decide) (by decide),ne 56 (by decide) (by decide),ne 57 (by decide) (by decide),yI]
def LV:∀l:List Nat,jc [48,49,50,51,52,53,54,55,56,57] l=[]↔cM l=true
 | []=>by simp [jc,cM]
 | b::r=>by
  simp only [jc,cM,TA]
  cases hb:(yx 48 b&&yx b 57) with
  | true=>simp only [yp,wB];exact LV r
  | false=>simp
def Iq:∀l:List Nat,cM l.reverse=cM l
 | []=>rfl
 | b::r=>by rw [List.reverse_cons,Hx,Iq r];simp [cM,Bool.and_comm]
def Qx:∀l:List Nat,cM l=false->cM (jc [48,49,50,51,52,53,54,55,56,57] l)=false
 | [],h=>by simp [cM] at h
 | b::r,h=>by
  simp only [jc,TA]
  cases hb:(yx 48 b&&yx b 57) with
  | true=>
   simp only [cM,hb,wB] at h;exact Qx r h
  | false=>simp only [yI];exact h
def afk (p:List Nat):bV (jc [48,49,50,51,52,53,54,55,56,57] (jc [48,49,50,51,52,53,54,55,56,57] p.reverse).reverse) []=cM p:=by
 cases hd:cM p with
 | true=>
  have h1:=(LV p.reverse).2 (by rw [Iq];exact hd)
  rw [h1];rfl
 | false=>
  have h1:=Qx p.reverse (by rw [Iq];exact hd)
  have h2:cM (jc [48,49,50,51,52,53,54,55,56,57] p.reverse).reverse=false:=by rw [Iq];exact h1
  cases hq:jc [48,49,50,51,52,53,54,55,56,57] (jc [48,49,50,51,52,53,54,55,56,57] p.reverse).reverse with
  | nil=>have:=(LV _).1 hq;rw [h2] at this;exact absurd this (by decide)
  | cons b r=>rfl
def Qy:∀(t:List Nat) (k:Nat),jV [47] t k=if bE t<t.length then some (k+bE t) else none
 | [],k=>by simp [jV,fe,bE]
 | b::r,k=>by
  by_cases hb:b=47
  ·subst hb;have e:bE (47::r)=0:=by simp [bE]
   rw [e,yT (by simp)];rfl
  ·have e:bE (b::r)=bE r+1:=by simp [bE,hb]
   have hp:fe [47] (b::r)=false:=by rw [En];exact fM (fun e=>hb e.symm)
   rw [e,jV,hp,yI,Qy r (k+1)]
   grind
def rO (a b:List Nat):binOp .neq (.str a) (.str b)=some (.bool (!(bV a b))):=rfl
structure Ck (P:aR) (L:Lib):Prop extends Tx P L where
 anA:L.pure 128=some HJ
 anB:L.pure 162=some trimS
 h86:Has P L 86 ej
 AR:Has P L 124 Ch
 anC:Has P L 125 JB
 anD:Has P L 129 Ci
section
variable {P:aR} {L:Lib}
def qI (h:Has P L 124 Ch) (b:Bool) (n:Int):ai P L 124 [.bool b,aa n] (aa (if b=true then n else 0)):=Nd.qI h b n
def Xm (h:Ck P L) {p:List Nat} (hl:p.length<=4000000000):ai P L 129 [.str p] (.bool (dh p)):=by
 have e1:bA P L (D P L) 162 [.str p,.str [48,49,50,51,52,53,54,55,56,57]]=some (.str (jc [48,49,50,51,52,53,54,55,56,57] (jc [48,49,50,51,52,53,54,55,56,57] p.reverse).reverse)):=by
  rw [gX h.anB];show (bif BN [48,49,50,51,52,53,54,55,56,57]&&(yF p.length 4294967281&&yF 10 4294967281) then _ else none)=_
  rw [jd (by omega)];rfl
 have e2:=afk p;unfold ai;rw [aK h.anD]
 match p,e1,e2 with
 | [],_,_=>
  simp only [go_sem,ya,Ci,rO,show bV [] []=true from rfl,y5];rfl
 | b::r,e1,e2=>
  have hI:kI 0 (.str (b::r))=some (.int .u8 (b:Nat)):=rfl;have h0:bV (b::r) []=false:=rfl;have hd:dh (b::r)=(cM (b::r)&&(!(ym b 48)||r.isEmpty)):=rfl;rw [hd]
  cases lf:cM (b::r) with
  | false=>
   rw [lf] at e2;simp only [go_sem,ya,Ci,rO,h0,yY,e1,jS,e2,wq]
  | true=>
   rw [lf] at e2;by_cases hb:b=48
   ·subst hb;have e3:bV (48::r) [48]=r.isEmpty:=by
     cases r with
     | nil=>rfl
     | cons c r=>rfl
    have Pf:kI 0 (.str (48::r))=some (.int .u8 48):=rfl;simp only [go_sem,ya,Ci,rO,h0,yY,e1,jS,e2,Pf,yJ,y5,e3];rfl
   ·have:ym b 48=false:=fM hb
    rw [this];simp only [go_sem,ya,Ci,rO,h0,yY,e1,jS,e2,hI,show ¬((b:Nat):Int)=48 by omega,yG,yY];rfl
def anE (h:Ck P L) (s:List Nat):bA P L (D P L) 128 [.str s,.str [45]]=some (if s.head? =some 45 then .av [.str s.tail,.bool true] else .av [.str s,.bool false]):=by
 rw [gX h.anA];show some (bif fe [45] s then AV.av [.str (s.drop 1),.bool true] else .av [.str s,.bool false])=_
 cases s with
 | nil=>rfl
 | cons b r=>
  by_cases hb:b=45
  ·subst hb;rfl
  ·have:fe [45] (b::r)=false:=by rw [En];exact fM (fun e=>hb e.symm)
   grind
def anF (h:Ck P L) {t:List Nat} (hl:t.length<=4000000000):bA P L (D P L) 109 [.str t,.str [47]]=some (.av [.str (t.take (bE t)),.str (t.drop (bE t+1)),.bool (decide (bE t<t.length))]):=by
 rw [gX h.Oy];show (bif yF t.length 4294967281 then (match jV [47] t 0 with | some i=>some (AV.av [.str (t.take i),.str (t.drop (i+1)),.bool true]) | none=>some (AV.av [.str t,.str [],.bool false])) else none)=_
 rw [jd (by omega),Qy];by_cases hs:bE t<t.length
 ·grind
 ·rw [yE hs,xb hs,yD (by omega),xa (by omega)];rfl
def aby {P:aR} {L:Lib} (a b c d:VC) (s:St):D P L (.seq a (.seq b (.seq c d))) s=mJ P L (D P L (.seq a (.seq b c)) s) d:=by
 have e:=zO (P:=P) (L:=L) b c d;rw [j0,j0]
 cases D P L a s with
 | none=>rfl
 | some q=>
  obtain ⟨ex,st⟩:=q
  cases ex with
  | normal=>rw [fL,fL];exact e st
  | ret=>rfl
  | exit id=>rfl
def adf {P:aR} {L:Lib} (a b c d f:VC) (s:St):D P L (.seq a (.seq b (.seq c (.seq d f)))) s=mJ P L (D P L (.seq a (.seq b (.seq c d))) s) f:=by
 have e:=aby (P:=P) (L:=L) b c d f;rw [j0,j0]
 cases D P L a s with
 | none=>rfl
 | some q=>
  obtain ⟨ex,st⟩:=q
  cases ex with
  | normal=>rw [fL,fL];exact e st
  | ret=>rfl
  | exit id=>rfl
def IP {a b:List Nat} (h:a=b):bV a b=true:=by
 subst h
 induction a with
 | nil=>rfl
 | cons x a ih=>simp [bV,ih]
def ML {a b:List Nat} (h:a≠b):bV a b=false:=by
 cases hb:bV a b with
 | false=>rfl
 | true=>
  exact absurd (by
   clear h;revert b
   induction a with
   | nil=>intro b hb;cases b with | nil=>rfl | cons y b=>simp [bV] at hb
   | cons x a ih=>
    intro b hb
    cases b with
    | nil=>simp [bV] at hb
    | cons y b=>
     simp only [bV,yf] at hb
     rw [yi hb.1,ih hb.2]) h
def alW (h:Ck P L) {p q:List Nat} {ok found:Bool} (lp:p.length<=1000000000) (lq:q.length<=1000000000) (gV:ok=true->dh p=true/\(found=true->dh q=true)) {tm:Env} (t5:ah tm 5= .str p) (t6:ah tm 6= .str q) (t7:ah tm 7= .bool found) (t8:ah tm 8= .bool ok):
  fg [.t 2] (D P L (ax (ax (ax (ax (ax ej.body))))) ⟨tm,[],0,0⟩)=some (aa (
   if ok=false then 1
   else if 600<p.length\/600<q.length then 4
   else if found=true/\we (eI p) (eI q)≠1 then 1
   else 0)):=by
 have w1:=qI h.AR (!ok) 1;have K2:∀a b:Int,ai P L 125 [.aq true 2 [aa a,aa b]] (aa (bW [a,b])):=fun a b=>Nd.anz h.anC (ju true [a,b]) (by simp)
 cases ok with
 | false=>
  have f1:=K2 1 0;have f2:=K2 1 4;have w2:=qI h.AR false 4;have w3:=qI h.AR true 4;simp only [yY,xm,yB,y8] at w1 w2 w3;rw [show bW [1,0]=1 by decide] at f1;rw [show bW [1,4]=1 by decide] at f2;unfold ai at w1 w2 w3 f1 f2;by_cases h1:600<p.length
  ·simp only [go_sem,ya,yc,yz,yt,yo,ej,ax,show ¬(1:Int)=0 by decide,yY,t5,t8,yY,w1,show (600:Int)<(p.length:Int) by omega,yJ,w3,f2,yG]
   simp
  ·by_cases h2:600<q.length
   ·simp only [go_sem,ya,yc,yz,yt,yo,ej,ax,show ¬(1:Int)=0 by decide,yY,t5,t6,t8,yY,w1,show ¬(600:Int)<(p.length:Int) by omega,show (600:Int)<(q.length:Int) by omega,yJ,yG,w3,f2]
    simp
   ·simp only [go_sem,ya,yc,yz,yt,yo,ej,ax,show ¬(1:Int)=0 by decide,yY,t5,t6,t8,yY,w1,show ¬(600:Int)<(p.length:Int) by omega,show ¬(600:Int)<(q.length:Int) by omega,yG,w2,f1]
    simp
 | true=>
  obtain ⟨hp,hq⟩:=gV rfl;have f1:=K2 0 0;have f2:=K2 0 4;have w2:=qI h.AR false 4;have w3:=qI h.AR true 4;have w4:=qI h.AR false 1;have w5:=qI h.AR true 1;simp only [y5,xm,yB,y8] at w1 w2 w3 w4 w5;rw [show bW [0,0]=0 by decide] at f1;rw [show bW [0,4]=4 by decide] at f2;unfold ai at w1 w2 w3 w4 w5 f1 f2;rw [yE (by decide)];by_cases h1:600<p.length
  ·rw [yT (.inl h1)];simp only [go_sem,ya,yc,yz,yt,yo,ej,ax,show ¬(4:Int)=0 by decide,yY,t5,t8,y5,w1,show (600:Int)<(p.length:Int) by omega,yJ,w3,f2,yG]
  ·by_cases h2:600<q.length
   ·rw [yT (.inr h2)];simp only [go_sem,ya,yc,yz,yt,yo,ej,ax,show ¬(4:Int)=0 by decide,yY,t5,t6,t8,y5,w1,show ¬(600:Int)<(p.length:Int) by omega,show (600:Int)<(q.length:Int) by omega,yJ,yG,w3,f2]
   ·rw [yE (by omega)]
    cases found with
    | false=>
     rw [yE (by simp)];simp only [go_sem,ya,yc,yz,yt,yo,ej,ax,t5,t6,t7,t8,y5,w1,show ¬(600:Int)<(p.length:Int) by omega,show ¬(600:Int)<(q.length:Int) by omega,yJ,yG,w2,f1]
    | true=>
     have nY:=Bz _ rfl hp;have mj:=Bz _ rfl (hq rfl);generalize eI p=n at*
     generalize eI q=d at*
     subst nY;subst mj;obtain ⟨M,hM⟩:∃M:Nat,M=2400:=⟨_,rfl⟩;have bd:∀{m:Nat},(aw m).length<=600->Bd M (m:Int):=fun {m} hm=>by
      have h1:=EF m;have h2:=EG (aw m).length;have h3:(2:Nat)^(4*(aw m).length)<=2^M:=xA (by decide) (by omega);unfold Bd;rw [wP];exact yR h1 (xi h2 h3)
     obtain ⟨x,e1,hx⟩:=Gh h.toTx (z:=(n:Int)) (by rw [jQ];omega);obtain ⟨y,e2,hy⟩:=Gh h.toTx (z:=(d:Int)) (by rw [jQ];omega);rw [jQ] at e1 e2;have kn:=bd (m:=n) (by omega);have kd:=bd (m:=d) (by omega);obtain ⟨g,e3,hg⟩:=Xf h.toNu hx hy kn kd (by omega);obtain ⟨e4,OZ⟩:=AO h.toNu (z:=1) (by decide) (by decide);have kg:Bd M ((Int.gcd (n:Int) (d:Int):Nat):Int):=by
      rcases Nat.eq_zero_or_pos d with h0 | h0
      ·subst h0;simpa using kn
      ·exact kd.le (by have:=Nat.gcd_le_right n h0;simpa using this)
     have e5:=anl h.toNu hg OZ (K:=M) kg (by unfold Bd;exact Nat.one_lt_two_pow (by omega)) (by omega)
     have anG:Int.gcd (n:Int) (d:Int)=we n d:=rfl;rw [anG] at e5;obtain ⟨xs,xw,rfl,Bn⟩:=hx;obtain ⟨ys,yw,rfl,Hf⟩:=hy;obtain ⟨gs,gw,rfl,Qc⟩:=hg;obtain ⟨l1,u1⟩:=Bn.aU;obtain ⟨l2,u2⟩:=Hf.aU;obtain ⟨l3,u3⟩:=Qc.aU;by_cases fS:we n d=1
     ·rw [yE (by simp [fS])];have hs:cF (((we n d:Nat):Int)-1)=0:=by rw [fS];rfl
      rw [hs] at e5;simp only [go_sem,ya,yc,yz,yt,yo,ej,ax,t5,t6,t7,t8,y5,w1,show ¬(600:Int)<((aw n).length:Int) by omega,show ¬(600:Int)<((aw d).length:Int) by omega,yJ,yG,w2,f1,e1,e2,u1.ak,u2.ak,u3.ak,bN,bY,e3,e4,e5]
     ·rw [yT ⟨rfl,fS⟩];obtain ⟨c,hc,jl⟩:∃c,cF (((we n d:Nat):Int)-1)=c/\c≠0:=⟨_,rfl,fun e=>fS (by
       unfold cF at e
       split at e
       ·exact absurd e (by decide)
       ·split at e
        ·omega
        ·exact absurd e (by decide))⟩
      rw [hc] at e5;simp only [go_sem,ya,yc,yz,yt,yo,ej,ax,yY,t5,t6,t7,t8,y5,w1,show ¬(600:Int)<((aw n).length:Int) by omega,show ¬(600:Int)<((aw d).length:Int) by omega,yJ,yG,w2,f1,e1,e2,u1.ak,u2.ak,u3.ak,bN,bY,e3,e4,e5,jl,yY,w5]
def Zo (h:Ck P L) {s:List Nat} (hl:s.length<=1000000000):ai P L 86 [.str s] (aa (cg s)):=by
 have key:∀(neg:Bool) (t:List Nat),t.length<=1000000000->bA P L (D P L) 128 [.str s,.str [45]]=some (.av [.str t,.bool neg])->ai P L 86 [.str s] (aa (qH neg t)):=by
  intro neg t hl e0;have e1:=anF h (t:=t) (by omega);obtain ⟨k,hk⟩:∃k,k=bE t:=⟨_,rfl⟩;have Qd:k<=t.length:=by rw [hk];exact Ek t
  have e2:=Xm h (p:=t.take k) (by rw [yQ];omega);have e3:=Xm h (p:=t.drop (k+1)) (by rw [xJ];omega);have lp:(t.take k).length=k:=by rw [yQ];omega
  have lq:(t.drop (k+1)).length=t.length-k-1:=by rw [xJ];omega
  unfold qH;rw [<-hk] at e1 ⊢;generalize hp:t.take k=p at*
  generalize hq:t.drop (k+1)=q at*
  obtain ⟨zB,oN⟩:∃ok:Bool,ok=(dh p&&(!neg|| !(bV p [48]))):=⟨_,rfl⟩;obtain ⟨ok,gV⟩:∃ok:Bool,ok=(zB&&(!(decide (k<t.length))||(dh q&&(!(bV q [48])&& !(bV q [49]))))):=⟨_,rfl⟩
  have JY:(if dh p=false\/(neg=true/\p=[48]) then 1
    else if k<t.length/\(dh q=false\/q=[48]\/q=[49]) then 1
    else if 600<k\/600<t.length-k-1 then 4
    else if k<t.length/\we (eI p) (eI q)≠1 then 1 else 0:Int)=(if ok=false then 1
    else if 600<p.length\/600<q.length then 4
    else if decide (k<t.length)=true/\we (eI p) (eI q)≠1 then 1
    else 0):=by
   rw [lp,lq];have a1:(dh p=false\/(neg=true/\p=[48]))↔zB=false:=by
    rw [oN];cases dh p<;>cases neg<;>simp
    by_cases e:p=[48]
    ·simp [e,IP]
    ·simp [e,ML e]
   have a2:ok=false↔(zB=false\/(k<t.length/\(dh q=false\/q=[48]\/q=[49]))):=by
    rw [gV];by_cases hs:k<t.length
    ·simp only [hs,yJ,y5,vR,ua];cases zB<;>cases dh q<;>simp
     by_cases e:q=[48]
     ·simp [e,IP]
     ·by_cases e':q=[49]
      ·simp [e',IP]
      ·simp [e,e',ML e,ML e']
    ·simp [hs]
   by_cases h1:zB=false
   ·rw [yT (a1.2 h1),yT (a2.2 (.inl h1))]
   ·rw [yE (fun e=>h1 (a1.1 e))];by_cases h2:k<t.length/\(dh q=false\/q=[48]\/q=[49])
    ·rw [yT h2,yT (a2.2 (.inr h2))]
    ·rw [yE h2,yE (fun e=>(a2.1 e).elim h1 h2)];simp only [vl]
  rw [JY];have anH:ok=true->dh p=true/\(decide (k<t.length)=true->dh q=true):=fun e=>by
   rw [gV,yf] at e;obtain ⟨e1,e2⟩:=e;rw [oN,yf] at e1;refine ⟨e1.1,fun hs=>?_⟩;rw [hs,y5,vR,yf] at e2;exact e2.1
  have tail:∀tm,ah tm 5= .str p->ah tm 6= .str q->ah tm 7= .bool (decide (k<t.length))->ah tm 8= .bool ok->fg [.t 2] (D P L (ax (ax (ax (ax (ax ej.body))))) ⟨tm,[],0,0⟩)=_:=fun tm t5 t6 t7 t8=>
   alW h (by omega) (by omega) anH t5 t6 t7 t8
  have mid:∀tm,ah tm 5= .str p->ah tm 6= .str q->ah tm 7= .bool (decide (k<t.length))->ah tm 8= .bool zB->
    ∃bS,D P L (bn (ax (ax (ax (ax ej.body))))) ⟨tm,[],0,0⟩=some (.normal,⟨bS,[],0,0⟩)/\ah bS 5= .str p/\ah bS 6= .str q/\ah bS 7= .bool (decide (k<t.length))/\ah bS 8= .bool ok:=fun tm t5 t6 t7 t8=>by
   unfold ai at e3;by_cases hs:k<t.length
   ·rw [xo hs] at t7 gV ⊢;simp only [y5,vR] at gV
    cases zB with
    | false=>
     rw [wq] at gV;subst gV;refine ⟨_,by simp only [go_sem,ya,ej,bn,ax,t7,t8]<;>rfl,?_⟩
     simp only [go_sem,ya,t5,t6,t7,ua]
    | true=>
     rw [wB] at gV
     cases hd:dh q with
     | false=>
      rw [hd] at e3 gV;rw [wq] at gV;subst gV;refine ⟨_,by simp only [go_sem,ya,ej,bn,ax,t6,t7,t8,e3]<;>rfl,?_⟩
      simp only [go_sem,ya,t5,t6,t7,ua]
     | true=>
      rw [hd] at e3 gV;rw [wB] at gV
      cases ij:bV q [48] with
      | true=>
       rw [ij,y5,wq] at gV;subst gV;refine ⟨_,by simp only [go_sem,ya,ej,bn,ax,t6,t7,t8,e3,rO,ij,y5]<;>rfl,?_⟩
       simp only [go_sem,ya,t5,t6,t7,ua]
      | false=>
       rw [ij,yY,wB] at gV;subst gV;refine ⟨_,by simp only [go_sem,ya,ej,bn,ax,t6,t7,t8,e3,rO,ij,yY]<;>rfl,?_⟩
       simp only [go_sem,ya,t5,t6,t7,ua]
   ·rw [xb hs] at t7 gV ⊢;simp only [yY,uN,Bool.and_true] at gV;subst gV;refine ⟨_,by simp only [go_sem,ej,bn,ax,t7]<;>rfl,?_⟩
    simp only [go_sem,ya,t5,t6,t7,t8,ua]
  have fin:∀tm,ah tm 5= .str p->ah tm 6= .str q->ah tm 7= .bool (decide (k<t.length))->ah tm 8= .bool zB->
    D P L (.seq (bn ej.body) (.seq (bn (ax ej.body)) (.seq (bn (ax (ax ej.body))) (bn (ax (ax (ax ej.body))))))) ⟨[(0,.str s)],[],0,0⟩=some (.normal,⟨tm,[],0,0⟩)->ai P L 86 [.str s] _:=fun tm t5 t6 t7 t8 e=>by
   obtain ⟨bS,e',f5,f6,f7,f8⟩:=mid tm t5 t6 t7 t8;unfold ai;rw [aK h.h86];show fg [.t 2] (D P L (.seq (bn ej.body) (.seq (bn (ax ej.body)) (.seq (bn (ax (ax ej.body))) (.seq (bn (ax (ax (ax ej.body)))) (.seq (bn (ax (ax (ax (ax ej.body))))) (ax (ax (ax (ax (ax ej.body)))))))))) ⟨[(0,.str s)],[],0,0⟩)=_
   rw [adf,e,fL,j0,e',fL];exact tail bS f5 f6 f7 f8
  unfold ai at e2
  cases hd:dh p with
  | false=>
   rw [hd] at e2 oN;rw [wq] at oN;subst oN;refine fin _ ?_ ?_ ?_ ?_ (by simp only [go_sem,ya,ej,bn,ax,e0,e1,e2]<;>rfl)<;>simp only [go_sem,ya]
  | true=>
   rw [hd] at e2 oN
   cases neg with
   | false=>
    simp only [yY,uN] at oN;subst oN;refine fin _ ?_ ?_ ?_ ?_ (by simp only [go_sem,ya,ej,bn,ax,e0,e1,e2,yY]<;>rfl)<;>simp only [go_sem,ya]
   | true=>
    simp only [y5,vR] at oN;subst oN;refine fin _ ?_ ?_ ?_ ?_ (by simp only [go_sem,ya,ej,bn,ax,e0,e1,e2,y5,rO]<;>rfl)<;>simp only [go_sem,ya]
 unfold cg;have e0:=anE h s
 cases s with
 | nil=>exact key false [] (by simp) e0
 | cons b r=>
  by_cases hb:b=45
  ·subst hb;exact key true r (by simp at hl;omega) e0
  ·simp only [hb,y8];rw [yE (by simpa using hb)] at e0;exact key false (b::r) hl e0
end
def LN (z:Int):Bool:=decide (600<(aw z.natAbs).length)
def LG (r:Rat):Bool:=LN r.num||LN (r.den:Int)
def abz {m B k:Nat} (hB:B<=3*k) (hk:0<k) (h:m<2^B):(aw m).length<=k:=by
 obtain ⟨j,rfl⟩:∃j,k=j+1:=⟨k-1,by omega⟩;refine oc (yR h (xi (xA (by decide) hB) ?_));rw [uI];exact uH (by decide) _
def MM:∀f n:Nat,dI f n<=f
 | 0,_=>yv _
 | f+1,n=>by
  unfold dI
  cases ym n 0 with
  | true=>exact Nat.zero_le _
  | false=>have:=MM f (n/2);simp only [yI];omega
def akq {P:aR} {L:Lib} {f:bZ} (h:L.pure 175=some EO) {x:Nat} (hx:x<18446744073709551616):bA P L f 175 [uc x]=some (aa (dI 64 x:Nat)):=by
 rw [gX h];show (bif yF x 18446744073709551616 then _ else none)=_
 rw [jd hx];rfl
def ahg {V n top low:Nat} (hn:0<n) (h0:0<top) (ht:top<18446744073709551616) (hV:V=low+18446744073709551616^(n-1)*top) (hl:low<18446744073709551616^(n-1)):V<2^(64*(n-1)+dI 64 top):=by
 obtain ⟨l1,l2,l3⟩:=Ml h0 ht;have hle:=MM 64 top;have h1:top<2^dI 64 top:=by
  have e:(18446744073709551616:Nat)=2^dI 64 top*2^(64-dI 64 top):=by rw [<-wi,show dI 64 top+(64-dI 64 top)=64 by omega]
  rw [e] at l3;exact Nat.lt_of_mul_lt_mul_right l3
 have h3:=Nat.mul_le_mul_left (18446744073709551616^(n-1)) (show top+1<=2^dI 64 top from h1);rw [wi,uI]
 grind
section
variable {P:aR} {L:Lib}
def afl (K:Nat):2^K<=18446744073709551616^(K/64+1):=by
 rw [show (18446744073709551616:Nat)=2^64 from rfl,<-uI];exact xA (by decide) (by omega)
def alX (h:Tx P L) {v:AV} {z:Int} {K:Nat} (hv:b7 v z) (hz:Bd K z) (hK:K<=4000000000):∃B:Nat,ai P L 172 [v] (aa B)/\z.natAbs<2^B/\B<=K+64:=by
 obtain ⟨s,w,rfl,hn⟩:=hv;obtain ⟨l,u⟩:=hn.aU;obtain ⟨r,e1,hr⟩:=qF h.toNu hn;obtain ⟨ws,hw,g,Zp,hb⟩:=hr;have hl:ws.length<=K/64+1:=lR Zp hb (yR hz (afl K));unfold ai at e1 ⊢;by_cases h0:ws=[]
 ·subst h0;have jP:z.natAbs=0:=by rw [<-hb];rfl
  refine ⟨0,?_,by rw [jP];decide,by omega⟩
  rw [aK h.Xh];simp only [go_sem,ya,yc,JJ,aZ,bQ,bY,u.pu,u.ak,u.one,e1,hw.len,yM,show ((0:Nat):Int)=0 from rfl,yJ]
 ·have hp:0<ws.length:=List.length_pos_iff.2 h0;have nH:=Ik Zp h0;have Bg:=fy (show 0<18446744073709551616 by decide) g (ws.length-1);have ei:=hw.bt (i:=ws.length-1) (by omega);have dQ:=gZ (b:=18446744073709551616) (l:=ws) (ws.length-1);have Gi:=jZ (rN g (ws.length-1));rw [yQ,Nat.min_eq_left (by omega)] at Gi;rw [show ws.length-1+1=ws.length by omega,yD (yv _)] at dQ;generalize ws.getD (ws.length-1) 0=top at*
  have e2:=akq (P:=P) (f:=D P L) h.anr Bg;have hle:=MM 64 top;have V9:=ahg hp (Nat.pos_of_ne_zero nH) Bg dQ Gi;rw [hb] at V9;refine ⟨64*(ws.length-1)+dI 64 top,?_,V9,by omega⟩;rw [aK h.Xh]
  simp only [go_sem,ya,yc,JJ,aZ,bQ,bY,u.pu,u.ak,u.one,e1,hw.len,show ¬(ws.length:Int)=0 by omega,show (ws.length:Int)-1=((ws.length-1:Nat):Int) by omega,wrapN (n:=ws.length-1) (by omega),show (64:Int)*((ws.length-1:Nat):Int)=((64*(ws.length-1):Nat):Int) by omega,wrapN (n:=64*(ws.length-1)) (by omega),ei,e2,show ((64*(ws.length-1):Nat):Int)+((dI 64 top:Nat):Int)=((64*(ws.length-1)+dI 64 top:Nat):Int) from rfl,wrapN (n:=64*(ws.length-1)+dI 64 top) (by omega)]
def anI (h:Tx P L) {v:AV} {z:Int} {K:Nat} (hv:b7 v z) (hz:Bd K z) (hK:K<=4000000000):∃B:Nat,ai P L 172 [v] (aa B)/\z.natAbs<2^B/\B<=300000000000:=by
 obtain ⟨B,h1,h2,h3⟩:=alX h hv hz hK;exact ⟨B,h1,h2,by omega⟩
def adg (z:Int):(if fe [45] (aS z)=true then (aS z).drop 1 else aS z)=aw z.natAbs:=by
 by_cases h:z<0
 ·rw [lm h];rfl
 ·obtain ⟨m,rfl⟩:∃m:Nat,z=m:=⟨z.toNat,by omega⟩;rw [jQ];obtain ⟨b,r,hb,h1,_⟩:=By m;rw [wP,hb,LU h1];rfl
def Xn (h:Tx P L) {v:AV} {z:Int} {K:Nat} (hv:b7 v z) (hz:Bd K z) (hK:K<=4000000000):ai P L 151 [v] (.bool (LN z)):=by
 obtain ⟨B,e1,hB,hBb⟩:=anI h hv hz hK;have e2:=P7 h hv hz hK;obtain ⟨s,w,rfl,hn⟩:=hv;obtain ⟨l,u⟩:=hn.aU;have e3:bA P L (D P L) 153 [.str (aS z),.str [45]]=some (.str (aw z.natAbs)):=by
  rw [gX h.Ow,<-adg];show some (AV.str (bif fe [45] (aS z) then (aS z).drop 1 else aS z))=_
  cases fe [45] (aS z)<;>rfl
 unfold ai at e1 e2 ⊢;rw [aK h.ans];unfold LN;by_cases h1:1800<B
 ·simp only [go_sem,ya,yc,JE,aZ,bQ,bY,u.pu,u.ak,u.one,e1,show (1800:Int)<(B:Int) by omega,yJ,e2,e3];by_cases h2:600<(aw z.natAbs).length
  ·rw [xo h2,xo (by omega)]
  ·rw [xb h2,xb (by omega)]
 ·have h2:=abz (k:=600) (by omega) (by decide) hB;rw [xb (by omega)];simp only [go_sem,ya,yc,JE,aZ,bQ,bY,u.pu,u.ak,u.one,e1,show ¬(1800:Int)<(B:Int) by omega,yG]
def anJ (h:Tx P L) {v:AV} {a:Rat} {K:Nat} (hv:ez v a) (ka:Hq K a) (hK:K<=4000000000):ai P L 107 [v] (.bool (LG a)):=by
 obtain ⟨s1,w1,s2,w2,rfl,h1,h2⟩:=hv;have e1:=Xn h ⟨s1,w1,rfl,h1⟩ ka.1 hK;have e2:=Xn h ⟨s2,w2,rfl,h2⟩ ka.2 hK;obtain ⟨l1,u1⟩:=h1.aU;obtain ⟨l2,u2⟩:=h2.aU;unfold ai at e1 e2 ⊢;rw [aK h.ant];unfold LG
 cases hb:LN a.num with
 | true=>
  rw [hb] at e1;simp only [go_sem,ya,yc,Jy,aZ,bL,yj,bQ,bY,u1.pu,u1.ak,u1.one,u2.pu,u2.one,e1];rfl
 | false=>
  rw [hb] at e1;simp only [go_sem,ya,yc,Jy,aZ,bL,yj,show vJ 2 [aa s1,w1,aa s2,w2]=[aa s2,w2] from rfl,bQ,bY,u1.pu,u1.ak,u1.one,u2.pu,u2.ak,u2.one,e1,e2];rfl
end
def adh (p s:Nat):p*(s%1000000000)+p*1000000000*(s/1000000000)=p*s:=by
 rw [xf,<-Nat.mul_add,Nat.mod_add_div]
def Ev {l:List Int} {i:Nat} (h:l.length<=i):l.getD i 0=0:=by simp_all
def afm {a b out:List Int} {i c:Nat} {x y:Int} (hx:x=a.getD i 0) (hy:y=b.getD i 0) (h1:0<=x) (h2:0<=y) (hl:out.length=i) (hv:dv out+1000000000^i*c=dv (a.take i)+dv (b.take i)):
  dv (out++[(((x.toNat+y.toNat+c)%1000000000:Nat):Int)])+1000000000^(i+1)*((x.toNat+y.toNat+c)/1000000000)=dv (a.take (i+1))+dv (b.take (i+1)):=by
 rw [mz,mz,kC,hl,<-hx,<-hy];simp only [dv,wm,xz,yX,y9]
 have:=adh (1000000000^i) (x.toNat+y.toNat+c)
 grind
section
variable {P:aR} {L:Lib}
def akr (kP:Has P L 302 oH) {v w:AV} {a b:List Int} (hv:bg v a) (hw:bg w b) (ha:dg a) (hb:dg b) {N:Nat} (la:a.length<=N) (lb:b.length<=N) (lN:N<=20000000000):
  ∀k s,(∃(i c:Nat) (out:List Int),2*(N-i)+c=k/\out.length=i/\c<=1/\dg out/\dv out+1000000000^i*c=dv (a.take i)+dv (b.take i)/\i<=N+1/\(i<=N\/c=0)/\
    ((i=0/\aV [0,1,5,6,7] s=⟨[(0,v),(1,w),(5,.af),(6,aa c),(7,aa i)],[],0,0⟩)\/
    (0<i/\aV [0,1,5,6,7] s=⟨[(0,v),(1,w),(5,.ay 0 0 i),(6,aa c),(7,aa i)],[(0,.cells true true false 1 (out.map aa))],1,0⟩)))->
   ∃ex s',D P L (.loop [0,1,5,6,7] mD) s=some (ex,s')/\∃tm out,ex= .exit 0/\dg out/\dv out=dv a+dv b/\out.length<=N+1/\((out=[]/\ah tm 5= .af/\s'=⟨tm,[],0,0⟩)\/(0<out.length/\ah tm 5= .ay 0 0 out.length/\s'=⟨tm,[(0,.cells true true false 1 (out.map aa))],1,0⟩)):=by
 intro dq sq;generalize bz:aV [0,1,5,6,7] sq=s0;revert bz s0 sq dq;apply eb;rintro k s ⟨i,c,out,hk,hlen,hc,lf,aI,hi,CJ,hs⟩;have e1:=Of kP hv i;have e2:=Of kP hw i;unfold ai at e1 e2;have ga:=fN ha i;have gb:=fN hb i;by_cases po:i<a.length\/i<b.length\/0<c
 ·left
  obtain ⟨x,hx⟩:∃x,x=a.getD i 0:=⟨_,rfl⟩;obtain ⟨y,hy⟩:∃y,y=b.getD i 0:=⟨_,rfl⟩;rw [<-hx] at e1 ga;rw [<-hy] at e2 gb;have je:=afm (c:=c) hx hy ga.1 gb.1 hlen aI;obtain ⟨s0,qM⟩:∃s0,s0=x.toNat+y.toNat+c:=⟨_,rfl⟩;rw [<-qM] at je;have sM:x+y+(c:Int)=(s0:Int):=by omega
  have hs9:s0<2000000000:=by omega
  have hr:((s0:Nat):Int).tmod 1000000000=((s0%1000000000:Nat):Int):=by rw [xQ (by omega)];rfl
  have hq:((s0:Nat):Int).tdiv 1000000000=((s0/1000000000:Nat):Int):=by rw [xM (by omega)];rfl
  have jO:s0/1000000000<=1:=by omega
  have alY:2*(N-(i+1))+s0/1000000000<k:=by
   by_cases hm:i<N
   ·omega
   ·have:c=1:=by omega
    have q8:x=0:=by rw [hx];exact Ev (by omega)
    have iF:y=0:=by rw [hy];exact Ev (by omega)
    subst q8;subst iF
    have:s0=1:=by rw [qM,this];rfl
    subst this;omega
  have Cz:dg (out++[((s0%1000000000:Nat):Int)]):=fK.2 ⟨lf,jx.2 (by omega)⟩;have ND:(out++[((s0%1000000000:Nat):Int)]).length=i+1:=by simp [hlen]
  have anK:i+1<=N\/s0/1000000000=0:=by
   by_cases hm:i<N
   ·exact .inl hm
   ·right
    have:c=1:=by omega
    have q8:x=0:=by rw [hx];exact Ev (by omega)
    have iF:y=0:=by rw [hy];exact Ev (by omega)
    subst q8;subst iF
    have:s0=1:=by rw [qM,this];rfl
    subst this;rfl
  have fin:∃s',D P L mD s=some (.normal,s')/\aV [0,1,5,6,7] s'=⟨[(0,v),(1,w),(5,.ay 0 0 (i+1)),(6,aa (s0/1000000000:Nat)),(7,aa (i+1:Nat))],[(0,.cells true true false 1 ((out++[((s0%1000000000:Nat):Int)]).map aa))],1,0⟩:=by
   have three:((i:Int)<a.length)\/(¬(i:Int)<a.length/\(i:Int)<b.length)\/(¬(i:Int)<a.length/\¬(i:Int)<b.length/\(0:Int)<c):=by omega
   rcases three with t1 | ⟨t1,t2⟩ | ⟨t1,t2,t3⟩
   ·rcases hs with ⟨h0,rfl⟩ | ⟨h0,rfl⟩
    ·subst h0;have ji:out=[]:=yA hlen;subst ji
     simp only [go_sem,ya,yc,xk,yz,yt,yo,mD,hv.len,hv.ak,hw.ak,t1,e1,e2,wrap64 (n:=x+y) (by omega) (by omega),sM,wrap64 (n:=(s0:Int)) (by omega) (by omega),gC _ _ _ (show (1000000000:Int)≠0 by decide),e9 _ _ _ (show (1000000000:Int)≠0 by decide),hr,hq,wrap64 (n:=((s0/1000000000:Nat):Int)) (by omega) (by omega),js];refine ⟨_,rfl,?_⟩;rw [wrap64 (by omega) (by omega)];simp only [go_sem,ya,yc,aA,aB hv.pu,aE _ hv.pu,aB hw.pu,aE _ hw.pu]<;>rfl
    ·simp only [go_sem,ya,yc,yt,yo,mD,hv.len,hv.ak,hw.ak,t1,e1,e2,wrap64 (n:=x+y) (by omega) (by omega),sM,wrap64 (n:=(s0:Int)) (by omega) (by omega),gC _ _ _ (show (1000000000:Int)≠0 by decide),hr]
     rw [iq (ex:=false) (pu:=true) (cs:=out.map aa) (by simp only [go_sem,ya]) (by rw [xc,hlen,yo]) (by omega) (by omega) (by decide) (by simp only [go_sem])]
     simp only [go_sem,ya,yc,e9 _ _ _ (show (1000000000:Int)≠0 by decide),hq,wrap64 (n:=((s0/1000000000:Nat):Int)) (by omega) (by omega)];refine ⟨_,rfl,?_⟩;rw [wrap64 (by omega) (by omega),xx];simp only [go_sem,ya,yc,aA,aB hv.pu,aE _ hv.pu,aB hw.pu,aE _ hw.pu]<;>rfl
   ·rcases hs with ⟨h0,rfl⟩ | ⟨h0,rfl⟩
    ·subst h0;have ji:out=[]:=yA hlen;subst ji
     simp only [go_sem,ya,yc,xk,yz,yt,yo,mD,hv.len,hv.ak,hw.len,hw.ak,t1,t2,e1,e2,wrap64 (n:=x+y) (by omega) (by omega),sM,wrap64 (n:=(s0:Int)) (by omega) (by omega),gC _ _ _ (show (1000000000:Int)≠0 by decide),e9 _ _ _ (show (1000000000:Int)≠0 by decide),hr,hq,wrap64 (n:=((s0/1000000000:Nat):Int)) (by omega) (by omega),js];refine ⟨_,rfl,?_⟩;rw [wrap64 (by omega) (by omega)];simp only [go_sem,ya,yc,aA,aB hv.pu,aE _ hv.pu,aB hw.pu,aE _ hw.pu]<;>rfl
    ·simp only [go_sem,ya,yc,yt,yo,mD,hv.len,hv.ak,hw.len,hw.ak,t1,t2,e1,e2,wrap64 (n:=x+y) (by omega) (by omega),sM,wrap64 (n:=(s0:Int)) (by omega) (by omega),gC _ _ _ (show (1000000000:Int)≠0 by decide),hr]
     rw [iq (ex:=false) (pu:=true) (cs:=out.map aa) (by simp only [go_sem,ya]) (by rw [xc,hlen,yo]) (by omega) (by omega) (by decide) (by simp only [go_sem])]
     simp only [go_sem,ya,yc,e9 _ _ _ (show (1000000000:Int)≠0 by decide),hq,wrap64 (n:=((s0/1000000000:Nat):Int)) (by omega) (by omega)];refine ⟨_,rfl,?_⟩;rw [wrap64 (by omega) (by omega),xx];simp only [go_sem,ya,yc,aA,aB hv.pu,aE _ hv.pu,aB hw.pu,aE _ hw.pu]<;>rfl
   ·rcases hs with ⟨h0,rfl⟩ | ⟨h0,rfl⟩
    ·subst h0;have ji:out=[]:=yA hlen;subst ji
     simp only [go_sem,ya,yc,xk,yz,yt,yo,mD,hv.len,hv.ak,hw.len,hw.ak,t1,t2,t3,e1,e2,wrap64 (n:=x+y) (by omega) (by omega),sM,wrap64 (n:=(s0:Int)) (by omega) (by omega),gC _ _ _ (show (1000000000:Int)≠0 by decide),e9 _ _ _ (show (1000000000:Int)≠0 by decide),hr,hq,wrap64 (n:=((s0/1000000000:Nat):Int)) (by omega) (by omega),js];refine ⟨_,rfl,?_⟩;rw [wrap64 (by omega) (by omega)];simp only [go_sem,ya,yc,aA,aB hv.pu,aE _ hv.pu,aB hw.pu,aE _ hw.pu]<;>rfl
    ·simp only [go_sem,ya,yc,yt,yo,mD,hv.len,hv.ak,hw.len,hw.ak,t1,t2,t3,e1,e2,wrap64 (n:=x+y) (by omega) (by omega),sM,wrap64 (n:=(s0:Int)) (by omega) (by omega),gC _ _ _ (show (1000000000:Int)≠0 by decide),hr]
     rw [iq (ex:=false) (pu:=true) (cs:=out.map aa) (by simp only [go_sem,ya]) (by rw [xc,hlen,yo]) (by omega) (by omega) (by decide) (by simp only [go_sem])]
     simp only [go_sem,ya,yc,e9 _ _ _ (show (1000000000:Int)≠0 by decide),hq,wrap64 (n:=((s0/1000000000:Nat):Int)) (by omega) (by omega)];refine ⟨_,rfl,?_⟩;rw [wrap64 (by omega) (by omega),xx];simp only [go_sem,ya,yc,aA,aB hv.pu,aE _ hv.pu,aB hw.pu,aE _ hw.pu]<;>rfl
  obtain ⟨s',f1,f2⟩:=fin;exact ⟨s',_,f1,alY,i+1,s0/1000000000,_,rfl,ND,jO,Cz,je,by omega,anK,.inr ⟨by omega,f2⟩⟩
 ·right
  have jl:c=0:=by omega
  subst jl;rw [xz,yX,yD (by omega),yD (by omega)] at aI;rcases hs with ⟨h0,rfl⟩ | ⟨h0,rfl⟩
  ·simp only [go_sem,ya,mD,hv.len,hw.len,show ¬(i:Int)<a.length by omega,show ¬(i:Int)<b.length by omega,show ¬(0:Int)<((0:Nat):Int) by omega];exact ⟨_,_,rfl,by simp,_,out,rfl,lf,aI,by omega,.inl ⟨yA (by omega),by simp only [go_sem,ya],rfl⟩⟩
  ·simp only [go_sem,ya,mD,hv.len,hw.len,show ¬(i:Int)<a.length by omega,show ¬(i:Int)<b.length by omega,show ¬(0:Int)<((0:Nat):Int) by omega];exact ⟨_,_,rfl,by simp,_,out,rfl,lf,aI,by omega,.inr ⟨by omega,by rw [hlen];simp only [go_sem,ya],rfl⟩⟩
def anL (h:Has P L 295 FU) (kP:Has P L 302 oH) {v w:AV} {a b:List Int} (hv:bg v a) (hw:bg w b) (ha:dg a) (hb:dg b) (la:a.length<=20000000000) (lb:b.length<=20000000000):
  ∃r out,ai P L 295 [v,w] r/\bg (shut r) out/\dg out/\dv out=dv a+dv b/\out.length<=max a.length b.length+1:=by
 have gN:∃out,ai P L 295 [v,w] (if out=[] then .af else .cx false 1 out.length (out.map aa))/\dg out/\dv out=dv a+dv b/\out.length<=max a.length b.length+1:=by
  unfold ai;rw [aK h];simp only [go_sem,FU];generalize hq:D P L (.loop [0,1,5,6,7] mD) _=q;obtain ⟨ex,s,rfl,tm,out,rfl,hd,aI,hl,hs⟩:=bP hq (akr (P:=P) (L:=L) kP hv hw ha hb (N:=max a.length b.length) (by omega) (by omega) (by omega) (2*(max a.length b.length))) ⟨0,0,[],by omega,rfl,by omega,rfl,by simp [dv],by omega,.inr rfl,.inl ⟨rfl,by simp only [go_sem,ya,aA,aB hv.pu,aE _ hv.pu,aB hw.pu,aE _ hw.pu]<;>rfl⟩⟩
  refine ⟨out,?_,hd,aI,hl⟩;rcases hs with ⟨h0,h5,rfl⟩ | ⟨h0,h5,rfl⟩
  ·rw [yT h0];simp only [go_sem,aA,h5]
  ·rw [yE (by intro e;subst e;simp at h0)];simp only [go_sem,yc,aA,h5];exact Lw (zM _ _ _) (by simp) (by decide)
 obtain ⟨out,g1,g2,g3,g4⟩:=gN;refine ⟨_,out,g1,?_,g2,g3,g4⟩
 split
 ·rename_i e;subst e;exact zN
 ·exact ju false out
def OH (h:Has P L 296 oG) {v w:AV} {a b:List Int} (hv:bg v a) (hw:bg w b) (ha:dg a) (hb:dg b) (na:nz a) (nb:nz b) (la:a.length<=20000000000) (lb:b.length<=20000000000):
  ai P L 296 [v,w] (aa (df (dv a) (dv b))):=by
 unfold ai;rw [aK h];by_cases hlen:a.length=b.length
 ·have key:=gW (P:=P) (L:=L) (live:=[0,1,5]) (a:=Ab)
   (I:=fun k st=>∃j:Nat,st=⟨[(0,v),(1,w),(5,aa ((j:Int)-1))],[],0,0⟩/\j<=a.length/\j=k/\a.drop j=b.drop j)
   (Q:=fun ex st=>∃tm ct,st=⟨tm,[],ct,0⟩/\((ex= .ret/\ah tm 4=aa (df (dv a) (dv b)))\/(ex= .exit 0/\a=b))) ?_
  ·simp only [go_sem,ya,oG,hv.len,hw.len,show (a.length:Int)=b.length by omega];generalize hq:D P L (.loop [0,1,5] Ab) _=q;obtain ⟨ex,st,rfl,tm,ct,rfl,h2⟩:=bP hq (key a.length) ⟨a.length,by
    rw [wrap64 (by omega) (by omega)];rw [hlen]
    simp only [go_sem,ya,aA,aB hv.pu,aE _ hv.pu,aB hw.pu,aE _ hw.pu]<;>rfl,yv _,rfl,by rw [xa (yv _),xa (by omega)]⟩
   rcases h2 with ⟨rfl,h2⟩ | ⟨rfl,h2⟩
   ·simp only [go_sem,h2]
   ·simp only [go_sem,aA];subst h2;simp [df]
  ·rintro k st ⟨j,rfl,hj,rfl,he⟩
   cases j with
   | zero=>
    right
    simp only [go_sem,ya,Ab,show ¬(0:Int)<=((0:Nat):Int)-1 by omega];exact ⟨_,_,rfl,by simp,_,_,rfl,.inr ⟨rfl,by simpa using he⟩⟩
   | succ i=>
    have h1:i<a.length:=by omega
    have h2:i<b.length:=by omega
    have zb:=Uf ha hb h1 h2 he;have aO:=Uf hb ha h2 h1 he.symm;by_cases c1:a[i]<b[i]
    ·right
     simp only [go_sem,ya,Ab,show ((i+1:Nat):Int)-1=(i:Int) by omega,show (0:Int)<=(i:Int) by omega,hv.bt h1,hw.bt h2,c1];refine ⟨_,_,rfl,by simp,_,_,rfl,.inl ⟨rfl,?_⟩⟩;simp only [go_sem];unfold df;rw [yT (zb c1)]
    ·by_cases c2:b[i]<a[i]
     ·right
      simp only [go_sem,ya,Ab,show ((i+1:Nat):Int)-1=(i:Int) by omega,show (0:Int)<=(i:Int) by omega,hv.bt h1,hw.bt h2,c1,c2];refine ⟨_,_,rfl,by simp,_,_,rfl,.inl ⟨rfl,?_⟩⟩;simp only [go_sem];unfold df;rw [yE (by omega),yT (by omega)]
     ·left
      simp only [go_sem,ya,Ab,show ((i+1:Nat):Int)-1=(i:Int) by omega,show (0:Int)<=(i:Int) by omega,hv.bt h1,hw.bt h2,c1,c2];refine ⟨_,i,rfl,by omega,i,?_,by omega,rfl,?_⟩
      ·rw [wrap64 (by omega) (by omega)];simp only [go_sem,ya,aA,aB hv.pu,aE _ hv.pu,aB hw.pu,aE _ hw.pu]<;>rfl
      ·rw [yP h1,yP h2,he,show a[i]=b[i] by omega]
 ·by_cases c1:a.length<b.length
  ·have:=MW ha nb hb c1
   simp only [go_sem,ya,oG,hv.len,hw.len,show ¬(a.length:Int)=b.length by omega,show (a.length:Int)<b.length by omega];unfold df;rw [yT this]
  ·have:=MW hb na ha (show b.length<a.length by omega)
   simp only [go_sem,ya,oG,hv.len,hw.len,show ¬(a.length:Int)=b.length by omega,show ¬(a.length:Int)<b.length by omega];unfold df;rw [yE (by omega),yT this]
def afn {a b out:List Int} {i c:Nat} {x y z:Int} {c':Nat} (hx:x=a.getD i 0) (hy:y=b.getD i 0) (h1:0<=x) (h2:0<=y) (h3:0<=z) (hz:z=x-y-c+1000000000*c') (hl:out.length=i) (hv:dv out+dv (b.take i)=dv (a.take i)+1000000000^i*c):
  dv (out++[z])+dv (b.take (i+1))=dv (a.take (i+1))+1000000000^(i+1)*c':=by
 rw [mz,mz,kC,hl,<-hx,<-hy];simp only [dv,xz,yX,y9];have e:z.toNat+y.toNat+c=x.toNat+1000000000*c':=by omega
 grind
def aks (kP:Has P L 302 oH) {v w:AV} {a b:List Int} (hv:bg v a) (hw:bg w b) (ha:dg a) (hb:dg b) (la:a.length<=20000000000) (hle:dv b<=dv a) (Bl:b.length<=a.length):
  ∀k s,(∃(i c:Nat) (out:List Int),i+k=a.length/\out.length=i/\c<=1/\dg out/\dv out+dv (b.take i)=dv (a.take i)+1000000000^i*c/\
    ((i=0/\aV [0,1,5,6,7] s=⟨[(0,v),(1,w),(5,.af),(6,aa c),(7,aa i)],[],0,0⟩)\/
    (0<i/\aV [0,1,5,6,7] s=⟨[(0,v),(1,w),(5,.ay 0 0 i),(6,aa c),(7,aa i)],[(0,.cells true true false 1 (out.map aa))],1,0⟩)))->
   ∃ex s',D P L (.loop [0,1,5,6,7] oh) s=some (ex,s')/\∃tm out,ex= .exit 0/\dg out/\dv out+dv b=dv a/\out.length<=20000000000/\((out=[]/\ah tm 5= .af/\s'=⟨tm,[],0,0⟩)\/(0<out.length/\ah tm 5= .ay 0 0 out.length/\s'=⟨tm,[(0,.cells true true false 1 (out.map aa))],1,0⟩)):=by
 intro dq sq;generalize bz:aV [0,1,5,6,7] sq=s0;revert bz s0 sq dq;apply eb;rintro k s ⟨i,c,out,hk,hlen,hc,lf,aI,hs⟩;have e2:=Of kP hw i;unfold ai at e2;have ga:=fN ha i;have gb:=fN hb i;by_cases po:i<a.length
 ·left
  obtain ⟨x,hx⟩:∃x,x=a.getD i 0:=⟨_,rfl⟩;obtain ⟨y,hy⟩:∃y,y=b.getD i 0:=⟨_,rfl⟩;have Bn:a[i]=x:=by rw [hx];simp [List.getD_eq_getElem?_getD,List.getElem?_eq_getElem po]
  have e1:=hv.bt po;rw [Bn] at e1;rw [<-hx] at ga;rw [<-hy] at e2 gb;obtain ⟨z,c',hz,jO,jP,ku,Fx⟩:∃(z:Int) (c':Nat),z=x-y-c+1000000000*c'/\c'<=1/\0<=z/\z<1000000000/\((x-y-c<0/\c'=1)\/(¬x-y-c<0/\c'=0)):=by
   by_cases h:x-y-c<0
   ·exact ⟨x-y-c+1000000000,1,by omega,by omega,by omega,by omega,.inl ⟨h,rfl⟩⟩
   ·exact ⟨x-y-c,0,by omega,by omega,by omega,by omega,.inr ⟨h,rfl⟩⟩
  have je:=afn hx hy ga.1 gb.1 jP hz hlen aI;have Cz:dg (out++[z]):=fK.2 ⟨lf,jx.2 ⟨jP,ku⟩⟩;have ND:(out++[z]).length=i+1:=by simp [hlen]
  have fin:∃s',D P L oh s=some (.normal,s')/\aV [0,1,5,6,7] s'=⟨[(0,v),(1,w),(5,.ay 0 0 (i+1)),(6,aa c'),(7,aa (i+1:Nat))],[(0,.cells true true false 1 ((out++[z]).map aa))],1,0⟩:=by
   rcases Fx with ⟨gh,rfl⟩ | ⟨gh,rfl⟩
   ·have fF:x-y-c+1000000000=z:=by omega
    rcases hs with ⟨h0,rfl⟩ | ⟨h0,rfl⟩
    ·subst h0;have ji:out=[]:=yA hlen;subst ji
     simp only [go_sem,ya,yc,xk,yz,yt,yo,oh,hv.len,hw.ak,show ((0:Nat):Int)<a.length by omega,e1,e2,wrap64 (n:=x-y) (by omega) (by omega),wrap64 (n:=x-y-(c:Int)) (by omega) (by omega),gh,fF,wrap64 (n:=z) (by omega) (by omega),js];refine ⟨_,rfl,?_⟩;rw [wrap64 (by omega) (by omega)];simp only [go_sem,ya,yc,aA,aB hv.pu,aE _ hv.pu,aB hw.pu,aE _ hw.pu]<;>rfl
    ·simp only [go_sem,ya,yc,yt,yo,oh,hv.len,hw.ak,show (i:Int)<a.length by omega,e1,e2,wrap64 (n:=x-y) (by omega) (by omega),wrap64 (n:=x-y-(c:Int)) (by omega) (by omega),gh,fF,wrap64 (n:=z) (by omega) (by omega)]
     rw [iq (ex:=false) (pu:=true) (cs:=out.map aa) (by simp only [go_sem,ya]) (by rw [xc,hlen,yo]) (by omega) (by omega) (by decide) (by simp only [go_sem])];simp only [go_sem,ya,yc];refine ⟨_,rfl,?_⟩;rw [wrap64 (by omega) (by omega),xx];simp only [go_sem,ya,yc,aA,aB hv.pu,aE _ hv.pu,aB hw.pu,aE _ hw.pu]<;>rfl
   ·have fF:x-y-c=z:=by omega
    have gh:¬z<0:=by omega
    rcases hs with ⟨h0,rfl⟩ | ⟨h0,rfl⟩
    ·subst h0;have ji:out=[]:=yA hlen;subst ji
     simp only [go_sem,ya,yc,xk,yz,yt,yo,oh,hv.len,hw.ak,show ((0:Nat):Int)<a.length by omega,e1,e2,wrap64 (n:=x-y) (by omega) (by omega),fF,wrap64 (n:=z) (by omega) (by omega),gh,js];refine ⟨_,rfl,?_⟩;rw [wrap64 (by omega) (by omega)];simp only [go_sem,ya,yc,aA,aB hv.pu,aE _ hv.pu,aB hw.pu,aE _ hw.pu]<;>rfl
    ·simp only [go_sem,ya,yc,yt,yo,oh,hv.len,hw.ak,show (i:Int)<a.length by omega,e1,e2,wrap64 (n:=x-y) (by omega) (by omega),fF,wrap64 (n:=z) (by omega) (by omega),gh]
     rw [iq (ex:=false) (pu:=true) (cs:=out.map aa) (by simp only [go_sem,ya]) (by rw [xc,hlen,yo]) (by omega) (by omega) (by decide) (by simp only [go_sem])];simp only [go_sem,ya,yc];refine ⟨_,rfl,?_⟩;rw [wrap64 (by omega) (by omega),xx];simp only [go_sem,ya,yc,aA,aB hv.pu,aE _ hv.pu,aB hw.pu,aE _ hw.pu]<;>rfl
  obtain ⟨s',f1,f2⟩:=fin;exact ⟨s',k-1,f1,by omega,i+1,c',_,by omega,ND,jO,Cz,je,.inr ⟨by omega,f2⟩⟩
 ·right
  have Wa:dv out+dv b=dv a:=by
   rw [yD (by omega),yD (by omega)] at aI;have aO:=iy lf;rw [hlen] at aO;rcases (show c=0\/c=1 by omega) with rfl | rfl
   ·omega
   ·omega
  rcases hs with ⟨h0,rfl⟩ | ⟨h0,rfl⟩
  ·simp only [go_sem,ya,oh,hv.len,show ¬(i:Int)<a.length by omega];exact ⟨_,_,rfl,by simp,_,out,rfl,lf,Wa,by omega,.inl ⟨yA (by omega),by simp only [go_sem,ya],rfl⟩⟩
  ·simp only [go_sem,ya,oh,hv.len,show ¬(i:Int)<a.length by omega];exact ⟨_,_,rfl,by simp,_,out,rfl,lf,Wa,by omega,.inr ⟨by omega,by rw [hlen];simp only [go_sem,ya],rfl⟩⟩
def Xo (h:Has P L 297 FV) (kP:Has P L 302 oH) (cC:Has P L 300 jI) {v w:AV} {a b:List Int} (hv:bg v a) (hw:bg w b) (ha:dg a) (hb:dg b) (na:nz a) (nb:nz b) (la:a.length<=20000000000) (hle:dv b<=dv a):
  ∃r out,ai P L 297 [v,w] r/\bg r out/\shut r=r/\dg out/\nz out/\dv out+dv b=dv a:=by
 have Bl:b.length<=a.length:=by
  by_cases h:a.length<b.length
  ·have:=MW ha nb hb h;omega
  ·omega
 unfold ai;rw [aK h];simp only [go_sem,FV];generalize hq:D P L (.loop [0,1,5,6,7] oh) _=q;obtain ⟨ex,s,rfl,tm,out,rfl,hd,aI,hl,hs⟩:=bP hq (aks (P:=P) (L:=L) kP hv hw ha hb la hle Bl a.length) ⟨0,0,[],by omega,rfl,by omega,rfl,by simp [dv],.inl ⟨rfl,by simp only [go_sem,ya,aA,aB hv.pu,aE _ hv.pu,aB hw.pu,aE _ hw.pu]<;>rfl⟩⟩
 have lY:=ju false out;rcases hs with ⟨h0,h5,rfl⟩ | ⟨h0,h5,rfl⟩
 ·subst h0;obtain ⟨r,e1,hr,iG⟩:=sI cC (v:= .af) (l:=[]) zN (by simp);refine ⟨r,dn [],?_,hr,iG,rfl,rfl,by rw [pH];exact aI⟩
  simp only [go_sem,aA,h5,e1,iG,hr.eT]
 ·obtain ⟨r,e1,hr,iG⟩:=sI cC lY hl;refine ⟨r,dn out,?_,hr,iG,rF hd,BG out,by rw [pH];exact aI⟩
  have fG:∀hp:Hp,jK 0 out.length (some (false,1,out.map aa,hp))=some (.aq false out.length (out.map aa),hp):=fun hp=>ll false (by simp) (by decide)
  simp only [go_sem,yc,aA,h5,fG,e1,iG,hr.eT]
end
def zC {hp:Hp} {ct id o:Nat} {v:Int} {ex:Bool} {l:List Int} (h:o<l.length):ie hp ct id o 1 [.int .i64 v] (some (.cells true true ex 1 (l.map aa)))=some (.av [],a6 hp id (.cells true true ex 1 ((l.set o v).map aa)),ct):=by
 rw [B6 (by rfl) (by simp;omega) (by rfl)]
 have:over o [AV.int .i64 v] (l.map aa)=(l.set o v).map aa:=by
  simp only [over,yH,yM,yj];rw [yaT,uj,yT (by simpa using h)]
  simp
 rw [this];rfl
def oC {l:List Int} {o:Nat} (h:o<l.length):vJ o (l.map aa)=AV.int .i64 (l.getD o 0)::vJ (o+1) (l.map aa):=by
 rw [yP (by simpa using h)]
 grind
def nI {v:AV} {l:List Int} (hv:bg v l) {i:Nat} (h:i<l.length):iv 1 i v=some (.bR (.int .i64 (l.getD i 0)::(l.map aa).drop (i+1))):=by
 rw [hv.bt h]
 grind
def afo {o x y c:Int} (ho:0<=o/\o<1000000000) (hx:0<=x/\x<1000000000) (hy:0<=y/\y<1000000000) (hc:0<=c/\c<1000000000):
  (0<=x*y/\x*y<=999999998000000001)/\0<=o+x*y+c/\o+x*y+c<1000000000000000000:=by
 have h1:=Int.mul_nonneg hx.1 hy.1;have h2:=Int.mul_le_mul (show x<=999999999 by omega) (show y<=999999999 by omega) hy.1 (by decide);omega
section
variable {P:aR} {L:Lib}
def akt {v w:AV} {a b:List Int} (hv:bg v a) (hw:bg w b) (ha:dg a) (hb:dg b) (la:a.length<=20000000000) (lb:b.length<=20000000000) {n i:Nat} (hn:n=a.length+b.length) (hi:i<a.length) {out0:List Int}:
  ∀k s,(∃(j:Nat) (c:Int) (out:List Int),aV [0,1,5,6,7,8] s=⟨[(0,v),(1,w),(5,.ay 0 0 n),(6,aa i),(7,aa c),(8,aa j)],[(0,.cells true true true 1 (out.map aa))],1,0⟩/\j+k=b.length/\out.length=n/\dg out/\(0<=c/\c<1000000000)/\
    dv out+1000000000^i*1000000000^j*c.toNat=dv out0+1000000000^i*((a.getD i 0).toNat*dv (b.take j))/\(∀m,i+b.length<=m->out.getD m 0=out0.getD m 0))->
   ∃ex s',D P L (.loop [0,1,5,6,7,8] E5) s=some (ex,s')/\∃tm c out,s'=⟨tm,[(0,.cells true true true 1 (out.map aa))],1,0⟩/\ex= .exit 2/\ah tm 0=v/\ah tm 1=w/\ah tm 5= .ay 0 0 n/\ah tm 6=aa i/\ah tm 7=aa c/\out.length=n/\dg out/\(0<=c/\c<1000000000)/\
    dv out+1000000000^i*1000000000^b.length*c.toNat=dv out0+1000000000^i*((a.getD i 0).toNat*dv b)/\(∀m,i+b.length<=m->out.getD m 0=out0.getD m 0):=by
 intro dq sq;generalize bz:aV [0,1,5,6,7,8] sq=s0;revert bz s0 sq dq;apply eb;rintro k s ⟨j,c,out,rfl,hk,hlen,hd,hc,aI,eY⟩;by_cases hj:j<b.length
 ·left
  obtain ⟨x,hx⟩:∃x,x=a.getD i 0:=⟨_,rfl⟩;obtain ⟨y,hy⟩:∃y,y=b.getD j 0:=⟨_,rfl⟩;obtain ⟨o,ho⟩:∃o,o=out.getD (i+j) 0:=⟨_,rfl⟩;have gx:=fN ha i;have gy:=fN hb j;have kZ:=fN hd (i+j);rw [<-hx] at gx;rw [<-hy] at gy;rw [<-ho] at kZ;obtain ⟨p1,p2,p3⟩:=afo kZ gx gy hc;obtain ⟨t,ht⟩:∃t:Nat,o+x*y+c=t:=⟨(o+x*y+c).toNat,by omega⟩;have hr:((t:Nat):Int).tmod 1000000000=((t%1000000000:Nat):Int):=by rw [xQ (by omega)];rfl
  have hq:((t:Nat):Int).tdiv 1000000000=((t/1000000000:Nat):Int):=by rw [xM (by omega)];rfl
  have e1:=nI hv hi;have e2:=nI hw hj;rw [<-hx] at e1;rw [<-hy] at e2;have e3:=oC (l:=out) (o:=i+j) (by omega);rw [<-ho] at e3;have qX:t=o.toNat+x.toNat*y.toNat+c.toNat:=by
   have:((x.toNat*y.toNat:Nat):Int)=x*y:=by rw [vv,tI gx.1,tI gy.1]
   omega
  have a6:=MX (l:=out) (j:=i+j) (x:=((t%1000000000:Nat):Int)) (by omega);rw [<-ho,wm,wi] at a6;have je:=aed (Y:=dv (b.take j)) qX a6 (by rw [hx];exact aI)
  simp only [go_sem,ya,yo,E5,hw.len,show (j:Int)<b.length by omega,wrapN (n:=i+j) (by omega),show (i:Int)+(j:Int)=((i+j:Nat):Int) from rfl,cK 0 0 (show i+j<n by omega),yj,e3,e1,e2,wrap64 (n:=x*y) (by omega) (by omega),wrap64 (n:=o+x*y) (by omega) (by omega),ht,wrapN (n:=t) (by omega),gC _ _ _ (show (1000000000:Int)≠0 by decide),e9 _ _ _ (show (1000000000:Int)≠0 by decide),hr,hq,wrapN (n:=t/1000000000) (by omega),zC (l:=out) (o:=i+j) (by omega)];refine ⟨_,k-1,rfl,by omega,j+1,((t/1000000000:Nat):Int),out.set (i+j) ((t%1000000000:Nat):Int),?_,by omega,by simp [hlen],IY hd (by omega),by omega,?_,fun m hm=>?_⟩
  ·rw [wrap64 (by omega) (by omega)];simp only [go_sem,ya,yc,aA,aB hv.pu,aE _ hv.pu,aB hw.pu,aE _ hw.pu]<;>rfl
  ·rw [wm,mz,y9,<-hx,<-hy];exact je
  ·rw [Ta (by omega)];exact eY m hm
 ·right
  have:j=b.length:=by omega
  subst this;rw [xy] at aI;simp only [go_sem,ya,E5,hw.len,show ¬(b.length:Int)<b.length by omega];exact ⟨_,_,rfl,by simp,_,c,out,rfl,rfl,by simp only [go_sem,ya],by simp only [go_sem,ya],by simp only [go_sem,ya],by simp only [go_sem,ya],by simp only [go_sem,ya],hlen,hd,hc,aI,eY⟩
end
def Lz (n:Nat):(yC n [AV.int .i64 0]).flatten=(yC n (0:Int)).map aa:=by simp_all
def ahh (b:Bool):F3 true (some b)=some (.bool (!b)):=by cases b<;>rfl
def RI (n m:Nat):(yC n (0:Int)).getD m 0=0:=by grind
section
variable {P:aR} {L:Lib}
def aku {v w:AV} {a b:List Int} (hv:bg v a) (hw:bg w b) (ha:dg a) (hb:dg b) (la:a.length<=20000000000) (lb:b.length<=20000000000) {n:Nat} (hn:n=a.length+b.length):
  ∀k s,(∃(i:Nat) (out:List Int),aV [0,1,5,6] s=⟨[(0,v),(1,w),(5,.ay 0 0 n),(6,aa i)],[(0,.cells true true true 1 (out.map aa))],1,0⟩/\i+k=a.length/\out.length=n/\dg out/\dv out=dv (a.take i)*dv b/\(∀m,i+b.length<=m->out.getD m 0=0))->
   ∃ex s',D P L (.loop [0,1,5,6] E6) s=some (ex,s')/\∃tm out,s'=⟨tm,[(0,.cells true true true 1 (out.map aa))],1,0⟩/\ex= .exit 0/\ah tm 5= .ay 0 0 n/\out.length=n/\dg out/\dv out=dv a*dv b:=by
 intro dq sq;generalize bz:aV [0,1,5,6] sq=s0;revert bz s0 sq dq;apply eb;rintro k s ⟨i,out,rfl,hk,hlen,hd,aI,eY⟩;by_cases hi:i<a.length
 ·left
  simp only [go_sem,ya,E6,hv.len,show (i:Int)<a.length by omega];generalize hq:D P L (.loop [0,1,5,6,7,8] E5) _=q;obtain ⟨ex,s,rfl,tm,c,oK,rfl,rfl,t0,t1,t5,t6,t7,NA,nd,hc,NB,F7⟩:=bP hq (akt (P:=P) (L:=L) hv hw ha hb la lb hn hi (out0:=out) b.length) ⟨0,0,out,by simp only [go_sem,ya,yc,aA,aB hv.pu,aE _ hv.pu,aB hw.pu,aE _ hw.pu]<;>rfl,by omega,hlen,hd,by omega,by simp [dv],fun m _=>rfl⟩
  have hz:oK.getD (i+b.length) 0=0:=by rw [F7 _ (yv _),eY _ (yv _)]
  have e3:=oC (l:=oK) (o:=i+b.length) (by omega);rw [hz] at e3;have a6:=MX (l:=oK) (j:=i+b.length) (x:=c) (by omega);rw [hz,wi] at a6
  simp only [go_sem,ya,yo,aA,t0,t1,t5,t6,t7,hw.len,aB hv.pu,aE _ hv.pu,aB hw.pu,aE _ hw.pu,wrapN (n:=i+b.length) (by omega),show (i:Int)+(b.length:Int)=((i+b.length:Nat):Int) from rfl,cK 0 0 (show i+b.length<n by omega),yj,e3,Int.zero_add,wrap64 (n:=c) (by omega) (by omega),zC (l:=oK) (o:=i+b.length) (by omega)];refine ⟨_,k-1,rfl,by omega,i+1,oK.set (i+b.length) c,?_,by omega,by simp [NA],IY nd hc,?_,fun m hm=>?_⟩
  ·rw [wrap64 (by omega) (by omega)];simp only [go_sem,ya,yc,aA,aB hv.pu,aE _ hv.pu,aB hw.pu,aE _ hw.pu]<;>rfl
  ·rw [mz,Nat.add_mul,<-aI,xf];simp only [Int.toNat_zero,xz,yX] at a6;rw [a6];exact NB
  ·rw [Ta (by omega),F7 m (by omega),eY m (by omega)]
 ·right
  have:i=a.length:=by omega
  subst this;rw [xy] at aI;simp only [go_sem,ya,E6,hv.len,show ¬(a.length:Int)<a.length by omega];exact ⟨_,_,rfl,by simp,_,out,rfl,rfl,by simp only [go_sem,ya],hlen,hd,aI⟩
def OI (h:Has P L 293 sC) (cC:Has P L 300 jI) {v w:AV} {a b:List Int} (hv:bg v a) (hw:bg w b) (ha:dg a) (hb:dg b) (la:a.length<=8000000000) (lb:b.length<=8000000000):
  ∃r out,ai P L 293 [v,w] r/\bg r out/\shut r=r/\dg out/\nz out/\dv out=dv a*dv b:=by
 obtain ⟨n,hn⟩:∃n,n=a.length+b.length:=⟨_,rfl⟩;have b6:∀ct:Nat,qw ct 1 8 [.int .i64 0] (some n) (some n)=some (.ay ct 0 n,.cells true true true 1 ((yC n (0:Int)).map aa)):=fun ct=>by
  rw [E8 (sz:=1) (by omega) (by omega) (by rfl) (by rfl),Lz];rfl
 unfold ai;rw [aK h]
 simp only [go_sem,ya,yc,sC,hv.len,hw.len,wrapN (n:=n) (by omega),show (a.length:Int)+(b.length:Int)=((a.length+b.length:Nat):Int) from rfl,<-hn,b6];generalize hq:D P L (.loop [0,1,5,6] E6) _=q;obtain ⟨ex,s,rfl,tm,out,rfl,rfl,t5,hlen,hd,aI⟩:=bP hq (aku (P:=P) (L:=L) hv hw ha hb (by omega) (by omega) hn a.length) ⟨0,yC n 0,by simp only [go_sem,ya,yc,aA,aB hv.pu,aE _ hv.pu,aB hw.pu,aE _ hw.pu]<;>rfl,by omega,by simp,Tc n,by rw [Tb];simp [dv],fun m _=>RI n m⟩
 have lY:=ju true out;rw [hlen] at lY;obtain ⟨r,e1,hr,iG⟩:=sI cC lY (by omega);refine ⟨r,dn out,?_,hr,iG,rF hd,BG out,by rw [pH];exact aI⟩
 have fG:∀hp:Hp,jK 0 n (some (true,1,out.map aa,hp))=some (.aq true n (out.map aa),hp):=fun hp=>ll true (by simp [hlen]) (by decide)
 simp only [go_sem,yc,aA,t5,fG,e1,iG,hr.eT]
def OJ (h:Has P L 278 JM) (km:Has P L 293 sC) (iQ:Has P L 294 sD) (cC:Has P L 300 jI) {v w:AV} {n m:Int} {K:Nat} (hK:K<=8000000000) (hv:iZ v n) (hw:iZ w m) (hn:n.natAbs<1000000000^K) (hm:m.natAbs<1000000000^K):
  ∃r,ai P L 278 [v,w] r/\iZ r (n*m):=by
 obtain ⟨x,a,rfl,hx,ha,na,va⟩:=hv;obtain ⟨y,b,rfl,hy,hb,nb,vb⟩:=hw;have la:=xi (hJ ha na (by rw [va];exact hn)) hK
 have lb:=xi (hJ hb nb (by rw [vb];exact hm)) hK
 obtain ⟨z,out,e1,hz,iG,hd,zp,aI⟩:=OI km cC hx hy ha hb la lb;have lo:out.length<=20000000000:=by
  refine hJ hd zp ?_;rw [aI];have h1:=iy ha;have h2:=iy hb;have h3:dv a*dv b<1000000000^a.length*1000000000^b.length:=Nat.mul_lt_mul'' h1 h2;rw [<-wi] at h3;have hk:∀K,a.length+b.length<=K->dv a*dv b<1000000000^K:=fun K h=>yR h3 (xA (by decide) h)
  exact hk 20000000000 (by omega)
 obtain ⟨r,e2,hr⟩:=qC iQ cC (!(decide (n<0)==decide (m<0))) hz hd lo;have e:b5 (!(decide (n<0)==decide (m<0))) (dv out)=n*m:=by
  rw [aI,va,vb];have hnm:((n.natAbs*m.natAbs:Nat):Int)=(n.natAbs:Int)*m.natAbs:=vv _ _;unfold b5;by_cases h0:n<0<;>by_cases h1:m<0<;>simp only [h0,h1,yJ,yG,ub,y5,yB,y8,hnm]
  ·rw [show (n.natAbs:Int)= -n by omega,show (m.natAbs:Int)= -m by omega,Int.neg_mul_neg]
  ·rw [show (true==false)=false from rfl,yY,yT rfl,show (n.natAbs:Int)= -n by omega,show (m.natAbs:Int)=m by omega,Int.neg_mul,ybj]
  ·rw [show (false==true)=false from rfl,yY,yT rfl,show (n.natAbs:Int)=n by omega,show (m.natAbs:Int)= -m by omega,Int.mul_neg,ybj]
  ·rw [show (n.natAbs:Int)=n by omega,show (m.natAbs:Int)=m by omega]
 rw [e] at hr;obtain ⟨w2,l2,rfl,fJ,ig,gP,qD⟩:=hr;refine ⟨_,?_,w2,l2,rfl,fJ,ig,gP,qD⟩;unfold ai at e1 e2 ⊢;rw [aK h];simp only [go_sem,ya,yc,JM,aZ,hx.pu,hx.ak,hx.one,hy.pu,hy.ak,hy.one,hz.ak,hz.shut,fJ.pu,fJ.one,bL,yj,cB,e1,mL,ahh,e2,eQ,bN];rcases fJ with ⟨rfl,_⟩ | ⟨e,rfl⟩<;>rfl
end
end VE
