import Derived.Test.YtfohkkaphnfgoabGreatDoorTao
import Derived.Test.YtfohkkaphnfgoabGreatDoorTai
import Derived.Test.YtfohkkaphnfgoabGreatDoorTak
import Derived.Test.YtfohkkaphnfgoabGreatDoorTan
import Derived.Test.YtfohkkaphnfgoabGreatDoorTal
import Derived.Test.YtfohkkaphnfgoabGreatDoorTah
set_option linter.all false
set_option maxRecDepth 100000
open Bool renaming and_eq_true→yf,and_self→wB,false_and→wA,false_eq_true→yC,false_or→wY,not_false→yG,not_true→yK,true_and→wh,true_or→uk
open Go renaming DataW→xq,Field→uz,FloatKind→vD,IntKind→yZ,MemPlace→xX,Program→y9,TypeId→yx,Value→ye,World→yg
open Int renaming natAbs_natCast→wS,tdiv_eq_ediv_of_nonneg→xS,tmod_eq_emod_of_nonneg→xB,toNat_natCast→xN,toNat_of_nonneg→tN
open List renaming append_assoc→xC,append_nil→wC,drop→xo,drop_eq_getElem_cons→yJ,drop_eq_nil_of_le→yP,drop_zero→yi,eq_nil_of_length_eq_zero→yD,flatMap_def→yae,length_append→yW,length_cons→yu,length_drop→xY,length_map→yY,length_nil→yA,length_take→yQ,mapM_cons→vK,map_append→xy,map_cons→yS,map_set→ybb,mem_cons→wg,mem_cons_of_mem→wv,mem_cons_self→vj,mem_map→vc,set_eq_take_append_cons_drop→uy,take_length→xM,take_of_length_le→yE
open Nat renaming add_zero→yV,beq→yt,ble→yB,blt→yI,eq_of_beq_eq_true→yk,gcd→wo,le_of_ble_eq_true→yr,le_refl→yv,le_trans→xj,lt_of_lt_of_le→yN,mul_one→yj,mul_zero→xE,pow_add→wj,pow_le_pow_left→uh,pow_le_pow_right→xA,pow_mul→uO,pow_succ→xg,reduceAdd→yb,reduceEqDiff→ya,reduceLT→yq,reduceLeDiff→yh,reduceMul→xt,zero_add→yd
open Option renaming bind_eq_bind→wX,bind_some→xI,map_eq_some_iff→xZ,pure_def→wz
open Option.some renaming injEq→yc
open Prod.mk renaming injEq→ym
namespace VE
section
open Go (IntKind)
def ahE:∀(cs:List AV) (l:List Nat),pX cs=some l->cs=l.map uc/\lo 18446744073709551616 l:=by
 intro cs
 induction cs with
 | nil=>
  intro l h;simp only [pX,yc] at h;subst h;exact ⟨rfl,fun _ h=>by cases h⟩
 | cons c cs ih=>
  intro l h;unfold pX at h
  split at h
  ·grind
  ·rename_i d r nh;cases nh
   cases hb:yI d 18446744073709551616 with
   | false=>rw [hb] at h;cases h
   | true=>
    rw [hb] at h
    cases hw:pX cs with
    | none=>rw [hw] at h;cases h
    | some l'=>
     rw [hw] at h;cases h;obtain ⟨k1,k2⟩:=ih l' hw;refine ⟨by rw [k1];rfl,fun x hx=>?_⟩
     rcases wg.1 hx with rfl | hx
     ·simp_all
     ·exact k2 x hx
  ·cases h
def XZ:∀{l:List Nat},Ah l=true->gm l
 | [],h=>by cases h
 | [a],h=>by
  have h0:a≠0:=fun e=>by subst e;cases h
  exact Dt h0 []
 | a::b::r,h=>by
  have h1:dM (b::r)=b::r:=XZ (l:=b::r) h;show dM (a::(b::r))=_
  simp only [dM] at h1 ⊢;rw [h1]
section
variable {P:aI} {L:Lib}
def anE (h:Has P L 99 CO) (S6:L.pure 135=some HY) {s:Int} (hs:Ac s=true):bN P L (D P L) 99 [.agg [aa s,.ab]]=some (.str (aW s)):=by
 have e1:bN P L (D P L) 135 [aa s]=some (.str (aW s)):=by
  rw [iM S6];show (bif Ac s then some (AV.str (aW s)) else none)=_
  rw [hs];rfl
 rw [au h];simp only [go_sem,ya,yb,CO,aG,aZ,yd,bX,fV,dK,e1]
end
section
open Go
variable {O:bq}
def ajk (hO:ej O) (hN:Nu O.prog O.aT) (S6:O.aT.pure 135=some HY) (Cz:O.aT.pure 138=some zu) (sK:O.aT.pure 139=some zN) (Fs:Has O.prog O.aT 99 CO) {fn:Func} {c:Code} (kq:O.P.funcs[O.ah 99]? =some fn) (iJ:fn.body=some c) (NX:fn.ntmps=69)
  (S3:Ns 5 c) (ht:Qs O.P c):∀ak r,LI ak=some r->ez O 99 ak r:=by
 intro ak r h;unfold LI at h
 split at h
 ·rename_i s
  cases hs:Ac s with
  | false=>rw [hs] at h;cases h
  | true=>
   rw [hs] at h;cases h;obtain ⟨k,hk⟩:=aa7 (anE (P:=O.prog) (L:=O.aT) Fs S6 hs);exact sound hO hk
 ·rename_i s e n cs
  cases hw:pX cs with
  | none=>rw [hw] at h;cases h
  | some l=>
   rw [hw] at h;simp only at h
   cases hb:(yt l.length n&&(yB n 4000000000&&(Ah l&&yB 9223372036854775808 (qD l)))) with
   | false=>rw [hb] at h;cases h
   | true=>
    rw [hb] at h;simp only [yf] at hb;obtain ⟨h1,h2,h3,h4⟩:=hb;obtain ⟨rfl,bi⟩:=ahE cs l hw;have h1:=yk h1;subst h1;have h2:=yr h2;have h4:=yr h4;have h3:=XZ h3;rw [Qq] at h4 h;have a6:=lC bi;have key:=fun (s z:Int) (hz:z.natAbs=bv 18446744073709551616 l) (hs:s=if z<0 then -1 else 1)=>
     alp hO hN Cz sK Fs.code kq iJ NX S3 ht (s:=s) (z:=z) (e:=e) (l:=l) (.inr ⟨e,l,rfl,bi,h3,hz.symm,hs,by omega⟩) (by omega) h2 (by omega)
    split at h
    ·cases h
     have:=key 1 (bv 18446744073709551616 l:Nat) (by simp) (by rw [yF (by omega)])
     exact this
    ·cases h
     have:=key (-1) (-(bv 18446744073709551616 l:Nat):Int) (by simp) (by rw [yL (by omega)])
     rw [lZ (by omega)] at this
     grind
    ·cases h
 ·cases h
end
end
section
open Go
def Q2 (L:Lib) (n:Nat) (sp:List AV->Option AV):Lib:=⟨fun i=>bif yt i n then some sp else L.pure i,L.heap⟩
def ajl {O:bq} (hO:ej O) {n:Nat} {sp:List AV->Option AV} (h:∀ak r,sp ak=some r->ez O n ak r):ej (O.rO (Q2 O.aT n sp)) where
 hint:=hO.hint
 mixed:=hO.mixed
 prog:=hO.prog
 aT i Oh ak r hi hs:=by
  show ez O i ak r
  simp only [Q2] at hi
  cases hb:yt i n with
  | true=>
   simp_all
  | false=>
   rw [hb] at hi;exact hO.aT i Oh ak r hi hs
 Ek i Oh hp ct ak v an a7 hi hs:=XJ (hO.Ek i Oh hp ct ak v an a7 hi hs)
end
section
open Go
section
variable {H:Type} {enc:yx×ye->H} {P:y9} {w:yg} {base:Nat} {sp:Nat->Bool} {held:Bool}
def mapM_mem {α β:Type} {f:α->Option β}:∀{l:List α} {r:List β},l.mapM f=some r->∀y,y∈r->∃x,f x=some y
 | [],r,h,y,hy=>by simp only [List.mapM_nil,wz,yc] at h;subst h;cases hy
 | x::l,r,h,y,hy=>by
  rw [vK] at h
  cases h1:f x with
  | none=>simp [h1] at h
  | some z=>
   cases h2:l.mapM f with
   | none=>simp [h1,h2] at h
   | some zs=>
    simp only [h1,h2,xI,wX,wz,yc] at h;subst h;rcases wg.1 hy with rfl | hy
    ·exact ⟨x,h1⟩
    ·exact mapM_mem h2 y hy
def Rd (enc:yx×ye->H) (P:y9) (w:yg) (base:Nat) (sp:Nat->Bool) (held:Bool) (t:yx) (d:xq H):Prop:=∃bt cs ps,DataW.trod enc P w base sp held bt t cs=some (d,ps)
def aqg {t:yx} {k:yZ} {d:xq H} {n:Nat} (ht:P.underlying t=some (.int k)) (h:Rd enc P w base sp held t d):∃z,cz P (n+1) t d=[.int k z]/\(Lit.int k z).wf=true:=by
 obtain ⟨bt,cs,ps,h⟩:=h
 cases bt with
 | zero=>simp [DataW.trod] at h
 | succ bt=>
  unfold DataW.trod at h
  split at h
  all_goals first
   | (rename_i hu;rw [ht] at hu;cases hu;done)
   | skip
  ·rename_i k1 k2 z hu;rw [ht] at hu;injection hu with hu
   injection hu with hu
   subst hu
   split at h
   ·rename_i hk;simp only [yc,ym] at h;obtain ⟨rfl,rfl⟩:=h;exact ⟨z,by simp only [cz,ht],hk.2⟩
   ·cases h
  all_goals (cases h;done)
def alt {t e:yx} {d:xq H} {n:Nat} (ht:P.underlying t=some (.slice e)) (h:Rd enc P w base sp held t d):
  cz P (n+1) t d=[.ab]\/∃(x:Bool) (iT:List (xq H)),cz P (n+1) t d=[.aH x iT.length (iT.flatMap fun y=>cz P n e y)]/\∀y,y∈iT->Rd enc P w base sp held e y:=by
 obtain ⟨bt,cs,ps,h⟩:=h
 cases bt with
 | zero=>simp [DataW.trod] at h
 | succ bt=>
  unfold DataW.trod at h
  split at h
  all_goals first
   | (rename_i hu;rw [ht] at hu;cases hu;done)
   | skip
  ·simp only [yc,ym] at h;obtain ⟨rfl,rfl⟩:=h;exact .inl (by simp only [cz,ht])
  ·rename_i e' a len cap hu;rw [ht] at hu;injection hu with hu
   injection hu with hu
   subst hu;simp only at h
   split at h
   case isFalse=>cases h
   cases h1:(List.range len).mapM fun i=>(w.cells? base (a.add (i*P.cellsOf e)) (P.cellsOf e)).bind (DataW.trod enc P w base sp held bt e) with
   | none=>rw [h1] at h;simp at h
   | some iT=>
    rw [h1] at h;simp only [xI] at h;obtain ⟨rest,_,h⟩:=xZ.1 h;simp only [ym] at h;obtain ⟨rfl,rfl⟩:=h;refine .inr ⟨(rest.map (·.1)).isEmpty,iT.map (·.1),by simp only [cz,ht,yY],?_⟩;intro y hy;obtain ⟨p,hp,rfl⟩:=vc.1 hy;obtain ⟨i,hi⟩:=mapM_mem h1 p hp;obtain ⟨dP,_,iY⟩:=Option.bind_eq_some_iff.1 hi;exact ⟨bt,dP,p.2,iY⟩
  all_goals (cases h;done)
def ajm {t:yx} {fs:Array uz} {d:xq H} {n:Nat} (ht:P.underlying t=some (.struct fs)) (h:Rd enc P w base sp held t d):
  ∃ds:List (xq H),ds.length=fs.toList.length/\cz P (n+1) t d=(fs.toList.zip ds).flatMap (fun x=>cz P n x.1.type x.2)/\∀i (h1:i<fs.toList.length) (h2:i<ds.length),Rd enc P w base sp held fs.toList[i].type ds[i]:=by
 obtain ⟨bt,cs,ps,h⟩:=h
 cases bt with
 | zero=>simp [DataW.trod] at h
 | succ bt=>
  unfold DataW.trod at h
  split at h
  all_goals first
   | (rename_i hu;rw [ht] at hu;cases hu;done)
   | (cases h;done)
   | skip
  rename_i cs x1 JS fs' hu;rw [ht] at hu;injection hu with hu
  injection hu with hu
  subst hu
  split at h
  case isFalse=>cases h
  obtain ⟨xs,h1,h⟩:=xZ.1 h;simp only [ym] at h;obtain ⟨rfl,rfl⟩:=h;refine ⟨xs.map (·.1),by simp [KS h1],by simp only [cz,ht],?_⟩;have key:∀{r:List uz} {xs:List (xq H×List xX)},r.mapM (fun f=>DataW.trod enc P w base sp held bt f.type ((cs.drop f.offset).take (P.cellsOf f.type)))=some xs->
    ∀i (h1:i<r.length) (h2:i<(xs.map (·.1)).length),Rd enc P w base sp held r[i].type (xs.map (·.1))[i]:=by
   intro r
   induction r with
   | nil=>intro xs h i h1;exact absurd h1 (Nat.not_lt_zero i)
   | cons f r ih=>
    intro xs h i h1 h2;rw [vK] at h
    cases g1:DataW.trod enc P w base sp held bt f.type ((cs.drop f.offset).take (P.cellsOf f.type)) with
    | none=>simp [g1] at h
    | some x=>
     cases g2:r.mapM (fun f=>DataW.trod enc P w base sp held bt f.type ((cs.drop f.offset).take (P.cellsOf f.type))) with
     | none=>simp [g1,g2] at h
     | some ys=>
      simp only [g1,g2,xI,wX,wz,yc] at h;subst h
      cases i with
      | zero=>exact ⟨bt,_,x.2,g1⟩
      | succ i=>exact ih g2 i (by simpa using h1) (by simpa using h2)
  exact key h1
def alu {t e:yx} {k:Nat} {d:xq H} {n:Nat} (ht:P.underlying t=some (.array k e)) (h:Rd enc P w base sp held t d):
  ∃ds:List (xq H),ds.length=k/\cz P (n+1) t d=ds.flatMap (fun x=>cz P n e x)/\∀y,y∈ds->Rd enc P w base sp held e y:=by
 obtain ⟨bt,cs,ps,h⟩:=h
 cases bt with
 | zero=>simp [DataW.trod] at h
 | succ bt=>
  unfold DataW.trod at h
  split at h
  all_goals first
   | (rename_i hu;rw [ht] at hu;cases hu;done)
   | (cases h;done)
   | skip
  rename_i cs x1 JS k' e' hu;rw [ht] at hu;injection hu with hu
  injection hu with pv ze
  subst pv;subst ze
  split at h
  case isFalse=>cases h
  obtain ⟨xs,h1,h⟩:=xZ.1 h;simp only [ym] at h;obtain ⟨rfl,rfl⟩:=h;refine ⟨xs.map (·.1),by simp [KS h1],by simp only [cz,ht],fun y hy=>?_⟩;obtain ⟨p,hp,rfl⟩:=vc.1 hy;obtain ⟨i,hi⟩:=mapM_mem h1 p hp;exact ⟨bt,_,p.2,hi⟩
end
end
section
open Go
inductive Ty
 | int (k:yZ)
 | dh (k:vD)
 | bool
 | str
 | sl (e:Ty)
 | nil
 | cat (a b:Ty)
 | ar (n:Nat) (e:Ty)
def ir:Ty->List AV->Prop
 | .int k,l=>∃z,l=[.int k z]/\(Lit.int k z).wf=true
 | .dh k,l=>∃b,l=[.dh k b]
 | .bool,l=>∃b,l=[.bool b]
 | .str,l=>∃s:List Nat,l=[.str s]/\s.length<9223372036854775808/\∀c,c∈s->c<256
 | .sl e,l=>l=[.ab]\/∃(x:Bool) (ps:List (List AV)),l=[.aH x ps.length ps.flatten]/\∀p,p∈ps->ir e p
 | .nil,l=>l=[]
 | .cat a b,l=>∃x y,l=x++y/\ir a x/\ir b y
 | .ar n e,l=>∃ps:List (List AV),ps.length=n/\l=ps.flatten/\∀p,p∈ps->ir e p
def mi:List (Option Ty)->Option Ty
 | []=>some .nil
 | some a::r=>match mi r with
  | some b=>some (.cat a b)
  | none=>none
 | none::_=>none
def fJ (P:y9):Nat->yx->Option Ty
 | 0,_=>none
 | n+1,t=>
  match P.underlying t with
  | some .bool=>some .bool
  | some (.int k)=>some (.int k)
  | some (.float k)=>some (.dh k)
  | some .string=>some .str
  | some (.slice e)=>(fJ P n e).map .sl
  | some (.struct fs)=>mi (fs.toList.map fun f=>fJ P n f.type)
  | some (.array k e)=>(fJ P n e).map (.ar k)
  | _=>none
section
variable {H:Type} {enc:yx×ye->H} {P:y9} {w:yg} {base:Nat} {sp:Nat->Bool} {held:Bool}
def aqh {t:yx} {k:vD} {d:xq H} {n:Nat} (ht:P.underlying t=some (.float k)) (h:Rd enc P w base sp held t d):∃b,cz P (n+1) t d=[.dh k b]:=by
 obtain ⟨bt,cs,ps,h⟩:=h
 cases bt with
 | zero=>simp [DataW.trod] at h
 | succ bt=>
  unfold DataW.trod at h
  split at h
  all_goals first
   | (rename_i hu;rw [ht] at hu;cases hu;done)
   | skip
  ·rename_i k1 k2 z hu;rw [ht] at hu;injection hu with hu
   injection hu with hu
   subst hu
   split at h
   ·simp only [yc,ym] at h;obtain ⟨rfl,rfl⟩:=h;exact ⟨z,by simp only [cz,ht]⟩
   ·cases h
  all_goals (cases h;done)
def anF {t:yx} {d:xq H} {n:Nat} (ht:P.underlying t=some .bool) (h:Rd enc P w base sp held t d):∃b,cz P (n+1) t d=[.bool b]:=by
 obtain ⟨bt,cs,ps,h⟩:=h
 cases bt with
 | zero=>simp [DataW.trod] at h
 | succ bt=>
  unfold DataW.trod at h
  split at h
  all_goals first
   | (rename_i hu;rw [ht] at hu;cases hu;done)
   | skip
  ·simp only [yc,ym] at h;obtain ⟨rfl,rfl⟩:=h;rename_i b _;exact ⟨b,by simp only [cz,ht]⟩
  all_goals (cases h;done)
def aqi {t:yx} {d:xq H} {n:Nat} (ht:P.underlying t=some .string) (h:Rd enc P w base sp held t d):
  ∃s:List Nat,cz P (n+1) t d=[.str s]/\s.length<9223372036854775808/\∀c,c∈s->c<256:=by
 obtain ⟨bt,cs,ps,h⟩:=h
 cases bt with
 | zero=>simp [DataW.trod] at h
 | succ bt=>
  unfold DataW.trod at h
  split at h
  all_goals first
   | (rename_i hu;rw [ht] at hu;cases hu;done)
   | skip
  ·rename_i s hu
   split at h
   ·rename_i hs;simp only [yc,ym] at h;obtain ⟨rfl,rfl⟩:=h;refine ⟨_,by simp only [cz,ht];rfl,?_,fun c hc=>?_⟩
    ·simp only [yY,Array.length_toList];have h1:s.size<=9223372036854775807:=hs;have h2:s.data.size=s.size:=rfl;omega
    ·obtain ⟨b,_,rfl⟩:=vc.1 hc;exact b.toNat_lt
   ·cases h
  all_goals (cases h;done)
def Xe {n:Nat} (ih:∀{t:yx} {T:Ty} {d:xq H},fJ P n t=some T->Rd enc P w base sp held t d->ir T (cz P n t d)):
  ∀(fs:List uz) (ds:List (xq H)) (T:Ty),mi (fs.map fun f=>fJ P n f.type)=some T->ds.length=fs.length->(∀i (h1:i<fs.length) (h2:i<ds.length),Rd enc P w base sp held fs[i].type ds[i])->
   ir T ((fs.zip ds).flatMap fun x=>cz P n x.1.type x.2)
 | [],ds,T,hT,_,_=>by
  simp only [List.map_nil,mi,yc] at hT;subst hT;simp [ir]
 | f::fs,[],T,_,hl,_=>by simp at hl
 | f::fs,d::ds,T,hT,hl,hr=>by
  simp only [yS] at hT
  cases h1:fJ P n f.type with
  | none=>simp [h1,mi] at hT
  | some a=>
   cases h2:mi (fs.map fun f=>fJ P n f.type) with
   | none=>simp [h1,h2,mi] at hT
   | some b=>
    simp only [h1,h2,mi,yc] at hT;subst hT;simp only [List.zip_cons_cons,List.flatMap_cons];exact ⟨_,_,rfl,ih h1 (hr 0 (by simp) (by simp)),Xe ih fs ds b h2 (by simpa using hl) (fun i h1 h2=>hr (i+1) (by simpa using h1) (by simpa using h2))⟩
def abk:∀(n:Nat) {t:yx} {T:Ty} {d:xq H},fJ P n t=some T->Rd enc P w base sp held t d->ir T (cz P n t d)
 | 0,t,T,d,hT,_=>by simp [fJ] at hT
 | n+1,t,T,d,hT,hr=>by
  have ih:=@abk n
  cases hu:P.underlying t with
  | none=>simp [fJ,hu] at hT
  | some u=>
   cases u with
   | slice e=>
    simp only [fJ,hu] at hT;obtain ⟨E,hE,rfl⟩:=xZ.1 hT
    rcases alt (n:=n) hu hr with h | ⟨x,iT,h,hm⟩
    ·exact .inl h
    ·refine .inr ⟨x,iT.map (cz P n e),by rw [h,yY,yae],fun p hp=>?_⟩;obtain ⟨y,hy,rfl⟩:=vc.1 hp;exact ih hE (hm y hy)
   | struct fs=>
    simp only [fJ,hu] at hT;obtain ⟨ds,e1,e2,e3⟩:=ajm (n:=n) hu hr;rw [e2];exact Xe ih fs.toList ds T hT e1 e3
   | array k e=>
    simp only [fJ,hu] at hT;obtain ⟨E,hE,rfl⟩:=xZ.1 hT;obtain ⟨ds,e1,e2,e3⟩:=alu (n:=n) hu hr;refine ⟨ds.map (cz P n e),by simp [e1],by rw [e2,yae],fun p hp=>?_⟩;obtain ⟨y,hy,rfl⟩:=vc.1 hp;exact ih hE (e3 y hy)
   | int k=>
    simp only [fJ,hu,yc] at hT;subst hT;exact aqg hu hr
   | float k=>
    simp only [fJ,hu,yc] at hT;subst hT;exact aqh hu hr
   | bool=>
    simp only [fJ,hu,yc] at hT;subst hT;exact anF hu hr
   | string=>
    simp only [fJ,hu,yc] at hT;subst hT;exact aqi hu hr
   | _=>simp [fJ,hu] at hT
def EM:Ty->List AV->AV
 | .nil,l | .cat _ _,l | .ar _ _,l=> .agg l
 | _,l=>l.headD .undef
def ajn:∀{l:List (Option Ty)} {T:Ty},mi l=some T->∀x,EM T x= .agg x
 | [],T,h=>by simp only [mi,yc] at h;subst h;exact fun _=>rfl
 | none::r,T,h=>by simp [mi] at h
 | some a::r,T,h=>by
  cases h1:mi r with
  | none=>simp [mi,h1] at h
  | some b=>
   simp only [mi,h1,yc] at h;subst h;exact fun _=>rfl
def ar2 {n:Nat} {t:yx} {T:Ty} {d:xq H} (hT:fJ P n t=some T):jx P n t d=EM T (cz P n t d):=by
 cases n with
 | zero=>simp [fJ] at hT
 | succ n=>
  cases hu:P.underlying t with
  | none=>simp [fJ,hu] at hT
  | some u=>
   cases u with
   | slice e=>
    simp only [fJ,hu] at hT;obtain ⟨E,hE,rfl⟩:=xZ.1 hT;simp only [jx,hu,EM]
   | struct fs=>
    simp only [fJ,hu] at hT;rw [ajn hT];simp only [jx,hu]
   | array k e=>
    simp only [fJ,hu] at hT;obtain ⟨E,hE,rfl⟩:=xZ.1 hT;simp only [jx,hu,EM]
   | _=>
    simp only [fJ,hu,yc,reduceCtorEq] at hT<;>
    (subst hT
     simp only [jx,hu,EM])
def Ai:List Ty->List (List AV)->List AV
 | T::Ts,l::ls=>EM T l::Ai Ts ls
 | _,_=>[]
def YP {n:Nat}:∀{ts:List yx} {Ts:List Ty} {vs:List ye} {ds:List (xq H)} {ps:List xX},(ts.map (fJ P n))=Ts.map some->DataW.TrodAll enc P w base sp held ts vs ds ps->
  ∃ls,mO ir Ts ls/\rW P n ts ds=Ai Ts ls/\ds.length=ts.length
 | [],[],[],[],ps,_,_=>⟨[],trivial,rfl,rfl⟩
 | t::ts,T::Ts,v::vs,d::ds,ps,hT,⟨p,q,⟨bt,h1⟩,h2,_⟩=>by
  simp only [yS,List.cons.injEq] at hT;obtain ⟨ls,k1,k2,k3⟩:=YP hT.2 h2;exact ⟨cz P n t d::ls,⟨abk n hT.1 ⟨bt,_,_,h1⟩,k1⟩,by simp only [rW,Ai,k2,ar2 hT.1],by simp [k3]⟩
 | [],_::_,_,_,_,h,_=>by simp at h
 | _::_,[],_,_,_,h,_=>by simp at h
 | [],[],_::_,_,_,_,h=>by simp [DataW.TrodAll] at h
 | [],[],[],_::_,_,_,h=>by simp [DataW.TrodAll] at h
 | _::_,_,[],_,_,_,h=>by simp [DataW.TrodAll] at h
 | _::_,_,_::_,[],_,_,h=>by simp [DataW.TrodAll] at h
def aqj {α β:Type} {p:α->β->Prop} {a:α}:∀{l:List β},mO p [a] l->∃x,l=[x]/\p a x
 | [x],h=>⟨x,rfl,h.1⟩
 | [],h=>h.elim
 | _::_::_,h=>h.2.elim
def aqk {α β:Type} {p:α->β->Prop} {a b:α}:∀{l:List β},mO p [a,b] l->∃x y,l=[x,y]/\p a x/\p b y
 | x::l,h=>let ⟨y,h1,h2⟩:=aqj h.2;⟨x,y,by rw [h1],h.1,h2⟩
 | [],h=>h.elim
def aql {α β:Type} {p:α->β->Prop} {a b c:α}:∀{l:List β},mO p [a,b,c] l->∃x y z,l=[x,y,z]/\p a x/\p b y/\p c z
 | x::l,h=>let ⟨y,z,h1,h2,h3⟩:=aqk h.2;⟨x,y,z,by rw [h1],h.1,h2,h3⟩
 | [],h=>h.elim
end
end
section
open Go (IntKind)
abbrev zX:Ty:= .cat .str (.cat .str .nil)
abbrev acT:Ty:= .cat zX (.cat .str .nil)
abbrev atM:Ty:= .cat acT (.cat zX (.cat (.int .i64) .nil))
def GV {l:List AV} (h:ir zX l):∃x y:List Nat,l=[.str x,.str y]/\x.length<9223372036854775808/\y.length<9223372036854775808:=by
 obtain ⟨_,_,rfl,⟨x,rfl,hx,_⟩,_,_,rfl,⟨y,rfl,hy,_⟩,rfl⟩:=h;exact ⟨x,y,rfl,hx,hy⟩
def alv {l:List AV} (h:ir acT l):∃x y s:List Nat,l=[.str x,.str y,.str s]/\x.length<9223372036854775808/\y.length<9223372036854775808/\s.length<9223372036854775808:=by
 obtain ⟨_,_,rfl,h1,_,_,rfl,⟨s,rfl,hs,_⟩,rfl⟩:=h;obtain ⟨x,y,rfl,hx,hy⟩:=GV h1;exact ⟨x,y,s,rfl,hx,hy,hs⟩
end
section
open Go (IntKind)
abbrev RH:Ty:= .sl (.int .i64)
abbrev ZL:Ty:= .sl RH
abbrev LX:Ty:= .cat ZL (.cat .str (.cat .str (.cat .str (.cat zX (.cat zX .nil)))))
def YQ:∀{ps:List (List AV)},(∀p,p∈ps->ir (.int .i64) p)->∃zs:List Int,zs.length=ps.length/\ps.flatten=zs.map aa
 | [],_=>⟨[],rfl,rfl⟩
 | p::ps,h=>by
  obtain ⟨z,rfl,_⟩:=h p vj;obtain ⟨zs,h1,h2⟩:=YQ (ps:=ps) (fun q hq=>h q (wv _ hq));exact ⟨z::zs,by simp [h1],by simp [h2]⟩
def alw {l:List AV} (h:ir RH l):∃(v:AV) (zs:List Int),l=[v]/\bk v zs:=by
 rcases h with rfl | ⟨x,ps,rfl,h⟩
 ·exact ⟨_,[],rfl,lh⟩
 ·obtain ⟨zs,h1,h2⟩:=YQ h;refine ⟨_,zs,rfl,?_⟩;rw [h2,<-h1];exact fb x zs
def YR:∀{ps:List (List AV)},(∀p,p∈ps->ir RH p)->∃s:List (List Int),s.length=ps.length/\ps.flatten.length=ps.length/\mO bk ps.flatten s
 | [],_=>⟨[],rfl,rfl,trivial⟩
 | p::ps,h=>by
  obtain ⟨v,zs,rfl,hv⟩:=alw (h p vj);obtain ⟨s,h1,h2,h3⟩:=YR (ps:=ps) (fun q hq=>h q (wv _ hq));exact ⟨zs::s,by simp [h1],by simp [h2],hv,h3⟩
def ahF {l:List AV} (h:ir ZL l):∃(v:AV) (s:List (List Int)),l=[v]/\eS v s:=by
 rcases h with rfl | ⟨x,ps,rfl,h⟩
 ·exact ⟨_,[],rfl,akN⟩
 ·obtain ⟨s,h1,h2,h3⟩:=YR h;refine ⟨_,s,rfl,ps.flatten,?_,h3⟩
  have:=LA x ps.flatten
  rwa [h2] at this
def ajo {l:List AV} (h:ir LX l):∃(w:AV) (s:List (List Int)) (a b c d e f g:List Nat),l=[w,.str a,.str b,.str c,.str d,.str e,.str f,.str g]/\eS w s/\a.length<9223372036854775808/\b.length<9223372036854775808/\c.length<9223372036854775808/\d.length<9223372036854775808/\e.length<9223372036854775808/\f.length<9223372036854775808/\g.length<9223372036854775808:=by
 obtain ⟨_,_,rfl,h1,_,_,rfl,⟨a,rfl,ha,_⟩,_,_,rfl,⟨b,rfl,hb,_⟩,_,_,rfl,⟨c,rfl,hc,_⟩,_,_,rfl,h2,_,_,rfl,h3,rfl⟩:=h;obtain ⟨w,s,rfl,hw⟩:=ahF h1;obtain ⟨d,e,rfl,hd,he⟩:=GV h2;obtain ⟨f,g,rfl,hf,hg⟩:=GV h3;exact ⟨w,s,a,b,c,d,e,f,g,rfl,hw,ha,hb,hc,hd,he,hf,hg⟩
end
section
open Go (IntKind)
def Hg (n:Nat):10^n<=2^(4*n):=by
 rw [uO];exact uh (by decide) n
def ajp {b:Nat} {r:List Nat} (h:de (b::r)=true):48<=b/\b<=57:=by
 simp only [de,yf] at h
 simp_all
section
variable {P:aI} {L:Lib}
def abl (h:Tx P L) {ds:List Nat} {N:Nat} (hD:cN ds 0=some N) (hl:ds.length<=4000000000) {neg:Bool} {o1 o2:AV}:
  ∀m st,(∃(pre rest:List Nat) (a:Nat) (s:Int) (w:AV),bf [0,2,3,4] st=⟨[(0,.str rest),(2,.ptr 0 0),(3,.bool neg),(4,.ptr 1 0)],[(1,.cells true true true 2 [aa s,w]),(0,.cells true true true 2 [o1,o2])],2,0⟩/\ds=pre++rest/\cN pre 0=some a/\cV s w a/\rest.length=m)->
   ∃ex st',D P L (.loop [0,2,3,4] DN) st=some (ex,st')/\∃tm s w,st'=⟨tm,[(1,.cells true true true 2 [aa s,w]),(0,.cells true true true 2 [o1,o2])],2,0⟩/\ex= .exit 0/\aj tm 2= .ptr 0 0/\aj tm 3= .bool neg/\aj tm 4= .ptr 1 0/\cV s w N:=by
 intro dq sq;generalize bQ:bf [0,2,3,4] sq=s0;revert bQ s0 sq dq;apply eO;rintro m st ⟨pre,rest,a,s,w,rfl,zq,eL,hn,rfl⟩;obtain ⟨l1,u1⟩:=hn.aD;have lH:=hD;rw [zq,G4,eL] at lH;have lH:cN rest a=some N:=lH;have hlen:pre.length+rest.length<=4000000000:=by rw [zq,yW] at hl;exact hl
 by_cases h0:rest.length=0
 ·right
  have hr:rest=[]:=yD h0;subst hr
  have:a=N:=by simpa [cN] using lH
  subst this;simp only [go_sem,DN,yA,show ¬(0:Int)<((0:Nat):Int) by omega];exact ⟨_,_,rfl,by simp,_,s,w,rfl,rfl,by simp only [go_sem,ya],by simp only [go_sem,ya],by simp only [go_sem,ya],hn⟩
 ·left
  obtain ⟨n,AU⟩:∃n,n=min 18 rest.length:=⟨_,rfl⟩;have ade:(if (rest.length:Int)<18 then (rest.length:Int) else 18)=(n:Int):=by split<;>omega
  have iH:rest.take n++rest.drop n=rest:=List.take_append_drop n rest;obtain ⟨a',CJ⟩:∃a',cN (rest.take n) a=some a':=by
   rw [<-iH,G4] at lH
   cases hq:cN (rest.take n) a with
   | none=>rw [hq] at lH;cases lH
   | some a'=>exact ⟨a',rfl⟩
  obtain ⟨v,hv⟩:∃v,cN (rest.take n) 0=some v:=by
   have:∀(l:List Nat) (x y b:Nat),cN l x=some y->∃z,cN l b=some z:=by
    intro l
    induction l with
    | nil=>intro x y b _;exact ⟨b,rfl⟩
    | cons c l ih=>
     intro x y b hh;simp only [cN] at hh ⊢
     cases hb:(yB 48 c&&yB c 57) with
     | false=>rw [hb] at hh;cases hh
     | true=>rw [hb] at hh;exact ih _ _ _ hh
   exact this _ _ _ 0 CJ
  have ad2:=aln (a:=a) hv;have Vp:(rest.take n).length=n:=by rw [yQ];omega
  rw [Vp,CJ,yc] at ad2;have S7:=Qr hv;rw [Vp] at S7;have ayI:v<1000000000000000000:=yN S7 (xA (n:=10) (by decide) (show n<=18 by omega));have e1:=anB (P:=P) h.SW (f:=D P L) (s:=rest.take n) (by omega) (by omega) hv;obtain ⟨t1,t2⟩:=Cx h.toNu (z:=10) (by decide) (by decide);obtain ⟨t3,t4⟩:=Cx h.toNu (z:=(v:Int)) (by omega) (by omega);obtain ⟨p,e2,hp⟩:=atL h.toNu h.SY t2 (K:=4) (k:=n) (by unfold Bd;decide) (by omega) (by omega)
  have halt:=Qr eL;have ba:Bd (4*pre.length) (a:Int):=yN halt (Hg _);have bp:Bd (4*n+1) ((10:Int)^n):=Bd.pow (k:=4) (by unfold Bd;decide) n
  obtain ⟨q,e3,hq⟩:=qC h.toNu (v:= .agg [aa s,w]) ⟨s,w,rfl,hn⟩ hp (K:=4*pre.length+4*n+1) (ba.mono (by omega)) (bp.mono (by omega)) (by omega);have bv':Bd (4*n) (v:Int):=yN S7 (Hg _);obtain ⟨r,e4,hr⟩:=I2 h.toNu hq t4 (K:=4*pre.length+4*n+1) ((ba.mul bp).mono (by omega)) (bv'.mono (by omega)) (by omega);have aQ:(a:Int)*10^n+(v:Int)=(a':Int):=by
   rw [ad2]
   simp
  rw [aQ] at hr;obtain ⟨s2,w2,rfl,h2⟩:=hp;obtain ⟨s3,w3,rfl,h3⟩:=hq;obtain ⟨s4,w4,rfl,h4⟩:=hr;obtain ⟨l2,u2⟩:=h2.aD;obtain ⟨l3,u3⟩:=h3.aD;obtain ⟨l4,u4⟩:=h4.aD;have un:=rJ;have c1:gX rest (some 0) (some n)=some (.str (rest.take n)):=by rw [kB (by omega) (by omega),yi]
  have c2:gX rest (some n) (some rest.length)=some (.str (rest.drop n)):=by rw [kB (by omega) (by omega),xM]
  simp only [go_sem,ya,DN,show (0:Int)<(rest.length:Nat) by omega,aa9,YD,ade,ew,eK,du,c1,c2,e1,cr,t1,t3,aY,u1.af,u2.af,u3.af,un.af,e2,e3,e4,bm,cr,yi,dz u4];refine ⟨_,(rest.drop n).length,rfl,by rw [xY];omega,pre++rest.take n,rest.drop n,a',s4,w4,by simp only [go_sem,ya,yb,ao],by rw [xC,iH];exact zq,by rw [G4,eL];exact CJ,h4,rfl⟩
def PI {b:Nat} {r:List Nat} (h:48<=b):fU [45] (b::r)=false:=by
 show (yt 45 b&&true)=false
 rw [gR (by omega)];rfl
def I6 (h:Tx P L) {z:Int} (hz:(aW z).length<=4000000000):∃r,ae P L 110 [.str (aW z)] r/\cC r z:=by
 have hN:=Br z.natAbs;have un:=rJ;have sX:(ax z.natAbs).length<=4000000000:=by
  by_cases h0:z<0
  ·rw [lZ h0] at hz;simp at hz;omega
  ·rw [<-mC,yF h0] at hz;simpa using hz
 have ba:Bd (4*(ax z.natAbs).length) (z.natAbs:Int):=yN (Qr hN) (Hg _);by_cases h0:z<0
 ·have hs:aW z=45::ax z.natAbs:=lZ h0;have e1:bN P L (D P L) 152 [.str (45::ax z.natAbs),.str [45]]=some (.bool true):=by rw [iM h.adX];rfl
  have e2:bN P L (D P L) 153 [.str (45::ax z.natAbs),.str [45]]=some (.str (ax z.natAbs)):=by rw [iM h.SV];rfl
  have iD:∃s w r,ae P L 110 [.str (aW z)] r/\cV s w (z.natAbs:Int)/\ae P L 147 [.agg [aa s,w]] r/\cC r (-(z.natAbs:Int)):=by
   rw [hs];unfold ae;rw [au h.adZ];simp only [go_sem,ya,yb,MH,aG,e1,e2,un.pu,un.one,dz un];generalize hq:D P L (.loop [0,2,3,4] DN) _=q;obtain ⟨ex,st,rfl,tm,s,w,rfl,rfl,t2,t3,t4,h5⟩:=bI hq (abl (P:=P) (L:=L) h hN sX (neg:=true) (o1:= .int .i64 0) (o2:= .ab) (ax z.natAbs).length) ⟨[],ax z.natAbs,0,0,.ab,by simp only [go_sem,ya,yb,ao]<;>rfl,rfl,rfl,.inl ⟨rfl,rfl,by decide,by decide⟩,rfl⟩
   obtain ⟨l5,u5⟩:=h5.aD;obtain ⟨r,e3,hr⟩:=EL h.toNu (v:= .agg [aa s,w]) ⟨s,w,rfl,h5⟩ (K:=4*(ax z.natAbs).length) ba (by omega);have bY:=hr;obtain ⟨s6,w6,rfl,h6⟩:=hr;obtain ⟨l6,u6⟩:=h6.aD;refine ⟨s,w,_,?_,h5,e3,bY⟩;simp only [go_sem,ya,yb,ao,t2,t3,t4,cr,aY,u5.af,e3,bm,cR,cS,cr,yi,lE u6,dz u6]
  obtain ⟨s,w,r,g1,_,_,g2⟩:=iD;rw [show -((z.natAbs:Nat):Int)=z by omega] at g2;exact ⟨r,g1,g2⟩
 ·have hs:aW z=ax z.natAbs:=by rw [<-mC,yF h0];rfl
  obtain ⟨b,r0,hb,jo,Fg⟩:=Dx z.natAbs;have e1:bN P L (D P L) 152 [.str (ax z.natAbs),.str [45]]=some (.bool false):=by
   rw [iM h.adX,hb];show some (AV.bool (fU [45] (b::r0)))=_
   rw [PI jo]
  have e2:bN P L (D P L) 153 [.str (ax z.natAbs),.str [45]]=some (.str (ax z.natAbs)):=by
   rw [iM h.SV,hb];show some (AV.str (bif fU [45] (b::r0) then _ else _))=_
   rw [PI jo];rfl
  have iD:∃s w,ae P L 110 [.str (aW z)] (.agg [aa s,w])/\cV s w (z.natAbs:Int):=by
   rw [hs];unfold ae;rw [au h.adZ];simp only [go_sem,ya,yb,MH,aG,e1,e2,un.pu,un.one,dz un];generalize hq:D P L (.loop [0,2,3,4] DN) _=q;obtain ⟨ex,st,rfl,tm,s,w,rfl,rfl,t2,t3,t4,h5⟩:=bI hq (abl (P:=P) (L:=L) h hN sX (neg:=false) (o1:= .int .i64 0) (o2:= .ab) (ax z.natAbs).length) ⟨[],ax z.natAbs,0,0,.ab,by simp only [go_sem,ya,yb,ao]<;>rfl,rfl,rfl,.inl ⟨rfl,rfl,by decide,by decide⟩,rfl⟩
   obtain ⟨l5,u5⟩:=h5.aD;refine ⟨s,w,?_,h5⟩;simp only [go_sem,ya,yb,ao,t2,t3,t4,cr,cR,cS,cr,yi,lE u5,dz u5]
  obtain ⟨s,w,g1,g2⟩:=iD;rw [show ((z.natAbs:Nat):Int)=z by omega] at g2;exact ⟨_,g1,s,w,rfl,g2⟩
def GW (b:Nat) (r:List Nat) (c:Nat):fU [c] (b::r)=yt c b:=by
 show (yt c b&&true)=_
 grind
def Wy:∀(l r:List Nat) (k:Nat),(∀x,x∈l->x≠47)->ll [47] (l++47::r) k=some (k+l.length)
 | [],r,k,_=>by
  show (bif fU [47] (47::r) then some k else _)=_
  rw [GW];rfl
 | b::l,r,k,h=>by
  show (bif fU [47] (b::(l++47::r)) then some k else ll [47] (l++47::r) (k+1))=_
  rw [GW,gR (fun e=>h b (by simp) e.symm),yM,Wy l r (k+1) (fun x hx=>h x (by simp [hx])),yu]
  grind
def index_none:∀(l:List Nat) (k:Nat),(∀x,x∈l->x≠47)->ll [47] l k=none
 | [],k,_=>rfl
 | b::l,k,h=>by
  show (bif fU [47] (b::l) then some k else ll [47] l (k+1))=_
  rw [GW,gR (fun e=>h b (by simp) e.symm),yM,index_none l (k+1) (fun x hx=>h x (by simp [hx]))]
def YS:∀{l:List Nat},de l=true->∀x,x∈l->48<=x/\x<=57
 | [],_,x,hx=>by simp at hx
 | b::l,h,x,hx=>by
  have h1:=ajp h;simp only [de,yf] at h;rcases wg.1 hx with rfl | hx
  ·grind
  ·exact YS h.2 x hx
def agh (z:Int):∀x,x∈aW z->x≠47:=fun x hx=>by
 rw [<-mC] at hx;rcases List.mem_append.1 hx with h | h
 ·grind
 ·have:=YS (GS _) x h;omega
def m62 (h:Tx P L) {a:Rat} (hl:(RT a).length<4000000000):∃r,ae P L 62 [.str (RT a)] r/\bW r a:=by
 have EX:=agh a.num;unfold RT at hl ⊢;by_cases hd:a.den=1
 ·rw [yL hd,wC] at hl ⊢;obtain ⟨p,e1,hp⟩:=I6 h (z:=a.num) (by omega);obtain ⟨r,e2,hr⟩:=I3 h.toFr' hp;rw [<-LH a hd] at hr;have bY:=hr;obtain ⟨s1,w1,rfl,h1⟩:=hp;obtain ⟨s2,w2,s3,w3,rfl,h2,h3⟩:=hr;obtain ⟨l1,u1⟩:=h1.aD;obtain ⟨l2,u2⟩:=h2.aD;obtain ⟨l3,u3⟩:=h3.aD;have e0:bN P L (D P L) 109 [.str (aW a.num),.str [47]]=some (.aq [.str (aW a.num),.str [],.bool false]):=by
   rw [iM h.SX];show (bif yI (aW a.num).length 4294967281 then (match ll [47] (aW a.num) 0 with | some i=>_ | none=>some (AV.aq [.str (aW a.num),.str [],.bool false])) else none)=_
   rw [ji (by omega),index_none _ _ EX];rfl
  refine ⟨_,?_,bY⟩;unfold ae;rw [au h.OK];simp only [go_sem,ya,yb,Ob,aG,e0,e1,bm,u1.af,aY,e2,jR u2 u3,cR,cS,yi,gF,kD u2 u3]
 ·rw [yF hd] at hl ⊢;simp only [yW,yu] at hl;obtain ⟨p,e1,hp⟩:=I6 h (z:=a.num) (by omega);obtain ⟨q,e2,hq⟩:=I6 h (z:=(a.den:Int)) (by rw [jI];omega);rw [jI] at e2;obtain ⟨s1,w1,rfl,h1⟩:=hp;obtain ⟨s2,w2,rfl,h2⟩:=hq;obtain ⟨l1,u1⟩:=h1.aD;obtain ⟨l2,u2⟩:=h2.aD;have e0:bN P L (D P L) 109 [.str (aW a.num++47::ax a.den),.str [47]]=some (.aq [.str (aW a.num),.str (ax a.den),.bool true]):=by
   rw [iM h.SX];show (bif yI (aW a.num++47::ax a.den).length 4294967281 then (match ll [47] (aW a.num++47::ax a.den) 0 with | some i=>some (AV.aq [.str ((aW a.num++47::ax a.den).take i),.str ((aW a.num++47::ax a.den).drop (i+1)),.bool true]) | none=>_) else none)=_
   rw [ji (by simp;omega),Wy _ _ _ EX];simp only [yd,yy,List.take_left];rw [show (aW a.num).length+1=(aW a.num++[47]).length by simp,show aW a.num++47::ax a.den=(aW a.num++[47])++ax a.den by simp,List.drop_left]
  refine ⟨.agg [aa s1,w1,aa s2,w2],?_,s1,w1,s2,w2,rfl,h1,h2⟩;unfold ae;rw [au h.OK];simp only [go_sem,ya,yb,Ob,aG,e0,e1,e2,bm,u1.one,u2.one,DG,DH,jR u1 u2,cR,cS,yi,gF,kD u1 u2]
end
end
section
open Go (IntKind)
def dG (p:List Nat):Bool:=de p&&(match p with | []=>false | b::r=> !(yt b 48)||r.isEmpty)
def fA (p:List Nat):Nat:=(cN p 0).getD 0
def sL (neg:Bool) (t:List Nat):Int:=
 if dG (t.take (bO t))=false\/(neg=true/\t.take (bO t)=[48]) then 1
 else if bO t<t.length/\(dG (t.drop (bO t+1))=false\/t.drop (bO t+1)=[48]\/t.drop (bO t+1)=[49]) then 1
 else if 600<bO t\/600<t.length-bO t-1 then 4
 else if bO t<t.length/\wo (fA (t.take (bO t))) (fA (t.drop (bO t+1)))≠1 then 1
 else 0
def aU:List Nat->Int
 | []=>sL false []
 | b::t=>if b=45 then sL true t else sL false (b::t)
def YT:∀{p:List Nat} (a:Nat),de p=true->∃n,cN p a=some n
 | [],a,_=>⟨a,rfl⟩
 | b::r,a,h=>by
  have h':=h;simp only [de,yf] at h';obtain ⟨n,hn⟩:=YT (p:=r) (10*a+(b-48)) h'.2;exact ⟨n,by simp only [cN,h'.1.1,h'.1.2,wB,yy];exact hn⟩
def Dy:∀(k:Nat) {p:List Nat},p.length=k->dG p=true->ax (fA p)=p:=by
 intro k
 induction k with
 | zero=>intro p hl h;rw [yD hl] at h;simp [dG] at h
 | succ k ih=>
  intro p hl h;rcases snoc p with rfl | ⟨m,a,rfl⟩
  ·grind
  ·simp only [dG,yf,Ky] at h;obtain ⟨⟨h1,h2⟩,h3⟩:=h;simp only [de,yf] at h2;have ha1:=yr h2.1.1;have ha2:=yr h2.1.2;obtain ⟨n,hn⟩:=YT 0 h1;have hv:fA (m++[a])=10*n+(a-48):=by
    unfold fA;rw [G4,hn];simp only [xI,cN,h2.1.1,h2.1.2,wB,yy,Option.getD_some]
   cases m with
   | nil=>
    have:n=0:=by simpa [cN] using hn.symm
    rw [hv,nD (by omega)]
    simp;omega
   | cons b r=>
    have hd:dG (b::r)=true:=by
     simp only [dG,h1,wh]
     cases r with
     | nil=>simp
     | cons c r=>simp at h3 ⊢;exact h3
    have hm:=ih (p:=b::r) (by simpa using hl) hd;have hnv:fA (b::r)=n:=by unfold fA;rw [hn];rfl
    rw [hnv] at hm;have lS:n≠0:=fun e=>by
     rw [nD (by omega)] at hm
     simp_all
    rw [hv,oO (by omega),show (10*n+(a-48))/10=n by omega,show 48+(10*n+(a-48))%10=a by omega,hm]
def V2 (t:List Nat):bO t<t.length->t=t.take (bO t)++47::t.drop (bO t+1):=by
 induction t with
 | nil=>simp
 | cons b r ih=>
  intro h;simp only [bO] at h ⊢
  grind
def X0 {n:Int} {d:Nat} (hd:0<d) (hg:wo n.natAbs d=1):∃r:Rat,r.num=n/\r.den=d:=⟨⟨n,d,by omega,hg⟩,rfl,rfl⟩
def aqm {s:List Nat} (h:aU s=0):∃r:Rat,s=RT r/\(ax r.num.natAbs).length<=600/\(ax r.den).length<=600:=by
 have key:∀(neg:Bool) (t:List Nat),sL neg t=0->∃r:Rat,(if neg=true then [45] else [])++t=RT r/\(ax r.num.natAbs).length<=600/\(ax r.den).length<=600:=by
  intro neg t h;unfold sL at h
  split at h
  ·grind
  rename_i h1
  split at h
  ·grind
  rename_i h2
  split at h
  ·grind
  rename_i h3
  split at h
  ·grind
  rename_i h4;have hle:=GR t;have hp:dG (t.take (bO t))=true:=by
   cases hb:dG (t.take (bO t)) with
   | true=>rfl
   | false=>exact absurd (.inl hb) h1
  have pE:=Dy _ rfl hp;generalize hn:fA (t.take (bO t))=n at*
  have ar3:neg=true->n≠0:=fun hh e=>by
   subst e;exact h1 (.inr ⟨hh,by rw [<-pE];rfl⟩)
  have hint:(if neg=true then [45] else [])++ax n=aW (if neg=true then -(n:Int) else n):=by
   cases neg with
   | true=>
    have:=ar3 rfl
    simp only [xh];rw [lZ (by omega)]
    simp
   | false=>simp [jI]
  have S8:(if neg=true then -(n:Int) else n).natAbs=n:=by split<;>omega
  have hln:(ax n).length<=600:=by rw [pE,yQ];omega
  by_cases hs:bO t<t.length
  ·have hq:dG (t.drop (bO t+1))=true:=by
    cases hb:dG (t.drop (bO t+1)) with
    | true=>rfl
    | false=>exact absurd ⟨hs,.inl hb⟩ h2
   have nn:=Dy _ rfl hq;have hg:wo n (fA (t.drop (bO t+1)))=1:=by
    grind
   have jv:=V2 t hs;have Ft:(t.drop (bO t+1)).length<=600:=by rw [xY];omega
   rw [<-nn] at jv Ft;have hX:fA (t.drop (bO t+1))≠0:=fun e=>by
    rw [e] at nn;exact h2 ⟨hs,.inr (.inl (by rw [<-nn];rfl))⟩
   have jD:fA (t.drop (bO t+1))≠1:=fun e=>by
    rw [e] at nn;exact h2 ⟨hs,.inr (.inr (by rw [<-nn];rfl))⟩
   generalize fA (t.drop (bO t+1))=d at*
   obtain ⟨r,cw,eZ⟩:=X0 (n:=if neg=true then -(n:Int) else n) (d:=d) (by omega) (by rw [S8];exact hg)
   refine ⟨r,?_,by rw [cw,S8];exact hln,by rw [eZ];exact Ft⟩
   unfold RT;rw [cw,eZ,yF jD,<-hint,xC]
   congr 1
   rw [pE];exact jv
  ·have ht:t.take (bO t)=t:=yE (by omega);rw [ht] at pE;obtain ⟨r,cw,eZ⟩:=X0 (n:=if neg=true then -(n:Int) else n) (d:=1) (by omega) (Nat.gcd_one_right _);refine ⟨r,?_,by rw [cw,S8];exact hln,by rw [eZ];decide⟩
   unfold RT;rw [cw,eZ,yL rfl,<-hint,wC,pE]
 cases s with
 | nil=>exact absurd h (by decide)
 | cons b t=>
  simp only [aU] at h
  split at h
  ·rename_i hb;subst hb;exact key true t h
  ·exact key false (b::t) h
end
section
namespace Nd
structure Ord (n:Nat) (l:List Int):Prop where
 len:l.length=n
 oe:∀a,a<n->0<=l.getD a 0/\l.getD a 0<n
 inj:∀a b,a<n->b<n->l.getD a 0=l.getD b 0->a=b
end Nd
end
section
namespace Nd
open Go (IntKind)
section
variable {P:aI} {L:Lib}
abbrev ae (P:aI) (L:Lib) (f:Nat) (ak:List AV) (r:AV):Prop:=bN P L (D P L) f ak=some r
def stS {hp:Hp} {ct id o:Nat} {v:Int} {ex:Bool} {l:List Int} (h:o<l.length):fM hp ct id o 1 [.int .i64 v] (some (.cells true true ex 1 (l.map aa)))=some (.aq [],bh hp id (.cells true true ex 1 ((l.set o v).map aa)),ct):=by
 rw [nV (by rfl) (by simp;omega) (by rfl)]
 have:over o [AV.int .i64 v] (l.map aa)=(l.set o v).map aa:=by
  simp only [over,yu,yA,yd];rw [ybb,uy,yL (by simpa using h)]
  simp
 rw [this];rfl
def sM (h:Has P L 124 Ep) (b:Bool) (n:Int):ae P L 124 [.bool b,aa n] (aa (if b=true then n else 0)):=by
 unfold ae;rw [au h]
 cases b with
 | true=>simp only [go_sem,ya,Ep,xh]
 | false=>simp only [go_sem,ya,Ep];rfl
def atN (h:Has P L 125 MK) {v:AV} {l:List Int} (hv:bk v l) (hl:l.length<=1000000):ae P L 125 [v] (aa (bj l)):=by
 unfold ae;rw [au h];simp only [go_sem,ya,MK,hv.len];have key:=G1 (P:=P) (L:=L) (live:=[5,6,7]) (a:=LP)
  (I:=fun k s=>∃tm ct i,s=⟨tm,[],ct,0⟩/\aj tm 5=v/\aj tm 6=aa l.length/\aj tm 7=aa (i:Nat)/\i+k=l.length/\bj (l.drop i)=bj l)
  (Q:=fun ex s=>∃tm,s=⟨tm,[],0,0⟩/\((ex= .ret/\aj tm 2=aa (bj l))\/(ex= .exit 0/\bj l=0))) ?_ l.length
 ·generalize hq:D P L (.loop [5,6,7] LP) _=q;obtain ⟨ex,s,rfl,tm,rfl,h2⟩:=bI hq key ⟨_,_,0,rfl,rfl,rfl,rfl,by omega,rfl⟩;rcases h2 with ⟨rfl,h2⟩ | ⟨rfl,h2⟩
  ·simp only [go_sem,h2]
  ·rw [h2];simp only [go_sem]
 ·rintro k s ⟨tm,ct,i,rfl,h5,h6,h7,hk,hf⟩;rw [Kv (by simp only [go_sem,h5,h6,h7,hv.pu])];simp only [go_sem,ya,h5,h6,h7,LP];by_cases hi:i<l.length
  ·have bU:(i:Int)<l.length:=by omega
   rw [O7 hi] at hf;by_cases hz:l[i]=0
   ·left
    simp only [go_sem,ya,bU,hv.a8 hi,hz];refine ⟨_,k-1,rfl,by omega,_,_,i+1,rfl,?_⟩;rw [wrap64 (by omega) (by omega)];rw [yL hz] at hf;simp only [go_sem,ya];exact ⟨trivial,trivial,rfl,by omega,hf⟩
   ·right
    simp only [go_sem,ya,bU,hv.a8 hi,hz];rw [yF hz] at hf;refine ⟨_,_,rfl,by simp,_,rfl,.inl ⟨rfl,?_⟩⟩;simp only [go_sem,hf]
  ·right
   have bU:¬(i:Int)<l.length:=by omega
   simp only [go_sem,bU];refine ⟨_,_,rfl,by simp,_,rfl,.inr ⟨rfl,?_⟩⟩;rw [<-hf,yP (by omega)];rfl
end
end Nd
end
section
open Go (IntKind)
def YU (i:Nat):Eo i [48,49,50,51,52,53,54,55,56,57]=(yB 48 i&&yB i 57):=by
 by_cases h:48<=i/\i<=57
 ·obtain ⟨h1,h2⟩:=h;obtain ⟨k,rfl⟩:∃k,i=48+k:=⟨i-48,by omega⟩;rcases (show k=0\/k=1\/k=2\/k=3\/k=4\/k=5\/k=6\/k=7\/k=8\/k=9 by omega) with rfl | rfl | rfl | rfl | rfl | rfl | rfl | rfl | rfl | rfl<;>rfl
 ·have e:(yB 48 i&&yB i 57)=false:=by
   cases h1:yB 48 i with
   | false=>rfl
   | true=>
    cases h2:yB i 57 with
    | false=>rfl
    | true=>exact absurd ⟨yr h1,yr h2⟩ h
  rw [e];have ne:∀c,48<=c->c<=57->yt c i=false:=fun c h1 h2=>gR (by omega)
  simp only [Eo,ne 48 (by decide) (by decide),ne 49 (by decide) (by decide),ne 50 (by decide) (by decide),ne 51 (by decide) (by decide),ne 52 (by decide) (by decide),ne 53 (by decide) (by decide),ne 54 (by decide) (by decide),ne 55 (by decide) (by decide),ne 56 (by decide) (by decide),ne 57 (by decide) (by decide),yM]
def PJ:∀l:List Nat,jO [48,49,50,51,52,53,54,55,56,57] l=[]↔de l=true
 | []=>by simp [jO,de]
 | b::r=>by
  simp only [jO,de,YU]
  cases hb:(yB 48 b&&yB b 57) with
  | true=>simp only [yy,wh];exact PJ r
  | false=>simp
def Lg:∀l:List Nat,de l.reverse=de l
 | []=>rfl
 | b::r=>by rw [List.reverse_cons,Ky,Lg r];simp [de,Bool.and_comm]
def V8:∀l:List Nat,de l=false->de (jO [48,49,50,51,52,53,54,55,56,57] l)=false
 | [],h=>by simp [de] at h
 | b::r,h=>by
  simp only [jO,YU]
  cases hb:(yB 48 b&&yB b 57) with
  | true=>
   simp only [de,hb,wh] at h;exact V8 r h
  | false=>simp only [yM];exact h
def alx (p:List Nat):cE (jO [48,49,50,51,52,53,54,55,56,57] (jO [48,49,50,51,52,53,54,55,56,57] p.reverse).reverse) []=de p:=by
 cases hd:de p with
 | true=>
  have h1:=(PJ p.reverse).2 (by rw [Lg];exact hd)
  rw [h1];rfl
 | false=>
  have h1:=V8 p.reverse (by rw [Lg];exact hd)
  have h2:de (jO [48,49,50,51,52,53,54,55,56,57] p.reverse).reverse=false:=by rw [Lg];exact h1
  cases hq:jO [48,49,50,51,52,53,54,55,56,57] (jO [48,49,50,51,52,53,54,55,56,57] p.reverse).reverse with
  | nil=>have:=(PJ _).1 hq;rw [h2] at this;exact absurd this (by decide)
  | cons b r=>rfl
def V9:∀(t:List Nat) (k:Nat),ll [47] t k=if bO t<t.length then some (k+bO t) else none
 | [],k=>by simp [ll,fU,bO]
 | b::r,k=>by
  by_cases hb:b=47
  ·subst hb;have e:bO (47::r)=0:=by simp [bO]
   rw [e,yL (by simp)];rfl
  ·have e:bO (b::r)=bO r+1:=by simp [bO,hb]
   have hp:fU [47] (b::r)=false:=by rw [GW];exact gR (fun e=>hb e.symm)
   rw [e,ll,hp,yM,V9 r (k+1)]
   grind
def pO (a b:List Nat):binOp .neq (.str a) (.str b)=some (.bool (!(cE a b))):=rfl
structure Ck (P:aI) (L:Lib):Prop extends Tx P L where
 atO:L.pure 128=some KH
 atP:L.pure 162=some trimS
 h86:Has P L 86 eR
 CA:Has P L 124 Ep
 atQ:Has P L 125 MK
 atS:Has P L 129 Er
section
variable {P:aI} {L:Lib}
def sM (h:Has P L 124 Ep) (b:Bool) (n:Int):ae P L 124 [.bool b,aa n] (aa (if b=true then n else 0)):=Nd.sM h b n
def ad3 (h:Ck P L) {p:List Nat} (hl:p.length<=4000000000):ae P L 129 [.str p] (.bool (dG p)):=by
 have e1:bN P L (D P L) 162 [.str p,.str [48,49,50,51,52,53,54,55,56,57]]=some (.str (jO [48,49,50,51,52,53,54,55,56,57] (jO [48,49,50,51,52,53,54,55,56,57] p.reverse).reverse)):=by
  rw [iM h.atP];show (bif DM [48,49,50,51,52,53,54,55,56,57]&&(yI p.length 4294967281&&yI 10 4294967281) then _ else none)=_
  rw [ji (by omega)];rfl
 have e2:=alx p;unfold ae;rw [au h.atS]
 match p,e1,e2 with
 | [],_,_=>
  simp only [go_sem,ya,Er,pO,show cE [] []=true from rfl,yK];rfl
 | b::r,e1,e2=>
  have hI:mf 0 (.str (b::r))=some (.int .u8 (b:Nat)):=rfl;have h0:cE (b::r) []=false:=rfl;have hd:dG (b::r)=(de (b::r)&&(!(yt b 48)||r.isEmpty)):=rfl;rw [hd]
  cases mA:de (b::r) with
  | false=>
   rw [mA] at e2;simp only [go_sem,ya,Er,pO,h0,yG,e1,iz,e2,wA]
  | true=>
   rw [mA] at e2;by_cases hb:b=48
   ·subst hb;have e3:cE (48::r) [48]=r.isEmpty:=by
     cases r with
     | nil=>rfl
     | cons c r=>rfl
    have Uf:mf 0 (.str (48::r))=some (.int .u8 48):=rfl;simp only [go_sem,ya,Er,pO,h0,yG,e1,iz,e2,Uf,yo,yK,e3];rfl
   ·have:yt b 48=false:=gR hb
    rw [this];simp only [go_sem,ya,Er,pO,h0,yG,e1,iz,e2,hI,show ¬((b:Nat):Int)=48 by omega,yp,yG];rfl
def atT (h:Ck P L) (s:List Nat):bN P L (D P L) 128 [.str s,.str [45]]=some (if s.head? =some 45 then .aq [.str s.tail,.bool true] else .aq [.str s,.bool false]):=by
 rw [iM h.atO];show some (bif fU [45] s then AV.aq [.str (s.drop 1),.bool true] else .aq [.str s,.bool false])=_
 cases s with
 | nil=>rfl
 | cons b r=>
  by_cases hb:b=45
  ·subst hb;rfl
  ·have:fU [45] (b::r)=false:=by rw [GW];exact gR (fun e=>hb e.symm)
   grind
def atU (h:Ck P L) {t:List Nat} (hl:t.length<=4000000000):bN P L (D P L) 109 [.str t,.str [47]]=some (.aq [.str (t.take (bO t)),.str (t.drop (bO t+1)),.bool (decide (bO t<t.length))]):=by
 rw [iM h.SX];show (bif yI t.length 4294967281 then (match ll [47] t 0 with | some i=>some (AV.aq [.str (t.take i),.str (t.drop (i+1)),.bool true]) | none=>some (AV.aq [.str t,.str [],.bool false])) else none)=_
 rw [ji (by omega),V9];by_cases hs:bO t<t.length
 ·grind
 ·rw [yF hs,yX hs,yE (by omega),yP (by omega)];rfl
def ahG {P:aI} {L:Lib} (a b c d:VC) (s:St):D P L (.seq a (.seq b (.seq c d))) s=nU P L (D P L (.seq a (.seq b c)) s) d:=by
 have e:=Bv (P:=P) (L:=L) b c d;rw [lD,lD]
 cases D P L a s with
 | none=>rfl
 | some q=>
  obtain ⟨ex,st⟩:=q
  cases ex with
  | normal=>rw [gQ,gQ];exact e st
  | ret=>rfl
  | exit id=>rfl
def ajq {P:aI} {L:Lib} (a b c d f:VC) (s:St):D P L (.seq a (.seq b (.seq c (.seq d f)))) s=nU P L (D P L (.seq a (.seq b (.seq c d))) s) f:=by
 have e:=ahG (P:=P) (L:=L) b c d f;rw [lD,lD]
 cases D P L a s with
 | none=>rfl
 | some q=>
  obtain ⟨ex,st⟩:=q
  cases ex with
  | normal=>rw [gQ,gQ];exact e st
  | ret=>rfl
  | exit id=>rfl
def LJ {a b:List Nat} (h:a=b):cE a b=true:=by
 subst h
 induction a with
 | nil=>rfl
 | cons x a ih=>simp [cE,ih]
def Qt {a b:List Nat} (h:a≠b):cE a b=false:=by
 cases hb:cE a b with
 | false=>rfl
 | true=>
  exact absurd (by
   clear h;revert b
   induction a with
   | nil=>intro b hb;cases b with | nil=>rfl | cons y b=>simp [cE] at hb
   | cons x a ih=>
    intro b hb
    cases b with
    | nil=>simp [cE] at hb
    | cons y b=>
     simp only [cE,yf] at hb
     rw [yk hb.1,ih hb.2]) h
def ar4 (h:Ck P L) {p q:List Nat} {ok found:Bool} (lp:p.length<=1000000000) (lq:q.length<=1000000000) (eN:ok=true->dG p=true/\(found=true->dG q=true)) {tm:Env} (t5:aj tm 5= .str p) (t6:aj tm 6= .str q) (t7:aj tm 7= .bool found) (t8:aj tm 8= .bool ok):
  fX [.t 2] (D P L (ay (ay (ay (ay (ay eR.body))))) ⟨tm,[],0,0⟩)=some (aa (
   if ok=false then 1
   else if 600<p.length\/600<q.length then 4
   else if found=true/\wo (fA p) (fA q)≠1 then 1
   else 0)):=by
 have w1:=sM h.CA (!ok) 1;have OQ:∀a b:Int,ae P L 125 [.aH true 2 [aa a,aa b]] (aa (bj [a,b])):=fun a b=>Nd.atN h.atQ (fb true [a,b]) (by simp)
 cases ok with
 | false=>
  have f1:=OQ 1 0;have f2:=OQ 1 4;have w2:=sM h.CA false 4;have w3:=sM h.CA true 4;simp only [yG,xh,yC,y8] at w1 w2 w3;rw [show bj [1,0]=1 by decide] at f1;rw [show bj [1,4]=1 by decide] at f2;unfold ae at w1 w2 w3 f1 f2;by_cases h1:600<p.length
  ·simp only [go_sem,ya,yb,yq,yh,yj,eR,ay,show ¬(1:Int)=0 by decide,yG,t5,t8,yG,w1,show (600:Int)<(p.length:Int) by omega,yo,w3,f2,yp]
   simp
  ·by_cases h2:600<q.length
   ·simp only [go_sem,ya,yb,yq,yh,yj,eR,ay,show ¬(1:Int)=0 by decide,yG,t5,t6,t8,yG,w1,show ¬(600:Int)<(p.length:Int) by omega,show (600:Int)<(q.length:Int) by omega,yo,yp,w3,f2]
    simp
   ·simp only [go_sem,ya,yb,yq,yh,yj,eR,ay,show ¬(1:Int)=0 by decide,yG,t5,t6,t8,yG,w1,show ¬(600:Int)<(p.length:Int) by omega,show ¬(600:Int)<(q.length:Int) by omega,yp,w2,f1]
    simp
 | true=>
  obtain ⟨hp,hq⟩:=eN rfl;have f1:=OQ 0 0;have f2:=OQ 0 4;have w2:=sM h.CA false 4;have w3:=sM h.CA true 4;have w4:=sM h.CA false 1;have w5:=sM h.CA true 1;simp only [yK,xh,yC,y8] at w1 w2 w3 w4 w5;rw [show bj [0,0]=0 by decide] at f1;rw [show bj [0,4]=4 by decide] at f2;unfold ae at w1 w2 w3 w4 w5 f1 f2;rw [yF (by decide)];by_cases h1:600<p.length
  ·rw [yL (.inl h1)];simp only [go_sem,ya,yb,yq,yh,yj,eR,ay,show ¬(4:Int)=0 by decide,yG,t5,t8,yK,w1,show (600:Int)<(p.length:Int) by omega,yo,w3,f2,yp]
  ·by_cases h2:600<q.length
   ·rw [yL (.inr h2)];simp only [go_sem,ya,yb,yq,yh,yj,eR,ay,show ¬(4:Int)=0 by decide,yG,t5,t6,t8,yK,w1,show ¬(600:Int)<(p.length:Int) by omega,show (600:Int)<(q.length:Int) by omega,yo,yp,w3,f2]
   ·rw [yF (by omega)]
    cases found with
    | false=>
     rw [yF (by simp)];simp only [go_sem,ya,yb,yq,yh,yj,eR,ay,t5,t6,t7,t8,yK,w1,show ¬(600:Int)<(p.length:Int) by omega,show ¬(600:Int)<(q.length:Int) by omega,yo,yp,w2,f1]
    | true=>
     have pE:=Dy _ rfl hp;have nn:=Dy _ rfl (hq rfl);generalize fA p=n at*
     generalize fA q=d at*
     subst pE;subst nn;obtain ⟨M,hM⟩:∃M:Nat,M=2400:=⟨_,rfl⟩;have bd:∀{m:Nat},(ax m).length<=600->Bd M (m:Int):=fun {m} hm=>by
      have h1:=Hf m;have h2:=Hg (ax m).length;have h3:(2:Nat)^(4*(ax m).length)<=2^M:=xA (by decide) (by omega);unfold Bd;rw [wS];exact yN h1 (xj h2 h3)
     obtain ⟨x,e1,hx⟩:=I6 h.toTx (z:=(n:Int)) (by rw [jI];omega);obtain ⟨y,e2,hy⟩:=I6 h.toTx (z:=(d:Int)) (by rw [jI];omega);rw [jI] at e1 e2;have kn:=bd (m:=n) (by omega);have kd:=bd (m:=d) (by omega);obtain ⟨g,e3,hg⟩:=adV h.toNu hx hy kn kd (by omega);obtain ⟨e4,AR⟩:=Cx h.toNu (z:=1) (by decide) (by decide);have kg:Bd M ((Int.gcd (n:Int) (d:Int):Nat):Int):=by
      rcases Nat.eq_zero_or_pos d with h0 | h0
      ·subst h0;simpa using kn
      ·exact kd.le (by have:=Nat.gcd_le_right n h0;simpa using this)
     have e5:=adR h.toNu hg AR (K:=M) kg (by unfold Bd;exact Nat.one_lt_two_pow (by omega)) (by omega)
     have atV:Int.gcd (n:Int) (d:Int)=wo n d:=rfl;rw [atV] at e5;obtain ⟨xs,xw,rfl,C2⟩:=hx;obtain ⟨ys,yw,rfl,ns⟩:=hy;obtain ⟨gs,gw,rfl,C3⟩:=hg;obtain ⟨l1,u1⟩:=C2.aD;obtain ⟨l2,u2⟩:=ns.aD;obtain ⟨l3,u3⟩:=C3.aD;by_cases gY:wo n d=1
     ·rw [yF (by simp [gY])];have hs:cA (((wo n d:Nat):Int)-1)=0:=by rw [gY];rfl
      rw [hs] at e5;simp only [go_sem,ya,yb,yq,yh,yj,eR,ay,t5,t6,t7,t8,yK,w1,show ¬(600:Int)<((ax n).length:Int) by omega,show ¬(600:Int)<((ax d).length:Int) by omega,yo,yp,w2,f1,e1,e2,u1.af,u2.af,u3.af,bm,aY,e3,e4,e5]
     ·rw [yL ⟨rfl,gY⟩];obtain ⟨c,hc,kj⟩:∃c,cA (((wo n d:Nat):Int)-1)=c/\c≠0:=⟨_,rfl,fun e=>gY (by
       unfold cA at e
       split at e
       ·exact absurd e (by decide)
       ·split at e
        ·omega
        ·exact absurd e (by decide))⟩
      rw [hc] at e5;simp only [go_sem,ya,yb,yq,yh,yj,eR,ay,yG,t5,t6,t7,t8,yK,w1,show ¬(600:Int)<((ax n).length:Int) by omega,show ¬(600:Int)<((ax d).length:Int) by omega,yo,yp,w2,f1,e1,e2,u1.af,u2.af,u3.af,bm,aY,e3,e4,e5,kj,yG,w5]
def OR (h:Ck P L) {s:List Nat} (hl:s.length<=1000000000):ae P L 86 [.str s] (aa (aU s)):=by
 have key:∀(neg:Bool) (t:List Nat),t.length<=1000000000->bN P L (D P L) 128 [.str s,.str [45]]=some (.aq [.str t,.bool neg])->ae P L 86 [.str s] (aa (sL neg t)):=by
  intro neg t hl e0;have e1:=atU h (t:=t) (by omega);obtain ⟨k,hk⟩:∃k,k=bO t:=⟨_,rfl⟩;have Vq:k<=t.length:=by rw [hk];exact GR t
  have e2:=ad3 h (p:=t.take k) (by rw [yQ];omega);have e3:=ad3 h (p:=t.drop (k+1)) (by rw [xY];omega);have lp:(t.take k).length=k:=by rw [yQ];omega
  have lq:(t.drop (k+1)).length=t.length-k-1:=by rw [xY];omega
  unfold sL;rw [<-hk] at e1 ⊢;generalize hp:t.take k=p at*
  generalize hq:t.drop (k+1)=q at*
  obtain ⟨Bf,qF⟩:∃ok:Bool,ok=(dG p&&(!neg|| !(cE p [48]))):=⟨_,rfl⟩;obtain ⟨ok,eN⟩:∃ok:Bool,ok=(Bf&&(!(decide (k<t.length))||(dG q&&(!(cE q [48])&& !(cE q [49]))))):=⟨_,rfl⟩
  have Nj:(if dG p=false\/(neg=true/\p=[48]) then 1
    else if k<t.length/\(dG q=false\/q=[48]\/q=[49]) then 1
    else if 600<k\/600<t.length-k-1 then 4
    else if k<t.length/\wo (fA p) (fA q)≠1 then 1 else 0:Int)=(if ok=false then 1
    else if 600<p.length\/600<q.length then 4
    else if decide (k<t.length)=true/\wo (fA p) (fA q)≠1 then 1
    else 0):=by
   rw [lp,lq];have a1:(dG p=false\/(neg=true/\p=[48]))↔Bf=false:=by
    rw [qF];cases dG p<;>cases neg<;>simp
    by_cases e:p=[48]
    ·simp [e,LJ]
    ·simp [e,Qt e]
   have a2:ok=false↔(Bf=false\/(k<t.length/\(dG q=false\/q=[48]\/q=[49]))):=by
    rw [eN];by_cases hs:k<t.length
    ·simp only [hs,yo,yK,wY,uJ];cases Bf<;>cases dG q<;>simp
     by_cases e:q=[48]
     ·simp [e,LJ]
     ·by_cases e':q=[49]
      ·simp [e',LJ]
      ·simp [e,e',Qt e,Qt e']
    ·simp [hs]
   by_cases h1:Bf=false
   ·rw [yL (a1.2 h1),yL (a2.2 (.inl h1))]
   ·rw [yF (fun e=>h1 (a1.1 e))];by_cases h2:k<t.length/\(dG q=false\/q=[48]\/q=[49])
    ·rw [yL h2,yL (a2.2 (.inr h2))]
    ·rw [yF h2,yF (fun e=>(a2.1 e).elim h1 h2)];simp only [wW]
  rw [Nj];have atW:ok=true->dG p=true/\(decide (k<t.length)=true->dG q=true):=fun e=>by
   rw [eN,yf] at e;obtain ⟨e1,e2⟩:=e;rw [qF,yf] at e1;refine ⟨e1.1,fun hs=>?_⟩;rw [hs,yK,wY,yf] at e2;exact e2.1
  have tail:∀tm,aj tm 5= .str p->aj tm 6= .str q->aj tm 7= .bool (decide (k<t.length))->aj tm 8= .bool ok->fX [.t 2] (D P L (ay (ay (ay (ay (ay eR.body))))) ⟨tm,[],0,0⟩)=_:=fun tm t5 t6 t7 t8=>
   ar4 h (by omega) (by omega) atW t5 t6 t7 t8
  have mid:∀tm,aj tm 5= .str p->aj tm 6= .str q->aj tm 7= .bool (decide (k<t.length))->aj tm 8= .bool Bf->
    ∃cu,D P L (bE (ay (ay (ay (ay eR.body))))) ⟨tm,[],0,0⟩=some (.normal,⟨cu,[],0,0⟩)/\aj cu 5= .str p/\aj cu 6= .str q/\aj cu 7= .bool (decide (k<t.length))/\aj cu 8= .bool ok:=fun tm t5 t6 t7 t8=>by
   unfold ae at e3;by_cases hs:k<t.length
   ·rw [xi hs] at t7 eN ⊢;simp only [yK,wY] at eN
    cases Bf with
    | false=>
     rw [wA] at eN;subst eN;refine ⟨_,by simp only [go_sem,ya,eR,bE,ay,t7,t8]<;>rfl,?_⟩
     simp only [go_sem,ya,t5,t6,t7,uJ]
    | true=>
     rw [wh] at eN
     cases hd:dG q with
     | false=>
      rw [hd] at e3 eN;rw [wA] at eN;subst eN;refine ⟨_,by simp only [go_sem,ya,eR,bE,ay,t6,t7,t8,e3]<;>rfl,?_⟩
      simp only [go_sem,ya,t5,t6,t7,uJ]
     | true=>
      rw [hd] at e3 eN;rw [wh] at eN
      cases ja:cE q [48] with
      | true=>
       rw [ja,yK,wA] at eN;subst eN;refine ⟨_,by simp only [go_sem,ya,eR,bE,ay,t6,t7,t8,e3,pO,ja,yK]<;>rfl,?_⟩
       simp only [go_sem,ya,t5,t6,t7,uJ]
      | false=>
       rw [ja,yG,wh] at eN;subst eN;refine ⟨_,by simp only [go_sem,ya,eR,bE,ay,t6,t7,t8,e3,pO,ja,yG]<;>rfl,?_⟩
       simp only [go_sem,ya,t5,t6,t7,uJ]
   ·rw [yX hs] at t7 eN ⊢;simp only [yG,uk,Bool.and_true] at eN;subst eN;refine ⟨_,by simp only [go_sem,eR,bE,ay,t7]<;>rfl,?_⟩
    simp only [go_sem,ya,t5,t6,t7,t8,uJ]
  have fin:∀tm,aj tm 5= .str p->aj tm 6= .str q->aj tm 7= .bool (decide (k<t.length))->aj tm 8= .bool Bf->
    D P L (.seq (bE eR.body) (.seq (bE (ay eR.body)) (.seq (bE (ay (ay eR.body))) (bE (ay (ay (ay eR.body))))))) ⟨[(0,.str s)],[],0,0⟩=some (.normal,⟨tm,[],0,0⟩)->ae P L 86 [.str s] _:=fun tm t5 t6 t7 t8 e=>by
   obtain ⟨cu,e',f5,f6,f7,f8⟩:=mid tm t5 t6 t7 t8;unfold ae;rw [au h.h86];show fX [.t 2] (D P L (.seq (bE eR.body) (.seq (bE (ay eR.body)) (.seq (bE (ay (ay eR.body))) (.seq (bE (ay (ay (ay eR.body)))) (.seq (bE (ay (ay (ay (ay eR.body))))) (ay (ay (ay (ay (ay eR.body)))))))))) ⟨[(0,.str s)],[],0,0⟩)=_
   rw [ajq,e,gQ,lD,e',gQ];exact tail cu f5 f6 f7 f8
  unfold ae at e2
  cases hd:dG p with
  | false=>
   rw [hd] at e2 qF;rw [wA] at qF;subst qF;refine fin _ ?_ ?_ ?_ ?_ (by simp only [go_sem,ya,eR,bE,ay,e0,e1,e2]<;>rfl)<;>simp only [go_sem,ya]
  | true=>
   rw [hd] at e2 qF
   cases neg with
   | false=>
    simp only [yG,uk] at qF;subst qF;refine fin _ ?_ ?_ ?_ ?_ (by simp only [go_sem,ya,eR,bE,ay,e0,e1,e2,yG]<;>rfl)<;>simp only [go_sem,ya]
   | true=>
    simp only [yK,wY] at qF;subst qF;refine fin _ ?_ ?_ ?_ ?_ (by simp only [go_sem,ya,eR,bE,ay,e0,e1,e2,yK,pO]<;>rfl)<;>simp only [go_sem,ya]
 unfold aU;have e0:=atT h s
 cases s with
 | nil=>exact key false [] (by simp) e0
 | cons b r=>
  by_cases hb:b=45
  ·subst hb;exact key true r (by simp at hl;omega) e0
  ·simp only [hb,y8];rw [yF (by simpa using hb)] at e0;exact key false (b::r) hl e0
end
end
section
open Go (IntKind)
def LN (z:Int):Bool:=decide (600<(ax z.natAbs).length)
def LG (r:Rat):Bool:=LN r.num||LN (r.den:Int)
def ahH {m B k:Nat} (hB:B<=3*k) (hk:0<k) (h:m<2^B):(ax m).length<=k:=by
 obtain ⟨j,rfl⟩:∃j,k=j+1:=⟨k-1,by omega⟩;refine oP (yN h (xj (xA (by decide) hB) ?_));rw [uO];exact uh (by decide) _
def Qu:∀f n:Nat,er f n<=f
 | 0,_=>yv _
 | f+1,n=>by
  unfold er
  cases yt n 0 with
  | true=>exact Nat.zero_le _
  | false=>have:=Qu f (n/2);simp only [yM];omega
def aqn {P:aI} {L:Lib} {f:cF} (h:L.pure 175=some Hl) {x:Nat} (hx:x<18446744073709551616):bN P L f 175 [uc x]=some (aa (er 64 x:Nat)):=by
 rw [iM h];show (bif yI x 18446744073709551616 then _ else none)=_
 rw [ji hx];rfl
def anG {V n top low:Nat} (hn:0<n) (h0:0<top) (ht:top<18446744073709551616) (hV:V=low+18446744073709551616^(n-1)*top) (hl:low<18446744073709551616^(n-1)):V<2^(64*(n-1)+er 64 top):=by
 obtain ⟨l1,l2,l3⟩:=P6 h0 ht;have hle:=Qu 64 top;have h1:top<2^er 64 top:=by
  have e:(18446744073709551616:Nat)=2^er 64 top*2^(64-er 64 top):=by rw [<-wj,show er 64 top+(64-er 64 top)=64 by omega]
  rw [e] at l3;exact Nat.lt_of_mul_lt_mul_right l3
 have h3:=Nat.mul_le_mul_left (18446744073709551616^(n-1)) (show top+1<=2^er 64 top from h1);rw [wj,uO]
 grind
section
variable {P:aI} {L:Lib}
def aly (K:Nat):2^K<=18446744073709551616^(K/64+1):=by
 rw [show (18446744073709551616:Nat)=2^64 from rfl,<-uO];exact xA (by decide) (by omega)
def ar5 (h:Tx P L) {v:AV} {z:Int} {K:Nat} (hv:cC v z) (hz:Bd K z) (hK:K<=4000000000):∃B:Nat,ae P L 172 [v] (aa B)/\z.natAbs<2^B/\B<=K+64:=by
 obtain ⟨s,w,rfl,hn⟩:=hv;obtain ⟨l,u⟩:=hn.aD;obtain ⟨r,e1,hr⟩:=sI h.toNu hn;obtain ⟨ws,hw,g,nz',hb⟩:=hr;have hl:ws.length<=K/64+1:=mS nz' hb (yN hz (aly K));unfold ae at e1 ⊢;by_cases h0:ws=[]
 ·subst h0;have kU:z.natAbs=0:=by rw [<-hb];rfl
  refine ⟨0,?_,by rw [kU];decide,by omega⟩
  rw [au h.adY];simp only [go_sem,ya,yb,MS,aG,cr,aY,u.pu,u.af,u.one,e1,hw.len,yA,show ((0:Nat):Int)=0 from rfl,yo]
 ·have hp:0<ws.length:=List.length_pos_iff.2 h0;have Af:=K9 nz' h0;have CV:=gC (show 0<18446744073709551616 by decide) g (ws.length-1);have ei:=hw.a8 (i:=ws.length-1) (by omega);have dS:=iP (b:=18446744073709551616) (l:=ws) (ws.length-1);have I7:=lC (zO g (ws.length-1));rw [yQ,Nat.min_eq_left (by omega)] at I7;rw [show ws.length-1+1=ws.length by omega,yE (yv _)] at dS;generalize ws.getD (ws.length-1) 0=top at*
  have e2:=aqn (P:=P) (f:=D P L) h.atF CV;have hle:=Qu 64 top;have acU:=anG hp (Nat.pos_of_ne_zero Af) CV dS I7;rw [hb] at acU;refine ⟨64*(ws.length-1)+er 64 top,?_,acU,by omega⟩;rw [au h.adY]
  simp only [go_sem,ya,yb,MS,aG,cr,aY,u.pu,u.af,u.one,e1,hw.len,show ¬(ws.length:Int)=0 by omega,show (ws.length:Int)-1=((ws.length-1:Nat):Int) by omega,wrapN (n:=ws.length-1) (by omega),show (64:Int)*((ws.length-1:Nat):Int)=((64*(ws.length-1):Nat):Int) by omega,wrapN (n:=64*(ws.length-1)) (by omega),ei,e2,show ((64*(ws.length-1):Nat):Int)+((er 64 top:Nat):Int)=((64*(ws.length-1)+er 64 top:Nat):Int) from rfl,wrapN (n:=64*(ws.length-1)+er 64 top) (by omega)]
def atX (h:Tx P L) {v:AV} {z:Int} {K:Nat} (hv:cC v z) (hz:Bd K z) (hK:K<=4000000000):∃B:Nat,ae P L 172 [v] (aa B)/\z.natAbs<2^B/\B<=300000000000:=by
 obtain ⟨B,h1,h2,h3⟩:=ar5 h hv hz hK;exact ⟨B,h1,h2,by omega⟩
def ajr (z:Int):(if fU [45] (aW z)=true then (aW z).drop 1 else aW z)=ax z.natAbs:=by
 by_cases h:z<0
 ·rw [lZ h];rfl
 ·obtain ⟨m,rfl⟩:∃m:Nat,z=m:=⟨z.toNat,by omega⟩;rw [jI];obtain ⟨b,r,hb,h1,_⟩:=Dx m;rw [wS,hb,PI h1];rfl
def ad4 (h:Tx P L) {v:AV} {z:Int} {K:Nat} (hv:cC v z) (hz:Bd K z) (hK:K<=4000000000):ae P L 151 [v] (.bool (LN z)):=by
 obtain ⟨B,e1,hB,hBb⟩:=atX h hv hz hK;have e2:=Ve h hv hz hK;obtain ⟨s,w,rfl,hn⟩:=hv;obtain ⟨l,u⟩:=hn.aD;have e3:bN P L (D P L) 153 [.str (aW z),.str [45]]=some (.str (ax z.natAbs)):=by
  rw [iM h.SV,<-ajr];show some (AV.str (bif fU [45] (aW z) then (aW z).drop 1 else aW z))=_
  cases fU [45] (aW z)<;>rfl
 unfold ae at e1 e2 ⊢;rw [au h.atG];unfold LN;by_cases h1:1800<B
 ·simp only [go_sem,ya,yb,MN,aG,cr,aY,u.pu,u.af,u.one,e1,show (1800:Int)<(B:Int) by omega,yo,e2,e3];by_cases h2:600<(ax z.natAbs).length
  ·rw [xi h2,xi (by omega)]
  ·rw [yX h2,yX (by omega)]
 ·have h2:=ahH (k:=600) (by omega) (by decide) hB;rw [yX (by omega)];simp only [go_sem,ya,yb,MN,aG,cr,aY,u.pu,u.af,u.one,e1,show ¬(1800:Int)<(B:Int) by omega,yp]
def ad5 (h:Tx P L) {v:AV} {a:Rat} {K:Nat} (hv:bW v a) (ka:Hq K a) (hK:K<=4000000000):ae P L 107 [v] (.bool (LG a)):=by
 obtain ⟨s1,w1,s2,w2,rfl,h1,h2⟩:=hv;have e1:=ad4 h ⟨s1,w1,rfl,h1⟩ ka.1 hK;have e2:=ad4 h ⟨s2,w2,rfl,h2⟩ ka.2 hK;obtain ⟨l1,u1⟩:=h1.aD;obtain ⟨l2,u2⟩:=h2.aD;unfold ae at e1 e2 ⊢;rw [au h.atH];unfold LG
 cases hb:LN a.num with
 | true=>
  rw [hb] at e1;simp only [go_sem,ya,yb,MG,aG,aZ,yd,cr,aY,u1.pu,u1.af,u1.one,u2.pu,u2.one,e1];rfl
 | false=>
  rw [hb] at e1;simp only [go_sem,ya,yb,MG,aG,aZ,yd,show xo 2 [aa s1,w1,aa s2,w2]=[aa s2,w2] from rfl,cr,aY,u1.pu,u1.af,u1.one,u2.pu,u2.af,u2.one,e1,e2];rfl
end
end
section
open Go (IntKind)
def ajs (p s:Nat):p*(s%1000000000)+p*1000000000*(s/1000000000)=p*s:=by
 rw [Nat.mul_assoc,<-Nat.mul_add,Nat.mod_add_div]
def G5 {l:List Int} {i:Nat} (h:l.length<=i):l.getD i 0=0:=by simp_all
def alz {a b out:List Int} {i c:Nat} {x y:Int} (hx:x=a.getD i 0) (hy:y=b.getD i 0) (h1:0<=x) (h2:0<=y) (hl:out.length=i) (hv:dv out+1000000000^i*c=dv (a.take i)+dv (b.take i)):
  dv (out++[(((x.toNat+y.toNat+c)%1000000000:Nat):Int)])+1000000000^(i+1)*((x.toNat+y.toNat+c)/1000000000)=dv (a.take (i+1))+dv (b.take (i+1)):=by
 rw [nI,nI,kZ,hl,<-hx,<-hy];simp only [dv,xN,xE,yV,xg]
 have:=ajs (1000000000^i) (x.toNat+y.toNat+c)
 grind
section
variable {P:aI} {L:Lib}
def aqo (lP:Has P L 302 qu) {v w:AV} {a b:List Int} (hv:bk v a) (hw:bk w b) (ha:dg a) (hb:dg b) {N:Nat} (la:a.length<=N) (lb:b.length<=N) (lN:N<=20000000000):
  ∀k s,(∃(i c:Nat) (out:List Int),2*(N-i)+c=k/\out.length=i/\c<=1/\dg out/\dv out+1000000000^i*c=dv (a.take i)+dv (b.take i)/\i<=N+1/\(i<=N\/c=0)/\
    ((i=0/\bf [0,1,5,6,7] s=⟨[(0,v),(1,w),(5,.ab),(6,aa c),(7,aa i)],[],0,0⟩)\/
    (0<i/\bf [0,1,5,6,7] s=⟨[(0,v),(1,w),(5,.aE 0 0 i),(6,aa c),(7,aa i)],[(0,.cells true true false 1 (out.map aa))],1,0⟩)))->
   ∃ex s',D P L (.loop [0,1,5,6,7] nO) s=some (ex,s')/\∃tm out,ex= .exit 0/\dg out/\dv out=dv a+dv b/\out.length<=N+1/\((out=[]/\aj tm 5= .ab/\s'=⟨tm,[],0,0⟩)\/(0<out.length/\aj tm 5= .aE 0 0 out.length/\s'=⟨tm,[(0,.cells true true false 1 (out.map aa))],1,0⟩)):=by
 intro dq sq;generalize bQ:bf [0,1,5,6,7] sq=s0;revert bQ s0 sq dq;apply eO;rintro k s ⟨i,c,out,hk,hlen,hc,mA,aQ,hi,EW,hs⟩;have e1:=SF lP hv i;have e2:=SF lP hw i;unfold ae at e1 e2;have ga:=gS ha i;have gb:=gS hb i;by_cases rh:i<a.length\/i<b.length\/0<c
 ·left
  obtain ⟨x,hx⟩:∃x,x=a.getD i 0:=⟨_,rfl⟩;obtain ⟨y,hy⟩:∃y,y=b.getD i 0:=⟨_,rfl⟩;rw [<-hx] at e1 ga;rw [<-hy] at e2 gb;have jQ:=alz (c:=c) hx hy ga.1 gb.1 hlen aQ;obtain ⟨s0,jC⟩:∃s0,s0=x.toNat+y.toNat+c:=⟨_,rfl⟩;rw [<-jC] at jQ;have AD:x+y+(c:Int)=(s0:Int):=by omega
  have hs9:s0<2000000000:=by omega
  have hr:((s0:Nat):Int).tmod 1000000000=((s0%1000000000:Nat):Int):=by rw [xB (by omega)];rfl
  have hq:((s0:Nat):Int).tdiv 1000000000=((s0/1000000000:Nat):Int):=by rw [xS (by omega)];rfl
  have oD:s0/1000000000<=1:=by omega
  have ar6:2*(N-(i+1))+s0/1000000000<k:=by
   by_cases hm:i<N
   ·omega
   ·have:c=1:=by omega
    have zi:x=0:=by rw [hx];exact G5 (by omega)
    have jr:y=0:=by rw [hy];exact G5 (by omega)
    subst zi;subst jr
    have:s0=1:=by rw [jC,this];rfl
    subst this;omega
  have oZ:dg (out++[((s0%1000000000:Nat):Int)]):=gB.2 ⟨mA,jc.2 (by omega)⟩;have RI:(out++[((s0%1000000000:Nat):Int)]).length=i+1:=by simp [hlen]
  have atY:i+1<=N\/s0/1000000000=0:=by
   by_cases hm:i<N
   ·exact .inl hm
   ·right
    have:c=1:=by omega
    have zi:x=0:=by rw [hx];exact G5 (by omega)
    have jr:y=0:=by rw [hy];exact G5 (by omega)
    subst zi;subst jr
    have:s0=1:=by rw [jC,this];rfl
    subst this;rfl
  have fin:∃s',D P L nO s=some (.normal,s')/\bf [0,1,5,6,7] s'=⟨[(0,v),(1,w),(5,.aE 0 0 (i+1)),(6,aa (s0/1000000000:Nat)),(7,aa (i+1:Nat))],[(0,.cells true true false 1 ((out++[((s0%1000000000:Nat):Int)]).map aa))],1,0⟩:=by
   have three:((i:Int)<a.length)\/(¬(i:Int)<a.length/\(i:Int)<b.length)\/(¬(i:Int)<a.length/\¬(i:Int)<b.length/\(0:Int)<c):=by omega
   rcases three with t1 | ⟨t1,t2⟩ | ⟨t1,t2,t3⟩
   ·rcases hs with ⟨h0,rfl⟩ | ⟨h0,rfl⟩
    ·subst h0;have iE:out=[]:=yD hlen;subst iE
     simp only [go_sem,ya,yb,xt,yq,yh,yj,nO,hv.len,hv.af,hw.af,t1,e1,e2,wrap64 (n:=x+y) (by omega) (by omega),AD,wrap64 (n:=(s0:Int)) (by omega) (by omega),fo _ _ _ (show (1000000000:Int)≠0 by decide),eV _ _ _ (show (1000000000:Int)≠0 by decide),hr,hq,wrap64 (n:=((s0/1000000000:Nat):Int)) (by omega) (by omega),ix];refine ⟨_,rfl,?_⟩;rw [wrap64 (by omega) (by omega)];simp only [go_sem,ya,yb,ao,aA hv.pu,aF _ hv.pu,aA hw.pu,aF _ hw.pu]<;>rfl
    ·simp only [go_sem,ya,yb,yh,yj,nO,hv.len,hv.af,hw.af,t1,e1,e2,wrap64 (n:=x+y) (by omega) (by omega),AD,wrap64 (n:=(s0:Int)) (by omega) (by omega),fo _ _ _ (show (1000000000:Int)≠0 by decide),hr]
     rw [hZ (ex:=false) (pu:=true) (cs:=out.map aa) (by simp only [go_sem,ya]) (by rw [yY,hlen,yj]) (by omega) (by omega) (by decide) (by simp only [go_sem])]
     simp only [go_sem,ya,yb,eV _ _ _ (show (1000000000:Int)≠0 by decide),hq,wrap64 (n:=((s0/1000000000:Nat):Int)) (by omega) (by omega)];refine ⟨_,rfl,?_⟩;rw [wrap64 (by omega) (by omega),xy];simp only [go_sem,ya,yb,ao,aA hv.pu,aF _ hv.pu,aA hw.pu,aF _ hw.pu]<;>rfl
   ·rcases hs with ⟨h0,rfl⟩ | ⟨h0,rfl⟩
    ·subst h0;have iE:out=[]:=yD hlen;subst iE
     simp only [go_sem,ya,yb,xt,yq,yh,yj,nO,hv.len,hv.af,hw.len,hw.af,t1,t2,e1,e2,wrap64 (n:=x+y) (by omega) (by omega),AD,wrap64 (n:=(s0:Int)) (by omega) (by omega),fo _ _ _ (show (1000000000:Int)≠0 by decide),eV _ _ _ (show (1000000000:Int)≠0 by decide),hr,hq,wrap64 (n:=((s0/1000000000:Nat):Int)) (by omega) (by omega),ix];refine ⟨_,rfl,?_⟩;rw [wrap64 (by omega) (by omega)];simp only [go_sem,ya,yb,ao,aA hv.pu,aF _ hv.pu,aA hw.pu,aF _ hw.pu]<;>rfl
    ·simp only [go_sem,ya,yb,yh,yj,nO,hv.len,hv.af,hw.len,hw.af,t1,t2,e1,e2,wrap64 (n:=x+y) (by omega) (by omega),AD,wrap64 (n:=(s0:Int)) (by omega) (by omega),fo _ _ _ (show (1000000000:Int)≠0 by decide),hr]
     rw [hZ (ex:=false) (pu:=true) (cs:=out.map aa) (by simp only [go_sem,ya]) (by rw [yY,hlen,yj]) (by omega) (by omega) (by decide) (by simp only [go_sem])]
     simp only [go_sem,ya,yb,eV _ _ _ (show (1000000000:Int)≠0 by decide),hq,wrap64 (n:=((s0/1000000000:Nat):Int)) (by omega) (by omega)];refine ⟨_,rfl,?_⟩;rw [wrap64 (by omega) (by omega),xy];simp only [go_sem,ya,yb,ao,aA hv.pu,aF _ hv.pu,aA hw.pu,aF _ hw.pu]<;>rfl
   ·rcases hs with ⟨h0,rfl⟩ | ⟨h0,rfl⟩
    ·subst h0;have iE:out=[]:=yD hlen;subst iE
     simp only [go_sem,ya,yb,xt,yq,yh,yj,nO,hv.len,hv.af,hw.len,hw.af,t1,t2,t3,e1,e2,wrap64 (n:=x+y) (by omega) (by omega),AD,wrap64 (n:=(s0:Int)) (by omega) (by omega),fo _ _ _ (show (1000000000:Int)≠0 by decide),eV _ _ _ (show (1000000000:Int)≠0 by decide),hr,hq,wrap64 (n:=((s0/1000000000:Nat):Int)) (by omega) (by omega),ix];refine ⟨_,rfl,?_⟩;rw [wrap64 (by omega) (by omega)];simp only [go_sem,ya,yb,ao,aA hv.pu,aF _ hv.pu,aA hw.pu,aF _ hw.pu]<;>rfl
    ·simp only [go_sem,ya,yb,yh,yj,nO,hv.len,hv.af,hw.len,hw.af,t1,t2,t3,e1,e2,wrap64 (n:=x+y) (by omega) (by omega),AD,wrap64 (n:=(s0:Int)) (by omega) (by omega),fo _ _ _ (show (1000000000:Int)≠0 by decide),hr]
     rw [hZ (ex:=false) (pu:=true) (cs:=out.map aa) (by simp only [go_sem,ya]) (by rw [yY,hlen,yj]) (by omega) (by omega) (by decide) (by simp only [go_sem])]
     simp only [go_sem,ya,yb,eV _ _ _ (show (1000000000:Int)≠0 by decide),hq,wrap64 (n:=((s0/1000000000:Nat):Int)) (by omega) (by omega)];refine ⟨_,rfl,?_⟩;rw [wrap64 (by omega) (by omega),xy];simp only [go_sem,ya,yb,ao,aA hv.pu,aF _ hv.pu,aA hw.pu,aF _ hw.pu]<;>rfl
  obtain ⟨s',f1,f2⟩:=fin;exact ⟨s',_,f1,ar6,i+1,s0/1000000000,_,rfl,RI,oD,oZ,jQ,by omega,atY,.inr ⟨by omega,f2⟩⟩
 ·right
  have kj:c=0:=by omega
  subst kj;rw [xE,yV,yE (by omega),yE (by omega)] at aQ;rcases hs with ⟨h0,rfl⟩ | ⟨h0,rfl⟩
  ·simp only [go_sem,ya,nO,hv.len,hw.len,show ¬(i:Int)<a.length by omega,show ¬(i:Int)<b.length by omega,show ¬(0:Int)<((0:Nat):Int) by omega];exact ⟨_,_,rfl,by simp,_,out,rfl,mA,aQ,by omega,.inl ⟨yD (by omega),by simp only [go_sem,ya],rfl⟩⟩
  ·simp only [go_sem,ya,nO,hv.len,hw.len,show ¬(i:Int)<a.length by omega,show ¬(i:Int)<b.length by omega,show ¬(0:Int)<((0:Nat):Int) by omega];exact ⟨_,_,rfl,by simp,_,out,rfl,mA,aQ,by omega,.inr ⟨by omega,by rw [hlen];simp only [go_sem,ya],rfl⟩⟩
def ad6 (h:Has P L 295 ID) (lP:Has P L 302 qu) {v w:AV} {a b:List Int} (hv:bk v a) (hw:bk w b) (ha:dg a) (hb:dg b) (la:a.length<=20000000000) (lb:b.length<=20000000000):
  ∃r out,ae P L 295 [v,w] r/\bk (shut r) out/\dg out/\dv out=dv a+dv b/\out.length<=max a.length b.length+1:=by
 have iD:∃out,ae P L 295 [v,w] (if out=[] then .ab else .cp false 1 out.length (out.map aa))/\dg out/\dv out=dv a+dv b/\out.length<=max a.length b.length+1:=by
  unfold ae;rw [au h];simp only [go_sem,ID];generalize hq:D P L (.loop [0,1,5,6,7] nO) _=q;obtain ⟨ex,s,rfl,tm,out,rfl,hd,aQ,hl,hs⟩:=bI hq (aqo (P:=P) (L:=L) lP hv hw ha hb (N:=max a.length b.length) (by omega) (by omega) (by omega) (2*(max a.length b.length))) ⟨0,0,[],by omega,rfl,by omega,rfl,by simp [dv],by omega,.inr rfl,.inl ⟨rfl,by simp only [go_sem,ya,ao,aA hv.pu,aF _ hv.pu,aA hw.pu,aF _ hw.pu]<;>rfl⟩⟩
  refine ⟨out,?_,hd,aQ,hl⟩;rcases hs with ⟨h0,h5,rfl⟩ | ⟨h0,h5,rfl⟩
  ·rw [yL h0];simp only [go_sem,ao,h5]
  ·rw [yF (by intro e;subst e;simp at h0)];simp only [go_sem,yb,ao,h5];exact zA (rH _ _ _) (by simp) (by decide)
 obtain ⟨out,g1,g2,g3,g4⟩:=iD;refine ⟨_,out,g1,?_,g2,g3,g4⟩
 split
 ·rename_i e;subst e;exact lh
 ·exact fb false out
end
end
section
open Go (IntKind)
section
variable {P:aI} {L:Lib}
def S9 (h:Has P L 296 qt) {v w:AV} {a b:List Int} (hv:bk v a) (hw:bk w b) (ha:dg a) (hb:dg b) (na:nz a) (nb:nz b) (la:a.length<=20000000000) (lb:b.length<=20000000000):
  ae P L 296 [v,w] (aa (dF (dv a) (dv b))):=by
 unfold ae;rw [au h];by_cases hlen:a.length=b.length
 ·have key:=eh (P:=P) (L:=L) (live:=[0,1,5]) (a:=BN)
   (I:=fun k st=>∃j:Nat,st=⟨[(0,v),(1,w),(5,aa ((j:Int)-1))],[],0,0⟩/\j<=a.length/\j=k/\a.drop j=b.drop j)
   (Q:=fun ex st=>∃tm ct,st=⟨tm,[],ct,0⟩/\((ex= .ret/\aj tm 4=aa (dF (dv a) (dv b)))\/(ex= .exit 0/\a=b))) ?_
  ·simp only [go_sem,ya,qt,hv.len,hw.len,show (a.length:Int)=b.length by omega];generalize hq:D P L (.loop [0,1,5] BN) _=q;obtain ⟨ex,st,rfl,tm,ct,rfl,h2⟩:=bI hq (key a.length) ⟨a.length,by
    rw [wrap64 (by omega) (by omega)];rw [hlen]
    simp only [go_sem,ya,ao,aA hv.pu,aF _ hv.pu,aA hw.pu,aF _ hw.pu]<;>rfl,yv _,rfl,by rw [yP (yv _),yP (by omega)]⟩
   rcases h2 with ⟨rfl,h2⟩ | ⟨rfl,h2⟩
   ·simp only [go_sem,h2]
   ·simp only [go_sem,ao];subst h2;simp [dF]
  ·rintro k st ⟨j,rfl,hj,rfl,he⟩
   cases j with
   | zero=>
    right
    simp only [go_sem,ya,BN,show ¬(0:Int)<=((0:Nat):Int)-1 by omega];exact ⟨_,_,rfl,by simp,_,_,rfl,.inr ⟨rfl,by simpa using he⟩⟩
   | succ i=>
    have h1:i<a.length:=by omega
    have h2:i<b.length:=by omega
    have E0:=ZB ha hb h1 h2 he;have a6:=ZB hb ha h2 h1 he.symm;by_cases c1:a[i]<b[i]
    ·right
     simp only [go_sem,ya,BN,show ((i+1:Nat):Int)-1=(i:Int) by omega,show (0:Int)<=(i:Int) by omega,hv.a8 h1,hw.a8 h2,c1];refine ⟨_,_,rfl,by simp,_,_,rfl,.inl ⟨rfl,?_⟩⟩;simp only [go_sem];unfold dF;rw [yL (E0 c1)]
    ·by_cases c2:b[i]<a[i]
     ·right
      simp only [go_sem,ya,BN,show ((i+1:Nat):Int)-1=(i:Int) by omega,show (0:Int)<=(i:Int) by omega,hv.a8 h1,hw.a8 h2,c1,c2];refine ⟨_,_,rfl,by simp,_,_,rfl,.inl ⟨rfl,?_⟩⟩;simp only [go_sem];unfold dF;rw [yF (by omega),yL (by omega)]
     ·left
      simp only [go_sem,ya,BN,show ((i+1:Nat):Int)-1=(i:Int) by omega,show (0:Int)<=(i:Int) by omega,hv.a8 h1,hw.a8 h2,c1,c2];refine ⟨_,i,rfl,by omega,i,?_,by omega,rfl,?_⟩
      ·rw [wrap64 (by omega) (by omega)];simp only [go_sem,ya,ao,aA hv.pu,aF _ hv.pu,aA hw.pu,aF _ hw.pu]<;>rfl
      ·rw [yJ h1,yJ h2,he,show a[i]=b[i] by omega]
 ·by_cases c1:a.length<b.length
  ·have:=QP ha nb hb c1
   simp only [go_sem,ya,qt,hv.len,hw.len,show ¬(a.length:Int)=b.length by omega,show (a.length:Int)<b.length by omega];unfold dF;rw [yL this]
  ·have:=QP hb na ha (show b.length<a.length by omega)
   simp only [go_sem,ya,qt,hv.len,hw.len,show ¬(a.length:Int)=b.length by omega,show ¬(a.length:Int)<b.length by omega];unfold dF;rw [yF (by omega),yL this]
def alA {a b out:List Int} {i c:Nat} {x y z:Int} {c':Nat} (hx:x=a.getD i 0) (hy:y=b.getD i 0) (h1:0<=x) (h2:0<=y) (h3:0<=z) (hz:z=x-y-c+1000000000*c') (hl:out.length=i) (hv:dv out+dv (b.take i)=dv (a.take i)+1000000000^i*c):
  dv (out++[z])+dv (b.take (i+1))=dv (a.take (i+1))+1000000000^(i+1)*c':=by
 rw [nI,nI,kZ,hl,<-hx,<-hy];simp only [dv,xE,yV,xg];have e:z.toNat+y.toNat+c=x.toNat+1000000000*c':=by omega
 grind
end
end
section
open Go (IntKind)
section
variable {P:aI} {L:Lib}
def aqp (lP:Has P L 302 qu) {v w:AV} {a b:List Int} (hv:bk v a) (hw:bk w b) (ha:dg a) (hb:dg b) (la:a.length<=20000000000) (hle:dv b<=dv a) (C0:b.length<=a.length):
  ∀k s,(∃(i c:Nat) (out:List Int),i+k=a.length/\out.length=i/\c<=1/\dg out/\dv out+dv (b.take i)=dv (a.take i)+1000000000^i*c/\
    ((i=0/\bf [0,1,5,6,7] s=⟨[(0,v),(1,w),(5,.ab),(6,aa c),(7,aa i)],[],0,0⟩)\/
    (0<i/\bf [0,1,5,6,7] s=⟨[(0,v),(1,w),(5,.aE 0 0 i),(6,aa c),(7,aa i)],[(0,.cells true true false 1 (out.map aa))],1,0⟩)))->
   ∃ex s',D P L (.loop [0,1,5,6,7] pU) s=some (ex,s')/\∃tm out,ex= .exit 0/\dg out/\dv out+dv b=dv a/\out.length<=20000000000/\((out=[]/\aj tm 5= .ab/\s'=⟨tm,[],0,0⟩)\/(0<out.length/\aj tm 5= .aE 0 0 out.length/\s'=⟨tm,[(0,.cells true true false 1 (out.map aa))],1,0⟩)):=by
 intro dq sq;generalize bQ:bf [0,1,5,6,7] sq=s0;revert bQ s0 sq dq;apply eO;rintro k s ⟨i,c,out,hk,hlen,hc,mA,aQ,hs⟩;have e2:=SF lP hw i;unfold ae at e2;have ga:=gS ha i;have gb:=gS hb i;by_cases rh:i<a.length
 ·left
  obtain ⟨x,hx⟩:∃x,x=a.getD i 0:=⟨_,rfl⟩;obtain ⟨y,hy⟩:∃y,y=b.getD i 0:=⟨_,rfl⟩;have C2:a[i]=x:=by rw [hx];simp [List.getD_eq_getElem?_getD,List.getElem?_eq_getElem rh]
  have e1:=hv.a8 rh;rw [C2] at e1;rw [<-hx] at ga;rw [<-hy] at e2 gb;obtain ⟨z,c',hz,oD,kU,kO,B8⟩:∃(z:Int) (c':Nat),z=x-y-c+1000000000*c'/\c'<=1/\0<=z/\z<1000000000/\((x-y-c<0/\c'=1)\/(¬x-y-c<0/\c'=0)):=by
   by_cases h:x-y-c<0
   ·exact ⟨x-y-c+1000000000,1,by omega,by omega,by omega,by omega,.inl ⟨h,rfl⟩⟩
   ·exact ⟨x-y-c,0,by omega,by omega,by omega,by omega,.inr ⟨h,rfl⟩⟩
  have jQ:=alA hx hy ga.1 gb.1 kU hz hlen aQ;have oZ:dg (out++[z]):=gB.2 ⟨mA,jc.2 ⟨kU,kO⟩⟩;have RI:(out++[z]).length=i+1:=by simp [hlen]
  have fin:∃s',D P L pU s=some (.normal,s')/\bf [0,1,5,6,7] s'=⟨[(0,v),(1,w),(5,.aE 0 0 (i+1)),(6,aa c'),(7,aa (i+1:Nat))],[(0,.cells true true false 1 ((out++[z]).map aa))],1,0⟩:=by
   rcases B8 with ⟨fk,rfl⟩ | ⟨fk,rfl⟩
   ·have dZ:x-y-c+1000000000=z:=by omega
    rcases hs with ⟨h0,rfl⟩ | ⟨h0,rfl⟩
    ·subst h0;have iE:out=[]:=yD hlen;subst iE
     simp only [go_sem,ya,yb,xt,yq,yh,yj,pU,hv.len,hw.af,show ((0:Nat):Int)<a.length by omega,e1,e2,wrap64 (n:=x-y) (by omega) (by omega),wrap64 (n:=x-y-(c:Int)) (by omega) (by omega),fk,dZ,wrap64 (n:=z) (by omega) (by omega),ix];refine ⟨_,rfl,?_⟩;rw [wrap64 (by omega) (by omega)];simp only [go_sem,ya,yb,ao,aA hv.pu,aF _ hv.pu,aA hw.pu,aF _ hw.pu]<;>rfl
    ·simp only [go_sem,ya,yb,yh,yj,pU,hv.len,hw.af,show (i:Int)<a.length by omega,e1,e2,wrap64 (n:=x-y) (by omega) (by omega),wrap64 (n:=x-y-(c:Int)) (by omega) (by omega),fk,dZ,wrap64 (n:=z) (by omega) (by omega)]
     rw [hZ (ex:=false) (pu:=true) (cs:=out.map aa) (by simp only [go_sem,ya]) (by rw [yY,hlen,yj]) (by omega) (by omega) (by decide) (by simp only [go_sem])];simp only [go_sem,ya,yb];refine ⟨_,rfl,?_⟩;rw [wrap64 (by omega) (by omega),xy];simp only [go_sem,ya,yb,ao,aA hv.pu,aF _ hv.pu,aA hw.pu,aF _ hw.pu]<;>rfl
   ·have dZ:x-y-c=z:=by omega
    have fk:¬z<0:=by omega
    rcases hs with ⟨h0,rfl⟩ | ⟨h0,rfl⟩
    ·subst h0;have iE:out=[]:=yD hlen;subst iE
     simp only [go_sem,ya,yb,xt,yq,yh,yj,pU,hv.len,hw.af,show ((0:Nat):Int)<a.length by omega,e1,e2,wrap64 (n:=x-y) (by omega) (by omega),dZ,wrap64 (n:=z) (by omega) (by omega),fk,ix];refine ⟨_,rfl,?_⟩;rw [wrap64 (by omega) (by omega)];simp only [go_sem,ya,yb,ao,aA hv.pu,aF _ hv.pu,aA hw.pu,aF _ hw.pu]<;>rfl
    ·simp only [go_sem,ya,yb,yh,yj,pU,hv.len,hw.af,show (i:Int)<a.length by omega,e1,e2,wrap64 (n:=x-y) (by omega) (by omega),dZ,wrap64 (n:=z) (by omega) (by omega),fk]
     rw [hZ (ex:=false) (pu:=true) (cs:=out.map aa) (by simp only [go_sem,ya]) (by rw [yY,hlen,yj]) (by omega) (by omega) (by decide) (by simp only [go_sem])];simp only [go_sem,ya,yb];refine ⟨_,rfl,?_⟩;rw [wrap64 (by omega) (by omega),xy];simp only [go_sem,ya,yb,ao,aA hv.pu,aF _ hv.pu,aA hw.pu,aF _ hw.pu]<;>rfl
  obtain ⟨s',f1,f2⟩:=fin;exact ⟨s',k-1,f1,by omega,i+1,c',_,by omega,RI,oD,oZ,jQ,.inr ⟨by omega,f2⟩⟩
 ·right
  have acV:dv out+dv b=dv a:=by
   rw [yE (by omega),yE (by omega)] at aQ;have a6:=jh mA;rw [hlen] at a6;rcases (show c=0\/c=1 by omega) with rfl | rfl
   ·omega
   ·omega
  rcases hs with ⟨h0,rfl⟩ | ⟨h0,rfl⟩
  ·simp only [go_sem,ya,pU,hv.len,show ¬(i:Int)<a.length by omega];exact ⟨_,_,rfl,by simp,_,out,rfl,mA,acV,by omega,.inl ⟨yD (by omega),by simp only [go_sem,ya],rfl⟩⟩
  ·simp only [go_sem,ya,pU,hv.len,show ¬(i:Int)<a.length by omega];exact ⟨_,_,rfl,by simp,_,out,rfl,mA,acV,by omega,.inr ⟨by omega,by rw [hlen];simp only [go_sem,ya],rfl⟩⟩
def ad7 (h:Has P L 297 IE) (lP:Has P L 302 qu) (cJ:Has P L 300 kJ) {v w:AV} {a b:List Int} (hv:bk v a) (hw:bk w b) (ha:dg a) (hb:dg b) (na:nz a) (nb:nz b) (la:a.length<=20000000000) (hle:dv b<=dv a):
  ∃r out,ae P L 297 [v,w] r/\bk r out/\shut r=r/\dg out/\nz out/\dv out+dv b=dv a:=by
 have C0:b.length<=a.length:=by
  by_cases h:a.length<b.length
  ·have:=QP ha nb hb h;omega
  ·omega
 unfold ae;rw [au h];simp only [go_sem,IE];generalize hq:D P L (.loop [0,1,5,6,7] pU) _=q;obtain ⟨ex,s,rfl,tm,out,rfl,hd,aQ,hl,hs⟩:=bI hq (aqp (P:=P) (L:=L) lP hv hw ha hb la hle C0 a.length) ⟨0,0,[],by omega,rfl,by omega,rfl,by simp [dv],.inl ⟨rfl,by simp only [go_sem,ya,ao,aA hv.pu,aF _ hv.pu,aA hw.pu,aF _ hw.pu]<;>rfl⟩⟩
 have mZ:=fb false out;rcases hs with ⟨h0,h5,rfl⟩ | ⟨h0,h5,rfl⟩
 ·subst h0;obtain ⟨r,e1,hr,fH⟩:=Ay cJ (v:= .ab) (l:=[]) lh (by simp);refine ⟨r,dL [],?_,hr,fH,rfl,rfl,by rw [rG];exact aQ⟩
  simp only [go_sem,ao,h5,e1,fH,hr.dY]
 ·obtain ⟨r,e1,hr,fH⟩:=Ay cJ mZ hl;refine ⟨r,dL out,?_,hr,fH,zF hd,DF out,by rw [rG];exact aQ⟩
  have gA:∀hp:Hp,kL 0 out.length (some (false,1,out.map aa,hp))=some (.aH false out.length (out.map aa),hp):=fun hp=>pM false (by simp) (by decide)
  simp only [go_sem,yb,ao,h5,gA,e1,fH,hr.dY]
end
end
section
open Go (IntKind)
def Bg {hp:Hp} {ct id o:Nat} {v:Int} {ex:Bool} {l:List Int} (h:o<l.length):fM hp ct id o 1 [.int .i64 v] (some (.cells true true ex 1 (l.map aa)))=some (.aq [],bh hp id (.cells true true ex 1 ((l.set o v).map aa)),ct):=by
 rw [nV (by rfl) (by simp;omega) (by rfl)]
 have:over o [AV.int .i64 v] (l.map aa)=(l.set o v).map aa:=by
  simp only [over,yu,yA,yd];rw [ybb,uy,yL (by simpa using h)]
  simp
 rw [this];rfl
def p9 {l:List Int} {o:Nat} (h:o<l.length):xo o (l.map aa)=AV.int .i64 (l.getD o 0)::xo (o+1) (l.map aa):=by
 rw [yJ (by simpa using h)]
 grind
def oW {v:AV} {l:List Int} (hv:bk v l) {i:Nat} (h:i<l.length):gU 1 i v=some (.aO (.int .i64 (l.getD i 0)::(l.map aa).drop (i+1))):=by
 rw [hv.a8 h]
 grind
def alB {o x y c:Int} (ho:0<=o/\o<1000000000) (hx:0<=x/\x<1000000000) (hy:0<=y/\y<1000000000) (hc:0<=c/\c<1000000000):
  (0<=x*y/\x*y<=999999998000000001)/\0<=o+x*y+c/\o+x*y+c<1000000000000000000:=by
 have h1:=Int.mul_nonneg hx.1 hy.1;have h2:=Int.mul_le_mul (show x<=999999999 by omega) (show y<=999999999 by omega) hy.1 (by decide);omega
section
variable {P:aI} {L:Lib}
def aqq {v w:AV} {a b:List Int} (hv:bk v a) (hw:bk w b) (ha:dg a) (hb:dg b) (la:a.length<=20000000000) (lb:b.length<=20000000000) {n i:Nat} (hn:n=a.length+b.length) (hi:i<a.length) {out0:List Int}:
  ∀k s,(∃(j:Nat) (c:Int) (out:List Int),bf [0,1,5,6,7,8] s=⟨[(0,v),(1,w),(5,.aE 0 0 n),(6,aa i),(7,aa c),(8,aa j)],[(0,.cells true true true 1 (out.map aa))],1,0⟩/\j+k=b.length/\out.length=n/\dg out/\(0<=c/\c<1000000000)/\
    dv out+1000000000^i*1000000000^j*c.toNat=dv out0+1000000000^i*((a.getD i 0).toNat*dv (b.take j))/\(∀m,i+b.length<=m->out.getD m 0=out0.getD m 0))->
   ∃ex s',D P L (.loop [0,1,5,6,7,8] HG) s=some (ex,s')/\∃tm c out,s'=⟨tm,[(0,.cells true true true 1 (out.map aa))],1,0⟩/\ex= .exit 2/\aj tm 0=v/\aj tm 1=w/\aj tm 5= .aE 0 0 n/\aj tm 6=aa i/\aj tm 7=aa c/\out.length=n/\dg out/\(0<=c/\c<1000000000)/\
    dv out+1000000000^i*1000000000^b.length*c.toNat=dv out0+1000000000^i*((a.getD i 0).toNat*dv b)/\(∀m,i+b.length<=m->out.getD m 0=out0.getD m 0):=by
 intro dq sq;generalize bQ:bf [0,1,5,6,7,8] sq=s0;revert bQ s0 sq dq;apply eO;rintro k s ⟨j,c,out,rfl,hk,hlen,hd,hc,aQ,fN⟩;by_cases hj:j<b.length
 ·left
  obtain ⟨x,hx⟩:∃x,x=a.getD i 0:=⟨_,rfl⟩;obtain ⟨y,hy⟩:∃y,y=b.getD j 0:=⟨_,rfl⟩;obtain ⟨o,ho⟩:∃o,o=out.getD (i+j) 0:=⟨_,rfl⟩;have gx:=gS ha i;have gy:=gS hb j;have my:=gS hd (i+j);rw [<-hx] at gx;rw [<-hy] at gy;rw [<-ho] at my;obtain ⟨p1,p2,p3⟩:=alB my gx gy hc;obtain ⟨t,ht⟩:∃t:Nat,o+x*y+c=t:=⟨(o+x*y+c).toNat,by omega⟩;have hr:((t:Nat):Int).tmod 1000000000=((t%1000000000:Nat):Int):=by rw [xB (by omega)];rfl
  have hq:((t:Nat):Int).tdiv 1000000000=((t/1000000000:Nat):Int):=by rw [xS (by omega)];rfl
  have e1:=oW hv hi;have e2:=oW hw hj;rw [<-hx] at e1;rw [<-hy] at e2;have e3:=p9 (l:=out) (o:=i+j) (by omega);rw [<-ho] at e3;have zc:t=o.toNat+x.toNat*y.toNat+c.toNat:=by
   have:((x.toNat*y.toNat:Nat):Int)=x*y:=by rw [Int.natCast_mul,tN gx.1,tN gy.1]
   omega
  have bh:=QQ (l:=out) (j:=i+j) (x:=((t%1000000000:Nat):Int)) (by omega);rw [<-ho,xN,wj] at bh;have jQ:=akn (Y:=dv (b.take j)) zc bh (by rw [hx];exact aQ)
  simp only [go_sem,ya,yj,HG,hw.len,show (j:Int)<b.length by omega,wrapN (n:=i+j) (by omega),show (i:Int)+(j:Int)=((i+j:Nat):Int) from rfl,db 0 0 (show i+j<n by omega),yd,e3,e1,e2,wrap64 (n:=x*y) (by omega) (by omega),wrap64 (n:=o+x*y) (by omega) (by omega),ht,wrapN (n:=t) (by omega),fo _ _ _ (show (1000000000:Int)≠0 by decide),eV _ _ _ (show (1000000000:Int)≠0 by decide),hr,hq,wrapN (n:=t/1000000000) (by omega),Bg (l:=out) (o:=i+j) (by omega)];refine ⟨_,k-1,rfl,by omega,j+1,((t/1000000000:Nat):Int),out.set (i+j) ((t%1000000000:Nat):Int),?_,by omega,by simp [hlen],LR hd (by omega),by omega,?_,fun m hm=>?_⟩
  ·rw [wrap64 (by omega) (by omega)];simp only [go_sem,ya,yb,ao,aA hv.pu,aF _ hv.pu,aA hw.pu,aF _ hw.pu]<;>rfl
  ·rw [xN,nI,xg,<-hx,<-hy];exact jQ
  ·rw [Yx (by omega)];exact fN m hm
 ·right
  have:j=b.length:=by omega
  subst this;rw [xM] at aQ;simp only [go_sem,ya,HG,hw.len,show ¬(b.length:Int)<b.length by omega];exact ⟨_,_,rfl,by simp,_,c,out,rfl,rfl,by simp only [go_sem,ya],by simp only [go_sem,ya],by simp only [go_sem,ya],by simp only [go_sem,ya],by simp only [go_sem,ya],hlen,hd,hc,aQ,fN⟩
end
end
end VE
