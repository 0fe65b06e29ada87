import Derived.Test.YtfohkkaphnfgoaaGreatDoorTao
import Derived.Test.YtfohkkaphnfgoaaGreatDoorTai
import Derived.Test.YtfohkkaphnfgoaaGreatDoorTak
import Derived.Test.YtfohkkaphnfgoaaGreatDoorTan
import Derived.Test.YtfohkkaphnfgoaaGreatDoorTal
import Derived.Test.YtfohkkaphnfgoaaGreatDoorTah
set_option linter.all false
set_option maxRecDepth 100000
open Bool renaming and_eq_true→ye,and_self→wv,false_and→wK,false_eq_true→yF,false_or→wX,not_false→yI,not_true→yJ,true_and→wI,true_or→uy
open Go renaming DataW→xx,Field→uF,FloatKind→vK,IntKind→yY,MemPlace→wg,Program→xi,TypeId→yy,Value→yf,World→yj
open Int renaming natAbs_natCast→wW,tdiv_eq_ediv_of_nonneg→xZ,tmod_eq_emod_of_nonneg→xE,toNat_natCast→xp,toNat_of_nonneg→uX
open List renaming append_assoc→xF,append_nil→wJ,drop→xg,drop_eq_getElem_cons→yN,drop_eq_nil_of_le→yT,drop_zero→yg,eq_nil_of_length_eq_zero→yD,flatMap_def→yan,length_append→yW,length_cons→yC,length_drop→wi,length_map→yL,length_nil→yK,length_take→yQ,mapM_cons→vQ,map_append→xq,map_cons→yV,map_set→ybk,mem_cons→wq,mem_cons_of_mem→xS,mem_cons_self→wA,mem_map→wb,set_eq_take_append_cons_drop→uE,take_length→xQ,take_of_length_le→yp
open Nat renaming add_zero→y7,beq→yv,ble→yE,blt→yM,eq_of_beq_eq_true→yo,gcd→wD,le_of_ble_eq_true→yu,le_refl→yr,le_trans→xn,lt_of_lt_of_le→yP,mul_one→yh,mul_zero→xI,pow_add→wB,pow_le_pow_left→uo,pow_le_pow_right→xD,pow_mul→uW,pow_succ→xk,reduceAdd→yb,reduceEqDiff→ya,reduceLT→yt,reduceLeDiff→yi,reduceMul→xj,zero_add→yd
open Option renaming bind_eq_bind→ve,bind_some→xO,map_eq_some_iff→wj,pure_def→wG
open Option.some renaming injEq→yc
open Prod.mk renaming injEq→yq
namespace VE
section
open Go (IntKind)
def ajT:∀(cs:List AV) (l:List Nat),sn cs=some l->cs=l.map uc/\lo 18446744073709551616 l:=by
 intro cs
 induction cs with
 | nil=>
  intro l h;simp only [sn,yc] at h;subst h;exact ⟨rfl,fun _ h=>by cases h⟩
 | cons c cs ih=>
  intro l h;unfold sn at h
  split at h
  ·grind
  ·rename_i d r oK;cases oK
   cases hb:yM d 18446744073709551616 with
   | false=>rw [hb] at h;cases h
   | true=>
    rw [hb] at h
    cases hw:sn cs with
    | none=>rw [hw] at h;cases h
    | some l'=>
     rw [hw] at h;cases h;obtain ⟨k1,k2⟩:=ih l' hw;refine ⟨by rw [k1];rfl,fun x hx=>?_⟩
     rcases wq.1 hx with rfl | hx
     ·simp_all
     ·exact k2 x hx
  ·cases h
def ZX:∀{l:List Nat},Bz l=true->gY l
 | [],h=>by cases h
 | [a],h=>by
  have h0:a≠0:=fun e=>by subst e;cases h
  exact EV h0 []
 | a::b::r,h=>by
  have h1:ef (b::r)=b::r:=ZX (l:=b::r) h;show ef (a::(b::r))=_
  simp only [ef] at h1 ⊢;rw [h1]
section
variable {P:aG} {L:Lib}
def apT (h:Has P L 99 Ek) (Vx:L.pure 135=some JM) {s:Int} (hs:Bs s=true):bQ P L (D P L) 99 [.agg [aa s,.ab]]=some (.str (aY s)):=by
 have e1:bQ P L (D P L) 135 [aa s]=some (.str (aY s)):=by
  rw [js Vx];show (bif Bs s then some (AV.str (aY s)) else none)=_
  rw [hs];rfl
 rw [ay h];simp only [go_sem,ya,yb,Ek,aK,aV,yd,bX,gR,dZ,e1]
end
section
open Go
variable {O:bt}
def alw (hO:eM O) (hN:Nu O.prog O.aW) (Vx:O.aW.pure 135=some JM) (D0:O.aW.pure 138=some AT) (Al:O.aW.pure 139=some Ba) (Ha:Has O.prog O.aW 99 Ek) {fn:Func} {c:Code} (lI:O.P.funcs[O.ai 99]? =some fn) (jo:fn.body=some c) (PX:fn.ntmps=69)
  (Vu:PC 5 c) (ht:SX O.P c):∀aq r,NM aq=some r->eS O 99 aq r:=by
 intro aq r h;unfold NM at h
 split at h
 ·rename_i s
  cases hs:Bs s with
  | false=>rw [hs] at h;cases h
  | true=>
   rw [hs] at h;cases h;obtain ⟨k,hk⟩:=adj (apT (P:=O.prog) (L:=O.aW) Ha Vx hs);exact sound hO hk
 ·rename_i s e n cs
  cases hw:sn cs with
  | none=>rw [hw] at h;cases h
  | some l=>
   rw [hw] at h;simp only at h
   cases hb:(yv l.length n&&(yE n 4000000000&&(Bz l&&yE 9223372036854775808 (sM l)))) with
   | false=>rw [hb] at h;cases h
   | true=>
    rw [hb] at h;simp only [ye] at hb;obtain ⟨h1,h2,h3,h4⟩:=hb;obtain ⟨rfl,bj⟩:=ajT cs l hw;have h1:=yo h1;subst h1;have h2:=yu h2;have h4:=yu h4;have h3:=ZX h3;rw [SV] at h4 h;have a7:=mA bj;have key:=fun (s z:Int) (hz:z.natAbs=bv 18446744073709551616 l) (hs:s=if z<0 then -1 else 1)=>
     anz hO hN D0 Al Ha.code lI jo PX Vu ht (s:=s) (z:=z) (e:=e) (l:=l) (.inr ⟨e,l,rfl,bj,h3,hz.symm,hs,by omega⟩) (by omega) h2 (by omega)
    split at h
    ·cases h
     have:=key 1 (bv 18446744073709551616 l:Nat) (by simp) (by rw [yA (by omega)])
     exact this
    ·cases h
     have:=key (-1) (-(bv 18446744073709551616 l:Nat):Int) (by simp) (by rw [yH (by omega)])
     rw [nh (by omega)] at this
     grind
    ·cases h
 ·cases h
end
end
section
open Go
def TE (L:Lib) (n:Nat) (sp:List AV->Option AV):Lib:=⟨fun i=>bif yv i n then some sp else L.pure i,L.heap⟩
def alx {O:bt} (hO:eM O) {n:Nat} {sp:List AV->Option AV} (h:∀aq r,sp aq=some r->eS O n aq r):eM (O.zJ (TE O.aW n sp)) where
 hint:=hO.hint
 mixed:=hO.mixed
 prog:=hO.prog
 aW i Qk aq r hi hs:=by
  show eS O i aq r
  simp only [TE] at hi
  cases hb:yv i n with
  | true=>
   simp_all
  | false=>
   rw [hb] at hi;exact hO.aW i Qk aq r hi hs
 F1 i Qk hp ct aq v ap bc hi hs:=ZI (hO.F1 i Qk hp ct aq v ap bc hi hs)
end
section
open Go
section
variable {H:Type} {enc:yy×yf->H} {P:xi} {w:yj} {base:Nat} {sp:Nat->Bool} {held:Bool}
def mapM_mem {α β:Type} {f:α->Option β}:∀{l:List α} {r:List β},l.mapM f=some r->∀y,y∈r->∃x,f x=some y
 | [],r,h,y,hy=>by simp only [List.mapM_nil,wG,yc] at h;subst h;cases hy
 | x::l,r,h,y,hy=>by
  rw [vQ] at h
  cases h1:f x with
  | none=>simp [h1] at h
  | some z=>
   cases h2:l.mapM f with
   | none=>simp [h1,h2] at h
   | some zs=>
    simp only [h1,h2,xO,ve,wG,yc] at h;subst h;rcases wq.1 hy with rfl | hy
    ·exact ⟨x,h1⟩
    ·exact mapM_mem h2 y hy
def Rd (enc:yy×yf->H) (P:xi) (w:yj) (base:Nat) (sp:Nat->Bool) (held:Bool) (t:yy) (d:xx H):Prop:=∃bA cs ps,DataW.trod enc P w base sp held bA t cs=some (d,ps)
def asw {t:yy} {k:yY} {d:xx H} {n:Nat} (ht:P.underlying t=some (.int k)) (h:Rd enc P w base sp held t d):∃z,cA P (n+1) t d=[.int k z]/\(Lit.int k z).wf=true:=by
 obtain ⟨bA,cs,ps,h⟩:=h
 cases bA with
 | zero=>simp [DataW.trod] at h
 | succ bA=>
  unfold DataW.trod at h
  split at h
  all_goals first
   | (rename_i hu;rw [ht] at hu;cases hu;done)
   | skip
  ·rename_i k1 k2 z hu;rw [ht] at hu;injection hu with hu
   injection hu with hu
   subst hu
   split at h
   ·rename_i hk;simp only [yc,yq] at h;obtain ⟨rfl,rfl⟩:=h;exact ⟨z,by simp only [cA,ht],hk.2⟩
   ·cases h
  all_goals (cases h;done)
def anD {t e:yy} {d:xx H} {n:Nat} (ht:P.underlying t=some (.slice e)) (h:Rd enc P w base sp held t d):
  cA P (n+1) t d=[.ab]\/∃(x:Bool) (jy:List (xx H)),cA P (n+1) t d=[.aJ x jy.length (jy.flatMap fun y=>cA P n e y)]/\∀y,y∈jy->Rd enc P w base sp held e y:=by
 obtain ⟨bA,cs,ps,h⟩:=h
 cases bA with
 | zero=>simp [DataW.trod] at h
 | succ bA=>
  unfold DataW.trod at h
  split at h
  all_goals first
   | (rename_i hu;rw [ht] at hu;cases hu;done)
   | skip
  ·simp only [yc,yq] at h;obtain ⟨rfl,rfl⟩:=h;exact .inl (by simp only [cA,ht])
  ·rename_i e' a len cap hu;rw [ht] at hu;injection hu with hu
   injection hu with hu
   subst hu;simp only at h
   split at h
   case isFalse=>cases h
   cases h1:(List.range len).mapM fun i=>(w.cells? base (a.add (i*P.cellsOf e)) (P.cellsOf e)).bind (DataW.trod enc P w base sp held bA e) with
   | none=>rw [h1] at h;simp at h
   | some jy=>
    rw [h1] at h;simp only [xO] at h;obtain ⟨rest,_,h⟩:=wj.1 h;simp only [yq] at h;obtain ⟨rfl,rfl⟩:=h;refine .inr ⟨(rest.map (·.1)).isEmpty,jy.map (·.1),by simp only [cA,ht,yL],?_⟩;intro y hy;obtain ⟨p,hp,rfl⟩:=wb.1 hy;obtain ⟨i,hi⟩:=mapM_mem h1 p hp;obtain ⟨ej,_,nN⟩:=Option.bind_eq_some_iff.1 hi;exact ⟨bA,ej,p.2,nN⟩
  all_goals (cases h;done)
def aly {t:yy} {fs:Array uF} {d:xx H} {n:Nat} (ht:P.underlying t=some (.struct fs)) (h:Rd enc P w base sp held t d):
  ∃ds:List (xx H),ds.length=fs.toList.length/\cA P (n+1) t d=(fs.toList.zip ds).flatMap (fun x=>cA P n x.1.type x.2)/\∀i (h1:i<fs.toList.length) (h2:i<ds.length),Rd enc P w base sp held fs.toList[i].type ds[i]:=by
 obtain ⟨bA,cs,ps,h⟩:=h
 cases bA with
 | zero=>simp [DataW.trod] at h
 | succ bA=>
  unfold DataW.trod at h
  split at h
  all_goals first
   | (rename_i hu;rw [ht] at hu;cases hu;done)
   | (cases h;done)
   | skip
  rename_i cs x1 LC fs' hu;rw [ht] at hu;injection hu with hu
  injection hu with hu
  subst hu
  split at h
  case isFalse=>cases h
  obtain ⟨xs,h1,h⟩:=wj.1 h;simp only [yq] at h;obtain ⟨rfl,rfl⟩:=h;refine ⟨xs.map (·.1),by simp [MV h1],by simp only [cA,ht],?_⟩;have key:∀{r:List uF} {xs:List (xx H×List wg)},r.mapM (fun f=>DataW.trod enc P w base sp held bA f.type ((cs.drop f.offset).take (P.cellsOf f.type)))=some xs->
    ∀i (h1:i<r.length) (h2:i<(xs.map (·.1)).length),Rd enc P w base sp held r[i].type (xs.map (·.1))[i]:=by
   intro r
   induction r with
   | nil=>intro xs h i h1;exact absurd h1 (Nat.not_lt_zero i)
   | cons f r ih=>
    intro xs h i h1 h2;rw [vQ] at h
    cases g1:DataW.trod enc P w base sp held bA f.type ((cs.drop f.offset).take (P.cellsOf f.type)) with
    | none=>simp [g1] at h
    | some x=>
     cases g2:r.mapM (fun f=>DataW.trod enc P w base sp held bA f.type ((cs.drop f.offset).take (P.cellsOf f.type))) with
     | none=>simp [g1,g2] at h
     | some ys=>
      simp only [g1,g2,xO,ve,wG,yc] at h;subst h
      cases i with
      | zero=>exact ⟨bA,_,x.2,g1⟩
      | succ i=>exact ih g2 i (by simpa using h1) (by simpa using h2)
  exact key h1
def anE {t e:yy} {k:Nat} {d:xx H} {n:Nat} (ht:P.underlying t=some (.array k e)) (h:Rd enc P w base sp held t d):
  ∃ds:List (xx H),ds.length=k/\cA P (n+1) t d=ds.flatMap (fun x=>cA P n e x)/\∀y,y∈ds->Rd enc P w base sp held e y:=by
 obtain ⟨bA,cs,ps,h⟩:=h
 cases bA with
 | zero=>simp [DataW.trod] at h
 | succ bA=>
  unfold DataW.trod at h
  split at h
  all_goals first
   | (rename_i hu;rw [ht] at hu;cases hu;done)
   | (cases h;done)
   | skip
  rename_i cs x1 LC k' e' hu;rw [ht] at hu;injection hu with hu
  injection hu with rB AG
  subst rB;subst AG
  split at h
  case isFalse=>cases h
  obtain ⟨xs,h1,h⟩:=wj.1 h;simp only [yq] at h;obtain ⟨rfl,rfl⟩:=h;refine ⟨xs.map (·.1),by simp [MV h1],by simp only [cA,ht],fun y hy=>?_⟩;obtain ⟨p,hp,rfl⟩:=wb.1 hy;obtain ⟨i,hi⟩:=mapM_mem h1 p hp;exact ⟨bA,_,p.2,hi⟩
end
end
section
open Go
inductive Ty
 | int (k:yY)
 | du (k:vK)
 | bool
 | str
 | sl (e:Ty)
 | nil
 | cat (a b:Ty)
 | ar (n:Nat) (e:Ty)
def iz:Ty->List AV->Prop
 | .int k,l=>∃z,l=[.int k z]/\(Lit.int k z).wf=true
 | .du k,l=>∃b,l=[.du k b]
 | .bool,l=>∃b,l=[.bool b]
 | .str,l=>∃s:List Nat,l=[.str s]/\s.length<9223372036854775808/\∀c,c∈s->c<256
 | .sl e,l=>l=[.ab]\/∃(x:Bool) (ps:List (List AV)),l=[.aJ x ps.length ps.flatten]/\∀p,p∈ps->iz e p
 | .nil,l=>l=[]
 | .cat a b,l=>∃x y,l=x++y/\iz a x/\iz b y
 | .ar n e,l=>∃ps:List (List AV),ps.length=n/\l=ps.flatten/\∀p,p∈ps->iz e p
def nB:List (Option Ty)->Option Ty
 | []=>some .nil
 | some a::r=>match nB r with
  | some b=>some (.cat a b)
  | none=>none
 | none::_=>none
def gI (P:xi):Nat->yy->Option Ty
 | 0,_=>none
 | n+1,t=>
  match P.underlying t with
  | some .bool=>some .bool
  | some (.int k)=>some (.int k)
  | some (.float k)=>some (.du k)
  | some .string=>some .str
  | some (.slice e)=>(gI P n e).map .sl
  | some (.struct fs)=>nB (fs.toList.map fun f=>gI P n f.type)
  | some (.array k e)=>(gI P n e).map (.ar k)
  | _=>none
section
variable {H:Type} {enc:yy×yf->H} {P:xi} {w:yj} {base:Nat} {sp:Nat->Bool} {held:Bool}
def asx {t:yy} {k:vK} {d:xx H} {n:Nat} (ht:P.underlying t=some (.float k)) (h:Rd enc P w base sp held t d):∃b,cA P (n+1) t d=[.du k b]:=by
 obtain ⟨bA,cs,ps,h⟩:=h
 cases bA with
 | zero=>simp [DataW.trod] at h
 | succ bA=>
  unfold DataW.trod at h
  split at h
  all_goals first
   | (rename_i hu;rw [ht] at hu;cases hu;done)
   | skip
  ·rename_i k1 k2 z hu;rw [ht] at hu;injection hu with hu
   injection hu with hu
   subst hu
   split at h
   ·simp only [yc,yq] at h;obtain ⟨rfl,rfl⟩:=h;exact ⟨z,by simp only [cA,ht]⟩
   ·cases h
  all_goals (cases h;done)
def apU {t:yy} {d:xx H} {n:Nat} (ht:P.underlying t=some .bool) (h:Rd enc P w base sp held t d):∃b,cA P (n+1) t d=[.bool b]:=by
 obtain ⟨bA,cs,ps,h⟩:=h
 cases bA with
 | zero=>simp [DataW.trod] at h
 | succ bA=>
  unfold DataW.trod at h
  split at h
  all_goals first
   | (rename_i hu;rw [ht] at hu;cases hu;done)
   | skip
  ·simp only [yc,yq] at h;obtain ⟨rfl,rfl⟩:=h;rename_i b _;exact ⟨b,by simp only [cA,ht]⟩
  all_goals (cases h;done)
def asy {t:yy} {d:xx H} {n:Nat} (ht:P.underlying t=some .string) (h:Rd enc P w base sp held t d):
  ∃s:List Nat,cA P (n+1) t d=[.str s]/\s.length<9223372036854775808/\∀c,c∈s->c<256:=by
 obtain ⟨bA,cs,ps,h⟩:=h
 cases bA with
 | zero=>simp [DataW.trod] at h
 | succ bA=>
  unfold DataW.trod at h
  split at h
  all_goals first
   | (rename_i hu;rw [ht] at hu;cases hu;done)
   | skip
  ·rename_i s hu
   split at h
   ·rename_i hs;simp only [yc,yq] at h;obtain ⟨rfl,rfl⟩:=h;refine ⟨_,by simp only [cA,ht];rfl,?_,fun c hc=>?_⟩
    ·simp only [yL,Array.length_toList];have h1:s.size<=9223372036854775807:=hs;have h2:s.data.size=s.size:=rfl;omega
    ·obtain ⟨b,_,rfl⟩:=wb.1 hc;exact b.toNat_lt
   ·cases h
  all_goals (cases h;done)
def Ze {n:Nat} (ih:∀{t:yy} {T:Ty} {d:xx H},gI P n t=some T->Rd enc P w base sp held t d->iz T (cA P n t d)):
  ∀(fs:List uF) (ds:List (xx H)) (T:Ty),nB (fs.map fun f=>gI P n f.type)=some T->ds.length=fs.length->(∀i (h1:i<fs.length) (h2:i<ds.length),Rd enc P w base sp held fs[i].type ds[i])->
   iz T ((fs.zip ds).flatMap fun x=>cA P n x.1.type x.2)
 | [],ds,T,hT,_,_=>by
  simp only [List.map_nil,nB,yc] at hT;subst hT;simp [iz]
 | f::fs,[],T,_,hl,_=>by simp at hl
 | f::fs,d::ds,T,hT,hl,hr=>by
  simp only [yV] at hT
  cases h1:gI P n f.type with
  | none=>simp [h1,nB] at hT
  | some a=>
   cases h2:nB (fs.map fun f=>gI P n f.type) with
   | none=>simp [h1,h2,nB] at hT
   | some b=>
    simp only [h1,h2,nB,yc] at hT;subst hT;simp only [List.zip_cons_cons,List.flatMap_cons];exact ⟨_,_,rfl,ih h1 (hr 0 (by simp) (by simp)),Ze ih fs ds b h2 (by simpa using hl) (fun i h1 h2=>hr (i+1) (by simpa using h1) (by simpa using h2))⟩
def adw:∀(n:Nat) {t:yy} {T:Ty} {d:xx H},gI P n t=some T->Rd enc P w base sp held t d->iz T (cA P n t d)
 | 0,t,T,d,hT,_=>by simp [gI] at hT
 | n+1,t,T,d,hT,hr=>by
  have ih:=@adw n
  cases hu:P.underlying t with
  | none=>simp [gI,hu] at hT
  | some u=>
   cases u with
   | slice e=>
    simp only [gI,hu] at hT;obtain ⟨E,hE,rfl⟩:=wj.1 hT
    rcases anD (n:=n) hu hr with h | ⟨x,jy,h,hm⟩
    ·exact .inl h
    ·refine .inr ⟨x,jy.map (cA P n e),by rw [h,yL,yan],fun p hp=>?_⟩;obtain ⟨y,hy,rfl⟩:=wb.1 hp;exact ih hE (hm y hy)
   | struct fs=>
    simp only [gI,hu] at hT;obtain ⟨ds,e1,e2,e3⟩:=aly (n:=n) hu hr;rw [e2];exact Ze ih fs.toList ds T hT e1 e3
   | array k e=>
    simp only [gI,hu] at hT;obtain ⟨E,hE,rfl⟩:=wj.1 hT;obtain ⟨ds,e1,e2,e3⟩:=anE (n:=n) hu hr;refine ⟨ds.map (cA P n e),by simp [e1],by rw [e2,yan],fun p hp=>?_⟩;obtain ⟨y,hy,rfl⟩:=wb.1 hp;exact ih hE (e3 y hy)
   | int k=>
    simp only [gI,hu,yc] at hT;subst hT;exact asw hu hr
   | float k=>
    simp only [gI,hu,yc] at hT;subst hT;exact asx hu hr
   | bool=>
    simp only [gI,hu,yc] at hT;subst hT;exact apU hu hr
   | string=>
    simp only [gI,hu,yc] at hT;subst hT;exact asy hu hr
   | _=>simp [gI,hu] at hT
def Gt:Ty->List AV->AV
 | .nil,l | .cat _ _,l | .ar _ _,l=> .agg l
 | _,l=>l.headD .undef
def alz:∀{l:List (Option Ty)} {T:Ty},nB l=some T->∀x,Gt T x= .agg x
 | [],T,h=>by simp only [nB,yc] at h;subst h;exact fun _=>rfl
 | none::r,T,h=>by simp [nB] at h
 | some a::r,T,h=>by
  cases h1:nB r with
  | none=>simp [nB,h1] at h
  | some b=>
   simp only [nB,h1,yc] at h;subst h;exact fun _=>rfl
def aus {n:Nat} {t:yy} {T:Ty} {d:xx H} (hT:gI P n t=some T):kB P n t d=Gt T (cA P n t d):=by
 cases n with
 | zero=>simp [gI] at hT
 | succ n=>
  cases hu:P.underlying t with
  | none=>simp [gI,hu] at hT
  | some u=>
   cases u with
   | slice e=>
    simp only [gI,hu] at hT;obtain ⟨E,hE,rfl⟩:=wj.1 hT;simp only [kB,hu,Gt]
   | struct fs=>
    simp only [gI,hu] at hT;rw [alz hT];simp only [kB,hu]
   | array k e=>
    simp only [gI,hu] at hT;obtain ⟨E,hE,rfl⟩:=wj.1 hT;simp only [kB,hu,Gt]
   | _=>
    simp only [gI,hu,yc,reduceCtorEq] at hT<;>
    (subst hT
     simp only [kB,hu,Gt])
def BA:List Ty->List (List AV)->List AV
 | T::Ts,l::ls=>Gt T l::BA Ts ls
 | _,_=>[]
def aaQ {n:Nat}:∀{ts:List yy} {Ts:List Ty} {vs:List yf} {ds:List (xx H)} {ps:List wg},(ts.map (gI P n))=Ts.map some->DataW.TrodAll enc P w base sp held ts vs ds ps->
  ∃ls,di iz Ts ls/\zQ P n ts ds=BA Ts ls/\ds.length=ts.length
 | [],[],[],[],ps,_,_=>⟨[],trivial,rfl,rfl⟩
 | t::ts,T::Ts,v::vs,d::ds,ps,hT,⟨p,q,⟨bA,h1⟩,h2,_⟩=>by
  simp only [yV,List.cons.injEq] at hT;obtain ⟨ls,k1,k2,k3⟩:=aaQ hT.2 h2;exact ⟨cA P n t d::ls,⟨adw n hT.1 ⟨bA,_,_,h1⟩,k1⟩,by simp only [zQ,BA,k2,aus hT.1],by simp [k3]⟩
 | [],_::_,_,_,_,h,_=>by simp at h
 | _::_,[],_,_,_,h,_=>by simp at h
 | [],[],_::_,_,_,_,h=>by simp [DataW.TrodAll] at h
 | [],[],[],_::_,_,_,h=>by simp [DataW.TrodAll] at h
 | _::_,_,[],_,_,_,h=>by simp [DataW.TrodAll] at h
 | _::_,_,_::_,[],_,_,h=>by simp [DataW.TrodAll] at h
def asz {α β:Type} {p:α->β->Prop} {a:α}:∀{l:List β},di p [a] l->∃x,l=[x]/\p a x
 | [x],h=>⟨x,rfl,h.1⟩
 | [],h=>h.elim
 | _::_::_,h=>h.2.elim
def asA {α β:Type} {p:α->β->Prop} {a b:α}:∀{l:List β},di p [a,b] l->∃x y,l=[x,y]/\p a x/\p b y
 | x::l,h=>let ⟨y,h1,h2⟩:=asz h.2;⟨x,y,by rw [h1],h.1,h2⟩
 | [],h=>h.elim
end
end
section
open Go (IntKind)
abbrev Dn:Ty:= .cat .str (.cat .str .nil)
abbrev Ot:Ty:= .cat Dn (.cat .str .nil)
def M1 {l:List AV} (h:iz Dn l):∃x y:List Nat,l=[.str x,.str y]/\x.length<9223372036854775808/\y.length<9223372036854775808:=by
 obtain ⟨_,_,rfl,⟨x,rfl,hx,_⟩,_,_,rfl,⟨y,rfl,hy,_⟩,rfl⟩:=h;exact ⟨x,y,rfl,hx,hy⟩
def anF {l:List AV} (h:iz Ot l):∃x y s:List Nat,l=[.str x,.str y,.str s]/\x.length<9223372036854775808/\y.length<9223372036854775808/\s.length<9223372036854775808:=by
 obtain ⟨_,_,rfl,h1,_,_,rfl,⟨s,rfl,hs,_⟩,rfl⟩:=h;obtain ⟨x,y,rfl,hx,hy⟩:=M1 h1;exact ⟨x,y,s,rfl,hx,hy,hs⟩
end
section
open Go (IntKind)
abbrev Ui:Ty:= .sl (.int .i64)
abbrev abP:Ty:= .sl Ui
abbrev NZ:Ty:= .cat abP (.cat .str (.cat .str (.cat .str (.cat Dn (.cat Dn .nil)))))
def aaR:∀{ps:List (List AV)},(∀p,p∈ps->iz (.int .i64) p)->∃zs:List Int,zs.length=ps.length/\ps.flatten=zs.map aa
 | [],_=>⟨[],rfl,rfl⟩
 | p::ps,h=>by
  obtain ⟨z,rfl,_⟩:=h p wA;obtain ⟨zs,h1,h2⟩:=aaR (ps:=ps) (fun q hq=>h q (xS _ hq));exact ⟨z::zs,by simp [h1],by simp [h2]⟩
def anG {l:List AV} (h:iz Ui l):∃(v:AV) (zs:List Int),l=[v]/\bl v zs:=by
 rcases h with rfl | ⟨x,ps,rfl,h⟩
 ·exact ⟨_,[],rfl,nf⟩
 ·obtain ⟨zs,h1,h2⟩:=aaR h;refine ⟨_,zs,rfl,?_⟩;rw [h2,<-h1];exact fy x zs
def aaS:∀{ps:List (List AV)},(∀p,p∈ps->iz Ui p)->∃s:List (List Int),s.length=ps.length/\ps.flatten.length=ps.length/\di bl ps.flatten s
 | [],_=>⟨[],rfl,rfl,trivial⟩
 | p::ps,h=>by
  obtain ⟨v,zs,rfl,hv⟩:=anG (h p wA);obtain ⟨s,h1,h2,h3⟩:=aaS (ps:=ps) (fun q hq=>h q (xS _ hq));exact ⟨zs::s,by simp [h1],by simp [h2],hv,h3⟩
def ajU {l:List AV} (h:iz abP l):∃(v:AV) (s:List (List Int)),l=[v]/\dU v s:=by
 rcases h with rfl | ⟨x,ps,rfl,h⟩
 ·exact ⟨_,[],rfl,amX⟩
 ·obtain ⟨s,h1,h2,h3⟩:=aaS h;refine ⟨_,s,rfl,ps.flatten,?_,h3⟩
  have:=CW x ps.flatten
  rwa [h2] at this
def alA {l:List AV} (h:iz NZ l):∃(w:AV) (s:List (List Int)) (a b c d e f g:List Nat),l=[w,.str a,.str b,.str c,.str d,.str e,.str f,.str g]/\dU w s/\a.length<9223372036854775808/\b.length<9223372036854775808/\c.length<9223372036854775808/\d.length<9223372036854775808/\e.length<9223372036854775808/\f.length<9223372036854775808/\g.length<9223372036854775808:=by
 obtain ⟨_,_,rfl,h1,_,_,rfl,⟨a,rfl,ha,_⟩,_,_,rfl,⟨b,rfl,hb,_⟩,_,_,rfl,⟨c,rfl,hc,_⟩,_,_,rfl,h2,_,_,rfl,h3,rfl⟩:=h;obtain ⟨w,s,rfl,hw⟩:=ajU h1;obtain ⟨d,e,rfl,hd,he⟩:=M1 h2;obtain ⟨f,g,rfl,hf,hg⟩:=M1 h3;exact ⟨w,s,a,b,c,d,e,f,g,rfl,hw,ha,hb,hc,hd,he,hf,hg⟩
end
section
open Go (IntKind)
def I7 (n:Nat):10^n<=2^(4*n):=by
 rw [uW];exact uo (by decide) n
def alB {b:Nat} {r:List Nat} (h:dl (b::r)=true):48<=b/\b<=57:=by
 simp only [dl,ye] at h
 simp_all
section
variable {P:aG} {L:Lib}
def adx (h:Tx P L) {ds:List Nat} {N:Nat} (hD:cQ ds 0=some N) (hl:ds.length<=4000000000) {neg:Bool} {o1 o2:AV}:
  ∀m st,(∃(pre rest:List Nat) (a:Nat) (s:Int) (w:AV),aT [0,2,3,4] st=⟨[(0,.str rest),(2,.ptr 0 0),(3,.bool neg),(4,.ptr 1 0)],[(1,.cells true true true 2 [aa s,w]),(0,.cells true true true 2 [o1,o2])],2,0⟩/\ds=pre++rest/\cQ pre 0=some a/\da s w a/\rest.length=m)->
   ∃ex st',D P L (.loop [0,2,3,4] Fm) st=some (ex,st')/\∃tm s w,st'=⟨tm,[(1,.cells true true true 2 [aa s,w]),(0,.cells true true true 2 [o1,o2])],2,0⟩/\ex= .exit 0/\ah tm 2= .ptr 0 0/\ah tm 3= .bool neg/\ah tm 4= .ptr 1 0/\da s w N:=by
 intro dq sq;generalize bw:aT [0,2,3,4] sq=s0;revert bw s0 sq dq;apply dn;rintro m st ⟨pre,rest,a,s,w,rfl,AQ,fc,hn,rfl⟩;obtain ⟨l1,u1⟩:=hn.aI;have mG:=hD;rw [AQ,IV,fc] at mG;have mG:cQ rest a=some N:=mG;have hlen:pre.length+rest.length<=4000000000:=by rw [AQ,yW] at hl;exact hl
 by_cases h0:rest.length=0
 ·right
  have hr:rest=[]:=yD h0;subst hr
  have:a=N:=by simpa [cQ] using mG
  subst this;simp only [go_sem,Fm,yK,show ¬(0:Int)<((0:Nat):Int) by omega];exact ⟨_,_,rfl,by simp,_,s,w,rfl,rfl,by simp only [go_sem,ya],by simp only [go_sem,ya],by simp only [go_sem,ya],hn⟩
 ·left
  obtain ⟨n,B7⟩:∃n,n=min 18 rest.length:=⟨_,rfl⟩;have BE:(if (rest.length:Int)<18 then (rest.length:Int) else 18)=(n:Int):=by split<;>omega
  have jl:rest.take n++rest.drop n=rest:=List.take_append_drop n rest;obtain ⟨a',Ed⟩:∃a',cQ (rest.take n) a=some a':=by
   rw [<-jl,IV] at mG
   cases hq:cQ (rest.take n) a with
   | none=>rw [hq] at mG;cases mG
   | some a'=>exact ⟨a',rfl⟩
  obtain ⟨v,hv⟩:∃v,cQ (rest.take n) 0=some v:=by
   have:∀(l:List Nat) (x y b:Nat),cQ l x=some y->∃z,cQ l b=some z:=by
    intro l
    induction l with
    | nil=>intro x y b _;exact ⟨b,rfl⟩
    | cons c l ih=>
     intro x y b hh;simp only [cQ] at hh ⊢
     cases hb:(yE 48 c&&yE c 57) with
     | false=>rw [hb] at hh;cases hh
     | true=>rw [hb] at hh;exact ih _ _ _ hh
   exact this _ _ _ 0 Ed
  have af8:=anw (a:=a) hv;have XA:(rest.take n).length=n:=by rw [yQ];omega
  rw [XA,Ed,yc] at af8;have Vy:=SW hv;rw [XA] at Vy;have aBp:v<1000000000000000000:=yP Vy (xD (n:=10) (by decide) (show n<=18 by omega));have e1:=apQ (P:=P) h.Vq (f:=D P L) (s:=rest.take n) (by omega) (by omega) hv;obtain ⟨t1,t2⟩:=DY h.toNu (z:=10) (by decide) (by decide);obtain ⟨t3,t4⟩:=DY h.toNu (z:=(v:Int)) (by omega) (by omega);obtain ⟨p,e2,hp⟩:=awk h.toNu h.Vs t2 (K:=4) (k:=n) (by unfold Bd;decide) (by omega) (by omega)
  have halt:=SW fc;have ba:Bd (4*pre.length) (a:Int):=yP halt (I7 _);have bp:Bd (4*n+1) ((10:Int)^n):=Bd.pow (k:=4) (by unfold Bd;decide) n
  obtain ⟨q,e3,hq⟩:=sL h.toNu (v:= .agg [aa s,w]) ⟨s,w,rfl,hn⟩ hp (K:=4*pre.length+4*n+1) (ba.mono (by omega)) (bp.mono (by omega)) (by omega);have bv':Bd (4*n) (v:Int):=yP Vy (I7 _);obtain ⟨r,e4,hr⟩:=KJ h.toNu hq t4 (K:=4*pre.length+4*n+1) ((ba.mul bp).mono (by omega)) (bv'.mono (by omega)) (by omega);have aR:(a:Int)*10^n+(v:Int)=(a':Int):=by
   rw [af8]
   simp
  rw [aR] at hr;obtain ⟨s2,w2,rfl,h2⟩:=hp;obtain ⟨s3,w3,rfl,h3⟩:=hq;obtain ⟨s4,w4,rfl,h4⟩:=hr;obtain ⟨l2,u2⟩:=h2.aI;obtain ⟨l3,u3⟩:=h3.aI;obtain ⟨l4,u4⟩:=h4.aI;have un:=zE;have c1:iJ rest (some 0) (some n)=some (.str (rest.take n)):=by rw [lL (by omega) (by omega),yg]
  have c2:iJ rest (some n) (some rest.length)=some (.str (rest.drop n)):=by rw [lL (by omega) (by omega),xQ]
  simp only [go_sem,ya,Fm,show (0:Int)<(rest.length:Nat) by omega,Dj,CP,BE,eR,fb,dG,c1,c2,e1,cr,t1,t3,a8,u1.af,u2.af,u3.af,un.af,e2,e3,e4,bC,cr,yg,dJ u4];refine ⟨_,(rest.drop n).length,rfl,by rw [wi];omega,pre++rest.take n,rest.drop n,a',s4,w4,by simp only [go_sem,ya,yb,an],by rw [xF,jl];exact AQ,by rw [IV,fc];exact Ed,h4,rfl⟩
def R8 {b:Nat} {r:List Nat} (h:48<=b):gQ [45] (b::r)=false:=by
 show (yv 45 b&&true)=false
 rw [iC (by omega)];rfl
def KM (h:Tx P L) {z:Int} (hz:(aY z).length<=4000000000):∃r,ae P L 110 [.str (aY z)] r/\cE r z:=by
 have hN:=CM z.natAbs;have un:=zE;have Ay:(aB z.natAbs).length<=4000000000:=by
  by_cases h0:z<0
  ·rw [nh h0] at hz;simp at hz;omega
  ·rw [<-nW,yA h0] at hz;simpa using hz
 have ba:Bd (4*(aB z.natAbs).length) (z.natAbs:Int):=yP (SW hN) (I7 _);by_cases h0:z<0
 ·have hs:aY z=45::aB z.natAbs:=nh h0;have e1:bQ P L (D P L) 152 [.str (45::aB z.natAbs),.str [45]]=some (.bool true):=by rw [js h.af2];rfl
  have e2:bQ P L (D P L) 153 [.str (45::aB z.natAbs),.str [45]]=some (.str (aB z.natAbs)):=by rw [js h.Vp];rfl
  have jh:∃s w r,ae P L 110 [.str (aY z)] r/\da s w (z.natAbs:Int)/\ae P L 147 [.agg [aa s,w]] r/\cE r (-(z.natAbs:Int)):=by
   rw [hs];unfold ae;rw [ay h.af4];simp only [go_sem,ya,yb,OS,aK,e1,e2,un.pu,un.one,dJ un];generalize hq:D P L (.loop [0,2,3,4] Fm) _=q;obtain ⟨ex,st,rfl,tm,s,w,rfl,rfl,t2,t3,t4,h5⟩:=bD hq (adx (P:=P) (L:=L) h hN Ay (neg:=true) (o1:= .int .i64 0) (o2:= .ab) (aB z.natAbs).length) ⟨[],aB z.natAbs,0,0,.ab,by simp only [go_sem,ya,yb,an]<;>rfl,rfl,rfl,.inl ⟨rfl,rfl,by decide,by decide⟩,rfl⟩
   obtain ⟨l5,u5⟩:=h5.aI;obtain ⟨r,e3,hr⟩:=Gs h.toNu (v:= .agg [aa s,w]) ⟨s,w,rfl,h5⟩ (K:=4*(aB z.natAbs).length) ba (by omega);have cm:=hr;obtain ⟨s6,w6,rfl,h6⟩:=hr;obtain ⟨l6,u6⟩:=h6.aI;refine ⟨s,w,_,?_,h5,e3,cm⟩;simp only [go_sem,ya,yb,an,t2,t3,t4,cr,a8,u5.af,e3,bC,dA,dB,cr,yg,mF u6,dJ u6]
  obtain ⟨s,w,r,g1,_,_,g2⟩:=jh;rw [show -((z.natAbs:Nat):Int)=z by omega] at g2;exact ⟨r,g1,g2⟩
 ·have hs:aY z=aB z.natAbs:=by rw [<-nW,yA h0];rfl
  obtain ⟨b,r0,hb,jS,hb2⟩:=EY z.natAbs;have e1:bQ P L (D P L) 152 [.str (aB z.natAbs),.str [45]]=some (.bool false):=by
   rw [js h.af2,hb];show some (AV.bool (gQ [45] (b::r0)))=_
   rw [R8 jS]
  have e2:bQ P L (D P L) 153 [.str (aB z.natAbs),.str [45]]=some (.str (aB z.natAbs)):=by
   rw [js h.Vp,hb];show some (AV.str (bif gQ [45] (b::r0) then _ else _))=_
   rw [R8 jS];rfl
  have jh:∃s w,ae P L 110 [.str (aY z)] (.agg [aa s,w])/\da s w (z.natAbs:Int):=by
   rw [hs];unfold ae;rw [ay h.af4];simp only [go_sem,ya,yb,OS,aK,e1,e2,un.pu,un.one,dJ un];generalize hq:D P L (.loop [0,2,3,4] Fm) _=q;obtain ⟨ex,st,rfl,tm,s,w,rfl,rfl,t2,t3,t4,h5⟩:=bD hq (adx (P:=P) (L:=L) h hN Ay (neg:=false) (o1:= .int .i64 0) (o2:= .ab) (aB z.natAbs).length) ⟨[],aB z.natAbs,0,0,.ab,by simp only [go_sem,ya,yb,an]<;>rfl,rfl,rfl,.inl ⟨rfl,rfl,by decide,by decide⟩,rfl⟩
   obtain ⟨l5,u5⟩:=h5.aI;refine ⟨s,w,?_,h5⟩;simp only [go_sem,ya,yb,an,t2,t3,t4,cr,dA,dB,cr,yg,mF u5,dJ u5]
  obtain ⟨s,w,g1,g2⟩:=jh;rw [show ((z.natAbs:Nat):Int)=z by omega] at g2;exact ⟨_,g1,s,w,rfl,g2⟩
def IL (b:Nat) (r:List Nat) (c:Nat):gQ [c] (b::r)=yv c b:=by
 show (yv c b&&true)=_
 grind
def YB:∀(l r:List Nat) (k:Nat),(∀x,x∈l->x≠47)->mr [47] (l++47::r) k=some (k+l.length)
 | [],r,k,_=>by
  show (bif gQ [47] (47::r) then some k else _)=_
  rw [IL];rfl
 | b::l,r,k,h=>by
  show (bif gQ [47] (b::(l++47::r)) then some k else mr [47] (l++47::r) (k+1))=_
  rw [IL,iC (fun e=>h b (by simp) e.symm),yO,YB l r (k+1) (fun x hx=>h x (by simp [hx])),yC]
  grind
def index_none:∀(l:List Nat) (k:Nat),(∀x,x∈l->x≠47)->mr [47] l k=none
 | [],k,_=>rfl
 | b::l,k,h=>by
  show (bif gQ [47] (b::l) then some k else mr [47] l (k+1))=_
  rw [IL,iC (fun e=>h b (by simp) e.symm),yO,index_none l (k+1) (fun x hx=>h x (by simp [hx]))]
def aaT:∀{l:List Nat},dl l=true->∀x,x∈l->48<=x/\x<=57
 | [],_,x,hx=>by simp at hx
 | b::l,h,x,hx=>by
  have h1:=alB h;simp only [dl,ye] at h;rcases wq.1 hx with rfl | hx
  ·grind
  ·exact aaT h.2 x hx
def aiv (z:Int):∀x,x∈aY z->x≠47:=fun x hx=>by
 rw [<-nW] at hx;rcases List.mem_append.1 hx with h | h
 ·grind
 ·have:=aaT (IJ _) x h;omega
def m62 (h:Tx P L) {a:Rat} (hl:(RT a).length<4000000000):∃r,ae P L 62 [.str (RT a)] r/\cp r a:=by
 have GH:=aiv a.num;unfold RT at hl ⊢;by_cases hd:a.den=1
 ·rw [yH hd,wJ] at hl ⊢;obtain ⟨p,e1,hp⟩:=KM h (z:=a.num) (by omega);obtain ⟨r,e2,hr⟩:=KK h.toFr' hp;rw [<-NL a hd] at hr;have cm:=hr;obtain ⟨s1,w1,rfl,h1⟩:=hp;obtain ⟨s2,w2,s3,w3,rfl,h2,h3⟩:=hr;obtain ⟨l1,u1⟩:=h1.aI;obtain ⟨l2,u2⟩:=h2.aI;obtain ⟨l3,u3⟩:=h3.aI;have e0:bQ P L (D P L) 109 [.str (aY a.num),.str [47]]=some (.au [.str (aY a.num),.str [],.bool false]):=by
   rw [js h.Vr];show (bif yM (aY a.num).length 4294967281 then (match mr [47] (aY a.num) 0 with | some i=>_ | none=>some (AV.au [.str (aY a.num),.str [],.bool false])) else none)=_
   rw [jM (by omega),index_none _ _ GH];rfl
  refine ⟨_,?_,cm⟩;unfold ae;rw [ay h.QM];simp only [go_sem,ya,yb,Qb,aK,e0,e1,bC,u1.af,a8,e2,lj u2 u3,dA,dB,yg,iR,lO u2 u3]
 ·rw [yA hd] at hl ⊢;simp only [yW,yC] at hl;obtain ⟨p,e1,hp⟩:=KM h (z:=a.num) (by omega);obtain ⟨q,e2,hq⟩:=KM h (z:=(a.den:Int)) (by rw [kP];omega);rw [kP] at e2;obtain ⟨s1,w1,rfl,h1⟩:=hp;obtain ⟨s2,w2,rfl,h2⟩:=hq;obtain ⟨l1,u1⟩:=h1.aI;obtain ⟨l2,u2⟩:=h2.aI;have e0:bQ P L (D P L) 109 [.str (aY a.num++47::aB a.den),.str [47]]=some (.au [.str (aY a.num),.str (aB a.den),.bool true]):=by
   rw [js h.Vr];show (bif yM (aY a.num++47::aB a.den).length 4294967281 then (match mr [47] (aY a.num++47::aB a.den) 0 with | some i=>some (AV.au [.str ((aY a.num++47::aB a.den).take i),.str ((aY a.num++47::aB a.den).drop (i+1)),.bool true]) | none=>_) else none)=_
   rw [jM (by simp;omega),YB _ _ _ GH];simp only [yd,yz,List.take_left];rw [show (aY a.num).length+1=(aY a.num++[47]).length by simp,show aY a.num++47::aB a.den=(aY a.num++[47])++aB a.den by simp,List.drop_left]
  refine ⟨.agg [aa s1,w1,aa s2,w2],?_,s1,w1,s2,w2,rfl,h1,h2⟩;unfold ae;rw [ay h.QM];simp only [go_sem,ya,yb,Qb,aK,e0,e1,e2,bC,u1.one,u2.one,Fb,Fc,lj u1 u2,dA,dB,yg,iR,lO u1 u2]
end
end
section
open Go (IntKind)
def dS (p:List Nat):Bool:=dl p&&(match p with | []=>false | b::r=> !(yv b 48)||r.isEmpty)
def fR (p:List Nat):Nat:=(cQ p 0).getD 0
def Am (neg:Bool) (t:List Nat):Int:=
 if dS (t.take (bR t))=false\/(neg=true/\t.take (bR t)=[48]) then 1
 else if bR t<t.length/\(dS (t.drop (bR t+1))=false\/t.drop (bR t+1)=[48]\/t.drop (bR t+1)=[49]) then 1
 else if 600<bR t\/600<t.length-bR t-1 then 4
 else if bR t<t.length/\wD (fR (t.take (bR t))) (fR (t.drop (bR t+1)))≠1 then 1
 else 0
def a6:List Nat->Int
 | []=>Am false []
 | b::t=>if b=45 then Am true t else Am false (b::t)
def aaU:∀{p:List Nat} (a:Nat),dl p=true->∃n,cQ p a=some n
 | [],a,_=>⟨a,rfl⟩
 | b::r,a,h=>by
  have h':=h;simp only [dl,ye] at h';obtain ⟨n,hn⟩:=aaU (p:=r) (10*a+(b-48)) h'.2;exact ⟨n,by simp only [cQ,h'.1.1,h'.1.2,wv,yz];exact hn⟩
def EZ:∀(k:Nat) {p:List Nat},p.length=k->dS p=true->aB (fR p)=p:=by
 intro k
 induction k with
 | zero=>intro p hl h;rw [yD hl] at h;simp [dS] at h
 | succ k ih=>
  intro p hl h;rcases snoc p with rfl | ⟨m,a,rfl⟩
  ·grind
  ·simp only [dS,ye,Mz] at h;obtain ⟨⟨h1,h2⟩,h3⟩:=h;simp only [dl,ye] at h2;have ha1:=yu h2.1.1;have ha2:=yu h2.1.2;obtain ⟨n,hn⟩:=aaU 0 h1;have hv:fR (m++[a])=10*n+(a-48):=by
    unfold fR;rw [IV,hn];simp only [xO,cQ,h2.1.1,h2.1.2,wv,yz,Option.getD_some]
   cases m with
   | nil=>
    have:n=0:=by simpa [cQ] using hn.symm
    rw [hv,oY (by omega)]
    simp;omega
   | cons b r=>
    have hd:dS (b::r)=true:=by
     simp only [dS,h1,wI]
     cases r with
     | nil=>simp
     | cons c r=>simp at h3 ⊢;exact h3
    have hm:=ih (p:=b::r) (by simpa using hl) hd;have hnv:fR (b::r)=n:=by unfold fR;rw [hn];rfl
    rw [hnv] at hm;have mU:n≠0:=fun e=>by
     rw [oY (by omega)] at hm
     simp_all
    rw [hv,qM (by omega),show (10*n+(a-48))/10=n by omega,show 48+(10*n+(a-48))%10=a by omega,hm]
def Ya (t:List Nat):bR t<t.length->t=t.take (bR t)++47::t.drop (bR t+1):=by
 induction t with
 | nil=>simp
 | cons b r ih=>
  intro h;simp only [bR] at h ⊢
  grind
def ZY {n:Int} {d:Nat} (hd:0<d) (hg:wD n.natAbs d=1):∃r:Rat,r.num=n/\r.den=d:=⟨⟨n,d,by omega,hg⟩,rfl,rfl⟩
def asB {s:List Nat} (h:a6 s=0):∃r:Rat,s=RT r/\(aB r.num.natAbs).length<=600/\(aB r.den).length<=600:=by
 have key:∀(neg:Bool) (t:List Nat),Am neg t=0->∃r:Rat,(if neg=true then [45] else [])++t=RT r/\(aB r.num.natAbs).length<=600/\(aB r.den).length<=600:=by
  intro neg t h;unfold Am at h
  split at h
  ·grind
  rename_i h1
  split at h
  ·grind
  rename_i h2
  split at h
  ·grind
  rename_i h3
  split at h
  ·grind
  rename_i h4;have hle:=II t;have hp:dS (t.take (bR t))=true:=by
   cases hb:dS (t.take (bR t)) with
   | true=>rfl
   | false=>exact absurd (.inl hb) h1
  have rL:=EZ _ rfl hp;generalize hn:fR (t.take (bR t))=n at*
  have aut:neg=true->n≠0:=fun hh e=>by
   subst e;exact h1 (.inr ⟨hh,by rw [<-rL];rfl⟩)
  have hint:(if neg=true then [45] else [])++aB n=aY (if neg=true then -(n:Int) else n):=by
   cases neg with
   | true=>
    have:=aut rfl
    simp only [xm];rw [nh (by omega)]
    simp
   | false=>simp [kP]
  have Vz:(if neg=true then -(n:Int) else n).natAbs=n:=by split<;>omega
  have hln:(aB n).length<=600:=by rw [rL,yQ];omega
  by_cases hs:bR t<t.length
  ·have hq:dS (t.drop (bR t+1))=true:=by
    cases hb:dS (t.drop (bR t+1)) with
    | true=>rfl
    | false=>exact absurd ⟨hs,.inl hb⟩ h2
   have oR:=EZ _ rfl hq;have hg:wD n (fR (t.drop (bR t+1)))=1:=by
    grind
   have kA:=Ya t hs;have Hd:(t.drop (bR t+1)).length<=600:=by rw [wi];omega
   rw [<-oR] at kA Hd;have iN:fR (t.drop (bR t+1))≠0:=fun e=>by
    rw [e] at oR;exact h2 ⟨hs,.inr (.inl (by rw [<-oR];rfl))⟩
   have kK:fR (t.drop (bR t+1))≠1:=fun e=>by
    rw [e] at oR;exact h2 ⟨hs,.inr (.inr (by rw [<-oR];rfl))⟩
   generalize fR (t.drop (bR t+1))=d at*
   obtain ⟨r,cw,ep⟩:=ZY (n:=if neg=true then -(n:Int) else n) (d:=d) (by omega) (by rw [Vz];exact hg)
   refine ⟨r,?_,by rw [cw,Vz];exact hln,by rw [ep];exact Hd⟩
   unfold RT;rw [cw,ep,yA kK,<-hint,xF]
   congr 1
   rw [rL];exact kA
  ·have ht:t.take (bR t)=t:=yp (by omega);rw [ht] at rL;obtain ⟨r,cw,ep⟩:=ZY (n:=if neg=true then -(n:Int) else n) (d:=1) (by omega) (Nat.gcd_one_right _);refine ⟨r,?_,by rw [cw,Vz];exact hln,by rw [ep];decide⟩
   unfold RT;rw [cw,ep,yH rfl,<-hint,wJ,rL]
 cases s with
 | nil=>exact absurd h (by decide)
 | cons b t=>
  simp only [a6] at h
  split at h
  ·rename_i hb;subst hb;exact key true t h
  ·exact key false (b::t) h
end
section
namespace Nd
structure Ord (n:Nat) (l:List Int):Prop where
 len:l.length=n
 pU:∀a,a<n->0<=l.getD a 0/\l.getD a 0<n
 inj:∀a b,a<n->b<n->l.getD a 0=l.getD b 0->a=b
end Nd
end
section
namespace Nd
open Go (IntKind)
section
variable {P:aG} {L:Lib}
abbrev ae (P:aG) (L:Lib) (f:Nat) (aq:List AV) (r:AV):Prop:=bQ P L (D P L) f aq=some r
def XB {hp:Hp} {ct id o:Nat} {v:Int} {ex:Bool} {l:List Int} (h:o<l.length):fE hp ct id o 1 [.int .i64 v] (some (.cells true true ex 1 (l.map aa)))=some (.au [],bg hp id (.cells true true ex 1 ((l.set o v).map aa)),ct):=by
 rw [mD (by rfl) (by simp;omega) (by rfl)]
 have:over o [AV.int .i64 v] (l.map aa)=(l.set o v).map aa:=by
  simp only [over,yC,yK,yd];rw [ybk,uE,yH (by simpa using h)]
  simp
 rw [this];rfl
def An (h:Has P L 124 F7) (b:Bool) (n:Int):ae P L 124 [.bool b,aa n] (aa (if b=true then n else 0)):=by
 unfold ae;rw [ay h]
 cases b with
 | true=>simp only [go_sem,ya,F7,xm]
 | false=>simp only [go_sem,ya,F7];rfl
def awl (h:Has P L 125 OV) {v:AV} {l:List Int} (hv:bl v l) (hl:l.length<=1000000):ae P L 125 [v] (aa (bn l)):=by
 unfold ae;rw [ay h];simp only [go_sem,ya,OV,hv.len];have key:=IS (P:=P) (L:=L) (live:=[5,6,7]) (a:=NS)
  (I:=fun k s=>∃tm ct i,s=⟨tm,[],ct,0⟩/\ah tm 5=v/\ah tm 6=aa l.length/\ah tm 7=aa (i:Nat)/\i+k=l.length/\bn (l.drop i)=bn l)
  (Q:=fun ex s=>∃tm,s=⟨tm,[],0,0⟩/\((ex= .ret/\ah tm 2=aa (bn l))\/(ex= .exit 0/\bn l=0))) ?_ l.length
 ·generalize hq:D P L (.loop [5,6,7] NS) _=q;obtain ⟨ex,s,rfl,tm,rfl,h2⟩:=bD hq key ⟨_,_,0,rfl,rfl,rfl,rfl,by omega,rfl⟩;rcases h2 with ⟨rfl,h2⟩ | ⟨rfl,h2⟩
  ·simp only [go_sem,h2]
  ·rw [h2];simp only [go_sem]
 ·rintro k s ⟨tm,ct,i,rfl,h5,h6,h7,hk,hf⟩;rw [Mw (by simp only [go_sem,h5,h6,h7,hv.pu])];simp only [go_sem,ya,h5,h6,h7,NS];by_cases hi:i<l.length
  ·have bL:(i:Int)<l.length:=by omega
   rw [Ro hi] at hf;by_cases hz:l[i]=0
   ·left
    simp only [go_sem,ya,bL,hv.aZ hi,hz];refine ⟨_,k-1,rfl,by omega,_,_,i+1,rfl,?_⟩;rw [wrap64 (by omega) (by omega)];rw [yH hz] at hf;simp only [go_sem,ya];exact ⟨trivial,trivial,rfl,by omega,hf⟩
   ·right
    simp only [go_sem,ya,bL,hv.aZ hi,hz];rw [yA hz] at hf;refine ⟨_,_,rfl,by simp,_,rfl,.inl ⟨rfl,?_⟩⟩;simp only [go_sem,hf]
  ·right
   have bL:¬(i:Int)<l.length:=by omega
   simp only [go_sem,bL];refine ⟨_,_,rfl,by simp,_,rfl,.inr ⟨rfl,?_⟩⟩;rw [<-hf,yT (by omega)];rfl
end
end Nd
end
section
open Go (IntKind)
def aaV (i:Nat):F6 i [48,49,50,51,52,53,54,55,56,57]=(yE 48 i&&yE i 57):=by
 by_cases h:48<=i/\i<=57
 ·obtain ⟨h1,h2⟩:=h;obtain ⟨k,rfl⟩:∃k,i=48+k:=⟨i-48,by omega⟩;rcases (show k=0\/k=1\/k=2\/k=3\/k=4\/k=5\/k=6\/k=7\/k=8\/k=9 by omega) with rfl | rfl | rfl | rfl | rfl | rfl | rfl | rfl | rfl | rfl<;>rfl
 ·have e:(yE 48 i&&yE i 57)=false:=by
   cases h1:yE 48 i with
   | false=>rfl
   | true=>
    cases h2:yE i 57 with
    | false=>rfl
    | true=>exact absurd ⟨yu h1,yu h2⟩ h
  rw [e];have ne:∀c,48<=c->c<=57->yv c i=false:=fun c h1 h2=>iC (by omega)
  simp only [F6,ne 48 (by decide) (by decide),ne 49 (by decide) (by decide),ne 50 (by decide) (by decide),ne 51 (by decide) (by decide),ne 52 (by decide) (by decide),ne 53 (by decide) (by decide),ne 54 (by decide) (by decide),ne 55 (by decide) (by decide),ne 56 (by decide) (by decide),ne 57 (by decide) (by decide),yO]
def R9:∀l:List Nat,kZ [48,49,50,51,52,53,54,55,56,57] l=[]↔dl l=true
 | []=>by simp [kZ,dl]
 | b::r=>by
  simp only [kZ,dl,aaV]
  cases hb:(yE 48 b&&yE b 57) with
  | true=>simp only [yz,wI];exact R9 r
  | false=>simp
def No:∀l:List Nat,dl l.reverse=dl l
 | []=>rfl
 | b::r=>by rw [List.reverse_cons,Mz,No r];simp [dl,Bool.and_comm]
def Yf:∀l:List Nat,dl l=false->dl (kZ [48,49,50,51,52,53,54,55,56,57] l)=false
 | [],h=>by simp [dl] at h
 | b::r,h=>by
  simp only [kZ,aaV]
  cases hb:(yE 48 b&&yE b 57) with
  | true=>
   simp only [dl,hb,wI] at h;exact Yf r h
  | false=>simp only [yO];exact h
def anH (p:List Nat):cI (kZ [48,49,50,51,52,53,54,55,56,57] (kZ [48,49,50,51,52,53,54,55,56,57] p.reverse).reverse) []=dl p:=by
 cases hd:dl p with
 | true=>
  have h1:=(R9 p.reverse).2 (by rw [No];exact hd)
  rw [h1];rfl
 | false=>
  have h1:=Yf p.reverse (by rw [No];exact hd)
  have h2:dl (kZ [48,49,50,51,52,53,54,55,56,57] p.reverse).reverse=false:=by rw [No];exact h1
  cases hq:kZ [48,49,50,51,52,53,54,55,56,57] (kZ [48,49,50,51,52,53,54,55,56,57] p.reverse).reverse with
  | nil=>have:=(R9 _).1 hq;rw [h2] at this;exact absurd this (by decide)
  | cons b r=>rfl
def Yg:∀(t:List Nat) (k:Nat),mr [47] t k=if bR t<t.length then some (k+bR t) else none
 | [],k=>by simp [mr,gQ,bR]
 | b::r,k=>by
  by_cases hb:b=47
  ·subst hb;have e:bR (47::r)=0:=by simp [bR]
   rw [e,yH (by simp)];rfl
  ·have e:bR (b::r)=bR r+1:=by simp [bR,hb]
   have hp:gQ [47] (b::r)=false:=by rw [IL];exact iC (fun e=>hb e.symm)
   rw [e,mr,hp,yO,Yg r (k+1)]
   grind
def rX (a b:List Nat):binOp .neq (.str a) (.str b)=some (.bool (!(cI a b))):=rfl
structure Ck (P:aG) (L:Lib):Prop extends Tx P L where
 awm:L.pure 128=some MJ
 awn:L.pure 162=some trimS
 h86:Has P L 86 fp
 D1:Has P L 124 F7
 awo:Has P L 125 OV
 awp:Has P L 129 F9
section
variable {P:aG} {L:Lib}
def An (h:Has P L 124 F7) (b:Bool) (n:Int):ae P L 124 [.bool b,aa n] (aa (if b=true then n else 0)):=Nd.An h b n
def af9 (h:Ck P L) {p:List Nat} (hl:p.length<=4000000000):ae P L 129 [.str p] (.bool (dS p)):=by
 have e1:bQ P L (D P L) 162 [.str p,.str [48,49,50,51,52,53,54,55,56,57]]=some (.str (kZ [48,49,50,51,52,53,54,55,56,57] (kZ [48,49,50,51,52,53,54,55,56,57] p.reverse).reverse)):=by
  rw [js h.awn];show (bif Fl [48,49,50,51,52,53,54,55,56,57]&&(yM p.length 4294967281&&yM 10 4294967281) then _ else none)=_
  rw [jM (by omega)];rfl
 have e2:=anH p;unfold ae;rw [ay h.awp]
 match p,e1,e2 with
 | [],_,_=>
  simp only [go_sem,ya,F9,rX,show cI [] []=true from rfl,yJ];rfl
 | b::r,e1,e2=>
  have hI:nt 0 (.str (b::r))=some (.int .u8 (b:Nat)):=rfl;have h0:cI (b::r) []=false:=rfl;have hd:dS (b::r)=(dl (b::r)&&(!(yv b 48)||r.isEmpty)):=rfl;rw [hd]
  cases nT:dl (b::r) with
  | false=>
   rw [nT] at e2;simp only [go_sem,ya,F9,rX,h0,yI,e1,j9,e2,wK]
  | true=>
   rw [nT] at e2;by_cases hb:b=48
   ·subst hb;have e3:cI (48::r) [48]=r.isEmpty:=by
     cases r with
     | nil=>rfl
     | cons c r=>rfl
    have Wt:nt 0 (.str (48::r))=some (.int .u8 48):=rfl;simp only [go_sem,ya,F9,rX,h0,yI,e1,j9,e2,Wt,ym,yJ,e3];rfl
   ·have:yv b 48=false:=iC hb
    rw [this];simp only [go_sem,ya,F9,rX,h0,yI,e1,j9,e2,hI,show ¬((b:Nat):Int)=48 by omega,yk,yI];rfl
def awq (h:Ck P L) (s:List Nat):bQ P L (D P L) 128 [.str s,.str [45]]=some (if s.head? =some 45 then .au [.str s.tail,.bool true] else .au [.str s,.bool false]):=by
 rw [js h.awm];show some (bif gQ [45] s then AV.au [.str (s.drop 1),.bool true] else .au [.str s,.bool false])=_
 cases s with
 | nil=>rfl
 | cons b r=>
  by_cases hb:b=45
  ·subst hb;rfl
  ·have:gQ [45] (b::r)=false:=by rw [IL];exact iC (fun e=>hb e.symm)
   grind
def awr (h:Ck P L) {t:List Nat} (hl:t.length<=4000000000):bQ P L (D P L) 109 [.str t,.str [47]]=some (.au [.str (t.take (bR t)),.str (t.drop (bR t+1)),.bool (decide (bR t<t.length))]):=by
 rw [js h.Vr];show (bif yM t.length 4294967281 then (match mr [47] t 0 with | some i=>some (AV.au [.str (t.take i),.str (t.drop (i+1)),.bool true]) | none=>some (AV.au [.str t,.str [],.bool false])) else none)=_
 rw [jM (by omega),Yg];by_cases hs:bR t<t.length
 ·grind
 ·rw [yA hs,yZ hs,yp (by omega),yT (by omega)];rfl
def ajV {P:aG} {L:Lib} (a b c d:VC) (s:St):D P L (.seq a (.seq b (.seq c d))) s=iQ P L (D P L (.seq a (.seq b c)) s) d:=by
 have e:=CQ (P:=P) (L:=L) b c d;rw [kE,kE]
 cases D P L a s with
 | none=>rfl
 | some q=>
  obtain ⟨ex,st⟩:=q
  cases ex with
  | normal=>rw [gD,gD];exact e st
  | ret=>rfl
  | exit id=>rfl
def alC {P:aG} {L:Lib} (a b c d f:VC) (s:St):D P L (.seq a (.seq b (.seq c (.seq d f)))) s=iQ P L (D P L (.seq a (.seq b (.seq c d))) s) f:=by
 have e:=ajV (P:=P) (L:=L) b c d f;rw [kE,kE]
 cases D P L a s with
 | none=>rfl
 | some q=>
  obtain ⟨ex,st⟩:=q
  cases ex with
  | normal=>rw [gD,gD];exact e st
  | ret=>rfl
  | exit id=>rfl
def NN {a b:List Nat} (h:a=b):cI a b=true:=by
 subst h
 induction a with
 | nil=>rfl
 | cons x a ih=>simp [cI,ih]
def SY {a b:List Nat} (h:a≠b):cI a b=false:=by
 cases hb:cI a b with
 | false=>rfl
 | true=>
  exact absurd (by
   clear h;revert b
   induction a with
   | nil=>intro b hb;cases b with | nil=>rfl | cons y b=>simp [cI] at hb
   | cons x a ih=>
    intro b hb
    cases b with
    | nil=>simp [cI] at hb
    | cons y b=>
     simp only [cI,ye] at hb
     rw [yo hb.1,ih hb.2]) h
def auu (h:Ck P L) {p q:List Nat} {ok found:Bool} (lp:p.length<=1000000000) (lq:q.length<=1000000000) (bY:ok=true->dS p=true/\(found=true->dS q=true)) {tm:Env} (t5:ah tm 5= .str p) (t6:ah tm 6= .str q) (t7:ah tm 7= .bool found) (t8:ah tm 8= .bool ok):
  fj [.t 2] (D P L (aw (aw (aw (aw (aw fp.body))))) ⟨tm,[],0,0⟩)=some (aa (
   if ok=false then 1
   else if 600<p.length\/600<q.length then 4
   else if found=true/\wD (fR p) (fR q)≠1 then 1
   else 0)):=by
 have w1:=An h.D1 (!ok) 1;have QQ:∀a b:Int,ae P L 125 [.aJ true 2 [aa a,aa b]] (aa (bn [a,b])):=fun a b=>Nd.awl h.awo (fy true [a,b]) (by simp)
 cases ok with
 | false=>
  have f1:=QQ 1 0;have f2:=QQ 1 4;have w2:=An h.D1 false 4;have w3:=An h.D1 true 4;simp only [yI,xm,yF,xh] at w1 w2 w3;rw [show bn [1,0]=1 by decide] at f1;rw [show bn [1,4]=1 by decide] at f2;unfold ae at w1 w2 w3 f1 f2;by_cases h1:600<p.length
  ·simp only [go_sem,ya,yb,yt,yi,yh,fp,aw,show ¬(1:Int)=0 by decide,yI,t5,t8,yI,w1,show (600:Int)<(p.length:Int) by omega,ym,w3,f2,yk]
   simp
  ·by_cases h2:600<q.length
   ·simp only [go_sem,ya,yb,yt,yi,yh,fp,aw,show ¬(1:Int)=0 by decide,yI,t5,t6,t8,yI,w1,show ¬(600:Int)<(p.length:Int) by omega,show (600:Int)<(q.length:Int) by omega,ym,yk,w3,f2]
    simp
   ·simp only [go_sem,ya,yb,yt,yi,yh,fp,aw,show ¬(1:Int)=0 by decide,yI,t5,t6,t8,yI,w1,show ¬(600:Int)<(p.length:Int) by omega,show ¬(600:Int)<(q.length:Int) by omega,yk,w2,f1]
    simp
 | true=>
  obtain ⟨hp,hq⟩:=bY rfl;have f1:=QQ 0 0;have f2:=QQ 0 4;have w2:=An h.D1 false 4;have w3:=An h.D1 true 4;have w4:=An h.D1 false 1;have w5:=An h.D1 true 1;simp only [yJ,xm,yF,xh] at w1 w2 w3 w4 w5;rw [show bn [0,0]=0 by decide] at f1;rw [show bn [0,4]=4 by decide] at f2;unfold ae at w1 w2 w3 w4 w5 f1 f2;rw [yA (by decide)];by_cases h1:600<p.length
  ·rw [yH (.inl h1)];simp only [go_sem,ya,yb,yt,yi,yh,fp,aw,show ¬(4:Int)=0 by decide,yI,t5,t8,yJ,w1,show (600:Int)<(p.length:Int) by omega,ym,w3,f2,yk]
  ·by_cases h2:600<q.length
   ·rw [yH (.inr h2)];simp only [go_sem,ya,yb,yt,yi,yh,fp,aw,show ¬(4:Int)=0 by decide,yI,t5,t6,t8,yJ,w1,show ¬(600:Int)<(p.length:Int) by omega,show (600:Int)<(q.length:Int) by omega,ym,yk,w3,f2]
   ·rw [yA (by omega)]
    cases found with
    | false=>
     rw [yA (by simp)];simp only [go_sem,ya,yb,yt,yi,yh,fp,aw,t5,t6,t7,t8,yJ,w1,show ¬(600:Int)<(p.length:Int) by omega,show ¬(600:Int)<(q.length:Int) by omega,ym,yk,w2,f1]
    | true=>
     have rL:=EZ _ rfl hp;have oR:=EZ _ rfl (hq rfl);generalize fR p=n at*
     generalize fR q=d at*
     subst rL;subst oR;obtain ⟨M,hM⟩:∃M:Nat,M=2400:=⟨_,rfl⟩;have bd:∀{m:Nat},(aB m).length<=600->Bd M (m:Int):=fun {m} hm=>by
      have h1:=I6 m;have h2:=I7 (aB m).length;have h3:(2:Nat)^(4*(aB m).length)<=2^M:=xD (by decide) (by omega);unfold Bd;rw [wW];exact yP h1 (xn h2 h3)
     obtain ⟨x,e1,hx⟩:=KM h.toTx (z:=(n:Int)) (by rw [kP];omega);obtain ⟨y,e2,hy⟩:=KM h.toTx (z:=(d:Int)) (by rw [kP];omega);rw [kP] at e1 e2;have kn:=bd (m:=n) (by omega);have kd:=bd (m:=d) (by omega);obtain ⟨g,e3,hg⟩:=af0 h.toNu hx hy kn kd (by omega);obtain ⟨e4,B4⟩:=DY h.toNu (z:=1) (by decide) (by decide);have kg:Bd M ((Int.gcd (n:Int) (d:Int):Nat):Int):=by
      rcases Nat.eq_zero_or_pos d with h0 | h0
      ·subst h0;simpa using kn
      ·exact kd.le (by have:=Nat.gcd_le_right n h0;simpa using this)
     have e5:=afW h.toNu hg B4 (K:=M) kg (by unfold Bd;exact Nat.one_lt_two_pow (by omega)) (by omega)
     have aws:Int.gcd (n:Int) (d:Int)=wD n d:=rfl;rw [aws] at e5;obtain ⟨xs,xw,rfl,Ez⟩:=hx;obtain ⟨ys,yw,rfl,zt⟩:=hy;obtain ⟨gs,gw,rfl,EA⟩:=hg;obtain ⟨l1,u1⟩:=Ez.aI;obtain ⟨l2,u2⟩:=zt.aI;obtain ⟨l3,u3⟩:=EA.aI;by_cases iL:wD n d=1
     ·rw [yA (by simp [iL])];have hs:cB (((wD n d:Nat):Int)-1)=0:=by rw [iL];rfl
      rw [hs] at e5;simp only [go_sem,ya,yb,yt,yi,yh,fp,aw,t5,t6,t7,t8,yJ,w1,show ¬(600:Int)<((aB n).length:Int) by omega,show ¬(600:Int)<((aB d).length:Int) by omega,ym,yk,w2,f1,e1,e2,u1.af,u2.af,u3.af,bC,a8,e3,e4,e5]
     ·rw [yH ⟨rfl,iL⟩];obtain ⟨c,hc,lH⟩:∃c,cB (((wD n d:Nat):Int)-1)=c/\c≠0:=⟨_,rfl,fun e=>iL (by
       unfold cB at e
       split at e
       ·exact absurd e (by decide)
       ·split at e
        ·omega
        ·exact absurd e (by decide))⟩
      rw [hc] at e5;simp only [go_sem,ya,yb,yt,yi,yh,fp,aw,yI,t5,t6,t7,t8,yJ,w1,show ¬(600:Int)<((aB n).length:Int) by omega,show ¬(600:Int)<((aB d).length:Int) by omega,ym,yk,w2,f1,e1,e2,u1.af,u2.af,u3.af,bC,a8,e3,e4,e5,lH,yI,w5]
def QR (h:Ck P L) {s:List Nat} (hl:s.length<=1000000000):ae P L 86 [.str s] (aa (a6 s)):=by
 have key:∀(neg:Bool) (t:List Nat),t.length<=1000000000->bQ P L (D P L) 128 [.str s,.str [45]]=some (.au [.str t,.bool neg])->ae P L 86 [.str s] (aa (Am neg t)):=by
  intro neg t hl e0;have e1:=awr h (t:=t) (by omega);obtain ⟨k,hk⟩:∃k,k=bR t:=⟨_,rfl⟩;have XC:k<=t.length:=by rw [hk];exact II t
  have e2:=af9 h (p:=t.take k) (by rw [yQ];omega);have e3:=af9 h (p:=t.drop (k+1)) (by rw [wi];omega);have lp:(t.take k).length=k:=by rw [yQ];omega
  have lq:(t.drop (k+1)).length=t.length-k-1:=by rw [wi];omega
  unfold Am;rw [<-hk] at e1 ⊢;generalize hp:t.take k=p at*
  generalize hq:t.drop (k+1)=q at*
  obtain ⟨Cr,sN⟩:∃ok:Bool,ok=(dS p&&(!neg|| !(cI p [48]))):=⟨_,rfl⟩;obtain ⟨ok,bY⟩:∃ok:Bool,ok=(Cr&&(!(decide (k<t.length))||(dS q&&(!(cI q [48])&& !(cI q [49]))))):=⟨_,rfl⟩
  have Pu:(if dS p=false\/(neg=true/\p=[48]) then 1
    else if k<t.length/\(dS q=false\/q=[48]\/q=[49]) then 1
    else if 600<k\/600<t.length-k-1 then 4
    else if k<t.length/\wD (fR p) (fR q)≠1 then 1 else 0:Int)=(if ok=false then 1
    else if 600<p.length\/600<q.length then 4
    else if decide (k<t.length)=true/\wD (fR p) (fR q)≠1 then 1
    else 0):=by
   rw [lp,lq];have a1:(dS p=false\/(neg=true/\p=[48]))↔Cr=false:=by
    rw [sN];cases dS p<;>cases neg<;>simp
    by_cases e:p=[48]
    ·simp [e,NN]
    ·simp [e,SY e]
   have a2:ok=false↔(Cr=false\/(k<t.length/\(dS q=false\/q=[48]\/q=[49]))):=by
    rw [bY];by_cases hs:k<t.length
    ·simp only [hs,ym,yJ,wX,uP];cases Cr<;>cases dS q<;>simp
     by_cases e:q=[48]
     ·simp [e,NN]
     ·by_cases e':q=[49]
      ·simp [e',NN]
      ·simp [e,e',SY e,SY e']
    ·simp [hs]
   by_cases h1:Cr=false
   ·rw [yH (a1.2 h1),yH (a2.2 (.inl h1))]
   ·rw [yA (fun e=>h1 (a1.1 e))];by_cases h2:k<t.length/\(dS q=false\/q=[48]\/q=[49])
    ·rw [yH h2,yH (a2.2 (.inr h2))]
    ·rw [yA h2,yA (fun e=>(a2.1 e).elim h1 h2)];simp only [vd]
  rw [Pu];have awt:ok=true->dS p=true/\(decide (k<t.length)=true->dS q=true):=fun e=>by
   rw [bY,ye] at e;obtain ⟨e1,e2⟩:=e;rw [sN,ye] at e1;refine ⟨e1.1,fun hs=>?_⟩;rw [hs,yJ,wX,ye] at e2;exact e2.1
  have tail:∀tm,ah tm 5= .str p->ah tm 6= .str q->ah tm 7= .bool (decide (k<t.length))->ah tm 8= .bool ok->fj [.t 2] (D P L (aw (aw (aw (aw (aw fp.body))))) ⟨tm,[],0,0⟩)=_:=fun tm t5 t6 t7 t8=>
   auu h (by omega) (by omega) awt t5 t6 t7 t8
  have mid:∀tm,ah tm 5= .str p->ah tm 6= .str q->ah tm 7= .bool (decide (k<t.length))->ah tm 8= .bool Cr->
    ∃cu,D P L (bk (aw (aw (aw (aw fp.body))))) ⟨tm,[],0,0⟩=some (.normal,⟨cu,[],0,0⟩)/\ah cu 5= .str p/\ah cu 6= .str q/\ah cu 7= .bool (decide (k<t.length))/\ah cu 8= .bool ok:=fun tm t5 t6 t7 t8=>by
   unfold ae at e3;by_cases hs:k<t.length
   ·rw [xo hs] at t7 bY ⊢;simp only [yJ,wX] at bY
    cases Cr with
    | false=>
     rw [wK] at bY;subst bY;refine ⟨_,by simp only [go_sem,ya,fp,bk,aw,t7,t8]<;>rfl,?_⟩
     simp only [go_sem,ya,t5,t6,t7,uP]
    | true=>
     rw [wI] at bY
     cases hd:dS q with
     | false=>
      rw [hd] at e3 bY;rw [wK] at bY;subst bY;refine ⟨_,by simp only [go_sem,ya,fp,bk,aw,t6,t7,t8,e3]<;>rfl,?_⟩
      simp only [go_sem,ya,t5,t6,t7,uP]
     | true=>
      rw [hd] at e3 bY;rw [wI] at bY
      cases jD:cI q [48] with
      | true=>
       rw [jD,yJ,wK] at bY;subst bY;refine ⟨_,by simp only [go_sem,ya,fp,bk,aw,t6,t7,t8,e3,rX,jD,yJ]<;>rfl,?_⟩
       simp only [go_sem,ya,t5,t6,t7,uP]
      | false=>
       rw [jD,yI,wI] at bY;subst bY;refine ⟨_,by simp only [go_sem,ya,fp,bk,aw,t6,t7,t8,e3,rX,jD,yI]<;>rfl,?_⟩
       simp only [go_sem,ya,t5,t6,t7,uP]
   ·rw [yZ hs] at t7 bY ⊢;simp only [yI,uy,Bool.and_true] at bY;subst bY;refine ⟨_,by simp only [go_sem,fp,bk,aw,t7]<;>rfl,?_⟩
    simp only [go_sem,ya,t5,t6,t7,t8,uP]
  have fin:∀tm,ah tm 5= .str p->ah tm 6= .str q->ah tm 7= .bool (decide (k<t.length))->ah tm 8= .bool Cr->
    D P L (.seq (bk fp.body) (.seq (bk (aw fp.body)) (.seq (bk (aw (aw fp.body))) (bk (aw (aw (aw fp.body))))))) ⟨[(0,.str s)],[],0,0⟩=some (.normal,⟨tm,[],0,0⟩)->ae P L 86 [.str s] _:=fun tm t5 t6 t7 t8 e=>by
   obtain ⟨cu,e',f5,f6,f7,f8⟩:=mid tm t5 t6 t7 t8;unfold ae;rw [ay h.h86];show fj [.t 2] (D P L (.seq (bk fp.body) (.seq (bk (aw fp.body)) (.seq (bk (aw (aw fp.body))) (.seq (bk (aw (aw (aw fp.body)))) (.seq (bk (aw (aw (aw (aw fp.body))))) (aw (aw (aw (aw (aw fp.body)))))))))) ⟨[(0,.str s)],[],0,0⟩)=_
   rw [alC,e,gD,kE,e',gD];exact tail cu f5 f6 f7 f8
  unfold ae at e2
  cases hd:dS p with
  | false=>
   rw [hd] at e2 sN;rw [wK] at sN;subst sN;refine fin _ ?_ ?_ ?_ ?_ (by simp only [go_sem,ya,fp,bk,aw,e0,e1,e2]<;>rfl)<;>simp only [go_sem,ya]
  | true=>
   rw [hd] at e2 sN
   cases neg with
   | false=>
    simp only [yI,uy] at sN;subst sN;refine fin _ ?_ ?_ ?_ ?_ (by simp only [go_sem,ya,fp,bk,aw,e0,e1,e2,yI]<;>rfl)<;>simp only [go_sem,ya]
   | true=>
    simp only [yJ,wX] at sN;subst sN;refine fin _ ?_ ?_ ?_ ?_ (by simp only [go_sem,ya,fp,bk,aw,e0,e1,e2,yJ,rX]<;>rfl)<;>simp only [go_sem,ya]
 unfold a6;have e0:=awq h s
 cases s with
 | nil=>exact key false [] (by simp) e0
 | cons b r=>
  by_cases hb:b=45
  ·subst hb;exact key true r (by simp at hl;omega) e0
  ·simp only [hb,xh];rw [yA (by simpa using hb)] at e0;exact key false (b::r) hl e0
end
end
section
open Go (IntKind)
def LN (z:Int):Bool:=decide (600<(aB z.natAbs).length)
def LG (r:Rat):Bool:=LN r.num||LN (r.den:Int)
def ajW {m B k:Nat} (hB:B<=3*k) (hk:0<k) (h:m<2^B):(aB m).length<=k:=by
 obtain ⟨j,rfl⟩:∃j,k=j+1:=⟨k-1,by omega⟩;refine qO (yP h (xn (xD (by decide) hB) ?_));rw [uW];exact uo (by decide) _
def SZ:∀f n:Nat,eO f n<=f
 | 0,_=>yr _
 | f+1,n=>by
  unfold eO
  cases yv n 0 with
  | true=>exact Nat.zero_le _
  | false=>have:=SZ f (n/2);simp only [yO];omega
def asC {P:aG} {L:Lib} {f:cD} (h:L.pure 175=some Jc) {x:Nat} (hx:x<18446744073709551616):bQ P L f 175 [uc x]=some (aa (eO 64 x:Nat)):=by
 rw [js h];show (bif yM x 18446744073709551616 then _ else none)=_
 rw [jM hx];rfl
def apV {V n top low:Nat} (hn:0<n) (h0:0<top) (ht:top<18446744073709551616) (hV:V=low+18446744073709551616^(n-1)*top) (hl:low<18446744073709551616^(n-1)):V<2^(64*(n-1)+eO 64 top):=by
 obtain ⟨l1,l2,l3⟩:=SA h0 ht;have hle:=SZ 64 top;have h1:top<2^eO 64 top:=by
  have e:(18446744073709551616:Nat)=2^eO 64 top*2^(64-eO 64 top):=by rw [<-wB,show eO 64 top+(64-eO 64 top)=64 by omega]
  rw [e] at l3;exact Nat.lt_of_mul_lt_mul_right l3
 have h3:=Nat.mul_le_mul_left (18446744073709551616^(n-1)) (show top+1<=2^eO 64 top from h1);rw [wB,uW]
 grind
section
variable {P:aG} {L:Lib}
def anI (K:Nat):2^K<=18446744073709551616^(K/64+1):=by
 rw [show (18446744073709551616:Nat)=2^64 from rfl,<-uW];exact xD (by decide) (by omega)
def auv (h:Tx P L) {v:AV} {z:Int} {K:Nat} (hv:cE v z) (hz:Bd K z) (hK:K<=4000000000):∃B:Nat,ae P L 172 [v] (aa B)/\z.natAbs<2^B/\B<=K+64:=by
 obtain ⟨s,w,rfl,hn⟩:=hv;obtain ⟨l,u⟩:=hn.aI;obtain ⟨r,e1,hr⟩:=Aj h.toNu hn;obtain ⟨ws,hw,g,nz',hb⟩:=hr;have hl:ws.length<=K/64+1:=oz nz' hb (yP hz (anI K));unfold ae at e1 ⊢;by_cases h0:ws=[]
 ·subst h0;have mf:z.natAbs=0:=by rw [<-hb];rfl
  refine ⟨0,?_,by rw [mf];decide,by omega⟩
  rw [ay h.af3];simp only [go_sem,ya,yb,O3,aK,cr,a8,u.pu,u.af,u.one,e1,hw.len,yK,show ((0:Nat):Int)=0 from rfl,ym]
 ·have hp:0<ws.length:=List.length_pos_iff.2 h0;have Bx:=Nh nz' h0;have Es:=gO (show 0<18446744073709551616 by decide) g (ws.length-1);have ei:=hw.aZ (i:=ws.length-1) (by omega);have eK:=jv (b:=18446744073709551616) (l:=ws) (ws.length-1);have KN:=mA (Bb g (ws.length-1));rw [yQ,Nat.min_eq_left (by omega)] at KN;rw [show ws.length-1+1=ws.length by omega,yp (yr _)] at eK;generalize ws.getD (ws.length-1) 0=top at*
  have e2:=asC (P:=P) (f:=D P L) h.awe Es;have hle:=SZ 64 top;have ae2:=apV hp (Nat.pos_of_ne_zero Bx) Es eK KN;rw [hb] at ae2;refine ⟨64*(ws.length-1)+eO 64 top,?_,ae2,by omega⟩;rw [ay h.af3]
  simp only [go_sem,ya,yb,O3,aK,cr,a8,u.pu,u.af,u.one,e1,hw.len,show ¬(ws.length:Int)=0 by omega,show (ws.length:Int)-1=((ws.length-1:Nat):Int) by omega,wrapN (n:=ws.length-1) (by omega),show (64:Int)*((ws.length-1:Nat):Int)=((64*(ws.length-1):Nat):Int) by omega,wrapN (n:=64*(ws.length-1)) (by omega),ei,e2,show ((64*(ws.length-1):Nat):Int)+((eO 64 top:Nat):Int)=((64*(ws.length-1)+eO 64 top:Nat):Int) from rfl,wrapN (n:=64*(ws.length-1)+eO 64 top) (by omega)]
def awu (h:Tx P L) {v:AV} {z:Int} {K:Nat} (hv:cE v z) (hz:Bd K z) (hK:K<=4000000000):∃B:Nat,ae P L 172 [v] (aa B)/\z.natAbs<2^B/\B<=300000000000:=by
 obtain ⟨B,h1,h2,h3⟩:=auv h hv hz hK;exact ⟨B,h1,h2,by omega⟩
def alD (z:Int):(if gQ [45] (aY z)=true then (aY z).drop 1 else aY z)=aB z.natAbs:=by
 by_cases h:z<0
 ·rw [nh h];rfl
 ·obtain ⟨m,rfl⟩:∃m:Nat,z=m:=⟨z.toNat,by omega⟩;rw [kP];obtain ⟨b,r,hb,h1,_⟩:=EY m;rw [wW,hb,R8 h1];rfl
def aga (h:Tx P L) {v:AV} {z:Int} {K:Nat} (hv:cE v z) (hz:Bd K z) (hK:K<=4000000000):ae P L 151 [v] (.bool (LN z)):=by
 obtain ⟨B,e1,hB,hBb⟩:=awu h hv hz hK;have e2:=Xs h hv hz hK;obtain ⟨s,w,rfl,hn⟩:=hv;obtain ⟨l,u⟩:=hn.aI;have e3:bQ P L (D P L) 153 [.str (aY z),.str [45]]=some (.str (aB z.natAbs)):=by
  rw [js h.Vp,<-alD];show some (AV.str (bif gQ [45] (aY z) then (aY z).drop 1 else aY z))=_
  cases gQ [45] (aY z)<;>rfl
 unfold ae at e1 e2 ⊢;rw [ay h.awf];unfold LN;by_cases h1:1800<B
 ·simp only [go_sem,ya,yb,OY,aK,cr,a8,u.pu,u.af,u.one,e1,show (1800:Int)<(B:Int) by omega,ym,e2,e3];by_cases h2:600<(aB z.natAbs).length
  ·rw [xo h2,xo (by omega)]
  ·rw [yZ h2,yZ (by omega)]
 ·have h2:=ajW (k:=600) (by omega) (by decide) hB;rw [yZ (by omega)];simp only [go_sem,ya,yb,OY,aK,cr,a8,u.pu,u.af,u.one,e1,show ¬(1800:Int)<(B:Int) by omega,yk]
def awv (h:Tx P L) {v:AV} {a:Rat} {K:Nat} (hv:cp v a) (ka:Hq K a) (hK:K<=4000000000):ae P L 107 [v] (.bool (LG a)):=by
 obtain ⟨s1,w1,s2,w2,rfl,h1,h2⟩:=hv;have e1:=aga h ⟨s1,w1,rfl,h1⟩ ka.1 hK;have e2:=aga h ⟨s2,w2,rfl,h2⟩ ka.2 hK;obtain ⟨l1,u1⟩:=h1.aI;obtain ⟨l2,u2⟩:=h2.aI;unfold ae at e1 e2 ⊢;rw [ay h.awg];unfold LG
 cases hb:LN a.num with
 | true=>
  rw [hb] at e1;simp only [go_sem,ya,yb,OR,aK,aV,yd,cr,a8,u1.pu,u1.af,u1.one,u2.pu,u2.one,e1];rfl
 | false=>
  rw [hb] at e1;simp only [go_sem,ya,yb,OR,aK,aV,yd,show xg 2 [aa s1,w1,aa s2,w2]=[aa s2,w2] from rfl,cr,a8,u1.pu,u1.af,u1.one,u2.pu,u2.af,u2.one,e1,e2];rfl
end
end
section
open Go (IntKind)
def alE (p s:Nat):p*(s%1000000000)+p*1000000000*(s/1000000000)=p*s:=by
 rw [Nat.mul_assoc,<-Nat.mul_add,Nat.mod_add_div]
def IW {l:List Int} {i:Nat} (h:l.length<=i):l.getD i 0=0:=by simp_all
def anJ {a b out:List Int} {i c:Nat} {x y:Int} (hx:x=a.getD i 0) (hy:y=b.getD i 0) (h1:0<=x) (h2:0<=y) (hl:out.length=i) (hv:dv out+1000000000^i*c=dv (a.take i)+dv (b.take i)):
  dv (out++[(((x.toNat+y.toNat+c)%1000000000:Nat):Int)])+1000000000^(i+1)*((x.toNat+y.toNat+c)/1000000000)=dv (a.take (i+1))+dv (b.take (i+1)):=by
 rw [pn,pn,mh,hl,<-hx,<-hy];simp only [dv,xp,xI,y7,xk]
 have:=alE (1000000000^i) (x.toNat+y.toNat+c)
 grind
section
variable {P:aG} {L:Lib}
def asD (mR:Has P L 302 sH) {v w:AV} {a b:List Int} (hv:bl v a) (hw:bl w b) (ha:dg a) (hb:dg b) {N:Nat} (la:a.length<=N) (lb:b.length<=N) (lN:N<=20000000000):
  ∀k s,(∃(i c:Nat) (out:List Int),2*(N-i)+c=k/\out.length=i/\c<=1/\dg out/\dv out+1000000000^i*c=dv (a.take i)+dv (b.take i)/\i<=N+1/\(i<=N\/c=0)/\
    ((i=0/\aT [0,1,5,6,7] s=⟨[(0,v),(1,w),(5,.ab),(6,aa c),(7,aa i)],[],0,0⟩)\/
    (0<i/\aT [0,1,5,6,7] s=⟨[(0,v),(1,w),(5,.aC 0 0 i),(6,aa c),(7,aa i)],[(0,.cells true true false 1 (out.map aa))],1,0⟩)))->
   ∃ex s',D P L (.loop [0,1,5,6,7] pC) s=some (ex,s')/\∃tm out,ex= .exit 0/\dg out/\dv out=dv a+dv b/\out.length<=N+1/\((out=[]/\ah tm 5= .ab/\s'=⟨tm,[],0,0⟩)\/(0<out.length/\ah tm 5= .aC 0 0 out.length/\s'=⟨tm,[(0,.cells true true false 1 (out.map aa))],1,0⟩)):=by
 intro dq sq;generalize bw:aT [0,1,5,6,7] sq=s0;revert bw s0 sq dq;apply dn;rintro k s ⟨i,c,out,hk,hlen,hc,nT,aR,hi,GG,hs⟩;have e1:=U9 mR hv i;have e2:=U9 mR hw i;unfold ae at e1 e2;have ga:=iD ha i;have gb:=iD hb i;by_cases oM:i<a.length\/i<b.length\/0<c
 ·left
  obtain ⟨x,hx⟩:∃x,x=a.getD i 0:=⟨_,rfl⟩;obtain ⟨y,hy⟩:∃y,y=b.getD i 0:=⟨_,rfl⟩;rw [<-hx] at e1 ga;rw [<-hy] at e2 gb;have lh:=anJ (c:=c) hx hy ga.1 gb.1 hlen aR;obtain ⟨s0,kJ⟩:∃s0,s0=x.toNat+y.toNat+c:=⟨_,rfl⟩;rw [<-kJ] at lh;have BS:x+y+(c:Int)=(s0:Int):=by omega
  have hs9:s0<2000000000:=by omega
  have hr:((s0:Nat):Int).tmod 1000000000=((s0%1000000000:Nat):Int):=by rw [xE (by omega)];rfl
  have hq:((s0:Nat):Int).tdiv 1000000000=((s0/1000000000:Nat):Int):=by rw [xZ (by omega)];rfl
  have mZ:s0/1000000000<=1:=by omega
  have auw:2*(N-(i+1))+s0/1000000000<k:=by
   by_cases hm:i<N
   ·omega
   ·have:c=1:=by omega
    have AI:x=0:=by rw [hx];exact IW (by omega)
    have jW:y=0:=by rw [hy];exact IW (by omega)
    subst AI;subst jW
    have:s0=1:=by rw [kJ,this];rfl
    subst this;omega
  have rk:dg (out++[((s0%1000000000:Nat):Int)]):=hJ.2 ⟨nT,jG.2 (by omega)⟩;have JU:(out++[((s0%1000000000:Nat):Int)]).length=i+1:=by simp [hlen]
  have aww:i+1<=N\/s0/1000000000=0:=by
   by_cases hm:i<N
   ·exact .inl hm
   ·right
    have:c=1:=by omega
    have AI:x=0:=by rw [hx];exact IW (by omega)
    have jW:y=0:=by rw [hy];exact IW (by omega)
    subst AI;subst jW
    have:s0=1:=by rw [kJ,this];rfl
    subst this;rfl
  have fin:∃s',D P L pC s=some (.normal,s')/\aT [0,1,5,6,7] s'=⟨[(0,v),(1,w),(5,.aC 0 0 (i+1)),(6,aa (s0/1000000000:Nat)),(7,aa (i+1:Nat))],[(0,.cells true true false 1 ((out++[((s0%1000000000:Nat):Int)]).map aa))],1,0⟩:=by
   have three:((i:Int)<a.length)\/(¬(i:Int)<a.length/\(i:Int)<b.length)\/(¬(i:Int)<a.length/\¬(i:Int)<b.length/\(0:Int)<c):=by omega
   rcases three with t1 | ⟨t1,t2⟩ | ⟨t1,t2,t3⟩
   ·rcases hs with ⟨h0,rfl⟩ | ⟨h0,rfl⟩
    ·subst h0;have ji:out=[]:=yD hlen;subst ji
     simp only [go_sem,ya,yb,xj,yt,yi,yh,pC,hv.len,hv.af,hw.af,t1,e1,e2,wrap64 (n:=x+y) (by omega) (by omega),BS,wrap64 (n:=(s0:Int)) (by omega) (by omega),fM _ _ _ (show (1000000000:Int)≠0 by decide),fw _ _ _ (show (1000000000:Int)≠0 by decide),hr,hq,wrap64 (n:=((s0/1000000000:Nat):Int)) (by omega) (by omega),gC];refine ⟨_,rfl,?_⟩;rw [wrap64 (by omega) (by omega)];simp only [go_sem,ya,yb,an,ak hv.pu,ao _ hv.pu,ak hw.pu,ao _ hw.pu]<;>rfl
    ·simp only [go_sem,ya,yb,yi,yh,pC,hv.len,hv.af,hw.af,t1,e1,e2,wrap64 (n:=x+y) (by omega) (by omega),BS,wrap64 (n:=(s0:Int)) (by omega) (by omega),fM _ _ _ (show (1000000000:Int)≠0 by decide),hr]
     rw [fV (ex:=false) (pu:=true) (cs:=out.map aa) (by simp only [go_sem,ya]) (by rw [yL,hlen,yh]) (by omega) (by omega) (by decide) (by simp only [go_sem])]
     simp only [go_sem,ya,yb,fw _ _ _ (show (1000000000:Int)≠0 by decide),hq,wrap64 (n:=((s0/1000000000:Nat):Int)) (by omega) (by omega)];refine ⟨_,rfl,?_⟩;rw [wrap64 (by omega) (by omega),xq];simp only [go_sem,ya,yb,an,ak hv.pu,ao _ hv.pu,ak hw.pu,ao _ hw.pu]<;>rfl
   ·rcases hs with ⟨h0,rfl⟩ | ⟨h0,rfl⟩
    ·subst h0;have ji:out=[]:=yD hlen;subst ji
     simp only [go_sem,ya,yb,xj,yt,yi,yh,pC,hv.len,hv.af,hw.len,hw.af,t1,t2,e1,e2,wrap64 (n:=x+y) (by omega) (by omega),BS,wrap64 (n:=(s0:Int)) (by omega) (by omega),fM _ _ _ (show (1000000000:Int)≠0 by decide),fw _ _ _ (show (1000000000:Int)≠0 by decide),hr,hq,wrap64 (n:=((s0/1000000000:Nat):Int)) (by omega) (by omega),gC];refine ⟨_,rfl,?_⟩;rw [wrap64 (by omega) (by omega)];simp only [go_sem,ya,yb,an,ak hv.pu,ao _ hv.pu,ak hw.pu,ao _ hw.pu]<;>rfl
    ·simp only [go_sem,ya,yb,yi,yh,pC,hv.len,hv.af,hw.len,hw.af,t1,t2,e1,e2,wrap64 (n:=x+y) (by omega) (by omega),BS,wrap64 (n:=(s0:Int)) (by omega) (by omega),fM _ _ _ (show (1000000000:Int)≠0 by decide),hr]
     rw [fV (ex:=false) (pu:=true) (cs:=out.map aa) (by simp only [go_sem,ya]) (by rw [yL,hlen,yh]) (by omega) (by omega) (by decide) (by simp only [go_sem])]
     simp only [go_sem,ya,yb,fw _ _ _ (show (1000000000:Int)≠0 by decide),hq,wrap64 (n:=((s0/1000000000:Nat):Int)) (by omega) (by omega)];refine ⟨_,rfl,?_⟩;rw [wrap64 (by omega) (by omega),xq];simp only [go_sem,ya,yb,an,ak hv.pu,ao _ hv.pu,ak hw.pu,ao _ hw.pu]<;>rfl
   ·rcases hs with ⟨h0,rfl⟩ | ⟨h0,rfl⟩
    ·subst h0;have ji:out=[]:=yD hlen;subst ji
     simp only [go_sem,ya,yb,xj,yt,yi,yh,pC,hv.len,hv.af,hw.len,hw.af,t1,t2,t3,e1,e2,wrap64 (n:=x+y) (by omega) (by omega),BS,wrap64 (n:=(s0:Int)) (by omega) (by omega),fM _ _ _ (show (1000000000:Int)≠0 by decide),fw _ _ _ (show (1000000000:Int)≠0 by decide),hr,hq,wrap64 (n:=((s0/1000000000:Nat):Int)) (by omega) (by omega),gC];refine ⟨_,rfl,?_⟩;rw [wrap64 (by omega) (by omega)];simp only [go_sem,ya,yb,an,ak hv.pu,ao _ hv.pu,ak hw.pu,ao _ hw.pu]<;>rfl
    ·simp only [go_sem,ya,yb,yi,yh,pC,hv.len,hv.af,hw.len,hw.af,t1,t2,t3,e1,e2,wrap64 (n:=x+y) (by omega) (by omega),BS,wrap64 (n:=(s0:Int)) (by omega) (by omega),fM _ _ _ (show (1000000000:Int)≠0 by decide),hr]
     rw [fV (ex:=false) (pu:=true) (cs:=out.map aa) (by simp only [go_sem,ya]) (by rw [yL,hlen,yh]) (by omega) (by omega) (by decide) (by simp only [go_sem])]
     simp only [go_sem,ya,yb,fw _ _ _ (show (1000000000:Int)≠0 by decide),hq,wrap64 (n:=((s0/1000000000:Nat):Int)) (by omega) (by omega)];refine ⟨_,rfl,?_⟩;rw [wrap64 (by omega) (by omega),xq];simp only [go_sem,ya,yb,an,ak hv.pu,ao _ hv.pu,ak hw.pu,ao _ hw.pu]<;>rfl
  obtain ⟨s',f1,f2⟩:=fin;exact ⟨s',_,f1,auw,i+1,s0/1000000000,_,rfl,JU,mZ,rk,lh,by omega,aww,.inr ⟨by omega,f2⟩⟩
 ·right
  have lH:c=0:=by omega
  subst lH;rw [xI,y7,yp (by omega),yp (by omega)] at aR;rcases hs with ⟨h0,rfl⟩ | ⟨h0,rfl⟩
  ·simp only [go_sem,ya,pC,hv.len,hw.len,show ¬(i:Int)<a.length by omega,show ¬(i:Int)<b.length by omega,show ¬(0:Int)<((0:Nat):Int) by omega];exact ⟨_,_,rfl,by simp,_,out,rfl,nT,aR,by omega,.inl ⟨yD (by omega),by simp only [go_sem,ya],rfl⟩⟩
  ·simp only [go_sem,ya,pC,hv.len,hw.len,show ¬(i:Int)<a.length by omega,show ¬(i:Int)<b.length by omega,show ¬(0:Int)<((0:Nat):Int) by omega];exact ⟨_,_,rfl,by simp,_,out,rfl,nT,aR,by omega,.inr ⟨by omega,by rw [hlen];simp only [go_sem,ya],rfl⟩⟩
def agb (h:Has P L 295 Ks) (mR:Has P L 302 sH) {v w:AV} {a b:List Int} (hv:bl v a) (hw:bl w b) (ha:dg a) (hb:dg b) (la:a.length<=20000000000) (lb:b.length<=20000000000):
  ∃r out,ae P L 295 [v,w] r/\bl (shut r) out/\dg out/\dv out=dv a+dv b/\out.length<=max a.length b.length+1:=by
 have jh:∃out,ae P L 295 [v,w] (if out=[] then .ab else .bW false 1 out.length (out.map aa))/\dg out/\dv out=dv a+dv b/\out.length<=max a.length b.length+1:=by
  unfold ae;rw [ay h];simp only [go_sem,Ks];generalize hq:D P L (.loop [0,1,5,6,7] pC) _=q;obtain ⟨ex,s,rfl,tm,out,rfl,hd,aR,hl,hs⟩:=bD hq (asD (P:=P) (L:=L) mR hv hw ha hb (N:=max a.length b.length) (by omega) (by omega) (by omega) (2*(max a.length b.length))) ⟨0,0,[],by omega,rfl,by omega,rfl,by simp [dv],by omega,.inr rfl,.inl ⟨rfl,by simp only [go_sem,ya,an,ak hv.pu,ao _ hv.pu,ak hw.pu,ao _ hw.pu]<;>rfl⟩⟩
  refine ⟨out,?_,hd,aR,hl⟩;rcases hs with ⟨h0,h5,rfl⟩ | ⟨h0,h5,rfl⟩
  ·rw [yH h0];simp only [go_sem,an,h5]
  ·rw [yA (by intro e;subst e;simp at h0)];simp only [go_sem,yb,an,h5];exact oX (nd _ _ _) (by simp) (by decide)
 obtain ⟨out,g1,g2,g3,g4⟩:=jh;refine ⟨_,out,g1,?_,g2,g3,g4⟩
 split
 ·rename_i e;subst e;exact nf
 ·exact fy false out
end
end
section
open Go (IntKind)
section
variable {P:aG} {L:Lib}
def VA (h:Has P L 296 sG) {v w:AV} {a b:List Int} (hv:bl v a) (hw:bl w b) (ha:dg a) (hb:dg b) (na:nz a) (nb:nz b) (la:a.length<=20000000000) (lb:b.length<=20000000000):
  ae P L 296 [v,w] (aa (dR (dv a) (dv b))):=by
 unfold ae;rw [ay h];by_cases hlen:a.length=b.length
 ·have key:=eF (P:=P) (L:=L) (live:=[0,1,5]) (a:=C9)
   (I:=fun k st=>∃j:Nat,st=⟨[(0,v),(1,w),(5,aa ((j:Int)-1))],[],0,0⟩/\j<=a.length/\j=k/\a.drop j=b.drop j)
   (Q:=fun ex st=>∃tm ct,st=⟨tm,[],ct,0⟩/\((ex= .ret/\ah tm 4=aa (dR (dv a) (dv b)))\/(ex= .exit 0/\a=b))) ?_
  ·simp only [go_sem,ya,sG,hv.len,hw.len,show (a.length:Int)=b.length by omega];generalize hq:D P L (.loop [0,1,5] C9) _=q;obtain ⟨ex,st,rfl,tm,ct,rfl,h2⟩:=bD hq (key a.length) ⟨a.length,by
    rw [wrap64 (by omega) (by omega)];rw [hlen]
    simp only [go_sem,ya,an,ak hv.pu,ao _ hv.pu,ak hw.pu,ao _ hw.pu]<;>rfl,yr _,rfl,by rw [yT (yr _),yT (by omega)]⟩
   rcases h2 with ⟨rfl,h2⟩ | ⟨rfl,h2⟩
   ·simp only [go_sem,h2]
   ·simp only [go_sem,an];subst h2;simp [dR]
  ·rintro k st ⟨j,rfl,hj,rfl,he⟩
   cases j with
   | zero=>
    right
    simp only [go_sem,ya,C9,show ¬(0:Int)<=((0:Nat):Int)-1 by omega];exact ⟨_,_,rfl,by simp,_,_,rfl,.inr ⟨rfl,by simpa using he⟩⟩
   | succ i=>
    have h1:i<a.length:=by omega
    have h2:i<b.length:=by omega
    have GK:=abE ha hb h1 h2 he;have a7:=abE hb ha h2 h1 he.symm;by_cases c1:a[i]<b[i]
    ·right
     simp only [go_sem,ya,C9,show ((i+1:Nat):Int)-1=(i:Int) by omega,show (0:Int)<=(i:Int) by omega,hv.aZ h1,hw.aZ h2,c1];refine ⟨_,_,rfl,by simp,_,_,rfl,.inl ⟨rfl,?_⟩⟩;simp only [go_sem];unfold dR;rw [yH (GK c1)]
    ·by_cases c2:b[i]<a[i]
     ·right
      simp only [go_sem,ya,C9,show ((i+1:Nat):Int)-1=(i:Int) by omega,show (0:Int)<=(i:Int) by omega,hv.aZ h1,hw.aZ h2,c1,c2];refine ⟨_,_,rfl,by simp,_,_,rfl,.inl ⟨rfl,?_⟩⟩;simp only [go_sem];unfold dR;rw [yA (by omega),yH (by omega)]
     ·left
      simp only [go_sem,ya,C9,show ((i+1:Nat):Int)-1=(i:Int) by omega,show (0:Int)<=(i:Int) by omega,hv.aZ h1,hw.aZ h2,c1,c2];refine ⟨_,i,rfl,by omega,i,?_,by omega,rfl,?_⟩
      ·rw [wrap64 (by omega) (by omega)];simp only [go_sem,ya,an,ak hv.pu,ao _ hv.pu,ak hw.pu,ao _ hw.pu]<;>rfl
      ·rw [yN h1,yN h2,he,show a[i]=b[i] by omega]
 ·by_cases c1:a.length<b.length
  ·have:=Tn ha nb hb c1
   simp only [go_sem,ya,sG,hv.len,hw.len,show ¬(a.length:Int)=b.length by omega,show (a.length:Int)<b.length by omega];unfold dR;rw [yH this]
  ·have:=Tn hb na ha (show b.length<a.length by omega)
   simp only [go_sem,ya,sG,hv.len,hw.len,show ¬(a.length:Int)=b.length by omega,show ¬(a.length:Int)<b.length by omega];unfold dR;rw [yA (by omega),yH this]
def anK {a b out:List Int} {i c:Nat} {x y z:Int} {c':Nat} (hx:x=a.getD i 0) (hy:y=b.getD i 0) (h1:0<=x) (h2:0<=y) (h3:0<=z) (hz:z=x-y-c+1000000000*c') (hl:out.length=i) (hv:dv out+dv (b.take i)=dv (a.take i)+1000000000^i*c):
  dv (out++[z])+dv (b.take (i+1))=dv (a.take (i+1))+1000000000^(i+1)*c':=by
 rw [pn,pn,mh,hl,<-hx,<-hy];simp only [dv,xI,y7,xk];have e:z.toNat+y.toNat+c=x.toNat+1000000000*c':=by omega
 grind
end
end
section
open Go (IntKind)
section
variable {P:aG} {L:Lib}
def asE (mR:Has P L 302 sH) {v w:AV} {a b:List Int} (hv:bl v a) (hw:bl w b) (ha:dg a) (hb:dg b) (la:a.length<=20000000000) (hle:dv b<=dv a) (Ew:b.length<=a.length):
  ∀k s,(∃(i c:Nat) (out:List Int),i+k=a.length/\out.length=i/\c<=1/\dg out/\dv out+dv (b.take i)=dv (a.take i)+1000000000^i*c/\
    ((i=0/\aT [0,1,5,6,7] s=⟨[(0,v),(1,w),(5,.ab),(6,aa c),(7,aa i)],[],0,0⟩)\/
    (0<i/\aT [0,1,5,6,7] s=⟨[(0,v),(1,w),(5,.aC 0 0 i),(6,aa c),(7,aa i)],[(0,.cells true true false 1 (out.map aa))],1,0⟩)))->
   ∃ex s',D P L (.loop [0,1,5,6,7] se) s=some (ex,s')/\∃tm out,ex= .exit 0/\dg out/\dv out+dv b=dv a/\out.length<=20000000000/\((out=[]/\ah tm 5= .ab/\s'=⟨tm,[],0,0⟩)\/(0<out.length/\ah tm 5= .aC 0 0 out.length/\s'=⟨tm,[(0,.cells true true false 1 (out.map aa))],1,0⟩)):=by
 intro dq sq;generalize bw:aT [0,1,5,6,7] sq=s0;revert bw s0 sq dq;apply dn;rintro k s ⟨i,c,out,hk,hlen,hc,nT,aR,hs⟩;have e2:=U9 mR hw i;unfold ae at e2;have ga:=iD ha i;have gb:=iD hb i;by_cases oM:i<a.length
 ·left
  obtain ⟨x,hx⟩:∃x,x=a.getD i 0:=⟨_,rfl⟩;obtain ⟨y,hy⟩:∃y,y=b.getD i 0:=⟨_,rfl⟩;have Ez:a[i]=x:=by rw [hx];simp [List.getD_eq_getElem?_getD,List.getElem?_eq_getElem oM]
  have e1:=hv.aZ oM;rw [Ez] at e1;rw [<-hx] at ga;rw [<-hy] at e2 gb;obtain ⟨z,c',hz,mZ,mf,lX,Dz⟩:∃(z:Int) (c':Nat),z=x-y-c+1000000000*c'/\c'<=1/\0<=z/\z<1000000000/\((x-y-c<0/\c'=1)\/(¬x-y-c<0/\c'=0)):=by
   by_cases h:x-y-c<0
   ·exact ⟨x-y-c+1000000000,1,by omega,by omega,by omega,by omega,.inl ⟨h,rfl⟩⟩
   ·exact ⟨x-y-c,0,by omega,by omega,by omega,by omega,.inr ⟨h,rfl⟩⟩
  have lh:=anK hx hy ga.1 gb.1 mf hz hlen aR;have rk:dg (out++[z]):=hJ.2 ⟨nT,jG.2 ⟨mf,lX⟩⟩;have JU:(out++[z]).length=i+1:=by simp [hlen]
  have fin:∃s',D P L se s=some (.normal,s')/\aT [0,1,5,6,7] s'=⟨[(0,v),(1,w),(5,.aC 0 0 (i+1)),(6,aa c'),(7,aa (i+1:Nat))],[(0,.cells true true false 1 ((out++[z]).map aa))],1,0⟩:=by
   rcases Dz with ⟨fJ,rfl⟩ | ⟨fJ,rfl⟩
   ·have fe:x-y-c+1000000000=z:=by omega
    rcases hs with ⟨h0,rfl⟩ | ⟨h0,rfl⟩
    ·subst h0;have ji:out=[]:=yD hlen;subst ji
     simp only [go_sem,ya,yb,xj,yt,yi,yh,se,hv.len,hw.af,show ((0:Nat):Int)<a.length by omega,e1,e2,wrap64 (n:=x-y) (by omega) (by omega),wrap64 (n:=x-y-(c:Int)) (by omega) (by omega),fJ,fe,wrap64 (n:=z) (by omega) (by omega),gC];refine ⟨_,rfl,?_⟩;rw [wrap64 (by omega) (by omega)];simp only [go_sem,ya,yb,an,ak hv.pu,ao _ hv.pu,ak hw.pu,ao _ hw.pu]<;>rfl
    ·simp only [go_sem,ya,yb,yi,yh,se,hv.len,hw.af,show (i:Int)<a.length by omega,e1,e2,wrap64 (n:=x-y) (by omega) (by omega),wrap64 (n:=x-y-(c:Int)) (by omega) (by omega),fJ,fe,wrap64 (n:=z) (by omega) (by omega)]
     rw [fV (ex:=false) (pu:=true) (cs:=out.map aa) (by simp only [go_sem,ya]) (by rw [yL,hlen,yh]) (by omega) (by omega) (by decide) (by simp only [go_sem])];simp only [go_sem,ya,yb];refine ⟨_,rfl,?_⟩;rw [wrap64 (by omega) (by omega),xq];simp only [go_sem,ya,yb,an,ak hv.pu,ao _ hv.pu,ak hw.pu,ao _ hw.pu]<;>rfl
   ·have fe:x-y-c=z:=by omega
    have fJ:¬z<0:=by omega
    rcases hs with ⟨h0,rfl⟩ | ⟨h0,rfl⟩
    ·subst h0;have ji:out=[]:=yD hlen;subst ji
     simp only [go_sem,ya,yb,xj,yt,yi,yh,se,hv.len,hw.af,show ((0:Nat):Int)<a.length by omega,e1,e2,wrap64 (n:=x-y) (by omega) (by omega),fe,wrap64 (n:=z) (by omega) (by omega),fJ,gC];refine ⟨_,rfl,?_⟩;rw [wrap64 (by omega) (by omega)];simp only [go_sem,ya,yb,an,ak hv.pu,ao _ hv.pu,ak hw.pu,ao _ hw.pu]<;>rfl
    ·simp only [go_sem,ya,yb,yi,yh,se,hv.len,hw.af,show (i:Int)<a.length by omega,e1,e2,wrap64 (n:=x-y) (by omega) (by omega),fe,wrap64 (n:=z) (by omega) (by omega),fJ]
     rw [fV (ex:=false) (pu:=true) (cs:=out.map aa) (by simp only [go_sem,ya]) (by rw [yL,hlen,yh]) (by omega) (by omega) (by decide) (by simp only [go_sem])];simp only [go_sem,ya,yb];refine ⟨_,rfl,?_⟩;rw [wrap64 (by omega) (by omega),xq];simp only [go_sem,ya,yb,an,ak hv.pu,ao _ hv.pu,ak hw.pu,ao _ hw.pu]<;>rfl
  obtain ⟨s',f1,f2⟩:=fin;exact ⟨s',k-1,f1,by omega,i+1,c',_,by omega,JU,mZ,rk,lh,.inr ⟨by omega,f2⟩⟩
 ·right
  have ae3:dv out+dv b=dv a:=by
   rw [yp (by omega),yp (by omega)] at aR;have a7:=jL nT;rw [hlen] at a7;rcases (show c=0\/c=1 by omega) with rfl | rfl
   ·omega
   ·omega
  rcases hs with ⟨h0,rfl⟩ | ⟨h0,rfl⟩
  ·simp only [go_sem,ya,se,hv.len,show ¬(i:Int)<a.length by omega];exact ⟨_,_,rfl,by simp,_,out,rfl,nT,ae3,by omega,.inl ⟨yD (by omega),by simp only [go_sem,ya],rfl⟩⟩
  ·simp only [go_sem,ya,se,hv.len,show ¬(i:Int)<a.length by omega];exact ⟨_,_,rfl,by simp,_,out,rfl,nT,ae3,by omega,.inr ⟨by omega,by rw [hlen];simp only [go_sem,ya],rfl⟩⟩
def agc (h:Has P L 297 Kt) (mR:Has P L 302 sH) (cJ:Has P L 300 lS) {v w:AV} {a b:List Int} (hv:bl v a) (hw:bl w b) (ha:dg a) (hb:dg b) (na:nz a) (nb:nz b) (la:a.length<=20000000000) (hle:dv b<=dv a):
  ∃r out,ae P L 297 [v,w] r/\bl r out/\shut r=r/\dg out/\nz out/\dv out+dv b=dv a:=by
 have Ew:b.length<=a.length:=by
  by_cases h:a.length<b.length
  ·have:=Tn ha nb hb h;omega
  ·omega
 unfold ae;rw [ay h];simp only [go_sem,Kt];generalize hq:D P L (.loop [0,1,5,6,7] se) _=q;obtain ⟨ex,s,rfl,tm,out,rfl,hd,aR,hl,hs⟩:=bD hq (asE (P:=P) (L:=L) mR hv hw ha hb la hle Ew a.length) ⟨0,0,[],by omega,rfl,by omega,rfl,by simp [dv],.inl ⟨rfl,by simp only [go_sem,ya,an,ak hv.pu,ao _ hv.pu,ak hw.pu,ao _ hw.pu]<;>rfl⟩⟩
 have oG:=fy false out;rcases hs with ⟨h0,h5,rfl⟩ | ⟨h0,h5,rfl⟩
 ·subst h0;obtain ⟨r,e1,hr,gl⟩:=BO cJ (v:= .ab) (l:=[]) nf (by simp);refine ⟨r,eb [],?_,hr,gl,rfl,rfl,by rw [zC];exact aR⟩
  simp only [go_sem,an,h5,e1,gl,hr.dw]
 ·obtain ⟨r,e1,hr,gl⟩:=BO cJ oG hl;refine ⟨r,eb out,?_,hr,gl,A2 hd,E9 out,by rw [zC];exact aR⟩
  have fF:∀hp:Hp,lU 0 out.length (some (false,1,out.map aa,hp))=some (.aJ false out.length (out.map aa),hp):=fun hp=>qK false (by simp) (by decide)
  simp only [go_sem,yb,an,h5,fF,e1,gl,hr.dw]
end
end
section
open Go (IntKind)
def Cs {hp:Hp} {ct id o:Nat} {v:Int} {ex:Bool} {l:List Int} (h:o<l.length):fE hp ct id o 1 [.int .i64 v] (some (.cells true true ex 1 (l.map aa)))=some (.au [],bg hp id (.cells true true ex 1 ((l.set o v).map aa)),ct):=by
 rw [mD (by rfl) (by simp;omega) (by rfl)]
 have:over o [AV.int .i64 v] (l.map aa)=(l.set o v).map aa:=by
  simp only [over,yC,yK,yd];rw [ybk,uE,yH (by simpa using h)]
  simp
 rw [this];rfl
def sC {l:List Int} {o:Nat} (h:o<l.length):xg o (l.map aa)=AV.int .i64 (l.getD o 0)::xg (o+1) (l.map aa):=by
 rw [yN (by simpa using h)]
 grind
def qY {v:AV} {l:List Int} (hv:bl v l) {i:Nat} (h:i<l.length):hZ 1 i v=some (.aQ (.int .i64 (l.getD i 0)::(l.map aa).drop (i+1))):=by
 rw [hv.aZ h]
 grind
def anL {o x y c:Int} (ho:0<=o/\o<1000000000) (hx:0<=x/\x<1000000000) (hy:0<=y/\y<1000000000) (hc:0<=c/\c<1000000000):
  (0<=x*y/\x*y<=999999998000000001)/\0<=o+x*y+c/\o+x*y+c<1000000000000000000:=by
 have h1:=Int.mul_nonneg hx.1 hy.1;have h2:=Int.mul_le_mul (show x<=999999999 by omega) (show y<=999999999 by omega) hy.1 (by decide);omega
section
variable {P:aG} {L:Lib}
def asF {v w:AV} {a b:List Int} (hv:bl v a) (hw:bl w b) (ha:dg a) (hb:dg b) (la:a.length<=20000000000) (lb:b.length<=20000000000) {n i:Nat} (hn:n=a.length+b.length) (hi:i<a.length) {out0:List Int}:
  ∀k s,(∃(j:Nat) (c:Int) (out:List Int),aT [0,1,5,6,7,8] s=⟨[(0,v),(1,w),(5,.aC 0 0 n),(6,aa i),(7,aa c),(8,aa j)],[(0,.cells true true true 1 (out.map aa))],1,0⟩/\j+k=b.length/\out.length=n/\dg out/\(0<=c/\c<1000000000)/\
    dv out+1000000000^i*1000000000^j*c.toNat=dv out0+1000000000^i*((a.getD i 0).toNat*dv (b.take j))/\(∀m,i+b.length<=m->out.getD m 0=out0.getD m 0))->
   ∃ex s',D P L (.loop [0,1,5,6,7,8] Jt) s=some (ex,s')/\∃tm c out,s'=⟨tm,[(0,.cells true true true 1 (out.map aa))],1,0⟩/\ex= .exit 2/\ah tm 0=v/\ah tm 1=w/\ah tm 5= .aC 0 0 n/\ah tm 6=aa i/\ah tm 7=aa c/\out.length=n/\dg out/\(0<=c/\c<1000000000)/\
    dv out+1000000000^i*1000000000^b.length*c.toNat=dv out0+1000000000^i*((a.getD i 0).toNat*dv b)/\(∀m,i+b.length<=m->out.getD m 0=out0.getD m 0):=by
 intro dq sq;generalize bw:aT [0,1,5,6,7,8] sq=s0;revert bw s0 sq dq;apply dn;rintro k s ⟨j,c,out,rfl,hk,hlen,hd,hc,aR,gL⟩;by_cases hj:j<b.length
 ·left
  obtain ⟨x,hx⟩:∃x,x=a.getD i 0:=⟨_,rfl⟩;obtain ⟨y,hy⟩:∃y,y=b.getD j 0:=⟨_,rfl⟩;obtain ⟨o,ho⟩:∃o,o=out.getD (i+j) 0:=⟨_,rfl⟩;have gx:=iD ha i;have gy:=iD hb j;have nR:=iD hd (i+j);rw [<-hx] at gx;rw [<-hy] at gy;rw [<-ho] at nR;obtain ⟨p1,p2,p3⟩:=anL nR gx gy hc;obtain ⟨t,ht⟩:∃t:Nat,o+x*y+c=t:=⟨(o+x*y+c).toNat,by omega⟩;have hr:((t:Nat):Int).tmod 1000000000=((t%1000000000:Nat):Int):=by rw [xE (by omega)];rfl
  have hq:((t:Nat):Int).tdiv 1000000000=((t/1000000000:Nat):Int):=by rw [xZ (by omega)];rfl
  have e1:=qY hv hi;have e2:=qY hw hj;rw [<-hx] at e1;rw [<-hy] at e2;have e3:=sC (l:=out) (o:=i+j) (by omega);rw [<-ho] at e3;have AE:t=o.toNat+x.toNat*y.toNat+c.toNat:=by
   have:((x.toNat*y.toNat:Nat):Int)=x*y:=by rw [Int.natCast_mul,uX gx.1,uX gy.1]
   omega
  have bg:=To (l:=out) (j:=i+j) (x:=((t%1000000000:Nat):Int)) (by omega);rw [<-ho,xp,wB] at bg;have lh:=amy (Y:=dv (b.take j)) AE bg (by rw [hx];exact aR)
  simp only [go_sem,ya,yh,Jt,hw.len,show (j:Int)<b.length by omega,wrapN (n:=i+j) (by omega),show (i:Int)+(j:Int)=((i+j:Nat):Int) from rfl,cW 0 0 (show i+j<n by omega),yd,e3,e1,e2,wrap64 (n:=x*y) (by omega) (by omega),wrap64 (n:=o+x*y) (by omega) (by omega),ht,wrapN (n:=t) (by omega),fM _ _ _ (show (1000000000:Int)≠0 by decide),fw _ _ _ (show (1000000000:Int)≠0 by decide),hr,hq,wrapN (n:=t/1000000000) (by omega),Cs (l:=out) (o:=i+j) (by omega)];refine ⟨_,k-1,rfl,by omega,j+1,((t/1000000000:Nat):Int),out.set (i+j) ((t%1000000000:Nat):Int),?_,by omega,by simp [hlen],NU hd (by omega),by omega,?_,fun m hm=>?_⟩
  ·rw [wrap64 (by omega) (by omega)];simp only [go_sem,ya,yb,an,ak hv.pu,ao _ hv.pu,ak hw.pu,ao _ hw.pu]<;>rfl
  ·rw [xp,pn,xk,<-hx,<-hy];exact lh
  ·rw [aaz (by omega)];exact gL m hm
 ·right
  have:j=b.length:=by omega
  subst this;rw [xQ] at aR;simp only [go_sem,ya,Jt,hw.len,show ¬(b.length:Int)<b.length by omega];exact ⟨_,_,rfl,by simp,_,c,out,rfl,rfl,by simp only [go_sem,ya],by simp only [go_sem,ya],by simp only [go_sem,ya],by simp only [go_sem,ya],by simp only [go_sem,ya],hlen,hd,hc,aR,gL⟩
end
end
end VE
