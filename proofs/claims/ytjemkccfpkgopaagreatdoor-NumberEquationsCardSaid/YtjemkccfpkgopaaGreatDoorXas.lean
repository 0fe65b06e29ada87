import Derived.Test.YtjemkccfpkgopaaGreatDoorXaq
import Derived.Test.YtjemkccfpkgopaaGreatDoorXah
import Derived.Test.YtjemkccfpkgopaaGreatDoorXao
import Derived.Test.YtjemkccfpkgopaaGreatDoorXap
set_option linter.all false
set_option maxRecDepth 100000
open Bool renaming and_eq_true→ye,and_self→xM,false_and→xX,false_eq_true→yN,false_or→uS,not_false→yP,not_true→yM,true_and→xQ,true_or→ybv
open Go renaming DataW→xz,Field→uL,FloatKind→vW,IntKind→y9,MemPlace→wF,Program→y5,TypeId→yC,Value→yg,World→yi
open Int renaming le_of_lt→tc,mul_add→ybK,mul_le_mul→ybc,mul_le_mul_of_nonneg_left→vV,mul_nonneg→tG,natAbs_natCast→wK,natCast_add→yaS,natCast_mul→vj,natCast_nonneg→tB,neg_neg→ybJ,ofNat_eq_natCast→yal,ofNat_lt→uE,pow_pos→ybL,pow_succ→ta,tdiv_eq_ediv_of_nonneg→wq,tmod_eq_emod_of_nonneg→wo,toNat_natCast→xY,toNat_of_nonneg→yaq
open Int.ofNat renaming inj→yar
open List renaming append_assoc→xq,append_nil→wD,drop→ui,drop_drop→vT,drop_eq_getElem_cons→yU,drop_eq_nil_of_le→xe,drop_zero→yK,eq_nil_of_length_eq_zero→yx,flatMap_def→yaI,getD_eq_getElem?_getD→y7,getElem?_eq_getElem→xU,length_append→yL,length_cons→yz,length_drop→xP,length_map→yt,length_nil→yO,length_take→yI,mapM_cons→ue,map_append→xu,map_cons→xc,map_nil→vD,map_set→ybt,mem_cons→wE,mem_map→xZ,replicate→ym,set_eq_of_length_le→tM,set_eq_take_append_cons_drop→vO,take_append_drop→xO,take_length→xx,take_of_length_le→yG,take_set→tO
open List.cons renaming injEq→uW
open Nat renaming add_mul→wL,add_zero→y8,beq→yu,ble→yE,blt→yR,div_add_mod→xR,div_lt_iff_lt_mul→we,eq_of_beq_eq_true→yj,eq_zero_or_pos→xk,gcd→wI,le_of_ble_eq_true→yv,le_of_lt_succ→tJ,le_refl→yr,le_trans→xi,lt_of_lt_of_le→yT,min_eq_left→xn,mod_lt→xy,mul_add→xA,mul_assoc→xj,mul_comm→xE,mul_le_mul→wZ,mul_le_mul_left→yZ,mul_one→yh,mul_zero→xB,pow_add→wR,pow_le_pow_left→vU,pow_le_pow_right→xh,pow_mul→tu,pow_succ→xd,reduceAdd→yb,reduceEqDiff→ya,reduceLT→yD,reduceLeDiff→yp,reduceMul→xg,zero_add→yf
open Option renaming bind_eq_bind→vG,bind_some→xN,map_eq_some_iff→wG,pure_def→wU
open Option.some renaming injEq→yd
open Prod.mk renaming injEq→yk
namespace VE
section
open Go (IntKind)
def aoX:∀(cs:List AV) (l:List Nat),rJ cs=some l->cs=l.map uc/\lo 18446744073709551616 l:=by
 intro cs
 induction cs with
 | nil=>
  intro l h;simp only [rJ,yd] at h;subst h;exact ⟨rfl,fun _ h=>by cases h⟩
 | cons c cs ih=>
  intro l h;unfold rJ at h
  split at h
  ·grind
  ·rename_i d r mP;cases mP
   cases hb:yR d 18446744073709551616 with
   | false=>rw [hb] at h;cases h
   | true=>
    rw [hb] at h
    cases hw:rJ cs with
    | none=>rw [hw] at h;cases h
    | some l'=>
     rw [hw] at h;cases h;obtain ⟨k1,k2⟩:=ih l' hw;refine ⟨by rw [k1];rfl,fun x hx=>?_⟩
     rcases wE.1 hx with rfl | hx
     ·simp_all
     ·exact k2 x hx
  ·cases h
def ace:∀{l:List Nat},Ba l=true->gm l
 | [],h=>by cases h
 | [a],h=>by
  have h0:a≠0:=fun e=>by subst e;cases h
  exact D2 h0 []
 | a::b::r,h=>by
  have h1:dW (b::r)=b::r:=ace (l:=b::r) h;show dW (a::(b::r))=_
  simp only [dW] at h1 ⊢;rw [h1]
section
variable {P:aI} {L:Lib}
def auC (h:Has P L 99 DD) (Yn:L.pure 135=some I4) {s:Int} (hs:A6 s=true):bO P L (D P L) 99 [.agg [ab s,.aa]]=some (.str (aV s)):=by
 have e1:bO P L (D P L) 135 [ab s]=some (.str (aV s)):=by
  rw [jo Yn];show (bif A6 s then some (AV.str (aV s)) else none)=_
  rw [hs];rfl
 rw [aH h];simp only [go_sem,ya,yb,DD,bh,b8,yf,db,gI,ek,e1]
end
section
open Go
variable {O:bk}
def aqs (hO:eD O) (hN:Nu O.prog O.aE) (Yn:O.aE.pure 135=some I4) (Di:O.aE.pure 138=some At) (zU:O.aE.pure 139=some AM) (Gp:Has O.prog O.aE 99 DD) {fn:Func} {c:Code} (kW:O.P.funcs[O.af 99]? =some fn) (jj:fn.body=some c) (Pn:fn.ntmps=69)
  (Yk:O3 5 c) (ht:R2 O.P c):∀av r,MG av=some r->ep O 99 av r:=by
 intro av r h;unfold MG at h
 split at h
 ·rename_i s
  cases hs:A6 s with
  | false=>rw [hs] at h;cases h
  | true=>
   rw [hs] at h;cases h;obtain ⟨k,hk⟩:=ahV (auC (P:=O.prog) (L:=O.aE) Gp Yn hs);exact sound hO hk
 ·rename_i s e n cs
  cases hw:rJ cs with
  | none=>rw [hw] at h;cases h
  | some l=>
   rw [hw] at h;simp only at h
   cases hb:(yu l.length n&&(yE n 4000000000&&(Ba l&&yE 9223372036854775808 (r8 l)))) with
   | false=>rw [hb] at h;cases h
   | true=>
    rw [hb] at h;simp only [ye] at hb;obtain ⟨h1,h2,h3,h4⟩:=hb;obtain ⟨rfl,bi⟩:=aoX cs l hw;have h1:=yj h1;subst h1;have h2:=yv h2;have h4:=yv h4;have h3:=ace h3;rw [R0] at h4 h;have aX:=mw bi;have key:=fun (s z:Int) (hz:z.natAbs=bv 18446744073709551616 l) (hs:s=if z<0 then -1 else 1)=>
     asu hO hN Di zU Gp.code kW jj Pn Yk ht (s:=s) (z:=z) (e:=e) (l:=l) (.inr ⟨e,l,rfl,bi,h3,hz.symm,hs,by omega⟩) (by omega) h2 (by omega)
    split at h
    ·cases h
     have:=key 1 (bv 18446744073709551616 l:Nat) (by simp) (by rw [yB (by omega)])
     exact this
    ·cases h
     have:=key (-1) (-(bv 18446744073709551616 l:Nat):Int) (by simp) (by rw [yQ (by omega)])
     rw [kD (by omega)] at this
     grind
    ·cases h
 ·cases h
end
end
section
open Go
def SA (L:Lib) (n:Nat) (sp:List AV->Option AV):Lib:=⟨fun i=>bif yu i n then some sp else L.pure i,L.heap⟩
def aqt {O:bk} (hO:eD O) {n:Nat} {sp:List AV->Option AV} (h:∀av r,sp av=some r->ep O n av r):eD (O.zd (SA O.aE n sp)) where
 hint:=hO.hint
 mixed:=hO.mixed
 prog:=hO.prog
 aE i Py av r hi hs:=by
  show ep O i av r
  simp only [SA] at hi
  cases hb:yu i n with
  | true=>
   simp_all
  | false=>
   rw [hb] at hi;exact hO.aE i Py av r hi hs
 E3 i Py hp ct av v ap a7 hi hs:=abU (hO.E3 i Py hp ct av v ap a7 hi hs)
end
section
open Go
section
variable {H:Type} {enc:yC×yg->H} {P:y5} {w:yi} {base:Nat} {sp:Nat->Bool} {held:Bool}
def mapM_mem {α β:Type} {f:α->Option β}:∀{l:List α} {r:List β},l.mapM f=some r->∀y,y∈r->∃x,f x=some y
 | [],r,h,y,hy=>by simp only [List.mapM_nil,wU,yd] at h;subst h;cases hy
 | x::l,r,h,y,hy=>by
  rw [ue] at h
  cases h1:f x with
  | none=>simp [h1] at h
  | some z=>
   cases h2:l.mapM f with
   | none=>simp [h1,h2] at h
   | some zs=>
    simp only [h1,h2,xN,vG,wU,yd] at h;subst h;rcases wE.1 hy with rfl | hy
    ·exact ⟨x,h1⟩
    ·exact mapM_mem h2 y hy
def Rd (enc:yC×yg->H) (P:y5) (w:yi) (base:Nat) (sp:Nat->Bool) (held:Bool) (t:yC) (d:xz H):Prop:=∃bm cs ps,DataW.trod enc P w base sp held bm t cs=some (d,ps)
def ayq {t:yC} {k:y9} {d:xz H} {n:Nat} (ht:P.underlying t=some (.int k)) (h:Rd enc P w base sp held t d):∃z,cQ P (n+1) t d=[.int k z]/\(Lit.int k z).wf=true:=by
 obtain ⟨bm,cs,ps,h⟩:=h
 cases bm with
 | zero=>simp [DataW.trod] at h
 | succ bm=>
  unfold DataW.trod at h
  split at h
  all_goals first
   | (rename_i hu;rw [ht] at hu;cases hu;done)
   | skip
  ·rename_i k1 k2 z hu;rw [ht] at hu;injection hu with hu
   injection hu with hu
   subst hu
   split at h
   ·rename_i hk;simp only [yd,yk] at h;obtain ⟨rfl,rfl⟩:=h;exact ⟨z,by simp only [cQ,ht],hk.2⟩
   ·cases h
  all_goals (cases h;done)
def asy {t e:yC} {d:xz H} {n:Nat} (ht:P.underlying t=some (.slice e)) (h:Rd enc P w base sp held t d):
  cQ P (n+1) t d=[.aa]\/∃(x:Bool) (jF:List (xz H)),cQ P (n+1) t d=[.aA x jF.length (jF.flatMap fun y=>cQ P n e y)]/\∀y,y∈jF->Rd enc P w base sp held e y:=by
 obtain ⟨bm,cs,ps,h⟩:=h
 cases bm with
 | zero=>simp [DataW.trod] at h
 | succ bm=>
  unfold DataW.trod at h
  split at h
  all_goals first
   | (rename_i hu;rw [ht] at hu;cases hu;done)
   | skip
  ·simp only [yd,yk] at h;obtain ⟨rfl,rfl⟩:=h;exact .inl (by simp only [cQ,ht])
  ·rename_i e' a len cap hu;rw [ht] at hu;injection hu with hu
   injection hu with hu
   subst hu;simp only at h
   split at h
   case isFalse=>cases h
   cases h1:(List.range len).mapM fun i=>(w.cells? base (a.add (i*P.cellsOf e)) (P.cellsOf e)).bind (DataW.trod enc P w base sp held bm e) with
   | none=>rw [h1] at h;simp at h
   | some jF=>
    rw [h1] at h;simp only [xN] at h;obtain ⟨rest,_,h⟩:=wG.1 h;simp only [yk] at h;obtain ⟨rfl,rfl⟩:=h;refine .inr ⟨(rest.map (·.1)).isEmpty,jF.map (·.1),by simp only [cQ,ht,yt],?_⟩;intro y hy;obtain ⟨p,hp,rfl⟩:=xZ.1 hy;obtain ⟨i,hi⟩:=mapM_mem h1 p hp;obtain ⟨dF,_,jM⟩:=Option.bind_eq_some_iff.1 hi;exact ⟨bm,dF,p.2,jM⟩
  all_goals (cases h;done)
def aqu {t:yC} {fs:Array uL} {d:xz H} {n:Nat} (ht:P.underlying t=some (.struct fs)) (h:Rd enc P w base sp held t d):
  ∃ds:List (xz H),ds.length=fs.toList.length/\cQ P (n+1) t d=(fs.toList.zip ds).flatMap (fun x=>cQ P n x.1.type x.2)/\∀i (h1:i<fs.toList.length) (h2:i<ds.length),Rd enc P w base sp held fs.toList[i].type ds[i]:=by
 obtain ⟨bm,cs,ps,h⟩:=h
 cases bm with
 | zero=>simp [DataW.trod] at h
 | succ bm=>
  unfold DataW.trod at h
  split at h
  all_goals first
   | (rename_i hu;rw [ht] at hu;cases hu;done)
   | (cases h;done)
   | skip
  rename_i cs x1 KQ fs' hu;rw [ht] at hu;injection hu with hu
  injection hu with hu
  subst hu
  split at h
  case isFalse=>cases h
  obtain ⟨xs,h1,h⟩:=wG.1 h;simp only [yk] at h;obtain ⟨rfl,rfl⟩:=h;refine ⟨xs.map (·.1),by simp [LU h1],by simp only [cQ,ht],?_⟩;have key:∀{r:List uL} {xs:List (xz H×List wF)},r.mapM (fun f=>DataW.trod enc P w base sp held bm f.type ((cs.drop f.offset).take (P.cellsOf f.type)))=some xs->
    ∀i (h1:i<r.length) (h2:i<(xs.map (·.1)).length),Rd enc P w base sp held r[i].type (xs.map (·.1))[i]:=by
   intro r
   induction r with
   | nil=>intro xs h i h1;exact absurd h1 (Nat.not_lt_zero i)
   | cons f r ih=>
    intro xs h i h1 h2;rw [ue] at h
    cases g1:DataW.trod enc P w base sp held bm f.type ((cs.drop f.offset).take (P.cellsOf f.type)) with
    | none=>simp [g1] at h
    | some x=>
     cases g2:r.mapM (fun f=>DataW.trod enc P w base sp held bm f.type ((cs.drop f.offset).take (P.cellsOf f.type))) with
     | none=>simp [g1,g2] at h
     | some ys=>
      simp only [g1,g2,xN,vG,wU,yd] at h;subst h
      cases i with
      | zero=>exact ⟨bm,_,x.2,g1⟩
      | succ i=>exact ih g2 i (by simpa using h1) (by simpa using h2)
  exact key h1
def asz {t e:yC} {k:Nat} {d:xz H} {n:Nat} (ht:P.underlying t=some (.array k e)) (h:Rd enc P w base sp held t d):
  ∃ds:List (xz H),ds.length=k/\cQ P (n+1) t d=ds.flatMap (fun x=>cQ P n e x)/\∀y,y∈ds->Rd enc P w base sp held e y:=by
 obtain ⟨bm,cs,ps,h⟩:=h
 cases bm with
 | zero=>simp [DataW.trod] at h
 | succ bm=>
  unfold DataW.trod at h
  split at h
  all_goals first
   | (rename_i hu;rw [ht] at hu;cases hu;done)
   | (cases h;done)
   | skip
  rename_i cs x1 KQ k' e' hu;rw [ht] at hu;injection hu with hu
  injection hu with qU Af
  subst qU;subst Af
  split at h
  case isFalse=>cases h
  obtain ⟨xs,h1,h⟩:=wG.1 h;simp only [yk] at h;obtain ⟨rfl,rfl⟩:=h;refine ⟨xs.map (·.1),by simp [LU h1],by simp only [cQ,ht],fun y hy=>?_⟩;obtain ⟨p,hp,rfl⟩:=xZ.1 hy;obtain ⟨i,hi⟩:=mapM_mem h1 p hp;exact ⟨bm,_,p.2,hi⟩
end
end
section
open Go
inductive Ty
 | int (k:y9)
 | bS (k:vW)
 | bool
 | str
 | sl (e:Ty)
 | nil
 | cat (a b:Ty)
 | ar (n:Nat) (e:Ty)
def mS:Ty->List AV->Prop
 | .int k,l=>∃z,l=[.int k z]/\(Lit.int k z).wf=true
 | .bS k,l=>∃b,l=[.bS k b]
 | .bool,l=>∃b,l=[.bool b]
 | .str,l=>∃s:List Nat,l=[.str s]/\s.length<9223372036854775808/\∀c,c∈s->c<256
 | .sl e,l=>l=[.aa]\/∃(x:Bool) (ps:List (List AV)),l=[.aA x ps.length ps.flatten]/\∀p,p∈ps->mS e p
 | .nil,l=>l=[]
 | .cat a b,l=>∃x y,l=x++y/\mS a x/\mS b y
 | .ar n e,l=>∃ps:List (List AV),ps.length=n/\l=ps.flatten/\∀p,p∈ps->mS e p
def ni:List (Option Ty)->Option Ty
 | []=>some .nil
 | some a::r=>match ni r with
  | some b=>some (.cat a b)
  | none=>none
 | none::_=>none
def fR (P:y5):Nat->yC->Option Ty
 | 0,_=>none
 | n+1,t=>
  match P.underlying t with
  | some .bool=>some .bool
  | some (.int k)=>some (.int k)
  | some (.float k)=>some (.bS k)
  | some .string=>some .str
  | some (.slice e)=>(fR P n e).map .sl
  | some (.struct fs)=>ni (fs.toList.map fun f=>fR P n f.type)
  | some (.array k e)=>(fR P n e).map (.ar k)
  | _=>none
section
variable {H:Type} {enc:yC×yg->H} {P:y5} {w:yi} {base:Nat} {sp:Nat->Bool} {held:Bool}
def ayr {t:yC} {k:vW} {d:xz H} {n:Nat} (ht:P.underlying t=some (.float k)) (h:Rd enc P w base sp held t d):∃b,cQ P (n+1) t d=[.bS k b]:=by
 obtain ⟨bm,cs,ps,h⟩:=h
 cases bm with
 | zero=>simp [DataW.trod] at h
 | succ bm=>
  unfold DataW.trod at h
  split at h
  all_goals first
   | (rename_i hu;rw [ht] at hu;cases hu;done)
   | skip
  ·rename_i k1 k2 z hu;rw [ht] at hu;injection hu with hu
   injection hu with hu
   subst hu
   split at h
   ·simp only [yd,yk] at h;obtain ⟨rfl,rfl⟩:=h;exact ⟨z,by simp only [cQ,ht]⟩
   ·cases h
  all_goals (cases h;done)
def auD {t:yC} {d:xz H} {n:Nat} (ht:P.underlying t=some .bool) (h:Rd enc P w base sp held t d):∃b,cQ P (n+1) t d=[.bool b]:=by
 obtain ⟨bm,cs,ps,h⟩:=h
 cases bm with
 | zero=>simp [DataW.trod] at h
 | succ bm=>
  unfold DataW.trod at h
  split at h
  all_goals first
   | (rename_i hu;rw [ht] at hu;cases hu;done)
   | skip
  ·simp only [yd,yk] at h;obtain ⟨rfl,rfl⟩:=h;rename_i b _;exact ⟨b,by simp only [cQ,ht]⟩
  all_goals (cases h;done)
def ays {t:yC} {d:xz H} {n:Nat} (ht:P.underlying t=some .string) (h:Rd enc P w base sp held t d):
  ∃s:List Nat,cQ P (n+1) t d=[.str s]/\s.length<9223372036854775808/\∀c,c∈s->c<256:=by
 obtain ⟨bm,cs,ps,h⟩:=h
 cases bm with
 | zero=>simp [DataW.trod] at h
 | succ bm=>
  unfold DataW.trod at h
  split at h
  all_goals first
   | (rename_i hu;rw [ht] at hu;cases hu;done)
   | skip
  ·rename_i s hu
   split at h
   ·rename_i hs;simp only [yd,yk] at h;obtain ⟨rfl,rfl⟩:=h;refine ⟨_,by simp only [cQ,ht];rfl,?_,fun c hc=>?_⟩
    ·simp only [yt,Array.length_toList];have h1:s.size<=9223372036854775807:=hs;have h2:s.data.size=s.size:=rfl;omega
    ·obtain ⟨b,_,rfl⟩:=xZ.1 hc;exact b.toNat_lt
   ·cases h
  all_goals (cases h;done)
def abm {n:Nat} (ih:∀{t:yC} {T:Ty} {d:xz H},fR P n t=some T->Rd enc P w base sp held t d->mS T (cQ P n t d)):
  ∀(fs:List uL) (ds:List (xz H)) (T:Ty),ni (fs.map fun f=>fR P n f.type)=some T->ds.length=fs.length->(∀i (h1:i<fs.length) (h2:i<ds.length),Rd enc P w base sp held fs[i].type ds[i])->
   mS T ((fs.zip ds).flatMap fun x=>cQ P n x.1.type x.2)
 | [],ds,T,hT,_,_=>by
  simp only [vD,ni,yd] at hT;subst hT;simp [mS]
 | f::fs,[],T,_,hl,_=>by simp at hl
 | f::fs,d::ds,T,hT,hl,hr=>by
  simp only [xc] at hT
  cases h1:fR P n f.type with
  | none=>simp [h1,ni] at hT
  | some a=>
   cases h2:ni (fs.map fun f=>fR P n f.type) with
   | none=>simp [h1,h2,ni] at hT
   | some b=>
    simp only [h1,h2,ni,yd] at hT;subst hT;simp only [List.zip_cons_cons,List.flatMap_cons];exact ⟨_,_,rfl,ih h1 (hr 0 (by simp) (by simp)),abm ih fs ds b h2 (by simpa using hl) (fun i h1 h2=>hr (i+1) (by simpa using h1) (by simpa using h2))⟩
def aib:∀(n:Nat) {t:yC} {T:Ty} {d:xz H},fR P n t=some T->Rd enc P w base sp held t d->mS T (cQ P n t d)
 | 0,t,T,d,hT,_=>by simp [fR] at hT
 | n+1,t,T,d,hT,hr=>by
  have ih:=@aib n
  cases hu:P.underlying t with
  | none=>simp [fR,hu] at hT
  | some u=>
   cases u with
   | slice e=>
    simp only [fR,hu] at hT;obtain ⟨E,hE,rfl⟩:=wG.1 hT
    rcases asy (n:=n) hu hr with h | ⟨x,jF,h,hm⟩
    ·exact .inl h
    ·refine .inr ⟨x,jF.map (cQ P n e),by rw [h,yt,yaI],fun p hp=>?_⟩;obtain ⟨y,hy,rfl⟩:=xZ.1 hp;exact ih hE (hm y hy)
   | struct fs=>
    simp only [fR,hu] at hT;obtain ⟨ds,e1,e2,e3⟩:=aqu (n:=n) hu hr;rw [e2];exact abm ih fs.toList ds T hT e1 e3
   | array k e=>
    simp only [fR,hu] at hT;obtain ⟨E,hE,rfl⟩:=wG.1 hT;obtain ⟨ds,e1,e2,e3⟩:=asz (n:=n) hu hr;refine ⟨ds.map (cQ P n e),by simp [e1],by rw [e2,yaI],fun p hp=>?_⟩;obtain ⟨y,hy,rfl⟩:=xZ.1 hp;exact ih hE (e3 y hy)
   | int k=>
    simp only [fR,hu,yd] at hT;subst hT;exact ayq hu hr
   | float k=>
    simp only [fR,hu,yd] at hT;subst hT;exact ayr hu hr
   | bool=>
    simp only [fR,hu,yd] at hT;subst hT;exact auD hu hr
   | string=>
    simp only [fR,hu,yd] at hT;subst hT;exact ays hu hr
   | _=>simp [fR,hu] at hT
def FJ:Ty->List AV->AV
 | .nil,l | .cat _ _,l | .ar _ _,l=> .agg l
 | _,l=>l.headD .undef
def aqv:∀{l:List (Option Ty)} {T:Ty},ni l=some T->∀x,FJ T x= .agg x
 | [],T,h=>by simp only [ni,yd] at h;subst h;exact fun _=>rfl
 | none::r,T,h=>by simp [ni] at h
 | some a::r,T,h=>by
  cases h1:ni r with
  | none=>simp [ni,h1] at h
  | some b=>
   simp only [ni,h1,yd] at h;subst h;exact fun _=>rfl
def aAd {n:Nat} {t:yC} {T:Ty} {d:xz H} (hT:fR P n t=some T):lI P n t d=FJ T (cQ P n t d):=by
 cases n with
 | zero=>simp [fR] at hT
 | succ n=>
  cases hu:P.underlying t with
  | none=>simp [fR,hu] at hT
  | some u=>
   cases u with
   | slice e=>
    simp only [fR,hu] at hT;obtain ⟨E,hE,rfl⟩:=wG.1 hT;simp only [lI,hu,FJ]
   | struct fs=>
    simp only [fR,hu] at hT;rw [aqv hT];simp only [lI,hu]
   | array k e=>
    simp only [fR,hu] at hT;obtain ⟨E,hE,rfl⟩:=wG.1 hT;simp only [lI,hu,FJ]
   | _=>
    simp only [fR,hu,yd,reduceCtorEq] at hT<;>
    (subst hT
     simp only [lI,hu,FJ])
def Jc:List Ty->List (List AV)->List AV
 | T::Ts,l::ls=>FJ T l::Jc Ts ls
 | _,_=>[]
def adk {n:Nat}:∀{ts:List yC} {Ts:List Ty} {vs:List yg} {ds:List (xz H)} {ps:List wF},(ts.map (fR P n))=Ts.map some->DataW.TrodAll enc P w base sp held ts vs ds ps->
  ∃ls,cf mS Ts ls/\zo P n ts ds=Jc Ts ls/\ds.length=ts.length
 | [],[],[],[],ps,_,_=>⟨[],trivial,rfl,rfl⟩
 | t::ts,T::Ts,v::vs,d::ds,ps,hT,⟨p,q,⟨bm,h1⟩,h2,_⟩=>by
  simp only [xc,uW] at hT;obtain ⟨ls,k1,k2,k3⟩:=adk hT.2 h2;exact ⟨cQ P n t d::ls,⟨aib n hT.1 ⟨bm,_,_,h1⟩,k1⟩,by simp only [zo,Jc,k2,aAd hT.1],by simp [k3]⟩
 | [],_::_,_,_,_,h,_=>by simp at h
 | _::_,[],_,_,_,h,_=>by simp at h
 | [],[],_::_,_,_,_,h=>by simp [DataW.TrodAll] at h
 | [],[],[],_::_,_,_,h=>by simp [DataW.TrodAll] at h
 | _::_,_,[],_,_,_,h=>by simp [DataW.TrodAll] at h
 | _::_,_,_::_,[],_,_,h=>by simp [DataW.TrodAll] at h
def ayt {α β:Type} {p:α->β->Prop} {a:α}:∀{l:List β},cf p [a] l->∃x,l=[x]/\p a x
 | [x],h=>⟨x,rfl,h.1⟩
 | [],h=>h.elim
 | _::_::_,h=>h.2.elim
def ayu {α β:Type} {p:α->β->Prop} {a b:α}:∀{l:List β},cf p [a,b] l->∃x y,l=[x,y]/\p a x/\p b y
 | x::l,h=>let ⟨y,h1,h2⟩:=ayt h.2;⟨x,y,by rw [h1],h.1,h2⟩
 | [],h=>h.elim
def ayv {α β:Type} {p:α->β->Prop} {a b c:α}:∀{l:List β},cf p [a,b,c] l->∃x y z,l=[x,y,z]/\p a x/\p b y/\p c z
 | x::l,h=>let ⟨y,z,h1,h2,h3⟩:=ayu h.2;⟨x,y,z,by rw [h1],h.1,h2,h3⟩
 | [],h=>h.elim
end
end
section
open Go (IntKind)
def Ik (n:Nat):10^n<=2^(4*n):=by
 rw [tu];exact vU (by decide) n
def QW {b:Nat} {r:List Nat} (h:dd (b::r)=true):48<=b/\b<=57:=by
 simp only [dd,ye] at h
 simp_all
section
variable {P:aI} {L:Lib}
def aic (h:Tx P L) {ds:List Nat} {N:Nat} (hD:cN ds 0=some N) (hl:ds.length<=4000000000) {neg:Bool} {o1 o2:AV}:
  ∀m st,(∃(pre rest:List Nat) (a:Nat) (s:Int) (w:AV),aS [0,2,3,4] st=⟨[(0,.str rest),(2,.ptr 0 0),(3,.bool neg),(4,.ptr 1 0)],[(1,.cells true true true 2 [ab s,w]),(0,.cells true true true 2 [o1,o2])],2,0⟩/\ds=pre++rest/\cN pre 0=some a/\du s w a/\rest.length=m)->
   ∃ex st',D P L (.loop [0,2,3,4] Er) st=some (ex,st')/\∃tm s w,st'=⟨tm,[(1,.cells true true true 2 [ab s,w]),(0,.cells true true true 2 [o1,o2])],2,0⟩/\ex= .exit 0/\ai tm 2= .ptr 0 0/\ai tm 3= .bool neg/\ai tm 4= .ptr 1 0/\du s w N:=by
 intro dq sq;generalize bB:aS [0,2,3,4] sq=s0;revert bB s0 sq dq;apply dI;rintro m st ⟨pre,rest,a,s,w,rfl,DN,eR,hn,rfl⟩;obtain ⟨l1,u1⟩:=hn.aY;have my:=hD;rw [DN,HY,eR] at my;have my:cN rest a=some N:=my;have hlen:pre.length+rest.length<=4000000000:=by rw [DN,yL] at hl;exact hl
 by_cases h0:rest.length=0
 ·right
  have hr:rest=[]:=yx h0;subst hr
  have:a=N:=by simpa [cN] using my
  subst this;simp only [go_sem,Er,yO,show ¬(0:Int)<((0:Nat):Int) by omega];exact ⟨_,_,rfl,by simp,_,s,w,rfl,rfl,by simp only [go_sem,ya],by simp only [go_sem,ya],by simp only [go_sem,ya],hn⟩
 ·left
  obtain ⟨n,sA⟩:∃n,n=min 18 rest.length:=⟨_,rfl⟩;have ajl:(if (rest.length:Int)<18 then (rest.length:Int) else 18)=(n:Int):=by split<;>omega
  have gU:rest.take n++rest.drop n=rest:=xO n rest;obtain ⟨a',Du⟩:∃a',cN (rest.take n) a=some a':=by
   rw [<-gU,HY] at my
   cases hq:cN (rest.take n) a with
   | none=>rw [hq] at my;cases my
   | some a'=>exact ⟨a',rfl⟩
  obtain ⟨v,hv⟩:∃v,cN (rest.take n) 0=some v:=by
   have:∀(l:List Nat) (x y b:Nat),cN l x=some y->∃z,cN l b=some z:=by
    intro l
    induction l with
    | nil=>intro x y b _;exact ⟨b,rfl⟩
    | cons c l ih=>
     intro x y b hh;simp only [cN] at hh ⊢
     cases hb:(yE 48 c&&yE c 57) with
     | false=>rw [hb] at hh;cases hh
     | true=>rw [hb] at hh;exact ih _ _ _ hh
   exact this _ _ _ 0 Du
  have akX:=ass (a:=a) hv;have ZR:(rest.take n).length=n:=by rw [yI];omega
  rw [ZR,Du,yd] at akX;have Yo:=R1 hv;rw [ZR] at Yo;have aHX:v<1000000000000000000:=yT Yo (xh (n:=10) (by decide) (show n<=18 by omega));have e1:=auz (P:=P) h.Yg (f:=D P L) (s:=rest.take n) (by omega) (by omega) hv;obtain ⟨t1,t2⟩:=Dg h.toNu (z:=10) (by decide) (by decide);obtain ⟨t3,t4⟩:=Dg h.toNu (z:=(v:Int)) (by omega) (by omega);obtain ⟨p,e2,hp⟩:=aBQ h.toNu h.Yi t2 (K:=4) (k:=n) (by unfold Bd;decide) (by omega) (by omega)
  have halt:=R1 eR;have ba:Bd (4*pre.length) (a:Int):=yT halt (Ik _);have bp:Bd (4*n+1) ((10:Int)^n):=Bd.pow (k:=4) (by unfold Bd;decide) n
  obtain ⟨q,e3,hq⟩:=Bt h.toNu (v:= .agg [ab s,w]) ⟨s,w,rfl,hn⟩ hp (K:=4*pre.length+4*n+1) (ba.mono (by omega)) (bp.mono (by omega)) (by omega);have bv':Bd (4*n) (v:Int):=yT Yo (Ik _);obtain ⟨r,e4,hr⟩:=J8 h.toNu hq t4 (K:=4*pre.length+4*n+1) ((ba.mul bp).mono (by omega)) (bv'.mono (by omega)) (by omega);have aP:(a:Int)*10^n+(v:Int)=(a':Int):=by
   rw [akX]
   simp
  rw [aP] at hr;obtain ⟨s2,w2,rfl,h2⟩:=hp;obtain ⟨s3,w3,rfl,h3⟩:=hq;obtain ⟨s4,w4,rfl,h4⟩:=hr;obtain ⟨l2,u2⟩:=h2.aY;obtain ⟨l3,u3⟩:=h3.aY;obtain ⟨l4,u4⟩:=h4.aY;have un:=sX;have c1:iA rest (some 0) (some n)=some (.str (rest.take n)):=by rw [mg (by omega) (by omega),yK]
  have c2:iA rest (some n) (some rest.length)=some (.str (rest.drop n)):=by rw [mg (by omega) (by omega),xx]
  simp only [go_sem,ya,Er,show (0:Int)<(rest.length:Nat) by omega,ah2,ac4,ajl,eI,eU,dO,c1,c2,e1,cp,t1,t3,cG,u1.ak,u2.ak,u3.ak,un.ak,e2,e3,e4,b6,cp,yK,dX u4];refine ⟨_,(rest.drop n).length,rfl,by rw [xP];omega,pre++rest.take n,rest.drop n,a',s4,w4,by simp only [go_sem,ya,yb,ax],by rw [xq,gU];exact DN,by rw [HY,eR];exact Du,h4,rfl⟩
def QX {b:Nat} {r:List Nat} (h:48<=b):gg [45] (b::r)=false:=by
 show (yu 45 b&&true)=false
 rw [fW (by omega)];rfl
def Ka (h:Tx P L) {z:Int} (hz:(aV z).length<=4000000000):∃r,aj P L 110 [.str (aV z)] r/\cF r z:=by
 have hN:=sT z.natAbs;have un:=sX;have qR:(aw z.natAbs).length<=4000000000:=by
  by_cases h0:z<0
  ·rw [kD h0] at hz;simp at hz;omega
  ·rw [<-nI,yB h0] at hz;simpa using hz
 have ba:Bd (4*(aw z.natAbs).length) (z.natAbs:Int):=yT (R1 hN) (Ik _);by_cases h0:z<0
 ·have hs:aV z=45::aw z.natAbs:=kD h0;have e1:bO P L (D P L) 152 [.str (45::aw z.natAbs),.str [45]]=some (.bool true):=by rw [jo h.akR];rfl
  have e2:bO P L (D P L) 153 [.str (45::aw z.natAbs),.str [45]]=some (.str (aw z.natAbs)):=by rw [jo h.Yf];rfl
  have iY:∃s w r,aj P L 110 [.str (aV z)] r/\du s w (z.natAbs:Int)/\aj P L 147 [.agg [ab s,w]] r/\cF r (-(z.natAbs:Int)):=by
   rw [hs];unfold aj;rw [aH h.akT];simp only [go_sem,ya,yb,NF,bh,e1,e2,un.pu,un.one,dX un];generalize hq:D P L (.loop [0,2,3,4] Er) _=q;obtain ⟨ex,st,rfl,tm,s,w,rfl,rfl,t2,t3,t4,h5⟩:=bQ hq (aic (P:=P) (L:=L) h hN qR (neg:=true) (o1:= .int .i64 0) (o2:= .aa) (aw z.natAbs).length) ⟨[],aw z.natAbs,0,0,.aa,by simp only [go_sem,ya,yb,ax]<;>rfl,rfl,rfl,.inl ⟨rfl,rfl,by decide,by decide⟩,rfl⟩
   obtain ⟨l5,u5⟩:=h5.aY;obtain ⟨r,e3,hr⟩:=FI h.toNu (v:= .agg [ab s,w]) ⟨s,w,rfl,h5⟩ (K:=4*(aw z.natAbs).length) ba (by omega);have bn:=hr;obtain ⟨s6,w6,rfl,h6⟩:=hr;obtain ⟨l6,u6⟩:=h6.aY;refine ⟨s,w,_,?_,h5,e3,bn⟩;simp only [go_sem,ya,yb,ax,t2,t3,t4,cp,cG,u5.ak,e3,b6,fa,fb,cp,yK,nd u6,dX u6]
  obtain ⟨s,w,r,g1,_,_,g2⟩:=iY;rw [show -((z.natAbs:Nat):Int)=z by omega] at g2;exact ⟨r,g1,g2⟩
 ·have hs:aV z=aw z.natAbs:=by rw [<-nI,yB h0];rfl
  obtain ⟨b,r0,hb,jB,KT⟩:=D6 z.natAbs;have e1:bO P L (D P L) 152 [.str (aw z.natAbs),.str [45]]=some (.bool false):=by
   rw [jo h.akR,hb];show some (AV.bool (gg [45] (b::r0)))=_
   rw [QX jB]
  have e2:bO P L (D P L) 153 [.str (aw z.natAbs),.str [45]]=some (.str (aw z.natAbs)):=by
   rw [jo h.Yf,hb];show some (AV.str (bif gg [45] (b::r0) then _ else _))=_
   rw [QX jB];rfl
  have iY:∃s w,aj P L 110 [.str (aV z)] (.agg [ab s,w])/\du s w (z.natAbs:Int):=by
   rw [hs];unfold aj;rw [aH h.akT];simp only [go_sem,ya,yb,NF,bh,e1,e2,un.pu,un.one,dX un];generalize hq:D P L (.loop [0,2,3,4] Er) _=q;obtain ⟨ex,st,rfl,tm,s,w,rfl,rfl,t2,t3,t4,h5⟩:=bQ hq (aic (P:=P) (L:=L) h hN qR (neg:=false) (o1:= .int .i64 0) (o2:= .aa) (aw z.natAbs).length) ⟨[],aw z.natAbs,0,0,.aa,by simp only [go_sem,ya,yb,ax]<;>rfl,rfl,rfl,.inl ⟨rfl,rfl,by decide,by decide⟩,rfl⟩
   obtain ⟨l5,u5⟩:=h5.aY;refine ⟨s,w,?_,h5⟩;simp only [go_sem,ya,yb,ax,t2,t3,t4,cp,fa,fb,cp,yK,nd u5,dX u5]
  obtain ⟨s,w,g1,g2⟩:=iY;rw [show ((z.natAbs:Nat):Int)=z by omega] at g2;exact ⟨_,g1,s,w,rfl,g2⟩
def HR (b:Nat) (r:List Nat) (c:Nat):gg [c] (b::r)=yu c b:=by
 show (yu c b&&true)=_
 grind
def aaL:∀(l r:List Nat) (k:Nat),(∀x,x∈l->x≠47)->mq [47] (l++47::r) k=some (k+l.length)
 | [],r,k,_=>by
  show (bif gg [47] (47::r) then some k else _)=_
  rw [HR];rfl
 | b::l,r,k,h=>by
  show (bif gg [47] (b::(l++47::r)) then some k else mq [47] (l++47::r) (k+1))=_
  rw [HR,fW (fun e=>h b (by simp) e.symm),yS,aaL l r (k+1) (fun x hx=>h x (by simp [hx])),yz]
  grind
def index_none:∀(l:List Nat) (k:Nat),(∀x,x∈l->x≠47)->mq [47] l k=none
 | [],k,_=>rfl
 | b::l,k,h=>by
  show (bif gg [47] (b::l) then some k else mq [47] l (k+1))=_
  rw [HR,fW (fun e=>h b (by simp) e.symm),yS,index_none l (k+1) (fun x hx=>h x (by simp [hx]))]
def adl:∀{l:List Nat},dd l=true->∀x,x∈l->48<=x/\x<=57
 | [],_,x,hx=>by simp at hx
 | b::l,h,x,hx=>by
  have h1:=QW h;simp only [dd,ye] at h;rcases wE.1 hx with rfl | hx
  ·grind
  ·exact adl h.2 x hx
def anu (z:Int):∀x,x∈aV z->x≠47:=fun x hx=>by
 rw [<-nI] at hx;rcases List.mem_append.1 hx with h | h
 ·grind
 ·have:=adl (sS _) x h;omega
def m62 (h:Tx P L) {a:Rat} (hl:(RT a).length<4000000000):∃r,aj P L 62 [.str (RT a)] r/\dM r a:=by
 have FX:=anu a.num;unfold RT at hl ⊢;by_cases hd:a.den=1
 ·rw [yQ hd,wD] at hl ⊢;obtain ⟨p,e1,hp⟩:=Ka h (z:=a.num) (by omega);obtain ⟨r,e2,hr⟩:=Ye h.toFr' hp;rw [<-RZ a hd] at hr;have bn:=hr;obtain ⟨s1,w1,rfl,h1⟩:=hp;obtain ⟨s2,w2,s3,w3,rfl,h2,h3⟩:=hr;obtain ⟨l1,u1⟩:=h1.aY;obtain ⟨l2,u2⟩:=h2.aY;obtain ⟨l3,u3⟩:=h3.aY;have e0:bO P L (D P L) 109 [.str (aV a.num),.str [47]]=some (.ae [.str (aV a.num),.str [],.bool false]):=by
   rw [jo h.Yh];show (bif yR (aV a.num).length 4294967281 then (match mq [47] (aV a.num) 0 with | some i=>_ | none=>some (AV.ae [.str (aV a.num),.str [],.bool false])) else none)=_
   rw [kJ (by omega),index_none _ _ FX];rfl
  refine ⟨_,?_,bn⟩;unfold aj;rw [aH h.PY];simp only [go_sem,ya,yb,F9,bh,e0,e1,b6,u1.ak,cG,e2,nf u2 u3,fa,fb,yK,ix,nh u2 u3]
 ·rw [yB hd] at hl ⊢;simp only [yL,yz] at hl;obtain ⟨p,e1,hp⟩:=Ka h (z:=a.num) (by omega);obtain ⟨q,e2,hq⟩:=Ka h (z:=(a.den:Int)) (by rw [lD];omega);rw [lD] at e2;obtain ⟨s1,w1,rfl,h1⟩:=hp;obtain ⟨s2,w2,rfl,h2⟩:=hq;obtain ⟨l1,u1⟩:=h1.aY;obtain ⟨l2,u2⟩:=h2.aY;have e0:bO P L (D P L) 109 [.str (aV a.num++47::aw a.den),.str [47]]=some (.ae [.str (aV a.num),.str (aw a.den),.bool true]):=by
   rw [jo h.Yh];show (bif yR (aV a.num++47::aw a.den).length 4294967281 then (match mq [47] (aV a.num++47::aw a.den) 0 with | some i=>some (AV.ae [.str ((aV a.num++47::aw a.den).take i),.str ((aV a.num++47::aw a.den).drop (i+1)),.bool true]) | none=>_) else none)=_
   rw [kJ (by simp;omega),aaL _ _ _ FX];simp only [yf,yA,List.take_left];rw [show (aV a.num).length+1=(aV a.num++[47]).length by simp,show aV a.num++47::aw a.den=(aV a.num++[47])++aw a.den by simp,List.drop_left]
  refine ⟨.agg [ab s1,w1,ab s2,w2],?_,s1,w1,s2,w2,rfl,h1,h2⟩;unfold aj;rw [aH h.PY];simp only [go_sem,ya,yb,F9,bh,e0,e1,e2,b6,u1.one,u2.one,Eh,Ei,nf u1 u2,fa,fb,yK,ix,nh u1 u2]
end
end
section
open Go (IntKind)
def dD (p:List Nat):Bool:=dd p&&(match p with | []=>false | b::r=> !(yu b 48)||r.isEmpty)
def fg (p:List Nat):Nat:=(cN p 0).getD 0
def mG (neg:Bool) (t:List Nat):Int:=
 if dD (t.take (bX t))=false\/(neg=true/\t.take (bX t)=[48]) then 1
 else if bX t<t.length/\(dD (t.drop (bX t+1))=false\/t.drop (bX t+1)=[48]\/t.drop (bX t+1)=[49]) then 1
 else if 600<bX t\/600<t.length-bX t-1 then 4
 else if bX t<t.length/\wI (fg (t.take (bX t))) (fg (t.drop (bX t+1)))≠1 then 1
 else 0
def cm:List Nat->Int
 | []=>mG false []
 | b::t=>if b=45 then mG true t else mG false (b::t)
def adm:∀{p:List Nat} (a:Nat),dd p=true->∃n,cN p a=some n
 | [],a,_=>⟨a,rfl⟩
 | b::r,a,h=>by
  have h':=h;simp only [dd,ye] at h';obtain ⟨n,hn⟩:=adm (p:=r) (10*a+(b-48)) h'.2;exact ⟨n,by simp only [cN,h'.1.1,h'.1.2,xM,yA];exact hn⟩
def D7:∀(k:Nat) {p:List Nat},p.length=k->dD p=true->aw (fg p)=p:=by
 intro k
 induction k with
 | zero=>intro p hl h;rw [yx hl] at h;simp [dD] at h
 | succ k ih=>
  intro p hl h;rcases snoc p with rfl | ⟨m,a,rfl⟩
  ·grind
  ·simp only [dD,ye,Ls] at h;obtain ⟨⟨h1,h2⟩,h3⟩:=h;simp only [dd,ye] at h2;have ha1:=yv h2.1.1;have ha2:=yv h2.1.2;obtain ⟨n,hn⟩:=adm 0 h1;have hv:fg (m++[a])=10*n+(a-48):=by
    unfold fg;rw [HY,hn];simp only [xN,cN,h2.1.1,h2.1.2,xM,yA,Option.getD_some]
   cases m with
   | nil=>
    have:n=0:=by simpa [cN] using hn.symm
    rw [hv,nH (by omega)]
    simp;omega
   | cons b r=>
    have hd:dD (b::r)=true:=by
     simp only [dD,h1,xQ]
     cases r with
     | nil=>simp
     | cons c r=>simp at h3 ⊢;exact h3
    have hm:=ih (p:=b::r) (by simpa using hl) hd;have hnv:fg (b::r)=n:=by unfold fg;rw [hn];rfl
    rw [hnv] at hm;have BL:n≠0:=fun e=>by
     rw [nH (by omega)] at hm
     simp_all
    rw [hv,oR (by omega),show (10*n+(a-48))/10=n by omega,show 48+(10*n+(a-48))%10=a by omega,hm]
def aan (t:List Nat):bX t<t.length->t=t.take (bX t)++47::t.drop (bX t+1):=by
 induction t with
 | nil=>simp
 | cons b r ih=>
  intro h;simp only [bX] at h ⊢
  grind
def acf {n:Int} {d:Nat} (hd:0<d) (hg:wI n.natAbs d=1):∃r:Rat,r.num=n/\r.den=d:=⟨⟨n,d,by omega,hg⟩,rfl,rfl⟩
def ayw {s:List Nat} (h:cm s=0):∃r:Rat,s=RT r/\(aw r.num.natAbs).length<=600/\(aw r.den).length<=600:=by
 have key:∀(neg:Bool) (t:List Nat),mG neg t=0->∃r:Rat,(if neg=true then [45] else [])++t=RT r/\(aw r.num.natAbs).length<=600/\(aw r.den).length<=600:=by
  intro neg t h;unfold mG at h
  split at h
  ·grind
  rename_i h1
  split at h
  ·grind
  rename_i h2
  split at h
  ·grind
  rename_i h3
  split at h
  ·grind
  rename_i h4;have hle:=HP t;have hp:dD (t.take (bX t))=true:=by
   cases hb:dD (t.take (bX t)) with
   | true=>rfl
   | false=>exact absurd (.inl hb) h1
  have qZ:=D7 _ rfl hp;generalize hn:fg (t.take (bX t))=n at*
  have aAe:neg=true->n≠0:=fun hh e=>by
   subst e;exact h1 (.inr ⟨hh,by rw [<-qZ];rfl⟩)
  have hint:(if neg=true then [45] else [])++aw n=aV (if neg=true then -(n:Int) else n):=by
   cases neg with
   | true=>
    have:=aAe rfl
    simp only [xC];rw [kD (by omega)]
    simp
   | false=>simp [lD]
  have Yp:(if neg=true then -(n:Int) else n).natAbs=n:=by split<;>omega
  have hln:(aw n).length<=600:=by rw [qZ,yI];omega
  by_cases hs:bX t<t.length
  ·have hq:dD (t.drop (bX t+1))=true:=by
    cases hb:dD (t.drop (bX t+1)) with
    | true=>rfl
    | false=>exact absurd ⟨hs,.inl hb⟩ h2
   have oF:=D7 _ rfl hq;have hg:wI n (fg (t.drop (bX t+1)))=1:=by
    grind
   have jX:=aan t hs;have K7:(t.drop (bX t+1)).length<=600:=by rw [xP];omega
   rw [<-oF] at jX K7;have gA:fg (t.drop (bX t+1))≠0:=fun e=>by
    rw [e] at oF;exact h2 ⟨hs,.inr (.inl (by rw [<-oF];rfl))⟩
   have jb:fg (t.drop (bX t+1))≠1:=fun e=>by
    rw [e] at oF;exact h2 ⟨hs,.inr (.inr (by rw [<-oF];rfl))⟩
   generalize fg (t.drop (bX t+1))=d at*
   obtain ⟨r,cW,mO⟩:=acf (n:=if neg=true then -(n:Int) else n) (d:=d) (by omega) (by rw [Yp];exact hg)
   refine ⟨r,?_,by rw [cW,Yp];exact hln,by rw [mO];exact K7⟩
   unfold RT;rw [cW,mO,yB jb,<-hint,xq]
   congr 1
   rw [qZ];exact jX
  ·have ht:t.take (bX t)=t:=yG (by omega);rw [ht] at qZ;obtain ⟨r,cW,mO⟩:=acf (n:=if neg=true then -(n:Int) else n) (d:=1) (by omega) (Nat.gcd_one_right _);refine ⟨r,?_,by rw [cW,Yp];exact hln,by rw [mO];decide⟩
   unfold RT;rw [cW,mO,yQ rfl,<-hint,wD,qZ]
 cases s with
 | nil=>exact absurd h (by decide)
 | cons b t=>
  simp only [cm] at h
  split at h
  ·rename_i hb;subst hb;exact key true t h
  ·exact key false (b::t) h
end
section
namespace Nd
structure Ord (n:Nat) (l:List Int):Prop where
 len:l.length=n
 pL:∀a,a<n->0<=l.getD a 0/\l.getD a 0<n
 inj:∀a b,a<n->b<n->l.getD a 0=l.getD b 0->a=b
end Nd
end
section
namespace Nd
open Go (IntKind)
section
variable {P:aI} {L:Lib}
abbrev aj (P:aI) (L:Lib) (f:Nat) (av:List AV) (r:AV):Prop:=bO P L (D P L) f av=some r
def stS {hp:Hp} {ct id o:Nat} {v:Int} {ex:Bool} {l:List Int} (h:o<l.length):ji hp ct id o 1 [.int .i64 v] (some (.cells true true ex 1 (l.map ab)))=some (.ae [],bc hp id (.cells true true ex 1 ((l.set o v).map ab)),ct):=by
 rw [A8 (by rfl) (by simp;omega) (by rfl)]
 have:over o [AV.int .i64 v] (l.map ab)=(l.set o v).map ab:=by
  simp only [over,yz,yO,yf];rw [ybt,vO,yQ (by simpa using h)]
  simp
 rw [this];rfl
def mH (h:Has P L 124 E8) (b:Bool) (n:Int):aj P L 124 [.bool b,ab n] (ab (if b=true then n else 0)):=by
 unfold aj;rw [aH h]
 cases b with
 | true=>simp only [go_sem,ya,E8,xC]
 | false=>simp only [go_sem,ya,E8];rfl
def Kb (h:Has P L 125 NH) {v:AV} {l:List Int} (hv:bE v l) (hl:l.length<=1000000):aj P L 125 [v] (ab (bW l)):=by
 unfold aj;rw [aH h];simp only [go_sem,ya,NH,hv.len];have key:=acY (P:=P) (L:=L) (live:=[5,6,7]) (a:=MP)
  (I:=fun k s=>∃tm ct i,s=⟨tm,[],ct,0⟩/\ai tm 5=v/\ai tm 6=ab l.length/\ai tm 7=ab (i:Nat)/\i+k=l.length/\bW (l.drop i)=bW l)
  (Q:=fun ex s=>∃tm,s=⟨tm,[],0,0⟩/\((ex= .ret/\ai tm 2=ab (bW l))\/(ex= .exit 0/\bW l=0))) ?_ l.length
 ·generalize hq:D P L (.loop [5,6,7] MP) _=q;obtain ⟨ex,s,rfl,tm,rfl,h2⟩:=bQ hq key ⟨_,_,0,rfl,rfl,rfl,rfl,by omega,rfl⟩;rcases h2 with ⟨rfl,h2⟩ | ⟨rfl,h2⟩
  ·simp only [go_sem,h2]
  ·rw [h2];simp only [go_sem]
 ·rintro k s ⟨tm,ct,i,rfl,h5,h6,h7,hk,hf⟩;rw [anF (by simp only [go_sem,h5,h6,h7,hv.pu])];simp only [go_sem,ya,h5,h6,h7,MP];by_cases hi:i<l.length
  ·have dT:(i:Int)<l.length:=by omega
   rw [an3 hi] at hf;by_cases hz:l[i]=0
   ·left
    simp only [go_sem,ya,dT,hv.aQ hi,hz];refine ⟨_,k-1,rfl,by omega,_,_,i+1,rfl,?_⟩;rw [wrap64 (by omega) (by omega)];rw [yQ hz] at hf;simp only [go_sem,ya];exact ⟨trivial,trivial,rfl,by omega,hf⟩
   ·right
    simp only [go_sem,ya,dT,hv.aQ hi,hz];rw [yB hz] at hf;refine ⟨_,_,rfl,by simp,_,rfl,.inl ⟨rfl,?_⟩⟩;simp only [go_sem,hf]
  ·right
   have dT:¬(i:Int)<l.length:=by omega
   simp only [go_sem,dT];refine ⟨_,_,rfl,by simp,_,rfl,.inr ⟨rfl,?_⟩⟩;rw [<-hf,xe (by omega)];rfl
end
end Nd
end
section
open Go (IntKind)
def adn (i:Nat):E7 i [48,49,50,51,52,53,54,55,56,57]=(yE 48 i&&yE i 57):=by
 by_cases h:48<=i/\i<=57
 ·obtain ⟨h1,h2⟩:=h;obtain ⟨k,rfl⟩:∃k,i=48+k:=⟨i-48,by omega⟩;rcases (show k=0\/k=1\/k=2\/k=3\/k=4\/k=5\/k=6\/k=7\/k=8\/k=9 by omega) with rfl | rfl | rfl | rfl | rfl | rfl | rfl | rfl | rfl | rfl<;>rfl
 ·have e:(yE 48 i&&yE i 57)=false:=by
   cases h1:yE 48 i with
   | false=>rfl
   | true=>
    cases h2:yE i 57 with
    | false=>rfl
    | true=>exact absurd ⟨yv h1,yv h2⟩ h
  rw [e];have ne:∀c,48<=c->c<=57->yu c i=false:=fun c h1 h2=>fW (by omega)
  simp only [E7,ne 48 (by decide) (by decide),ne 49 (by decide) (by decide),ne 50 (by decide) (by decide),ne 51 (by decide) (by decide),ne 52 (by decide) (by decide),ne 53 (by decide) (by decide),ne 54 (by decide) (by decide),ne 55 (by decide) (by decide),ne 56 (by decide) (by decide),ne 57 (by decide) (by decide),yS]
def QY:∀l:List Nat,kI [48,49,50,51,52,53,54,55,56,57] l=[]↔dd l=true
 | []=>by simp [kI,dd]
 | b::r=>by
  simp only [kI,dd,adn]
  cases hb:(yE 48 b&&yE b 57) with
  | true=>simp only [yA,xQ];exact QY r
  | false=>simp
def Mi:∀l:List Nat,dd l.reverse=dd l
 | []=>rfl
 | b::r=>by rw [List.reverse_cons,Ls,Mi r];simp [dd,Bool.and_comm]
def aar:∀l:List Nat,dd l=false->dd (kI [48,49,50,51,52,53,54,55,56,57] l)=false
 | [],h=>by simp [dd] at h
 | b::r,h=>by
  simp only [kI,adn]
  cases hb:(yE 48 b&&yE b 57) with
  | true=>
   simp only [dd,hb,xQ] at h;exact aar r h
  | false=>simp only [yS];exact h
def asA (p:List Nat):cV (kI [48,49,50,51,52,53,54,55,56,57] (kI [48,49,50,51,52,53,54,55,56,57] p.reverse).reverse) []=dd p:=by
 cases hd:dd p with
 | true=>
  have h1:=(QY p.reverse).2 (by rw [Mi];exact hd)
  rw [h1];rfl
 | false=>
  have h1:=aar p.reverse (by rw [Mi];exact hd)
  have h2:dd (kI [48,49,50,51,52,53,54,55,56,57] p.reverse).reverse=false:=by rw [Mi];exact h1
  cases hq:kI [48,49,50,51,52,53,54,55,56,57] (kI [48,49,50,51,52,53,54,55,56,57] p.reverse).reverse with
  | nil=>have:=(QY _).1 hq;rw [h2] at this;exact absurd this (by decide)
  | cons b r=>rfl
def aas:∀(t:List Nat) (k:Nat),mq [47] t k=if bX t<t.length then some (k+bX t) else none
 | [],k=>by simp [mq,gg,bX]
 | b::r,k=>by
  by_cases hb:b=47
  ·subst hb;have e:bX (47::r)=0:=by simp [bX]
   rw [e,yQ (by simp)];rfl
  ·have e:bX (b::r)=bX r+1:=by simp [bX,hb]
   have hp:gg [47] (b::r)=false:=by rw [HR];exact fW (fun e=>hb e.symm)
   rw [e,mq,hp,yS,aas r (k+1)]
   grind
def rD (a b:List Nat):binOp .neq (.str a) (.str b)=some (.bool (!(cV a b))):=rfl
structure Ck (P:aI) (L:Lib):Prop extends Tx P L where
 aBR:L.pure 128=some LA
 aBS:L.pure 162=some trimS
 h86:Has P L 86 dL
 oc:Has P L 124 E8
 Kc:Has P L 125 NH
 aBT:Has P L 129 E9
section
variable {P:aI} {L:Lib}
def mH (h:Has P L 124 E8) (b:Bool) (n:Int):aj P L 124 [.bool b,ab n] (ab (if b=true then n else 0)):=Nd.mH h b n
def akY (h:Ck P L) {p:List Nat} (hl:p.length<=4000000000):aj P L 129 [.str p] (.bool (dD p)):=by
 have e1:bO P L (D P L) 162 [.str p,.str [48,49,50,51,52,53,54,55,56,57]]=some (.str (kI [48,49,50,51,52,53,54,55,56,57] (kI [48,49,50,51,52,53,54,55,56,57] p.reverse).reverse)):=by
  rw [jo h.aBS];show (bif Ep [48,49,50,51,52,53,54,55,56,57]&&(yR p.length 4294967281&&yR 10 4294967281) then _ else none)=_
  rw [kJ (by omega)];rfl
 have e2:=asA p;unfold aj;rw [aH h.aBT]
 match p,e1,e2 with
 | [],_,_=>
  simp only [go_sem,ya,E9,rD,show cV [] []=true from rfl,yM];rfl
 | b::r,e1,e2=>
  have hI:mY 0 (.str (b::r))=some (.int .u8 (b:Nat)):=rfl;have h0:cV (b::r) []=false:=rfl;have hd:dD (b::r)=(dd (b::r)&&(!(yu b 48)||r.isEmpty)):=rfl;rw [hd]
  cases kZ:dd (b::r) with
  | false=>
   rw [kZ] at e2;simp only [go_sem,ya,E9,rD,h0,yP,e1,mh,e2,xX]
  | true=>
   rw [kZ] at e2;by_cases hb:b=48
   ·subst hb;have e3:cV (48::r) [48]=r.isEmpty:=by
     cases r with
     | nil=>rfl
     | cons c r=>rfl
    have YW:mY 0 (.str (48::r))=some (.int .u8 48):=rfl;simp only [go_sem,ya,E9,rD,h0,yP,e1,mh,e2,YW,yq,yM,e3];rfl
   ·have:yu b 48=false:=fW hb
    rw [this];simp only [go_sem,ya,E9,rD,h0,yP,e1,mh,e2,hI,show ¬((b:Nat):Int)=48 by omega,yy,yP];rfl
def aBU (h:Ck P L) (s:List Nat):bO P L (D P L) 128 [.str s,.str [45]]=some (if s.head? =some 45 then .ae [.str s.tail,.bool true] else .ae [.str s,.bool false]):=by
 rw [jo h.aBR];show some (bif gg [45] s then AV.ae [.str (s.drop 1),.bool true] else .ae [.str s,.bool false])=_
 cases s with
 | nil=>rfl
 | cons b r=>
  by_cases hb:b=45
  ·subst hb;rfl
  ·have:gg [45] (b::r)=false:=by rw [HR];exact fW (fun e=>hb e.symm)
   grind
def aBV (h:Ck P L) {t:List Nat} (hl:t.length<=4000000000):bO P L (D P L) 109 [.str t,.str [47]]=some (.ae [.str (t.take (bX t)),.str (t.drop (bX t+1)),.bool (decide (bX t<t.length))]):=by
 rw [jo h.Yh];show (bif yR t.length 4294967281 then (match mq [47] t 0 with | some i=>some (AV.ae [.str (t.take i),.str (t.drop (i+1)),.bool true]) | none=>some (AV.ae [.str t,.str [],.bool false])) else none)=_
 rw [kJ (by omega),aas];by_cases hs:bX t<t.length
 ·grind
 ·rw [yB hs,xa hs,yG (by omega),xe (by omega)];rfl
def aoY {P:aI} {L:Lib} (a b c d:VC) (s:St):D P L (.seq a (.seq b (.seq c d))) s=nc P L (D P L (.seq a (.seq b c)) s) d:=by
 have e:=Cm (P:=P) (L:=L) b c d;rw [jY,jY]
 cases D P L a s with
 | none=>rfl
 | some q=>
  obtain ⟨ex,st⟩:=q
  cases ex with
  | normal=>rw [fm,fm];exact e st
  | ret=>rfl
  | exit id=>rfl
def aqw {P:aI} {L:Lib} (a b c d f:VC) (s:St):D P L (.seq a (.seq b (.seq c (.seq d f)))) s=nc P L (D P L (.seq a (.seq b (.seq c d))) s) f:=by
 have e:=aoY (P:=P) (L:=L) b c d f;rw [jY,jY]
 cases D P L a s with
 | none=>rfl
 | some q=>
  obtain ⟨ex,st⟩:=q
  cases ex with
  | normal=>rw [fm,fm];exact e st
  | ret=>rfl
  | exit id=>rfl
def MH {a b:List Nat} (h:a=b):cV a b=true:=by
 subst h
 induction a with
 | nil=>rfl
 | cons x a ih=>simp [cV,ih]
def R3 {a b:List Nat} (h:a≠b):cV a b=false:=by
 cases hb:cV a b with
 | false=>rfl
 | true=>
  exact absurd (by
   clear h;revert b
   induction a with
   | nil=>intro b hb;cases b with | nil=>rfl | cons y b=>simp [cV] at hb
   | cons x a ih=>
    intro b hb
    cases b with
    | nil=>simp [cV] at hb
    | cons y b=>
     simp only [cV,ye] at hb
     rw [yj hb.1,ih hb.2]) h
def aAf (h:Ck P L) {p q:List Nat} {ok found:Bool} (lp:p.length<=1000000000) (lq:q.length<=1000000000) (jm:ok=true->dD p=true/\(found=true->dD q=true)) {tm:Env} (t5:ai tm 5= .str p) (t6:ai tm 6= .str q) (t7:ai tm 7= .bool found) (t8:ai tm 8= .bool ok):
  gh [.t 2] (D P L (aC (aC (aC (aC (aC dL.body))))) ⟨tm,[],0,0⟩)=some (ab (
   if ok=false then 1
   else if 600<p.length\/600<q.length then 4
   else if found=true/\wI (fg p) (fg q)≠1 then 1
   else 0)):=by
 have w1:=mH h.oc (!ok) 1;have P2:∀a b:Int,aj P L 125 [.aA true 2 [ab a,ab b]] (ab (bW [a,b])):=fun a b=>Nd.Kb h.Kc (lE true [a,b]) (by simp)
 cases ok with
 | false=>
  have f1:=P2 1 0;have f2:=P2 1 4;have w2:=mH h.oc false 4;have w3:=mH h.oc true 4;simp only [yP,xC,yN,xf] at w1 w2 w3;rw [show bW [1,0]=1 by decide] at f1;rw [show bW [1,4]=1 by decide] at f2;unfold aj at w1 w2 w3 f1 f2;by_cases h1:600<p.length
  ·simp only [go_sem,ya,yb,yD,yp,yh,dL,aC,show ¬(1:Int)=0 by decide,yP,t5,t8,yP,w1,show (600:Int)<(p.length:Int) by omega,yq,w3,f2,yy]
   simp
  ·by_cases h2:600<q.length
   ·simp only [go_sem,ya,yb,yD,yp,yh,dL,aC,show ¬(1:Int)=0 by decide,yP,t5,t6,t8,yP,w1,show ¬(600:Int)<(p.length:Int) by omega,show (600:Int)<(q.length:Int) by omega,yq,yy,w3,f2]
    simp
   ·simp only [go_sem,ya,yb,yD,yp,yh,dL,aC,show ¬(1:Int)=0 by decide,yP,t5,t6,t8,yP,w1,show ¬(600:Int)<(p.length:Int) by omega,show ¬(600:Int)<(q.length:Int) by omega,yy,w2,f1]
    simp
 | true=>
  obtain ⟨hp,hq⟩:=jm rfl;have f1:=P2 0 0;have f2:=P2 0 4;have w2:=mH h.oc false 4;have w3:=mH h.oc true 4;have w4:=mH h.oc false 1;have w5:=mH h.oc true 1;simp only [yM,xC,yN,xf] at w1 w2 w3 w4 w5;rw [show bW [0,0]=0 by decide] at f1;rw [show bW [0,4]=4 by decide] at f2;unfold aj at w1 w2 w3 w4 w5 f1 f2;rw [yB (by decide)];by_cases h1:600<p.length
  ·rw [yQ (.inl h1)];simp only [go_sem,ya,yb,yD,yp,yh,dL,aC,show ¬(4:Int)=0 by decide,yP,t5,t8,yM,w1,show (600:Int)<(p.length:Int) by omega,yq,w3,f2,yy]
  ·by_cases h2:600<q.length
   ·rw [yQ (.inr h2)];simp only [go_sem,ya,yb,yD,yp,yh,dL,aC,show ¬(4:Int)=0 by decide,yP,t5,t6,t8,yM,w1,show ¬(600:Int)<(p.length:Int) by omega,show (600:Int)<(q.length:Int) by omega,yq,yy,w3,f2]
   ·rw [yB (by omega)]
    cases found with
    | false=>
     rw [yB (by simp)];simp only [go_sem,ya,yb,yD,yp,yh,dL,aC,t5,t6,t7,t8,yM,w1,show ¬(600:Int)<(p.length:Int) by omega,show ¬(600:Int)<(q.length:Int) by omega,yq,yy,w2,f1]
    | true=>
     have qZ:=D7 _ rfl hp;have oF:=D7 _ rfl (hq rfl);generalize fg p=n at*
     generalize fg q=d at*
     subst qZ;subst oF;obtain ⟨M,hM⟩:∃M:Nat,M=2400:=⟨_,rfl⟩;have bd:∀{m:Nat},(aw m).length<=600->Bd M (m:Int):=fun {m} hm=>by
      have h1:=Ii m;have h2:=Ik (aw m).length;have h3:(2:Nat)^(4*(aw m).length)<=2^M:=xh (by decide) (by omega);unfold Bd;rw [wK];exact yT h1 (xi h2 h3)
     obtain ⟨x,e1,hx⟩:=Ka h.toTx (z:=(n:Int)) (by rw [lD];omega);obtain ⟨y,e2,hy⟩:=Ka h.toTx (z:=(d:Int)) (by rw [lD];omega);rw [lD] at e1 e2;have kn:=bd (m:=n) (by omega);have kd:=bd (m:=d) (by omega);obtain ⟨g,e3,hg⟩:=akP h.toNu hx hy kn kd (by omega);obtain ⟨e4,YF⟩:=Dg h.toNu (z:=1) (by decide) (by decide);have kg:Bd M ((Int.gcd (n:Int) (d:Int):Nat):Int):=by
      rcases xk d with h0 | h0
      ·subst h0;simpa using kn
      ·exact kd.le (by have:=Nat.gcd_le_right n h0;simpa using this)
     have e5:=aBE h.toNu hg YF (K:=M) kg (by unfold Bd;exact Nat.one_lt_two_pow (by omega)) (by omega)
     have aBW:Int.gcd (n:Int) (d:Int)=wI n d:=rfl;rw [aBW] at e5;obtain ⟨xs,xw,rfl,Ap⟩:=hx;obtain ⟨ys,yw,rfl,K9⟩:=hy;obtain ⟨gs,gw,rfl,ZS⟩:=hg;obtain ⟨l1,u1⟩:=Ap.aY;obtain ⟨l2,u2⟩:=K9.aY;obtain ⟨l3,u3⟩:=ZS.aY;by_cases ig:wI n d=1
     ·rw [yB (by simp [ig])];have hs:df (((wI n d:Nat):Int)-1)=0:=by rw [ig];rfl
      rw [hs] at e5;simp only [go_sem,ya,yb,yD,yp,yh,dL,aC,t5,t6,t7,t8,yM,w1,show ¬(600:Int)<((aw n).length:Int) by omega,show ¬(600:Int)<((aw d).length:Int) by omega,yq,yy,w2,f1,e1,e2,u1.ak,u2.ak,u3.ak,b6,cG,e3,e4,e5]
     ·rw [yQ ⟨rfl,ig⟩];obtain ⟨c,hc,kV⟩:∃c,df (((wI n d:Nat):Int)-1)=c/\c≠0:=⟨_,rfl,fun e=>ig (by
       unfold df at e
       split at e
       ·exact absurd e (by decide)
       ·split at e
        ·omega
        ·exact absurd e (by decide))⟩
      rw [hc] at e5;simp only [go_sem,ya,yb,yD,yp,yh,dL,aC,yP,t5,t6,t7,t8,yM,w1,show ¬(600:Int)<((aw n).length:Int) by omega,show ¬(600:Int)<((aw d).length:Int) by omega,yq,yy,w2,f1,e1,e2,u1.ak,u2.ak,u3.ak,b6,cG,e3,e4,e5,kV,yP,w5]
def m86 (h:Ck P L) {s:List Nat} (hl:s.length<=1000000000):aj P L 86 [.str s] (ab (cm s)):=by
 have key:∀(neg:Bool) (t:List Nat),t.length<=1000000000->bO P L (D P L) 128 [.str s,.str [45]]=some (.ae [.str t,.bool neg])->aj P L 86 [.str s] (ab (mG neg t)):=by
  intro neg t hl e0;have e1:=aBV h (t:=t) (by omega);obtain ⟨k,hk⟩:∃k,k=bX t:=⟨_,rfl⟩;have La:k<=t.length:=by rw [hk];exact HP t
  have e2:=akY h (p:=t.take k) (by rw [yI];omega);have e3:=akY h (p:=t.drop (k+1)) (by rw [xP];omega);have lp:(t.take k).length=k:=by rw [yI];omega
  have lq:(t.drop (k+1)).length=t.length-k-1:=by rw [xP];omega
  unfold mG;rw [<-hk] at e1 ⊢;generalize hp:t.take k=p at*
  generalize hq:t.drop (k+1)=q at*
  obtain ⟨B4,r9⟩:∃ok:Bool,ok=(dD p&&(!neg|| !(cV p [48]))):=⟨_,rfl⟩;obtain ⟨ok,jm⟩:∃ok:Bool,ok=(B4&&(!(decide (k<t.length))||(dD q&&(!(cV q [48])&& !(cV q [49]))))):=⟨_,rfl⟩
  have OV:(if dD p=false\/(neg=true/\p=[48]) then 1
    else if k<t.length/\(dD q=false\/q=[48]\/q=[49]) then 1
    else if 600<k\/600<t.length-k-1 then 4
    else if k<t.length/\wI (fg p) (fg q)≠1 then 1 else 0:Int)=(if ok=false then 1
    else if 600<p.length\/600<q.length then 4
    else if decide (k<t.length)=true/\wI (fg p) (fg q)≠1 then 1
    else 0):=by
   rw [lp,lq];have a1:(dD p=false\/(neg=true/\p=[48]))↔B4=false:=by
    rw [r9];cases dD p<;>cases neg<;>simp
    by_cases e:p=[48]
    ·simp [e,MH]
    ·simp [e,R3 e]
   have a2:ok=false↔(B4=false\/(k<t.length/\(dD q=false\/q=[48]\/q=[49]))):=by
    rw [jm];by_cases hs:k<t.length
    ·simp only [hs,yq,yM,uS,th];cases B4<;>cases dD q<;>simp
     by_cases e:q=[48]
     ·simp [e,MH]
     ·by_cases e':q=[49]
      ·simp [e',MH]
      ·simp [e,e',R3 e,R3 e']
    ·simp [hs]
   by_cases h1:B4=false
   ·rw [yQ (a1.2 h1),yQ (a2.2 (.inl h1))]
   ·rw [yB (fun e=>h1 (a1.1 e))];by_cases h2:k<t.length/\(dD q=false\/q=[48]\/q=[49])
    ·rw [yQ h2,yQ (a2.2 (.inr h2))]
    ·rw [yB h2,yB (fun e=>(a2.1 e).elim h1 h2)];simp only [xI]
  rw [OV];have aBX:ok=true->dD p=true/\(decide (k<t.length)=true->dD q=true):=fun e=>by
   rw [jm,ye] at e;obtain ⟨e1,e2⟩:=e;rw [r9,ye] at e1;refine ⟨e1.1,fun hs=>?_⟩;rw [hs,yM,uS,ye] at e2;exact e2.1
  have tail:∀tm,ai tm 5= .str p->ai tm 6= .str q->ai tm 7= .bool (decide (k<t.length))->ai tm 8= .bool ok->gh [.t 2] (D P L (aC (aC (aC (aC (aC dL.body))))) ⟨tm,[],0,0⟩)=_:=fun tm t5 t6 t7 t8=>
   aAf h (by omega) (by omega) aBX t5 t6 t7 t8
  have mid:∀tm,ai tm 5= .str p->ai tm 6= .str q->ai tm 7= .bool (decide (k<t.length))->ai tm 8= .bool B4->
    ∃tm',D P L (bt (aC (aC (aC (aC dL.body))))) ⟨tm,[],0,0⟩=some (.normal,⟨tm',[],0,0⟩)/\ai tm' 5= .str p/\ai tm' 6= .str q/\ai tm' 7= .bool (decide (k<t.length))/\ai tm' 8= .bool ok:=fun tm t5 t6 t7 t8=>by
   unfold aj at e3;by_cases hs:k<t.length
   ·rw [xo hs] at t7 jm ⊢;simp only [yM,uS] at jm
    cases B4 with
    | false=>
     rw [xX] at jm;subst jm;refine ⟨_,by simp only [go_sem,ya,dL,bt,aC,t7,t8]<;>rfl,?_⟩
     simp only [go_sem,ya,t5,t6,t7,th]
    | true=>
     rw [xQ] at jm
     cases hd:dD q with
     | false=>
      rw [hd] at e3 jm;rw [xX] at jm;subst jm;refine ⟨_,by simp only [go_sem,ya,dL,bt,aC,t6,t7,t8,e3]<;>rfl,?_⟩
      simp only [go_sem,ya,t5,t6,t7,th]
     | true=>
      rw [hd] at e3 jm;rw [xQ] at jm
      cases jC:cV q [48] with
      | true=>
       rw [jC,yM,xX] at jm;subst jm;refine ⟨_,by simp only [go_sem,ya,dL,bt,aC,t6,t7,t8,e3,rD,jC,yM]<;>rfl,?_⟩
       simp only [go_sem,ya,t5,t6,t7,th]
      | false=>
       rw [jC,yP,xQ] at jm;subst jm;refine ⟨_,by simp only [go_sem,ya,dL,bt,aC,t6,t7,t8,e3,rD,jC,yP]<;>rfl,?_⟩
       simp only [go_sem,ya,t5,t6,t7,th]
   ·rw [xa hs] at t7 jm ⊢;simp only [yP,ybv,Bool.and_true] at jm;subst jm;refine ⟨_,by simp only [go_sem,dL,bt,aC,t7]<;>rfl,?_⟩
    simp only [go_sem,ya,t5,t6,t7,t8,th]
  have fin:∀tm,ai tm 5= .str p->ai tm 6= .str q->ai tm 7= .bool (decide (k<t.length))->ai tm 8= .bool B4->
    D P L (.seq (bt dL.body) (.seq (bt (aC dL.body)) (.seq (bt (aC (aC dL.body))) (bt (aC (aC (aC dL.body))))))) ⟨[(0,.str s)],[],0,0⟩=some (.normal,⟨tm,[],0,0⟩)->aj P L 86 [.str s] _:=fun tm t5 t6 t7 t8 e=>by
   obtain ⟨tm',e',f5,f6,f7,f8⟩:=mid tm t5 t6 t7 t8;unfold aj;rw [aH h.h86];show gh [.t 2] (D P L (.seq (bt dL.body) (.seq (bt (aC dL.body)) (.seq (bt (aC (aC dL.body))) (.seq (bt (aC (aC (aC dL.body)))) (.seq (bt (aC (aC (aC (aC dL.body))))) (aC (aC (aC (aC (aC dL.body)))))))))) ⟨[(0,.str s)],[],0,0⟩)=_
   rw [aqw,e,fm,jY,e',fm];exact tail tm' f5 f6 f7 f8
  unfold aj at e2
  cases hd:dD p with
  | false=>
   rw [hd] at e2 r9;rw [xX] at r9;subst r9;refine fin _ ?_ ?_ ?_ ?_ (by simp only [go_sem,ya,dL,bt,aC,e0,e1,e2]<;>rfl)<;>simp only [go_sem,ya]
  | true=>
   rw [hd] at e2 r9
   cases neg with
   | false=>
    simp only [yP,ybv] at r9;subst r9;refine fin _ ?_ ?_ ?_ ?_ (by simp only [go_sem,ya,dL,bt,aC,e0,e1,e2,yP]<;>rfl)<;>simp only [go_sem,ya]
   | true=>
    simp only [yM,uS] at r9;subst r9;refine fin _ ?_ ?_ ?_ ?_ (by simp only [go_sem,ya,dL,bt,aC,e0,e1,e2,yM,rD]<;>rfl)<;>simp only [go_sem,ya]
 unfold cm;have e0:=aBU h s
 cases s with
 | nil=>exact key false [] (by simp) e0
 | cons b r=>
  by_cases hb:b=45
  ·subst hb;exact key true r (by simp at hl;omega) e0
  ·simp only [hb,xf];rw [yB (by simpa using hb)] at e0;exact key false (b::r) hl e0
end
end
section
open Go (IntKind)
def LN (z:Int):Bool:=decide (600<(aw z.natAbs).length)
def LG (r:Rat):Bool:=LN r.num||LN (r.den:Int)
def QC {m B k:Nat} (hB:B<=3*k) (hk:0<k) (h:m<2^B):(aw m).length<=k:=by
 obtain ⟨j,rfl⟩:∃j,k=j+1:=⟨k-1,by omega⟩;refine ru (yT h (xi (xh (by decide) hB) ?_));rw [tu];exact vU (by decide) _
def R4:∀f n:Nat,eC f n<=f
 | 0,_=>yr _
 | f+1,n=>by
  unfold eC
  cases yu n 0 with
  | true=>exact Nat.zero_le _
  | false=>have:=R4 f (n/2);simp only [yS];omega
def ayx {P:aI} {L:Lib} {f:cA} (h:L.pure 175=some Ir) {x:Nat} (hx:x<18446744073709551616):bO P L f 175 [uc x]=some (ab (eC 64 x:Nat)):=by
 rw [jo h];show (bif yR x 18446744073709551616 then _ else none)=_
 rw [kJ hx];rfl
def auE {V n top low:Nat} (hn:0<n) (h0:0<top) (ht:top<18446744073709551616) (hV:V=low+18446744073709551616^(n-1)*top) (hl:low<18446744073709551616^(n-1)):V<2^(64*(n-1)+eC 64 top):=by
 obtain ⟨l1,l2,l3⟩:=Ry h0 ht;have hle:=R4 64 top;have h1:top<2^eC 64 top:=by
  have e:(18446744073709551616:Nat)=2^eC 64 top*2^(64-eC 64 top):=by rw [<-wR,show eC 64 top+(64-eC 64 top)=64 by omega]
  rw [e] at l3;exact Nat.lt_of_mul_lt_mul_right l3
 have h3:=yZ (18446744073709551616^(n-1)) (show top+1<=2^eC 64 top from h1);rw [wR,tu]
 grind
section
variable {P:aI} {L:Lib}
def asB (K:Nat):2^K<=18446744073709551616^(K/64+1):=by
 rw [show (18446744073709551616:Nat)=2^64 from rfl,<-tu];exact xh (by decide) (by omega)
def aAg (h:Tx P L) {v:AV} {z:Int} {K:Nat} (hv:cF v z) (hz:Bd K z) (hK:K<=4000000000):∃B:Nat,aj P L 172 [v] (ab B)/\z.natAbs<2^B/\B<=K+64:=by
 obtain ⟨s,w,rfl,hn⟩:=hv;obtain ⟨l,u⟩:=hn.aY;obtain ⟨r,e1,hr⟩:=zT h.toNu hn;obtain ⟨ws,hw,g,nz',hb⟩:=hr;have hl:ws.length<=K/64+1:=n8 nz' hb (yT hz (asB K));unfold aj at e1 ⊢;by_cases h0:ws=[]
 ·subst h0;have kv:z.natAbs=0:=by rw [<-hb];rfl
  refine ⟨0,?_,by rw [kv];decide,by omega⟩
  rw [aH h.akS];simp only [go_sem,ya,yb,NP,bh,cp,cG,u.pu,u.ak,u.one,e1,hw.len,yO,show ((0:Nat):Int)=0 from rfl,yq]
 ·have hp:0<ws.length:=List.length_pos_iff.2 h0;have qC:=Me nz' h0;have DK:=gE (show 0<18446744073709551616 by decide) g (ws.length-1);have ei:=hw.aQ (i:=ws.length-1) (by omega);have eF:=js (b:=18446744073709551616) (l:=ws) (ws.length-1);have Kd:=mw (AN g (ws.length-1));rw [yI,xn (by omega)] at Kd;rw [show ws.length-1+1=ws.length by omega,yG (yr _)] at eF;generalize ws.getD (ws.length-1) 0=top at*
  have e2:=ayx (P:=P) (f:=D P L) h.aBK DK;have hle:=R4 64 top;have aiX:=auE hp (Nat.pos_of_ne_zero qC) DK eF Kd;rw [hb] at aiX;refine ⟨64*(ws.length-1)+eC 64 top,?_,aiX,by omega⟩;rw [aH h.akS]
  simp only [go_sem,ya,yb,NP,bh,cp,cG,u.pu,u.ak,u.one,e1,hw.len,show ¬(ws.length:Int)=0 by omega,show (ws.length:Int)-1=((ws.length-1:Nat):Int) by omega,wrapN (n:=ws.length-1) (by omega),show (64:Int)*((ws.length-1:Nat):Int)=((64*(ws.length-1):Nat):Int) by omega,wrapN (n:=64*(ws.length-1)) (by omega),ei,e2,show ((64*(ws.length-1):Nat):Int)+((eC 64 top:Nat):Int)=((64*(ws.length-1)+eC 64 top:Nat):Int) from rfl,wrapN (n:=64*(ws.length-1)+eC 64 top) (by omega)]
def aBY (h:Tx P L) {v:AV} {z:Int} {K:Nat} (hv:cF v z) (hz:Bd K z) (hK:K<=4000000000):∃B:Nat,aj P L 172 [v] (ab B)/\z.natAbs<2^B/\B<=300000000000:=by
 obtain ⟨B,h1,h2,h3⟩:=aAg h hv hz hK;exact ⟨B,h1,h2,by omega⟩
def aqx (z:Int):(if gg [45] (aV z)=true then (aV z).drop 1 else aV z)=aw z.natAbs:=by
 by_cases h:z<0
 ·rw [kD h];rfl
 ·obtain ⟨m,rfl⟩:∃m:Nat,z=m:=⟨z.toNat,by omega⟩;rw [lD];obtain ⟨b,r,hb,h1,_⟩:=D6 m;rw [wK,hb,QX h1];rfl
def akZ (h:Tx P L) {v:AV} {z:Int} {K:Nat} (hv:cF v z) (hz:Bd K z) (hK:K<=4000000000):aj P L 151 [v] (.bool (LN z)):=by
 obtain ⟨B,e1,hB,hBb⟩:=aBY h hv hz hK;have e2:=ZO h hv hz hK;obtain ⟨s,w,rfl,hn⟩:=hv;obtain ⟨l,u⟩:=hn.aY;have e3:bO P L (D P L) 153 [.str (aV z),.str [45]]=some (.str (aw z.natAbs)):=by
  rw [jo h.Yf,<-aqx];show some (AV.str (bif gg [45] (aV z) then (aV z).drop 1 else aV z))=_
  cases gg [45] (aV z)<;>rfl
 unfold aj at e1 e2 ⊢;rw [aH h.aBL];unfold LN;by_cases h1:1800<B
 ·simp only [go_sem,ya,yb,NK,bh,cp,cG,u.pu,u.ak,u.one,e1,show (1800:Int)<(B:Int) by omega,yq,e2,e3];by_cases h2:600<(aw z.natAbs).length
  ·rw [xo h2,xo (by omega)]
  ·rw [xa h2,xa (by omega)]
 ·have h2:=QC (k:=600) (by omega) (by decide) hB;rw [xa (by omega)];simp only [go_sem,ya,yb,NK,bh,cp,cG,u.pu,u.ak,u.one,e1,show ¬(1800:Int)<(B:Int) by omega,yy]
def aBZ (h:Tx P L) {v:AV} {a:Rat} {K:Nat} (hv:dM v a) (ka:Hq K a) (hK:K<=4000000000):aj P L 107 [v] (.bool (LG a)):=by
 obtain ⟨s1,w1,s2,w2,rfl,h1,h2⟩:=hv;have e1:=akZ h ⟨s1,w1,rfl,h1⟩ ka.1 hK;have e2:=akZ h ⟨s2,w2,rfl,h2⟩ ka.2 hK;obtain ⟨l1,u1⟩:=h1.aY;obtain ⟨l2,u2⟩:=h2.aY;unfold aj at e1 e2 ⊢;rw [aH h.aBM];unfold LG
 cases hb:LN a.num with
 | true=>
  rw [hb] at e1;simp only [go_sem,ya,yb,NE,bh,b8,yf,cp,cG,u1.pu,u1.ak,u1.one,u2.pu,u2.one,e1];rfl
 | false=>
  rw [hb] at e1;simp only [go_sem,ya,yb,NE,bh,b8,yf,show ui 2 [ab s1,w1,ab s2,w2]=[ab s2,w2] from rfl,cp,cG,u1.pu,u1.ak,u1.one,u2.pu,u2.ak,u2.one,e1,e2];rfl
end
end
section
open Go (IntKind)
def aqy (p s:Nat):p*(s%1000000000)+p*1000000000*(s/1000000000)=p*s:=by
 rw [xj,<-xA,Nat.mod_add_div]
def HZ {l:List Int} {i:Nat} (h:l.length<=i):l.getD i 0=0:=by simp_all
def asC {a b out:List Int} {i c:Nat} {x y:Int} (hx:x=a.getD i 0) (hy:y=b.getD i 0) (h1:0<=x) (h2:0<=y) (hl:out.length=i) (hv:dv out+1000000000^i*c=dv (a.take i)+dv (b.take i)):
  dv (out++[(((x.toNat+y.toNat+c)%1000000000:Nat):Int)])+1000000000^(i+1)*((x.toNat+y.toNat+c)/1000000000)=dv (a.take (i+1))+dv (b.take (i+1)):=by
 rw [oX,oX,mU,hl,<-hx,<-hy];simp only [dv,xY,xB,y8,xd]
 have:=aqy (1000000000^i) (x.toNat+y.toNat+c)
 grind
section
variable {P:aI} {L:Lib}
def ayy (nm:Has P L 302 rV) {v w:AV} {a b:List Int} (hv:bE v a) (hw:bE w b) (ha:dg a) (hb:dg b) {N:Nat} (la:a.length<=N) (lb:b.length<=N) (lN:N<=20000000000):
  ∀k s,(∃(i c:Nat) (out:List Int),2*(N-i)+c=k/\out.length=i/\c<=1/\dg out/\dv out+1000000000^i*c=dv (a.take i)+dv (b.take i)/\i<=N+1/\(i<=N\/c=0)/\
    ((i=0/\aS [0,1,5,6,7] s=⟨[(0,v),(1,w),(5,.aa),(6,ab c),(7,ab i)],[],0,0⟩)\/
    (0<i/\aS [0,1,5,6,7] s=⟨[(0,v),(1,w),(5,.aB 0 0 i),(6,ab c),(7,ab i)],[(0,.cells true true false 1 (out.map ab))],1,0⟩)))->
   ∃ex s',D P L (.loop [0,1,5,6,7] pg) s=some (ex,s')/\∃tm out,ex= .exit 0/\dg out/\dv out=dv a+dv b/\out.length<=N+1/\((out=[]/\ai tm 5= .aa/\s'=⟨tm,[],0,0⟩)\/(0<out.length/\ai tm 5= .aB 0 0 out.length/\s'=⟨tm,[(0,.cells true true false 1 (out.map ab))],1,0⟩)):=by
 intro dq sq;generalize bB:aS [0,1,5,6,7] sq=s0;revert bB s0 sq dq;apply dI;rintro k s ⟨i,c,out,hk,hlen,hc,kZ,aP,hi,FV,hs⟩;have e1:=X0 nm hv i;have e2:=X0 nm hw i;unfold aj at e1 e2;have ga:=gY ha i;have gb:=gY hb i;by_cases sF:i<a.length\/i<b.length\/0<c
 ·left
  obtain ⟨x,hx⟩:∃x,x=a.getD i 0:=⟨_,rfl⟩;obtain ⟨y,hy⟩:∃y,y=b.getD i 0:=⟨_,rfl⟩;rw [<-hx] at e1 ga;rw [<-hy] at e2 gb;have kK:=asC (c:=c) hx hy ga.1 gb.1 hlen aP;obtain ⟨s0,z6⟩:∃s0,s0=x.toNat+y.toNat+c:=⟨_,rfl⟩;rw [<-z6] at kK;have Bv:x+y+(c:Int)=(s0:Int):=by omega
  have hs9:s0<2000000000:=by omega
  have hr:((s0:Nat):Int).tmod 1000000000=((s0%1000000000:Nat):Int):=by rw [wo (by omega)];rfl
  have hq:((s0:Nat):Int).tdiv 1000000000=((s0/1000000000:Nat):Int):=by rw [wq (by omega)];rfl
  have kY:s0/1000000000<=1:=by omega
  have aAh:2*(N-(i+1))+s0/1000000000<k:=by
   by_cases hm:i<N
   ·omega
   ·have:c=1:=by omega
    have Ai:x=0:=by rw [hx];exact HZ (by omega)
    have iH:y=0:=by rw [hy];exact HZ (by omega)
    subst Ai;subst iH
    have:s0=1:=by rw [z6,this];rfl
    subst this;omega
  have FK:dg (out++[((s0%1000000000:Nat):Int)]):=gW.2 ⟨kZ,lF.2 (by omega)⟩;have zC:(out++[((s0%1000000000:Nat):Int)]).length=i+1:=by simp [hlen]
  have aB0:i+1<=N\/s0/1000000000=0:=by
   by_cases hm:i<N
   ·exact .inl hm
   ·right
    have:c=1:=by omega
    have Ai:x=0:=by rw [hx];exact HZ (by omega)
    have iH:y=0:=by rw [hy];exact HZ (by omega)
    subst Ai;subst iH
    have:s0=1:=by rw [z6,this];rfl
    subst this;rfl
  have fin:∃s',D P L pg s=some (.normal,s')/\aS [0,1,5,6,7] s'=⟨[(0,v),(1,w),(5,.aB 0 0 (i+1)),(6,ab (s0/1000000000:Nat)),(7,ab (i+1:Nat))],[(0,.cells true true false 1 ((out++[((s0%1000000000:Nat):Int)]).map ab))],1,0⟩:=by
   have three:((i:Int)<a.length)\/(¬(i:Int)<a.length/\(i:Int)<b.length)\/(¬(i:Int)<a.length/\¬(i:Int)<b.length/\(0:Int)<c):=by omega
   rcases three with t1 | ⟨t1,t2⟩ | ⟨t1,t2,t3⟩
   ·rcases hs with ⟨h0,rfl⟩ | ⟨h0,rfl⟩
    ·subst h0;have mI:out=[]:=yx hlen;subst mI
     simp only [go_sem,ya,yb,xg,yD,yp,yh,pg,hv.len,hv.ak,hw.ak,t1,e1,e2,wrap64 (n:=x+y) (by omega) (by omega),Bv,wrap64 (n:=(s0:Int)) (by omega) (by omega),iK _ _ _ (show (1000000000:Int)≠0 by decide),fX _ _ _ (show (1000000000:Int)≠0 by decide),hr,hq,wrap64 (n:=((s0/1000000000:Nat):Int)) (by omega) (by omega),gX];refine ⟨_,rfl,?_⟩;rw [wrap64 (by omega) (by omega)];simp only [go_sem,ya,yb,ax,au hv.pu,ay _ hv.pu,au hw.pu,ay _ hw.pu]<;>rfl
    ·simp only [go_sem,ya,yb,yp,yh,pg,hv.len,hv.ak,hw.ak,t1,e1,e2,wrap64 (n:=x+y) (by omega) (by omega),Bv,wrap64 (n:=(s0:Int)) (by omega) (by omega),iK _ _ _ (show (1000000000:Int)≠0 by decide),hr]
     rw [fY (ex:=false) (pu:=true) (cs:=out.map ab) (by simp only [go_sem,ya]) (by rw [yt,hlen,yh]) (by omega) (by omega) (by decide) (by simp only [go_sem])]
     simp only [go_sem,ya,yb,fX _ _ _ (show (1000000000:Int)≠0 by decide),hq,wrap64 (n:=((s0/1000000000:Nat):Int)) (by omega) (by omega)];refine ⟨_,rfl,?_⟩;rw [wrap64 (by omega) (by omega),xu];simp only [go_sem,ya,yb,ax,au hv.pu,ay _ hv.pu,au hw.pu,ay _ hw.pu]<;>rfl
   ·rcases hs with ⟨h0,rfl⟩ | ⟨h0,rfl⟩
    ·subst h0;have mI:out=[]:=yx hlen;subst mI
     simp only [go_sem,ya,yb,xg,yD,yp,yh,pg,hv.len,hv.ak,hw.len,hw.ak,t1,t2,e1,e2,wrap64 (n:=x+y) (by omega) (by omega),Bv,wrap64 (n:=(s0:Int)) (by omega) (by omega),iK _ _ _ (show (1000000000:Int)≠0 by decide),fX _ _ _ (show (1000000000:Int)≠0 by decide),hr,hq,wrap64 (n:=((s0/1000000000:Nat):Int)) (by omega) (by omega),gX];refine ⟨_,rfl,?_⟩;rw [wrap64 (by omega) (by omega)];simp only [go_sem,ya,yb,ax,au hv.pu,ay _ hv.pu,au hw.pu,ay _ hw.pu]<;>rfl
    ·simp only [go_sem,ya,yb,yp,yh,pg,hv.len,hv.ak,hw.len,hw.ak,t1,t2,e1,e2,wrap64 (n:=x+y) (by omega) (by omega),Bv,wrap64 (n:=(s0:Int)) (by omega) (by omega),iK _ _ _ (show (1000000000:Int)≠0 by decide),hr]
     rw [fY (ex:=false) (pu:=true) (cs:=out.map ab) (by simp only [go_sem,ya]) (by rw [yt,hlen,yh]) (by omega) (by omega) (by decide) (by simp only [go_sem])]
     simp only [go_sem,ya,yb,fX _ _ _ (show (1000000000:Int)≠0 by decide),hq,wrap64 (n:=((s0/1000000000:Nat):Int)) (by omega) (by omega)];refine ⟨_,rfl,?_⟩;rw [wrap64 (by omega) (by omega),xu];simp only [go_sem,ya,yb,ax,au hv.pu,ay _ hv.pu,au hw.pu,ay _ hw.pu]<;>rfl
   ·rcases hs with ⟨h0,rfl⟩ | ⟨h0,rfl⟩
    ·subst h0;have mI:out=[]:=yx hlen;subst mI
     simp only [go_sem,ya,yb,xg,yD,yp,yh,pg,hv.len,hv.ak,hw.len,hw.ak,t1,t2,t3,e1,e2,wrap64 (n:=x+y) (by omega) (by omega),Bv,wrap64 (n:=(s0:Int)) (by omega) (by omega),iK _ _ _ (show (1000000000:Int)≠0 by decide),fX _ _ _ (show (1000000000:Int)≠0 by decide),hr,hq,wrap64 (n:=((s0/1000000000:Nat):Int)) (by omega) (by omega),gX];refine ⟨_,rfl,?_⟩;rw [wrap64 (by omega) (by omega)];simp only [go_sem,ya,yb,ax,au hv.pu,ay _ hv.pu,au hw.pu,ay _ hw.pu]<;>rfl
    ·simp only [go_sem,ya,yb,yp,yh,pg,hv.len,hv.ak,hw.len,hw.ak,t1,t2,t3,e1,e2,wrap64 (n:=x+y) (by omega) (by omega),Bv,wrap64 (n:=(s0:Int)) (by omega) (by omega),iK _ _ _ (show (1000000000:Int)≠0 by decide),hr]
     rw [fY (ex:=false) (pu:=true) (cs:=out.map ab) (by simp only [go_sem,ya]) (by rw [yt,hlen,yh]) (by omega) (by omega) (by decide) (by simp only [go_sem])]
     simp only [go_sem,ya,yb,fX _ _ _ (show (1000000000:Int)≠0 by decide),hq,wrap64 (n:=((s0/1000000000:Nat):Int)) (by omega) (by omega)];refine ⟨_,rfl,?_⟩;rw [wrap64 (by omega) (by omega),xu];simp only [go_sem,ya,yb,ax,au hv.pu,ay _ hv.pu,au hw.pu,ay _ hw.pu]<;>rfl
  obtain ⟨s',f1,f2⟩:=fin;exact ⟨s',_,f1,aAh,i+1,s0/1000000000,_,rfl,zC,kY,FK,kK,by omega,aB0,.inr ⟨by omega,f2⟩⟩
 ·right
  have kV:c=0:=by omega
  subst kV;rw [xB,y8,yG (by omega),yG (by omega)] at aP;rcases hs with ⟨h0,rfl⟩ | ⟨h0,rfl⟩
  ·simp only [go_sem,ya,pg,hv.len,hw.len,show ¬(i:Int)<a.length by omega,show ¬(i:Int)<b.length by omega,show ¬(0:Int)<((0:Nat):Int) by omega];exact ⟨_,_,rfl,by simp,_,out,rfl,kZ,aP,by omega,.inl ⟨yx (by omega),by simp only [go_sem,ya],rfl⟩⟩
  ·simp only [go_sem,ya,pg,hv.len,hw.len,show ¬(i:Int)<a.length by omega,show ¬(i:Int)<b.length by omega,show ¬(0:Int)<((0:Nat):Int) by omega];exact ⟨_,_,rfl,by simp,_,out,rfl,kZ,aP,by omega,.inr ⟨by omega,by rw [hlen];simp only [go_sem,ya],rfl⟩⟩
def aB1 (h:Has P L 295 JC) (nm:Has P L 302 rV) {v w:AV} {a b:List Int} (hv:bE v a) (hw:bE w b) (ha:dg a) (hb:dg b) (la:a.length<=20000000000) (lb:b.length<=20000000000):
  ∃r out,aj P L 295 [v,w] r/\bE (shut r) out/\dg out/\dv out=dv a+dv b/\out.length<=max a.length b.length+1:=by
 have iY:∃out,aj P L 295 [v,w] (if out=[] then .aa else .bD false 1 out.length (out.map ab))/\dg out/\dv out=dv a+dv b/\out.length<=max a.length b.length+1:=by
  unfold aj;rw [aH h];simp only [go_sem,JC];generalize hq:D P L (.loop [0,1,5,6,7] pg) _=q;obtain ⟨ex,s,rfl,tm,out,rfl,hd,aP,hl,hs⟩:=bQ hq (ayy (P:=P) (L:=L) nm hv hw ha hb (N:=max a.length b.length) (by omega) (by omega) (by omega) (2*(max a.length b.length))) ⟨0,0,[],by omega,rfl,by omega,rfl,by simp [dv],by omega,.inr rfl,.inl ⟨rfl,by simp only [go_sem,ya,ax,au hv.pu,ay _ hv.pu,au hw.pu,ay _ hw.pu]<;>rfl⟩⟩
  refine ⟨out,?_,hd,aP,hl⟩;rcases hs with ⟨h0,h5,rfl⟩ | ⟨h0,h5,rfl⟩
  ·rw [yQ h0];simp only [go_sem,ax,h5]
  ·rw [yB (by intro e;subst e;simp at h0)];simp only [go_sem,yb,ax,h5];exact D3 (jn _ _ _) (by simp) (by decide)
 obtain ⟨out,g1,g2,g3,g4⟩:=iY;refine ⟨_,out,g1,?_,g2,g3,g4⟩
 split
 ·rename_i e;subst e;exact rq
 ·exact lE false out
end
end
section
open Go (IntKind)
section
variable {P:aI} {L:Lib}
def Yq (h:Has P L 296 rU) {v w:AV} {a b:List Int} (hv:bE v a) (hw:bE w b) (ha:dg a) (hb:dg b) (na:nz a) (nb:nz b) (la:a.length<=20000000000) (lb:b.length<=20000000000):
  aj P L 296 [v,w] (ab (dR (dv a) (dv b))):=by
 unfold aj;rw [aH h];by_cases hlen:a.length=b.length
 ·have key:=fM (P:=P) (L:=L) (live:=[0,1,5]) (a:=CG)
   (I:=fun k st=>∃j:Nat,st=⟨[(0,v),(1,w),(5,ab ((j:Int)-1))],[],0,0⟩/\j<=a.length/\j=k/\a.drop j=b.drop j)
   (Q:=fun ex st=>∃tm ct,st=⟨tm,[],ct,0⟩/\((ex= .ret/\ai tm 4=ab (dR (dv a) (dv b)))\/(ex= .exit 0/\a=b))) ?_
  ·simp only [go_sem,ya,rU,hv.len,hw.len,show (a.length:Int)=b.length by omega];generalize hq:D P L (.loop [0,1,5] CG) _=q;obtain ⟨ex,st,rfl,tm,ct,rfl,h2⟩:=bQ hq (key a.length) ⟨a.length,by
    rw [wrap64 (by omega) (by omega)];rw [hlen]
    simp only [go_sem,ya,ax,au hv.pu,ay _ hv.pu,au hw.pu,ay _ hw.pu]<;>rfl,yr _,rfl,by rw [xe (yr _),xe (by omega)]⟩
   rcases h2 with ⟨rfl,h2⟩ | ⟨rfl,h2⟩
   ·simp only [go_sem,h2]
   ·simp only [go_sem,ax];subst h2;simp [dR]
  ·rintro k st ⟨j,rfl,hj,rfl,he⟩
   cases j with
   | zero=>
    right
    simp only [go_sem,ya,CG,show ¬(0:Int)<=((0:Nat):Int)-1 by omega];exact ⟨_,_,rfl,by simp,_,_,rfl,.inr ⟨rfl,by simpa using he⟩⟩
   | succ i=>
    have h1:i<a.length:=by omega
    have h2:i<b.length:=by omega
    have F2:=ags ha hb h1 h2 he;have aX:=ags hb ha h2 h1 he.symm;by_cases c1:a[i]<b[i]
    ·right
     simp only [go_sem,ya,CG,show ((i+1:Nat):Int)-1=(i:Int) by omega,show (0:Int)<=(i:Int) by omega,hv.aQ h1,hw.aQ h2,c1];refine ⟨_,_,rfl,by simp,_,_,rfl,.inl ⟨rfl,?_⟩⟩;simp only [go_sem];unfold dR;rw [yQ (F2 c1)]
    ·by_cases c2:b[i]<a[i]
     ·right
      simp only [go_sem,ya,CG,show ((i+1:Nat):Int)-1=(i:Int) by omega,show (0:Int)<=(i:Int) by omega,hv.aQ h1,hw.aQ h2,c1,c2];refine ⟨_,_,rfl,by simp,_,_,rfl,.inl ⟨rfl,?_⟩⟩;simp only [go_sem];unfold dR;rw [yB (by omega),yQ (by omega)]
     ·left
      simp only [go_sem,ya,CG,show ((i+1:Nat):Int)-1=(i:Int) by omega,show (0:Int)<=(i:Int) by omega,hv.aQ h1,hw.aQ h2,c1,c2];refine ⟨_,i,rfl,by omega,i,?_,by omega,rfl,?_⟩
      ·rw [wrap64 (by omega) (by omega)];simp only [go_sem,ya,ax,au hv.pu,ay _ hv.pu,au hw.pu,ay _ hw.pu]<;>rfl
      ·rw [yU h1,yU h2,he,show a[i]=b[i] by omega]
 ·by_cases c1:a.length<b.length
  ·have:=Sk ha nb hb c1
   simp only [go_sem,ya,rU,hv.len,hw.len,show ¬(a.length:Int)=b.length by omega,show (a.length:Int)<b.length by omega];unfold dR;rw [yQ this]
  ·have:=Sk hb na ha (show b.length<a.length by omega)
   simp only [go_sem,ya,rU,hv.len,hw.len,show ¬(a.length:Int)=b.length by omega,show ¬(a.length:Int)<b.length by omega];unfold dR;rw [yB (by omega),yQ this]
def asD {a b out:List Int} {i c:Nat} {x y z:Int} {c':Nat} (hx:x=a.getD i 0) (hy:y=b.getD i 0) (h1:0<=x) (h2:0<=y) (h3:0<=z) (hz:z=x-y-c+1000000000*c') (hl:out.length=i) (hv:dv out+dv (b.take i)=dv (a.take i)+1000000000^i*c):
  dv (out++[z])+dv (b.take (i+1))=dv (a.take (i+1))+1000000000^(i+1)*c':=by
 rw [oX,oX,mU,hl,<-hx,<-hy];simp only [dv,xB,y8,xd];have e:z.toNat+y.toNat+c=x.toNat+1000000000*c':=by omega
 grind
end
end
section
open Go (IntKind)
section
variable {P:aI} {L:Lib}
def ayz (nm:Has P L 302 rV) {v w:AV} {a b:List Int} (hv:bE v a) (hw:bE w b) (ha:dg a) (hb:dg b) (la:a.length<=20000000000) (hle:dv b<=dv a) (DQ:b.length<=a.length):
  ∀k s,(∃(i c:Nat) (out:List Int),i+k=a.length/\out.length=i/\c<=1/\dg out/\dv out+dv (b.take i)=dv (a.take i)+1000000000^i*c/\
    ((i=0/\aS [0,1,5,6,7] s=⟨[(0,v),(1,w),(5,.aa),(6,ab c),(7,ab i)],[],0,0⟩)\/
    (0<i/\aS [0,1,5,6,7] s=⟨[(0,v),(1,w),(5,.aB 0 0 i),(6,ab c),(7,ab i)],[(0,.cells true true false 1 (out.map ab))],1,0⟩)))->
   ∃ex s',D P L (.loop [0,1,5,6,7] rH) s=some (ex,s')/\∃tm out,ex= .exit 0/\dg out/\dv out+dv b=dv a/\out.length<=20000000000/\((out=[]/\ai tm 5= .aa/\s'=⟨tm,[],0,0⟩)\/(0<out.length/\ai tm 5= .aB 0 0 out.length/\s'=⟨tm,[(0,.cells true true false 1 (out.map ab))],1,0⟩)):=by
 intro dq sq;generalize bB:aS [0,1,5,6,7] sq=s0;revert bB s0 sq dq;apply dI;rintro k s ⟨i,c,out,hk,hlen,hc,kZ,aP,hs⟩;have e2:=X0 nm hw i;unfold aj at e2;have ga:=gY ha i;have gb:=gY hb i;by_cases sF:i<a.length
 ·left
  obtain ⟨x,hx⟩:∃x,x=a.getD i 0:=⟨_,rfl⟩;obtain ⟨y,hy⟩:∃y,y=b.getD i 0:=⟨_,rfl⟩;have Ap:a[i]=x:=by rw [hx];simp [y7,xU sF]
  have e1:=hv.aQ sF;rw [Ap] at e1;rw [<-hx] at ga;rw [<-hy] at e2 gb;obtain ⟨z,c',hz,kY,kv,mM,CX⟩:∃(z:Int) (c':Nat),z=x-y-c+1000000000*c'/\c'<=1/\0<=z/\z<1000000000/\((x-y-c<0/\c'=1)\/(¬x-y-c<0/\c'=0)):=by
   by_cases h:x-y-c<0
   ·exact ⟨x-y-c+1000000000,1,by omega,by omega,by omega,by omega,.inl ⟨h,rfl⟩⟩
   ·exact ⟨x-y-c,0,by omega,by omega,by omega,by omega,.inr ⟨h,rfl⟩⟩
  have kK:=asD hx hy ga.1 gb.1 kv hz hlen aP;have FK:dg (out++[z]):=gW.2 ⟨kZ,lF.2 ⟨kv,mM⟩⟩;have zC:(out++[z]).length=i+1:=by simp [hlen]
  have fin:∃s',D P L rH s=some (.normal,s')/\aS [0,1,5,6,7] s'=⟨[(0,v),(1,w),(5,.aB 0 0 (i+1)),(6,ab c'),(7,ab (i+1:Nat))],[(0,.cells true true false 1 ((out++[z]).map ab))],1,0⟩:=by
   rcases CX with ⟨gO,rfl⟩ | ⟨gO,rfl⟩
   ·have eY:x-y-c+1000000000=z:=by omega
    rcases hs with ⟨h0,rfl⟩ | ⟨h0,rfl⟩
    ·subst h0;have mI:out=[]:=yx hlen;subst mI
     simp only [go_sem,ya,yb,xg,yD,yp,yh,rH,hv.len,hw.ak,show ((0:Nat):Int)<a.length by omega,e1,e2,wrap64 (n:=x-y) (by omega) (by omega),wrap64 (n:=x-y-(c:Int)) (by omega) (by omega),gO,eY,wrap64 (n:=z) (by omega) (by omega),gX];refine ⟨_,rfl,?_⟩;rw [wrap64 (by omega) (by omega)];simp only [go_sem,ya,yb,ax,au hv.pu,ay _ hv.pu,au hw.pu,ay _ hw.pu]<;>rfl
    ·simp only [go_sem,ya,yb,yp,yh,rH,hv.len,hw.ak,show (i:Int)<a.length by omega,e1,e2,wrap64 (n:=x-y) (by omega) (by omega),wrap64 (n:=x-y-(c:Int)) (by omega) (by omega),gO,eY,wrap64 (n:=z) (by omega) (by omega)]
     rw [fY (ex:=false) (pu:=true) (cs:=out.map ab) (by simp only [go_sem,ya]) (by rw [yt,hlen,yh]) (by omega) (by omega) (by decide) (by simp only [go_sem])];simp only [go_sem,ya,yb];refine ⟨_,rfl,?_⟩;rw [wrap64 (by omega) (by omega),xu];simp only [go_sem,ya,yb,ax,au hv.pu,ay _ hv.pu,au hw.pu,ay _ hw.pu]<;>rfl
   ·have eY:x-y-c=z:=by omega
    have gO:¬z<0:=by omega
    rcases hs with ⟨h0,rfl⟩ | ⟨h0,rfl⟩
    ·subst h0;have mI:out=[]:=yx hlen;subst mI
     simp only [go_sem,ya,yb,xg,yD,yp,yh,rH,hv.len,hw.ak,show ((0:Nat):Int)<a.length by omega,e1,e2,wrap64 (n:=x-y) (by omega) (by omega),eY,wrap64 (n:=z) (by omega) (by omega),gO,gX];refine ⟨_,rfl,?_⟩;rw [wrap64 (by omega) (by omega)];simp only [go_sem,ya,yb,ax,au hv.pu,ay _ hv.pu,au hw.pu,ay _ hw.pu]<;>rfl
    ·simp only [go_sem,ya,yb,yp,yh,rH,hv.len,hw.ak,show (i:Int)<a.length by omega,e1,e2,wrap64 (n:=x-y) (by omega) (by omega),eY,wrap64 (n:=z) (by omega) (by omega),gO]
     rw [fY (ex:=false) (pu:=true) (cs:=out.map ab) (by simp only [go_sem,ya]) (by rw [yt,hlen,yh]) (by omega) (by omega) (by decide) (by simp only [go_sem])];simp only [go_sem,ya,yb];refine ⟨_,rfl,?_⟩;rw [wrap64 (by omega) (by omega),xu];simp only [go_sem,ya,yb,ax,au hv.pu,ay _ hv.pu,au hw.pu,ay _ hw.pu]<;>rfl
  obtain ⟨s',f1,f2⟩:=fin;exact ⟨s',k-1,f1,by omega,i+1,c',_,by omega,zC,kY,FK,kK,.inr ⟨by omega,f2⟩⟩
 ·right
  have aiY:dv out+dv b=dv a:=by
   rw [yG (by omega),yG (by omega)] at aP;have aX:=jG kZ;rw [hlen] at aX;rcases (show c=0\/c=1 by omega) with rfl | rfl
   ·omega
   ·omega
  rcases hs with ⟨h0,rfl⟩ | ⟨h0,rfl⟩
  ·simp only [go_sem,ya,rH,hv.len,show ¬(i:Int)<a.length by omega];exact ⟨_,_,rfl,by simp,_,out,rfl,kZ,aiY,by omega,.inl ⟨yx (by omega),by simp only [go_sem,ya],rfl⟩⟩
  ·simp only [go_sem,ya,rH,hv.len,show ¬(i:Int)<a.length by omega];exact ⟨_,_,rfl,by simp,_,out,rfl,kZ,aiY,by omega,.inr ⟨by omega,by rw [hlen];simp only [go_sem,ya],rfl⟩⟩
def ak0 (h:Has P L 297 JD) (nm:Has P L 302 rV) (cS:Has P L 300 lP) {v w:AV} {a b:List Int} (hv:bE v a) (hw:bE w b) (ha:dg a) (hb:dg b) (na:nz a) (nb:nz b) (la:a.length<=20000000000) (hle:dv b<=dv a):
  ∃r out,aj P L 297 [v,w] r/\bE r out/\shut r=r/\dg out/\nz out/\dv out+dv b=dv a:=by
 have DQ:b.length<=a.length:=by
  by_cases h:a.length<b.length
  ·have:=Sk ha nb hb h;omega
  ·omega
 unfold aj;rw [aH h];simp only [go_sem,JD];generalize hq:D P L (.loop [0,1,5,6,7] rH) _=q;obtain ⟨ex,s,rfl,tm,out,rfl,hd,aP,hl,hs⟩:=bQ hq (ayz (P:=P) (L:=L) nm hv hw ha hb la hle DQ a.length) ⟨0,0,[],by omega,rfl,by omega,rfl,by simp [dv],.inl ⟨rfl,by simp only [go_sem,ya,ax,au hv.pu,ay _ hv.pu,au hw.pu,ay _ hw.pu]<;>rfl⟩⟩
 have fI:=lE false out;rcases hs with ⟨h0,h5,rfl⟩ | ⟨h0,h5,rfl⟩
 ·subst h0;obtain ⟨r,e1,hr,jR⟩:=Bq cS (v:= .aa) (l:=[]) rq (by simp);refine ⟨r,dV [],?_,hr,jR,rfl,rfl,by rw [sW];exact aP⟩
  simp only [go_sem,ax,h5,e1,jR,hr.gk]
 ·obtain ⟨r,e1,hr,jR⟩:=Bq cS fI hl;refine ⟨r,dV out,?_,hr,jR,AE hd,Eg out,by rw [sW];exact aP⟩
  have jk:∀hp:Hp,iX 0 out.length (some (false,1,out.map ab,hp))=some (.aA false out.length (out.map ab),hp):=fun hp=>lC false (by simp) (by decide)
  simp only [go_sem,yb,ax,h5,jk,e1,jR,hr.gk]
end
end
section
open Go (IntKind)
def B5 {hp:Hp} {ct id o:Nat} {v:Int} {ex:Bool} {l:List Int} (h:o<l.length):ji hp ct id o 1 [.int .i64 v] (some (.cells true true ex 1 (l.map ab)))=some (.ae [],bc hp id (.cells true true ex 1 ((l.set o v).map ab)),ct):=by
 rw [A8 (by rfl) (by simp;omega) (by rfl)]
 have:over o [AV.int .i64 v] (l.map ab)=(l.set o v).map ab:=by
  simp only [over,yz,yO,yf];rw [ybt,vO,yQ (by simpa using h)]
  simp
 rw [this];rfl
def rQ {l:List Int} {o:Nat} (h:o<l.length):ui o (l.map ab)=AV.int .i64 (l.getD o 0)::ui (o+1) (l.map ab):=by
 rw [yU (by simpa using h)]
 grind
def qD {v:AV} {l:List Int} (hv:bE v l) {i:Nat} (h:i<l.length):iN 1 i v=some (.b5 (.int .i64 (l.getD i 0)::(l.map ab).drop (i+1))):=by
 rw [hv.aQ h]
 grind
def asE {o x y c:Int} (ho:0<=o/\o<1000000000) (hx:0<=x/\x<1000000000) (hy:0<=y/\y<1000000000) (hc:0<=c/\c<1000000000):
  (0<=x*y/\x*y<=999999998000000001)/\0<=o+x*y+c/\o+x*y+c<1000000000000000000:=by
 have h1:=tG hx.1 hy.1;have h2:=ybc (show x<=999999999 by omega) (show y<=999999999 by omega) hy.1 (by decide);omega
section
variable {P:aI} {L:Lib}
def ayA {v w:AV} {a b:List Int} (hv:bE v a) (hw:bE w b) (ha:dg a) (hb:dg b) (la:a.length<=20000000000) (lb:b.length<=20000000000) {n i:Nat} (hn:n=a.length+b.length) (hi:i<a.length) {out0:List Int}:
  ∀k s,(∃(j:Nat) (c:Int) (out:List Int),aS [0,1,5,6,7,8] s=⟨[(0,v),(1,w),(5,.aB 0 0 n),(6,ab i),(7,ab c),(8,ab j)],[(0,.cells true true true 1 (out.map ab))],1,0⟩/\j+k=b.length/\out.length=n/\dg out/\(0<=c/\c<1000000000)/\
    dv out+1000000000^i*1000000000^j*c.toNat=dv out0+1000000000^i*((a.getD i 0).toNat*dv (b.take j))/\(∀m,i+b.length<=m->out.getD m 0=out0.getD m 0))->
   ∃ex s',D P L (.loop [0,1,5,6,7,8] IJ) s=some (ex,s')/\∃tm c out,s'=⟨tm,[(0,.cells true true true 1 (out.map ab))],1,0⟩/\ex= .exit 2/\ai tm 0=v/\ai tm 1=w/\ai tm 5= .aB 0 0 n/\ai tm 6=ab i/\ai tm 7=ab c/\out.length=n/\dg out/\(0<=c/\c<1000000000)/\
    dv out+1000000000^i*1000000000^b.length*c.toNat=dv out0+1000000000^i*((a.getD i 0).toNat*dv b)/\(∀m,i+b.length<=m->out.getD m 0=out0.getD m 0):=by
 intro dq sq;generalize bB:aS [0,1,5,6,7,8] sq=s0;revert bB s0 sq dq;apply dI;rintro k s ⟨j,c,out,rfl,hk,hlen,hd,hc,aP,fV⟩;by_cases hj:j<b.length
 ·left
  obtain ⟨x,hx⟩:∃x,x=a.getD i 0:=⟨_,rfl⟩;obtain ⟨y,hy⟩:∃y,y=b.getD j 0:=⟨_,rfl⟩;obtain ⟨o,ho⟩:∃o,o=out.getD (i+j) 0:=⟨_,rfl⟩;have gx:=gY ha i;have gy:=gY hb j;have nD:=gY hd (i+j);rw [<-hx] at gx;rw [<-hy] at gy;rw [<-ho] at nD;obtain ⟨p1,p2,p3⟩:=asE nD gx gy hc;obtain ⟨t,ht⟩:∃t:Nat,o+x*y+c=t:=⟨(o+x*y+c).toNat,by omega⟩;have hr:((t:Nat):Int).tmod 1000000000=((t%1000000000:Nat):Int):=by rw [wo (by omega)];rfl
  have hq:((t:Nat):Int).tdiv 1000000000=((t/1000000000:Nat):Int):=by rw [wq (by omega)];rfl
  have e1:=qD hv hi;have e2:=qD hw hj;rw [<-hx] at e1;rw [<-hy] at e2;have e3:=rQ (l:=out) (o:=i+j) (by omega);rw [<-ho] at e3;have Ac:t=o.toNat+x.toNat*y.toNat+c.toNat:=by
   have:((x.toNat*y.toNat:Nat):Int)=x*y:=by rw [vj,yaq gx.1,yaq gy.1]
   omega
  have bc:=Sl (l:=out) (j:=i+j) (x:=((t%1000000000:Nat):Int)) (by omega);rw [<-ho,xY,wR] at bc;have kK:=arA (Y:=dv (b.take j)) Ac bc (by rw [hx];exact aP)
  simp only [go_sem,ya,yh,IJ,hw.len,show (j:Int)<b.length by omega,wrapN (n:=i+j) (by omega),show (i:Int)+(j:Int)=((i+j:Nat):Int) from rfl,cM 0 0 (show i+j<n by omega),yf,e3,e1,e2,wrap64 (n:=x*y) (by omega) (by omega),wrap64 (n:=o+x*y) (by omega) (by omega),ht,wrapN (n:=t) (by omega),iK _ _ _ (show (1000000000:Int)≠0 by decide),fX _ _ _ (show (1000000000:Int)≠0 by decide),hr,hq,wrapN (n:=t/1000000000) (by omega),B5 (l:=out) (o:=i+j) (by omega)];refine ⟨_,k-1,rfl,by omega,j+1,((t/1000000000:Nat):Int),out.set (i+j) ((t%1000000000:Nat):Int),?_,by omega,by simp [hlen],MS hd (by omega),by omega,?_,fun m hm=>?_⟩
  ·rw [wrap64 (by omega) (by omega)];simp only [go_sem,ya,yb,ax,au hv.pu,ay _ hv.pu,au hw.pu,ay _ hw.pu]<;>rfl
  ·rw [xY,oX,xd,<-hx,<-hy];exact kK
  ·rw [acT (by omega)];exact fV m hm
 ·right
  have:j=b.length:=by omega
  subst this;rw [xx] at aP;simp only [go_sem,ya,IJ,hw.len,show ¬(b.length:Int)<b.length by omega];exact ⟨_,_,rfl,by simp,_,c,out,rfl,rfl,by simp only [go_sem,ya],by simp only [go_sem,ya],by simp only [go_sem,ya],by simp only [go_sem,ya],by simp only [go_sem,ya],hlen,hd,hc,aP,fV⟩
end
end
section
open Go (IntKind)
def QD (n:Nat):(ym n [AV.int .i64 0]).flatten=(ym n (0:Int)).map ab:=by simp_all
def auF (b:Bool):JV true (some b)=some (.bool (!b)):=by cases b<;>rfl
def abn (n m:Nat):(ym n (0:Int)).getD m 0=0:=by grind
section
variable {P:aI} {L:Lib}
def ayB {v w:AV} {a b:List Int} (hv:bE v a) (hw:bE w b) (ha:dg a) (hb:dg b) (la:a.length<=20000000000) (lb:b.length<=20000000000) {n:Nat} (hn:n=a.length+b.length):
  ∀k s,(∃(i:Nat) (out:List Int),aS [0,1,5,6] s=⟨[(0,v),(1,w),(5,.aB 0 0 n),(6,ab i)],[(0,.cells true true true 1 (out.map ab))],1,0⟩/\i+k=a.length/\out.length=n/\dg out/\dv out=dv (a.take i)*dv b/\(∀m,i+b.length<=m->out.getD m 0=0))->
   ∃ex s',D P L (.loop [0,1,5,6] IK) s=some (ex,s')/\∃tm out,s'=⟨tm,[(0,.cells true true true 1 (out.map ab))],1,0⟩/\ex= .exit 0/\ai tm 5= .aB 0 0 n/\out.length=n/\dg out/\dv out=dv a*dv b:=by
 intro dq sq;generalize bB:aS [0,1,5,6] sq=s0;revert bB s0 sq dq;apply dI;rintro k s ⟨i,out,rfl,hk,hlen,hd,aP,fV⟩;by_cases hi:i<a.length
 ·left
  simp only [go_sem,ya,IK,hv.len,show (i:Int)<a.length by omega];generalize hq:D P L (.loop [0,1,5,6,7,8] IJ) _=q;obtain ⟨ex,s,rfl,tm,c,r5,rfl,rfl,t0,t1,t5,t6,t7,SU,jb,hc,SV,JY⟩:=bQ hq (ayA (P:=P) (L:=L) hv hw ha hb la lb hn hi (out0:=out) b.length) ⟨0,0,out,by simp only [go_sem,ya,yb,ax,au hv.pu,ay _ hv.pu,au hw.pu,ay _ hw.pu]<;>rfl,by omega,hlen,hd,by omega,by simp [dv],fun m _=>rfl⟩
  have hz:r5.getD (i+b.length) 0=0:=by rw [JY _ (yr _),fV _ (yr _)]
  have e3:=rQ (l:=r5) (o:=i+b.length) (by omega);rw [hz] at e3;have bc:=Sl (l:=r5) (j:=i+b.length) (x:=c) (by omega);rw [hz,wR] at bc
  simp only [go_sem,ya,yh,ax,t0,t1,t5,t6,t7,hw.len,au hv.pu,ay _ hv.pu,au hw.pu,ay _ hw.pu,wrapN (n:=i+b.length) (by omega),show (i:Int)+(b.length:Int)=((i+b.length:Nat):Int) from rfl,cM 0 0 (show i+b.length<n by omega),yf,e3,Int.zero_add,wrap64 (n:=c) (by omega) (by omega),B5 (l:=r5) (o:=i+b.length) (by omega)];refine ⟨_,k-1,rfl,by omega,i+1,r5.set (i+b.length) c,?_,by omega,by simp [SU],MS jb hc,?_,fun m hm=>?_⟩
  ·rw [wrap64 (by omega) (by omega)];simp only [go_sem,ya,yb,ax,au hv.pu,ay _ hv.pu,au hw.pu,ay _ hw.pu]<;>rfl
  ·rw [oX,wL,<-aP,xj];simp only [Int.toNat_zero,xB,y8] at bc;rw [bc];exact SV
  ·rw [acT (by omega),JY m (by omega),fV m (by omega)]
 ·right
  have:i=a.length:=by omega
  subst this;rw [xx] at aP;simp only [go_sem,ya,IK,hv.len,show ¬(a.length:Int)<a.length by omega];exact ⟨_,_,rfl,by simp,_,out,rfl,rfl,by simp only [go_sem,ya],hlen,hd,aP⟩
def Yr (h:Has P L 293 Bi) (cS:Has P L 300 lP) {v w:AV} {a b:List Int} (hv:bE v a) (hw:bE w b) (ha:dg a) (hb:dg b) (la:a.length<=8000000000) (lb:b.length<=8000000000):
  ∃r out,aj P L 293 [v,w] r/\bE r out/\shut r=r/\dg out/\nz out/\dv out=dv a*dv b:=by
 obtain ⟨n,hn⟩:∃n,n=a.length+b.length:=⟨_,rfl⟩;have cL:∀ct:Nat,qH ct 1 8 [.int .i64 0] (some n) (some n)=some (.aB ct 0 n,.cells true true true 1 ((ym n (0:Int)).map ab)):=fun ct=>by
  rw [CL (sz:=1) (by omega) (by omega) (by rfl) (by rfl),QD];rfl
 unfold aj;rw [aH h]
 simp only [go_sem,ya,yb,Bi,hv.len,hw.len,wrapN (n:=n) (by omega),show (a.length:Int)+(b.length:Int)=((a.length+b.length:Nat):Int) from rfl,<-hn,cL];generalize hq:D P L (.loop [0,1,5,6] IK) _=q;obtain ⟨ex,s,rfl,tm,out,rfl,rfl,t5,hlen,hd,aP⟩:=bQ hq (ayB (P:=P) (L:=L) hv hw ha hb (by omega) (by omega) hn a.length) ⟨0,ym n 0,by simp only [go_sem,ya,yb,ax,au hv.pu,ay _ hv.pu,au hw.pu,ay _ hw.pu]<;>rfl,by omega,by simp,acV n,by rw [acU];simp [dv],fun m _=>abn n m⟩
 have fI:=lE true out;rw [hlen] at fI;obtain ⟨r,e1,hr,jR⟩:=Bq cS fI (by omega);refine ⟨r,dV out,?_,hr,jR,AE hd,Eg out,by rw [sW];exact aP⟩
 have jk:∀hp:Hp,iX 0 n (some (true,1,out.map ab,hp))=some (.aA true n (out.map ab),hp):=fun hp=>lC true (by simp [hlen]) (by decide)
 simp only [go_sem,yb,ax,t5,jk,e1,jR,hr.gk]
def Ke (h:Has P L 278 NT) (kQ:Has P L 293 Bi) (jz:Has P L 294 Bj) (cS:Has P L 300 lP) {v w:AV} {n m:Int} {K:Nat} (hK:K<=8000000000) (hv:kz v n) (hw:kz w m) (hn:n.natAbs<1000000000^K) (hm:m.natAbs<1000000000^K):
  ∃r,aj P L 278 [v,w] r/\kz r (n*m):=by
 obtain ⟨x,a,rfl,hx,ha,na,va⟩:=hv;obtain ⟨y,b,rfl,hy,hb,nb,vb⟩:=hw;have la:=xi (ju ha na (by rw [va];exact hn)) hK
 have lb:=xi (ju hb nb (by rw [vb];exact hm)) hK
 obtain ⟨z,out,e1,hz,jR,hd,BY,aP⟩:=Yr kQ cS hx hy ha hb la lb;have lo:out.length<=20000000000:=by
  refine ju hd BY ?_;rw [aP];have h1:=jG ha;have h2:=jG hb;have h3:dv a*dv b<1000000000^a.length*1000000000^b.length:=Nat.mul_lt_mul'' h1 h2;rw [<-wR] at h3;have hk:∀K,a.length+b.length<=K->dv a*dv b<1000000000^K:=fun K h=>yT h3 (xh (by decide) h)
  exact hk 20000000000 (by omega)
 obtain ⟨r,e2,hr⟩:=zR jz cS (!(decide (n<0)==decide (m<0))) hz hd lo;have e:cD (!(decide (n<0)==decide (m<0))) (dv out)=n*m:=by
  rw [aP,va,vb];have hnm:((n.natAbs*m.natAbs:Nat):Int)=(n.natAbs:Int)*m.natAbs:=vj _ _;unfold cD;by_cases h0:n<0<;>by_cases h1:m<0<;>simp only [h0,h1,yq,yy,tT,yM,yN,xf,hnm]
  ·rw [show (n.natAbs:Int)= -n by omega,show (m.natAbs:Int)= -m by omega,Int.neg_mul_neg]
  ·rw [show (true==false)=false from rfl,yP,yQ rfl,show (n.natAbs:Int)= -n by omega,show (m.natAbs:Int)=m by omega,Int.neg_mul,ybJ]
  ·rw [show (false==true)=false from rfl,yP,yQ rfl,show (n.natAbs:Int)=n by omega,show (m.natAbs:Int)= -m by omega,Int.mul_neg,ybJ]
  ·rw [show (n.natAbs:Int)=n by omega,show (m.natAbs:Int)=m by omega]
 rw [e] at hr;obtain ⟨w2,l2,rfl,gV,fq,jN,zS⟩:=hr;refine ⟨_,?_,w2,l2,rfl,gV,fq,jN,zS⟩;unfold aj at e1 e2 ⊢;rw [aH h];simp only [go_sem,ya,yb,NT,bh,hx.pu,hx.ak,hx.one,hy.pu,hy.ak,hy.one,hz.ak,hz.shut,gV.pu,gV.one,b8,yf,db,e1,pq,auF,e2,gH,b6];rcases gV with ⟨rfl,_⟩ | ⟨e,rfl⟩<;>rfl
end
end
section
open Go (IntKind)
def auG (i:Nat) (q:List Int) (x:Int):(ym (i+1) (0:Int)++q).set i x=ym i 0++x::q:=by
 rw [List.replicate_succ',xq,List.set_append_right _ _ (by simp)]
 simp
section
variable {P:aI} {L:Lib}
def ayC {v:AV} {a:List Int} (hv:bE v a) (ha:dg a) (la:a.length<=20000000000) {d:Nat} (h0:0<d) (h1:d<1000000000):
  ∀k s,(∃(j r:Nat) (q:List Int),aS [0,1,6,7,8] s=⟨[(0,v),(1,ab d),(6,.aB 0 0 a.length),(7,ab r),(8,ab ((j:Int)-1))],[(0,.cells true true true 1 ((ym j (0:Int)++q).map ab))],1,0⟩/\j=k/\j+q.length=a.length/\r<d/\dg q/\dv (a.drop j)=d*dv q+r)->
   ∃ex s',D P L (.loop [0,1,6,7,8] IL) s=some (ex,s')/\∃tm r q,s'=⟨tm,[(0,.cells true true true 1 (q.map ab))],1,0⟩/\ex= .exit 0/\ai tm 6= .aB 0 0 a.length/\ai tm 7=ab (r:Nat)/\q.length=a.length/\r<d/\dg q/\dv a=d*dv q+r:=by
 intro dq sq;generalize bB:aS [0,1,6,7,8] sq=s0;revert bB s0 sq dq;apply dI;rintro k s ⟨j,r,q,rfl,rfl,hl,hr,hd,aP⟩
 cases j with
 | zero=>
  right
  simp only [go_sem,ya,IL,show ¬(0:Int)<=((0:Nat):Int)-1 by omega];exact ⟨_,_,rfl,by simp,_,r,q,rfl,rfl,by simp only [go_sem,ya],by simp only [go_sem,ya],by omega,hr,hd,aP⟩
 | succ i=>
  left
  have hi:i<a.length:=by omega
  obtain ⟨x,hx⟩:∃x,x=a.getD i 0:=⟨_,rfl⟩;have e1:=qD hv hi;have gx:=gY ha i;rw [<-hx] at e1 gx;obtain ⟨t,ht⟩:∃t:Nat,t=r*1000000000+x.toNat:=⟨_,rfl⟩;have Ac:(r:Int)*1000000000+x=(t:Int):=by omega
  have ko:t<d*1000000000:=by
   omega
  have fw:t/d<1000000000:=(we h0).2 (by rw [xE];exact ko)
  have cW:t%d<d:=xy _ h0;have e2:((t:Nat):Int).tdiv d=((t/d:Nat):Int):=by rw [wq (by omega)];rfl
  have e3:((t:Nat):Int).tmod d=((t%d:Nat):Int):=by rw [wo (by omega)];rfl
  have KU:(ym (i+1) (0:Int)++q).length=a.length:=by simp;omega
  have aR:=fun (hp:Hp) (ct id:Nat) (ex:Bool)=>B5 (hp:=hp) (ct:=ct) (id:=id) (ex:=ex) (v:=((t/d:Nat):Int)) (l:=ym (i+1) (0:Int)++q) (o:=i) (by rw [KU];exact hi)
  simp only [auG] at aR
  simp only [go_sem,ya,yh,IL,show ((i+1:Nat):Int)-1=(i:Int) by omega,show (0:Int)<=(i:Int) by omega,wrap64 (n:=(r:Int)*1000000000) (by omega) (by omega),e1,Ac,wrapN (n:=t) (by omega),fX _ _ _ (show (d:Int)≠0 by omega),iK _ _ _ (show (d:Int)≠0 by omega),e2,e3,wrapN (n:=t/d) (by omega),cM 0 0 (show i<a.length from hi),yf,aR]
  refine ⟨_,i,rfl,by omega,i,t%d,((t/d:Nat):Int)::q,?_,rfl,by simp;omega,cW,(gW (a:=[((t/d:Nat):Int)]) (b:=q)).2 ⟨lF.2 ⟨tB _,uE.2 fw⟩,hd⟩,?_⟩
  ·rw [wrap64 (by omega) (by omega)];simp only [go_sem,ya,yb,ax,au hv.pu,ay _ hv.pu]<;>rfl
  ·have ik:a.drop i=x::a.drop (i+1):=by
    rw [yU hi,hx];simp [y7,xU hi]
   rw [ik];simp only [dv,aP,xY];have e:=xR t d;rw [xA,xA d,Nat.mul_left_comm 1000000000 d];omega
def ak1 (h:Has P L 299 Bk) (cS:Has P L 300 lP) {v:AV} {a:List Int} (hv:bE v a) (ha:dg a) (la:a.length<=20000000000) {d:Nat} (h0:0<d) (h1:d<1000000000):
  ∃r q,aj P L 299 [v,ab d] (.ae [r,ab (dv a%d:Nat)])/\bE r q/\shut r=r/\bH r=r/\dg q/\nz q/\dv q=dv a/d:=by
 obtain ⟨n,hn⟩:∃n,n=a.length:=⟨_,rfl⟩;have cL:∀ct:Nat,qH ct 1 8 [.int .i64 0] (some n) (some n)=some (.aB ct 0 n,.cells true true true 1 ((ym n (0:Int)).map ab)):=fun ct=>by
  rw [CL (sz:=1) (by omega) (by omega) (by rfl) (by rfl),QD];rfl
 unfold aj;rw [aH h];simp only [go_sem,ya,yb,Bk,hv.len,<-hn,cL];generalize hq:D P L (.loop [0,1,6,7,8] IL) _=q;obtain ⟨ex,s,rfl,tm,r,qs,rfl,rfl,t6,t7,hlen,hr,hd,aP⟩:=bQ hq (ayC (P:=P) (L:=L) hv ha la h0 h1 a.length) ⟨a.length,0,[],by
  rw [wrap64 (by omega) (by omega),wD,<-hn]
  simp only [go_sem,ya,yb,ax,au hv.pu,ay _ hv.pu]<;>rfl,rfl,by simp,h0,rfl,by rw [xe (yr _)];simp [dv]⟩
 have fI:=lE true qs;rw [hlen] at fI;obtain ⟨w,e1,hw,jR⟩:=Bq cS fI (by omega);have fE:dv a/d=dv qs/\dv a%d=r:=(Nat.div_mod_unique h0).2 ⟨by omega,hr⟩;refine ⟨w,dV qs,?_,hw,jR,hw.bH,AE hd,Eg qs,by rw [sW,fE.1]⟩;have jk:∀hp:Hp,iX 0 a.length (some (true,1,qs.map ab,hp))=some (.aA true a.length (qs.map ab),hp):=fun hp=>lC true (by simp [hlen]) (by decide)
 rw [fE.2];simp only [go_sem,ya,yb,ax,t6,t7,jk,e1,jR];rcases hw with ⟨rfl,_⟩ | ⟨e,rfl⟩<;>rfl
def aB2 (h:Has P L 279 Fc) (Ys:Has P L 295 JC) (od:Has P L 296 rU) (O6:Has P L 297 JD) (nm:Has P L 302 rV) (jz:Has P L 294 Bj) (cS:Has P L 300 lP) {v w:AV} {n m:Int} {K:Nat} (hK:K<=8000000000) (hv:kz v n) (hw:kz w m) (hn:n.natAbs<1000000000^K) (hm:m.natAbs<1000000000^K):
  ∃r,aj P L 279 [v,w] r/\kz r (n+m):=by
 obtain ⟨x,a,rfl,hx,ha,na,va⟩:=hv;obtain ⟨y,b,rfl,hy,hb,nb,vb⟩:=hw;have la:=xi (ju ha na (by rw [va];exact hn)) hK
 have lb:=xi (ju hb nb (by rw [vb];exact hm)) hK
 by_cases hs:(decide (n<0)==decide (m<0))=true
 ·obtain ⟨z,out,e1,hz,hd,aP,hl⟩:=aB1 Ys nm hx hy ha hb (by omega) (by omega);have lo:out.length<=20000000000:=by omega
  obtain ⟨r,e2,hr⟩:=zR jz cS (decide (n<0)) hz hd lo;have e:cD (decide (n<0)) (dv out)=n+m:=by
   have oG:(n<0)=(m<0):=by simpa using eq_of_beq hs
   rw [aP,va,vb];unfold cD;by_cases h0:n<0
   ·have h1:m<0:=oG▸h0;simp only [h0,yq,xC];omega
   ·have h1:¬m<0:=oG▸h0;simp only [h0,yy,yN,xf];omega
  rw [e] at hr;obtain ⟨w2,l2,rfl,gV,fq,jN,zS⟩:=hr;refine ⟨_,?_,w2,l2,rfl,gV,fq,jN,zS⟩;unfold aj at e1 e2 ⊢;rw [aH h];simp only [go_sem,ya,yb,Fc,bh,hx.pu,hx.ak,hx.one,hy.pu,hy.ak,hy.one,hz.ak,gV.pu,gV.one,b8,yf,db,e1,pq,ek,hs,e2,gH,b6];rcases gV with ⟨rfl,_⟩ | ⟨e,rfl⟩<;>rfl
 ·have hs:(decide (n<0)==decide (m<0))=false:=by simpa using hs
  have oG:¬((n<0)=(m<0)):=fun e=>by simp [e] at hs
  have ec:=Yq od hx hy ha hb na nb (by omega) (by omega);by_cases hc:dv a<dv b
  ·have ef:dR (dv a) (dv b)= -1:=by unfold dR;rw [yQ hc]
   rw [ef] at ec;obtain ⟨z,out,e1,hz,jR,hd,BY,aP⟩:=ak0 O6 nm cS hy hx hb ha nb na (by omega) (by omega);have lo:out.length<=20000000000:=by
    refine ju hd BY ?_
    have:=jG hb
    have hk:∀K,b.length<=K->dv out<1000000000^K:=fun K h=>yT (show dv out<1000000000^b.length by omega) (xh (by decide) h)
    exact hk 20000000000 (by omega)
   obtain ⟨r,e2,hr⟩:=zR jz cS (decide (m<0)) hz hd lo;have e:cD (decide (m<0)) (dv out)=n+m:=by
    rw [va,vb] at aP;unfold cD;by_cases h0:m<0
    ·have h1:¬n<0:=fun h1=>oG (by simp [h0,h1])
     simp only [h0,yq,xC];omega
    ·have h1:n<0:=by
      by_cases h1:n<0
      ·exact h1
      ·exact absurd (by simp [h0,h1]) oG
     simp only [h0,yy,yN,xf];omega
   rw [e] at hr;obtain ⟨w2,l2,rfl,gV,fq,jN,zS⟩:=hr;refine ⟨_,?_,w2,l2,rfl,gV,fq,jN,zS⟩;unfold aj at e1 e2 ec ⊢;rw [aH h];simp only [go_sem,ya,yb,Fc,bh,hx.pu,hx.ak,hx.one,hy.pu,hy.ak,hy.one,hz.ak,hz.shut,gV.pu,gV.one,b8,yf,db,e1,pq,ek,hs,ec,show ¬(0:Int)<=-1 by decide,e2,gH,b6];rcases gV with ⟨rfl,_⟩ | ⟨e,rfl⟩<;>rfl
  ·have ef:(0:Int)<=dR (dv a) (dv b):=by unfold dR;rw [yB hc];split<;>decide
   obtain ⟨z,out,e1,hz,jR,hd,BY,aP⟩:=ak0 O6 nm cS hx hy ha hb na nb (by omega) (by omega);have lo:out.length<=20000000000:=by
    refine ju hd BY ?_
    have:=jG ha
    have hk:∀K,a.length<=K->dv out<1000000000^K:=fun K h=>yT (show dv out<1000000000^a.length by omega) (xh (by decide) h)
    exact hk 20000000000 (by omega)
   obtain ⟨r,e2,hr⟩:=zR jz cS (decide (n<0)) hz hd lo;have e:cD (decide (n<0)) (dv out)=n+m:=by
    rw [va,vb] at aP;unfold cD;by_cases h0:n<0
    ·have h1:¬m<0:=fun h1=>oG (by simp [h0,h1])
     simp only [h0,yq,xC];omega
    ·have h1:m<0:=by
      by_cases h1:m<0
      ·exact h1
      ·exact absurd (by simp [h0,h1]) oG
     simp only [h0,yy,yN,xf];omega
   rw [e] at hr;obtain ⟨w2,l2,rfl,gV,fq,jN,zS⟩:=hr;refine ⟨_,?_,w2,l2,rfl,gV,fq,jN,zS⟩;unfold aj at e1 e2 ec ⊢;rw [aH h];simp only [go_sem,ya,yb,Fc,bh,hx.pu,hx.ak,hx.one,hy.pu,hy.ak,hy.one,hz.ak,hz.shut,gV.pu,gV.one,b8,yf,db,e1,pq,ek,hs,ec,ef,e2,gH,b6];rcases gV with ⟨rfl,_⟩ | ⟨e,rfl⟩<;>rfl
end
end
section
open Go (IntKind)
section
variable {P:aI} {L:Lib}
def agK {l:List Int} (hd:dg l) (hn:nz l) (h:dv l<1000000000):l.length<=1:=ju hd hn (by simpa using h)
def aB3 (h:Has P L 289 rT) (od:Has P L 296 rU) (pG:Has P L 299 Bk) (cS:Has P L 300 lP) {v w:AV} {a b:List Int} (hv:bE v a) (hw:bE w b) (ha:dg a) (hb:dg b) (na:nz a) (nb:nz b) (la:a.length<=20000000000) (lb:b.length<=1) (h0:0<dv b):
  ∃q r lq lr,aj P L 289 [v,w] (.ae [q,r])/\bE q lq/\bE r lr/\dg lq/\nz lq/\dg lr/\nz lr/\dv lq=dv a/dv b/\dv lr=dv a%dv b:=by
 have ec:=Yq od hv hw ha hb na nb la (by omega);by_cases hc:dv a<dv b
 ·have ef:dR (dv a) (dv b)= -1:=by unfold dR;rw [yQ hc]
  rw [ef] at ec;refine ⟨.aa,v,[],a,?_,rq,hv,rfl,rfl,ha,na,?_,?_⟩
  ·unfold aj;rw [aH h];simp only [go_sem,ya,rT,hv.ak,hw.ak,ec,show (-1:Int)<0 by decide];rcases hv with ⟨rfl,_⟩ | ⟨e,rfl⟩<;>rfl
  ·rw [Nat.div_eq_of_lt hc];rfl
  ·rw [Nat.mod_eq_of_lt hc]
 ·have ef:¬dR (dv a) (dv b)<0:=by unfold dR;rw [yB hc];split<;>decide
  have nn:b.length=1:=by
   rcases xk b.length with e | e
   ·rw [yx e] at h0;simp [dv] at h0
   ·omega
  obtain ⟨x,rfl⟩:∃x,b=[x]:=by
   cases b with
   | nil=>simp at nn
   | cons x r=>cases r with
    | nil=>exact ⟨x,rfl⟩
    | cons y r=>simp at nn
  have gx:=lF.1 hb;obtain ⟨d,hd⟩:∃d:Nat,x=d:=⟨x.toNat,by omega⟩;subst hd;have hdd:dv [((d:Nat):Int)]=d:=by simp [dv]
  rw [hdd] at h0 hc ef ec ⊢;obtain ⟨q,lq,e1,hq,lf,aB4,dq,nq,vq⟩:=ak1 pG cS hv ha la h0 (by omega);have aiV:dv a%d<d:=xy _ h0;generalize dv a%d=m at*
  obtain ⟨r,e2,hr,YX⟩:=Bq cS (lE true [(m:Int)]) (by simp);refine ⟨q,r,lq,dV [(m:Int)],?_,hq,hr,dq,nq,AE (lF.2 (by omega)),Eg _,vq,by rw [sW];simp [dv]⟩;have e3:=hw.aQ (i:=0) (by simp);simp only [yz,yO,yf,xc,vD,List.getElem_cons_zero] at e2 e3;unfold aj;rw [aH h];simp only [go_sem,ya,yb,yD,yp,yh,rT,hv.ak,hw.len,hw.ak,ec,ef,yz,yO,show ((1:Nat):Int)=(1:Int) from rfl,yq,e3,e1,aB4,e2,YX];rcases hq with ⟨rfl,_⟩ | ⟨e,rfl⟩<;>rcases hr with ⟨rfl,_⟩ | ⟨e',rfl⟩<;>rfl
end
end
section
open Go (IntKind)
def sv:List Int->Int
 | []=>0
 | a::r=>a+1000000000*sv r
def acg:∀(a b:List Int),sv (a++b)=sv a+1000000000^a.length*sv b
 | [],b=>by simp [sv]
 | x::a,b=>by
  simp only [List.cons_append,sv,acg a b,yz,ta,ybK]
  grind
def ayD (x:Int):sv [x]=x:=by simp [sv]
def EN:∀{l:List Int} {i:Nat} {x:Int},i<l.length->sv (l.set i x)=sv l+1000000000^i*(x-l.getD i 0)
 | [],i,x,h=>by simp at h
 | a::l,0,x,_=>by simp [sv];omega
 | a::l,i+1,x,h=>by
  have ih:=EN (l:=l) (i:=i) (x:=x) (by simpa using h);simp only [List.set_cons_succ,sv,List.getD_cons_succ,ih,ta,ybK]
  grind
def MI {l:List Int} (i:Nat):sv (l.take (i+1))=sv (l.take i)+1000000000^i*l.getD i 0:=by
 by_cases h:i<l.length
 ·rw [List.take_succ_eq_append_getElem h,acg,yI,xn (by omega),ayD]
  grind
 ·rw [yG (by omega),yG (by omega),HZ (by omega),Int.mul_zero,Int.add_zero]
def zD:∀{l:List Int},dg l->sv l=dv l
 | [],_=>rfl
 | a::l,h=>by
  obtain ⟨h1,h2⟩:=gW.1 (show dg ([a]++l) from h);have h1:=lF.1 h1;simp only [sv,dv,zD h2,yaS,vj];omega
section
variable {pre x post:List Int} {i:Nat}
def nS:(pre++x++post).length=pre.length+x.length+post.length:=by grind
def AX (h:i<x.length):(pre++x++post).getD (pre.length+i) 0=x.getD i 0:=by grind
def MY (a:Int) (h:i<x.length):(pre++x++post).set (pre.length+i) a=pre++x.set i a++post:=by simp_all
end
def aid {l:List Int} {i m:Nat} {x:Int} (h:i≠m):(l.set i x).getD m 0=l.getD m 0:=by simp_all
def aqz {l:List Int} {i:Nat} {x:Int} (h:i<l.length):(l.set i x).getD i 0=x:=by simp_all
abbrev H3 (q u:List Int) (f:Int):Hp:=[(2,.cells true true true 1 (q.map ab)),(1,.cells true true false 1 (u.map ab)),(0,.cells false true true 1 [ab f])]
def Mj {live:List Nat} {tm:Env} {ct:Nat} {a b c:List AV} (ht:qv 3 (da tm live)) (hl:(gF (da tm live)).length<100000):
  aS live ⟨tm,[(2,.cells true true true 1 a),(1,.cells true true false 1 b),(0,.cells false true true 1 c)],ct,3⟩=⟨da tm live,[(2,.cells true true true 1 a),(1,.cells true true false 1 b),(0,.cells false true true 1 c)],3,3⟩:=
 aaK ht ⟨by omega,.inl rfl,by omega,.inl rfl,by omega,.inl rfl,trivial⟩ (by
  have:jq 3 [(2,Obj.cells true true true 1 a),(1,Obj.cells true true false 1 b),(0,Obj.cells false true true 1 c)]=[]:=rfl
  rw [this,yO,y8];exact hl)
structure fK (x vs:List Int) (n v1 v2 u0 u1 u2:Nat):Prop where
 n2:2<=n
 nb:n<=20000000000
 lx:x.length=n+1
 lv:vs.length=n
 gx:dg x
 gv:dg vs
 eN:vs.getD (n-1) 0=(v1:Int)
 dB:vs.getD (n-2) 0=(v2:Int)
 h0:x.getD n 0=(u0:Int)
 h1:x.getD (n-1) 0=(u1:Int)
 h2:x.getD (n-2) 0=(u2:Int)
 pos:0<v1
 lt:dv x<1000000000*dv vs
section
variable {x vs:List Int} {n v1 v2 u0 u1 u2:Nat}
def fK.KW (h:fK x vs n v1 v2 u0 u1 u2):v1<1000000000:=by have:=gY h.gv (n-1);rw [h.eN] at this;omega
def fK.DH (h:fK x vs n v1 v2 u0 u1 u2):v2<1000000000:=by have:=gY h.gv (n-2);rw [h.dB] at this;omega
def fK.u0W (h:fK x vs n v1 v2 u0 u1 u2):u0<1000000000:=by have:=gY h.gx n;rw [h.h0] at this;omega
def fK.KX (h:fK x vs n v1 v2 u0 u1 u2):u1<1000000000:=by have:=gY h.gx (n-1);rw [h.h1] at this;omega
def fK.KY (h:fK x vs n v1 v2 u0 u1 u2):u2<1000000000:=by have:=gY h.gx (n-2);rw [h.h2] at this;omega
def fK.parts (h:fK x vs n v1 v2 u0 u1 u2):∃p vr ur,dv vs=(v1*1000000000+v2)*p+vr/\vr<p/\dv x=((u0*1000000000+u1)*1000000000+u2)*p+ur/\ur<p:=by
 obtain ⟨m,hm⟩:∃m,n=m+2:=⟨n-2,by have:=h.n2;omega⟩;subst hm;have e1:=oX (l:=vs) (m+1);have e2:=oX (l:=vs) m;have f0:=oX (l:=x) (m+2);have f1:=oX (l:=x) (m+1);have f2:=oX (l:=x) m;have eN:vs.getD (m+1) 0=(v1:Int):=h.eN;have dB:vs.getD m 0=(v2:Int):=h.dB;have h0:x.getD (m+2) 0=(u0:Int):=h.h0;have h1:x.getD (m+1) 0=(u1:Int):=h.h1;have h2:x.getD m 0=(u2:Int):=h.h2
 rw [yG (by have:=h.lv;omega),eN,e2,dB] at e1
 rw [yG (by have:=h.lx;omega),h0,f1,h1,f2,h2] at f0;simp only [xY] at e1 f0;have g1:=jG (Cp h.gv m)
 rw [yI,xn (by have:=h.lv;omega)] at g1;have g2:=jG (Cp h.gx m)
 rw [yI,xn (by have:=h.lx;omega)] at g2;refine ⟨1000000000^m,_,_,?_,g1,?_,g2⟩
 ·rw [e1,xd,az6]
 ·rw [f0,show 1000000000^(m+2)=1000000000^m*1000000000*1000000000 by rw [xd,xd],xd,az7]
def fK.down (h:fK x vs n v1 v2 u0 u1 u2) {t r:Nat} (ht:t*v1+r=u0*1000000000+u1) (hr:r*1000000000+u2<t*v2):dv x/dv vs<=t-1:=by
 obtain ⟨p,vr,ur,h1,h2,h3,h4⟩:=h.parts;exact aba h1 h3 h4 ht hr
def fK.stop (h:fK x vs n v1 v2 u0 u1 u2) {t r:Nat} (ko:t<1000000000) (ht:t*v1+r=u0*1000000000+u1) (hr:1000000000<=r\/t*v2<=r*1000000000+u2):t<=dv x/dv vs+1:=by
 obtain ⟨p,vr,ur,h1,h2,h3,h4⟩:=h.parts;exact abY (by decide) h1 h2 h3 h.pos h.DH ko ht hr
def fK.first (h:fK x vs n v1 v2 u0 u1 u2):dv x/dv vs<=(u0*1000000000+u1)/v1:=by
 obtain ⟨p,vr,ur,h1,h2,h3,h4⟩:=h.parts;exact Qm h1 h3 h4 h.KY h.pos
def fK.top (h:fK x vs n v1 v2 u0 u1 u2):u0<=v1:=by
 obtain ⟨p,vr,ur,h1,h2,h3,h4⟩:=h.parts;exact abZ h1 h3 h2 h.DH h.lt
def fK.digit (h:fK x vs n v1 v2 u0 u1 u2):dv x/dv vs<1000000000:=by
 refine (we ?_).2 h.lt;rcases xk (dv vs) with h0 | h0
 ·have:=h.lt;rw [h0] at this;simp at this
 ·exact h0
def fK.small (h:fK x vs n v1 v2 u0 u1 u2) {t r:Nat} (ht:t*v1+r=u0*1000000000+u1) (hb:1000000000<=t):r<1000000000:=by
 have h1:=h.top;have h2:=h.KX;have h3:=Nat.mul_le_mul_right v1 hb
 grind
end
def aB5 {r u:Nat} (hr:r<1000000000) (hu:u<1000000000):r*1000000000<9223372036854775808/\r*1000000000+u<9223372036854775808:=by omega
section
variable {P:aI} {L:Lib}
def auH {w:AV} {x vs pre post qs:List Int} {f:Int} (hw:bE w vs) {n v1 v2 u0 u1 u2 M:Nat} (hl:fK x vs n v1 v2 u0 u1 u2) (hM:M=pre.length+x.length+post.length) (Lb:M<=50000000000):
  ∀k s,(∃t r:Nat,aS [0,1,2,7,9,10] s=⟨[(0,.aB 1 0 M),(1,w),(2,ab pre.length),(7,ab n),(9,ab t),(10,ab r)],H3 qs (pre++x++post) f,3,3⟩/\t*v1+r=u0*1000000000+u1/\r<1000000000/\dv x/dv vs<=t/\t=k)->
   ∃ex s',D P L (.loop [0,1,2,7,9,10] AT) s=some (ex,s')/\∃tm ct t,s'=⟨tm,H3 qs (pre++x++post) f,ct,3⟩/\((ex= .exit 0/\ai tm 9=ab (t:Nat))\/(ex= .ret/\ai tm 6=ab (t:Nat)))/\ct=3/\t<1000000000/\dv x/dv vs<=t/\t<=dv x/dv vs+1:=by
 intro dq sq;generalize bB:aS [0,1,2,7,9,10] sq=s0;revert bB s0 sq dq;apply dI;rintro k s ⟨t,r,rfl,ht,hr,hQ,rfl⟩;have dK:=hl.n2;have pP:=hl.nb;have hlx:=hl.lx;have FG:=hl.KW;have X1:=hl.DH;have aky:=hl.KY;have aB6:=hl.u0W;have OX:=hl.KX;have By:=hl.pos;have pW:=qD hw (i:=n-2) (by have:=hl.lv;omega);have eO:=qD hw (i:=n-1) (by have:=hl.lv;omega);rw [hl.dB] at pW;rw [hl.eN] at eO;have sG:=rQ (l:=pre++x++post) (o:=pre.length+(n-2)) (by rw [nS];omega);rw [AX (by omega),hl.h2] at sG;have Aj:(n:Int)-2=((n-2:Nat):Int):=by omega
 have pX:(n:Int)-1=((n-1:Nat):Int):=by omega
 have Lc:(pre.length:Int)+(n:Int)=((pre.length+n:Nat):Int):=rfl;have ZT:((pre.length+n:Nat):Int)-2=((pre.length+(n-2):Nat):Int):=by omega
 have aHI:t<=1000000000000000000:=by
  have:=yZ t By
  omega
 have aHJ:t*1<=t*v1:=yZ t By;obtain ⟨ZU,ZV⟩:=aB5 hr aky;by_cases sF:1000000000<=t\/r*1000000000+u2<t*v2
 ·have ht0:0<t:=by
   rcases xk t with h0 | h0
   ·subst h0;omega
   ·exact h0
  have h1:(t-1)*v1+(r+v1)=u0*1000000000+u1:=by
   obtain ⟨p,rfl⟩:∃p,t=p+1:=⟨t-1,by omega⟩;rw [wL,Nat.one_mul] at ht;rw [Nat.add_sub_cancel];omega
  have DI:dv x/dv vs<=t-1:=by
   rcases sF with h | h
   ·have:=hl.digit;generalize dv x/dv vs=q at*;omega
   ·exact hl.down ht h
  have P3:((t:Nat):Int)-1=((t-1:Nat):Int):=by omega
  have stop:1000000000<=r+v1->t-1<1000000000/\t-1<=dv x/dv vs+1:=fun hb=>by
   have aX:t-1<1000000000:=by
    by_cases ol:1000000000<=t-1
    ·have:=hl.small h1 ol;omega
    ·omega
   exact ⟨aX,hl.stop aX h1 (.inl hb)⟩
  by_cases hb:1000000000<=t
  ·by_cases mO:1000000000<=r+v1
   ·right
    obtain ⟨s1,s2⟩:=stop mO
    simp only [go_sem,ya,AT,H3,show (1000000000:Int)<=(t:Int) by omega,P3,wrapN (n:=t-1) (by omega),pX,wrapN (n:=n-1) (by omega),eO,show (r:Int)+(v1:Int)=((r+v1:Nat):Int) from rfl,wrapN (n:=r+v1) (by omega),show (1000000000:Int)<=((r+v1:Nat):Int) by omega];exact ⟨_,_,rfl,by simp,_,_,t-1,rfl,.inr ⟨rfl,by simp only [go_sem]⟩,rfl,s1,DI,s2⟩
   ·left
    simp only [go_sem,ya,AT,H3,show (1000000000:Int)<=(t:Int) by omega,P3,wrapN (n:=t-1) (by omega),pX,wrapN (n:=n-1) (by omega),eO,show (r:Int)+(v1:Int)=((r+v1:Nat):Int) from rfl,wrapN (n:=r+v1) (by omega),show ¬(1000000000:Int)<=((r+v1:Nat):Int) by omega];refine ⟨_,t-1,rfl,by omega,t-1,r+v1,?_,h1,by omega,DI,rfl⟩;rw [Mj (by simp only [go_sem,ya,yD,mu,mX,mi,mf,p9 hw.pu,vz]) (by simp only [go_sem,ya,yb,yD,au hw.pu])];simp only [go_sem,ya]
  ·have BO:=wZ (show t<=999999999 by omega) (show v2<=999999999 by omega);have Yt:r*1000000000+u2<t*v2:=sF.resolve_left hb;obtain ⟨m,hm⟩:∃m,t*v2=m:=⟨_,rfl⟩;have em:(t:Int)*(v2:Int)=(m:Int):=by rw [<-hm,vj]
   rw [hm] at Yt BO;have Gg:(r:Int)*1000000000=((r*1000000000:Nat):Int):=by omega
   have BT:((r*1000000000:Nat):Int)+(u2:Int)=((r*1000000000+u2:Nat):Int):=rfl;by_cases mO:1000000000<=r+v1
   ·right
    obtain ⟨s1,s2⟩:=stop mO
    simp only [go_sem,ya,yh,AT,H3,show ¬(1000000000:Int)<=(t:Int) by omega,Aj,wrapN (n:=n-2) (by omega),pW,em,wrapN (n:=m) (by omega),Gg,wrapN ZU,Lc,wrapN (n:=pre.length+n) (by omega),ZT,wrapN (n:=pre.length+(n-2)) (by omega),cM 1 0 (show pre.length+(n-2)<M by omega),yf,sG,BT,wrapN ZV,show ((r*1000000000+u2:Nat):Int)<(m:Int) from uE.2 Yt,P3,wrapN (n:=t-1) (by omega),pX,wrapN (n:=n-1) (by omega),eO,show (r:Int)+(v1:Int)=((r+v1:Nat):Int) from rfl,wrapN (n:=r+v1) (by omega),show (1000000000:Int)<=((r+v1:Nat):Int) by omega];exact ⟨_,_,rfl,by simp,_,_,t-1,rfl,.inr ⟨rfl,by simp only [go_sem]⟩,rfl,s1,DI,s2⟩
   ·left
    simp only [go_sem,ya,yh,AT,H3,show ¬(1000000000:Int)<=(t:Int) by omega,Aj,wrapN (n:=n-2) (by omega),pW,em,wrapN (n:=m) (by omega),Gg,wrapN ZU,Lc,wrapN (n:=pre.length+n) (by omega),ZT,wrapN (n:=pre.length+(n-2)) (by omega),cM 1 0 (show pre.length+(n-2)<M by omega),yf,sG,BT,wrapN ZV,show ((r*1000000000+u2:Nat):Int)<(m:Int) from uE.2 Yt,P3,wrapN (n:=t-1) (by omega),pX,wrapN (n:=n-1) (by omega),eO,show (r:Int)+(v1:Int)=((r+v1:Nat):Int) from rfl,wrapN (n:=r+v1) (by omega),show ¬(1000000000:Int)<=((r+v1:Nat):Int) by omega];refine ⟨_,t-1,rfl,by omega,t-1,r+v1,?_,h1,by omega,DI,rfl⟩;rw [Mj (by simp only [go_sem,ya,yD,mu,mX,mi,mf,p9 hw.pu,vz]) (by simp only [go_sem,ya,yb,yD,au hw.pu])];simp only [go_sem,ya]
 ·right
  have ko:t<1000000000:=Nat.lt_of_not_le fun e=>sF (.inl e)
  have BO:=wZ (show t<=999999999 from tJ ko) (show v2<=999999999 from tJ X1);have Yu:t*v2<=r*1000000000+u2:=Nat.le_of_not_lt fun e=>sF (.inr e)
  have aAi:=hl.stop ko ht (.inr Yu);obtain ⟨m,hm⟩:∃m,t*v2=m:=⟨_,rfl⟩;have em:(t:Int)*(v2:Int)=(m:Int):=by rw [<-hm,vj]
  rw [hm] at Yu BO;have Gg:(r:Int)*1000000000=((r*1000000000:Nat):Int):=by omega
  have BT:((r*1000000000:Nat):Int)+(u2:Int)=((r*1000000000+u2:Nat):Int):=rfl
  simp only [go_sem,ya,yh,AT,H3,show ¬(1000000000:Int)<=(t:Int) by omega,Aj,wrapN (n:=n-2) (by omega),pW,em,wrapN (n:=m) (by omega),Gg,wrapN ZU,Lc,wrapN (n:=pre.length+n) (by omega),ZT,wrapN (n:=pre.length+(n-2)) (by omega),cM 1 0 (show pre.length+(n-2)<M by omega),yf,sG,BT,wrapN ZV,show ¬((r*1000000000+u2:Nat):Int)<(m:Int) from fun e=>Nat.not_lt_of_le Yu (uE.1 e)];exact ⟨_,_,rfl,by simp,_,_,t,rfl,.inl ⟨rfl,by simp only [go_sem,ya]⟩,rfl,ko,hQ,aAi⟩
def aAj (h:Has P L 301 zJ) {w:AV} {x vs pre post qs:List Int} {f:Int} (hw:bE w vs) {n v1 v2 u0 u1 u2 M:Nat} (hl:fK x vs n v1 v2 u0 u1 u2) (hM:M=pre.length+x.length+post.length) (Lb:M<=50000000000):
  ∃t:Nat,iL P L (D P L) (H3 qs (pre++x++post) f) 3 301 [.aB 1 0 M,w,ab pre.length]=some (ab t,H3 qs (pre++x++post) f,3)/\t<1000000000/\dv x/dv vs<=t/\t<=dv x/dv vs+1:=by
 have dK:=hl.n2;have pP:=hl.nb;have hlx:=hl.lx;have sH:below 3 w:=p9 hw.pu;have FG:=hl.KW;have aB6:=hl.u0W;have OX:=hl.KX;have By:=hl.pos;have eO:=qD hw (i:=n-1) (by have:=hl.lv;omega);rw [hl.eN] at eO;have BV:=rQ (l:=pre++x++post) (o:=pre.length+n) (by rw [nS];omega);rw [AX (by omega),hl.h0] at BV;have BW:=rQ (l:=pre++x++post) (o:=pre.length+(n-1)) (by rw [nS];omega);rw [AX (by omega),hl.h1] at BW;have pX:(n:Int)-1=((n-1:Nat):Int):=by omega
 have Lc:(pre.length:Int)+(n:Int)=((pre.length+n:Nat):Int):=rfl;have pn1:((pre.length+n:Nat):Int)-1=((pre.length+(n-1):Nat):Int):=by omega
 obtain ⟨m,hm⟩:∃m,m=u0*1000000000+u1:=⟨_,rfl⟩;have em:(u0:Int)*1000000000=((u0*1000000000:Nat):Int):=by omega
 have em2:((u0*1000000000:Nat):Int)+(u1:Int)=(m:Int):=by omega
 have fE:=xR m v1;have r7:=xy m By;have MX:=hl.first;rw [<-hm] at MX;have aHY:m/v1<=m:=Nat.div_le_self _ _;have oq:IntKind.wrap .i64 ((m:Int).tdiv (v1:Int))=((m/v1:Nat):Int):=by
  rw [wq (by omega),<-Int.natCast_ediv,wrapN (by omega)]
 have or':(m:Int).tmod (v1:Int)=((m%v1:Nat):Int):=by rw [wo (by omega),<-Int.natCast_emod]
 rw [xE] at fE;generalize m/v1=q0 at*
 generalize m%v1=r0 at*
 have iY:∃ex tm t,D P L zJ.body ⟨eh 0 [.aB 1 0 M,w,ab pre.length],H3 qs (pre++x++post) f,3,3⟩=some (ex,⟨tm,H3 qs (pre++x++post) f,3,3⟩)/\(ex= .normal\/ex= .ret)/\ai tm 6=ab (t:Nat)/\t<1000000000/\dv x/dv vs<=t/\t<=dv x/dv vs+1:=by
  simp only [go_sem,ya,yh,zJ,H3,hw.len,hl.lv,Lc,wrapN (n:=pre.length+n) (by omega),cM 1 0 (show pre.length+n<M by omega),yf,BV,em,wrapN (n:=u0*1000000000) (by omega),pn1,wrapN (n:=pre.length+(n-1)) (by omega),cM 1 0 (show pre.length+(n-1)<M by omega),BW,em2,wrapN (n:=m) (by omega),pX,wrapN (n:=n-1) (by omega),eO,fX _ _ _ (show (v1:Int)≠0 by omega),iK _ _ _ (show (v1:Int)≠0 by omega),oq,or'];generalize mR:D P L (.loop [0,1,2,7,9,10] AT) _=qq;obtain ⟨ex,s,rfl,tm,ct,t,rfl,FC,rfl,g1,g2,g3⟩:=bQ mR (auH (P:=P) (L:=L) (qs:=qs) (f:=f) hw hl hM Lb q0) ⟨q0,r0,by
   rw [Mj (by simp only [go_sem,ya,yD,mu,mX,mi,mf,sH,vz]) (by simp only [go_sem,ya,yb,yD,au hw.pu])]
   simp only [go_sem,ya],by omega,by omega,MX,rfl⟩
  rcases FC with ⟨rfl,h9⟩ | ⟨rfl,h6⟩
  ·simp only [go_sem,yD,H3,Mj,mu,mi,mf,h9,and_self];exact ⟨_,_,t,rfl,.inr rfl,by simp only [go_sem],g1,g2,g3⟩
  ·simp only [go_sem];exact ⟨_,_,t,rfl,.inr rfl,h6,g1,g2,g3⟩
 obtain ⟨ex,tm,t,g1,g2,g3,g4,g5,g6⟩:=iY;exact ⟨t,agJ h g1 g2 (by show iJ _ [RV.t 6]=_;rw [XU,SS,g3]),g4,g5,g6⟩
end
end
section
open Go (IntKind)
def aB7 {t v bo:Int} (ht:0<=t/\t<1000000000) (hv:0<=v/\v<1000000000) (hb:0<=bo/\bo<1000000000):0<=t*v/\t*v<=999999998000000001/\0<=t*v+bo/\t*v+bo<=999999999000000000:=by
 have h1:=tG ht.1 hv.1;have h2:=ybc (show t<=999999999 by omega) (show v<=999999999 by omega) hv.1 (by decide);omega
def aB8 {x p:Int} (hx:0<=x/\x<1000000000) (hp:0<=p/\p<=999999999000000000):
  (x-p.tmod 1000000000<0->0<=x-p.tmod 1000000000+1000000000/\x-p.tmod 1000000000+1000000000<1000000000/\0<=p.tdiv 1000000000+1/\p.tdiv 1000000000+1<1000000000/\x-p.tmod 1000000000+1000000000+p=x+1000000000*(p.tdiv 1000000000+1))/\
  (¬x-p.tmod 1000000000<0->x-p.tmod 1000000000<1000000000/\0<=p.tdiv 1000000000/\p.tdiv 1000000000<1000000000/\x-p.tmod 1000000000+p=x+1000000000*p.tdiv 1000000000):=by grind
def R5 {l:List Int} (h:dg l) {i:Nat} {z:Int} (hz:0<=z/\z<1000000000):dg (l.set i z):=MS h hz
def auI {b p z q v bo Ak x X Y S:Int} (h2:z+(q*v+bo)=x+b*Ak) (h3:Y+q*X=S+p*bo):(Y+p*(z-x))+q*(X+p*v)=S+p*b*Ak:=by grind
section
variable {P:aI} {L:Lib}
def auJ {w:AV} {x vs pre post qs:List Int} {f:Int} (hw:bE w vs) {n M m:Nat} (lv:vs.length=n) (hM:M=pre.length+(n+1)+post.length) (Lb:M<=50000000000) (gv:dg vs) {t:Int} (ht:0<=t/\t<1000000000):
  ∀k s,(∃(i:Nat) (bo:Int) (y:List Int),aS [8,9,10,11,12,13,14,15,16] s=⟨[(8,.aB 0 0 1),(9,w),(10,ab n),(11,.aB 1 0 M),(12,.aB 2 0 m),(13,ab pre.length),(14,ab t),(15,ab bo),(16,ab i)],H3 qs (pre++y++post) f,3,0⟩/\i+k=n/\y.length=n+1/\dg y/\(0<=bo/\bo<1000000000)/\
    sv y+t*sv (vs.take i)=sv x+1000000000^i*bo)->
   ∃ex s',D P L (.loop [8,9,10,11,12,13,14,15,16] EF) s=some (ex,s')/\∃tm bo y,s'=⟨tm,H3 qs (pre++y++post) f,3,0⟩/\ex= .exit 4/\ai tm 8= .aB 0 0 1/\ai tm 9=w/\ai tm 10=ab n/\ai tm 11= .aB 1 0 M/\ai tm 12= .aB 2 0 m/\ai tm 13=ab pre.length/\ai tm 14=ab t/\ai tm 15=ab bo/\y.length=n+1/\dg y/\(0<=bo/\bo<1000000000)/\
    sv y+t*sv vs=sv x+1000000000^n*bo:=by
 intro dq sq;generalize bB:aS [8,9,10,11,12,13,14,15,16] sq=s0;revert bB s0 sq dq;apply dI;rintro k s ⟨i,bo,y,rfl,hk,ly,gy,jj,aP⟩;by_cases hi:i<n
 ·left
  have qY:=gY gv i;have pZ:=gY gy i;have ev:=qD hw (i:=i) (by omega);have ey:=rQ (l:=pre++y++post) (o:=pre.length+i) (by rw [nS];omega);rw [AX (by omega)] at ey;have eF:=MI (l:=vs) i;obtain ⟨a,ha⟩:∃a,a=vs.getD i 0:=⟨_,rfl⟩;obtain ⟨d,hd⟩:∃d,d=y.getD i 0:=⟨_,rfl⟩;rw [<-ha] at qY ev eF;rw [<-hd] at pZ ey;obtain ⟨p1,p2,p3,p4⟩:=aB7 ht qY jj;obtain ⟨s1,s2⟩:=aB8 pZ ⟨p3,p4⟩;have eR:(i:Int)+(pre.length:Int)=((pre.length+i:Nat):Int):=by omega
  have aR:=fun (hp:Hp) (ct:Nat) (z:Int)=>B5 (hp:=hp) (ct:=ct) (id:=1) (v:=z) (ex:=false) (l:=pre++y++post) (o:=pre.length+i) (by rw [nS];omega)
  have n5:=fun z=>MY (pre:=pre) (x:=y) (post:=post) (i:=i) z (by omega)
  have bc:=fun z=>EN (l:=y) (i:=i) (x:=z) (by omega)
  rw [<-hd] at bc;obtain ⟨pr,ic⟩:∃pr,pr=t*a+bo:=⟨_,rfl⟩;obtain ⟨dm,fE⟩:∃dm,pr.tmod 1000000000=dm:=⟨_,rfl⟩;obtain ⟨dq,DM⟩:∃dq,pr.tdiv 1000000000=dq:=⟨_,rfl⟩;have aHZ:0<=dm/\dm<1000000000:=by rw [<-fE,wo (by omega)];omega
  have aH0:0<=dq/\dq<1000000000:=by rw [<-DM,wq (by omega)];omega
  rw [<-ic,fE,DM] at s1 s2;have key:∀z Ak,z+(t*a+bo)=d+1000000000*Ak->sv (y.set i z)+t*sv (vs.take (i+1))=sv x+1000000000^(i+1)*Ak:=fun z Ak h=>by
   rw [bc,eF,ta];exact auI h aP
  rw [<-ic] at key;by_cases gO:d-dm<0
  ·obtain ⟨q1,q2,q3,q4,q5⟩:=s1 gO;have kk:=key _ _ q5;obtain ⟨dr,ik⟩:∃dr,d-dm=dr:=⟨_,rfl⟩;rw [ik] at gO kk q1 q2
   simp only [go_sem,ya,yh,EF,H3,show (i:Int)<(n:Int) by omega,ev,wrap64 (n:=t*a) (by omega) (by omega),<-ic,wrap64 (n:=pr) (by omega) (by omega),eR,wrapN (n:=pre.length+i) (by omega),cM 1 0 (show pre.length+i<M by omega),yf,ey,iK _ _ _ (show (1000000000:Int)≠0 by decide),fX _ _ _ (show (1000000000:Int)≠0 by decide),fE,DM,ik,wrap64 (n:=dr) (by omega) (by omega),wrap64 (n:=dq) (by omega) (by omega),gO,wrap64 (n:=dr+1000000000) (by omega) (by omega),wrap64 (n:=dq+1) (by omega) (by omega),aR,n5];refine ⟨_,k-1,rfl,by omega,i+1,dq+1,y.set i (dr+1000000000),?_,by omega,by simp [ly],R5 gy ⟨q1,q2⟩,⟨q3,q4⟩,kk⟩;rw [wrap64 (by omega) (by omega)];simp only [go_sem,ya,yb,ax,au hw.pu,ay _ hw.pu]<;>rfl
  ·obtain ⟨q2,q3,q4,q5⟩:=s2 gO;have kk:=key _ _ q5;obtain ⟨dr,ik⟩:∃dr,d-dm=dr:=⟨_,rfl⟩;rw [ik] at gO kk q2
   simp only [go_sem,ya,yh,EF,H3,show (i:Int)<(n:Int) by omega,ev,wrap64 (n:=t*a) (by omega) (by omega),<-ic,wrap64 (n:=pr) (by omega) (by omega),eR,wrapN (n:=pre.length+i) (by omega),cM 1 0 (show pre.length+i<M by omega),yf,ey,iK _ _ _ (show (1000000000:Int)≠0 by decide),fX _ _ _ (show (1000000000:Int)≠0 by decide),fE,DM,ik,wrap64 (n:=dr) (by omega) (by omega),wrap64 (n:=dq) (by omega) (by omega),gO,aR,n5];refine ⟨_,k-1,rfl,by omega,i+1,dq,y.set i dr,?_,by omega,by simp [ly],R5 gy ⟨by omega,q2⟩,⟨q3,q4⟩,kk⟩;rw [wrap64 (by omega) (by omega)];simp only [go_sem,ya,yb,ax,au hw.pu,ay _ hw.pu]<;>rfl
 ·right
  have:i=n:=by omega
  subst this;rw [yG (by omega)] at aP;simp only [go_sem,ya,EF,H3,show ¬(i:Int)<(i:Int) by omega];exact ⟨_,_,rfl,by simp,_,bo,y,rfl,rfl,by simp only [go_sem,ya],by simp only [go_sem,ya],by simp only [go_sem,ya],by simp only [go_sem,ya],by simp only [go_sem,ya],by simp only [go_sem,ya],by simp only [go_sem,ya],by simp only [go_sem,ya],ly,gy,jj,aP⟩
def auK {b p z v c c' x X Y S:Int} (h2:z+b*c'=x+v+c) (h3:Y+p*c=S+X):(Y+p*(z-x))+p*b*c'=S+(X+p*v):=by grind
def auL {w:AV} {y0 vs pre post qs:List Int} {f:Int} (hw:bE w vs) {n M m:Nat} (lv:vs.length=n) (hM:M=pre.length+(n+1)+post.length) (Lb:M<=50000000000) (gv:dg vs) {t top:Int}:
  ∀k s,(∃(i:Nat) (c:Int) (y:List Int),aS [8,9,10,11,12,13,14,19,20] s=⟨[(8,.aB 0 0 1),(9,w),(10,ab n),(11,.aB 1 0 M),(12,.aB 2 0 m),(13,ab pre.length),(14,ab t),(19,ab c),(20,ab i)],H3 qs (pre++y++post) f,3,0⟩/\i+k=n/\y.length=n+1/\dg (y.take n)/\y.getD n 0=top/\(0<=c/\c<=1)/\
    sv y+1000000000^i*c=sv y0+sv (vs.take i))->
   ∃ex s',D P L (.loop [8,9,10,11,12,13,14,19,20] IE) s=some (ex,s')/\∃tm c y,s'=⟨tm,H3 qs (pre++y++post) f,3,0⟩/\ex= .exit 6/\ai tm 8= .aB 0 0 1/\ai tm 9=w/\ai tm 10=ab n/\ai tm 11= .aB 1 0 M/\ai tm 12= .aB 2 0 m/\ai tm 13=ab pre.length/\ai tm 14=ab t/\ai tm 19=ab c/\y.length=n+1/\dg (y.take n)/\y.getD n 0=top/\(0<=c/\c<=1)/\
    sv y+1000000000^n*c=sv y0+sv vs:=by
 intro dq sq;generalize bB:aS [8,9,10,11,12,13,14,19,20] sq=s0;revert bB s0 sq dq;apply dI;rintro k s ⟨i,c,y,rfl,hk,ly,gy,n7,hc,aP⟩;by_cases hi:i<n
 ·left
  have qY:=gY gv i;have pZ:=gY gy i;have e0:(y.take n).getD i 0=y.getD i 0:=by
   simp [y7,hi]
  rw [e0] at pZ;have ev:=qD hw (i:=i) (by omega);have ey:=rQ (l:=pre++y++post) (o:=pre.length+i) (by rw [nS];omega);rw [AX (by omega)] at ey;have eF:=MI (l:=vs) i;obtain ⟨a,ha⟩:∃a,a=vs.getD i 0:=⟨_,rfl⟩;obtain ⟨d,hd⟩:∃d,d=y.getD i 0:=⟨_,rfl⟩;rw [<-ha] at qY ev eF;rw [<-hd] at pZ ey;have eR:(i:Int)+(pre.length:Int)=((pre.length+i:Nat):Int):=by omega
  have bc:=fun z=>EN (l:=y) (i:=i) (x:=z) (by omega)
  rw [<-hd] at bc;have r7:(d+a+c).tmod 1000000000=(d+a+c)%1000000000:=wo (by omega);have hdiv:(d+a+c).tdiv 1000000000=(d+a+c)/1000000000:=wq (by omega);obtain ⟨z,hz⟩:∃z,z=(d+a+c)%1000000000:=⟨_,rfl⟩;obtain ⟨c',kY⟩:∃z,z=(d+a+c)/1000000000:=⟨_,rfl⟩;have YD:z+1000000000*c'=d+a+c:=by omega
  rw [<-hz] at r7;rw [<-kY] at hdiv;have aR:=fun (hp:Hp) (ct:Nat)=>B5 (hp:=hp) (ct:=ct) (id:=1) (v:=z) (ex:=false) (l:=pre++y++post) (o:=pre.length+i) (by rw [nS];omega)
  have n5:=MY (pre:=pre) (x:=y) (post:=post) (i:=i) z (by omega)
  simp only [go_sem,ya,yh,IE,H3,show (i:Int)<(n:Int) by omega,ev,eR,wrapN (n:=pre.length+i) (by omega),cM 1 0 (show pre.length+i<M by omega),yf,ey,wrap64 (n:=d+a) (by omega) (by omega),wrap64 (n:=d+a+c) (by omega) (by omega),iK _ _ _ (show (1000000000:Int)≠0 by decide),fX _ _ _ (show (1000000000:Int)≠0 by decide),r7,hdiv,wrap64 (n:=c') (by omega) (by omega),aR,n5];refine ⟨_,k-1,rfl,by omega,i+1,c',y.set i z,?_,by omega,by simp [ly],?_,by rw [aid (by omega)];exact n7,⟨by omega,by omega⟩,?_⟩
  ·rw [wrap64 (by omega) (by omega)];simp only [go_sem,ya,yb,ax,au hw.pu,ay _ hw.pu]<;>rfl
  ·rw [tO];exact R5 gy ⟨by omega,by omega⟩
  ·rw [bc,eF,ta];exact auK YD aP
 ·right
  have:i=n:=by omega
  subst this;rw [yG (show vs.length<=i by omega)] at aP;simp only [go_sem,ya,IE,H3,show ¬(i:Int)<(i:Int) by omega];exact ⟨_,_,rfl,by simp,_,c,y,rfl,rfl,by simp only [go_sem,ya],by simp only [go_sem,ya],by simp only [go_sem,ya],by simp only [go_sem,ya],by simp only [go_sem,ya],by simp only [go_sem,ya],by simp only [go_sem,ya],by simp only [go_sem,ya],ly,gy,n7,hc,aP⟩
def auM {A V t:Nat} {y:List Int} {n:Nat} (hV:0<V) (ly:y.length=n+1) (gy:dg (y.take n)) (h:sv y=(A:Int)-t*V) (h1:A/V<=t) (h2:t<=A/V+1):
  (¬y.getD n 0<0->t=A/V/\sv y=((A%V:Nat):Int))/\(y.getD n 0<0->t=A/V+1/\sv y+V=((A%V:Nat):Int)):=by
 have fE:=xR A V;have hm:=xy A hV;have eF:=MI (l:=y) n;rw [yG (by omega),zD gy] at eF;have Kd:=jG gy;have hp:(0:Int)<1000000000^n:=ybL (by decide);generalize y.getD n 0=top at*
 generalize A/V=Q at*
 have hq:t=Q\/t=Q+1:=by omega
 constructor
 ·intro h0;have h3:0<=(1000000000:Int)^n*top:=tG (tc hp) (by omega);rcases hq with rfl | rfl
  ·grind
  ·grind
 ·intro h0;have h3:(1000000000:Int)^n*top<=-(1000000000^n):=by
   have:=vV (show top<=-1 by omega) (tc hp)
   grind
  rcases hq with rfl | rfl
  ·grind
  ·grind
def ado {y:List Int} {n:Nat} (ly:y.length=n+1) (gy:dg (y.take n)) (h0:0<=sv y) (h1:sv y<1000000000^n):y.getD n 0=0/\dg y/\sv y=dv y:=by
 have eF:=MI (l:=y) n;rw [yG (by omega),zD gy] at eF;have Kd:=jG gy;rw [yI,xn (by omega)] at Kd;have hp:(0:Int)<1000000000^n:=ybL (by decide);have EY:((1000000000^n:Nat):Int)=(1000000000:Int)^n:=by simp
 have aHK:(dv (y.take n):Int)<1000000000^n:=by omega
 have ht:y.getD n 0=0:=by
  generalize y.getD n 0=top at*
  rcases Int.lt_trichotomy top 0 with h | h | h
  ·have:=vV (show top<=-1 by omega) (tc hp)
   grind
  ·grind
  ·have:=vV (show 1<=top by omega) (tc hp)
   grind
 have hg:dg y:=by
  have e:y=y.take n++[0]:=by
   have h1:y=y.take n++y.drop n:=(xO n y).symm;have h2:y.drop n=[0]:=by
    rw [yU (by omega),xe (by omega)]
    grind
   grind
  rw [e];exact gW.2 ⟨gy,lF.2 ⟨by decide,by decide⟩⟩
 exact ⟨ht,hg,zD hg⟩
end
end
section
open Go (IntKind)
def auN {l:List Int} {i:Nat} (h:i<l.length):dv (l.drop i)=(l.getD i 0).toNat+1000000000*dv (l.drop (i+1)):=by
 rw [yU h]
 have:l[i]=l.getD i 0:=by simp_all
 rw [this];rfl
def RA (l:List Int) (i:Nat) (h:i<=l.length):dv l=dv (l.take i)+1000000000^i*dv (l.drop i):=by
 conv=>lhs;rw [<-xO i l]
 rw [mU,yI,xn h]
def auO {sx sy sV:Int} {p:Int} {bo t:Int} {yn z:Int} {szy:Int} (h1:sy+t*sV=sx+p*bo) (h2:szy=sy+p*(z-yn)) (h3:z=yn-bo):szy=sx-t*sV:=by grind
section
variable {P:aI} {L:Lib}
def auP (qJ:Has P L 301 zJ) {w:AV} {vs:List Int} {f:Int} (hw:bE w vs) (gv:dg vs) {n M m:Nat} (lv:vs.length=n) (dK:2<=n) (hnM:n<M) (Lb:M<=20000000000) (hm:m=M-n) (eN:0<vs.getD (n-1) 0) {U0:Nat}:
  ∀k st,(∃(j:Nat) (us qs:List Int),aS [8,9,10,11,12,13] st=⟨[(8,.aB 0 0 1),(9,w),(10,ab n),(11,.aB 1 0 M),(12,.aB 2 0 m),(13,ab ((j:Int)-1))],H3 qs us f,3,0⟩/\j=k/\j<=m/\us.length=M/\qs.length=m/\dg us/\dg qs/\(∀i,i<j->qs.getD i 0=0)/\
    dv us+dv qs*dv vs=U0/\dv (us.drop j)<dv vs)->
   ∃ex st',D P L (.loop [8,9,10,11,12,13] IF) st=some (ex,st')/\∃tm us qs,st'=⟨tm,H3 qs us f,3,0⟩/\ex= .exit 2/\ai tm 8= .aB 0 0 1/\ai tm 10=ab n/\ai tm 11= .aB 1 0 M/\ai tm 12= .aB 2 0 m/\us.length=M/\qs.length=m/\dg us/\dg qs/\
    dv us+dv qs*dv vs=U0/\dv us<dv vs:=by
 intro dq sq;generalize bB:aS [8,9,10,11,12,13] sq=s0;revert bB s0 sq dq;apply dI;rintro k st ⟨j,us,qs,rfl,rfl,hj,lu,lq,gu,gq,hz,aP,n7⟩
 cases j with
 | zero=>
  right
  simp only [go_sem,ya,IF,H3,show ¬(0:Int)<=((0:Nat):Int)-1 by omega];exact ⟨_,_,rfl,by simp,_,us,qs,rfl,rfl,by simp only [go_sem,ya],by simp only [go_sem,ya],by simp only [go_sem,ya],by simp only [go_sem,ya],lu,lq,gu,gq,aP,by simpa using n7⟩
 | succ j=>
  left
  obtain ⟨pre,eR⟩:∃p,p=us.take j:=⟨_,rfl⟩;obtain ⟨x,hx⟩:∃p,p=(us.drop j).take (n+1):=⟨_,rfl⟩;obtain ⟨post,fQ⟩:∃p,p=us.drop (j+(n+1)):=⟨_,rfl⟩;have lp:pre.length=j:=by rw [eR,yI];omega
  have lx:x.length=n+1:=by rw [hx,yI,xP];omega
  have lpo:M=pre.length+(n+1)+post.length:=by rw [lp,fQ,xP];omega
  have jX:us=pre++x++post:=by
   rw [eR,hx,fQ,<-vT,xq,xO,xO]
  have gpo:dg post:=by
   have:=gu;rw [jX] at this;exact (gW.1 this).2
  have gpx:=by have:=gu;rw [jX] at this;exact (gW.1 this).1
  have gx:dg x:=(gW.1 gpx).2;have X4:dg pre:=(gW.1 gpx).1;have hA:=auN (l:=us) (i:=j) (by omega);have hgj:=gY gu j;have ZA:us.drop j=x++post:=by rw [fQ,hx,<-vT,xO]
  have Al:dv (us.drop j)=dv x+1000000000^(n+1)*dv post:=by rw [ZA,mU,lx]
  have KZ:=jG gv;rw [lv] at KZ;have aX:dv (us.drop j)<1000000000*dv vs:=by omega
  have hp0:dv post=0:=by
   rcases xk (dv post) with e | e
   ·exact e
   ·have h1:=yZ (1000000000^(n+1)) e;rw [yh,xd] at h1;rw [xd] at Al;omega
  rw [hp0,xB,y8] at Al;have Ld:=fun (l:List Int) (hl:dg l) (i:Nat)=>gY hl i
  obtain ⟨v1,eO⟩:∃v:Nat,vs.getD (n-1) 0=v:=⟨(vs.getD (n-1) 0).toNat,by have:=Ld vs gv (n-1);omega⟩;obtain ⟨v2,pW⟩:∃v:Nat,vs.getD (n-2) 0=v:=⟨(vs.getD (n-2) 0).toNat,by have:=Ld vs gv (n-2);omega⟩;obtain ⟨u0,BV⟩:∃v:Nat,x.getD n 0=v:=⟨(x.getD n 0).toNat,by have:=Ld x gx n;omega⟩;obtain ⟨u1,BW⟩:∃v:Nat,x.getD (n-1) 0=v:=⟨(x.getD (n-1) 0).toNat,by have:=Ld x gx (n-1);omega⟩;obtain ⟨u2,sG⟩:∃v:Nat,x.getD (n-2) 0=v:=⟨(x.getD (n-2) 0).toNat,by have:=Ld x gx (n-2);omega⟩;have hl:fK x vs n v1 v2 u0 u1 u2:=⟨dK,by omega,lx,lv,gx,gv,eO,pW,BV,BW,sG,by omega,by rw [<-Al];exact aX⟩
  have OY:=hl.digit;have nB:0<dv vs:=by omega
  have r7:=xy (dv x) nB;obtain ⟨t,e1,ht1,YZ,ht3⟩:=aAj (P:=P) (L:=L) qJ hw hl (pre:=pre) (post:=post) (qs:=qs) (f:=f) (M:=M) (by omega) (by omega);rw [<-jX,lp] at e1;have ZC:dv us=dv pre+1000000000^j*dv x:=by
   have:=RA us j (by omega)
   rw [Al,<-eR] at this;exact this
  have X5:∀y,dv (pre++y++post)=dv pre+1000000000^j*dv y:=fun y=>by
   rw [xq,mU,mU,hp0,xB,y8,lp]
  have iV:=aca (b:=0) ZC aP;have sH:below 3 w:=p9 hw.pu;have bc:=EN (l:=qs) (i:=j) (x:=((dv x/dv vs:Nat):Int)) (by omega);have gq':dg (qs.set j ((dv x/dv vs:Nat):Int)):=MS gq ⟨tB _,uE.2 OY⟩;rw [hz j (by omega),Int.sub_zero,zD gq,zD gq'] at bc;have bc:dv (qs.set j ((dv x/dv vs:Nat):Int))=dv qs+1000000000^j*(dv x/dv vs):=by
   have EY:((1000000000^j*(dv x/dv vs):Nat):Int)=(1000000000:Int)^j*((dv x/dv vs:Nat):Int):=by rw [vj];simp
   rw [<-EY] at bc;exact yar (by rw [yal,yal,bc,yaS])
  have fin:∀(s':St) (x':List Int),aS [8,9,10,11,12,13] s'=⟨[(8,.aB 0 0 1),(9,w),(10,ab n),(11,.aB 1 0 M),(12,.aB 2 0 m),(13,ab ((j:Int)-1))],H3 (qs.set j ((dv x/dv vs:Nat):Int)) (pre++x'++post) f,3,0⟩->x'.length=n+1->dg x'->sv x'=((dv x%dv vs:Nat):Int)->
    ∃(j':Nat) (us qs:List Int),aS [8,9,10,11,12,13] s'=⟨[(8,.aB 0 0 1),(9,w),(10,ab n),(11,.aB 1 0 M),(12,.aB 2 0 m),(13,ab ((j':Int)-1))],H3 qs us f,3,0⟩/\j'=j/\j'<=m/\us.length=M/\qs.length=m/\dg us/\dg qs/\(∀i,i<j'->qs.getD i 0=0)/\dv us+dv qs*dv vs=U0/\dv (us.drop j')<dv vs:=fun s' x' hc ZB PR K2=>by
   have ak2:dv x'=dv x%dv vs:=by rw [zD PR] at K2;exact yar K2
   refine ⟨j,_,_,hc,rfl,by omega,by rw [nS,ZB];omega,by simp [lq],gW.2 ⟨gW.2 ⟨X4,PR⟩,gpo⟩,gq',fun i hi=>by rw [aid (by omega)];exact hz i (by omega),?_,?_⟩
   ·rw [X5,ak2,bc];exact iV
   ·rw [xq,List.drop_left' lp,mU,hp0,xB,y8,ak2];exact r7
  have ak3:=fun (z:Int) (hp:Hp) (ct:Nat)=>B5 (hp:=hp) (ct:=ct) (id:=2) (v:=z) (ex:=true) (l:=qs) (o:=j) (by omega)
  have svx:=zD gx;have svv:=zD gv;simp only [H3] at e1;simp only [go_sem,ya,IF,H3,show ((j+1:Nat):Int)-1=(j:Int) by omega,show (0:Int)<=(j:Int) by omega,aiU,e1];generalize mR:D P L (.loop [8,9,10,11,12,13,14,15,16] EF) _=qq;obtain ⟨ex,s,rfl,tm,bo,y,rfl,rfl,t8,t9,t10,t11,t12,t13,t14,t15,ly,gy,jj,hv⟩:=bQ mR (auJ (P:=P) (L:=L) (x:=x) (pre:=pre) (post:=post) (qs:=qs) (f:=f) (m:=m) (M:=M) hw lv lpo (by omega) gv (t:=t) (by omega) n) ⟨0,0,x,by
   rw [jX,lp]
   simp only [go_sem,ya,yb,ax,au hw.pu,ay _ hw.pu]<;>rfl,by omega,lx,gx,by omega,by simp [sv]⟩
  rw [lp] at t13;have hyn:=gY gy n;have ZW:=rQ (l:=pre++y++post) (o:=pre.length+n) (by rw [nS];omega);rw [AX (by omega),lp] at ZW;obtain ⟨z,ZX⟩:∃z,z=y.getD n 0-bo:=⟨_,rfl⟩;have E4:=fun (hp:Hp) (ct:Nat)=>B5 (hp:=hp) (ct:=ct) (id:=1) (v:=z) (ex:=false) (l:=pre++y++post) (o:=j+n) (by rw [nS];omega)
  have n5:=MY (pre:=pre) (x:=y) (post:=post) (i:=n) z (by omega);rw [lp] at n5;rw [n5] at E4;have ns:=EN (l:=y) (i:=n) (x:=z) (by omega);have NC:=auO hv ns ZX;have BU:(y.set n z).length=n+1:=by simp [ly]
  have DJ:dg ((y.set n z).take n):=by
   have:(y.set n z).take n=y.take n:=by rw [tO,tM (by simp;omega)]
   rw [this];exact Cp gy n
  rw [svx,svv] at NC;obtain ⟨s0,s1⟩:=auM nB BU DJ NC YZ ht3;have eg:(y.set n z).getD n 0=z:=aqz (by omega);rw [eg] at s0 s1;have ZY:=rQ (l:=pre++y.set n z++post) (o:=pre.length+n) (by rw [nS];omega);rw [AX (by omega),lp,eg] at ZY;generalize y.set n z=y1 at*
  have ZZ:((10^9:Int))=1000000000:=by decide
  by_cases gO:z<0
  ·obtain ⟨f1,f2⟩:=s1 gO
   simp only [go_sem,ya,yb,yh,ax,au hw.pu,ay _ hw.pu,t8,t9,t10,t11,t12,t13,t14,t15,show (j:Int)+(n:Int)=((j+n:Nat):Int) from rfl,wrapN (n:=j+n) (by omega),cM 1 0 (show j+n<M by omega),yf,ZW,<-ZX,wrap64 (n:=z) (by omega) (by omega),E4,ZY,gO];generalize Df:D P L (.loop [8,9,10,11,12,13,14,19,20] IE) _=Zv;obtain ⟨ex,s,rfl,sd,c,y2,rfl,rfl,t8,t9,t10,t11,t12,t13,t14,t19,Zx,PP,aiZ,hc,dB⟩:=bQ Df (auL (P:=P) (L:=L) (y0:=y1) (pre:=pre) (post:=post) (qs:=qs) (f:=f) (m:=m) (M:=M) (t:=(t:Int)-1) (top:=z) hw lv lpo (by omega) gv n) ⟨0,0,y1,by
    rw [lp,wrap64 (n:=(t:Int)-1) (by omega) (by omega)]
    simp only [go_sem,ya,yb,ax,au hw.pu,ay _ hw.pu]<;>rfl,by omega,BU,DJ,eg,by omega,by simp [sv]⟩
   rw [lp] at t13;have ak4:=rQ (l:=pre++y2++post) (o:=pre.length+n) (by rw [nS];omega);rw [AX (by omega),lp,aiZ] at ak4;have OW:=fun (hp:Hp) (ct:Nat)=>B5 (hp:=hp) (ct:=ct) (id:=1) (v:=z+c) (ex:=false) (l:=pre++y2++post) (o:=j+n) (by rw [nS];omega)
   have Nj:=MY (pre:=pre) (x:=y2) (post:=post) (i:=n) (z+c) (by omega);rw [lp] at Nj;rw [Nj] at OW;have Ab:=EN (l:=y2) (i:=n) (x:=z+c) (by omega);rw [aiZ,show z+c-z=c by omega,dB,svv,f2] at Ab;have K0:(y2.set n (z+c)).length=n+1:=by simp [Zx]
   have PQ:dg ((y2.set n (z+c)).take n):=by
    have:(y2.set n (z+c)).take n=y2.take n:=by rw [tO,tM (by simp;omega)]
    rw [this];exact PP
   have Z0:((dv x%dv vs:Nat):Int)<1000000000^n:=by
    have EY:((1000000000^n:Nat):Int)=(1000000000:Int)^n:=by simp
    rw [<-EY];omega
   obtain ⟨g1,g2,g3⟩:=ado K0 PQ (by rw [Ab];omega) (by rw [Ab];exact Z0)
   generalize y2.set n (z+c)=y3 at*
   have ft:(t:Int)-1=((dv x/dv vs:Nat):Int):=by rw [f1];omega
   simp only [go_sem,ya,yb,yh,ax,au hw.pu,ay _ hw.pu,t8,t9,t10,t11,t12,t13,t14,t19,show (j:Int)+(n:Int)=((j+n:Nat):Int) from rfl,wrapN (n:=j+n) (by omega),cM 1 0 (show j+n<M by omega),yf,ak4,wrap64 (n:=z+c) (by omega) (by omega),OW,cM 2 0 (show j<m by omega),ak3];rw [ft];refine ⟨_,j,rfl,by omega,fin _ y3 ?_ K0 g2 Ab⟩;rw [wrap64 (by omega) (by omega)];simp only [go_sem,ya,yb,ax,au hw.pu,ay _ hw.pu]<;>rfl
  ·obtain ⟨f1,f2⟩:=s0 gO;have Z0:((dv x%dv vs:Nat):Int)<1000000000^n:=by
    have EY:((1000000000^n:Nat):Int)=(1000000000:Int)^n:=by simp
    rw [<-EY];omega
   obtain ⟨g1,g2,g3⟩:=ado BU DJ (by rw [f2];omega) (by rw [f2];exact Z0)
   simp only [go_sem,ya,yb,yh,ax,au hw.pu,ay _ hw.pu,t8,t9,t10,t11,t12,t13,t14,t15,show (j:Int)+(n:Int)=((j+n:Nat):Int) from rfl,wrapN (n:=j+n) (by omega),cM 1 0 (show j+n<M by omega),yf,ZW,<-ZX,wrap64 (n:=z) (by omega) (by omega),E4,ZY,gO,cM 2 0 (show j<m by omega),ak3];rw [f1];refine ⟨_,j,rfl,by omega,fin _ y1 ?_ BU g2 f2⟩;rw [wrap64 (by omega) (by omega)];simp only [go_sem,ya,yb,ax,au hw.pu,ay _ hw.pu]<;>rfl
end
end
end VE
