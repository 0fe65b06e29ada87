import Derived.Test.YtjemkccfpkgopaaGreatDoorVaq
import Derived.Test.YtjemkccfpkgopaaGreatDoorVah
import Derived.Test.YtjemkccfpkgopaaGreatDoorVao
import Derived.Test.YtjemkccfpkgopaaGreatDoorVap
set_option linter.all false
set_option maxRecDepth 100000
open Bool renaming and_eq_true→yh,and_self→wT,false_and→xP,false_eq_true→yL,false_or→vH,not_false→yM,not_true→yO,true_and→xY,true_or→yaJ
open Go renaming DataW→xF,Field→uJ,FloatKind→vY,IntKind→y7,MemPlace→wq,Program→y9,TypeId→yB,Value→yg,World→yi
open Int renaming le_of_lt→td,mul_add→ybP,mul_le_mul→ybf,mul_le_mul_of_nonneg_left→vX,mul_nonneg→tJ,natAbs_natCast→vh,natCast_add→yaS,natCast_mul→vc,natCast_nonneg→tC,neg_neg→ybz,ofNat_eq_natCast→yar,ofNat_lt→uB,pow_pos→ybQ,pow_succ→tc,tdiv_eq_ediv_of_nonneg→wb,tmod_eq_emod_of_nonneg→xZ,toNat_natCast→xU,toNat_of_nonneg→yav
open Int.ofNat renaming inj→yaw
open List renaming append_assoc→xA,append_nil→wo,drop→vT,drop_drop→vS,drop_eq_getElem_cons→yS,drop_eq_nil_of_le→xh,drop_zero→yK,eq_nil_of_length_eq_zero→yo,flatMap_def→yaL,getD_eq_getElem?_getD→xf,getElem?_eq_getElem→xS,length_append→yN,length_cons→yI,length_drop→xN,length_map→yj,length_nil→yP,length_take→yy,mapM_cons→uf,map_append→xg,map_cons→xc,map_nil→vv,map_set→ybx,mem_cons→wR,mem_map→wQ,replicate→yk,set_eq_of_length_le→tP,set_eq_take_append_cons_drop→vL,take_append_drop→xQ,take_length→xB,take_of_length_le→yC,take_set→tR
open Nat renaming add_mul→wE,add_zero→y5,beq→yx,ble→yG,blt→yR,div_add_mod→xR,div_lt_iff_lt_mul→xV,eq_of_beq_eq_true→yt,eq_zero_or_pos→xq,gcd→wG,le_of_ble_eq_true→yz,le_of_lt_succ→tM,le_refl→yv,le_trans→xj,lt_of_lt_of_le→yU,min_eq_left→xm,mod_lt→xE,mul_add→xG,mul_assoc→xp,mul_comm→xJ,mul_le_mul→wu,mul_le_mul_left→yZ,mul_one→yf,mul_zero→xH,pow_add→wL,pow_le_pow_left→vW,pow_le_pow_right→yY,pow_mul→tv,pow_succ→xd,reduceAdd→yb,reduceEqDiff→ya,reduceLT→yF,reduceLeDiff→yp,reduceMul→xn,zero_add→ye
open Option renaming bind_eq_bind→vA,bind_some→xO,map_eq_some_iff→wv,pure_def→wN
open Option.some renaming injEq→yd
open Prod.mk renaming injEq→yq
namespace VE
section
open Go (IntKind)
def apC:∀(cs:List AV) (l:List Nat),sj cs=some l->cs=l.map uc/\lo 18446744073709551616 l:=by
 intro cs
 induction cs with
 | nil=>
  intro l h;simp only [sj,yd] at h;subst h;exact ⟨rfl,fun _ h=>by cases h⟩
 | cons c cs ih=>
  intro l h;unfold sj at h
  split at h
  ·grind
  ·rename_i d r mD;cases mD
   cases hb:yR d 18446744073709551616 with
   | false=>rw [hb] at h;cases h
   | true=>
    rw [hb] at h
    cases hw:sj cs with
    | none=>rw [hw] at h;cases h
    | some l'=>
     rw [hw] at h;cases h;obtain ⟨k1,k2⟩:=ih l' hw;refine ⟨by rw [k1];rfl,fun x hx=>?_⟩
     rcases wR.1 hx with rfl | hx
     ·simp_all
     ·exact k2 x hx
  ·cases h
def adb:∀{l:List Nat},Bu l=true->gW l
 | [],h=>by cases h
 | [a],h=>by
  have h0:a≠0:=fun e=>by subst e;cases h
  exact EG h0 []
 | a::b::r,h=>by
  have h1:ef (b::r)=b::r:=adb (l:=b::r) h;show ef (a::(b::r))=_
  simp only [ef] at h1 ⊢;rw [h1]
section
variable {P:aM} {L:Lib}
def avh (h:Has P L 99 D6) (Zi:L.pure 135=some JH) {s:Int} (hs:Bq s=true):bP P L (D P L) 99 [.agg [ab s,.aa]]=some (.str (aX s)):=by
 have e1:bP P L (D P L) 135 [ab s]=some (.str (aX s)):=by
  rw [jq Zi];show (bif Bq s then some (AV.str (aX s)) else none)=_
  rw [hs];rfl
 rw [aI h];simp only [go_sem,ya,yb,D6,bj,cd,ye,dh,ie,eG,e1]
end
section
open Go
variable {O:bA}
def aq7 (hO:eR O) (hN:Nu O.prog O.aE) (Zi:O.aE.pure 135=some JH) (DN:O.aE.pure 138=some AP) (Ak:O.aE.pure 139=some A5) (G3:Has O.prog O.aE 99 D6) {fn:Func} {c:Code} (lf:O.P.funcs[O.ah 99]? =some fn) (jk:fn.body=some c) (Qa:fn.ntmps=69)
  (Zf:PN 5 c) (ht:SW O.P c):∀az r,Nt az=some r->eH O 99 az r:=by
 intro az r h;unfold Nt at h
 split at h
 ·rename_i s
  cases hs:Bq s with
  | false=>rw [hs] at h;cases h
  | true=>
   rw [hs] at h;cases h;obtain ⟨k,hk⟩:=aiB (avh (P:=O.prog) (L:=O.aE) G3 Zi hs);exact sound hO hk
 ·rename_i s e n cs
  cases hw:sj cs with
  | none=>rw [hw] at h;cases h
  | some l=>
   rw [hw] at h;simp only at h
   cases hb:(yx l.length n&&(yG n 4000000000&&(Bu l&&yG 9223372036854775808 (sN l)))) with
   | false=>rw [hb] at h;cases h
   | true=>
    rw [hb] at h;simp only [yh] at hb;obtain ⟨h1,h2,h3,h4⟩:=hb;obtain ⟨rfl,bk⟩:=apC cs l hw;have h1:=yt h1;subst h1;have h2:=yz h2;have h4:=yz h4;have h3:=adb h3;rw [SU] at h4 h;have aZ:=mj bk;have key:=fun (s z:Int) (hz:z.natAbs=bv 18446744073709551616 l) (hs:s=if z<0 then -1 else 1)=>
     ata hO hN DN Ak G3.code lf jk Qa Zf ht (s:=s) (z:=z) (e:=e) (l:=l) (.inr ⟨e,l,rfl,bk,h3,hz.symm,hs,by omega⟩) (by omega) h2 (by omega)
    split at h
    ·cases h
     have:=key 1 (bv 18446744073709551616 l:Nat) (by simp) (by rw [yD (by omega)])
     exact this
    ·cases h
     have:=key (-1) (-(bv 18446744073709551616 l:Nat):Int) (by simp) (by rw [yT (by omega)])
     rw [mP (by omega)] at this
     grind
    ·cases h
 ·cases h
end
end
section
open Go
def TB (L:Lib) (n:Nat) (sp:List AV->Option AV):Lib:=⟨fun i=>bif yx i n then some sp else L.pure i,L.heap⟩
def aq8 {O:bA} (hO:eR O) {n:Nat} {sp:List AV->Option AV} (h:∀az r,sp az=some r->eH O n az r):eR (O.zE (TB O.aE n sp)) where
 hint:=hO.hint
 mixed:=hO.mixed
 prog:=hO.prog
 aE i Qm az r hi hs:=by
  show eH O i az r
  simp only [TB] at hi
  cases hb:yx i n with
  | true=>
   simp_all
  | false=>
   rw [hb] at hi;exact hO.aE i Qm az r hi hs
 FI i Qm hp ct az v ak aP hi hs:=acR (hO.FI i Qm hp ct az v ak aP hi hs)
end
section
open Go
section
variable {H:Type} {enc:yB×yg->H} {P:y9} {w:yi} {base:Nat} {sp:Nat->Bool} {held:Bool}
def mapM_mem {α β:Type} {f:α->Option β}:∀{l:List α} {r:List β},l.mapM f=some r->∀y,y∈r->∃x,f x=some y
 | [],r,h,y,hy=>by simp only [List.mapM_nil,wN,yd] at h;subst h;cases hy
 | x::l,r,h,y,hy=>by
  rw [uf] at h
  cases h1:f x with
  | none=>simp [h1] at h
  | some z=>
   cases h2:l.mapM f with
   | none=>simp [h1,h2] at h
   | some zs=>
    simp only [h1,h2,xO,vA,wN,yd] at h;subst h;rcases wR.1 hy with rfl | hy
    ·exact ⟨x,h1⟩
    ·exact mapM_mem h2 y hy
def Rd (enc:yB×yg->H) (P:y9) (w:yi) (base:Nat) (sp:Nat->Bool) (held:Bool) (t:yB) (d:xF H):Prop:=∃bD cs ps,DataW.trod enc P w base sp held bD t cs=some (d,ps)
def ayW {t:yB} {k:y7} {d:xF H} {n:Nat} (ht:P.underlying t=some (.int k)) (h:Rd enc P w base sp held t d):∃z,cV P (n+1) t d=[.int k z]/\(Lit.int k z).wf=true:=by
 obtain ⟨bD,cs,ps,h⟩:=h
 cases bD with
 | zero=>simp [DataW.trod] at h
 | succ bD=>
  unfold DataW.trod at h
  split at h
  all_goals first
   | (rename_i hu;rw [ht] at hu;cases hu;done)
   | skip
  ·rename_i k1 k2 z hu;rw [ht] at hu;injection hu with hu
   injection hu with hu
   subst hu
   split at h
   ·rename_i hk;simp only [yd,yq] at h;obtain ⟨rfl,rfl⟩:=h;exact ⟨z,by simp only [cV,ht],hk.2⟩
   ·cases h
  all_goals (cases h;done)
def ate {t e:yB} {d:xF H} {n:Nat} (ht:P.underlying t=some (.slice e)) (h:Rd enc P w base sp held t d):
  cV P (n+1) t d=[.aa]\/∃(x:Bool) (jJ:List (xF H)),cV P (n+1) t d=[.aB x jJ.length (jJ.flatMap fun y=>cV P n e y)]/\∀y,y∈jJ->Rd enc P w base sp held e y:=by
 obtain ⟨bD,cs,ps,h⟩:=h
 cases bD with
 | zero=>simp [DataW.trod] at h
 | succ bD=>
  unfold DataW.trod at h
  split at h
  all_goals first
   | (rename_i hu;rw [ht] at hu;cases hu;done)
   | skip
  ·simp only [yd,yq] at h;obtain ⟨rfl,rfl⟩:=h;exact .inl (by simp only [cV,ht])
  ·rename_i e' a len cap hu;rw [ht] at hu;injection hu with hu
   injection hu with hu
   subst hu;simp only at h
   split at h
   case isFalse=>cases h
   cases h1:(List.range len).mapM fun i=>(w.cells? base (a.add (i*P.cellsOf e)) (P.cellsOf e)).bind (DataW.trod enc P w base sp held bD e) with
   | none=>rw [h1] at h;simp at h
   | some jJ=>
    rw [h1] at h;simp only [xO] at h;obtain ⟨rest,_,h⟩:=wv.1 h;simp only [yq] at h;obtain ⟨rfl,rfl⟩:=h;refine .inr ⟨(rest.map (·.1)).isEmpty,jJ.map (·.1),by simp only [cV,ht,yj],?_⟩;intro y hy;obtain ⟨p,hp,rfl⟩:=wQ.1 hy;obtain ⟨i,hi⟩:=mapM_mem h1 p hp;obtain ⟨dX,_,jQ⟩:=Option.bind_eq_some_iff.1 hi;exact ⟨bD,dX,p.2,jQ⟩
  all_goals (cases h;done)
def aq9 {t:yB} {fs:Array uJ} {d:xF H} {n:Nat} (ht:P.underlying t=some (.struct fs)) (h:Rd enc P w base sp held t d):
  ∃ds:List (xF H),ds.length=fs.toList.length/\cV P (n+1) t d=(fs.toList.zip ds).flatMap (fun x=>cV P n x.1.type x.2)/\∀i (h1:i<fs.toList.length) (h2:i<ds.length),Rd enc P w base sp held fs.toList[i].type ds[i]:=by
 obtain ⟨bD,cs,ps,h⟩:=h
 cases bD with
 | zero=>simp [DataW.trod] at h
 | succ bD=>
  unfold DataW.trod at h
  split at h
  all_goals first
   | (rename_i hu;rw [ht] at hu;cases hu;done)
   | (cases h;done)
   | skip
  rename_i cs x1 Lw fs' hu;rw [ht] at hu;injection hu with hu
  injection hu with hu
  subst hu
  split at h
  case isFalse=>cases h
  obtain ⟨xs,h1,h⟩:=wv.1 h;simp only [yq] at h;obtain ⟨rfl,rfl⟩:=h;refine ⟨xs.map (·.1),by simp [MH h1],by simp only [cV,ht],?_⟩;have key:∀{r:List uJ} {xs:List (xF H×List wq)},r.mapM (fun f=>DataW.trod enc P w base sp held bD f.type ((cs.drop f.offset).take (P.cellsOf f.type)))=some xs->
    ∀i (h1:i<r.length) (h2:i<(xs.map (·.1)).length),Rd enc P w base sp held r[i].type (xs.map (·.1))[i]:=by
   intro r
   induction r with
   | nil=>intro xs h i h1;exact absurd h1 (Nat.not_lt_zero i)
   | cons f r ih=>
    intro xs h i h1 h2;rw [uf] at h
    cases g1:DataW.trod enc P w base sp held bD f.type ((cs.drop f.offset).take (P.cellsOf f.type)) with
    | none=>simp [g1] at h
    | some x=>
     cases g2:r.mapM (fun f=>DataW.trod enc P w base sp held bD f.type ((cs.drop f.offset).take (P.cellsOf f.type))) with
     | none=>simp [g1,g2] at h
     | some ys=>
      simp only [g1,g2,xO,vA,wN,yd] at h;subst h
      cases i with
      | zero=>exact ⟨bD,_,x.2,g1⟩
      | succ i=>exact ih g2 i (by simpa using h1) (by simpa using h2)
  exact key h1
def atf {t e:yB} {k:Nat} {d:xF H} {n:Nat} (ht:P.underlying t=some (.array k e)) (h:Rd enc P w base sp held t d):
  ∃ds:List (xF H),ds.length=k/\cV P (n+1) t d=ds.flatMap (fun x=>cV P n e x)/\∀y,y∈ds->Rd enc P w base sp held e y:=by
 obtain ⟨bD,cs,ps,h⟩:=h
 cases bD with
 | zero=>simp [DataW.trod] at h
 | succ bD=>
  unfold DataW.trod at h
  split at h
  all_goals first
   | (rename_i hu;rw [ht] at hu;cases hu;done)
   | (cases h;done)
   | skip
  rename_i cs x1 Lw k' e' hu;rw [ht] at hu;injection hu with hu
  injection hu with rB AE
  subst rB;subst AE
  split at h
  case isFalse=>cases h
  obtain ⟨xs,h1,h⟩:=wv.1 h;simp only [yq] at h;obtain ⟨rfl,rfl⟩:=h;refine ⟨xs.map (·.1),by simp [MH h1],by simp only [cV,ht],fun y hy=>?_⟩;obtain ⟨p,hp,rfl⟩:=wQ.1 hy;obtain ⟨i,hi⟩:=mapM_mem h1 p hp;exact ⟨bD,_,p.2,hi⟩
end
end
section
open Go
inductive Ty
 | int (k:y7)
 | bU (k:vY)
 | bool
 | str
 | sl (e:Ty)
 | nil
 | cat (a b:Ty)
 | ar (n:Nat) (e:Ty)
def mI:Ty->List AV->Prop
 | .int k,l=>∃z,l=[.int k z]/\(Lit.int k z).wf=true
 | .bU k,l=>∃b,l=[.bU k b]
 | .bool,l=>∃b,l=[.bool b]
 | .str,l=>∃s:List Nat,l=[.str s]/\s.length<9223372036854775808/\∀c,c∈s->c<256
 | .sl e,l=>l=[.aa]\/∃(x:Bool) (ps:List (List AV)),l=[.aB x ps.length ps.flatten]/\∀p,p∈ps->mI e p
 | .nil,l=>l=[]
 | .cat a b,l=>∃x y,l=x++y/\mI a x/\mI b y
 | .ar n e,l=>∃ps:List (List AV),ps.length=n/\l=ps.flatten/\∀p,p∈ps->mI e p
def nd:List (Option Ty)->Option Ty
 | []=>some .nil
 | some a::r=>match nd r with
  | some b=>some (.cat a b)
  | none=>none
 | none::_=>none
def gC (P:y9):Nat->yB->Option Ty
 | 0,_=>none
 | n+1,t=>
  match P.underlying t with
  | some .bool=>some .bool
  | some (.int k)=>some (.int k)
  | some (.float k)=>some (.bU k)
  | some .string=>some .str
  | some (.slice e)=>(gC P n e).map .sl
  | some (.struct fs)=>nd (fs.toList.map fun f=>gC P n f.type)
  | some (.array k e)=>(gC P n e).map (.ar k)
  | _=>none
section
variable {H:Type} {enc:yB×yg->H} {P:y9} {w:yi} {base:Nat} {sp:Nat->Bool} {held:Bool}
def ayX {t:yB} {k:vY} {d:xF H} {n:Nat} (ht:P.underlying t=some (.float k)) (h:Rd enc P w base sp held t d):∃b,cV P (n+1) t d=[.bU k b]:=by
 obtain ⟨bD,cs,ps,h⟩:=h
 cases bD with
 | zero=>simp [DataW.trod] at h
 | succ bD=>
  unfold DataW.trod at h
  split at h
  all_goals first
   | (rename_i hu;rw [ht] at hu;cases hu;done)
   | skip
  ·rename_i k1 k2 z hu;rw [ht] at hu;injection hu with hu
   injection hu with hu
   subst hu
   split at h
   ·simp only [yd,yq] at h;obtain ⟨rfl,rfl⟩:=h;exact ⟨z,by simp only [cV,ht]⟩
   ·cases h
  all_goals (cases h;done)
def avi {t:yB} {d:xF H} {n:Nat} (ht:P.underlying t=some .bool) (h:Rd enc P w base sp held t d):∃b,cV P (n+1) t d=[.bool b]:=by
 obtain ⟨bD,cs,ps,h⟩:=h
 cases bD with
 | zero=>simp [DataW.trod] at h
 | succ bD=>
  unfold DataW.trod at h
  split at h
  all_goals first
   | (rename_i hu;rw [ht] at hu;cases hu;done)
   | skip
  ·simp only [yd,yq] at h;obtain ⟨rfl,rfl⟩:=h;rename_i b _;exact ⟨b,by simp only [cV,ht]⟩
  all_goals (cases h;done)
def ayY {t:yB} {d:xF H} {n:Nat} (ht:P.underlying t=some .string) (h:Rd enc P w base sp held t d):
  ∃s:List Nat,cV P (n+1) t d=[.str s]/\s.length<9223372036854775808/\∀c,c∈s->c<256:=by
 obtain ⟨bD,cs,ps,h⟩:=h
 cases bD with
 | zero=>simp [DataW.trod] at h
 | succ bD=>
  unfold DataW.trod at h
  split at h
  all_goals first
   | (rename_i hu;rw [ht] at hu;cases hu;done)
   | skip
  ·rename_i s hu
   split at h
   ·rename_i hs;simp only [yd,yq] at h;obtain ⟨rfl,rfl⟩:=h;refine ⟨_,by simp only [cV,ht];rfl,?_,fun c hc=>?_⟩
    ·simp only [yj,Array.length_toList];have h1:s.size<=9223372036854775807:=hs;have h2:s.data.size=s.size:=rfl;omega
    ·obtain ⟨b,_,rfl⟩:=wQ.1 hc;exact b.toNat_lt
   ·cases h
  all_goals (cases h;done)
def aco {n:Nat} (ih:∀{t:yB} {T:Ty} {d:xF H},gC P n t=some T->Rd enc P w base sp held t d->mI T (cV P n t d)):
  ∀(fs:List uJ) (ds:List (xF H)) (T:Ty),nd (fs.map fun f=>gC P n f.type)=some T->ds.length=fs.length->(∀i (h1:i<fs.length) (h2:i<ds.length),Rd enc P w base sp held fs[i].type ds[i])->
   mI T ((fs.zip ds).flatMap fun x=>cV P n x.1.type x.2)
 | [],ds,T,hT,_,_=>by
  simp only [vv,nd,yd] at hT;subst hT;simp [mI]
 | f::fs,[],T,_,hl,_=>by simp at hl
 | f::fs,d::ds,T,hT,hl,hr=>by
  simp only [xc] at hT
  cases h1:gC P n f.type with
  | none=>simp [h1,nd] at hT
  | some a=>
   cases h2:nd (fs.map fun f=>gC P n f.type) with
   | none=>simp [h1,h2,nd] at hT
   | some b=>
    simp only [h1,h2,nd,yd] at hT;subst hT;simp only [List.zip_cons_cons,List.flatMap_cons];exact ⟨_,_,rfl,ih h1 (hr 0 (by simp) (by simp)),aco ih fs ds b h2 (by simpa using hl) (fun i h1 h2=>hr (i+1) (by simpa using h1) (by simpa using h2))⟩
def aiQ:∀(n:Nat) {t:yB} {T:Ty} {d:xF H},gC P n t=some T->Rd enc P w base sp held t d->mI T (cV P n t d)
 | 0,t,T,d,hT,_=>by simp [gC] at hT
 | n+1,t,T,d,hT,hr=>by
  have ih:=@aiQ n
  cases hu:P.underlying t with
  | none=>simp [gC,hu] at hT
  | some u=>
   cases u with
   | slice e=>
    simp only [gC,hu] at hT;obtain ⟨E,hE,rfl⟩:=wv.1 hT
    rcases ate (n:=n) hu hr with h | ⟨x,jJ,h,hm⟩
    ·exact .inl h
    ·refine .inr ⟨x,jJ.map (cV P n e),by rw [h,yj,yaL],fun p hp=>?_⟩;obtain ⟨y,hy,rfl⟩:=wQ.1 hp;exact ih hE (hm y hy)
   | struct fs=>
    simp only [gC,hu] at hT;obtain ⟨ds,e1,e2,e3⟩:=aq9 (n:=n) hu hr;rw [e2];exact aco ih fs.toList ds T hT e1 e3
   | array k e=>
    simp only [gC,hu] at hT;obtain ⟨E,hE,rfl⟩:=wv.1 hT;obtain ⟨ds,e1,e2,e3⟩:=atf (n:=n) hu hr;refine ⟨ds.map (cV P n e),by simp [e1],by rw [e2,yaL],fun p hp=>?_⟩;obtain ⟨y,hy,rfl⟩:=wQ.1 hp;exact ih hE (e3 y hy)
   | int k=>
    simp only [gC,hu,yd] at hT;subst hT;exact ayW hu hr
   | float k=>
    simp only [gC,hu,yd] at hT;subst hT;exact ayX hu hr
   | bool=>
    simp only [gC,hu,yd] at hT;subst hT;exact avi hu hr
   | string=>
    simp only [gC,hu,yd] at hT;subst hT;exact ayY hu hr
   | _=>simp [gC,hu] at hT
def Gp:Ty->List AV->AV
 | .nil,l | .cat _ _,l | .ar _ _,l=> .agg l
 | _,l=>l.headD .undef
def ara:∀{l:List (Option Ty)} {T:Ty},nd l=some T->∀x,Gp T x= .agg x
 | [],T,h=>by simp only [nd,yd] at h;subst h;exact fun _=>rfl
 | none::r,T,h=>by simp [nd] at h
 | some a::r,T,h=>by
  cases h1:nd r with
  | none=>simp [nd,h1] at h
  | some b=>
   simp only [nd,h1,yd] at h;subst h;exact fun _=>rfl
def aAO {n:Nat} {t:yB} {T:Ty} {d:xF H} (hT:gC P n t=some T):lF P n t d=Gp T (cV P n t d):=by
 cases n with
 | zero=>simp [gC] at hT
 | succ n=>
  cases hu:P.underlying t with
  | none=>simp [gC,hu] at hT
  | some u=>
   cases u with
   | slice e=>
    simp only [gC,hu] at hT;obtain ⟨E,hE,rfl⟩:=wv.1 hT;simp only [lF,hu,Gp]
   | struct fs=>
    simp only [gC,hu] at hT;rw [ara hT];simp only [lF,hu]
   | array k e=>
    simp only [gC,hu] at hT;obtain ⟨E,hE,rfl⟩:=wv.1 hT;simp only [lF,hu,Gp]
   | _=>
    simp only [gC,hu,yd,reduceCtorEq] at hT<;>
    (subst hT
     simp only [lF,hu,Gp])
def JP:List Ty->List (List AV)->List AV
 | T::Ts,l::ls=>Gp T l::JP Ts ls
 | _,_=>[]
def aeh {n:Nat}:∀{ts:List yB} {Ts:List Ty} {vs:List yg} {ds:List (xF H)} {ps:List wq},(ts.map (gC P n))=Ts.map some->DataW.TrodAll enc P w base sp held ts vs ds ps->
  ∃ls,b7 mI Ts ls/\zO P n ts ds=JP Ts ls/\ds.length=ts.length
 | [],[],[],[],ps,_,_=>⟨[],trivial,rfl,rfl⟩
 | t::ts,T::Ts,v::vs,d::ds,ps,hT,⟨p,q,⟨bD,h1⟩,h2,_⟩=>by
  simp only [xc,List.cons.injEq] at hT;obtain ⟨ls,k1,k2,k3⟩:=aeh hT.2 h2;exact ⟨cV P n t d::ls,⟨aiQ n hT.1 ⟨bD,_,_,h1⟩,k1⟩,by simp only [zO,JP,k2,aAO hT.1],by simp [k3]⟩
 | [],_::_,_,_,_,h,_=>by simp at h
 | _::_,[],_,_,_,h,_=>by simp at h
 | [],[],_::_,_,_,_,h=>by simp [DataW.TrodAll] at h
 | [],[],[],_::_,_,_,h=>by simp [DataW.TrodAll] at h
 | _::_,_,[],_,_,_,h=>by simp [DataW.TrodAll] at h
 | _::_,_,_::_,[],_,_,h=>by simp [DataW.TrodAll] at h
def ayZ {α β:Type} {p:α->β->Prop} {a:α}:∀{l:List β},b7 p [a] l->∃x,l=[x]/\p a x
 | [x],h=>⟨x,rfl,h.1⟩
 | [],h=>h.elim
 | _::_::_,h=>h.2.elim
def ay0 {α β:Type} {p:α->β->Prop} {a b:α}:∀{l:List β},b7 p [a,b] l->∃x y,l=[x,y]/\p a x/\p b y
 | x::l,h=>let ⟨y,h1,h2⟩:=ayZ h.2;⟨x,y,by rw [h1],h.1,h2⟩
 | [],h=>h.elim
end
end
section
open Go (IntKind)
def IW (n:Nat):10^n<=2^(4*n):=by
 rw [tv];exact vW (by decide) n
def arb {b:Nat} {r:List Nat} (h:dn (b::r)=true):48<=b/\b<=57:=by
 simp only [dn,yh] at h
 simp_all
section
variable {P:aM} {L:Lib}
def aiR (h:Tx P L) {ds:List Nat} {N:Nat} (hD:cT ds 0=some N) (hl:ds.length<=4000000000) {neg:Bool} {o1 o2:AV}:
  ∀m st,(∃(pre rest:List Nat) (a:Nat) (s:Int) (w:AV),aJ [0,2,3,4] st=⟨[(0,.str rest),(2,.ptr 0 0),(3,.bool neg),(4,.ptr 1 0)],[(1,.cells true true true 2 [ab s,w]),(0,.cells true true true 2 [o1,o2])],2,0⟩/\ds=pre++rest/\cT pre 0=some a/\dC s w a/\rest.length=m)->
   ∃ex st',D P L (.loop [0,2,3,4] E4) st=some (ex,st')/\∃tm s w,st'=⟨tm,[(1,.cells true true true 2 [ab s,w]),(0,.cells true true true 2 [o1,o2])],2,0⟩/\ex= .exit 0/\af tm 2= .ptr 0 0/\af tm 3= .bool neg/\af tm 4= .ptr 1 0/\dC s w N:=by
 intro dq sq;generalize a8:aJ [0,2,3,4] sq=s0;revert a8 s0 sq dq;apply cY;rintro m st ⟨pre,rest,a,s,w,rfl,Eh,fj,hn,rfl⟩;obtain ⟨l1,u1⟩:=hn.aY;have ml:=hD;rw [Eh,II,fj] at ml;have ml:cT rest a=some N:=ml;have hlen:pre.length+rest.length<=4000000000:=by rw [Eh,yN] at hl;exact hl
 by_cases h0:rest.length=0
 ·right
  have hr:rest=[]:=yo h0;subst hr
  have:a=N:=by simpa [cT] using ml
  subst this;simp only [go_sem,E4,yP,show ¬(0:Int)<((0:Nat):Int) by omega];exact ⟨_,_,rfl,by simp,_,s,w,rfl,rfl,by simp only [go_sem,ya],by simp only [go_sem,ya],by simp only [go_sem,ya],hn⟩
 ·left
  obtain ⟨n,Az⟩:∃n,n=min 18 rest.length:=⟨_,rfl⟩;have ajZ:(if (rest.length:Int)<18 then (rest.length:Int) else 18)=(n:Int):=by split<;>omega
  have ji:rest.take n++rest.drop n=rest:=xQ n rest;obtain ⟨a',DY⟩:∃a',cT (rest.take n) a=some a':=by
   rw [<-ji,II] at ml
   cases hq:cT (rest.take n) a with
   | none=>rw [hq] at ml;cases ml
   | some a'=>exact ⟨a',rfl⟩
  obtain ⟨v,hv⟩:∃v,cT (rest.take n) 0=some v:=by
   have:∀(l:List Nat) (x y b:Nat),cT l x=some y->∃z,cT l b=some z:=by
    intro l
    induction l with
    | nil=>intro x y b _;exact ⟨b,rfl⟩
    | cons c l ih=>
     intro x y b hh;simp only [cT] at hh ⊢
     cases hb:(yG 48 c&&yG c 57) with
     | false=>rw [hb] at hh;cases hh
     | true=>rw [hb] at hh;exact ih _ _ _ hh
   exact this _ _ _ 0 DY
  have alz:=as8 (a:=a) hv;have htl:(rest.take n).length=n:=by rw [yy];omega
  rw [htl,DY,yd] at alz;have Zj:=SV hv;rw [htl] at Zj;have aI1:v<1000000000000000000:=yU Zj (yY (n:=10) (by decide) (show n<=18 by omega));have e1:=ave (P:=P) h.Zb (f:=D P L) (s:=rest.take n) (by omega) (by omega) hv;obtain ⟨t1,t2⟩:=DL h.toNu (z:=10) (by decide) (by decide);obtain ⟨t3,t4⟩:=DL h.toNu (z:=(v:Int)) (by omega) (by omega);obtain ⟨p,e2,hp⟩:=aCt h.toNu h.Zd t2 (K:=4) (k:=n) (by unfold Bd;decide) (by omega) (by omega)
  have halt:=SV fj;have ba:Bd (4*pre.length) (a:Int):=yU halt (IW _);have bp:Bd (4*n+1) ((10:Int)^n):=Bd.pow (k:=4) (by unfold Bd;decide) n
  obtain ⟨q,e3,hq⟩:=BS h.toNu (v:= .agg [ab s,w]) ⟨s,w,rfl,hn⟩ hp (K:=4*pre.length+4*n+1) (ba.mono (by omega)) (bp.mono (by omega)) (by omega);have bv':Bd (4*n) (v:Int):=yU Zj (IW _);obtain ⟨r,e4,hr⟩:=KS h.toNu hq t4 (K:=4*pre.length+4*n+1) ((ba.mul bp).mono (by omega)) (bv'.mono (by omega)) (by omega);have aT:(a:Int)*10^n+(v:Int)=(a':Int):=by
   rw [alz]
   simp
  rw [aT] at hr;obtain ⟨s2,w2,rfl,h2⟩:=hp;obtain ⟨s3,w3,rfl,h3⟩:=hq;obtain ⟨s4,w4,rfl,h4⟩:=hr;obtain ⟨l2,u2⟩:=h2.aY;obtain ⟨l3,u3⟩:=h3.aY;obtain ⟨l4,u4⟩:=h4.aY;have un:=zy;have c1:iB rest (some 0) (some n)=some (.str (rest.take n)):=by rw [lz (by omega) (by omega),yK]
  have c2:iB rest (some n) (some rest.length)=some (.str (rest.drop n)):=by rw [lz (by omega) (by omega),xB]
  simp only [go_sem,ya,E4,show (0:Int)<(rest.length:Nat) by omega,aiH,ad2,ajZ,eQ,ff,dJ,c1,c2,e1,cy,t1,t3,cF,u1.an,u2.an,u3.an,un.an,e2,e3,e4,bX,cy,yK,eh u4];refine ⟨_,(rest.drop n).length,rfl,by rw [xN];omega,pre++rest.take n,rest.drop n,a',s4,w4,by simp only [go_sem,ya,yb,av],by rw [xA,ji];exact Eh,by rw [II,fj];exact DY,h4,rfl⟩
def R4 {b:Nat} {r:List Nat} (h:48<=b):gN [45] (b::r)=false:=by
 show (yx 45 b&&true)=false
 rw [hX (by omega)];rfl
def KU (h:Tx P L) {z:Int} (hz:(aX z).length<=4000000000):∃r,aj P L 110 [.str (aX z)] r/\cN r z:=by
 have hN:=CI z.natAbs;have un:=zy;have Av:(aD z.natAbs).length<=4000000000:=by
  by_cases h0:z<0
  ·rw [mP h0] at hz;simp at hz;omega
  ·rw [<-nK,yD h0] at hz;simpa using hz
 have ba:Bd (4*(aD z.natAbs).length) (z.natAbs:Int):=yU (SV hN) (IW _);by_cases h0:z<0
 ·have hs:aX z=45::aD z.natAbs:=mP h0;have e1:bP P L (D P L) 152 [.str (45::aD z.natAbs),.str [45]]=some (.bool true):=by rw [jq h.alt];rfl
  have e2:bP P L (D P L) 153 [.str (45::aD z.natAbs),.str [45]]=some (.str (aD z.natAbs)):=by rw [jq h.Za];rfl
  have jc:∃s w r,aj P L 110 [.str (aX z)] r/\dC s w (z.natAbs:Int)/\aj P L 147 [.agg [ab s,w]] r/\cN r (-(z.natAbs:Int)):=by
   rw [hs];unfold aj;rw [aI h.alv];simp only [go_sem,ya,yb,Ol,bj,e1,e2,un.pu,un.one,eh un];generalize hq:D P L (.loop [0,2,3,4] E4) _=q;obtain ⟨ex,st,rfl,tm,s,w,rfl,rfl,t2,t3,t4,h5⟩:=bq hq (aiR (P:=P) (L:=L) h hN Av (neg:=true) (o1:= .int .i64 0) (o2:= .aa) (aD z.natAbs).length) ⟨[],aD z.natAbs,0,0,.aa,by simp only [go_sem,ya,yb,av]<;>rfl,rfl,rfl,.inl ⟨rfl,rfl,by decide,by decide⟩,rfl⟩
   obtain ⟨l5,u5⟩:=h5.aY;obtain ⟨r,e3,hr⟩:=Gn h.toNu (v:= .agg [ab s,w]) ⟨s,w,rfl,h5⟩ (K:=4*(aD z.natAbs).length) ba (by omega);have bJ:=hr;obtain ⟨s6,w6,rfl,h6⟩:=hr;obtain ⟨l6,u6⟩:=h6.aY;refine ⟨s,w,_,?_,h5,e3,bJ⟩;simp only [go_sem,ya,yb,av,t2,t3,t4,cy,cF,u5.an,e3,bX,fB,fD,cy,yK,mY u6,eh u6]
  obtain ⟨s,w,r,g1,_,_,g2⟩:=jc;rw [show -((z.natAbs:Nat):Int)=z by omega] at g2;exact ⟨r,g1,g2⟩
 ·have hs:aX z=aD z.natAbs:=by rw [<-nK,yD h0];rfl
  obtain ⟨b,r0,hb,mC,hb2⟩:=EK z.natAbs;have e1:bP P L (D P L) 152 [.str (aD z.natAbs),.str [45]]=some (.bool false):=by
   rw [jq h.alt,hb];show some (AV.bool (gN [45] (b::r0)))=_
   rw [R4 mC]
  have e2:bP P L (D P L) 153 [.str (aD z.natAbs),.str [45]]=some (.str (aD z.natAbs)):=by
   rw [jq h.Za,hb];show some (AV.str (bif gN [45] (b::r0) then _ else _))=_
   rw [R4 mC];rfl
  have jc:∃s w,aj P L 110 [.str (aX z)] (.agg [ab s,w])/\dC s w (z.natAbs:Int):=by
   rw [hs];unfold aj;rw [aI h.alv];simp only [go_sem,ya,yb,Ol,bj,e1,e2,un.pu,un.one,eh un];generalize hq:D P L (.loop [0,2,3,4] E4) _=q;obtain ⟨ex,st,rfl,tm,s,w,rfl,rfl,t2,t3,t4,h5⟩:=bq hq (aiR (P:=P) (L:=L) h hN Av (neg:=false) (o1:= .int .i64 0) (o2:= .aa) (aD z.natAbs).length) ⟨[],aD z.natAbs,0,0,.aa,by simp only [go_sem,ya,yb,av]<;>rfl,rfl,rfl,.inl ⟨rfl,rfl,by decide,by decide⟩,rfl⟩
   obtain ⟨l5,u5⟩:=h5.aY;refine ⟨s,w,?_,h5⟩;simp only [go_sem,ya,yb,av,t2,t3,t4,cy,fB,fD,cy,yK,mY u5,eh u5]
  obtain ⟨s,w,g1,g2⟩:=jc;rw [show ((z.natAbs:Nat):Int)=z by omega] at g2;exact ⟨_,g1,s,w,rfl,g2⟩
def IA (b:Nat) (r:List Nat) (c:Nat):gN [c] (b::r)=yx c b:=by
 show (yx c b&&true)=_
 grind
def abL:∀(l r:List Nat) (k:Nat),(∀x,x∈l->x≠47)->me [47] (l++47::r) k=some (k+l.length)
 | [],r,k,_=>by
  show (bif gN [47] (47::r) then some k else _)=_
  rw [IA];rfl
 | b::l,r,k,h=>by
  show (bif gN [47] (b::(l++47::r)) then some k else me [47] (l++47::r) (k+1))=_
  rw [IA,hX (fun e=>h b (by simp) e.symm),yV,abL l r (k+1) (fun x hx=>h x (by simp [hx])),yI]
  grind
def index_none:∀(l:List Nat) (k:Nat),(∀x,x∈l->x≠47)->me [47] l k=none
 | [],k,_=>rfl
 | b::l,k,h=>by
  show (bif gN [47] (b::l) then some k else me [47] l (k+1))=_
  rw [IA,hX (fun e=>h b (by simp) e.symm),yV,index_none l (k+1) (fun x hx=>h x (by simp [hx]))]
def aei:∀{l:List Nat},dn l=true->∀x,x∈l->48<=x/\x<=57
 | [],_,x,hx=>by simp at hx
 | b::l,h,x,hx=>by
  have h1:=arb h;simp only [dn,yh] at h;rcases wR.1 hx with rfl | hx
  ·grind
  ·exact aei h.2 x hx
def an8 (z:Int):∀x,x∈aX z->x≠47:=fun x hx=>by
 rw [<-nK] at hx;rcases List.mem_append.1 hx with h | h
 ·grind
 ·have:=aei (Iy _) x h;omega
def m62 (h:Tx P L) {a:Rat} (hl:(RT a).length<4000000000):∃r,aj P L 62 [.str (RT a)] r/\dI r a:=by
 have GF:=an8 a.num;unfold RT at hl ⊢;by_cases hd:a.den=1
 ·rw [yT hd,wo] at hl ⊢;obtain ⟨p,e1,hp⟩:=KU h (z:=a.num) (by omega);obtain ⟨r,e2,hr⟩:=Y9 h.toFr' hp;rw [<-SS a hd] at hr;have bJ:=hr;obtain ⟨s1,w1,rfl,h1⟩:=hp;obtain ⟨s2,w2,s3,w3,rfl,h2,h3⟩:=hr;obtain ⟨l1,u1⟩:=h1.aY;obtain ⟨l2,u2⟩:=h2.aY;obtain ⟨l3,u3⟩:=h3.aY;have e0:bP P L (D P L) 109 [.str (aX a.num),.str [47]]=some (.ae [.str (aX a.num),.str [],.bool false]):=by
   rw [jq h.Zc];show (bif yR (aX a.num).length 4294967281 then (match me [47] (aX a.num) 0 with | some i=>_ | none=>some (AV.ae [.str (aX a.num),.str [],.bool false])) else none)=_
   rw [kP (by omega),index_none _ _ GF];rfl
  refine ⟨_,?_,bJ⟩;unfold aj;rw [aI h.QN];simp only [go_sem,ya,yb,GO,bj,e0,e1,bX,u1.an,cF,e2,mZ u2 u3,fB,fD,yK,iK,nc u2 u3]
 ·rw [yD hd] at hl ⊢;simp only [yN,yI] at hl;obtain ⟨p,e1,hp⟩:=KU h (z:=a.num) (by omega);obtain ⟨q,e2,hq⟩:=KU h (z:=(a.den:Int)) (by rw [ll];omega);rw [ll] at e2;obtain ⟨s1,w1,rfl,h1⟩:=hp;obtain ⟨s2,w2,rfl,h2⟩:=hq;obtain ⟨l1,u1⟩:=h1.aY;obtain ⟨l2,u2⟩:=h2.aY;have e0:bP P L (D P L) 109 [.str (aX a.num++47::aD a.den),.str [47]]=some (.ae [.str (aX a.num),.str (aD a.den),.bool true]):=by
   rw [jq h.Zc];show (bif yR (aX a.num++47::aD a.den).length 4294967281 then (match me [47] (aX a.num++47::aD a.den) 0 with | some i=>some (AV.ae [.str ((aX a.num++47::aD a.den).take i),.str ((aX a.num++47::aD a.den).drop (i+1)),.bool true]) | none=>_) else none)=_
   rw [kP (by simp;omega),abL _ _ _ GF];simp only [ye,yA,List.take_left];rw [show (aX a.num).length+1=(aX a.num++[47]).length by simp,show aX a.num++47::aD a.den=(aX a.num++[47])++aD a.den by simp,List.drop_left]
  refine ⟨.agg [ab s1,w1,ab s2,w2],?_,s1,w1,s2,w2,rfl,h1,h2⟩;unfold aj;rw [aI h.QN];simp only [go_sem,ya,yb,GO,bj,e0,e1,e2,bX,u1.one,u2.one,EV,EW,mZ u1 u2,fB,fD,yK,iK,nc u1 u2]
end
end
section
open Go (IntKind)
def dW (p:List Nat):Bool:=dn p&&(match p with | []=>false | b::r=> !(yx b 48)||r.isEmpty)
def fU (p:List Nat):Nat:=(cT p 0).getD 0
def Al (neg:Bool) (t:List Nat):Int:=
 if dW (t.take (b6 t))=false\/(neg=true/\t.take (b6 t)=[48]) then 1
 else if b6 t<t.length/\(dW (t.drop (b6 t+1))=false\/t.drop (b6 t+1)=[48]\/t.drop (b6 t+1)=[49]) then 1
 else if 600<b6 t\/600<t.length-b6 t-1 then 4
 else if b6 t<t.length/\wG (fU (t.take (b6 t))) (fU (t.drop (b6 t+1)))≠1 then 1
 else 0
def dc:List Nat->Int
 | []=>Al false []
 | b::t=>if b=45 then Al true t else Al false (b::t)
def aej:∀{p:List Nat} (a:Nat),dn p=true->∃n,cT p a=some n
 | [],a,_=>⟨a,rfl⟩
 | b::r,a,h=>by
  have h':=h;simp only [dn,yh] at h';obtain ⟨n,hn⟩:=aej (p:=r) (10*a+(b-48)) h'.2;exact ⟨n,by simp only [cT,h'.1.1,h'.1.2,wT,yA];exact hn⟩
def EL:∀(k:Nat) {p:List Nat},p.length=k->dW p=true->aD (fU p)=p:=by
 intro k
 induction k with
 | zero=>intro p hl h;rw [yo hl] at h;simp [dW] at h
 | succ k ih=>
  intro p hl h;rcases snoc p with rfl | ⟨m,a,rfl⟩
  ·grind
  ·simp only [dW,yh,Mh] at h;obtain ⟨⟨h1,h2⟩,h3⟩:=h;simp only [dn,yh] at h2;have ha1:=yz h2.1.1;have ha2:=yz h2.1.2;obtain ⟨n,hn⟩:=aej 0 h1;have hv:fU (m++[a])=10*n+(a-48):=by
    unfold fU;rw [II,hn];simp only [xO,cT,h2.1.1,h2.1.2,wT,yA,Option.getD_some]
   cases m with
   | nil=>
    have:n=0:=by simpa [cT] using hn.symm
    rw [hv,oS (by omega)]
    simp;omega
   | cons b r=>
    have hd:dW (b::r)=true:=by
     simp only [dW,h1,xY]
     cases r with
     | nil=>simp
     | cons c r=>simp at h3 ⊢;exact h3
    have hm:=ih (p:=b::r) (by simpa using hl) hd;have hnv:fU (b::r)=n:=by unfold fU;rw [hn];rfl
    rw [hnv] at hm;have B7:n≠0:=fun e=>by
     rw [oS (by omega)] at hm
     simp_all
    rw [hv,qJ (by omega),show (10*n+(a-48))/10=n by omega,show 48+(10*n+(a-48))%10=a by omega,hm]
def abl (t:List Nat):b6 t<t.length->t=t.take (b6 t)++47::t.drop (b6 t+1):=by
 induction t with
 | nil=>simp
 | cons b r ih=>
  intro h;simp only [b6] at h ⊢
  grind
def ade {n:Int} {d:Nat} (hd:0<d) (hg:wG n.natAbs d=1):∃r:Rat,r.num=n/\r.den=d:=⟨⟨n,d,by omega,hg⟩,rfl,rfl⟩
def ay1 {s:List Nat} (h:dc s=0):∃r:Rat,s=RT r/\(aD r.num.natAbs).length<=600/\(aD r.den).length<=600:=by
 have key:∀(neg:Bool) (t:List Nat),Al neg t=0->∃r:Rat,(if neg=true then [45] else [])++t=RT r/\(aD r.num.natAbs).length<=600/\(aD r.den).length<=600:=by
  intro neg t h;unfold Al at h
  split at h
  ·grind
  rename_i h1
  split at h
  ·grind
  rename_i h2
  split at h
  ·grind
  rename_i h3
  split at h
  ·grind
  rename_i h4;have hle:=Ix t;have hp:dW (t.take (b6 t))=true:=by
   cases hb:dW (t.take (b6 t)) with
   | true=>rfl
   | false=>exact absurd (.inl hb) h1
  have rH:=EL _ rfl hp;generalize hn:fU (t.take (b6 t))=n at*
  have aAP:neg=true->n≠0:=fun hh e=>by
   subst e;exact h1 (.inr ⟨hh,by rw [<-rH];rfl⟩)
  have hint:(if neg=true then [45] else [])++aD n=aX (if neg=true then -(n:Int) else n):=by
   cases neg with
   | true=>
    have:=aAP rfl
    simp only [xD];rw [mP (by omega)]
    simp
   | false=>simp [ll]
  have Zk:(if neg=true then -(n:Int) else n).natAbs=n:=by split<;>omega
  have hln:(aD n).length<=600:=by rw [rH,yy];omega
  by_cases hs:b6 t<t.length
  ·have hq:dW (t.drop (b6 t+1))=true:=by
    cases hb:dW (t.drop (b6 t+1)) with
    | true=>rfl
    | false=>exact absurd ⟨hs,.inl hb⟩ h2
   have oN:=EL _ rfl hq;have hg:wG n (fU (t.drop (b6 t+1)))=1:=by
    grind
   have jZ:=abl t hs;have LR:(t.drop (b6 t+1)).length<=600:=by rw [xN];omega
   rw [<-oN] at jZ LR;have iG:fU (t.drop (b6 t+1))≠0:=fun e=>by
    rw [e] at oN;exact h2 ⟨hs,.inr (.inl (by rw [<-oN];rfl))⟩
   have jd:fU (t.drop (b6 t+1))≠1:=fun e=>by
    rw [e] at oN;exact h2 ⟨hs,.inr (.inr (by rw [<-oN];rfl))⟩
   generalize fU (t.drop (b6 t+1))=d at*
   obtain ⟨r,cM,mB⟩:=ade (n:=if neg=true then -(n:Int) else n) (d:=d) (by omega) (by rw [Zk];exact hg)
   refine ⟨r,?_,by rw [cM,Zk];exact hln,by rw [mB];exact LR⟩
   unfold RT;rw [cM,mB,yD jd,<-hint,xA]
   congr 1
   rw [rH];exact jZ
  ·have ht:t.take (b6 t)=t:=yC (by omega);rw [ht] at rH;obtain ⟨r,cM,mB⟩:=ade (n:=if neg=true then -(n:Int) else n) (d:=1) (by omega) (Nat.gcd_one_right _);refine ⟨r,?_,by rw [cM,Zk];exact hln,by rw [mB];decide⟩
   unfold RT;rw [cM,mB,yT rfl,<-hint,wo,rH]
 cases s with
 | nil=>exact absurd h (by decide)
 | cons b t=>
  simp only [dc] at h
  split at h
  ·rename_i hb;subst hb;exact key true t h
  ·exact key false (b::t) h
end
section
namespace Nd
structure Ord (n:Nat) (l:List Int):Prop where
 len:l.length=n
 pU:∀a,a<n->0<=l.getD a 0/\l.getD a 0<n
 inj:∀a b,a<n->b<n->l.getD a 0=l.getD b 0->a=b
end Nd
end
section
namespace Nd
open Go (IntKind)
section
variable {P:aM} {L:Lib}
abbrev aj (P:aM) (L:Lib) (f:Nat) (az:List AV) (r:AV):Prop:=bP P L (D P L) f az=some r
def stS {hp:Hp} {ct id o:Nat} {v:Int} {ex:Bool} {l:List Int} (h:o<l.length):im hp ct id o 1 [.int .i64 v] (some (.cells true true ex 1 (l.map ab)))=some (.ae [],a6 hp id (.cells true true ex 1 ((l.set o v).map ab)),ct):=by
 rw [qW (by rfl) (by simp;omega) (by rfl)]
 have:over o [AV.int .i64 v] (l.map ab)=(l.set o v).map ab:=by
  simp only [over,yI,yP,ye];rw [ybx,vL,yT (by simpa using h)]
  simp
 rw [this];rfl
def nl (h:Has P L 124 FM) (b:Bool) (n:Int):aj P L 124 [.bool b,ab n] (ab (if b=true then n else 0)):=by
 unfold aj;rw [aI h]
 cases b with
 | true=>simp only [go_sem,ya,FM,xD]
 | false=>simp only [go_sem,ya,FM];rfl
def PQ (h:Has P L 125 On) {v:AV} {l:List Int} (hv:bC v l) (hl:l.length<=1000000):aj P L 125 [v] (ab (cf l)):=by
 unfold aj;rw [aI h];simp only [go_sem,ya,On,hv.len];have key:=adW (P:=P) (L:=L) (live:=[5,6,7]) (a:=ND)
  (I:=fun k s=>∃tm ct i,s=⟨tm,[],ct,0⟩/\af tm 5=v/\af tm 6=ab l.length/\af tm 7=ab (i:Nat)/\i+k=l.length/\cf (l.drop i)=cf l)
  (Q:=fun ex s=>∃tm,s=⟨tm,[],0,0⟩/\((ex= .ret/\af tm 2=ab (cf l))\/(ex= .exit 0/\cf l=0))) ?_ l.length
 ·generalize hq:D P L (.loop [5,6,7] ND) _=q;obtain ⟨ex,s,rfl,tm,rfl,h2⟩:=bq hq key ⟨_,_,0,rfl,rfl,rfl,rfl,by omega,rfl⟩;rcases h2 with ⟨rfl,h2⟩ | ⟨rfl,h2⟩
  ·simp only [go_sem,h2]
  ·rw [h2];simp only [go_sem]
 ·rintro k s ⟨tm,ct,i,rfl,h5,h6,h7,hk,hf⟩;rw [aoh (by simp only [go_sem,h5,h6,h7,hv.pu])];simp only [go_sem,ya,h5,h6,h7,ND];by_cases hi:i<l.length
  ·have dS:(i:Int)<l.length:=by omega
   rw [aoG hi] at hf;by_cases hz:l[i]=0
   ·left
    simp only [go_sem,ya,dS,hv.aU hi,hz];refine ⟨_,k-1,rfl,by omega,_,_,i+1,rfl,?_⟩;rw [wrap64 (by omega) (by omega)];rw [yT hz] at hf;simp only [go_sem,ya];exact ⟨trivial,trivial,rfl,by omega,hf⟩
   ·right
    simp only [go_sem,ya,dS,hv.aU hi,hz];rw [yD hz] at hf;refine ⟨_,_,rfl,by simp,_,rfl,.inl ⟨rfl,?_⟩⟩;simp only [go_sem,hf]
  ·right
   have dS:¬(i:Int)<l.length:=by omega
   simp only [go_sem,dS];refine ⟨_,_,rfl,by simp,_,rfl,.inr ⟨rfl,?_⟩⟩;rw [<-hf,xh (by omega)];rfl
end
end Nd
end
section
open Go (IntKind)
def aek (i:Nat):FL i [48,49,50,51,52,53,54,55,56,57]=(yG 48 i&&yG i 57):=by
 by_cases h:48<=i/\i<=57
 ·obtain ⟨h1,h2⟩:=h;obtain ⟨k,rfl⟩:∃k,i=48+k:=⟨i-48,by omega⟩;rcases (show k=0\/k=1\/k=2\/k=3\/k=4\/k=5\/k=6\/k=7\/k=8\/k=9 by omega) with rfl | rfl | rfl | rfl | rfl | rfl | rfl | rfl | rfl | rfl<;>rfl
 ·have e:(yG 48 i&&yG i 57)=false:=by
   cases h1:yG 48 i with
   | false=>rfl
   | true=>
    cases h2:yG i 57 with
    | false=>rfl
    | true=>exact absurd ⟨yz h1,yz h2⟩ h
  rw [e];have ne:∀c,48<=c->c<=57->yx c i=false:=fun c h1 h2=>hX (by omega)
  simp only [FL,ne 48 (by decide) (by decide),ne 49 (by decide) (by decide),ne 50 (by decide) (by decide),ne 51 (by decide) (by decide),ne 52 (by decide) (by decide),ne 53 (by decide) (by decide),ne 54 (by decide) (by decide),ne 55 (by decide) (by decide),ne 56 (by decide) (by decide),ne 57 (by decide) (by decide),yV]
def R5:∀l:List Nat,kO [48,49,50,51,52,53,54,55,56,57] l=[]↔dn l=true
 | []=>by simp [kO,dn]
 | b::r=>by
  simp only [kO,dn,aek]
  cases hb:(yG 48 b&&yG b 57) with
  | true=>simp only [yA,xY];exact R5 r
  | false=>simp
def M3:∀l:List Nat,dn l.reverse=dn l
 | []=>rfl
 | b::r=>by rw [List.reverse_cons,Mh,M3 r];simp [dn,Bool.and_comm]
def abp:∀l:List Nat,dn l=false->dn (kO [48,49,50,51,52,53,54,55,56,57] l)=false
 | [],h=>by simp [dn] at h
 | b::r,h=>by
  simp only [kO,aek]
  cases hb:(yG 48 b&&yG b 57) with
  | true=>
   simp only [dn,hb,xY] at h;exact abp r h
  | false=>simp only [yV];exact h
def atg (p:List Nat):db (kO [48,49,50,51,52,53,54,55,56,57] (kO [48,49,50,51,52,53,54,55,56,57] p.reverse).reverse) []=dn p:=by
 cases hd:dn p with
 | true=>
  have h1:=(R5 p.reverse).2 (by rw [M3];exact hd)
  rw [h1];rfl
 | false=>
  have h1:=abp p.reverse (by rw [M3];exact hd)
  have h2:dn (kO [48,49,50,51,52,53,54,55,56,57] p.reverse).reverse=false:=by rw [M3];exact h1
  cases hq:kO [48,49,50,51,52,53,54,55,56,57] (kO [48,49,50,51,52,53,54,55,56,57] p.reverse).reverse with
  | nil=>have:=(R5 _).1 hq;rw [h2] at this;exact absurd this (by decide)
  | cons b r=>rfl
def abq:∀(t:List Nat) (k:Nat),me [47] t k=if b6 t<t.length then some (k+b6 t) else none
 | [],k=>by simp [me,gN,b6]
 | b::r,k=>by
  by_cases hb:b=47
  ·subst hb;have e:b6 (47::r)=0:=by simp [b6]
   rw [e,yT (by simp)];rfl
  ·have e:b6 (b::r)=b6 r+1:=by simp [b6,hb]
   have hp:gN [47] (b::r)=false:=by rw [IA];exact hX (fun e=>hb e.symm)
   rw [e,me,hp,yV,abq r (k+1)]
   grind
def A7 (a b:List Nat):binOp .neq (.str a) (.str b)=some (.bool (!(db a b))):=rfl
structure Ck (P:aM) (L:Lib):Prop extends Tx P L where
 aCu:L.pure 128=some Ms
 aCv:L.pure 162=some trimS
 h86:Has P L 86 dT
 pO:Has P L 124 FM
 PR:Has P L 125 On
 aCw:Has P L 129 FN
section
variable {P:aM} {L:Lib}
def nl (h:Has P L 124 FM) (b:Bool) (n:Int):aj P L 124 [.bool b,ab n] (ab (if b=true then n else 0)):=Nd.nl h b n
def alA (h:Ck P L) {p:List Nat} (hl:p.length<=4000000000):aj P L 129 [.str p] (.bool (dW p)):=by
 have e1:bP P L (D P L) 162 [.str p,.str [48,49,50,51,52,53,54,55,56,57]]=some (.str (kO [48,49,50,51,52,53,54,55,56,57] (kO [48,49,50,51,52,53,54,55,56,57] p.reverse).reverse)):=by
  rw [jq h.aCv];show (bif E3 [48,49,50,51,52,53,54,55,56,57]&&(yR p.length 4294967281&&yR 10 4294967281) then _ else none)=_
  rw [kP (by omega)];rfl
 have e2:=atg p;unfold aj;rw [aI h.aCw]
 match p,e1,e2 with
 | [],_,_=>
  simp only [go_sem,ya,FN,A7,show db [] []=true from rfl,yO];rfl
 | b::r,e1,e2=>
  have hI:mU 0 (.str (b::r))=some (.int .u8 (b:Nat)):=rfl;have h0:db (b::r) []=false:=rfl;have hd:dW (b::r)=(dn (b::r)&&(!(yx b 48)||r.isEmpty)):=rfl;rw [hd]
  cases nE:dn (b::r) with
  | false=>
   rw [nE] at e2;simp only [go_sem,ya,FN,A7,h0,yM,e1,lC,e2,xP]
  | true=>
   rw [nE] at e2;by_cases hb:b=48
   ·subst hb;have e3:db (48::r) [48]=r.isEmpty:=by
     cases r with
     | nil=>rfl
     | cons c r=>rfl
    have ZT:mU 0 (.str (48::r))=some (.int .u8 48):=rfl;simp only [go_sem,ya,FN,A7,h0,yM,e1,lC,e2,ZT,yr,yO,e3];rfl
   ·have:yx b 48=false:=hX hb
    rw [this];simp only [go_sem,ya,FN,A7,h0,yM,e1,lC,e2,hI,show ¬((b:Nat):Int)=48 by omega,ym,yM];rfl
def aCx (h:Ck P L) (s:List Nat):bP P L (D P L) 128 [.str s,.str [45]]=some (if s.head? =some 45 then .ae [.str s.tail,.bool true] else .ae [.str s,.bool false]):=by
 rw [jq h.aCu];show some (bif gN [45] s then AV.ae [.str (s.drop 1),.bool true] else .ae [.str s,.bool false])=_
 cases s with
 | nil=>rfl
 | cons b r=>
  by_cases hb:b=45
  ·subst hb;rfl
  ·have:gN [45] (b::r)=false:=by rw [IA];exact hX (fun e=>hb e.symm)
   grind
def aCy (h:Ck P L) {t:List Nat} (hl:t.length<=4000000000):bP P L (D P L) 109 [.str t,.str [47]]=some (.ae [.str (t.take (b6 t)),.str (t.drop (b6 t+1)),.bool (decide (b6 t<t.length))]):=by
 rw [jq h.Zc];show (bif yR t.length 4294967281 then (match me [47] t 0 with | some i=>some (AV.ae [.str (t.take i),.str (t.drop (i+1)),.bool true]) | none=>some (AV.ae [.str t,.str [],.bool false])) else none)=_
 rw [kP (by omega),abq];by_cases hs:b6 t<t.length
 ·grind
 ·rw [yD hs,xa hs,yC (by omega),xh (by omega)];rfl
def apD {P:aM} {L:Lib} (a b c d:VC) (s:St):D P L (.seq a (.seq b (.seq c d))) s=jL P L (D P L (.seq a (.seq b c)) s) d:=by
 have e:=CL (P:=P) (L:=L) b c d;rw [j8,j8]
 cases D P L a s with
 | none=>rfl
 | some q=>
  obtain ⟨ex,st⟩:=q
  cases ex with
  | normal=>rw [fK,fK];exact e st
  | ret=>rfl
  | exit id=>rfl
def arc {P:aM} {L:Lib} (a b c d f:VC) (s:St):D P L (.seq a (.seq b (.seq c (.seq d f)))) s=jL P L (D P L (.seq a (.seq b (.seq c d))) s) f:=by
 have e:=apD (P:=P) (L:=L) b c d f;rw [j8,j8]
 cases D P L a s with
 | none=>rfl
 | some q=>
  obtain ⟨ex,st⟩:=q
  cases ex with
  | normal=>rw [fK,fK];exact e st
  | ret=>rfl
  | exit id=>rfl
def Nw {a b:List Nat} (h:a=b):db a b=true:=by
 subst h
 induction a with
 | nil=>rfl
 | cons x a ih=>simp [db,ih]
def SX {a b:List Nat} (h:a≠b):db a b=false:=by
 cases hb:db a b with
 | false=>rfl
 | true=>
  exact absurd (by
   clear h;revert b
   induction a with
   | nil=>intro b hb;cases b with | nil=>rfl | cons y b=>simp [db] at hb
   | cons x a ih=>
    intro b hb
    cases b with
    | nil=>simp [db] at hb
    | cons y b=>
     simp only [db,yh] at hb
     rw [yt hb.1,ih hb.2]) h
def aAQ (h:Ck P L) {p q:List Nat} {ok found:Bool} (lp:p.length<=1000000000) (lq:q.length<=1000000000) (jn:ok=true->dW p=true/\(found=true->dW q=true)) {tm:Env} (t5:af tm 5= .str p) (t6:af tm 6= .str q) (t7:af tm 7= .bool found) (t8:af tm 8= .bool ok):
  gS [.t 2] (D P L (aC (aC (aC (aC (aC dT.body))))) ⟨tm,[],0,0⟩)=some (ab (
   if ok=false then 1
   else if 600<p.length\/600<q.length then 4
   else if found=true/\wG (fU p) (fU q)≠1 then 1
   else 0)):=by
 have w1:=nl h.pO (!ok) 1;have QS:∀a b:Int,aj P L 125 [.aB true 2 [ab a,ab b]] (ab (cf [a,b])):=fun a b=>Nd.PQ h.PR (ma true [a,b]) (by simp)
 cases ok with
 | false=>
  have f1:=QS 1 0;have f2:=QS 1 4;have w2:=nl h.pO false 4;have w3:=nl h.pO true 4;simp only [yM,xD,yL,xi] at w1 w2 w3;rw [show cf [1,0]=1 by decide] at f1;rw [show cf [1,4]=1 by decide] at f2;unfold aj at w1 w2 w3 f1 f2;by_cases h1:600<p.length
  ·simp only [go_sem,ya,yb,yF,yp,yf,dT,aC,show ¬(1:Int)=0 by decide,yM,t5,t8,yM,w1,show (600:Int)<(p.length:Int) by omega,yr,w3,f2,ym]
   simp
  ·by_cases h2:600<q.length
   ·simp only [go_sem,ya,yb,yF,yp,yf,dT,aC,show ¬(1:Int)=0 by decide,yM,t5,t6,t8,yM,w1,show ¬(600:Int)<(p.length:Int) by omega,show (600:Int)<(q.length:Int) by omega,yr,ym,w3,f2]
    simp
   ·simp only [go_sem,ya,yb,yF,yp,yf,dT,aC,show ¬(1:Int)=0 by decide,yM,t5,t6,t8,yM,w1,show ¬(600:Int)<(p.length:Int) by omega,show ¬(600:Int)<(q.length:Int) by omega,ym,w2,f1]
    simp
 | true=>
  obtain ⟨hp,hq⟩:=jn rfl;have f1:=QS 0 0;have f2:=QS 0 4;have w2:=nl h.pO false 4;have w3:=nl h.pO true 4;have w4:=nl h.pO false 1;have w5:=nl h.pO true 1;simp only [yO,xD,yL,xi] at w1 w2 w3 w4 w5;rw [show cf [0,0]=0 by decide] at f1;rw [show cf [0,4]=4 by decide] at f2;unfold aj at w1 w2 w3 w4 w5 f1 f2;rw [yD (by decide)];by_cases h1:600<p.length
  ·rw [yT (.inl h1)];simp only [go_sem,ya,yb,yF,yp,yf,dT,aC,show ¬(4:Int)=0 by decide,yM,t5,t8,yO,w1,show (600:Int)<(p.length:Int) by omega,yr,w3,f2,ym]
  ·by_cases h2:600<q.length
   ·rw [yT (.inr h2)];simp only [go_sem,ya,yb,yF,yp,yf,dT,aC,show ¬(4:Int)=0 by decide,yM,t5,t6,t8,yO,w1,show ¬(600:Int)<(p.length:Int) by omega,show (600:Int)<(q.length:Int) by omega,yr,ym,w3,f2]
   ·rw [yD (by omega)]
    cases found with
    | false=>
     rw [yD (by simp)];simp only [go_sem,ya,yb,yF,yp,yf,dT,aC,t5,t6,t7,t8,yO,w1,show ¬(600:Int)<(p.length:Int) by omega,show ¬(600:Int)<(q.length:Int) by omega,yr,ym,w2,f1]
    | true=>
     have rH:=EL _ rfl hp;have oN:=EL _ rfl (hq rfl);generalize fU p=n at*
     generalize fU q=d at*
     subst rH;subst oN;obtain ⟨M,hM⟩:∃M:Nat,M=2400:=⟨_,rfl⟩;have bd:∀{m:Nat},(aD m).length<=600->Bd M (m:Int):=fun {m} hm=>by
      have h1:=IV m;have h2:=IW (aD m).length;have h3:(2:Nat)^(4*(aD m).length)<=2^M:=yY (by decide) (by omega);unfold Bd;rw [vh];exact yU h1 (xj h2 h3)
     obtain ⟨x,e1,hx⟩:=KU h.toTx (z:=(n:Int)) (by rw [ll];omega);obtain ⟨y,e2,hy⟩:=KU h.toTx (z:=(d:Int)) (by rw [ll];omega);rw [ll] at e1 e2;have kn:=bd (m:=n) (by omega);have kd:=bd (m:=d) (by omega);obtain ⟨g,e3,hg⟩:=alq h.toNu hx hy kn kd (by omega);obtain ⟨e4,ZE⟩:=DL h.toNu (z:=1) (by decide) (by decide);have kg:Bd M ((Int.gcd (n:Int) (d:Int):Nat):Int):=by
      rcases xq d with h0 | h0
      ·subst h0;simpa using kn
      ·exact kd.le (by have:=Nat.gcd_le_right n h0;simpa using this)
     have e5:=aCi h.toNu hg ZE (K:=M) kg (by unfold Bd;exact Nat.one_lt_two_pow (by omega)) (by omega)
     have aCz:Int.gcd (n:Int) (d:Int)=wG n d:=rfl;rw [aCz] at e5;obtain ⟨xs,xw,rfl,Em⟩:=hx;obtain ⟨ys,yw,rfl,En⟩:=hy;obtain ⟨gs,gw,rfl,hg'⟩:=hg;obtain ⟨l1,u1⟩:=Em.aY;obtain ⟨l2,u2⟩:=En.aY;obtain ⟨l3,u3⟩:=hg'.aY;by_cases iF:wG n d=1
     ·rw [yD (by simp [iF])];have hs:cX (((wG n d:Nat):Int)-1)=0:=by rw [iF];rfl
      rw [hs] at e5;simp only [go_sem,ya,yb,yF,yp,yf,dT,aC,t5,t6,t7,t8,yO,w1,show ¬(600:Int)<((aD n).length:Int) by omega,show ¬(600:Int)<((aD d).length:Int) by omega,yr,ym,w2,f1,e1,e2,u1.an,u2.an,u3.an,bX,cF,e3,e4,e5]
     ·rw [yT ⟨rfl,iF⟩];obtain ⟨c,hc,kZ⟩:∃c,cX (((wG n d:Nat):Int)-1)=c/\c≠0:=⟨_,rfl,fun e=>iF (by
       unfold cX at e
       split at e
       ·exact absurd e (by decide)
       ·split at e
        ·omega
        ·exact absurd e (by decide))⟩
      rw [hc] at e5;simp only [go_sem,ya,yb,yF,yp,yf,dT,aC,yM,t5,t6,t7,t8,yO,w1,show ¬(600:Int)<((aD n).length:Int) by omega,show ¬(600:Int)<((aD d).length:Int) by omega,yr,ym,w2,f1,e1,e2,u1.an,u2.an,u3.an,bX,cF,e3,e4,e5,kZ,yM,w5]
def m86 (h:Ck P L) {s:List Nat} (hl:s.length<=1000000000):aj P L 86 [.str s] (ab (dc s)):=by
 have key:∀(neg:Bool) (t:List Nat),t.length<=1000000000->bP P L (D P L) 128 [.str s,.str [45]]=some (.ae [.str t,.bool neg])->aj P L 86 [.str s] (ab (Al neg t)):=by
  intro neg t hl e0;have e1:=aCy h (t:=t) (by omega);obtain ⟨k,hk⟩:∃k,k=b6 t:=⟨_,rfl⟩;have hkl:k<=t.length:=by rw [hk];exact Ix t
  have e2:=alA h (p:=t.take k) (by rw [yy];omega);have e3:=alA h (p:=t.drop (k+1)) (by rw [xN];omega);have lp:(t.take k).length=k:=by rw [yy];omega
  have lq:(t.drop (k+1)).length=t.length-k-1:=by rw [xN];omega
  unfold Al;rw [<-hk] at e1 ⊢;generalize hp:t.take k=p at*
  generalize hq:t.drop (k+1)=q at*
  obtain ⟨Ct,sO⟩:∃ok:Bool,ok=(dW p&&(!neg|| !(db p [48]))):=⟨_,rfl⟩;obtain ⟨ok,jn⟩:∃ok:Bool,ok=(Ct&&(!(decide (k<t.length))||(dW q&&(!(db q [48])&& !(db q [49]))))):=⟨_,rfl⟩
  have BR:(if dW p=false\/(neg=true/\p=[48]) then 1
    else if k<t.length/\(dW q=false\/q=[48]\/q=[49]) then 1
    else if 600<k\/600<t.length-k-1 then 4
    else if k<t.length/\wG (fU p) (fU q)≠1 then 1 else 0:Int)=(if ok=false then 1
    else if 600<p.length\/600<q.length then 4
    else if decide (k<t.length)=true/\wG (fU p) (fU q)≠1 then 1
    else 0):=by
   rw [lp,lq];have a1:(dW p=false\/(neg=true/\p=[48]))↔Ct=false:=by
    rw [sO];cases dW p<;>cases neg<;>simp
    by_cases e:p=[48]
    ·simp [e,Nw]
    ·simp [e,SX e]
   have a2:ok=false↔(Ct=false\/(k<t.length/\(dW q=false\/q=[48]\/q=[49]))):=by
    rw [jn];by_cases hs:k<t.length
    ·simp only [hs,yr,yO,vH,tj];cases Ct<;>cases dW q<;>simp
     by_cases e:q=[48]
     ·simp [e,Nw]
     ·by_cases e':q=[49]
      ·simp [e',Nw]
      ·simp [e,e',SX e,SX e']
    ·simp [hs]
   by_cases h1:Ct=false
   ·rw [yT (a1.2 h1),yT (a2.2 (.inl h1))]
   ·rw [yD (fun e=>h1 (a1.1 e))];by_cases h2:k<t.length/\(dW q=false\/q=[48]\/q=[49])
    ·rw [yT h2,yT (a2.2 (.inr h2))]
    ·rw [yD h2,yD (fun e=>(a2.1 e).elim h1 h2)];simp only [xW]
  rw [BR];have aCA:ok=true->dW p=true/\(decide (k<t.length)=true->dW q=true):=fun e=>by
   rw [jn,yh] at e;obtain ⟨e1,e2⟩:=e;rw [sO,yh] at e1;refine ⟨e1.1,fun hs=>?_⟩;rw [hs,yO,vH,yh] at e2;exact e2.1
  have tail:∀tm,af tm 5= .str p->af tm 6= .str q->af tm 7= .bool (decide (k<t.length))->af tm 8= .bool ok->gS [.t 2] (D P L (aC (aC (aC (aC (aC dT.body))))) ⟨tm,[],0,0⟩)=_:=fun tm t5 t6 t7 t8=>
   aAQ h (by omega) (by omega) aCA t5 t6 t7 t8
  have mid:∀tm,af tm 5= .str p->af tm 6= .str q->af tm 7= .bool (decide (k<t.length))->af tm 8= .bool Ct->
    ∃tm',D P L (bF (aC (aC (aC (aC dT.body))))) ⟨tm,[],0,0⟩=some (.normal,⟨tm',[],0,0⟩)/\af tm' 5= .str p/\af tm' 6= .str q/\af tm' 7= .bool (decide (k<t.length))/\af tm' 8= .bool ok:=fun tm t5 t6 t7 t8=>by
   unfold aj at e3;by_cases hs:k<t.length
   ·rw [xx hs] at t7 jn ⊢;simp only [yO,vH] at jn
    cases Ct with
    | false=>
     rw [xP] at jn;subst jn;refine ⟨_,by simp only [go_sem,ya,dT,bF,aC,t7,t8]<;>rfl,?_⟩
     simp only [go_sem,ya,t5,t6,t7,tj]
    | true=>
     rw [xY] at jn
     cases hd:dW q with
     | false=>
      rw [hd] at e3 jn;rw [xP] at jn;subst jn;refine ⟨_,by simp only [go_sem,ya,dT,bF,aC,t6,t7,t8,e3]<;>rfl,?_⟩
      simp only [go_sem,ya,t5,t6,t7,tj]
     | true=>
      rw [hd] at e3 jn;rw [xY] at jn
      cases jF:db q [48] with
      | true=>
       rw [jF,yO,xP] at jn;subst jn;refine ⟨_,by simp only [go_sem,ya,dT,bF,aC,t6,t7,t8,e3,A7,jF,yO]<;>rfl,?_⟩
       simp only [go_sem,ya,t5,t6,t7,tj]
      | false=>
       rw [jF,yM,xY] at jn;subst jn;refine ⟨_,by simp only [go_sem,ya,dT,bF,aC,t6,t7,t8,e3,A7,jF,yM]<;>rfl,?_⟩
       simp only [go_sem,ya,t5,t6,t7,tj]
   ·rw [xa hs] at t7 jn ⊢;simp only [yM,yaJ,Bool.and_true] at jn;subst jn;refine ⟨_,by simp only [go_sem,dT,bF,aC,t7]<;>rfl,?_⟩
    simp only [go_sem,ya,t5,t6,t7,t8,tj]
  have fin:∀tm,af tm 5= .str p->af tm 6= .str q->af tm 7= .bool (decide (k<t.length))->af tm 8= .bool Ct->
    D P L (.seq (bF dT.body) (.seq (bF (aC dT.body)) (.seq (bF (aC (aC dT.body))) (bF (aC (aC (aC dT.body))))))) ⟨[(0,.str s)],[],0,0⟩=some (.normal,⟨tm,[],0,0⟩)->aj P L 86 [.str s] _:=fun tm t5 t6 t7 t8 e=>by
   obtain ⟨tm',e',f5,f6,f7,f8⟩:=mid tm t5 t6 t7 t8;unfold aj;rw [aI h.h86];show gS [.t 2] (D P L (.seq (bF dT.body) (.seq (bF (aC dT.body)) (.seq (bF (aC (aC dT.body))) (.seq (bF (aC (aC (aC dT.body)))) (.seq (bF (aC (aC (aC (aC dT.body))))) (aC (aC (aC (aC (aC dT.body)))))))))) ⟨[(0,.str s)],[],0,0⟩)=_
   rw [arc,e,fK,j8,e',fK];exact tail tm' f5 f6 f7 f8
  unfold aj at e2
  cases hd:dW p with
  | false=>
   rw [hd] at e2 sO;rw [xP] at sO;subst sO;refine fin _ ?_ ?_ ?_ ?_ (by simp only [go_sem,ya,dT,bF,aC,e0,e1,e2]<;>rfl)<;>simp only [go_sem,ya]
  | true=>
   rw [hd] at e2 sO
   cases neg with
   | false=>
    simp only [yM,yaJ] at sO;subst sO;refine fin _ ?_ ?_ ?_ ?_ (by simp only [go_sem,ya,dT,bF,aC,e0,e1,e2,yM]<;>rfl)<;>simp only [go_sem,ya]
   | true=>
    simp only [yO,vH] at sO;subst sO;refine fin _ ?_ ?_ ?_ ?_ (by simp only [go_sem,ya,dT,bF,aC,e0,e1,e2,yO,A7]<;>rfl)<;>simp only [go_sem,ya]
 unfold dc;have e0:=aCx h s
 cases s with
 | nil=>exact key false [] (by simp) e0
 | cons b r=>
  by_cases hb:b=45
  ·subst hb;exact key true r (by simp at hl;omega) e0
  ·simp only [hb,xi];rw [yD (by simpa using hb)] at e0;exact key false (b::r) hl e0
end
end
section
open Go (IntKind)
def LN (z:Int):Bool:=decide (600<(aD z.natAbs).length)
def LG (r:Rat):Bool:=LN r.num||LN (r.den:Int)
def apE {m B k:Nat} (hB:B<=3*k) (hk:0<k) (h:m<2^B):(aD m).length<=k:=by
 obtain ⟨j,rfl⟩:∃j,k=j+1:=⟨k-1,by omega⟩;refine rU (yU h (xj (yY (by decide) hB) ?_));rw [tv];exact vW (by decide) _
def SY:∀f n:Nat,eM f n<=f
 | 0,_=>yv _
 | f+1,n=>by
  unfold eM
  cases yx n 0 with
  | true=>exact Nat.zero_le _
  | false=>have:=SY f (n/2);simp only [yV];omega
def ay2 {P:aM} {L:Lib} {f:cD} (h:L.pure 175=some I5) {x:Nat} (hx:x<18446744073709551616):bP P L f 175 [uc x]=some (ab (eM 64 x:Nat)):=by
 rw [jq h];show (bif yR x 18446744073709551616 then _ else none)=_
 rw [kP hx];rfl
def avj {V n top low:Nat} (hn:0<n) (h0:0<top) (ht:top<18446744073709551616) (hV:V=low+18446744073709551616^(n-1)*top) (hl:low<18446744073709551616^(n-1)):V<2^(64*(n-1)+eM 64 top):=by
 obtain ⟨l1,l2,l3⟩:=Ss h0 ht;have hle:=SY 64 top;have h1:top<2^eM 64 top:=by
  have e:(18446744073709551616:Nat)=2^eM 64 top*2^(64-eM 64 top):=by rw [<-wL,show eM 64 top+(64-eM 64 top)=64 by omega]
  rw [e] at l3;exact Nat.lt_of_mul_lt_mul_right l3
 have h3:=yZ (18446744073709551616^(n-1)) (show top+1<=2^eM 64 top from h1);rw [wL,tv]
 grind
section
variable {P:aM} {L:Lib}
def ath (K:Nat):2^K<=18446744073709551616^(K/64+1):=by
 rw [show (18446744073709551616:Nat)=2^64 from rfl,<-tv];exact yY (by decide) (by omega)
def aAR (h:Tx P L) {v:AV} {z:Int} {K:Nat} (hv:cN v z) (hz:Bd K z) (hK:K<=4000000000):∃B:Nat,aj P L 172 [v] (ab B)/\z.natAbs<2^B/\B<=K+64:=by
 obtain ⟨s,w,rfl,hn⟩:=hv;obtain ⟨l,u⟩:=hn.aY;obtain ⟨r,e1,hr⟩:=Aj h.toNu hn;obtain ⟨ws,hw,g,nz',hb⟩:=hr;have hl:ws.length<=K/64+1:=od nz' hb (yU hz (ath K));unfold aj at e1 ⊢;by_cases h0:ws=[]
 ·subst h0;have kB:z.natAbs=0:=by rw [<-hb];rfl
  refine ⟨0,?_,by rw [kB];decide,by omega⟩
  rw [aI h.alu];simp only [go_sem,ya,yb,Oy,bj,cy,cF,u.pu,u.an,u.one,e1,hw.len,yP,show ((0:Nat):Int)=0 from rfl,yr]
 ·have hp:0<ws.length:=List.length_pos_iff.2 h0;have Bt:=MY nz' h0;have Ed:=ia (show 0<18446744073709551616 by decide) g (ws.length-1);have ei:=hw.aU (i:=ws.length-1) (by omega);have eU:=jt (b:=18446744073709551616) (l:=ws) (ws.length-1);have KV:=mj (A6 g (ws.length-1));rw [yy,xm (by omega)] at KV;rw [show ws.length-1+1=ws.length by omega,yC (yv _)] at eU;generalize ws.getD (ws.length-1) 0=top at*
  have e2:=ay2 (P:=P) (f:=D P L) h.aCn Ed;have hle:=SY 64 top;have ajy:=avj hp (Nat.pos_of_ne_zero Bt) Ed eU KV;rw [hb] at ajy;refine ⟨64*(ws.length-1)+eM 64 top,?_,ajy,by omega⟩;rw [aI h.alu]
  simp only [go_sem,ya,yb,Oy,bj,cy,cF,u.pu,u.an,u.one,e1,hw.len,show ¬(ws.length:Int)=0 by omega,show (ws.length:Int)-1=((ws.length-1:Nat):Int) by omega,wrapN (n:=ws.length-1) (by omega),show (64:Int)*((ws.length-1:Nat):Int)=((64*(ws.length-1):Nat):Int) by omega,wrapN (n:=64*(ws.length-1)) (by omega),ei,e2,show ((64*(ws.length-1):Nat):Int)+((eM 64 top:Nat):Int)=((64*(ws.length-1)+eM 64 top:Nat):Int) from rfl,wrapN (n:=64*(ws.length-1)+eM 64 top) (by omega)]
def aCB (h:Tx P L) {v:AV} {z:Int} {K:Nat} (hv:cN v z) (hz:Bd K z) (hK:K<=4000000000):∃B:Nat,aj P L 172 [v] (ab B)/\z.natAbs<2^B/\B<=300000000000:=by
 obtain ⟨B,h1,h2,h3⟩:=aAR h hv hz hK;exact ⟨B,h1,h2,by omega⟩
def ard (z:Int):(if gN [45] (aX z)=true then (aX z).drop 1 else aX z)=aD z.natAbs:=by
 by_cases h:z<0
 ·rw [mP h];rfl
 ·obtain ⟨m,rfl⟩:∃m:Nat,z=m:=⟨z.toNat,by omega⟩;rw [ll];obtain ⟨b,r,hb,h1,_⟩:=EK m;rw [vh,hb,R4 h1];rfl
def alB (h:Tx P L) {v:AV} {z:Int} {K:Nat} (hv:cN v z) (hz:Bd K z) (hK:K<=4000000000):aj P L 151 [v] (.bool (LN z)):=by
 obtain ⟨B,e1,hB,hBb⟩:=aCB h hv hz hK;have e2:=m99 h hv hz hK;obtain ⟨s,w,rfl,hn⟩:=hv;obtain ⟨l,u⟩:=hn.aY;have e3:bP P L (D P L) 153 [.str (aX z),.str [45]]=some (.str (aD z.natAbs)):=by
  rw [jq h.Za,<-ard];show some (AV.str (bif gN [45] (aX z) then (aX z).drop 1 else aX z))=_
  cases gN [45] (aX z)<;>rfl
 unfold aj at e1 e2 ⊢;rw [aI h.aCo];unfold LN;by_cases h1:1800<B
 ·simp only [go_sem,ya,yb,Ot,bj,cy,cF,u.pu,u.an,u.one,e1,show (1800:Int)<(B:Int) by omega,yr,e2,e3];by_cases h2:600<(aD z.natAbs).length
  ·rw [xx h2,xx (by omega)]
  ·rw [xa h2,xa (by omega)]
 ·have h2:=apE (k:=600) (by omega) (by decide) hB;rw [xa (by omega)];simp only [go_sem,ya,yb,Ot,bj,cy,cF,u.pu,u.an,u.one,e1,show ¬(1800:Int)<(B:Int) by omega,ym]
def aCC (h:Tx P L) {v:AV} {a:Rat} {K:Nat} (hv:dI v a) (ka:Hq K a) (hK:K<=4000000000):aj P L 107 [v] (.bool (LG a)):=by
 obtain ⟨s1,w1,s2,w2,rfl,h1,h2⟩:=hv;have e1:=alB h ⟨s1,w1,rfl,h1⟩ ka.1 hK;have e2:=alB h ⟨s2,w2,rfl,h2⟩ ka.2 hK;obtain ⟨l1,u1⟩:=h1.aY;obtain ⟨l2,u2⟩:=h2.aY;unfold aj at e1 e2 ⊢;rw [aI h.aCp];unfold LG
 cases hb:LN a.num with
 | true=>
  rw [hb] at e1;simp only [go_sem,ya,yb,Ok,bj,cd,ye,cy,cF,u1.pu,u1.an,u1.one,u2.pu,u2.one,e1];rfl
 | false=>
  rw [hb] at e1;simp only [go_sem,ya,yb,Ok,bj,cd,ye,show vT 2 [ab s1,w1,ab s2,w2]=[ab s2,w2] from rfl,cy,cF,u1.pu,u1.an,u1.one,u2.pu,u2.an,u2.one,e1,e2];rfl
end
end
section
open Go (IntKind)
def are (p s:Nat):p*(s%1000000000)+p*1000000000*(s/1000000000)=p*s:=by
 rw [xp,<-xG,Nat.mod_add_div]
def IJ {l:List Int} {i:Nat} (h:l.length<=i):l.getD i 0=0:=by simp_all
def ati {a b out:List Int} {i c:Nat} {x y:Int} (hx:x=a.getD i 0) (hy:y=b.getD i 0) (h1:0<=x) (h2:0<=y) (hl:out.length=i) (hv:dv out+1000000000^i*c=dv (a.take i)+dv (b.take i)):
  dv (out++[(((x.toNat+y.toNat+c)%1000000000:Nat):Int)])+1000000000^(i+1)*((x.toNat+y.toNat+c)/1000000000)=dv (a.take (i+1))+dv (b.take (i+1)):=by
 rw [pc,pc,mM,hl,<-hx,<-hy];simp only [dv,xU,xH,y5,xd]
 have:=are (1000000000^i) (x.toNat+y.toNat+c)
 grind
section
variable {P:aM} {L:Lib}
def ay3 (nm:Has P L 302 sG) {v w:AV} {a b:List Int} (hv:bC v a) (hw:bC w b) (ha:dg a) (hb:dg b) {N:Nat} (la:a.length<=N) (lb:b.length<=N) (lN:N<=20000000000):
  ∀k s,(∃(i c:Nat) (out:List Int),2*(N-i)+c=k/\out.length=i/\c<=1/\dg out/\dv out+1000000000^i*c=dv (a.take i)+dv (b.take i)/\i<=N+1/\(i<=N\/c=0)/\
    ((i=0/\aJ [0,1,5,6,7] s=⟨[(0,v),(1,w),(5,.aa),(6,ab c),(7,ab i)],[],0,0⟩)\/
    (0<i/\aJ [0,1,5,6,7] s=⟨[(0,v),(1,w),(5,.aw 0 0 i),(6,ab c),(7,ab i)],[(0,.cells true true false 1 (out.map ab))],1,0⟩)))->
   ∃ex s',D P L (.loop [0,1,5,6,7] po) s=some (ex,s')/\∃tm out,ex= .exit 0/\dg out/\dv out=dv a+dv b/\out.length<=N+1/\((out=[]/\af tm 5= .aa/\s'=⟨tm,[],0,0⟩)\/(0<out.length/\af tm 5= .aw 0 0 out.length/\s'=⟨tm,[(0,.cells true true false 1 (out.map ab))],1,0⟩)):=by
 intro dq sq;generalize a8:aJ [0,1,5,6,7] sq=s0;revert a8 s0 sq dq;apply cY;rintro k s ⟨i,c,out,hk,hlen,hc,nE,aT,hi,GC,hs⟩;have e1:=YV nm hv i;have e2:=YV nm hw i;unfold aj at e1 e2;have ga:=iz ha i;have gb:=iz hb i;by_cases zd:i<a.length\/i<b.length\/0<c
 ·left
  obtain ⟨x,hx⟩:∃x,x=a.getD i 0:=⟨_,rfl⟩;obtain ⟨y,hy⟩:∃y,y=b.getD i 0:=⟨_,rfl⟩;rw [<-hx] at e1 ga;rw [<-hy] at e2 gb;have kQ:=ati (c:=c) hx hy ga.1 gb.1 hlen aT;obtain ⟨s0,As⟩:∃s0,s0=x.toNat+y.toNat+c:=⟨_,rfl⟩;rw [<-As] at kQ;have BU:x+y+(c:Int)=(s0:Int):=by omega
  have hs9:s0<2000000000:=by omega
  have hr:((s0:Nat):Int).tmod 1000000000=((s0%1000000000:Nat):Int):=by rw [xZ (by omega)];rfl
  have hq:((s0:Nat):Int).tdiv 1000000000=((s0/1000000000:Nat):Int):=by rw [wb (by omega)];rfl
  have qd:s0/1000000000<=1:=by omega
  have aAS:2*(N-(i+1))+s0/1000000000<k:=by
   by_cases hm:i<N
   ·omega
   ·have:c=1:=by omega
    have AF:x=0:=by rw [hx];exact IJ (by omega)
    have iS:y=0:=by rw [hy];exact IJ (by omega)
    subst AF;subst iS
    have:s0=1:=by rw [As,this];rfl
    subst this;omega
  have Gq:dg (out++[((s0%1000000000:Nat):Int)]):=iy.2 ⟨nE,lD.2 (by omega)⟩;have TY:(out++[((s0%1000000000:Nat):Int)]).length=i+1:=by simp [hlen]
  have aCD:i+1<=N\/s0/1000000000=0:=by
   by_cases hm:i<N
   ·exact .inl hm
   ·right
    have:c=1:=by omega
    have AF:x=0:=by rw [hx];exact IJ (by omega)
    have iS:y=0:=by rw [hy];exact IJ (by omega)
    subst AF;subst iS
    have:s0=1:=by rw [As,this];rfl
    subst this;rfl
  have fin:∃s',D P L po s=some (.normal,s')/\aJ [0,1,5,6,7] s'=⟨[(0,v),(1,w),(5,.aw 0 0 (i+1)),(6,ab (s0/1000000000:Nat)),(7,ab (i+1:Nat))],[(0,.cells true true false 1 ((out++[((s0%1000000000:Nat):Int)]).map ab))],1,0⟩:=by
   have three:((i:Int)<a.length)\/(¬(i:Int)<a.length/\(i:Int)<b.length)\/(¬(i:Int)<a.length/\¬(i:Int)<b.length/\(0:Int)<c):=by omega
   rcases three with t1 | ⟨t1,t2⟩ | ⟨t1,t2,t3⟩
   ·rcases hs with ⟨h0,rfl⟩ | ⟨h0,rfl⟩
    ·subst h0;have my:out=[]:=yo hlen;subst my
     simp only [go_sem,ya,yb,xn,yF,yp,yf,po,hv.len,hv.an,hw.an,t1,e1,e2,wrap64 (n:=x+y) (by omega) (by omega),BU,wrap64 (n:=(s0:Int)) (by omega) (by omega),iV _ _ _ (show (1000000000:Int)≠0 by decide),gL _ _ _ (show (1000000000:Int)≠0 by decide),hr,hq,wrap64 (n:=((s0/1000000000:Nat):Int)) (by omega) (by omega),fQ];refine ⟨_,rfl,?_⟩;rw [wrap64 (by omega) (by omega)];simp only [go_sem,ya,yb,av,aq hv.pu,au _ hv.pu,aq hw.pu,au _ hw.pu]<;>rfl
    ·simp only [go_sem,ya,yb,yp,yf,po,hv.len,hv.an,hw.an,t1,e1,e2,wrap64 (n:=x+y) (by omega) (by omega),BU,wrap64 (n:=(s0:Int)) (by omega) (by omega),iV _ _ _ (show (1000000000:Int)≠0 by decide),hr]
     rw [fC (ex:=false) (pu:=true) (cs:=out.map ab) (by simp only [go_sem,ya]) (by rw [yj,hlen,yf]) (by omega) (by omega) (by decide) (by simp only [go_sem])]
     simp only [go_sem,ya,yb,gL _ _ _ (show (1000000000:Int)≠0 by decide),hq,wrap64 (n:=((s0/1000000000:Nat):Int)) (by omega) (by omega)];refine ⟨_,rfl,?_⟩;rw [wrap64 (by omega) (by omega),xg];simp only [go_sem,ya,yb,av,aq hv.pu,au _ hv.pu,aq hw.pu,au _ hw.pu]<;>rfl
   ·rcases hs with ⟨h0,rfl⟩ | ⟨h0,rfl⟩
    ·subst h0;have my:out=[]:=yo hlen;subst my
     simp only [go_sem,ya,yb,xn,yF,yp,yf,po,hv.len,hv.an,hw.len,hw.an,t1,t2,e1,e2,wrap64 (n:=x+y) (by omega) (by omega),BU,wrap64 (n:=(s0:Int)) (by omega) (by omega),iV _ _ _ (show (1000000000:Int)≠0 by decide),gL _ _ _ (show (1000000000:Int)≠0 by decide),hr,hq,wrap64 (n:=((s0/1000000000:Nat):Int)) (by omega) (by omega),fQ];refine ⟨_,rfl,?_⟩;rw [wrap64 (by omega) (by omega)];simp only [go_sem,ya,yb,av,aq hv.pu,au _ hv.pu,aq hw.pu,au _ hw.pu]<;>rfl
    ·simp only [go_sem,ya,yb,yp,yf,po,hv.len,hv.an,hw.len,hw.an,t1,t2,e1,e2,wrap64 (n:=x+y) (by omega) (by omega),BU,wrap64 (n:=(s0:Int)) (by omega) (by omega),iV _ _ _ (show (1000000000:Int)≠0 by decide),hr]
     rw [fC (ex:=false) (pu:=true) (cs:=out.map ab) (by simp only [go_sem,ya]) (by rw [yj,hlen,yf]) (by omega) (by omega) (by decide) (by simp only [go_sem])]
     simp only [go_sem,ya,yb,gL _ _ _ (show (1000000000:Int)≠0 by decide),hq,wrap64 (n:=((s0/1000000000:Nat):Int)) (by omega) (by omega)];refine ⟨_,rfl,?_⟩;rw [wrap64 (by omega) (by omega),xg];simp only [go_sem,ya,yb,av,aq hv.pu,au _ hv.pu,aq hw.pu,au _ hw.pu]<;>rfl
   ·rcases hs with ⟨h0,rfl⟩ | ⟨h0,rfl⟩
    ·subst h0;have my:out=[]:=yo hlen;subst my
     simp only [go_sem,ya,yb,xn,yF,yp,yf,po,hv.len,hv.an,hw.len,hw.an,t1,t2,t3,e1,e2,wrap64 (n:=x+y) (by omega) (by omega),BU,wrap64 (n:=(s0:Int)) (by omega) (by omega),iV _ _ _ (show (1000000000:Int)≠0 by decide),gL _ _ _ (show (1000000000:Int)≠0 by decide),hr,hq,wrap64 (n:=((s0/1000000000:Nat):Int)) (by omega) (by omega),fQ];refine ⟨_,rfl,?_⟩;rw [wrap64 (by omega) (by omega)];simp only [go_sem,ya,yb,av,aq hv.pu,au _ hv.pu,aq hw.pu,au _ hw.pu]<;>rfl
    ·simp only [go_sem,ya,yb,yp,yf,po,hv.len,hv.an,hw.len,hw.an,t1,t2,t3,e1,e2,wrap64 (n:=x+y) (by omega) (by omega),BU,wrap64 (n:=(s0:Int)) (by omega) (by omega),iV _ _ _ (show (1000000000:Int)≠0 by decide),hr]
     rw [fC (ex:=false) (pu:=true) (cs:=out.map ab) (by simp only [go_sem,ya]) (by rw [yj,hlen,yf]) (by omega) (by omega) (by decide) (by simp only [go_sem])]
     simp only [go_sem,ya,yb,gL _ _ _ (show (1000000000:Int)≠0 by decide),hq,wrap64 (n:=((s0/1000000000:Nat):Int)) (by omega) (by omega)];refine ⟨_,rfl,?_⟩;rw [wrap64 (by omega) (by omega),xg];simp only [go_sem,ya,yb,av,aq hv.pu,au _ hv.pu,aq hw.pu,au _ hw.pu]<;>rfl
  obtain ⟨s',f1,f2⟩:=fin;exact ⟨s',_,f1,aAS,i+1,s0/1000000000,_,rfl,TY,qd,Gq,kQ,by omega,aCD,.inr ⟨by omega,f2⟩⟩
 ·right
  have kZ:c=0:=by omega
  subst kZ;rw [xH,y5,yC (by omega),yC (by omega)] at aT;rcases hs with ⟨h0,rfl⟩ | ⟨h0,rfl⟩
  ·simp only [go_sem,ya,po,hv.len,hw.len,show ¬(i:Int)<a.length by omega,show ¬(i:Int)<b.length by omega,show ¬(0:Int)<((0:Nat):Int) by omega];exact ⟨_,_,rfl,by simp,_,out,rfl,nE,aT,by omega,.inl ⟨yo (by omega),by simp only [go_sem,ya],rfl⟩⟩
  ·simp only [go_sem,ya,po,hv.len,hw.len,show ¬(i:Int)<a.length by omega,show ¬(i:Int)<b.length by omega,show ¬(0:Int)<((0:Nat):Int) by omega];exact ⟨_,_,rfl,by simp,_,out,rfl,nE,aT,by omega,.inr ⟨by omega,by rw [hlen];simp only [go_sem,ya],rfl⟩⟩
def aCE (h:Has P L 295 Kq) (nm:Has P L 302 sG) {v w:AV} {a b:List Int} (hv:bC v a) (hw:bC w b) (ha:dg a) (hb:dg b) (la:a.length<=20000000000) (lb:b.length<=20000000000):
  ∃r out,aj P L 295 [v,w] r/\bC (shut r) out/\dg out/\dv out=dv a+dv b/\out.length<=max a.length b.length+1:=by
 have jc:∃out,aj P L 295 [v,w] (if out=[] then .aa else .bw false 1 out.length (out.map ab))/\dg out/\dv out=dv a+dv b/\out.length<=max a.length b.length+1:=by
  unfold aj;rw [aI h];simp only [go_sem,Kq];generalize hq:D P L (.loop [0,1,5,6,7] po) _=q;obtain ⟨ex,s,rfl,tm,out,rfl,hd,aT,hl,hs⟩:=bq hq (ay3 (P:=P) (L:=L) nm hv hw ha hb (N:=max a.length b.length) (by omega) (by omega) (by omega) (2*(max a.length b.length))) ⟨0,0,[],by omega,rfl,by omega,rfl,by simp [dv],by omega,.inr rfl,.inl ⟨rfl,by simp only [go_sem,ya,av,aq hv.pu,au _ hv.pu,aq hw.pu,au _ hw.pu]<;>rfl⟩⟩
  refine ⟨out,?_,hd,aT,hl⟩;rcases hs with ⟨h0,h5,rfl⟩ | ⟨h0,h5,rfl⟩
  ·rw [yT h0];simp only [go_sem,av,h5]
  ·rw [yD (by intro e;subst e;simp at h0)];simp only [go_sem,yb,av,h5];exact rO (gZ _ _ _) (by simp) (by decide)
 obtain ⟨out,g1,g2,g3,g4⟩:=jc;refine ⟨_,out,g1,?_,g2,g3,g4⟩
 split
 ·rename_i e;subst e;exact oW
 ·exact ma false out
end
end
section
open Go (IntKind)
section
variable {P:aM} {L:Lib}
def Zl (h:Has P L 296 sF) {v w:AV} {a b:List Int} (hv:bC v a) (hw:bC w b) (ha:dg a) (hb:dg b) (na:nz a) (nb:nz b) (la:a.length<=20000000000) (lb:b.length<=20000000000):
  aj P L 296 [v,w] (ab (dV (dv a) (dv b))):=by
 unfold aj;rw [aI h];by_cases hlen:a.length=b.length
 ·have key:=eP (P:=P) (L:=L) (live:=[0,1,5]) (a:=C6)
   (I:=fun k st=>∃j:Nat,st=⟨[(0,v),(1,w),(5,ab ((j:Int)-1))],[],0,0⟩/\j<=a.length/\j=k/\a.drop j=b.drop j)
   (Q:=fun ex st=>∃tm ct,st=⟨tm,[],ct,0⟩/\((ex= .ret/\af tm 4=ab (dV (dv a) (dv b)))\/(ex= .exit 0/\a=b))) ?_
  ·simp only [go_sem,ya,sF,hv.len,hw.len,show (a.length:Int)=b.length by omega];generalize hq:D P L (.loop [0,1,5] C6) _=q;obtain ⟨ex,st,rfl,tm,ct,rfl,h2⟩:=bq hq (key a.length) ⟨a.length,by
    rw [wrap64 (by omega) (by omega)];rw [hlen]
    simp only [go_sem,ya,av,aq hv.pu,au _ hv.pu,aq hw.pu,au _ hw.pu]<;>rfl,yv _,rfl,by rw [xh (yv _),xh (by omega)]⟩
   rcases h2 with ⟨rfl,h2⟩ | ⟨rfl,h2⟩
   ·simp only [go_sem,h2]
   ·simp only [go_sem,av];subst h2;simp [dV]
  ·rintro k st ⟨j,rfl,hj,rfl,he⟩
   cases j with
   | zero=>
    right
    simp only [go_sem,ya,C6,show ¬(0:Int)<=((0:Nat):Int)-1 by omega];exact ⟨_,_,rfl,by simp,_,_,rfl,.inr ⟨rfl,by simpa using he⟩⟩
   | succ i=>
    have h1:i<a.length:=by omega
    have h2:i<b.length:=by omega
    have GJ:=ahm ha hb h1 h2 he;have aZ:=ahm hb ha h2 h1 he.symm;by_cases c1:a[i]<b[i]
    ·right
     simp only [go_sem,ya,C6,show ((i+1:Nat):Int)-1=(i:Int) by omega,show (0:Int)<=(i:Int) by omega,hv.aU h1,hw.aU h2,c1];refine ⟨_,_,rfl,by simp,_,_,rfl,.inl ⟨rfl,?_⟩⟩;simp only [go_sem];unfold dV;rw [yT (GJ c1)]
    ·by_cases c2:b[i]<a[i]
     ·right
      simp only [go_sem,ya,C6,show ((i+1:Nat):Int)-1=(i:Int) by omega,show (0:Int)<=(i:Int) by omega,hv.aU h1,hw.aU h2,c1,c2];refine ⟨_,_,rfl,by simp,_,_,rfl,.inl ⟨rfl,?_⟩⟩;simp only [go_sem];unfold dV;rw [yD (by omega),yT (by omega)]
     ·left
      simp only [go_sem,ya,C6,show ((i+1:Nat):Int)-1=(i:Int) by omega,show (0:Int)<=(i:Int) by omega,hv.aU h1,hw.aU h2,c1,c2];refine ⟨_,i,rfl,by omega,i,?_,by omega,rfl,?_⟩
      ·rw [wrap64 (by omega) (by omega)];simp only [go_sem,ya,av,aq hv.pu,au _ hv.pu,aq hw.pu,au _ hw.pu]<;>rfl
      ·rw [yS h1,yS h2,he,show a[i]=b[i] by omega]
 ·by_cases c1:a.length<b.length
  ·have:=Th ha nb hb c1
   simp only [go_sem,ya,sF,hv.len,hw.len,show ¬(a.length:Int)=b.length by omega,show (a.length:Int)<b.length by omega];unfold dV;rw [yT this]
  ·have:=Th hb na ha (show b.length<a.length by omega)
   simp only [go_sem,ya,sF,hv.len,hw.len,show ¬(a.length:Int)=b.length by omega,show ¬(a.length:Int)<b.length by omega];unfold dV;rw [yD (by omega),yT this]
def atj {a b out:List Int} {i c:Nat} {x y z:Int} {c':Nat} (hx:x=a.getD i 0) (hy:y=b.getD i 0) (h1:0<=x) (h2:0<=y) (h3:0<=z) (hz:z=x-y-c+1000000000*c') (hl:out.length=i) (hv:dv out+dv (b.take i)=dv (a.take i)+1000000000^i*c):
  dv (out++[z])+dv (b.take (i+1))=dv (a.take (i+1))+1000000000^(i+1)*c':=by
 rw [pc,pc,mM,hl,<-hx,<-hy];simp only [dv,xH,y5,xd];have e:z.toNat+y.toNat+c=x.toNat+1000000000*c':=by omega
 grind
end
end
section
open Go (IntKind)
section
variable {P:aM} {L:Lib}
def ay4 (nm:Has P L 302 sG) {v w:AV} {a b:List Int} (hv:bC v a) (hw:bC w b) (ha:dg a) (hb:dg b) (la:a.length<=20000000000) (hle:dv b<=dv a) (Ek:b.length<=a.length):
  ∀k s,(∃(i c:Nat) (out:List Int),i+k=a.length/\out.length=i/\c<=1/\dg out/\dv out+dv (b.take i)=dv (a.take i)+1000000000^i*c/\
    ((i=0/\aJ [0,1,5,6,7] s=⟨[(0,v),(1,w),(5,.aa),(6,ab c),(7,ab i)],[],0,0⟩)\/
    (0<i/\aJ [0,1,5,6,7] s=⟨[(0,v),(1,w),(5,.aw 0 0 i),(6,ab c),(7,ab i)],[(0,.cells true true false 1 (out.map ab))],1,0⟩)))->
   ∃ex s',D P L (.loop [0,1,5,6,7] r9) s=some (ex,s')/\∃tm out,ex= .exit 0/\dg out/\dv out+dv b=dv a/\out.length<=20000000000/\((out=[]/\af tm 5= .aa/\s'=⟨tm,[],0,0⟩)\/(0<out.length/\af tm 5= .aw 0 0 out.length/\s'=⟨tm,[(0,.cells true true false 1 (out.map ab))],1,0⟩)):=by
 intro dq sq;generalize a8:aJ [0,1,5,6,7] sq=s0;revert a8 s0 sq dq;apply cY;rintro k s ⟨i,c,out,hk,hlen,hc,nE,aT,hs⟩;have e2:=YV nm hw i;unfold aj at e2;have ga:=iz ha i;have gb:=iz hb i;by_cases zd:i<a.length
 ·left
  obtain ⟨x,hx⟩:∃x,x=a.getD i 0:=⟨_,rfl⟩;obtain ⟨y,hy⟩:∃y,y=b.getD i 0:=⟨_,rfl⟩;have Em:a[i]=x:=by rw [hx];simp [xf,xS zd]
  have e1:=hv.aU zd;rw [Em] at e1;rw [<-hx] at ga;rw [<-hy] at e2 gb;obtain ⟨z,c',hz,qd,kB,mA,nX⟩:∃(z:Int) (c':Nat),z=x-y-c+1000000000*c'/\c'<=1/\0<=z/\z<1000000000/\((x-y-c<0/\c'=1)\/(¬x-y-c<0/\c'=0)):=by
   by_cases h:x-y-c<0
   ·exact ⟨x-y-c+1000000000,1,by omega,by omega,by omega,by omega,.inl ⟨h,rfl⟩⟩
   ·exact ⟨x-y-c,0,by omega,by omega,by omega,by omega,.inr ⟨h,rfl⟩⟩
  have kQ:=atj hx hy ga.1 gb.1 kB hz hlen aT;have Gq:dg (out++[z]):=iy.2 ⟨nE,lD.2 ⟨kB,mA⟩⟩;have TY:(out++[z]).length=i+1:=by simp [hlen]
  have fin:∃s',D P L r9 s=some (.normal,s')/\aJ [0,1,5,6,7] s'=⟨[(0,v),(1,w),(5,.aw 0 0 (i+1)),(6,ab c'),(7,ab (i+1:Nat))],[(0,.cells true true false 1 ((out++[z]).map ab))],1,0⟩:=by
   rcases nX with ⟨iO,rfl⟩ | ⟨iO,rfl⟩
   ·have fq:x-y-c+1000000000=z:=by omega
    rcases hs with ⟨h0,rfl⟩ | ⟨h0,rfl⟩
    ·subst h0;have my:out=[]:=yo hlen;subst my
     simp only [go_sem,ya,yb,xn,yF,yp,yf,r9,hv.len,hw.an,show ((0:Nat):Int)<a.length by omega,e1,e2,wrap64 (n:=x-y) (by omega) (by omega),wrap64 (n:=x-y-(c:Int)) (by omega) (by omega),iO,fq,wrap64 (n:=z) (by omega) (by omega),fQ];refine ⟨_,rfl,?_⟩;rw [wrap64 (by omega) (by omega)];simp only [go_sem,ya,yb,av,aq hv.pu,au _ hv.pu,aq hw.pu,au _ hw.pu]<;>rfl
    ·simp only [go_sem,ya,yb,yp,yf,r9,hv.len,hw.an,show (i:Int)<a.length by omega,e1,e2,wrap64 (n:=x-y) (by omega) (by omega),wrap64 (n:=x-y-(c:Int)) (by omega) (by omega),iO,fq,wrap64 (n:=z) (by omega) (by omega)]
     rw [fC (ex:=false) (pu:=true) (cs:=out.map ab) (by simp only [go_sem,ya]) (by rw [yj,hlen,yf]) (by omega) (by omega) (by decide) (by simp only [go_sem])];simp only [go_sem,ya,yb];refine ⟨_,rfl,?_⟩;rw [wrap64 (by omega) (by omega),xg];simp only [go_sem,ya,yb,av,aq hv.pu,au _ hv.pu,aq hw.pu,au _ hw.pu]<;>rfl
   ·have fq:x-y-c=z:=by omega
    have iO:¬z<0:=by omega
    rcases hs with ⟨h0,rfl⟩ | ⟨h0,rfl⟩
    ·subst h0;have my:out=[]:=yo hlen;subst my
     simp only [go_sem,ya,yb,xn,yF,yp,yf,r9,hv.len,hw.an,show ((0:Nat):Int)<a.length by omega,e1,e2,wrap64 (n:=x-y) (by omega) (by omega),fq,wrap64 (n:=z) (by omega) (by omega),iO,fQ];refine ⟨_,rfl,?_⟩;rw [wrap64 (by omega) (by omega)];simp only [go_sem,ya,yb,av,aq hv.pu,au _ hv.pu,aq hw.pu,au _ hw.pu]<;>rfl
    ·simp only [go_sem,ya,yb,yp,yf,r9,hv.len,hw.an,show (i:Int)<a.length by omega,e1,e2,wrap64 (n:=x-y) (by omega) (by omega),fq,wrap64 (n:=z) (by omega) (by omega),iO]
     rw [fC (ex:=false) (pu:=true) (cs:=out.map ab) (by simp only [go_sem,ya]) (by rw [yj,hlen,yf]) (by omega) (by omega) (by decide) (by simp only [go_sem])];simp only [go_sem,ya,yb];refine ⟨_,rfl,?_⟩;rw [wrap64 (by omega) (by omega),xg];simp only [go_sem,ya,yb,av,aq hv.pu,au _ hv.pu,aq hw.pu,au _ hw.pu]<;>rfl
  obtain ⟨s',f1,f2⟩:=fin;exact ⟨s',k-1,f1,by omega,i+1,c',_,by omega,TY,qd,Gq,kQ,.inr ⟨by omega,f2⟩⟩
 ·right
  have ajz:dv out+dv b=dv a:=by
   rw [yC (by omega),yC (by omega)] at aT;have aZ:=jK nE;rw [hlen] at aZ;rcases (show c=0\/c=1 by omega) with rfl | rfl
   ·omega
   ·omega
  rcases hs with ⟨h0,rfl⟩ | ⟨h0,rfl⟩
  ·simp only [go_sem,ya,r9,hv.len,show ¬(i:Int)<a.length by omega];exact ⟨_,_,rfl,by simp,_,out,rfl,nE,ajz,by omega,.inl ⟨yo (by omega),by simp only [go_sem,ya],rfl⟩⟩
  ·simp only [go_sem,ya,r9,hv.len,show ¬(i:Int)<a.length by omega];exact ⟨_,_,rfl,by simp,_,out,rfl,nE,ajz,by omega,.inr ⟨by omega,by rw [hlen];simp only [go_sem,ya],rfl⟩⟩
def alC (h:Has P L 297 Kr) (nm:Has P L 302 sG) (cZ:Has P L 300 lI) {v w:AV} {a b:List Int} (hv:bC v a) (hw:bC w b) (ha:dg a) (hb:dg b) (na:nz a) (nb:nz b) (la:a.length<=20000000000) (hle:dv b<=dv a):
  ∃r out,aj P L 297 [v,w] r/\bC r out/\shut r=r/\dg out/\nz out/\dv out+dv b=dv a:=by
 have Ek:b.length<=a.length:=by
  by_cases h:a.length<b.length
  ·have:=Th ha nb hb h;omega
  ·omega
 unfold aj;rw [aI h];simp only [go_sem,Kr];generalize hq:D P L (.loop [0,1,5,6,7] r9) _=q;obtain ⟨ex,s,rfl,tm,out,rfl,hd,aT,hl,hs⟩:=bq hq (ay4 (P:=P) (L:=L) nm hv hw ha hb la hle Ek a.length) ⟨0,0,[],by omega,rfl,by omega,rfl,by simp [dv],.inl ⟨rfl,by simp only [go_sem,ya,av,aq hv.pu,au _ hv.pu,aq hw.pu,au _ hw.pu]<;>rfl⟩⟩
 have fm:=ma false out;rcases hs with ⟨h0,h5,rfl⟩ | ⟨h0,h5,rfl⟩
 ·subst h0;obtain ⟨r,e1,hr,jm⟩:=BO cZ (v:= .aa) (l:=[]) oW (by simp);refine ⟨r,eb [],?_,hr,jm,rfl,rfl,by rw [zu];exact aT⟩
  simp only [go_sem,av,h5,e1,jm,hr.fO]
 ·obtain ⟨r,e1,hr,jm⟩:=BO cZ fm hl;refine ⟨r,eb out,?_,hr,jm,AZ hd,ES out,by rw [zu];exact aT⟩
  have jl:∀hp:Hp,jO 0 out.length (some (false,1,out.map ab,hp))=some (.aB false out.length (out.map ab),hp):=fun hp=>kI false (by simp) (by decide)
  simp only [go_sem,yb,av,h5,jl,e1,jm,hr.fO]
end
end
section
open Go (IntKind)
def Cu {hp:Hp} {ct id o:Nat} {v:Int} {ex:Bool} {l:List Int} (h:o<l.length):im hp ct id o 1 [.int .i64 v] (some (.cells true true ex 1 (l.map ab)))=some (.ae [],a6 hp id (.cells true true ex 1 ((l.set o v).map ab)),ct):=by
 rw [qW (by rfl) (by simp;omega) (by rfl)]
 have:over o [AV.int .i64 v] (l.map ab)=(l.set o v).map ab:=by
  simp only [over,yI,yP,ye];rw [ybx,vL,yT (by simpa using h)]
  simp
 rw [this];rfl
def ss {l:List Int} {o:Nat} (h:o<l.length):vT o (l.map ab)=AV.int .i64 (l.getD o 0)::vT (o+1) (l.map ab):=by
 rw [yS (by simpa using h)]
 grind
def qY {v:AV} {l:List Int} (hv:bC v l) {i:Nat} (h:i<l.length):j0 1 i v=some (.cg (.int .i64 (l.getD i 0)::(l.map ab).drop (i+1))):=by
 rw [hv.aU h]
 grind
def atk {o x y c:Int} (ho:0<=o/\o<1000000000) (hx:0<=x/\x<1000000000) (hy:0<=y/\y<1000000000) (hc:0<=c/\c<1000000000):
  (0<=x*y/\x*y<=999999998000000001)/\0<=o+x*y+c/\o+x*y+c<1000000000000000000:=by
 have h1:=tJ hx.1 hy.1;have h2:=ybf (show x<=999999999 by omega) (show y<=999999999 by omega) hy.1 (by decide);omega
section
variable {P:aM} {L:Lib}
def ay5 {v w:AV} {a b:List Int} (hv:bC v a) (hw:bC w b) (ha:dg a) (hb:dg b) (la:a.length<=20000000000) (lb:b.length<=20000000000) {n i:Nat} (hn:n=a.length+b.length) (hi:i<a.length) {out0:List Int}:
  ∀k s,(∃(j:Nat) (c:Int) (out:List Int),aJ [0,1,5,6,7,8] s=⟨[(0,v),(1,w),(5,.aw 0 0 n),(6,ab i),(7,ab c),(8,ab j)],[(0,.cells true true true 1 (out.map ab))],1,0⟩/\j+k=b.length/\out.length=n/\dg out/\(0<=c/\c<1000000000)/\
    dv out+1000000000^i*1000000000^j*c.toNat=dv out0+1000000000^i*((a.getD i 0).toNat*dv (b.take j))/\(∀m,i+b.length<=m->out.getD m 0=out0.getD m 0))->
   ∃ex s',D P L (.loop [0,1,5,6,7,8] Jn) s=some (ex,s')/\∃tm c out,s'=⟨tm,[(0,.cells true true true 1 (out.map ab))],1,0⟩/\ex= .exit 2/\af tm 0=v/\af tm 1=w/\af tm 5= .aw 0 0 n/\af tm 6=ab i/\af tm 7=ab c/\out.length=n/\dg out/\(0<=c/\c<1000000000)/\
    dv out+1000000000^i*1000000000^b.length*c.toNat=dv out0+1000000000^i*((a.getD i 0).toNat*dv b)/\(∀m,i+b.length<=m->out.getD m 0=out0.getD m 0):=by
 intro dq sq;generalize a8:aJ [0,1,5,6,7,8] sq=s0;revert a8 s0 sq dq;apply cY;rintro k s ⟨j,c,out,rfl,hk,hlen,hd,hc,aT,gK⟩;by_cases hj:j<b.length
 ·left
  obtain ⟨x,hx⟩:∃x,x=a.getD i 0:=⟨_,rfl⟩;obtain ⟨y,hy⟩:∃y,y=b.getD j 0:=⟨_,rfl⟩;obtain ⟨o,ho⟩:∃o,o=out.getD (i+j) 0:=⟨_,rfl⟩;have gx:=iz ha i;have gy:=iz hb j;have nC:=iz hd (i+j);rw [<-hx] at gx;rw [<-hy] at gy;rw [<-ho] at nC;obtain ⟨p1,p2,p3⟩:=atk nC gx gy hc;obtain ⟨t,ht⟩:∃t:Nat,o+x*y+c=t:=⟨(o+x*y+c).toNat,by omega⟩;have hr:((t:Nat):Int).tmod 1000000000=((t%1000000000:Nat):Int):=by rw [xZ (by omega)];rfl
  have hq:((t:Nat):Int).tdiv 1000000000=((t/1000000000:Nat):Int):=by rw [wb (by omega)];rfl
  have e1:=qY hv hi;have e2:=qY hw hj;rw [<-hx] at e1;rw [<-hy] at e2;have e3:=ss (l:=out) (o:=i+j) (by omega);rw [<-ho] at e3;have AA:t=o.toNat+x.toNat*y.toNat+c.toNat:=by
   have:((x.toNat*y.toNat:Nat):Int)=x*y:=by rw [vc,yav gx.1,yav gy.1]
   omega
  have a6:=Ti (l:=out) (j:=i+j) (x:=((t%1000000000:Nat):Int)) (by omega);rw [<-ho,xU,wL] at a6;have kQ:=asd (Y:=dv (b.take j)) AA a6 (by rw [hx];exact aT)
  simp only [go_sem,ya,yf,Jn,hw.len,show (j:Int)<b.length by omega,wrapN (n:=i+j) (by omega),show (i:Int)+(j:Int)=((i+j:Nat):Int) from rfl,bN 0 0 (show i+j<n by omega),ye,e3,e1,e2,wrap64 (n:=x*y) (by omega) (by omega),wrap64 (n:=o+x*y) (by omega) (by omega),ht,wrapN (n:=t) (by omega),iV _ _ _ (show (1000000000:Int)≠0 by decide),gL _ _ _ (show (1000000000:Int)≠0 by decide),hr,hq,wrapN (n:=t/1000000000) (by omega),Cu (l:=out) (o:=i+j) (by omega)];refine ⟨_,k-1,rfl,by omega,j+1,((t/1000000000:Nat):Int),out.set (i+j) ((t%1000000000:Nat):Int),?_,by omega,by simp [hlen],NG hd (by omega),by omega,?_,fun m hm=>?_⟩
  ·rw [wrap64 (by omega) (by omega)];simp only [go_sem,ya,yb,av,aq hv.pu,au _ hv.pu,aq hw.pu,au _ hw.pu]<;>rfl
  ·rw [xU,pc,xd,<-hx,<-hy];exact kQ
  ·rw [adR (by omega)];exact gK m hm
 ·right
  have:j=b.length:=by omega
  subst this;rw [xB] at aT;simp only [go_sem,ya,Jn,hw.len,show ¬(b.length:Int)<b.length by omega];exact ⟨_,_,rfl,by simp,_,c,out,rfl,rfl,by simp only [go_sem,ya],by simp only [go_sem,ya],by simp only [go_sem,ya],by simp only [go_sem,ya],by simp only [go_sem,ya],hlen,hd,hc,aT,gK⟩
end
end
section
open Go (IntKind)
def RI (n:Nat):(yk n [AV.int .i64 0]).flatten=(yk n (0:Int)).map ab:=by simp_all
def avk (b:Bool):KJ true (some b)=some (.bool (!b)):=by cases b<;>rfl
def acp (n m:Nat):(yk n (0:Int)).getD m 0=0:=by grind
section
variable {P:aM} {L:Lib}
def ay6 {v w:AV} {a b:List Int} (hv:bC v a) (hw:bC w b) (ha:dg a) (hb:dg b) (la:a.length<=20000000000) (lb:b.length<=20000000000) {n:Nat} (hn:n=a.length+b.length):
  ∀k s,(∃(i:Nat) (out:List Int),aJ [0,1,5,6] s=⟨[(0,v),(1,w),(5,.aw 0 0 n),(6,ab i)],[(0,.cells true true true 1 (out.map ab))],1,0⟩/\i+k=a.length/\out.length=n/\dg out/\dv out=dv (a.take i)*dv b/\(∀m,i+b.length<=m->out.getD m 0=0))->
   ∃ex s',D P L (.loop [0,1,5,6] Jo) s=some (ex,s')/\∃tm out,s'=⟨tm,[(0,.cells true true true 1 (out.map ab))],1,0⟩/\ex= .exit 0/\af tm 5= .aw 0 0 n/\out.length=n/\dg out/\dv out=dv a*dv b:=by
 intro dq sq;generalize a8:aJ [0,1,5,6] sq=s0;revert a8 s0 sq dq;apply cY;rintro k s ⟨i,out,rfl,hk,hlen,hd,aT,gK⟩;by_cases hi:i<a.length
 ·left
  simp only [go_sem,ya,Jo,hv.len,show (i:Int)<a.length by omega];generalize hq:D P L (.loop [0,1,5,6,7,8] Jn) _=q;obtain ⟨ex,s,rfl,tm,c,sL,rfl,rfl,t0,t1,t5,t6,t7,TV,jd,hc,TW,KM⟩:=bq hq (ay5 (P:=P) (L:=L) hv hw ha hb la lb hn hi (out0:=out) b.length) ⟨0,0,out,by simp only [go_sem,ya,yb,av,aq hv.pu,au _ hv.pu,aq hw.pu,au _ hw.pu]<;>rfl,by omega,hlen,hd,by omega,by simp [dv],fun m _=>rfl⟩
  have hz:sL.getD (i+b.length) 0=0:=by rw [KM _ (yv _),gK _ (yv _)]
  have e3:=ss (l:=sL) (o:=i+b.length) (by omega);rw [hz] at e3;have a6:=Ti (l:=sL) (j:=i+b.length) (x:=c) (by omega);rw [hz,wL] at a6
  simp only [go_sem,ya,yf,av,t0,t1,t5,t6,t7,hw.len,aq hv.pu,au _ hv.pu,aq hw.pu,au _ hw.pu,wrapN (n:=i+b.length) (by omega),show (i:Int)+(b.length:Int)=((i+b.length:Nat):Int) from rfl,bN 0 0 (show i+b.length<n by omega),ye,e3,Int.zero_add,wrap64 (n:=c) (by omega) (by omega),Cu (l:=sL) (o:=i+b.length) (by omega)];refine ⟨_,k-1,rfl,by omega,i+1,sL.set (i+b.length) c,?_,by omega,by simp [TV],NG jd hc,?_,fun m hm=>?_⟩
  ·rw [wrap64 (by omega) (by omega)];simp only [go_sem,ya,yb,av,aq hv.pu,au _ hv.pu,aq hw.pu,au _ hw.pu]<;>rfl
  ·rw [pc,wE,<-aT,xp];simp only [Int.toNat_zero,xH,y5] at a6;rw [a6];exact TW
  ·rw [adR (by omega),KM m (by omega),gK m (by omega)]
 ·right
  have:i=a.length:=by omega
  subst this;rw [xB] at aT;simp only [go_sem,ya,Jo,hv.len,show ¬(a.length:Int)<a.length by omega];exact ⟨_,_,rfl,by simp,_,out,rfl,rfl,by simp only [go_sem,ya],hlen,hd,aT⟩
def Zm (h:Has P L 293 BB) (cZ:Has P L 300 lI) {v w:AV} {a b:List Int} (hv:bC v a) (hw:bC w b) (ha:dg a) (hb:dg b) (la:a.length<=8000000000) (lb:b.length<=8000000000):
  ∃r out,aj P L 293 [v,w] r/\bC r out/\shut r=r/\dg out/\nz out/\dv out=dv a*dv b:=by
 obtain ⟨n,hn⟩:∃n,n=a.length+b.length:=⟨_,rfl⟩;have cS:∀ct:Nat,pL ct 1 8 [.int .i64 0] (some n) (some n)=some (.aw ct 0 n,.cells true true true 1 ((yk n (0:Int)).map ab)):=fun ct=>by
  rw [Bh (sz:=1) (by omega) (by omega) (by rfl) (by rfl),RI];rfl
 unfold aj;rw [aI h]
 simp only [go_sem,ya,yb,BB,hv.len,hw.len,wrapN (n:=n) (by omega),show (a.length:Int)+(b.length:Int)=((a.length+b.length:Nat):Int) from rfl,<-hn,cS];generalize hq:D P L (.loop [0,1,5,6] Jo) _=q;obtain ⟨ex,s,rfl,tm,out,rfl,rfl,t5,hlen,hd,aT⟩:=bq hq (ay6 (P:=P) (L:=L) hv hw ha hb (by omega) (by omega) hn a.length) ⟨0,yk n 0,by simp only [go_sem,ya,yb,av,aq hv.pu,au _ hv.pu,aq hw.pu,au _ hw.pu]<;>rfl,by omega,by simp,adT n,by rw [adS];simp [dv],fun m _=>acp n m⟩
 have fm:=ma true out;rw [hlen] at fm;obtain ⟨r,e1,hr,jm⟩:=BO cZ fm (by omega);refine ⟨r,eb out,?_,hr,jm,AZ hd,ES out,by rw [zu];exact aT⟩
 have jl:∀hp:Hp,jO 0 n (some (true,1,out.map ab,hp))=some (.aB true n (out.map ab),hp):=fun hp=>kI true (by simp [hlen]) (by decide)
 simp only [go_sem,yb,av,t5,jl,e1,jm,hr.fO]
def KW (h:Has P L 278 OC) (kU:Has P L 293 BB) (jy:Has P L 294 BC) (cZ:Has P L 300 lI) {v w:AV} {n m:Int} {K:Nat} (hK:K<=8000000000) (hv:kC v n) (hw:kC w m) (hn:n.natAbs<1000000000^K) (hm:m.natAbs<1000000000^K):
  ∃r,aj P L 278 [v,w] r/\kC r (n*m):=by
 obtain ⟨x,a,rfl,hx,ha,na,va⟩:=hv;obtain ⟨y,b,rfl,hy,hb,nb,vb⟩:=hw;have la:=xj (ju ha na (by rw [va];exact hn)) hK
 have lb:=xj (ju hb nb (by rw [vb];exact hm)) hK
 obtain ⟨z,out,e1,hz,jm,hd,Cl,aT⟩:=Zm kU cZ hx hy ha hb la lb;have lo:out.length<=20000000000:=by
  refine ju hd Cl ?_;rw [aT];have h1:=jK ha;have h2:=jK hb;have h3:dv a*dv b<1000000000^a.length*1000000000^b.length:=Nat.mul_lt_mul'' h1 h2;rw [<-wL] at h3;have hk:∀K,a.length+b.length<=K->dv a*dv b<1000000000^K:=fun K h=>yU h3 (yY (by decide) h)
  exact hk 20000000000 (by omega)
 obtain ⟨r,e2,hr⟩:=Ah jy cZ (!(decide (n<0)==decide (m<0))) hz hd lo;have e:cG (!(decide (n<0)==decide (m<0))) (dv out)=n*m:=by
  rw [aT,va,vb];have hnm:((n.natAbs*m.natAbs:Nat):Int)=(n.natAbs:Int)*m.natAbs:=vc _ _;unfold cG;by_cases h0:n<0<;>by_cases h1:m<0<;>simp only [h0,h1,yr,ym,tY,yO,yL,xi,hnm]
  ·rw [show (n.natAbs:Int)= -n by omega,show (m.natAbs:Int)= -m by omega,Int.neg_mul_neg]
  ·rw [show (true==false)=false from rfl,yM,yT rfl,show (n.natAbs:Int)= -n by omega,show (m.natAbs:Int)=m by omega,Int.neg_mul,ybz]
  ·rw [show (false==true)=false from rfl,yM,yT rfl,show (n.natAbs:Int)=n by omega,show (m.natAbs:Int)= -m by omega,Int.mul_neg,ybz]
  ·rw [show (n.natAbs:Int)=n by omega,show (m.natAbs:Int)=m by omega]
 rw [e] at hr;obtain ⟨w2,l2,rfl,iq,il,jS,Ai⟩:=hr;refine ⟨_,?_,w2,l2,rfl,iq,il,jS,Ai⟩;unfold aj at e1 e2 ⊢;rw [aI h];simp only [go_sem,ya,yb,OC,bj,hx.pu,hx.an,hx.one,hy.pu,hy.an,hy.one,hz.an,hz.shut,iq.pu,iq.one,cd,ye,dh,e1,pz,avk,e2,gO,bX];rcases iq with ⟨rfl,_⟩ | ⟨e,rfl⟩<;>rfl
end
end
section
open Go (IntKind)
def avl (i:Nat) (q:List Int) (x:Int):(yk (i+1) (0:Int)++q).set i x=yk i 0++x::q:=by
 rw [List.replicate_succ',xA,List.set_append_right _ _ (by simp)]
 simp
section
variable {P:aM} {L:Lib}
def ay7 {v:AV} {a:List Int} (hv:bC v a) (ha:dg a) (la:a.length<=20000000000) {d:Nat} (h0:0<d) (h1:d<1000000000):
  ∀k s,(∃(j r:Nat) (q:List Int),aJ [0,1,6,7,8] s=⟨[(0,v),(1,ab d),(6,.aw 0 0 a.length),(7,ab r),(8,ab ((j:Int)-1))],[(0,.cells true true true 1 ((yk j (0:Int)++q).map ab))],1,0⟩/\j=k/\j+q.length=a.length/\r<d/\dg q/\dv (a.drop j)=d*dv q+r)->
   ∃ex s',D P L (.loop [0,1,6,7,8] Jp) s=some (ex,s')/\∃tm r q,s'=⟨tm,[(0,.cells true true true 1 (q.map ab))],1,0⟩/\ex= .exit 0/\af tm 6= .aw 0 0 a.length/\af tm 7=ab (r:Nat)/\q.length=a.length/\r<d/\dg q/\dv a=d*dv q+r:=by
 intro dq sq;generalize a8:aJ [0,1,6,7,8] sq=s0;revert a8 s0 sq dq;apply cY;rintro k s ⟨j,r,q,rfl,rfl,hl,hr,hd,aT⟩
 cases j with
 | zero=>
  right
  simp only [go_sem,ya,Jp,show ¬(0:Int)<=((0:Nat):Int)-1 by omega];exact ⟨_,_,rfl,by simp,_,r,q,rfl,rfl,by simp only [go_sem,ya],by simp only [go_sem,ya],by omega,hr,hd,aT⟩
 | succ i=>
  left
  have hi:i<a.length:=by omega
  obtain ⟨x,hx⟩:∃x,x=a.getD i 0:=⟨_,rfl⟩;have e1:=qY hv hi;have gx:=iz ha i;rw [<-hx] at e1 gx;obtain ⟨t,ht⟩:∃t:Nat,t=r*1000000000+x.toNat:=⟨_,rfl⟩;have AA:(r:Int)*1000000000+x=(t:Int):=by omega
  have kw:t<d*1000000000:=by
   omega
  have fy:t/d<1000000000:=(xV h0).2 (by rw [xJ];exact kw)
  have cM:t%d<d:=xE _ h0;have e2:((t:Nat):Int).tdiv d=((t/d:Nat):Int):=by rw [wb (by omega)];rfl
  have e3:((t:Nat):Int).tmod d=((t%d:Nat):Int):=by rw [xZ (by omega)];rfl
  have Lz:(yk (i+1) (0:Int)++q).length=a.length:=by simp;omega
  have aO:=fun (hp:Hp) (ct id:Nat) (ex:Bool)=>Cu (hp:=hp) (ct:=ct) (id:=id) (ex:=ex) (v:=((t/d:Nat):Int)) (l:=yk (i+1) (0:Int)++q) (o:=i) (by rw [Lz];exact hi)
  simp only [avl] at aO
  simp only [go_sem,ya,yf,Jp,show ((i+1:Nat):Int)-1=(i:Int) by omega,show (0:Int)<=(i:Int) by omega,wrap64 (n:=(r:Int)*1000000000) (by omega) (by omega),e1,AA,wrapN (n:=t) (by omega),gL _ _ _ (show (d:Int)≠0 by omega),iV _ _ _ (show (d:Int)≠0 by omega),e2,e3,wrapN (n:=t/d) (by omega),bN 0 0 (show i<a.length from hi),ye,aO]
  refine ⟨_,i,rfl,by omega,i,t%d,((t/d:Nat):Int)::q,?_,rfl,by simp;omega,cM,(iy (a:=[((t/d:Nat):Int)]) (b:=q)).2 ⟨lD.2 ⟨tC _,uB.2 fy⟩,hd⟩,?_⟩
  ·rw [wrap64 (by omega) (by omega)];simp only [go_sem,ya,yb,av,aq hv.pu,au _ hv.pu]<;>rfl
  ·have jj:a.drop i=x::a.drop (i+1):=by
    rw [yS hi,hx];simp [xf,xS hi]
   rw [jj];simp only [dv,aT,xU];have e:=xR t d;rw [xG,xG d,Nat.mul_left_comm 1000000000 d];omega
def alD (h:Has P L 299 BD) (cZ:Has P L 300 lI) {v:AV} {a:List Int} (hv:bC v a) (ha:dg a) (la:a.length<=20000000000) {d:Nat} (h0:0<d) (h1:d<1000000000):
  ∃r q,aj P L 299 [v,ab d] (.ae [r,ab (dv a%d:Nat)])/\bC r q/\shut r=r/\bQ r=r/\dg q/\nz q/\dv q=dv a/d:=by
 obtain ⟨n,hn⟩:∃n,n=a.length:=⟨_,rfl⟩;have cS:∀ct:Nat,pL ct 1 8 [.int .i64 0] (some n) (some n)=some (.aw ct 0 n,.cells true true true 1 ((yk n (0:Int)).map ab)):=fun ct=>by
  rw [Bh (sz:=1) (by omega) (by omega) (by rfl) (by rfl),RI];rfl
 unfold aj;rw [aI h];simp only [go_sem,ya,yb,BD,hv.len,<-hn,cS];generalize hq:D P L (.loop [0,1,6,7,8] Jp) _=q;obtain ⟨ex,s,rfl,tm,r,qs,rfl,rfl,t6,t7,hlen,hr,hd,aT⟩:=bq hq (ay7 (P:=P) (L:=L) hv ha la h0 h1 a.length) ⟨a.length,0,[],by
  rw [wrap64 (by omega) (by omega),wo,<-hn]
  simp only [go_sem,ya,yb,av,aq hv.pu,au _ hv.pu]<;>rfl,rfl,by simp,h0,rfl,by rw [xh (yv _)];simp [dv]⟩
 have fm:=ma true qs;rw [hlen] at fm;obtain ⟨w,e1,hw,jm⟩:=BO cZ fm (by omega);have fW:dv a/d=dv qs/\dv a%d=r:=(Nat.div_mod_unique h0).2 ⟨by omega,hr⟩;refine ⟨w,eb qs,?_,hw,jm,hw.bQ,AZ hd,ES qs,by rw [zu,fW.1]⟩;have jl:∀hp:Hp,jO 0 a.length (some (true,1,qs.map ab,hp))=some (.aB true a.length (qs.map ab),hp):=fun hp=>kI true (by simp [hlen]) (by decide)
 rw [fW.2];simp only [go_sem,ya,yb,av,t6,t7,jl,e1,jm];rcases hw with ⟨rfl,_⟩ | ⟨e,rfl⟩<;>rfl
def aCF (h:Has P L 279 FQ) (Zn:Has P L 295 Kq) (oh:Has P L 296 sF) (PS:Has P L 297 Kr) (nm:Has P L 302 sG) (jy:Has P L 294 BC) (cZ:Has P L 300 lI) {v w:AV} {n m:Int} {K:Nat} (hK:K<=8000000000) (hv:kC v n) (hw:kC w m) (hn:n.natAbs<1000000000^K) (hm:m.natAbs<1000000000^K):
  ∃r,aj P L 279 [v,w] r/\kC r (n+m):=by
 obtain ⟨x,a,rfl,hx,ha,na,va⟩:=hv;obtain ⟨y,b,rfl,hy,hb,nb,vb⟩:=hw;have la:=xj (ju ha na (by rw [va];exact hn)) hK
 have lb:=xj (ju hb nb (by rw [vb];exact hm)) hK
 by_cases hs:(decide (n<0)==decide (m<0))=true
 ·obtain ⟨z,out,e1,hz,hd,aT,hl⟩:=aCE Zn nm hx hy ha hb (by omega) (by omega);have lo:out.length<=20000000000:=by omega
  obtain ⟨r,e2,hr⟩:=Ah jy cZ (decide (n<0)) hz hd lo;have e:cG (decide (n<0)) (dv out)=n+m:=by
   have zi:(n<0)=(m<0):=by simpa using eq_of_beq hs
   rw [aT,va,vb];unfold cG;by_cases h0:n<0
   ·have h1:m<0:=zi▸h0;simp only [h0,yr,xD];omega
   ·have h1:¬m<0:=zi▸h0;simp only [h0,ym,yL,xi];omega
  rw [e] at hr;obtain ⟨w2,l2,rfl,iq,il,jS,Ai⟩:=hr;refine ⟨_,?_,w2,l2,rfl,iq,il,jS,Ai⟩;unfold aj at e1 e2 ⊢;rw [aI h];simp only [go_sem,ya,yb,FQ,bj,hx.pu,hx.an,hx.one,hy.pu,hy.an,hy.one,hz.an,iq.pu,iq.one,cd,ye,dh,e1,pz,eG,hs,e2,gO,bX];rcases iq with ⟨rfl,_⟩ | ⟨e,rfl⟩<;>rfl
 ·have hs:(decide (n<0)==decide (m<0))=false:=by simpa using hs
  have zi:¬((n<0)=(m<0)):=fun e=>by simp [e] at hs
  have ec:=Zl oh hx hy ha hb na nb (by omega) (by omega);by_cases hc:dv a<dv b
  ·have eC:dV (dv a) (dv b)= -1:=by unfold dV;rw [yT hc]
   rw [eC] at ec;obtain ⟨z,out,e1,hz,jm,hd,Cl,aT⟩:=alC PS nm cZ hy hx hb ha nb na (by omega) (by omega);have lo:out.length<=20000000000:=by
    refine ju hd Cl ?_
    have:=jK hb
    have hk:∀K,b.length<=K->dv out<1000000000^K:=fun K h=>yU (show dv out<1000000000^b.length by omega) (yY (by decide) h)
    exact hk 20000000000 (by omega)
   obtain ⟨r,e2,hr⟩:=Ah jy cZ (decide (m<0)) hz hd lo;have e:cG (decide (m<0)) (dv out)=n+m:=by
    rw [va,vb] at aT;unfold cG;by_cases h0:m<0
    ·have h1:¬n<0:=fun h1=>zi (by simp [h0,h1])
     simp only [h0,yr,xD];omega
    ·have h1:n<0:=by
      by_cases h1:n<0
      ·exact h1
      ·exact absurd (by simp [h0,h1]) zi
     simp only [h0,ym,yL,xi];omega
   rw [e] at hr;obtain ⟨w2,l2,rfl,iq,il,jS,Ai⟩:=hr;refine ⟨_,?_,w2,l2,rfl,iq,il,jS,Ai⟩;unfold aj at e1 e2 ec ⊢;rw [aI h];simp only [go_sem,ya,yb,FQ,bj,hx.pu,hx.an,hx.one,hy.pu,hy.an,hy.one,hz.an,hz.shut,iq.pu,iq.one,cd,ye,dh,e1,pz,eG,hs,ec,show ¬(0:Int)<=-1 by decide,e2,gO,bX];rcases iq with ⟨rfl,_⟩ | ⟨e,rfl⟩<;>rfl
  ·have eC:(0:Int)<=dV (dv a) (dv b):=by unfold dV;rw [yD hc];split<;>decide
   obtain ⟨z,out,e1,hz,jm,hd,Cl,aT⟩:=alC PS nm cZ hx hy ha hb na nb (by omega) (by omega);have lo:out.length<=20000000000:=by
    refine ju hd Cl ?_
    have:=jK ha
    have hk:∀K,a.length<=K->dv out<1000000000^K:=fun K h=>yU (show dv out<1000000000^a.length by omega) (yY (by decide) h)
    exact hk 20000000000 (by omega)
   obtain ⟨r,e2,hr⟩:=Ah jy cZ (decide (n<0)) hz hd lo;have e:cG (decide (n<0)) (dv out)=n+m:=by
    rw [va,vb] at aT;unfold cG;by_cases h0:n<0
    ·have h1:¬m<0:=fun h1=>zi (by simp [h0,h1])
     simp only [h0,yr,xD];omega
    ·have h1:m<0:=by
      by_cases h1:m<0
      ·exact h1
      ·exact absurd (by simp [h0,h1]) zi
     simp only [h0,ym,yL,xi];omega
   rw [e] at hr;obtain ⟨w2,l2,rfl,iq,il,jS,Ai⟩:=hr;refine ⟨_,?_,w2,l2,rfl,iq,il,jS,Ai⟩;unfold aj at e1 e2 ec ⊢;rw [aI h];simp only [go_sem,ya,yb,FQ,bj,hx.pu,hx.an,hx.one,hy.pu,hy.an,hy.one,hz.an,hz.shut,iq.pu,iq.one,cd,ye,dh,e1,pz,eG,hs,ec,eC,e2,gO,bX];rcases iq with ⟨rfl,_⟩ | ⟨e,rfl⟩<;>rfl
end
end
section
open Go (IntKind)
section
variable {P:aM} {L:Lib}
def ahA {l:List Int} (hd:dg l) (hn:nz l) (h:dv l<1000000000):l.length<=1:=ju hd hn (by simpa using h)
def aCG (h:Has P L 289 sE) (oh:Has P L 296 sF) (pP:Has P L 299 BD) (cZ:Has P L 300 lI) {v w:AV} {a b:List Int} (hv:bC v a) (hw:bC w b) (ha:dg a) (hb:dg b) (na:nz a) (nb:nz b) (la:a.length<=20000000000) (lb:b.length<=1) (h0:0<dv b):
  ∃q r lq lr,aj P L 289 [v,w] (.ae [q,r])/\bC q lq/\bC r lr/\dg lq/\nz lq/\dg lr/\nz lr/\dv lq=dv a/dv b/\dv lr=dv a%dv b:=by
 have ec:=Zl oh hv hw ha hb na nb la (by omega);by_cases hc:dv a<dv b
 ·have eC:dV (dv a) (dv b)= -1:=by unfold dV;rw [yT hc]
  rw [eC] at ec;refine ⟨.aa,v,[],a,?_,oW,hv,rfl,rfl,ha,na,?_,?_⟩
  ·unfold aj;rw [aI h];simp only [go_sem,ya,sE,hv.an,hw.an,ec,show (-1:Int)<0 by decide];rcases hv with ⟨rfl,_⟩ | ⟨e,rfl⟩<;>rfl
  ·rw [Nat.div_eq_of_lt hc];rfl
  ·rw [Nat.mod_eq_of_lt hc]
 ·have eC:¬dV (dv a) (dv b)<0:=by unfold dV;rw [yD hc];split<;>decide
  have ns:b.length=1:=by
   rcases xq b.length with e | e
   ·rw [yo e] at h0;simp [dv] at h0
   ·omega
  obtain ⟨x,rfl⟩:∃x,b=[x]:=by
   cases b with
   | nil=>simp at ns
   | cons x r=>cases r with
    | nil=>exact ⟨x,rfl⟩
    | cons y r=>simp at ns
  have gx:=lD.1 hb;obtain ⟨d,hd⟩:∃d:Nat,x=d:=⟨x.toNat,by omega⟩;subst hd;have hdd:dv [((d:Nat):Int)]=d:=by simp [dv]
  rw [hdd] at h0 hc eC ec ⊢;obtain ⟨q,lq,e1,hq,lh,aCH,dq,nq,vq⟩:=alD pP cZ hv ha la h0 (by omega);have ajw:dv a%d<d:=xE _ h0;generalize dv a%d=m at*
  obtain ⟨r,e2,hr,hrs⟩:=BO cZ (ma true [(m:Int)]) (by simp);refine ⟨q,r,lq,eb [(m:Int)],?_,hq,hr,dq,nq,AZ (lD.2 (by omega)),ES _,vq,by rw [zu];simp [dv]⟩;have e3:=hw.aU (i:=0) (by simp);simp only [yI,yP,ye,xc,vv,List.getElem_cons_zero] at e2 e3;unfold aj;rw [aI h];simp only [go_sem,ya,yb,yF,yp,yf,sE,hv.an,hw.len,hw.an,ec,eC,yI,yP,show ((1:Nat):Int)=(1:Int) from rfl,yr,e3,e1,aCH,e2,hrs];rcases hq with ⟨rfl,_⟩ | ⟨e,rfl⟩<;>rcases hr with ⟨rfl,_⟩ | ⟨e',rfl⟩<;>rfl
end
end
section
open Go (IntKind)
def sv:List Int->Int
 | []=>0
 | a::r=>a+1000000000*sv r
def adf:∀(a b:List Int),sv (a++b)=sv a+1000000000^a.length*sv b
 | [],b=>by simp [sv]
 | x::a,b=>by
  simp only [List.cons_append,sv,adf a b,yI,tc,ybP]
  grind
def ay8 (x:Int):sv [x]=x:=by simp [sv]
def Fw:∀{l:List Int} {i:Nat} {x:Int},i<l.length->sv (l.set i x)=sv l+1000000000^i*(x-l.getD i 0)
 | [],i,x,h=>by simp at h
 | a::l,0,x,_=>by simp [sv];omega
 | a::l,i+1,x,h=>by
  have ih:=Fw (l:=l) (i:=i) (x:=x) (by simpa using h);simp only [List.set_cons_succ,sv,List.getD_cons_succ,ih,tc,ybP]
  grind
def Nx {l:List Int} (i:Nat):sv (l.take (i+1))=sv (l.take i)+1000000000^i*l.getD i 0:=by
 by_cases h:i<l.length
 ·rw [List.take_succ_eq_append_getElem h,adf,yy,xm (by omega),ay8]
  grind
 ·rw [yC (by omega),yC (by omega),IJ (by omega),Int.mul_zero,Int.add_zero]
def zX:∀{l:List Int},dg l->sv l=dv l
 | [],_=>rfl
 | a::l,h=>by
  obtain ⟨h1,h2⟩:=iy.1 (show dg ([a]++l) from h);have h1:=lD.1 h1;simp only [sv,dv,zX h2,yaS,vc];omega
section
variable {pre x post:List Int} {i:Nat}
def nT:(pre++x++post).length=pre.length+x.length+post.length:=by grind
def Bj (h:i<x.length):(pre++x++post).getD (pre.length+i) 0=x.getD i 0:=by grind
def NM (a:Int) (h:i<x.length):(pre++x++post).set (pre.length+i) a=pre++x.set i a++post:=by simp_all
end
def aiS {l:List Int} {i m:Nat} {x:Int} (h:i≠m):(l.set i x).getD m 0=l.getD m 0:=by simp_all
def arf {l:List Int} {i:Nat} {x:Int} (h:i<l.length):(l.set i x).getD i 0=x:=by simp_all
abbrev H3 (q u:List Int) (f:Int):Hp:=[(2,.cells true true true 1 (q.map ab)),(1,.cells true true false 1 (u.map ab)),(0,.cells false true true 1 [ab f])]
def M4 {live:List Nat} {tm:Env} {ct:Nat} {a b c:List AV} (ht:qS 3 (cC tm live)) (hl:(fL (cC tm live)).length<100000):
  aJ live ⟨tm,[(2,.cells true true true 1 a),(1,.cells true true false 1 b),(0,.cells false true true 1 c)],ct,3⟩=⟨cC tm live,[(2,.cells true true true 1 a),(1,.cells true true false 1 b),(0,.cells false true true 1 c)],3,3⟩:=
 abK ht ⟨by omega,.inl rfl,by omega,.inl rfl,by omega,.inl rfl,trivial⟩ (by
  have:jr 3 [(2,Obj.cells true true true 1 a),(1,Obj.cells true true false 1 b),(0,Obj.cells false true true 1 c)]=[]:=rfl
  rw [this,yP,y5];exact hl)
structure gh (x vs:List Int) (n v1 v2 u0 u1 u2:Nat):Prop where
 n2:2<=n
 nb:n<=20000000000
 lx:x.length=n+1
 lv:vs.length=n
 gx:dg x
 gv:dg vs
 fb:vs.getD (n-1) 0=(v1:Int)
 dF:vs.getD (n-2) 0=(v2:Int)
 h0:x.getD n 0=(u0:Int)
 h1:x.getD (n-1) 0=(u1:Int)
 h2:x.getD (n-2) 0=(u2:Int)
 pos:0<v1
 lt:dv x<1000000000*dv vs
section
variable {x vs:List Int} {n v1 v2 u0 u1 u2:Nat}
def gh.LB (h:gh x vs n v1 v2 u0 u1 u2):v1<1000000000:=by have:=iz h.gv (n-1);rw [h.fb] at this;omega
def gh.Ea (h:gh x vs n v1 v2 u0 u1 u2):v2<1000000000:=by have:=iz h.gv (n-2);rw [h.dF] at this;omega
def gh.u0W (h:gh x vs n v1 v2 u0 u1 u2):u0<1000000000:=by have:=iz h.gx n;rw [h.h0] at this;omega
def gh.LC (h:gh x vs n v1 v2 u0 u1 u2):u1<1000000000:=by have:=iz h.gx (n-1);rw [h.h1] at this;omega
def gh.LD (h:gh x vs n v1 v2 u0 u1 u2):u2<1000000000:=by have:=iz h.gx (n-2);rw [h.h2] at this;omega
def gh.parts (h:gh x vs n v1 v2 u0 u1 u2):∃p vr ur,dv vs=(v1*1000000000+v2)*p+vr/\vr<p/\dv x=((u0*1000000000+u1)*1000000000+u2)*p+ur/\ur<p:=by
 obtain ⟨m,hm⟩:∃m,n=m+2:=⟨n-2,by have:=h.n2;omega⟩;subst hm;have e1:=pc (l:=vs) (m+1);have e2:=pc (l:=vs) m;have f0:=pc (l:=x) (m+2);have f1:=pc (l:=x) (m+1);have f2:=pc (l:=x) m;have fb:vs.getD (m+1) 0=(v1:Int):=h.fb;have dF:vs.getD m 0=(v2:Int):=h.dF;have h0:x.getD (m+2) 0=(u0:Int):=h.h0;have h1:x.getD (m+1) 0=(u1:Int):=h.h1;have h2:x.getD m 0=(u2:Int):=h.h2
 rw [yC (by have:=h.lv;omega),fb,e2,dF] at e1
 rw [yC (by have:=h.lx;omega),h0,f1,h1,f2,h2] at f0;simp only [xU] at e1 f0;have g1:=jK (CP h.gv m)
 rw [yy,xm (by have:=h.lv;omega)] at g1;have g2:=jK (CP h.gx m)
 rw [yy,xm (by have:=h.lx;omega)] at g2;refine ⟨1000000000^m,_,_,?_,g1,?_,g2⟩
 ·rw [e1,xd,aAI]
 ·rw [f0,show 1000000000^(m+2)=1000000000^m*1000000000*1000000000 by rw [xd,xd],xd,aAJ]
def gh.down (h:gh x vs n v1 v2 u0 u1 u2) {t r:Nat} (ht:t*v1+r=u0*1000000000+u1) (hr:r*1000000000+u2<t*v2):dv x/dv vs<=t-1:=by
 obtain ⟨p,vr,ur,h1,h2,h3,h4⟩:=h.parts;exact aca h1 h3 h4 ht hr
def gh.stop (h:gh x vs n v1 v2 u0 u1 u2) {t r:Nat} (kw:t<1000000000) (ht:t*v1+r=u0*1000000000+u1) (hr:1000000000<=r\/t*v2<=r*1000000000+u2):t<=dv x/dv vs+1:=by
 obtain ⟨p,vr,ur,h1,h2,h3,h4⟩:=h.parts;exact acV (by decide) h1 h2 h3 h.pos h.Ea kw ht hr
def gh.first (h:gh x vs n v1 v2 u0 u1 u2):dv x/dv vs<=(u0*1000000000+u1)/v1:=by
 obtain ⟨p,vr,ur,h1,h2,h3,h4⟩:=h.parts;exact Ru h1 h3 h4 h.LD h.pos
def gh.top (h:gh x vs n v1 v2 u0 u1 u2):u0<=v1:=by
 obtain ⟨p,vr,ur,h1,h2,h3,h4⟩:=h.parts;exact acW h1 h3 h2 h.Ea h.lt
def gh.digit (h:gh x vs n v1 v2 u0 u1 u2):dv x/dv vs<1000000000:=by
 refine (xV ?_).2 h.lt;rcases xq (dv vs) with h0 | h0
 ·have:=h.lt;rw [h0] at this;simp at this
 ·exact h0
def gh.small (h:gh x vs n v1 v2 u0 u1 u2) {t r:Nat} (ht:t*v1+r=u0*1000000000+u1) (hb:1000000000<=t):r<1000000000:=by
 have h1:=h.top;have h2:=h.LC;have h3:=Nat.mul_le_mul_right v1 hb
 grind
end
def aCI {r u:Nat} (hr:r<1000000000) (hu:u<1000000000):r*1000000000<9223372036854775808/\r*1000000000+u<9223372036854775808:=by omega
section
variable {P:aM} {L:Lib}
def avm {w:AV} {x vs pre post qs:List Int} {f:Int} (hw:bC w vs) {n v1 v2 u0 u1 u2 M:Nat} (hl:gh x vs n v1 v2 u0 u1 u2) (hM:M=pre.length+x.length+post.length) (LS:M<=50000000000):
  ∀k s,(∃t r:Nat,aJ [0,1,2,7,9,10] s=⟨[(0,.aw 1 0 M),(1,w),(2,ab pre.length),(7,ab n),(9,ab t),(10,ab r)],H3 qs (pre++x++post) f,3,3⟩/\t*v1+r=u0*1000000000+u1/\r<1000000000/\dv x/dv vs<=t/\t=k)->
   ∃ex s',D P L (.loop [0,1,2,7,9,10] Bf) s=some (ex,s')/\∃tm ct t,s'=⟨tm,H3 qs (pre++x++post) f,ct,3⟩/\((ex= .exit 0/\af tm 9=ab (t:Nat))\/(ex= .ret/\af tm 6=ab (t:Nat)))/\ct=3/\t<1000000000/\dv x/dv vs<=t/\t<=dv x/dv vs+1:=by
 intro dq sq;generalize a8:aJ [0,1,2,7,9,10] sq=s0;revert a8 s0 sq dq;apply cY;rintro k s ⟨t,r,rfl,ht,hr,hQ,rfl⟩;have eB:=hl.n2;have p0:=hl.nb;have hlx:=hl.lx;have Gl:=hl.LB;have YW:=hl.Ea;have ak8:=hl.LD;have aCJ:=hl.u0W;have PH:=hl.LC;have BX:=hl.pos;have qg:=qY hw (i:=n-2) (by have:=hl.lv;omega);have fc:=qY hw (i:=n-1) (by have:=hl.lv;omega);rw [hl.dF] at qg;rw [hl.fb] at fc;have ze:=ss (l:=pre++x++post) (o:=pre.length+(n-2)) (by rw [nT];omega);rw [Bj (by omega),hl.h2] at ze;have AG:(n:Int)-2=((n-2:Nat):Int):=by omega
 have qh:(n:Int)-1=((n-1:Nat):Int):=by omega
 have LU:(pre.length:Int)+(n:Int)=((pre.length+n:Nat):Int):=rfl;have pn2:((pre.length+n:Nat):Int)-2=((pre.length+(n-2):Nat):Int):=by omega
 have aIM:t<=1000000000000000000:=by
  have:=yZ t BX
  omega
 have aIN:t*1<=t*v1:=yZ t BX;obtain ⟨rm1,rm2⟩:=aCI hr ak8;by_cases zd:1000000000<=t\/r*1000000000+u2<t*v2
 ·have ht0:0<t:=by
   rcases xq t with h0 | h0
   ·subst h0;omega
   ·exact h0
  have h1:(t-1)*v1+(r+v1)=u0*1000000000+u1:=by
   obtain ⟨p,rfl⟩:∃p,t=p+1:=⟨t-1,by omega⟩;rw [wE,Nat.one_mul] at ht;rw [Nat.add_sub_cancel];omega
  have Eb:dv x/dv vs<=t-1:=by
   rcases zd with h | h
   ·have:=hl.digit;generalize dv x/dv vs=q at*;omega
   ·exact hl.down ht h
  have QT:((t:Nat):Int)-1=((t-1:Nat):Int):=by omega
  have stop:1000000000<=r+v1->t-1<1000000000/\t-1<=dv x/dv vs+1:=fun hb=>by
   have aZ:t-1<1000000000:=by
    by_cases sT:1000000000<=t-1
    ·have:=hl.small h1 sT;omega
    ·omega
   exact ⟨aZ,hl.stop aZ h1 (.inl hb)⟩
  by_cases hb:1000000000<=t
  ·by_cases mB:1000000000<=r+v1
   ·right
    obtain ⟨s1,s2⟩:=stop mB
    simp only [go_sem,ya,Bf,H3,show (1000000000:Int)<=(t:Int) by omega,QT,wrapN (n:=t-1) (by omega),qh,wrapN (n:=n-1) (by omega),fc,show (r:Int)+(v1:Int)=((r+v1:Nat):Int) from rfl,wrapN (n:=r+v1) (by omega),show (1000000000:Int)<=((r+v1:Nat):Int) by omega];exact ⟨_,_,rfl,by simp,_,_,t-1,rfl,.inr ⟨rfl,by simp only [go_sem]⟩,rfl,s1,Eb,s2⟩
   ·left
    simp only [go_sem,ya,Bf,H3,show (1000000000:Int)<=(t:Int) by omega,QT,wrapN (n:=t-1) (by omega),qh,wrapN (n:=n-1) (by omega),fc,show (r:Int)+(v1:Int)=((r+v1:Nat):Int) from rfl,wrapN (n:=r+v1) (by omega),show ¬(1000000000:Int)<=((r+v1:Nat):Int) by omega];refine ⟨_,t-1,rfl,by omega,t-1,r+v1,?_,h1,by omega,Eb,rfl⟩;rw [M4 (by simp only [go_sem,ya,yF,mg,mT,mb,lZ,qG hw.pu,vl]) (by simp only [go_sem,ya,yb,yF,aq hw.pu])];simp only [go_sem,ya]
  ·have Ca:=wu (show t<=999999999 by omega) (show v2<=999999999 by omega);have Zo:r*1000000000+u2<t*v2:=zd.resolve_left hb;obtain ⟨m,hm⟩:∃m,t*v2=m:=⟨_,rfl⟩;have em:(t:Int)*(v2:Int)=(m:Int):=by rw [<-hm,vc]
   rw [hm] at Zo Ca;have GX:(r:Int)*1000000000=((r*1000000000:Nat):Int):=by omega
   have Cg:((r*1000000000:Nat):Int)+(u2:Int)=((r*1000000000+u2:Nat):Int):=rfl;by_cases mB:1000000000<=r+v1
   ·right
    obtain ⟨s1,s2⟩:=stop mB
    simp only [go_sem,ya,yf,Bf,H3,show ¬(1000000000:Int)<=(t:Int) by omega,AG,wrapN (n:=n-2) (by omega),qg,em,wrapN (n:=m) (by omega),GX,wrapN rm1,LU,wrapN (n:=pre.length+n) (by omega),pn2,wrapN (n:=pre.length+(n-2)) (by omega),bN 1 0 (show pre.length+(n-2)<M by omega),ye,ze,Cg,wrapN rm2,show ((r*1000000000+u2:Nat):Int)<(m:Int) from uB.2 Zo,QT,wrapN (n:=t-1) (by omega),qh,wrapN (n:=n-1) (by omega),fc,show (r:Int)+(v1:Int)=((r+v1:Nat):Int) from rfl,wrapN (n:=r+v1) (by omega),show (1000000000:Int)<=((r+v1:Nat):Int) by omega];exact ⟨_,_,rfl,by simp,_,_,t-1,rfl,.inr ⟨rfl,by simp only [go_sem]⟩,rfl,s1,Eb,s2⟩
   ·left
    simp only [go_sem,ya,yf,Bf,H3,show ¬(1000000000:Int)<=(t:Int) by omega,AG,wrapN (n:=n-2) (by omega),qg,em,wrapN (n:=m) (by omega),GX,wrapN rm1,LU,wrapN (n:=pre.length+n) (by omega),pn2,wrapN (n:=pre.length+(n-2)) (by omega),bN 1 0 (show pre.length+(n-2)<M by omega),ye,ze,Cg,wrapN rm2,show ((r*1000000000+u2:Nat):Int)<(m:Int) from uB.2 Zo,QT,wrapN (n:=t-1) (by omega),qh,wrapN (n:=n-1) (by omega),fc,show (r:Int)+(v1:Int)=((r+v1:Nat):Int) from rfl,wrapN (n:=r+v1) (by omega),show ¬(1000000000:Int)<=((r+v1:Nat):Int) by omega];refine ⟨_,t-1,rfl,by omega,t-1,r+v1,?_,h1,by omega,Eb,rfl⟩;rw [M4 (by simp only [go_sem,ya,yF,mg,mT,mb,lZ,qG hw.pu,vl]) (by simp only [go_sem,ya,yb,yF,aq hw.pu])];simp only [go_sem,ya]
 ·right
  have kw:t<1000000000:=Nat.lt_of_not_le fun e=>zd (.inl e)
  have Ca:=wu (show t<=999999999 from tM kw) (show v2<=999999999 from tM YW);have Zp:t*v2<=r*1000000000+u2:=Nat.le_of_not_lt fun e=>zd (.inr e)
  have aAT:=hl.stop kw ht (.inr Zp);obtain ⟨m,hm⟩:∃m,t*v2=m:=⟨_,rfl⟩;have em:(t:Int)*(v2:Int)=(m:Int):=by rw [<-hm,vc]
  rw [hm] at Zp Ca;have GX:(r:Int)*1000000000=((r*1000000000:Nat):Int):=by omega
  have Cg:((r*1000000000:Nat):Int)+(u2:Int)=((r*1000000000+u2:Nat):Int):=rfl
  simp only [go_sem,ya,yf,Bf,H3,show ¬(1000000000:Int)<=(t:Int) by omega,AG,wrapN (n:=n-2) (by omega),qg,em,wrapN (n:=m) (by omega),GX,wrapN rm1,LU,wrapN (n:=pre.length+n) (by omega),pn2,wrapN (n:=pre.length+(n-2)) (by omega),bN 1 0 (show pre.length+(n-2)<M by omega),ye,ze,Cg,wrapN rm2,show ¬((r*1000000000+u2:Nat):Int)<(m:Int) from fun e=>Nat.not_lt_of_le Zp (uB.1 e)];exact ⟨_,_,rfl,by simp,_,_,t,rfl,.inl ⟨rfl,by simp only [go_sem,ya]⟩,rfl,kw,hQ,aAT⟩
def aAU (h:Has P L 301 Aa) {w:AV} {x vs pre post qs:List Int} {f:Int} (hw:bC w vs) {n v1 v2 u0 u1 u2 M:Nat} (hl:gh x vs n v1 v2 u0 u1 u2) (hM:M=pre.length+x.length+post.length) (LS:M<=50000000000):
  ∃t:Nat,hZ P L (D P L) (H3 qs (pre++x++post) f) 3 301 [.aw 1 0 M,w,ab pre.length]=some (ab t,H3 qs (pre++x++post) f,3)/\t<1000000000/\dv x/dv vs<=t/\t<=dv x/dv vs+1:=by
 have eB:=hl.n2;have p0:=hl.nb;have hlx:=hl.lx;have zg:below 3 w:=qG hw.pu;have Gl:=hl.LB;have aCJ:=hl.u0W;have PH:=hl.LC;have BX:=hl.pos;have fc:=qY hw (i:=n-1) (by have:=hl.lv;omega);rw [hl.fb] at fc;have Ci:=ss (l:=pre++x++post) (o:=pre.length+n) (by rw [nT];omega);rw [Bj (by omega),hl.h0] at Ci;have Cj:=ss (l:=pre++x++post) (o:=pre.length+(n-1)) (by rw [nT];omega);rw [Bj (by omega),hl.h1] at Cj;have qh:(n:Int)-1=((n-1:Nat):Int):=by omega
 have LU:(pre.length:Int)+(n:Int)=((pre.length+n:Nat):Int):=rfl;have pn1:((pre.length+n:Nat):Int)-1=((pre.length+(n-1):Nat):Int):=by omega
 obtain ⟨m,hm⟩:∃m,m=u0*1000000000+u1:=⟨_,rfl⟩;have em:(u0:Int)*1000000000=((u0*1000000000:Nat):Int):=by omega
 have em2:((u0*1000000000:Nat):Int)+(u1:Int)=(m:Int):=by omega
 have fW:=xR m v1;have sM:=xE m BX;have NL:=hl.first;rw [<-hm] at NL;have aI2:m/v1<=m:=Nat.div_le_self _ _;have oq:IntKind.wrap .i64 ((m:Int).tdiv (v1:Int))=((m/v1:Nat):Int):=by
  rw [wb (by omega),<-Int.natCast_ediv,wrapN (by omega)]
 have or':(m:Int).tmod (v1:Int)=((m%v1:Nat):Int):=by rw [xZ (by omega),<-Int.natCast_emod]
 rw [xJ] at fW;generalize m/v1=q0 at*
 generalize m%v1=r0 at*
 have jc:∃ex tm t,D P L Aa.body ⟨dM 0 [.aw 1 0 M,w,ab pre.length],H3 qs (pre++x++post) f,3,3⟩=some (ex,⟨tm,H3 qs (pre++x++post) f,3,3⟩)/\(ex= .normal\/ex= .ret)/\af tm 6=ab (t:Nat)/\t<1000000000/\dv x/dv vs<=t/\t<=dv x/dv vs+1:=by
  simp only [go_sem,ya,yf,Aa,H3,hw.len,hl.lv,LU,wrapN (n:=pre.length+n) (by omega),bN 1 0 (show pre.length+n<M by omega),ye,Ci,em,wrapN (n:=u0*1000000000) (by omega),pn1,wrapN (n:=pre.length+(n-1)) (by omega),bN 1 0 (show pre.length+(n-1)<M by omega),Cj,em2,wrapN (n:=m) (by omega),qh,wrapN (n:=n-1) (by omega),fc,gL _ _ _ (show (v1:Int)≠0 by omega),iV _ _ _ (show (v1:Int)≠0 by omega),oq,or'];generalize mG:D P L (.loop [0,1,2,7,9,10] Bf) _=qq;obtain ⟨ex,s,rfl,tm,ct,t,rfl,Gh,rfl,g1,g2,g3⟩:=bq mG (avm (P:=P) (L:=L) (qs:=qs) (f:=f) hw hl hM LS q0) ⟨q0,r0,by
   rw [M4 (by simp only [go_sem,ya,yF,mg,mT,mb,lZ,zg,vl]) (by simp only [go_sem,ya,yb,yF,aq hw.pu])]
   simp only [go_sem,ya],by omega,by omega,NL,rfl⟩
  rcases Gh with ⟨rfl,h9⟩ | ⟨rfl,h6⟩
  ·simp only [go_sem,yF,H3,M4,mg,mb,lZ,h9,and_self];exact ⟨_,_,t,rfl,.inr rfl,by simp only [go_sem],g1,g2,g3⟩
  ·simp only [go_sem];exact ⟨_,_,t,rfl,.inr rfl,h6,g1,g2,g3⟩
 obtain ⟨ex,tm,t,g1,g2,g3,g4,g5,g6⟩:=jc;exact ⟨t,EU h g1 g2 (by show iT _ [RV.t 6]=_;rw [YO,TU,g3]),g4,g5,g6⟩
end
end
section
open Go (IntKind)
def aCK {t v bo:Int} (ht:0<=t/\t<1000000000) (hv:0<=v/\v<1000000000) (hb:0<=bo/\bo<1000000000):0<=t*v/\t*v<=999999998000000001/\0<=t*v+bo/\t*v+bo<=999999999000000000:=by
 have h1:=tJ ht.1 hv.1;have h2:=ybf (show t<=999999999 by omega) (show v<=999999999 by omega) hv.1 (by decide);omega
def aCL {x p:Int} (hx:0<=x/\x<1000000000) (hp:0<=p/\p<=999999999000000000):
  (x-p.tmod 1000000000<0->0<=x-p.tmod 1000000000+1000000000/\x-p.tmod 1000000000+1000000000<1000000000/\0<=p.tdiv 1000000000+1/\p.tdiv 1000000000+1<1000000000/\x-p.tmod 1000000000+1000000000+p=x+1000000000*(p.tdiv 1000000000+1))/\
  (¬x-p.tmod 1000000000<0->x-p.tmod 1000000000<1000000000/\0<=p.tdiv 1000000000/\p.tdiv 1000000000<1000000000/\x-p.tmod 1000000000+p=x+1000000000*p.tdiv 1000000000):=by grind
def SZ {l:List Int} (h:dg l) {i:Nat} {z:Int} (hz:0<=z/\z<1000000000):dg (l.set i z):=NG h hz
def avn {b p z q v bo AH x X Y S:Int} (h2:z+(q*v+bo)=x+b*AH) (h3:Y+q*X=S+p*bo):(Y+p*(z-x))+q*(X+p*v)=S+p*b*AH:=by grind
section
variable {P:aM} {L:Lib}
def avo {w:AV} {x vs pre post qs:List Int} {f:Int} (hw:bC w vs) {n M m:Nat} (lv:vs.length=n) (hM:M=pre.length+(n+1)+post.length) (LS:M<=50000000000) (gv:dg vs) {t:Int} (ht:0<=t/\t<1000000000):
  ∀k s,(∃(i:Nat) (bo:Int) (y:List Int),aJ [8,9,10,11,12,13,14,15,16] s=⟨[(8,.aw 0 0 1),(9,w),(10,ab n),(11,.aw 1 0 M),(12,.aw 2 0 m),(13,ab pre.length),(14,ab t),(15,ab bo),(16,ab i)],H3 qs (pre++y++post) f,3,0⟩/\i+k=n/\y.length=n+1/\dg y/\(0<=bo/\bo<1000000000)/\
    sv y+t*sv (vs.take i)=sv x+1000000000^i*bo)->
   ∃ex s',D P L (.loop [8,9,10,11,12,13,14,15,16] Fj) s=some (ex,s')/\∃tm bo y,s'=⟨tm,H3 qs (pre++y++post) f,3,0⟩/\ex= .exit 4/\af tm 8= .aw 0 0 1/\af tm 9=w/\af tm 10=ab n/\af tm 11= .aw 1 0 M/\af tm 12= .aw 2 0 m/\af tm 13=ab pre.length/\af tm 14=ab t/\af tm 15=ab bo/\y.length=n+1/\dg y/\(0<=bo/\bo<1000000000)/\
    sv y+t*sv vs=sv x+1000000000^n*bo:=by
 intro dq sq;generalize a8:aJ [8,9,10,11,12,13,14,15,16] sq=s0;revert a8 s0 sq dq;apply cY;rintro k s ⟨i,bo,y,rfl,hk,ly,gy,jk,aT⟩;by_cases hi:i<n
 ·left
  have rG:=iz gv i;have qj:=iz gy i;have ev:=qY hw (i:=i) (by omega);have ey:=ss (l:=pre++y++post) (o:=pre.length+i) (by rw [nT];omega);rw [Bj (by omega)] at ey;have eU:=Nx (l:=vs) i;obtain ⟨a,ha⟩:∃a,a=vs.getD i 0:=⟨_,rfl⟩;obtain ⟨d,hd⟩:∃d,d=y.getD i 0:=⟨_,rfl⟩;rw [<-ha] at rG ev eU;rw [<-hd] at qj ey;obtain ⟨p1,p2,p3,p4⟩:=aCK ht rG jk;obtain ⟨s1,s2⟩:=aCL qj ⟨p3,p4⟩;have fj:(i:Int)+(pre.length:Int)=((pre.length+i:Nat):Int):=by omega
  have aO:=fun (hp:Hp) (ct:Nat) (z:Int)=>Cu (hp:=hp) (ct:=ct) (id:=1) (v:=z) (ex:=false) (l:=pre++y++post) (o:=pre.length+i) (by rw [nT];omega)
  have n9:=fun z=>NM (pre:=pre) (x:=y) (post:=post) (i:=i) z (by omega)
  have a6:=fun z=>Fw (l:=y) (i:=i) (x:=z) (by omega)
  rw [<-hd] at a6;obtain ⟨pr,fk⟩:∃pr,pr=t*a+bo:=⟨_,rfl⟩;obtain ⟨dm,fW⟩:∃dm,pr.tmod 1000000000=dm:=⟨_,rfl⟩;obtain ⟨dq,Ef⟩:∃dq,pr.tdiv 1000000000=dq:=⟨_,rfl⟩;have aI3:0<=dm/\dm<1000000000:=by rw [<-fW,xZ (by omega)];omega
  have aI4:0<=dq/\dq<1000000000:=by rw [<-Ef,wb (by omega)];omega
  rw [<-fk,fW,Ef] at s1 s2;have key:∀z AH,z+(t*a+bo)=d+1000000000*AH->sv (y.set i z)+t*sv (vs.take (i+1))=sv x+1000000000^(i+1)*AH:=fun z AH h=>by
   rw [a6,eU,tc];exact avn h aT
  rw [<-fk] at key;by_cases iO:d-dm<0
  ·obtain ⟨q1,q2,q3,q4,q5⟩:=s1 iO;have kk:=key _ _ q5;obtain ⟨dr,jj⟩:∃dr,d-dm=dr:=⟨_,rfl⟩;rw [jj] at iO kk q1 q2
   simp only [go_sem,ya,yf,Fj,H3,show (i:Int)<(n:Int) by omega,ev,wrap64 (n:=t*a) (by omega) (by omega),<-fk,wrap64 (n:=pr) (by omega) (by omega),fj,wrapN (n:=pre.length+i) (by omega),bN 1 0 (show pre.length+i<M by omega),ye,ey,iV _ _ _ (show (1000000000:Int)≠0 by decide),gL _ _ _ (show (1000000000:Int)≠0 by decide),fW,Ef,jj,wrap64 (n:=dr) (by omega) (by omega),wrap64 (n:=dq) (by omega) (by omega),iO,wrap64 (n:=dr+1000000000) (by omega) (by omega),wrap64 (n:=dq+1) (by omega) (by omega),aO,n9];refine ⟨_,k-1,rfl,by omega,i+1,dq+1,y.set i (dr+1000000000),?_,by omega,by simp [ly],SZ gy ⟨q1,q2⟩,⟨q3,q4⟩,kk⟩;rw [wrap64 (by omega) (by omega)];simp only [go_sem,ya,yb,av,aq hw.pu,au _ hw.pu]<;>rfl
  ·obtain ⟨q2,q3,q4,q5⟩:=s2 iO;have kk:=key _ _ q5;obtain ⟨dr,jj⟩:∃dr,d-dm=dr:=⟨_,rfl⟩;rw [jj] at iO kk q2
   simp only [go_sem,ya,yf,Fj,H3,show (i:Int)<(n:Int) by omega,ev,wrap64 (n:=t*a) (by omega) (by omega),<-fk,wrap64 (n:=pr) (by omega) (by omega),fj,wrapN (n:=pre.length+i) (by omega),bN 1 0 (show pre.length+i<M by omega),ye,ey,iV _ _ _ (show (1000000000:Int)≠0 by decide),gL _ _ _ (show (1000000000:Int)≠0 by decide),fW,Ef,jj,wrap64 (n:=dr) (by omega) (by omega),wrap64 (n:=dq) (by omega) (by omega),iO,aO,n9];refine ⟨_,k-1,rfl,by omega,i+1,dq,y.set i dr,?_,by omega,by simp [ly],SZ gy ⟨by omega,q2⟩,⟨q3,q4⟩,kk⟩;rw [wrap64 (by omega) (by omega)];simp only [go_sem,ya,yb,av,aq hw.pu,au _ hw.pu]<;>rfl
 ·right
  have:i=n:=by omega
  subst this;rw [yC (by omega)] at aT;simp only [go_sem,ya,Fj,H3,show ¬(i:Int)<(i:Int) by omega];exact ⟨_,_,rfl,by simp,_,bo,y,rfl,rfl,by simp only [go_sem,ya],by simp only [go_sem,ya],by simp only [go_sem,ya],by simp only [go_sem,ya],by simp only [go_sem,ya],by simp only [go_sem,ya],by simp only [go_sem,ya],by simp only [go_sem,ya],ly,gy,jk,aT⟩
def avp {b p z v c c' x X Y S:Int} (h2:z+b*c'=x+v+c) (h3:Y+p*c=S+X):(Y+p*(z-x))+p*b*c'=S+(X+p*v):=by grind
def avq {w:AV} {y0 vs pre post qs:List Int} {f:Int} (hw:bC w vs) {n M m:Nat} (lv:vs.length=n) (hM:M=pre.length+(n+1)+post.length) (LS:M<=50000000000) (gv:dg vs) {t top:Int}:
  ∀k s,(∃(i:Nat) (c:Int) (y:List Int),aJ [8,9,10,11,12,13,14,19,20] s=⟨[(8,.aw 0 0 1),(9,w),(10,ab n),(11,.aw 1 0 M),(12,.aw 2 0 m),(13,ab pre.length),(14,ab t),(19,ab c),(20,ab i)],H3 qs (pre++y++post) f,3,0⟩/\i+k=n/\y.length=n+1/\dg (y.take n)/\y.getD n 0=top/\(0<=c/\c<=1)/\
    sv y+1000000000^i*c=sv y0+sv (vs.take i))->
   ∃ex s',D P L (.loop [8,9,10,11,12,13,14,19,20] Ji) s=some (ex,s')/\∃tm c y,s'=⟨tm,H3 qs (pre++y++post) f,3,0⟩/\ex= .exit 6/\af tm 8= .aw 0 0 1/\af tm 9=w/\af tm 10=ab n/\af tm 11= .aw 1 0 M/\af tm 12= .aw 2 0 m/\af tm 13=ab pre.length/\af tm 14=ab t/\af tm 19=ab c/\y.length=n+1/\dg (y.take n)/\y.getD n 0=top/\(0<=c/\c<=1)/\
    sv y+1000000000^n*c=sv y0+sv vs:=by
 intro dq sq;generalize a8:aJ [8,9,10,11,12,13,14,19,20] sq=s0;revert a8 s0 sq dq;apply cY;rintro k s ⟨i,c,y,rfl,hk,ly,gy,oc,hc,aT⟩;by_cases hi:i<n
 ·left
  have rG:=iz gv i;have qj:=iz gy i;have e0:(y.take n).getD i 0=y.getD i 0:=by
   simp [xf,hi]
  rw [e0] at qj;have ev:=qY hw (i:=i) (by omega);have ey:=ss (l:=pre++y++post) (o:=pre.length+i) (by rw [nT];omega);rw [Bj (by omega)] at ey;have eU:=Nx (l:=vs) i;obtain ⟨a,ha⟩:∃a,a=vs.getD i 0:=⟨_,rfl⟩;obtain ⟨d,hd⟩:∃d,d=y.getD i 0:=⟨_,rfl⟩;rw [<-ha] at rG ev eU;rw [<-hd] at qj ey;have fj:(i:Int)+(pre.length:Int)=((pre.length+i:Nat):Int):=by omega
  have a6:=fun z=>Fw (l:=y) (i:=i) (x:=z) (by omega)
  rw [<-hd] at a6;have sM:(d+a+c).tmod 1000000000=(d+a+c)%1000000000:=xZ (by omega);have hdiv:(d+a+c).tdiv 1000000000=(d+a+c)/1000000000:=wb (by omega);obtain ⟨z,hz⟩:∃z,z=(d+a+c)%1000000000:=⟨_,rfl⟩;obtain ⟨c',qd⟩:∃z,z=(d+a+c)/1000000000:=⟨_,rfl⟩;have ZB:z+1000000000*c'=d+a+c:=by omega
  rw [<-hz] at sM;rw [<-qd] at hdiv;have aO:=fun (hp:Hp) (ct:Nat)=>Cu (hp:=hp) (ct:=ct) (id:=1) (v:=z) (ex:=false) (l:=pre++y++post) (o:=pre.length+i) (by rw [nT];omega)
  have n9:=NM (pre:=pre) (x:=y) (post:=post) (i:=i) z (by omega)
  simp only [go_sem,ya,yf,Ji,H3,show (i:Int)<(n:Int) by omega,ev,fj,wrapN (n:=pre.length+i) (by omega),bN 1 0 (show pre.length+i<M by omega),ye,ey,wrap64 (n:=d+a) (by omega) (by omega),wrap64 (n:=d+a+c) (by omega) (by omega),iV _ _ _ (show (1000000000:Int)≠0 by decide),gL _ _ _ (show (1000000000:Int)≠0 by decide),sM,hdiv,wrap64 (n:=c') (by omega) (by omega),aO,n9];refine ⟨_,k-1,rfl,by omega,i+1,c',y.set i z,?_,by omega,by simp [ly],?_,by rw [aiS (by omega)];exact oc,⟨by omega,by omega⟩,?_⟩
  ·rw [wrap64 (by omega) (by omega)];simp only [go_sem,ya,yb,av,aq hw.pu,au _ hw.pu]<;>rfl
  ·rw [tR];exact SZ gy ⟨by omega,by omega⟩
  ·rw [a6,eU,tc];exact avp ZB aT
 ·right
  have:i=n:=by omega
  subst this;rw [yC (show vs.length<=i by omega)] at aT;simp only [go_sem,ya,Ji,H3,show ¬(i:Int)<(i:Int) by omega];exact ⟨_,_,rfl,by simp,_,c,y,rfl,rfl,by simp only [go_sem,ya],by simp only [go_sem,ya],by simp only [go_sem,ya],by simp only [go_sem,ya],by simp only [go_sem,ya],by simp only [go_sem,ya],by simp only [go_sem,ya],by simp only [go_sem,ya],ly,gy,oc,hc,aT⟩
def avr {A V t:Nat} {y:List Int} {n:Nat} (hV:0<V) (ly:y.length=n+1) (gy:dg (y.take n)) (h:sv y=(A:Int)-t*V) (h1:A/V<=t) (h2:t<=A/V+1):
  (¬y.getD n 0<0->t=A/V/\sv y=((A%V:Nat):Int))/\(y.getD n 0<0->t=A/V+1/\sv y+V=((A%V:Nat):Int)):=by
 have fW:=xR A V;have hm:=xE A hV;have eU:=Nx (l:=y) n;rw [yC (by omega),zX gy] at eU;have KV:=jK gy;have hp:(0:Int)<1000000000^n:=ybQ (by decide);generalize y.getD n 0=top at*
 generalize A/V=Q at*
 have hq:t=Q\/t=Q+1:=by omega
 constructor
 ·intro h0;have h3:0<=(1000000000:Int)^n*top:=tJ (td hp) (by omega);rcases hq with rfl | rfl
  ·grind
  ·grind
 ·intro h0;have h3:(1000000000:Int)^n*top<=-(1000000000^n):=by
   have:=vX (show top<=-1 by omega) (td hp)
   grind
  rcases hq with rfl | rfl
  ·grind
  ·grind
def ael {y:List Int} {n:Nat} (ly:y.length=n+1) (gy:dg (y.take n)) (h0:0<=sv y) (h1:sv y<1000000000^n):y.getD n 0=0/\dg y/\sv y=dv y:=by
 have eU:=Nx (l:=y) n;rw [yC (by omega),zX gy] at eU;have KV:=jK gy;rw [yy,xm (by omega)] at KV;have hp:(0:Int)<1000000000^n:=ybQ (by decide);have FE:((1000000000^n:Nat):Int)=(1000000000:Int)^n:=by simp
 have aIO:(dv (y.take n):Int)<1000000000^n:=by omega
 have ht:y.getD n 0=0:=by
  generalize y.getD n 0=top at*
  rcases Int.lt_trichotomy top 0 with h | h | h
  ·have:=vX (show top<=-1 by omega) (td hp)
   grind
  ·grind
  ·have:=vX (show 1<=top by omega) (td hp)
   grind
 have hg:dg y:=by
  have e:y=y.take n++[0]:=by
   have h1:y=y.take n++y.drop n:=(xQ n y).symm;have h2:y.drop n=[0]:=by
    rw [yS (by omega),xh (by omega)]
    grind
   grind
  rw [e];exact iy.2 ⟨gy,lD.2 ⟨by decide,by decide⟩⟩
 exact ⟨ht,hg,zX hg⟩
end
end
section
open Go (IntKind)
def avt {l:List Int} {i:Nat} (h:i<l.length):dv (l.drop i)=(l.getD i 0).toNat+1000000000*dv (l.drop (i+1)):=by
 rw [yS h]
 have:l[i]=l.getD i 0:=by simp_all
 rw [this];rfl
def Sv (l:List Int) (i:Nat) (h:i<=l.length):dv l=dv (l.take i)+1000000000^i*dv (l.drop i):=by
 conv=>lhs;rw [<-xQ i l]
 rw [mM,yy,xm h]
def avu {sx sy sV:Int} {p:Int} {bo t:Int} {yn z:Int} {szy:Int} (h1:sy+t*sV=sx+p*bo) (h2:szy=sy+p*(z-yn)) (h3:z=yn-bo):szy=sx-t*sV:=by grind
section
variable {P:aM} {L:Lib}
def avv (ri:Has P L 301 Aa) {w:AV} {vs:List Int} {f:Int} (hw:bC w vs) (gv:dg vs) {n M m:Nat} (lv:vs.length=n) (eB:2<=n) (QU:n<M) (LS:M<=20000000000) (hm:m=M-n) (fb:0<vs.getD (n-1) 0) {U0:Nat}:
  ∀k st,(∃(j:Nat) (us qs:List Int),aJ [8,9,10,11,12,13] st=⟨[(8,.aw 0 0 1),(9,w),(10,ab n),(11,.aw 1 0 M),(12,.aw 2 0 m),(13,ab ((j:Int)-1))],H3 qs us f,3,0⟩/\j=k/\j<=m/\us.length=M/\qs.length=m/\dg us/\dg qs/\(∀i,i<j->qs.getD i 0=0)/\
    dv us+dv qs*dv vs=U0/\dv (us.drop j)<dv vs)->
   ∃ex st',D P L (.loop [8,9,10,11,12,13] Jj) st=some (ex,st')/\∃tm us qs,st'=⟨tm,H3 qs us f,3,0⟩/\ex= .exit 2/\af tm 8= .aw 0 0 1/\af tm 10=ab n/\af tm 11= .aw 1 0 M/\af tm 12= .aw 2 0 m/\us.length=M/\qs.length=m/\dg us/\dg qs/\
    dv us+dv qs*dv vs=U0/\dv us<dv vs:=by
 intro dq sq;generalize a8:aJ [8,9,10,11,12,13] sq=s0;revert a8 s0 sq dq;apply cY;rintro k st ⟨j,us,qs,rfl,rfl,hj,lu,lq,gu,gq,hz,aT,oc⟩
 cases j with
 | zero=>
  right
  simp only [go_sem,ya,Jj,H3,show ¬(0:Int)<=((0:Nat):Int)-1 by omega];exact ⟨_,_,rfl,by simp,_,us,qs,rfl,rfl,by simp only [go_sem,ya],by simp only [go_sem,ya],by simp only [go_sem,ya],by simp only [go_sem,ya],lu,lq,gu,gq,aT,by simpa using oc⟩
 | succ j=>
  left
  obtain ⟨pre,fj⟩:∃p,p=us.take j:=⟨_,rfl⟩;obtain ⟨x,hx⟩:∃p,p=(us.drop j).take (n+1):=⟨_,rfl⟩;obtain ⟨post,gl⟩:∃p,p=us.drop (j+(n+1)):=⟨_,rfl⟩;have lp:pre.length=j:=by rw [fj,yy];omega
  have lx:x.length=n+1:=by rw [hx,yy,xN];omega
  have lpo:M=pre.length+(n+1)+post.length:=by rw [lp,gl,xN];omega
  have jZ:us=pre++x++post:=by
   rw [fj,hx,gl,<-vS,xA,xQ,xQ]
  have gpo:dg post:=by
   have:=gu;rw [jZ] at this;exact (iy.1 this).2
  have gpx:=by have:=gu;rw [jZ] at this;exact (iy.1 this).1
  have gx:dg x:=(iy.1 gpx).2;have YZ:dg pre:=(iy.1 gpx).1;have hA:=avt (l:=us) (i:=j) (by omega);have hgj:=iz gu j;have hdx:us.drop j=x++post:=by rw [gl,hx,<-vS,xQ]
  have AI:dv (us.drop j)=dv x+1000000000^(n+1)*dv post:=by rw [hdx,mM,lx]
  have LF:=jK gv;rw [lv] at LF;have aZ:dv (us.drop j)<1000000000*dv vs:=by omega
  have hp0:dv post=0:=by
   rcases xq (dv post) with e | e
   ·exact e
   ·have h1:=yZ (1000000000^(n+1)) e;rw [yf,xd] at h1;rw [xd] at AI;omega
  rw [hp0,xH,y5] at AI;have LV:=fun (l:List Int) (hl:dg l) (i:Nat)=>iz hl i
  obtain ⟨v1,fc⟩:∃v:Nat,vs.getD (n-1) 0=v:=⟨(vs.getD (n-1) 0).toNat,by have:=LV vs gv (n-1);omega⟩;obtain ⟨v2,qg⟩:∃v:Nat,vs.getD (n-2) 0=v:=⟨(vs.getD (n-2) 0).toNat,by have:=LV vs gv (n-2);omega⟩;obtain ⟨u0,Ci⟩:∃v:Nat,x.getD n 0=v:=⟨(x.getD n 0).toNat,by have:=LV x gx n;omega⟩;obtain ⟨u1,Cj⟩:∃v:Nat,x.getD (n-1) 0=v:=⟨(x.getD (n-1) 0).toNat,by have:=LV x gx (n-1);omega⟩;obtain ⟨u2,ze⟩:∃v:Nat,x.getD (n-2) 0=v:=⟨(x.getD (n-2) 0).toNat,by have:=LV x gx (n-2);omega⟩;have hl:gh x vs n v1 v2 u0 u1 u2:=⟨eB,by omega,lx,lv,gx,gv,fc,qg,Ci,Cj,ze,by omega,by rw [<-AI];exact aZ⟩
  have PI:=hl.digit;have rF:0<dv vs:=by omega
  have sM:=xE (dv x) rF;obtain ⟨t,e1,ht1,ZV,ht3⟩:=aAU (P:=P) (L:=L) ri hw hl (pre:=pre) (post:=post) (qs:=qs) (f:=f) (M:=M) (by omega) (by omega);rw [<-jZ,lp] at e1;have hbu:dv us=dv pre+1000000000^j*dv x:=by
   have:=Sv us j (by omega)
   rw [AI,<-fj] at this;exact this
  have Y0:∀y,dv (pre++y++post)=dv pre+1000000000^j*dv y:=fun y=>by
   rw [xA,mM,mM,hp0,xH,y5,lp]
  have lH:=ac8 (b:=0) hbu aT;have zg:below 3 w:=qG hw.pu;have a6:=Fw (l:=qs) (i:=j) (x:=((dv x/dv vs:Nat):Int)) (by omega);have gq':dg (qs.set j ((dv x/dv vs:Nat):Int)):=NG gq ⟨tC _,uB.2 PI⟩;rw [hz j (by omega),Int.sub_zero,zX gq,zX gq'] at a6;have a6:dv (qs.set j ((dv x/dv vs:Nat):Int))=dv qs+1000000000^j*(dv x/dv vs):=by
   have FE:((1000000000^j*(dv x/dv vs):Nat):Int)=(1000000000:Int)^j*((dv x/dv vs:Nat):Int):=by rw [vc];simp
   rw [<-FE] at a6;exact yaw (by rw [yar,yar,a6,yaS])
  have fin:∀(s':St) (x':List Int),aJ [8,9,10,11,12,13] s'=⟨[(8,.aw 0 0 1),(9,w),(10,ab n),(11,.aw 1 0 M),(12,.aw 2 0 m),(13,ab ((j:Int)-1))],H3 (qs.set j ((dv x/dv vs:Nat):Int)) (pre++x'++post) f,3,0⟩->x'.length=n+1->dg x'->sv x'=((dv x%dv vs:Nat):Int)->
    ∃(j':Nat) (us qs:List Int),aJ [8,9,10,11,12,13] s'=⟨[(8,.aw 0 0 1),(9,w),(10,ab n),(11,.aw 1 0 M),(12,.aw 2 0 m),(13,ab ((j':Int)-1))],H3 qs us f,3,0⟩/\j'=j/\j'<=m/\us.length=M/\qs.length=m/\dg us/\dg qs/\(∀i,i<j'->qs.getD i 0=0)/\dv us+dv qs*dv vs=U0/\dv (us.drop j')<dv vs:=fun s' x' hc lx' QF LJ=>by
   have alE:dv x'=dv x%dv vs:=by rw [zX QF] at LJ;exact yaw LJ
   refine ⟨j,_,_,hc,rfl,by omega,by rw [nT,lx'];omega,by simp [lq],iy.2 ⟨iy.2 ⟨YZ,QF⟩,gpo⟩,gq',fun i hi=>by rw [aiS (by omega)];exact hz i (by omega),?_,?_⟩
   ·rw [Y0,alE,a6];exact lH
   ·rw [xA,List.drop_left' lp,mM,hp0,xH,y5,alE];exact sM
  have alF:=fun (z:Int) (hp:Hp) (ct:Nat)=>Cu (hp:=hp) (ct:=ct) (id:=2) (v:=z) (ex:=true) (l:=qs) (o:=j) (by omega)
  have svx:=zX gx;have svv:=zX gv;simp only [H3] at e1;simp only [go_sem,ya,Jj,H3,show ((j+1:Nat):Int)-1=(j:Int) by omega,show (0:Int)<=(j:Int) by omega,aju,e1];generalize mG:D P L (.loop [8,9,10,11,12,13,14,15,16] Fj) _=qq;obtain ⟨ex,s,rfl,tm,bo,y,rfl,rfl,t8,t9,t10,t11,t12,t13,t14,t15,ly,gy,jk,hv⟩:=bq mG (avo (P:=P) (L:=L) (x:=x) (pre:=pre) (post:=post) (qs:=qs) (f:=f) (m:=m) (M:=M) hw lv lpo (by omega) gv (t:=t) (by omega) n) ⟨0,0,x,by
   rw [jZ,lp]
   simp only [go_sem,ya,yb,av,aq hw.pu,au _ hw.pu]<;>rfl,by omega,lx,gx,by omega,by simp [sv]⟩
  rw [lp] at t13;have hyn:=iz gy n;have eyn:=ss (l:=pre++y++post) (o:=pre.length+n) (by rw [nT];omega);rw [Bj (by omega),lp] at eyn;obtain ⟨z,hzz⟩:∃z,z=y.getD n 0-bo:=⟨_,rfl⟩;have sC:=fun (hp:Hp) (ct:Nat)=>Cu (hp:=hp) (ct:=ct) (id:=1) (v:=z) (ex:=false) (l:=pre++y++post) (o:=j+n) (by rw [nT];omega)
  have n9:=NM (pre:=pre) (x:=y) (post:=post) (i:=n) z (by omega);rw [lp] at n9;rw [n9] at sC;have nv:=Fw (l:=y) (i:=n) (x:=z) (by omega);have Oi:=avu hv nv hzz;have Ch:(y.set n z).length=n+1:=by simp [ly]
  have Ec:dg ((y.set n z).take n):=by
   have:(y.set n z).take n=y.take n:=by rw [tR,tP (by simp;omega)]
   rw [this];exact CP gy n
  rw [svx,svv] at Oi;obtain ⟨s0,s1⟩:=avr rF Ch Ec Oi ZV ht3;have eg:(y.set n z).getD n 0=z:=arf (by omega);rw [eg] at s0 s1;have ezn:=ss (l:=pre++y.set n z++post) (o:=pre.length+n) (by rw [nT];omega);rw [Bj (by omega),lp,eg] at ezn;generalize y.set n z=y1 at*
  have kD:((10^9:Int))=1000000000:=by decide
  by_cases iO:z<0
  ·obtain ⟨f1,f2⟩:=s1 iO
   simp only [go_sem,ya,yb,yf,av,aq hw.pu,au _ hw.pu,t8,t9,t10,t11,t12,t13,t14,t15,show (j:Int)+(n:Int)=((j+n:Nat):Int) from rfl,wrapN (n:=j+n) (by omega),bN 1 0 (show j+n<M by omega),ye,eyn,<-hzz,wrap64 (n:=z) (by omega) (by omega),sC,ezn,iO];generalize DK:D P L (.loop [8,9,10,11,12,13,14,19,20] Ji) _=qq2;obtain ⟨ex,s,rfl,sR,c,y2,rfl,rfl,t8,t9,t10,t11,t12,t13,t14,t19,ly2,QD,ajA,hc,dF⟩:=bq DK (avq (P:=P) (L:=L) (y0:=y1) (pre:=pre) (post:=post) (qs:=qs) (f:=f) (m:=m) (M:=M) (t:=(t:Int)-1) (top:=z) hw lv lpo (by omega) gv n) ⟨0,0,y1,by
    rw [lp,wrap64 (n:=(t:Int)-1) (by omega) (by omega)]
    simp only [go_sem,ya,yb,av,aq hw.pu,au _ hw.pu]<;>rfl,by omega,Ch,Ec,eg,by omega,by simp [sv]⟩
   rw [lp] at t13;have alG:=ss (l:=pre++y2++post) (o:=pre.length+n) (by rw [nT];omega);rw [Bj (by omega),lp,ajA] at alG;have PG:=fun (hp:Hp) (ct:Nat)=>Cu (hp:=hp) (ct:=ct) (id:=1) (v:=z+c) (ex:=false) (l:=pre++y2++post) (o:=j+n) (by rw [nT];omega)
   have N8:=NM (pre:=pre) (x:=y2) (post:=post) (i:=n) (z+c) (by omega);rw [lp] at N8;rw [N8] at PG;have Ay:=Fw (l:=y2) (i:=n) (x:=z+c) (by omega);rw [ajA,show z+c-z=c by omega,dF,svv,f2] at Ay;have LH:(y2.set n (z+c)).length=n+1:=by simp [ly2]
   have QE:dg ((y2.set n (z+c)).take n):=by
    have:(y2.set n (z+c)).take n=y2.take n:=by rw [tR,tP (by simp;omega)]
    rw [this];exact QD
   have hmV:((dv x%dv vs:Nat):Int)<1000000000^n:=by
    have FE:((1000000000^n:Nat):Int)=(1000000000:Int)^n:=by simp
    rw [<-FE];omega
   obtain ⟨g1,g2,g3⟩:=ael LH QE (by rw [Ay];omega) (by rw [Ay];exact hmV)
   generalize y2.set n (z+c)=y3 at*
   have ft:(t:Int)-1=((dv x/dv vs:Nat):Int):=by rw [f1];omega
   simp only [go_sem,ya,yb,yf,av,aq hw.pu,au _ hw.pu,t8,t9,t10,t11,t12,t13,t14,t19,show (j:Int)+(n:Int)=((j+n:Nat):Int) from rfl,wrapN (n:=j+n) (by omega),bN 1 0 (show j+n<M by omega),ye,alG,wrap64 (n:=z+c) (by omega) (by omega),PG,bN 2 0 (show j<m by omega),alF];rw [ft];refine ⟨_,j,rfl,by omega,fin _ y3 ?_ LH g2 Ay⟩;rw [wrap64 (by omega) (by omega)];simp only [go_sem,ya,yb,av,aq hw.pu,au _ hw.pu]<;>rfl
  ·obtain ⟨f1,f2⟩:=s0 iO;have hmV:((dv x%dv vs:Nat):Int)<1000000000^n:=by
    have FE:((1000000000^n:Nat):Int)=(1000000000:Int)^n:=by simp
    rw [<-FE];omega
   obtain ⟨g1,g2,g3⟩:=ael Ch Ec (by rw [f2];omega) (by rw [f2];exact hmV)
   simp only [go_sem,ya,yb,yf,av,aq hw.pu,au _ hw.pu,t8,t9,t10,t11,t12,t13,t14,t15,show (j:Int)+(n:Int)=((j+n:Nat):Int) from rfl,wrapN (n:=j+n) (by omega),bN 1 0 (show j+n<M by omega),ye,eyn,<-hzz,wrap64 (n:=z) (by omega) (by omega),sC,ezn,iO,bN 2 0 (show j<m by omega),alF];rw [f1];refine ⟨_,j,rfl,by omega,fin _ y1 ?_ Ch g2 f2⟩;rw [wrap64 (by omega) (by omega)];simp only [go_sem,ya,yb,av,aq hw.pu,au _ hw.pu]<;>rfl
end
end
end VE
