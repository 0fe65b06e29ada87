import Derived.Test.YtjemkccfpkgopaaGreatDoorWaq
import Derived.Test.YtjemkccfpkgopaaGreatDoorWah
import Derived.Test.YtjemkccfpkgopaaGreatDoorWao
import Derived.Test.YtjemkccfpkgopaaGreatDoorWap
set_option linter.all false
set_option maxRecDepth 100000
open Bool renaming and_eq_true→yg,and_self→wm,false_and→xN,false_eq_true→yI,false_or→vL,not_false→yO,not_true→yR,true_and→wA,true_or→yaQ
open Go renaming DataW→xG,Field→uM,FloatKind→ub,IntKind→y7,MemPlace→wG,Program→y5,TypeId→yC,Value→yh,World→yi
open Int renaming le_of_lt→tf,mul_add→ybR,mul_le_mul→ybl,mul_le_mul_of_nonneg_left→ua,mul_nonneg→tM,natAbs_natCast→vn,natCast_add→yaZ,natCast_mul→ve,natCast_nonneg→tF,neg_neg→ybD,ofNat_eq_natCast→yat,ofNat_lt→uF,pow_pos→ybS,pow_succ→td,tdiv_eq_ediv_of_nonneg→wC,tmod_eq_emod_of_nonneg→wB,toNat_natCast→xX,toNat_of_nonneg→yay
open Int.ofNat renaming inj→yaz
open List renaming append_assoc→xy,append_nil→xY,drop→vD,drop_drop→vX,drop_eq_getElem_cons→yP,drop_eq_nil_of_le→xf,drop_zero→yL,eq_nil_of_length_eq_zero→yB,flatMap_def→yaS,getD_eq_getElem?_getD→y9,getElem?_eq_getElem→xM,length_append→yG,length_cons→yz,length_drop→xT,length_map→yr,length_nil→yK,length_take→yE,mapM_cons→ui,map_append→xi,map_cons→xa,map_nil→vM,map_set→tI,mem_cons→wP,mem_map→vO,replicate→yj,set_eq_of_length_le→tR,set_eq_take_append_cons_drop→vR,take_append_drop→xS,take_length→xD,take_of_length_le→yN,take_set→tT
open Nat renaming add_mul→wJ,add_zero→yY,beq→yv,ble→yF,blt→yQ,div_add_mod→xU,div_lt_iff_lt_mul→wg,eq_of_beq_eq_true→yp,eq_zero_or_pos→xp,gcd→wN,le_of_ble_eq_true→yy,le_of_lt_succ→tO,le_refl→yu,le_trans→xm,lt_of_lt_of_le→yU,min_eq_left→xA,mod_lt→xF,mul_add→xI,mul_assoc→xo,mul_comm→xL,mul_le_mul→vj,mul_le_mul_left→yZ,mul_one→yf,mul_zero→xJ,pow_add→wS,pow_le_pow_left→vZ,pow_le_pow_right→xh,pow_mul→tz,pow_succ→xd,reduceAdd→yb,reduceEqDiff→ya,reduceLT→yD,reduceLeDiff→yk,reduceMul→xt,zero_add→ye
open Option renaming bind_eq_bind→vE,bind_some→xR,map_eq_some_iff→wI,pure_def→wV
open Option.some renaming injEq→yd
open Prod.mk renaming injEq→yo
namespace VE
section
open Go (IntKind)
def apu:∀(cs:List AV) (l:List Nat),rX cs=some l->cs=l.map uc/\lo 18446744073709551616 l:=by
 intro cs
 induction cs with
 | nil=>
  intro l h;simp only [rX,yd] at h;subst h;exact ⟨rfl,fun _ h=>by cases h⟩
 | cons c cs ih=>
  intro l h;unfold rX at h
  split at h
  ·grind
  ·rename_i d r oJ;cases oJ
   cases hb:yQ d 18446744073709551616 with
   | false=>rw [hb] at h;cases h
   | true=>
    rw [hb] at h
    cases hw:rX cs with
    | none=>rw [hw] at h;cases h
    | some l'=>
     rw [hw] at h;cases h;obtain ⟨k1,k2⟩:=ih l' hw;refine ⟨by rw [k1];rfl,fun x hx=>?_⟩
     rcases wP.1 hx with rfl | hx
     ·simp_all
     ·exact k2 x hx
  ·cases h
def acW:∀{l:List Nat},Bl l=true->gQ l
 | [],h=>by cases h
 | [a],h=>by
  have h0:a≠0:=fun e=>by subst e;cases h
  exact Em h0 []
 | a::b::r,h=>by
  have h1:dZ (b::r)=b::r:=acW (l:=b::r) h;show dZ (a::(b::r))=_
  simp only [dZ] at h1 ⊢;rw [h1]
section
variable {P:aK} {L:Lib}
def au8 (h:Has P L 99 DU) (Y2:L.pure 135=some Jg) {s:Int} (hs:Bi s=true):bL P L (D P L) 99 [.agg [ab s,.aa]]=some (.str (aZ s)):=by
 have e1:bL P L (D P L) 135 [ab s]=some (.str (aZ s)):=by
  rw [jr Y2];show (bif Bi s then some (AV.str (aZ s)) else none)=_
  rw [hs];rfl
 rw [aH h];simp only [go_sem,ya,yb,DU,bi,b5,ye,de,gX,eC,e1]
end
section
open Go
variable {O:bl}
def aqZ (hO:eP O) (hN:Nu O.prog O.aC) (Y2:O.aC.pure 135=some Jg) (DB:O.aC.pure 138=some AH) (Ad:O.aC.pure 139=some AZ) (GL:Has O.prog O.aC 99 DU) {fn:Func} {c:Code} (kY:O.P.funcs[O.af 99]? =some fn) (jm:fn.body=some c) (PN:fn.ntmps=69)
  (YZ:Pu 5 c) (ht:Sz O.P c):∀av r,M6 av=some r->eD O 99 av r:=by
 intro av r h;unfold M6 at h
 split at h
 ·rename_i s
  cases hs:Bi s with
  | false=>rw [hs] at h;cases h
  | true=>
   rw [hs] at h;cases h;obtain ⟨k,hk⟩:=aiz (au8 (P:=O.prog) (L:=O.aC) GL Y2 hs);exact sound hO hk
 ·rename_i s e n cs
  cases hw:rX cs with
  | none=>rw [hw] at h;cases h
  | some l=>
   rw [hw] at h;simp only at h
   cases hb:(yv l.length n&&(yF n 4000000000&&(Bl l&&yF 9223372036854775808 (sB l)))) with
   | false=>rw [hb] at h;cases h
   | true=>
    rw [hb] at h;simp only [yg] at hb;obtain ⟨h1,h2,h3,h4⟩:=hb;obtain ⟨rfl,bh⟩:=apu cs l hw;have h1:=yp h1;subst h1;have h2:=yy h2;have h4:=yy h4;have h3:=acW h3;rw [Sx] at h4 h;have aW:=mr bh;have key:=fun (s z:Int) (hz:z.natAbs=bv 18446744073709551616 l) (hs:s=if z<0 then -1 else 1)=>
     as5 hO hN DB Ad GL.code kY jm PN YZ ht (s:=s) (z:=z) (e:=e) (l:=l) (.inr ⟨e,l,rfl,bh,h3,hz.symm,hs,by omega⟩) (by omega) h2 (by omega)
    split at h
    ·cases h
     have:=key 1 (bv 18446744073709551616 l:Nat) (by simp) (by rw [yx (by omega)])
     exact this
    ·cases h
     have:=key (-1) (-(bv 18446744073709551616 l:Nat):Int) (by simp) (by rw [yM (by omega)])
     rw [mO (by omega)] at this
     grind
    ·cases h
 ·cases h
end
end
section
open Go
def Tf (L:Lib) (n:Nat) (sp:List AV->Option AV):Lib:=⟨fun i=>bif yv i n then some sp else L.pure i,L.heap⟩
def aq0 {O:bl} (hO:eP O) {n:Nat} {sp:List AV->Option AV} (h:∀av r,sp av=some r->eD O n av r):eP (O.zp (Tf O.aC n sp)) where
 hint:=hO.hint
 mixed:=hO.mixed
 prog:=hO.prog
 aC i PX av r hi hs:=by
  show eD O i av r
  simp only [Tf] at hi
  cases hb:yv i n with
  | true=>
   simp_all
  | false=>
   rw [hb] at hi;exact hO.aC i PX av r hi hs
 Fl i PX hp ct av v aj aM hi hs:=acE (hO.Fl i PX hp ct av v aj aM hi hs)
end
section
open Go
section
variable {H:Type} {enc:yC×yh->H} {P:y5} {w:yi} {base:Nat} {sp:Nat->Bool} {held:Bool}
def mapM_mem {α β:Type} {f:α->Option β}:∀{l:List α} {r:List β},l.mapM f=some r->∀y,y∈r->∃x,f x=some y
 | [],r,h,y,hy=>by simp only [List.mapM_nil,wV,yd] at h;subst h;cases hy
 | x::l,r,h,y,hy=>by
  rw [ui] at h
  cases h1:f x with
  | none=>simp [h1] at h
  | some z=>
   cases h2:l.mapM f with
   | none=>simp [h1,h2] at h
   | some zs=>
    simp only [h1,h2,xR,vE,wV,yd] at h;subst h;rcases wP.1 hy with rfl | hy
    ·exact ⟨x,h1⟩
    ·exact mapM_mem h2 y hy
def Rd (enc:yC×yh->H) (P:y5) (w:yi) (base:Nat) (sp:Nat->Bool) (held:Bool) (t:yC) (d:xG H):Prop:=∃bq cs ps,DataW.trod enc P w base sp held bq t cs=some (d,ps)
def ay1 {t:yC} {k:y7} {d:xG H} {n:Nat} (ht:P.underlying t=some (.int k)) (h:Rd enc P w base sp held t d):∃z,cS P (n+1) t d=[.int k z]/\(Lit.int k z).wf=true:=by
 obtain ⟨bq,cs,ps,h⟩:=h
 cases bq with
 | zero=>simp [DataW.trod] at h
 | succ bq=>
  unfold DataW.trod at h
  split at h
  all_goals first
   | (rename_i hu;rw [ht] at hu;cases hu;done)
   | skip
  ·rename_i k1 k2 z hu;rw [ht] at hu;injection hu with hu
   injection hu with hu
   subst hu
   split at h
   ·rename_i hk;simp only [yd,yo] at h;obtain ⟨rfl,rfl⟩:=h;exact ⟨z,by simp only [cS,ht],hk.2⟩
   ·cases h
  all_goals (cases h;done)
def as9 {t e:yC} {d:xG H} {n:Nat} (ht:P.underlying t=some (.slice e)) (h:Rd enc P w base sp held t d):
  cS P (n+1) t d=[.aa]\/∃(x:Bool) (jI:List (xG H)),cS P (n+1) t d=[.aw x jI.length (jI.flatMap fun y=>cS P n e y)]/\∀y,y∈jI->Rd enc P w base sp held e y:=by
 obtain ⟨bq,cs,ps,h⟩:=h
 cases bq with
 | zero=>simp [DataW.trod] at h
 | succ bq=>
  unfold DataW.trod at h
  split at h
  all_goals first
   | (rename_i hu;rw [ht] at hu;cases hu;done)
   | skip
  ·simp only [yd,yo] at h;obtain ⟨rfl,rfl⟩:=h;exact .inl (by simp only [cS,ht])
  ·rename_i e' a len cap hu;rw [ht] at hu;injection hu with hu
   injection hu with hu
   subst hu;simp only at h
   split at h
   case isFalse=>cases h
   cases h1:(List.range len).mapM fun i=>(w.cells? base (a.add (i*P.cellsOf e)) (P.cellsOf e)).bind (DataW.trod enc P w base sp held bq e) with
   | none=>rw [h1] at h;simp at h
   | some jI=>
    rw [h1] at h;simp only [xR] at h;obtain ⟨rest,_,h⟩:=wI.1 h;simp only [yo] at h;obtain ⟨rfl,rfl⟩:=h;refine .inr ⟨(rest.map (·.1)).isEmpty,jI.map (·.1),by simp only [cS,ht,yr],?_⟩;intro y hy;obtain ⟨p,hp,rfl⟩:=vO.1 hy;obtain ⟨i,hi⟩:=mapM_mem h1 p hp;obtain ⟨dG,_,pV⟩:=Option.bind_eq_some_iff.1 hi;exact ⟨bq,dG,p.2,pV⟩
  all_goals (cases h;done)
def aq1 {t:yC} {fs:Array uM} {d:xG H} {n:Nat} (ht:P.underlying t=some (.struct fs)) (h:Rd enc P w base sp held t d):
  ∃ds:List (xG H),ds.length=fs.toList.length/\cS P (n+1) t d=(fs.toList.zip ds).flatMap (fun x=>cS P n x.1.type x.2)/\∀i (h1:i<fs.toList.length) (h2:i<ds.length),Rd enc P w base sp held fs.toList[i].type ds[i]:=by
 obtain ⟨bq,cs,ps,h⟩:=h
 cases bq with
 | zero=>simp [DataW.trod] at h
 | succ bq=>
  unfold DataW.trod at h
  split at h
  all_goals first
   | (rename_i hu;rw [ht] at hu;cases hu;done)
   | (cases h;done)
   | skip
  rename_i cs x1 K6 fs' hu;rw [ht] at hu;injection hu with hu
  injection hu with hu
  subst hu
  split at h
  case isFalse=>cases h
  obtain ⟨xs,h1,h⟩:=wI.1 h;simp only [yo] at h;obtain ⟨rfl,rfl⟩:=h;refine ⟨xs.map (·.1),by simp [Mg h1],by simp only [cS,ht],?_⟩;have key:∀{r:List uM} {xs:List (xG H×List wG)},r.mapM (fun f=>DataW.trod enc P w base sp held bq f.type ((cs.drop f.offset).take (P.cellsOf f.type)))=some xs->
    ∀i (h1:i<r.length) (h2:i<(xs.map (·.1)).length),Rd enc P w base sp held r[i].type (xs.map (·.1))[i]:=by
   intro r
   induction r with
   | nil=>intro xs h i h1;exact absurd h1 (Nat.not_lt_zero i)
   | cons f r ih=>
    intro xs h i h1 h2;rw [ui] at h
    cases g1:DataW.trod enc P w base sp held bq f.type ((cs.drop f.offset).take (P.cellsOf f.type)) with
    | none=>simp [g1] at h
    | some x=>
     cases g2:r.mapM (fun f=>DataW.trod enc P w base sp held bq f.type ((cs.drop f.offset).take (P.cellsOf f.type))) with
     | none=>simp [g1,g2] at h
     | some ys=>
      simp only [g1,g2,xR,vE,wV,yd] at h;subst h
      cases i with
      | zero=>exact ⟨bq,_,x.2,g1⟩
      | succ i=>exact ih g2 i (by simpa using h1) (by simpa using h2)
  exact key h1
def ata {t e:yC} {k:Nat} {d:xG H} {n:Nat} (ht:P.underlying t=some (.array k e)) (h:Rd enc P w base sp held t d):
  ∃ds:List (xG H),ds.length=k/\cS P (n+1) t d=ds.flatMap (fun x=>cS P n e x)/\∀y,y∈ds->Rd enc P w base sp held e y:=by
 obtain ⟨bq,cs,ps,h⟩:=h
 cases bq with
 | zero=>simp [DataW.trod] at h
 | succ bq=>
  unfold DataW.trod at h
  split at h
  all_goals first
   | (rename_i hu;rw [ht] at hu;cases hu;done)
   | (cases h;done)
   | skip
  rename_i cs x1 K6 k' e' hu;rw [ht] at hu;injection hu with hu
  injection hu with re Au
  subst re;subst Au
  split at h
  case isFalse=>cases h
  obtain ⟨xs,h1,h⟩:=wI.1 h;simp only [yo] at h;obtain ⟨rfl,rfl⟩:=h;refine ⟨xs.map (·.1),by simp [Mg h1],by simp only [cS,ht],fun y hy=>?_⟩;obtain ⟨p,hp,rfl⟩:=vO.1 hy;obtain ⟨i,hi⟩:=mapM_mem h1 p hp;exact ⟨bq,_,p.2,hi⟩
end
end
section
open Go
inductive Ty
 | int (k:y7)
 | bQ (k:ub)
 | bool
 | str
 | sl (e:Ty)
 | nil
 | cat (a b:Ty)
 | ar (n:Nat) (e:Ty)
def mK:Ty->List AV->Prop
 | .int k,l=>∃z,l=[.int k z]/\(Lit.int k z).wf=true
 | .bQ k,l=>∃b,l=[.bQ k b]
 | .bool,l=>∃b,l=[.bool b]
 | .str,l=>∃s:List Nat,l=[.str s]/\s.length<9223372036854775808/\∀c,c∈s->c<256
 | .sl e,l=>l=[.aa]\/∃(x:Bool) (ps:List (List AV)),l=[.aw x ps.length ps.flatten]/\∀p,p∈ps->mK e p
 | .nil,l=>l=[]
 | .cat a b,l=>∃x y,l=x++y/\mK a x/\mK b y
 | .ar n e,l=>∃ps:List (List AV),ps.length=n/\l=ps.flatten/\∀p,p∈ps->mK e p
def nc:List (Option Ty)->Option Ty
 | []=>some .nil
 | some a::r=>match nc r with
  | some b=>some (.cat a b)
  | none=>none
 | none::_=>none
def gm (P:y5):Nat->yC->Option Ty
 | 0,_=>none
 | n+1,t=>
  match P.underlying t with
  | some .bool=>some .bool
  | some (.int k)=>some (.int k)
  | some (.float k)=>some (.bQ k)
  | some .string=>some .str
  | some (.slice e)=>(gm P n e).map .sl
  | some (.struct fs)=>nc (fs.toList.map fun f=>gm P n f.type)
  | some (.array k e)=>(gm P n e).map (.ar k)
  | _=>none
section
variable {H:Type} {enc:yC×yh->H} {P:y5} {w:yi} {base:Nat} {sp:Nat->Bool} {held:Bool}
def ay2 {t:yC} {k:ub} {d:xG H} {n:Nat} (ht:P.underlying t=some (.float k)) (h:Rd enc P w base sp held t d):∃b,cS P (n+1) t d=[.bQ k b]:=by
 obtain ⟨bq,cs,ps,h⟩:=h
 cases bq with
 | zero=>simp [DataW.trod] at h
 | succ bq=>
  unfold DataW.trod at h
  split at h
  all_goals first
   | (rename_i hu;rw [ht] at hu;cases hu;done)
   | skip
  ·rename_i k1 k2 z hu;rw [ht] at hu;injection hu with hu
   injection hu with hu
   subst hu
   split at h
   ·simp only [yd,yo] at h;obtain ⟨rfl,rfl⟩:=h;exact ⟨z,by simp only [cS,ht]⟩
   ·cases h
  all_goals (cases h;done)
def au9 {t:yC} {d:xG H} {n:Nat} (ht:P.underlying t=some .bool) (h:Rd enc P w base sp held t d):∃b,cS P (n+1) t d=[.bool b]:=by
 obtain ⟨bq,cs,ps,h⟩:=h
 cases bq with
 | zero=>simp [DataW.trod] at h
 | succ bq=>
  unfold DataW.trod at h
  split at h
  all_goals first
   | (rename_i hu;rw [ht] at hu;cases hu;done)
   | skip
  ·simp only [yd,yo] at h;obtain ⟨rfl,rfl⟩:=h;rename_i b _;exact ⟨b,by simp only [cS,ht]⟩
  all_goals (cases h;done)
def ay3 {t:yC} {d:xG H} {n:Nat} (ht:P.underlying t=some .string) (h:Rd enc P w base sp held t d):
  ∃s:List Nat,cS P (n+1) t d=[.str s]/\s.length<9223372036854775808/\∀c,c∈s->c<256:=by
 obtain ⟨bq,cs,ps,h⟩:=h
 cases bq with
 | zero=>simp [DataW.trod] at h
 | succ bq=>
  unfold DataW.trod at h
  split at h
  all_goals first
   | (rename_i hu;rw [ht] at hu;cases hu;done)
   | skip
  ·rename_i s hu
   split at h
   ·rename_i hs;simp only [yd,yo] at h;obtain ⟨rfl,rfl⟩:=h;refine ⟨_,by simp only [cS,ht];rfl,?_,fun c hc=>?_⟩
    ·simp only [yr,Array.length_toList];have h1:s.size<=9223372036854775807:=hs;have h2:s.data.size=s.size:=rfl;omega
    ·obtain ⟨b,_,rfl⟩:=vO.1 hc;exact b.toNat_lt
   ·cases h
  all_goals (cases h;done)
def ab5 {n:Nat} (ih:∀{t:yC} {T:Ty} {d:xG H},gm P n t=some T->Rd enc P w base sp held t d->mK T (cS P n t d)):
  ∀(fs:List uM) (ds:List (xG H)) (T:Ty),nc (fs.map fun f=>gm P n f.type)=some T->ds.length=fs.length->(∀i (h1:i<fs.length) (h2:i<ds.length),Rd enc P w base sp held fs[i].type ds[i])->
   mK T ((fs.zip ds).flatMap fun x=>cS P n x.1.type x.2)
 | [],ds,T,hT,_,_=>by
  simp only [vM,nc,yd] at hT;subst hT;simp [mK]
 | f::fs,[],T,_,hl,_=>by simp at hl
 | f::fs,d::ds,T,hT,hl,hr=>by
  simp only [xa] at hT
  cases h1:gm P n f.type with
  | none=>simp [h1,nc] at hT
  | some a=>
   cases h2:nc (fs.map fun f=>gm P n f.type) with
   | none=>simp [h1,h2,nc] at hT
   | some b=>
    simp only [h1,h2,nc,yd] at hT;subst hT;simp only [List.zip_cons_cons,List.flatMap_cons];exact ⟨_,_,rfl,ih h1 (hr 0 (by simp) (by simp)),ab5 ih fs ds b h2 (by simpa using hl) (fun i h1 h2=>hr (i+1) (by simpa using h1) (by simpa using h2))⟩
def aiL:∀(n:Nat) {t:yC} {T:Ty} {d:xG H},gm P n t=some T->Rd enc P w base sp held t d->mK T (cS P n t d)
 | 0,t,T,d,hT,_=>by simp [gm] at hT
 | n+1,t,T,d,hT,hr=>by
  have ih:=@aiL n
  cases hu:P.underlying t with
  | none=>simp [gm,hu] at hT
  | some u=>
   cases u with
   | slice e=>
    simp only [gm,hu] at hT;obtain ⟨E,hE,rfl⟩:=wI.1 hT
    rcases as9 (n:=n) hu hr with h | ⟨x,jI,h,hm⟩
    ·exact .inl h
    ·refine .inr ⟨x,jI.map (cS P n e),by rw [h,yr,yaS],fun p hp=>?_⟩;obtain ⟨y,hy,rfl⟩:=vO.1 hp;exact ih hE (hm y hy)
   | struct fs=>
    simp only [gm,hu] at hT;obtain ⟨ds,e1,e2,e3⟩:=aq1 (n:=n) hu hr;rw [e2];exact ab5 ih fs.toList ds T hT e1 e3
   | array k e=>
    simp only [gm,hu] at hT;obtain ⟨E,hE,rfl⟩:=wI.1 hT;obtain ⟨ds,e1,e2,e3⟩:=ata (n:=n) hu hr;refine ⟨ds.map (cS P n e),by simp [e1],by rw [e2,yaS],fun p hp=>?_⟩;obtain ⟨y,hy,rfl⟩:=vO.1 hp;exact ih hE (e3 y hy)
   | int k=>
    simp only [gm,hu,yd] at hT;subst hT;exact ay1 hu hr
   | float k=>
    simp only [gm,hu,yd] at hT;subst hT;exact ay2 hu hr
   | bool=>
    simp only [gm,hu,yd] at hT;subst hT;exact au9 hu hr
   | string=>
    simp only [gm,hu,yd] at hT;subst hT;exact ay3 hu hr
   | _=>simp [gm,hu] at hT
def F6:Ty->List AV->AV
 | .nil,l | .cat _ _,l | .ar _ _,l=> .agg l
 | _,l=>l.headD .undef
def aq2:∀{l:List (Option Ty)} {T:Ty},nc l=some T->∀x,F6 T x= .agg x
 | [],T,h=>by simp only [nc,yd] at h;subst h;exact fun _=>rfl
 | none::r,T,h=>by simp [nc] at h
 | some a::r,T,h=>by
  cases h1:nc r with
  | none=>simp [nc,h1] at h
  | some b=>
   simp only [nc,h1,yd] at h;subst h;exact fun _=>rfl
def aAP {n:Nat} {t:yC} {T:Ty} {d:xG H} (hT:gm P n t=some T):lH P n t d=F6 T (cS P n t d):=by
 cases n with
 | zero=>simp [gm] at hT
 | succ n=>
  cases hu:P.underlying t with
  | none=>simp [gm,hu] at hT
  | some u=>
   cases u with
   | slice e=>
    simp only [gm,hu] at hT;obtain ⟨E,hE,rfl⟩:=wI.1 hT;simp only [lH,hu,F6]
   | struct fs=>
    simp only [gm,hu] at hT;rw [aq2 hT];simp only [lH,hu]
   | array k e=>
    simp only [gm,hu] at hT;obtain ⟨E,hE,rfl⟩:=wI.1 hT;simp only [lH,hu,F6]
   | _=>
    simp only [gm,hu,yd,reduceCtorEq] at hT<;>
    (subst hT
     simp only [lH,hu,F6])
def Jo:List Ty->List (List AV)->List AV
 | T::Ts,l::ls=>F6 T l::Jo Ts ls
 | _,_=>[]
def ad4 {n:Nat}:∀{ts:List yC} {Ts:List Ty} {vs:List yh} {ds:List (xG H)} {ps:List wG},(ts.map (gm P n))=Ts.map some->DataW.TrodAll enc P w base sp held ts vs ds ps->
  ∃ls,cK mK Ts ls/\zD P n ts ds=Jo Ts ls/\ds.length=ts.length
 | [],[],[],[],ps,_,_=>⟨[],trivial,rfl,rfl⟩
 | t::ts,T::Ts,v::vs,d::ds,ps,hT,⟨p,q,⟨bq,h1⟩,h2,_⟩=>by
  simp only [xa,List.cons.injEq] at hT;obtain ⟨ls,k1,k2,k3⟩:=ad4 hT.2 h2;exact ⟨cS P n t d::ls,⟨aiL n hT.1 ⟨bq,_,_,h1⟩,k1⟩,by simp only [zD,Jo,k2,aAP hT.1],by simp [k3]⟩
 | [],_::_,_,_,_,h,_=>by simp at h
 | _::_,[],_,_,_,h,_=>by simp at h
 | [],[],_::_,_,_,_,h=>by simp [DataW.TrodAll] at h
 | [],[],[],_::_,_,_,h=>by simp [DataW.TrodAll] at h
 | _::_,_,[],_,_,_,h=>by simp [DataW.TrodAll] at h
 | _::_,_,_::_,[],_,_,h=>by simp [DataW.TrodAll] at h
def ay4 {α β:Type} {p:α->β->Prop} {a:α}:∀{l:List β},cK p [a] l->∃x,l=[x]/\p a x
 | [x],h=>⟨x,rfl,h.1⟩
 | [],h=>h.elim
 | _::_::_,h=>h.2.elim
def ay5 {α β:Type} {p:α->β->Prop} {a b:α}:∀{l:List β},cK p [a,b] l->∃x y,l=[x,y]/\p a x/\p b y
 | x::l,h=>let ⟨y,h1,h2⟩:=ay4 h.2;⟨x,y,by rw [h1],h.1,h2⟩
 | [],h=>h.elim
end
end
section
open Go (IntKind)
def Ix (n:Nat):10^n<=2^(4*n):=by
 rw [tz];exact vZ (by decide) n
def aq3 {b:Nat} {r:List Nat} (h:dj (b::r)=true):48<=b/\b<=57:=by
 simp only [dj,yg] at h
 simp_all
section
variable {P:aK} {L:Lib}
def aiM (h:Tx P L) {ds:List Nat} {N:Nat} (hD:cP ds 0=some N) (hl:ds.length<=4000000000) {neg:Bool} {o1 o2:AV}:
  ∀m st,(∃(pre rest:List Nat) (a:Nat) (s:Int) (w:AV),aI [0,2,3,4] st=⟨[(0,.str rest),(2,.ptr 0 0),(3,.bool neg),(4,.ptr 1 0)],[(1,.cells true true true 2 [ab s,w]),(0,.cells true true true 2 [o1,o2])],2,0⟩/\ds=pre++rest/\cP pre 0=some a/\dC s w a/\rest.length=m)->
   ∃ex st',D P L (.loop [0,2,3,4] EK) st=some (ex,st')/\∃tm s w,st'=⟨tm,[(1,.cells true true true 2 [ab s,w]),(0,.cells true true true 2 [o1,o2])],2,0⟩/\ex= .exit 0/\ai tm 2= .ptr 0 0/\ai tm 3= .bool neg/\ai tm 4= .ptr 1 0/\dC s w N:=by
 intro dq sq;generalize bk:aI [0,2,3,4] sq=s0;revert bk s0 sq dq;apply du;rintro m st ⟨pre,rest,a,s,w,rfl,D5,fe,hn,rfl⟩;obtain ⟨l1,u1⟩:=hn.a6;have mu:=hD;rw [D5,Ij,fe] at mu;have mu:cP rest a=some N:=mu;have hlen:pre.length+rest.length<=4000000000:=by rw [D5,yG] at hl;exact hl
 by_cases h0:rest.length=0
 ·right
  have hr:rest=[]:=yB h0;subst hr
  have:a=N:=by simpa [cP] using mu
  subst this;simp only [go_sem,EK,yK,show ¬(0:Int)<((0:Nat):Int) by omega];exact ⟨_,_,rfl,by simp,_,s,w,rfl,rfl,by simp only [go_sem,ya],by simp only [go_sem,ya],by simp only [go_sem,ya],hn⟩
 ·left
  obtain ⟨n,sO⟩:∃n,n=min 18 rest.length:=⟨_,rfl⟩;have ajU:(if (rest.length:Int)<18 then (rest.length:Int) else 18)=(n:Int):=by split<;>omega
  have ib:rest.take n++rest.drop n=rest:=xS n rest;obtain ⟨a',DM⟩:∃a',cP (rest.take n) a=some a':=by
   rw [<-ib,Ij] at mu
   cases hq:cP (rest.take n) a with
   | none=>rw [hq] at mu;cases mu
   | some a'=>exact ⟨a',rfl⟩
  obtain ⟨v,hv⟩:∃v,cP (rest.take n) 0=some v:=by
   have:∀(l:List Nat) (x y b:Nat),cP l x=some y->∃z,cP l b=some z:=by
    intro l
    induction l with
    | nil=>intro x y b _;exact ⟨b,rfl⟩
    | cons c l ih=>
     intro x y b hh;simp only [cP] at hh ⊢
     cases hb:(yF 48 c&&yF c 57) with
     | false=>rw [hb] at hh;cases hh
     | true=>rw [hb] at hh;exact ih _ _ _ hh
   exact this _ _ _ 0 DM
  have alt:=as3 (a:=a) hv;have htl:(rest.take n).length=n:=by rw [yE];omega
  rw [htl,DM,yd] at alt;have Y3:=Sy hv;rw [htl] at Y3;have aI3:v<1000000000000000000:=yU Y3 (xh (n:=10) (by decide) (show n<=18 by omega));have e1:=au5 (P:=P) h.YV (f:=D P L) (s:=rest.take n) (by omega) (by omega) hv;obtain ⟨t1,t2⟩:=Dz h.toNu (z:=10) (by decide) (by decide);obtain ⟨t3,t4⟩:=Dz h.toNu (z:=(v:Int)) (by omega) (by omega);obtain ⟨p,e2,hp⟩:=aCw h.toNu h.YX t2 (K:=4) (k:=n) (by unfold Bd;decide) (by omega) (by omega)
  have halt:=Sy fe;have ba:Bd (4*pre.length) (a:Int):=yU halt (Ix _);have bp:Bd (4*n+1) ((10:Int)^n):=Bd.pow (k:=4) (by unfold Bd;decide) n
  obtain ⟨q,e3,hq⟩:=BE h.toNu (v:= .agg [ab s,w]) ⟨s,w,rfl,hn⟩ hp (K:=4*pre.length+4*n+1) (ba.mono (by omega)) (bp.mono (by omega)) (by omega);have bv':Bd (4*n) (v:Int):=yU Y3 (Ix _);obtain ⟨r,e4,hr⟩:=Kl h.toNu hq t4 (K:=4*pre.length+4*n+1) ((ba.mul bp).mono (by omega)) (bv'.mono (by omega)) (by omega);have aS:(a:Int)*10^n+(v:Int)=(a':Int):=by
   rw [alt]
   simp
  rw [aS] at hr;obtain ⟨s2,w2,rfl,h2⟩:=hp;obtain ⟨s3,w3,rfl,h3⟩:=hq;obtain ⟨s4,w4,rfl,h4⟩:=hr;obtain ⟨l2,u2⟩:=h2.a6;obtain ⟨l3,u3⟩:=h3.a6;obtain ⟨l4,u4⟩:=h4.a6;have un:=zi;have c1:ix rest (some 0) (some n)=some (.str (rest.take n)):=by rw [lC (by omega) (by omega),yL]
  have c2:ix rest (some n) (some rest.length)=some (.str (rest.drop n)):=by rw [lC (by omega) (by omega),xD]
  simp only [go_sem,ya,EK,show (0:Int)<(rest.length:Nat) by omega,aiC,adQ,ajU,eO,fb,dM,c1,c2,e1,cu,t1,t3,cD,u1.ap,u2.ap,u3.ap,un.ap,e2,e3,e4,cd,cu,yL,eb u4];refine ⟨_,(rest.drop n).length,rfl,by rw [xT];omega,pre++rest.take n,rest.drop n,a',s4,w4,by simp only [go_sem,ya,yb,ax],by rw [xy,ib];exact D5,by rw [Ij,fe];exact DM,h4,rfl⟩
def RC {b:Nat} {r:List Nat} (h:48<=b):gK [45] (b::r)=false:=by
 show (yv 45 b&&true)=false
 rw [gF (by omega)];rfl
def Kn (h:Tx P L) {z:Int} (hz:(aZ z).length<=4000000000):∃r,ak P L 110 [.str (aZ z)] r/\cG r z:=by
 have hN:=Cy z.natAbs;have un:=zi;have q9:(aB z.natAbs).length<=4000000000:=by
  by_cases h0:z<0
  ·rw [mO h0] at hz;simp at hz;omega
  ·rw [<-nO,yx h0] at hz;simpa using hz
 have ba:Bd (4*(aB z.natAbs).length) (z.natAbs:Int):=yU (Sy hN) (Ix _);by_cases h0:z<0
 ·have hs:aZ z=45::aB z.natAbs:=mO h0;have e1:bL P L (D P L) 152 [.str (45::aB z.natAbs),.str [45]]=some (.bool true):=by rw [jr h.aln];rfl
  have e2:bL P L (D P L) 153 [.str (45::aB z.natAbs),.str [45]]=some (.str (aB z.natAbs)):=by rw [jr h.YU];rfl
  have je:∃s w r,ak P L 110 [.str (aZ z)] r/\dC s w (z.natAbs:Int)/\ak P L 147 [.agg [ab s,w]] r/\cG r (-(z.natAbs:Int)):=by
   rw [hs];unfold ak;rw [aH h.alp];simp only [go_sem,ya,yb,N4,bi,e1,e2,un.pu,un.one,eb un];generalize hq:D P L (.loop [0,2,3,4] EK) _=q;obtain ⟨ex,st,rfl,tm,s,w,rfl,rfl,t2,t3,t4,h5⟩:=bJ hq (aiM (P:=P) (L:=L) h hN q9 (neg:=true) (o1:= .int .i64 0) (o2:= .aa) (aB z.natAbs).length) ⟨[],aB z.natAbs,0,0,.aa,by simp only [go_sem,ya,yb,ax]<;>rfl,rfl,rfl,.inl ⟨rfl,rfl,by decide,by decide⟩,rfl⟩
   obtain ⟨l5,u5⟩:=h5.a6;obtain ⟨r,e3,hr⟩:=F5 h.toNu (v:= .agg [ab s,w]) ⟨s,w,rfl,h5⟩ (K:=4*(aB z.natAbs).length) ba (by omega);have bP:=hr;obtain ⟨s6,w6,rfl,h6⟩:=hr;obtain ⟨l6,u6⟩:=h6.a6;refine ⟨s,w,_,?_,h5,e3,bP⟩;simp only [go_sem,ya,yb,ax,t2,t3,t4,cu,cD,u5.ap,e3,cd,fq,fu,cu,yL,mX u6,eb u6]
  obtain ⟨s,w,r,g1,_,_,g2⟩:=je;rw [show -((z.natAbs:Nat):Int)=z by omega] at g2;exact ⟨r,g1,g2⟩
 ·have hs:aZ z=aB z.natAbs:=by rw [<-nO,yx h0];rfl
  obtain ⟨b,r0,hb,kW,hb2⟩:=Er z.natAbs;have e1:bL P L (D P L) 152 [.str (aB z.natAbs),.str [45]]=some (.bool false):=by
   rw [jr h.aln,hb];show some (AV.bool (gK [45] (b::r0)))=_
   rw [RC kW]
  have e2:bL P L (D P L) 153 [.str (aB z.natAbs),.str [45]]=some (.str (aB z.natAbs)):=by
   rw [jr h.YU,hb];show some (AV.str (bif gK [45] (b::r0) then _ else _))=_
   rw [RC kW];rfl
  have je:∃s w,ak P L 110 [.str (aZ z)] (.agg [ab s,w])/\dC s w (z.natAbs:Int):=by
   rw [hs];unfold ak;rw [aH h.alp];simp only [go_sem,ya,yb,N4,bi,e1,e2,un.pu,un.one,eb un];generalize hq:D P L (.loop [0,2,3,4] EK) _=q;obtain ⟨ex,st,rfl,tm,s,w,rfl,rfl,t2,t3,t4,h5⟩:=bJ hq (aiM (P:=P) (L:=L) h hN q9 (neg:=false) (o1:= .int .i64 0) (o2:= .aa) (aB z.natAbs).length) ⟨[],aB z.natAbs,0,0,.aa,by simp only [go_sem,ya,yb,ax]<;>rfl,rfl,rfl,.inl ⟨rfl,rfl,by decide,by decide⟩,rfl⟩
   obtain ⟨l5,u5⟩:=h5.a6;refine ⟨s,w,?_,h5⟩;simp only [go_sem,ya,yb,ax,t2,t3,t4,cu,fq,fu,cu,yL,mX u5,eb u5]
  obtain ⟨s,w,g1,g2⟩:=je;rw [show ((z.natAbs:Nat):Int)=z by omega] at g2;exact ⟨_,g1,s,w,rfl,g2⟩
def Ia (b:Nat) (r:List Nat) (c:Nat):gK [c] (b::r)=yv c b:=by
 show (yv c b&&true)=_
 grind
def abt:∀(l r:List Nat) (k:Nat),(∀x,x∈l->x≠47)->mj [47] (l++47::r) k=some (k+l.length)
 | [],r,k,_=>by
  show (bif gK [47] (47::r) then some k else _)=_
  rw [Ia];rfl
 | b::l,r,k,h=>by
  show (bif gK [47] (b::(l++47::r)) then some k else mj [47] (l++47::r) (k+1))=_
  rw [Ia,gF (fun e=>h b (by simp) e.symm),yT,abt l r (k+1) (fun x hx=>h x (by simp [hx])),yz]
  grind
def index_none:∀(l:List Nat) (k:Nat),(∀x,x∈l->x≠47)->mj [47] l k=none
 | [],k,_=>rfl
 | b::l,k,h=>by
  show (bif gK [47] (b::l) then some k else mj [47] l (k+1))=_
  rw [Ia,gF (fun e=>h b (by simp) e.symm),yT,index_none l (k+1) (fun x hx=>h x (by simp [hx]))]
def ad5:∀{l:List Nat},dj l=true->∀x,x∈l->48<=x/\x<=57
 | [],_,x,hx=>by simp at hx
 | b::l,h,x,hx=>by
  have h1:=aq3 h;simp only [dj,yg] at h;rcases wP.1 hx with rfl | hx
  ·grind
  ·exact ad5 h.2 x hx
def anZ (z:Int):∀x,x∈aZ z->x≠47:=fun x hx=>by
 rw [<-nO] at hx;rcases List.mem_append.1 hx with h | h
 ·grind
 ·have:=ad5 (H8 _) x h;omega
def m62 (h:Tx P L) {a:Rat} (hl:(RT a).length<4000000000):∃r,ak P L 62 [.str (RT a)] r/\eN r a:=by
 have Gi:=anZ a.num;unfold RT at hl ⊢;by_cases hd:a.den=1
 ·rw [yM hd,xY] at hl ⊢;obtain ⟨p,e1,hp⟩:=Kn h (z:=a.num) (by omega);obtain ⟨r,e2,hr⟩:=YT h.toFr' hp;rw [<-Sw a hd] at hr;have bP:=hr;obtain ⟨s1,w1,rfl,h1⟩:=hp;obtain ⟨s2,w2,s3,w3,rfl,h2,h3⟩:=hr;obtain ⟨l1,u1⟩:=h1.a6;obtain ⟨l2,u2⟩:=h2.a6;obtain ⟨l3,u3⟩:=h3.a6;have e0:bL P L (D P L) 109 [.str (aZ a.num),.str [47]]=some (.ae [.str (aZ a.num),.str [],.bool false]):=by
   rw [jr h.YW];show (bif yQ (aZ a.num).length 4294967281 then (match mj [47] (aZ a.num) 0 with | some i=>_ | none=>some (AV.ae [.str (aZ a.num),.str [],.bool false])) else none)=_
   rw [kO (by omega),index_none _ _ Gi];rfl
  refine ⟨_,?_,bP⟩;unfold ak;rw [aH h.Qo];simp only [go_sem,ya,yb,Gv,bi,e0,e1,cd,u1.ap,cD,e2,mY u2 u3,fq,fu,yL,jx,mZ u2 u3]
 ·rw [yx hd] at hl ⊢;simp only [yG,yz] at hl;obtain ⟨p,e1,hp⟩:=Kn h (z:=a.num) (by omega);obtain ⟨q,e2,hq⟩:=Kn h (z:=(a.den:Int)) (by rw [lA];omega);rw [lA] at e2;obtain ⟨s1,w1,rfl,h1⟩:=hp;obtain ⟨s2,w2,rfl,h2⟩:=hq;obtain ⟨l1,u1⟩:=h1.a6;obtain ⟨l2,u2⟩:=h2.a6;have e0:bL P L (D P L) 109 [.str (aZ a.num++47::aB a.den),.str [47]]=some (.ae [.str (aZ a.num),.str (aB a.den),.bool true]):=by
   rw [jr h.YW];show (bif yQ (aZ a.num++47::aB a.den).length 4294967281 then (match mj [47] (aZ a.num++47::aB a.den) 0 with | some i=>some (AV.ae [.str ((aZ a.num++47::aB a.den).take i),.str ((aZ a.num++47::aB a.den).drop (i+1)),.bool true]) | none=>_) else none)=_
   rw [kO (by simp;omega),abt _ _ _ Gi];simp only [ye,yA,List.take_left];rw [show (aZ a.num).length+1=(aZ a.num++[47]).length by simp,show aZ a.num++47::aB a.den=(aZ a.num++[47])++aB a.den by simp,List.drop_left]
  refine ⟨.agg [ab s1,w1,ab s2,w2],?_,s1,w1,s2,w2,rfl,h1,h2⟩;unfold ak;rw [aH h.Qo];simp only [go_sem,ya,yb,Gv,bi,e0,e1,e2,cd,u1.one,u2.one,EB,EC,mY u1 u2,fq,fu,yL,jx,mZ u1 u2]
end
end
section
open Go (IntKind)
def dV (p:List Nat):Bool:=dj p&&(match p with | []=>false | b::r=> !(yv b 48)||r.isEmpty)
def fN (p:List Nat):Nat:=(cP p 0).getD 0
def Ae (neg:Bool) (t:List Nat):Int:=
 if dV (t.take (bZ t))=false\/(neg=true/\t.take (bZ t)=[48]) then 1
 else if bZ t<t.length/\(dV (t.drop (bZ t+1))=false\/t.drop (bZ t+1)=[48]\/t.drop (bZ t+1)=[49]) then 1
 else if 600<bZ t\/600<t.length-bZ t-1 then 4
 else if bZ t<t.length/\wN (fN (t.take (bZ t))) (fN (t.drop (bZ t+1)))≠1 then 1
 else 0
def cf:List Nat->Int
 | []=>Ae false []
 | b::t=>if b=45 then Ae true t else Ae false (b::t)
def ad6:∀{p:List Nat} (a:Nat),dj p=true->∃n,cP p a=some n
 | [],a,_=>⟨a,rfl⟩
 | b::r,a,h=>by
  have h':=h;simp only [dj,yg] at h';obtain ⟨n,hn⟩:=ad6 (p:=r) (10*a+(b-48)) h'.2;exact ⟨n,by simp only [cP,h'.1.1,h'.1.2,wm,yA];exact hn⟩
def Es:∀(k:Nat) {p:List Nat},p.length=k->dV p=true->aB (fN p)=p:=by
 intro k
 induction k with
 | zero=>intro p hl h;rw [yB hl] at h;simp [dV] at h
 | succ k ih=>
  intro p hl h;rcases snoc p with rfl | ⟨m,a,rfl⟩
  ·grind
  ·simp only [dV,yg,LO] at h;obtain ⟨⟨h1,h2⟩,h3⟩:=h;simp only [dj,yg] at h2;have ha1:=yy h2.1.1;have ha2:=yy h2.1.2;obtain ⟨n,hn⟩:=ad6 0 h1;have hv:fN (m++[a])=10*n+(a-48):=by
    unfold fN;rw [Ij,hn];simp only [xR,cP,h2.1.1,h2.1.2,wm,yA,Option.getD_some]
   cases m with
   | nil=>
    have:n=0:=by simpa [cP] using hn.symm
    rw [hv,oW (by omega)]
    simp;omega
   | cons b r=>
    have hd:dV (b::r)=true:=by
     simp only [dV,h1,wA]
     cases r with
     | nil=>simp
     | cons c r=>simp at h3 ⊢;exact h3
    have hm:=ih (p:=b::r) (by simpa using hl) hd;have hnv:fN (b::r)=n:=by unfold fN;rw [hn];rfl
    rw [hnv] at hm;have BT:n≠0:=fun e=>by
     rw [oW (by omega)] at hm
     simp_all
    rw [hv,qG (by omega),show (10*n+(a-48))/10=n by omega,show 48+(10*n+(a-48))%10=a by omega,hm]
def aa1 (t:List Nat):bZ t<t.length->t=t.take (bZ t)++47::t.drop (bZ t+1):=by
 induction t with
 | nil=>simp
 | cons b r ih=>
  intro h;simp only [bZ] at h ⊢
  grind
def acX {n:Int} {d:Nat} (hd:0<d) (hg:wN n.natAbs d=1):∃r:Rat,r.num=n/\r.den=d:=⟨⟨n,d,by omega,hg⟩,rfl,rfl⟩
def ay6 {s:List Nat} (h:cf s=0):∃r:Rat,s=RT r/\(aB r.num.natAbs).length<=600/\(aB r.den).length<=600:=by
 have key:∀(neg:Bool) (t:List Nat),Ae neg t=0->∃r:Rat,(if neg=true then [45] else [])++t=RT r/\(aB r.num.natAbs).length<=600/\(aB r.den).length<=600:=by
  intro neg t h;unfold Ae at h
  split at h
  ·grind
  rename_i h1
  split at h
  ·grind
  rename_i h2
  split at h
  ·grind
  rename_i h3
  split at h
  ·grind
  rename_i h4;have hle:=H7 t;have hp:dV (t.take (bZ t))=true:=by
   cases hb:dV (t.take (bZ t)) with
   | true=>rfl
   | false=>exact absurd (.inl hb) h1
  have rn:=Es _ rfl hp;generalize hn:fN (t.take (bZ t))=n at*
  have aAQ:neg=true->n≠0:=fun hh e=>by
   subst e;exact h1 (.inr ⟨hh,by rw [<-rn];rfl⟩)
  have hint:(if neg=true then [45] else [])++aB n=aZ (if neg=true then -(n:Int) else n):=by
   cases neg with
   | true=>
    have:=aAQ rfl
    simp only [xE];rw [mO (by omega)]
    simp
   | false=>simp [lA]
  have Y4:(if neg=true then -(n:Int) else n).natAbs=n:=by split<;>omega
  have hln:(aB n).length<=600:=by rw [rn,yE];omega
  by_cases hs:bZ t<t.length
  ·have hq:dV (t.drop (bZ t+1))=true:=by
    cases hb:dV (t.drop (bZ t+1)) with
    | true=>rfl
    | false=>exact absurd ⟨hs,.inl hb⟩ h2
   have oP:=Es _ rfl hq;have hg:wN n (fN (t.drop (bZ t+1)))=1:=by
    grind
   have j9:=aa1 t hs;have Ln:(t.drop (bZ t+1)).length<=600:=by rw [xT];omega
   rw [<-oP] at j9 Ln;have iC:fN (t.drop (bZ t+1))≠0:=fun e=>by
    rw [e] at oP;exact h2 ⟨hs,.inr (.inl (by rw [<-oP];rfl))⟩
   have jh:fN (t.drop (bZ t+1))≠1:=fun e=>by
    rw [e] at oP;exact h2 ⟨hs,.inr (.inr (by rw [<-oP];rfl))⟩
   generalize fN (t.drop (bZ t+1))=d at*
   obtain ⟨r,cC,mI⟩:=acX (n:=if neg=true then -(n:Int) else n) (d:=d) (by omega) (by rw [Y4];exact hg)
   refine ⟨r,?_,by rw [cC,Y4];exact hln,by rw [mI];exact Ln⟩
   unfold RT;rw [cC,mI,yx jh,<-hint,xy]
   congr 1
   rw [rn];exact j9
  ·have ht:t.take (bZ t)=t:=yN (by omega);rw [ht] at rn;obtain ⟨r,cC,mI⟩:=acX (n:=if neg=true then -(n:Int) else n) (d:=1) (by omega) (Nat.gcd_one_right _);refine ⟨r,?_,by rw [cC,Y4];exact hln,by rw [mI];decide⟩
   unfold RT;rw [cC,mI,yM rfl,<-hint,xY,rn]
 cases s with
 | nil=>exact absurd h (by decide)
 | cons b t=>
  simp only [cf] at h
  split at h
  ·rename_i hb;subst hb;exact key true t h
  ·exact key false (b::t) h
end
section
namespace Nd
structure Ord (n:Nat) (l:List Int):Prop where
 len:l.length=n
 pT:∀a,a<n->0<=l.getD a 0/\l.getD a 0<n
 inj:∀a b,a<n->b<n->l.getD a 0=l.getD b 0->a=b
end Nd
end
section
namespace Nd
open Go (IntKind)
section
variable {P:aK} {L:Lib}
abbrev ak (P:aK) (L:Lib) (f:Nat) (av:List AV) (r:AV):Prop:=bL P L (D P L) f av=some r
def stS {hp:Hp} {ct id o:Nat} {v:Int} {ex:Bool} {l:List Int} (h:o<l.length):iR hp ct id o 1 [.int .i64 v] (some (.cells true true ex 1 (l.map ab)))=some (.ae [],a7 hp id (.cells true true ex 1 ((l.set o v).map ab)),ct):=by
 rw [zJ (by rfl) (by simp;omega) (by rfl)]
 have:over o [AV.int .i64 v] (l.map ab)=(l.set o v).map ab:=by
  simp only [over,yz,yK,ye];rw [tI,vR,yM (by simpa using h)]
  simp
 rw [this];rfl
def mB (h:Has P L 124 Fs) (b:Bool) (n:Int):ak P L 124 [.bool b,ab n] (ab (if b=true then n else 0)):=by
 unfold ak;rw [aH h]
 cases b with
 | true=>simp only [go_sem,ya,Fs,xE]
 | false=>simp only [go_sem,ya,Fs];rfl
def Py (h:Has P L 125 N6) {v:AV} {l:List Int} (hv:bt v l) (hl:l.length<=1000000):ak P L 125 [v] (ab (bD l)):=by
 unfold ak;rw [aH h];simp only [go_sem,ya,N6,hv.len];have key:=R1 (P:=P) (L:=L) (live:=[5,6,7]) (a:=Ni)
  (I:=fun k s=>∃tm ct i,s=⟨tm,[],ct,0⟩/\ai tm 5=v/\ai tm 6=ab l.length/\ai tm 7=ab (i:Nat)/\i+k=l.length/\bD (l.drop i)=bD l)
  (Q:=fun ex s=>∃tm,s=⟨tm,[],0,0⟩/\((ex= .ret/\ai tm 2=ab (bD l))\/(ex= .exit 0/\bD l=0))) ?_ l.length
 ·generalize hq:D P L (.loop [5,6,7] Ni) _=q;obtain ⟨ex,s,rfl,tm,rfl,h2⟩:=bJ hq key ⟨_,_,0,rfl,rfl,rfl,rfl,by omega,rfl⟩;rcases h2 with ⟨rfl,h2⟩ | ⟨rfl,h2⟩
  ·simp only [go_sem,h2]
  ·rw [h2];simp only [go_sem]
 ·rintro k s ⟨tm,ct,i,rfl,h5,h6,h7,hk,hf⟩;rw [aa5 (by simp only [go_sem,h5,h6,h7,hv.pu])];simp only [go_sem,ya,h5,h6,h7,Ni];by_cases hi:i<l.length
  ·have df:(i:Int)<l.length:=by omega
   rw [abn hi] at hf;by_cases hz:l[i]=0
   ·left
    simp only [go_sem,ya,df,hv.aY hi,hz];refine ⟨_,k-1,rfl,by omega,_,_,i+1,rfl,?_⟩;rw [wrap64 (by omega) (by omega)];rw [yM hz] at hf;simp only [go_sem,ya];exact ⟨trivial,trivial,rfl,by omega,hf⟩
   ·right
    simp only [go_sem,ya,df,hv.aY hi,hz];rw [yx hz] at hf;refine ⟨_,_,rfl,by simp,_,rfl,.inl ⟨rfl,?_⟩⟩;simp only [go_sem,hf]
  ·right
   have df:¬(i:Int)<l.length:=by omega
   simp only [go_sem,df];refine ⟨_,_,rfl,by simp,_,rfl,.inr ⟨rfl,?_⟩⟩;rw [<-hf,xf (by omega)];rfl
end
end Nd
end
section
open Go (IntKind)
def ad7 (i:Nat):Fq i [48,49,50,51,52,53,54,55,56,57]=(yF 48 i&&yF i 57):=by
 by_cases h:48<=i/\i<=57
 ·obtain ⟨h1,h2⟩:=h;obtain ⟨k,rfl⟩:∃k,i=48+k:=⟨i-48,by omega⟩;rcases (show k=0\/k=1\/k=2\/k=3\/k=4\/k=5\/k=6\/k=7\/k=8\/k=9 by omega) with rfl | rfl | rfl | rfl | rfl | rfl | rfl | rfl | rfl | rfl<;>rfl
 ·have e:(yF 48 i&&yF i 57)=false:=by
   cases h1:yF 48 i with
   | false=>rfl
   | true=>
    cases h2:yF i 57 with
    | false=>rfl
    | true=>exact absurd ⟨yy h1,yy h2⟩ h
  rw [e];have ne:∀c,48<=c->c<=57->yv c i=false:=fun c h1 h2=>gF (by omega)
  simp only [Fq,ne 48 (by decide) (by decide),ne 49 (by decide) (by decide),ne 50 (by decide) (by decide),ne 51 (by decide) (by decide),ne 52 (by decide) (by decide),ne 53 (by decide) (by decide),ne 54 (by decide) (by decide),ne 55 (by decide) (by decide),ne 56 (by decide) (by decide),ne 57 (by decide) (by decide),yT]
def RD:∀l:List Nat,kN [48,49,50,51,52,53,54,55,56,57] l=[]↔dj l=true
 | []=>by simp [kN,dj]
 | b::r=>by
  simp only [kN,dj,ad7]
  cases hb:(yF 48 b&&yF b 57) with
  | true=>simp only [yA,wA];exact RD r
  | false=>simp
def ME:∀l:List Nat,dj l.reverse=dj l
 | []=>rfl
 | b::r=>by rw [List.reverse_cons,LO,ME r];simp [dj,Bool.and_comm]
def aa6:∀l:List Nat,dj l=false->dj (kN [48,49,50,51,52,53,54,55,56,57] l)=false
 | [],h=>by simp [dj] at h
 | b::r,h=>by
  simp only [kN,ad7]
  cases hb:(yF 48 b&&yF b 57) with
  | true=>
   simp only [dj,hb,wA] at h;exact aa6 r h
  | false=>simp only [yT];exact h
def atb (p:List Nat):cY (kN [48,49,50,51,52,53,54,55,56,57] (kN [48,49,50,51,52,53,54,55,56,57] p.reverse).reverse) []=dj p:=by
 cases hd:dj p with
 | true=>
  have h1:=(RD p.reverse).2 (by rw [ME];exact hd)
  rw [h1];rfl
 | false=>
  have h1:=aa6 p.reverse (by rw [ME];exact hd)
  have h2:dj (kN [48,49,50,51,52,53,54,55,56,57] p.reverse).reverse=false:=by rw [ME];exact h1
  cases hq:kN [48,49,50,51,52,53,54,55,56,57] (kN [48,49,50,51,52,53,54,55,56,57] p.reverse).reverse with
  | nil=>have:=(RD _).1 hq;rw [h2] at this;exact absurd this (by decide)
  | cons b r=>rfl
def aa7:∀(t:List Nat) (k:Nat),mj [47] t k=if bZ t<t.length then some (k+bZ t) else none
 | [],k=>by simp [mj,gK,bZ]
 | b::r,k=>by
  by_cases hb:b=47
  ·subst hb;have e:bZ (47::r)=0:=by simp [bZ]
   rw [e,yM (by simp)];rfl
  ·have e:bZ (b::r)=bZ r+1:=by simp [bZ,hb]
   have hp:gK [47] (b::r)=false:=by rw [Ia];exact gF (fun e=>hb e.symm)
   rw [e,mj,hp,yT,aa7 r (k+1)]
   grind
def A1 (a b:List Nat):binOp .neq (.str a) (.str b)=some (.bool (!(cY a b))):=rfl
structure Ck (P:aK) (L:Lib):Prop extends Tx P L where
 aCx:L.pure 128=some LZ
 aCy:L.pure 162=some trimS
 h86:Has P L 86 dR
 oz:Has P L 124 Fs
 Pz:Has P L 125 N6
 aCz:Has P L 129 Ft
section
variable {P:aK} {L:Lib}
def mB (h:Has P L 124 Fs) (b:Bool) (n:Int):ak P L 124 [.bool b,ab n] (ab (if b=true then n else 0)):=Nd.mB h b n
def alu (h:Ck P L) {p:List Nat} (hl:p.length<=4000000000):ak P L 129 [.str p] (.bool (dV p)):=by
 have e1:bL P L (D P L) 162 [.str p,.str [48,49,50,51,52,53,54,55,56,57]]=some (.str (kN [48,49,50,51,52,53,54,55,56,57] (kN [48,49,50,51,52,53,54,55,56,57] p.reverse).reverse)):=by
  rw [jr h.aCy];show (bif EJ [48,49,50,51,52,53,54,55,56,57]&&(yQ p.length 4294967281&&yQ 10 4294967281) then _ else none)=_
  rw [kO (by omega)];rfl
 have e2:=atb p;unfold ak;rw [aH h.aCz]
 match p,e1,e2 with
 | [],_,_=>
  simp only [go_sem,ya,Ft,A1,show cY [] []=true from rfl,yR];rfl
 | b::r,e1,e2=>
  have hI:mT 0 (.str (b::r))=some (.int .u8 (b:Nat)):=rfl;have h0:cY (b::r) []=false:=rfl;have hd:dV (b::r)=(dj (b::r)&&(!(yv b 48)||r.isEmpty)):=rfl;rw [hd]
  cases nH:dj (b::r) with
  | false=>
   rw [nH] at e2;simp only [go_sem,ya,Ft,A1,h0,yO,e1,lD,e2,xN]
  | true=>
   rw [nH] at e2;by_cases hb:b=48
   ·subst hb;have e3:cY (48::r) [48]=r.isEmpty:=by
     cases r with
     | nil=>rfl
     | cons c r=>rfl
    have ZD:mT 0 (.str (48::r))=some (.int .u8 48):=rfl;simp only [go_sem,ya,Ft,A1,h0,yO,e1,lD,e2,ZD,yq,yR,e3];rfl
   ·have:yv b 48=false:=gF hb
    rw [this];simp only [go_sem,ya,Ft,A1,h0,yO,e1,lD,e2,hI,show ¬((b:Nat):Int)=48 by omega,yt,yO];rfl
def aCA (h:Ck P L) (s:List Nat):bL P L (D P L) 128 [.str s,.str [45]]=some (if s.head? =some 45 then .ae [.str s.tail,.bool true] else .ae [.str s,.bool false]):=by
 rw [jr h.aCx];show some (bif gK [45] s then AV.ae [.str (s.drop 1),.bool true] else .ae [.str s,.bool false])=_
 cases s with
 | nil=>rfl
 | cons b r=>
  by_cases hb:b=45
  ·subst hb;rfl
  ·have:gK [45] (b::r)=false:=by rw [Ia];exact gF (fun e=>hb e.symm)
   grind
def aCB (h:Ck P L) {t:List Nat} (hl:t.length<=4000000000):bL P L (D P L) 109 [.str t,.str [47]]=some (.ae [.str (t.take (bZ t)),.str (t.drop (bZ t+1)),.bool (decide (bZ t<t.length))]):=by
 rw [jr h.YW];show (bif yQ t.length 4294967281 then (match mj [47] t 0 with | some i=>some (AV.ae [.str (t.take i),.str (t.drop (i+1)),.bool true]) | none=>some (AV.ae [.str t,.str [],.bool false])) else none)=_
 rw [kO (by omega),aa7];by_cases hs:bZ t<t.length
 ·grind
 ·rw [yx hs,y8 hs,yN (by omega),xf (by omega)];rfl
def apv {P:aK} {L:Lib} (a b c d:VC) (s:St):D P L (.seq a (.seq b (.seq c d))) s=jK P L (D P L (.seq a (.seq b c)) s) d:=by
 have e:=CA (P:=P) (L:=L) b c d;rw [kh,kh]
 cases D P L a s with
 | none=>rfl
 | some q=>
  obtain ⟨ex,st⟩:=q
  cases ex with
  | normal=>rw [fB,fB];exact e st
  | ret=>rfl
  | exit id=>rfl
def aq4 {P:aK} {L:Lib} (a b c d f:VC) (s:St):D P L (.seq a (.seq b (.seq c (.seq d f)))) s=jK P L (D P L (.seq a (.seq b (.seq c d))) s) f:=by
 have e:=apv (P:=P) (L:=L) b c d f;rw [kh,kh]
 cases D P L a s with
 | none=>rfl
 | some q=>
  obtain ⟨ex,st⟩:=q
  cases ex with
  | normal=>rw [fB,fB];exact e st
  | ret=>rfl
  | exit id=>rfl
def M8 {a b:List Nat} (h:a=b):cY a b=true:=by
 subst h
 induction a with
 | nil=>rfl
 | cons x a ih=>simp [cY,ih]
def SA {a b:List Nat} (h:a≠b):cY a b=false:=by
 cases hb:cY a b with
 | false=>rfl
 | true=>
  exact absurd (by
   clear h;revert b
   induction a with
   | nil=>intro b hb;cases b with | nil=>rfl | cons y b=>simp [cY] at hb
   | cons x a ih=>
    intro b hb
    cases b with
    | nil=>simp [cY] at hb
    | cons y b=>
     simp only [cY,yg] at hb
     rw [yp hb.1,ih hb.2]) h
def aAR (h:Ck P L) {p q:List Nat} {ok found:Bool} (lp:p.length<=1000000000) (lq:q.length<=1000000000) (jq:ok=true->dV p=true/\(found=true->dV q=true)) {tm:Env} (t5:ai tm 5= .str p) (t6:ai tm 6= .str q) (t7:ai tm 7= .bool found) (t8:ai tm 8= .bool ok):
  gM [.t 2] (D P L (az (az (az (az (az dR.body))))) ⟨tm,[],0,0⟩)=some (ab (
   if ok=false then 1
   else if 600<p.length\/600<q.length then 4
   else if found=true/\wN (fN p) (fN q)≠1 then 1
   else 0)):=by
 have w1:=mB h.oz (!ok) 1;have Qt:∀a b:Int,ak P L 125 [.aw true 2 [ab a,ab b]] (ab (bD [a,b])):=fun a b=>Nd.Py h.Pz (lB true [a,b]) (by simp)
 cases ok with
 | false=>
  have f1:=Qt 1 0;have f2:=Qt 1 4;have w2:=mB h.oz false 4;have w3:=mB h.oz true 4;simp only [yO,xE,yI,xg] at w1 w2 w3;rw [show bD [1,0]=1 by decide] at f1;rw [show bD [1,4]=1 by decide] at f2;unfold ak at w1 w2 w3 f1 f2;by_cases h1:600<p.length
  ·simp only [go_sem,ya,yb,yD,yk,yf,dR,az,show ¬(1:Int)=0 by decide,yO,t5,t8,yO,w1,show (600:Int)<(p.length:Int) by omega,yq,w3,f2,yt]
   simp
  ·by_cases h2:600<q.length
   ·simp only [go_sem,ya,yb,yD,yk,yf,dR,az,show ¬(1:Int)=0 by decide,yO,t5,t6,t8,yO,w1,show ¬(600:Int)<(p.length:Int) by omega,show (600:Int)<(q.length:Int) by omega,yq,yt,w3,f2]
    simp
   ·simp only [go_sem,ya,yb,yD,yk,yf,dR,az,show ¬(1:Int)=0 by decide,yO,t5,t6,t8,yO,w1,show ¬(600:Int)<(p.length:Int) by omega,show ¬(600:Int)<(q.length:Int) by omega,yt,w2,f1]
    simp
 | true=>
  obtain ⟨hp,hq⟩:=jq rfl;have f1:=Qt 0 0;have f2:=Qt 0 4;have w2:=mB h.oz false 4;have w3:=mB h.oz true 4;have w4:=mB h.oz false 1;have w5:=mB h.oz true 1;simp only [yR,xE,yI,xg] at w1 w2 w3 w4 w5;rw [show bD [0,0]=0 by decide] at f1;rw [show bD [0,4]=4 by decide] at f2;unfold ak at w1 w2 w3 w4 w5 f1 f2;rw [yx (by decide)];by_cases h1:600<p.length
  ·rw [yM (.inl h1)];simp only [go_sem,ya,yb,yD,yk,yf,dR,az,show ¬(4:Int)=0 by decide,yO,t5,t8,yR,w1,show (600:Int)<(p.length:Int) by omega,yq,w3,f2,yt]
  ·by_cases h2:600<q.length
   ·rw [yM (.inr h2)];simp only [go_sem,ya,yb,yD,yk,yf,dR,az,show ¬(4:Int)=0 by decide,yO,t5,t6,t8,yR,w1,show ¬(600:Int)<(p.length:Int) by omega,show (600:Int)<(q.length:Int) by omega,yq,yt,w3,f2]
   ·rw [yx (by omega)]
    cases found with
    | false=>
     rw [yx (by simp)];simp only [go_sem,ya,yb,yD,yk,yf,dR,az,t5,t6,t7,t8,yR,w1,show ¬(600:Int)<(p.length:Int) by omega,show ¬(600:Int)<(q.length:Int) by omega,yq,yt,w2,f1]
    | true=>
     have rn:=Es _ rfl hp;have oP:=Es _ rfl (hq rfl);generalize fN p=n at*
     generalize fN q=d at*
     subst rn;subst oP;obtain ⟨M,hM⟩:∃M:Nat,M=2400:=⟨_,rfl⟩;have bd:∀{m:Nat},(aB m).length<=600->Bd M (m:Int):=fun {m} hm=>by
      have h1:=Iw m;have h2:=Ix (aB m).length;have h3:(2:Nat)^(4*(aB m).length)<=2^M:=xh (by decide) (by omega);unfold Bd;rw [vn];exact yU h1 (xm h2 h3)
     obtain ⟨x,e1,hx⟩:=Kn h.toTx (z:=(n:Int)) (by rw [lA];omega);obtain ⟨y,e2,hy⟩:=Kn h.toTx (z:=(d:Int)) (by rw [lA];omega);rw [lA] at e1 e2;have kn:=bd (m:=n) (by omega);have kd:=bd (m:=d) (by omega);obtain ⟨g,e3,hg⟩:=alk h.toNu hx hy kn kd (by omega);obtain ⟨e4,Zo⟩:=Dz h.toNu (z:=1) (by decide) (by decide);have kg:Bd M ((Int.gcd (n:Int) (d:Int):Nat):Int):=by
      rcases xp d with h0 | h0
      ·subst h0;simpa using kn
      ·exact kd.le (by have:=Nat.gcd_le_right n h0;simpa using this)
     have e5:=aCk h.toNu hg Zo (K:=M) kg (by unfold Bd;exact Nat.one_lt_two_pow (by omega)) (by omega)
     have aCC:Int.gcd (n:Int) (d:Int)=wN n d:=rfl;rw [aCC] at e5;obtain ⟨xs,xw,rfl,rq⟩:=hx;obtain ⟨ys,yw,rfl,Lp⟩:=hy;obtain ⟨gs,gw,rfl,hg'⟩:=hg;obtain ⟨l1,u1⟩:=rq.a6;obtain ⟨l2,u2⟩:=Lp.a6;obtain ⟨l3,u3⟩:=hg'.a6;by_cases iB:wN n d=1
     ·rw [yx (by simp [iB])];have hs:cT (((wN n d:Nat):Int)-1)=0:=by rw [iB];rfl
      rw [hs] at e5;simp only [go_sem,ya,yb,yD,yk,yf,dR,az,t5,t6,t7,t8,yR,w1,show ¬(600:Int)<((aB n).length:Int) by omega,show ¬(600:Int)<((aB d).length:Int) by omega,yq,yt,w2,f1,e1,e2,u1.ap,u2.ap,u3.ap,cd,cD,e3,e4,e5]
     ·rw [yM ⟨rfl,iB⟩];obtain ⟨c,hc,kX⟩:∃c,cT (((wN n d:Nat):Int)-1)=c/\c≠0:=⟨_,rfl,fun e=>iB (by
       unfold cT at e
       split at e
       ·exact absurd e (by decide)
       ·split at e
        ·omega
        ·exact absurd e (by decide))⟩
      rw [hc] at e5;simp only [go_sem,ya,yb,yD,yk,yf,dR,az,yO,t5,t6,t7,t8,yR,w1,show ¬(600:Int)<((aB n).length:Int) by omega,show ¬(600:Int)<((aB d).length:Int) by omega,yq,yt,w2,f1,e1,e2,u1.ap,u2.ap,u3.ap,cd,cD,e3,e4,e5,kX,yO,w5]
def m86 (h:Ck P L) {s:List Nat} (hl:s.length<=1000000000):ak P L 86 [.str s] (ab (cf s)):=by
 have key:∀(neg:Bool) (t:List Nat),t.length<=1000000000->bL P L (D P L) 128 [.str s,.str [45]]=some (.ae [.str t,.bool neg])->ak P L 86 [.str s] (ab (Ae neg t)):=by
  intro neg t hl e0;have e1:=aCB h (t:=t) (by omega);obtain ⟨k,hk⟩:∃k,k=bZ t:=⟨_,rfl⟩;have Ce:k<=t.length:=by rw [hk];exact H7 t
  have e2:=alu h (p:=t.take k) (by rw [yE];omega);have e3:=alu h (p:=t.drop (k+1)) (by rw [xT];omega);have lp:(t.take k).length=k:=by rw [yE];omega
  have lq:(t.drop (k+1)).length=t.length-k-1:=by rw [xT];omega
  unfold Ae;rw [<-hk] at e1 ⊢;generalize hp:t.take k=p at*
  generalize hq:t.drop (k+1)=q at*
  obtain ⟨Cf,sC⟩:∃ok:Bool,ok=(dV p&&(!neg|| !(cY p [48]))):=⟨_,rfl⟩;obtain ⟨ok,jq⟩:∃ok:Bool,ok=(Cf&&(!(decide (k<t.length))||(dV q&&(!(cY q [48])&& !(cY q [49]))))):=⟨_,rfl⟩
  have F0:(if dV p=false\/(neg=true/\p=[48]) then 1
    else if k<t.length/\(dV q=false\/q=[48]\/q=[49]) then 1
    else if 600<k\/600<t.length-k-1 then 4
    else if k<t.length/\wN (fN p) (fN q)≠1 then 1 else 0:Int)=(if ok=false then 1
    else if 600<p.length\/600<q.length then 4
    else if decide (k<t.length)=true/\wN (fN p) (fN q)≠1 then 1
    else 0):=by
   rw [lp,lq];have a1:(dV p=false\/(neg=true/\p=[48]))↔Cf=false:=by
    rw [sC];cases dV p<;>cases neg<;>simp
    by_cases e:p=[48]
    ·simp [e,M8]
    ·simp [e,SA e]
   have a2:ok=false↔(Cf=false\/(k<t.length/\(dV q=false\/q=[48]\/q=[49]))):=by
    rw [jq];by_cases hs:k<t.length
    ·simp only [hs,yq,yR,vL,tn];cases Cf<;>cases dV q<;>simp
     by_cases e:q=[48]
     ·simp [e,M8]
     ·by_cases e':q=[49]
      ·simp [e',M8]
      ·simp [e,e',SA e,SA e']
    ·simp [hs]
   by_cases h1:Cf=false
   ·rw [yM (a1.2 h1),yM (a2.2 (.inl h1))]
   ·rw [yx (fun e=>h1 (a1.1 e))];by_cases h2:k<t.length/\(dV q=false\/q=[48]\/q=[49])
    ·rw [yM h2,yM (a2.2 (.inr h2))]
    ·rw [yx h2,yx (fun e=>(a2.1 e).elim h1 h2)];simp only [wh]
  rw [F0];have aCD:ok=true->dV p=true/\(decide (k<t.length)=true->dV q=true):=fun e=>by
   rw [jq,yg] at e;obtain ⟨e1,e2⟩:=e;rw [sC,yg] at e1;refine ⟨e1.1,fun hs=>?_⟩;rw [hs,yR,vL,yg] at e2;exact e2.1
  have tail:∀tm,ai tm 5= .str p->ai tm 6= .str q->ai tm 7= .bool (decide (k<t.length))->ai tm 8= .bool ok->gM [.t 2] (D P L (az (az (az (az (az dR.body))))) ⟨tm,[],0,0⟩)=_:=fun tm t5 t6 t7 t8=>
   aAR h (by omega) (by omega) aCD t5 t6 t7 t8
  have mid:∀tm,ai tm 5= .str p->ai tm 6= .str q->ai tm 7= .bool (decide (k<t.length))->ai tm 8= .bool Cf->
    ∃tm',D P L (bw (az (az (az (az dR.body))))) ⟨tm,[],0,0⟩=some (.normal,⟨tm',[],0,0⟩)/\ai tm' 5= .str p/\ai tm' 6= .str q/\ai tm' 7= .bool (decide (k<t.length))/\ai tm' 8= .bool ok:=fun tm t5 t6 t7 t8=>by
   unfold ak at e3;by_cases hs:k<t.length
   ·rw [xn hs] at t7 jq ⊢;simp only [yR,vL] at jq
    cases Cf with
    | false=>
     rw [xN] at jq;subst jq;refine ⟨_,by simp only [go_sem,ya,dR,bw,az,t7,t8]<;>rfl,?_⟩
     simp only [go_sem,ya,t5,t6,t7,tn]
    | true=>
     rw [wA] at jq
     cases hd:dV q with
     | false=>
      rw [hd] at e3 jq;rw [xN] at jq;subst jq;refine ⟨_,by simp only [go_sem,ya,dR,bw,az,t6,t7,t8,e3]<;>rfl,?_⟩
      simp only [go_sem,ya,t5,t6,t7,tn]
     | true=>
      rw [hd] at e3 jq;rw [wA] at jq
      cases jE:cY q [48] with
      | true=>
       rw [jE,yR,xN] at jq;subst jq;refine ⟨_,by simp only [go_sem,ya,dR,bw,az,t6,t7,t8,e3,A1,jE,yR]<;>rfl,?_⟩
       simp only [go_sem,ya,t5,t6,t7,tn]
      | false=>
       rw [jE,yO,wA] at jq;subst jq;refine ⟨_,by simp only [go_sem,ya,dR,bw,az,t6,t7,t8,e3,A1,jE,yO]<;>rfl,?_⟩
       simp only [go_sem,ya,t5,t6,t7,tn]
   ·rw [y8 hs] at t7 jq ⊢;simp only [yO,yaQ,Bool.and_true] at jq;subst jq;refine ⟨_,by simp only [go_sem,dR,bw,az,t7]<;>rfl,?_⟩
    simp only [go_sem,ya,t5,t6,t7,t8,tn]
  have fin:∀tm,ai tm 5= .str p->ai tm 6= .str q->ai tm 7= .bool (decide (k<t.length))->ai tm 8= .bool Cf->
    D P L (.seq (bw dR.body) (.seq (bw (az dR.body)) (.seq (bw (az (az dR.body))) (bw (az (az (az dR.body))))))) ⟨[(0,.str s)],[],0,0⟩=some (.normal,⟨tm,[],0,0⟩)->ak P L 86 [.str s] _:=fun tm t5 t6 t7 t8 e=>by
   obtain ⟨tm',e',f5,f6,f7,f8⟩:=mid tm t5 t6 t7 t8;unfold ak;rw [aH h.h86];show gM [.t 2] (D P L (.seq (bw dR.body) (.seq (bw (az dR.body)) (.seq (bw (az (az dR.body))) (.seq (bw (az (az (az dR.body)))) (.seq (bw (az (az (az (az dR.body))))) (az (az (az (az (az dR.body)))))))))) ⟨[(0,.str s)],[],0,0⟩)=_
   rw [aq4,e,fB,kh,e',fB];exact tail tm' f5 f6 f7 f8
  unfold ak at e2
  cases hd:dV p with
  | false=>
   rw [hd] at e2 sC;rw [xN] at sC;subst sC;refine fin _ ?_ ?_ ?_ ?_ (by simp only [go_sem,ya,dR,bw,az,e0,e1,e2]<;>rfl)<;>simp only [go_sem,ya]
  | true=>
   rw [hd] at e2 sC
   cases neg with
   | false=>
    simp only [yO,yaQ] at sC;subst sC;refine fin _ ?_ ?_ ?_ ?_ (by simp only [go_sem,ya,dR,bw,az,e0,e1,e2,yO]<;>rfl)<;>simp only [go_sem,ya]
   | true=>
    simp only [yR,vL] at sC;subst sC;refine fin _ ?_ ?_ ?_ ?_ (by simp only [go_sem,ya,dR,bw,az,e0,e1,e2,yR,A1]<;>rfl)<;>simp only [go_sem,ya]
 unfold cf;have e0:=aCA h s
 cases s with
 | nil=>exact key false [] (by simp) e0
 | cons b r=>
  by_cases hb:b=45
  ·subst hb;exact key true r (by simp at hl;omega) e0
  ·simp only [hb,xg];rw [yx (by simpa using hb)] at e0;exact key false (b::r) hl e0
end
end
section
open Go (IntKind)
def LN (z:Int):Bool:=decide (600<(aB z.natAbs).length)
def LG (r:Rat):Bool:=LN r.num||LN (r.den:Int)
def apw {m B k:Nat} (hB:B<=3*k) (hk:0<k) (h:m<2^B):(aB m).length<=k:=by
 obtain ⟨j,rfl⟩:∃j,k=j+1:=⟨k-1,by omega⟩;refine rJ (yU h (xm (xh (by decide) hB) ?_));rw [tz];exact vZ (by decide) _
def SB:∀f n:Nat,eL f n<=f
 | 0,_=>yu _
 | f+1,n=>by
  unfold eL
  cases yv n 0 with
  | true=>exact Nat.zero_le _
  | false=>have:=SB f (n/2);simp only [yT];omega
def ay7 {P:aK} {L:Lib} {f:cA} (h:L.pure 175=some IE) {x:Nat} (hx:x<18446744073709551616):bL P L f 175 [uc x]=some (ab (eL 64 x:Nat)):=by
 rw [jr h];show (bif yQ x 18446744073709551616 then _ else none)=_
 rw [kO hx];rfl
def ava {V n top low:Nat} (hn:0<n) (h0:0<top) (ht:top<18446744073709551616) (hV:V=low+18446744073709551616^(n-1)*top) (hl:low<18446744073709551616^(n-1)):V<2^(64*(n-1)+eL 64 top):=by
 obtain ⟨l1,l2,l3⟩:=R5 h0 ht;have hle:=SB 64 top;have h1:top<2^eL 64 top:=by
  have e:(18446744073709551616:Nat)=2^eL 64 top*2^(64-eL 64 top):=by rw [<-wS,show eL 64 top+(64-eL 64 top)=64 by omega]
  rw [e] at l3;exact Nat.lt_of_mul_lt_mul_right l3
 have h3:=yZ (18446744073709551616^(n-1)) (show top+1<=2^eL 64 top from h1);rw [wS,tz]
 grind
section
variable {P:aK} {L:Lib}
def atc (K:Nat):2^K<=18446744073709551616^(K/64+1):=by
 rw [show (18446744073709551616:Nat)=2^64 from rfl,<-tz];exact xh (by decide) (by omega)
def aAS (h:Tx P L) {v:AV} {z:Int} {K:Nat} (hv:cG v z) (hz:Bd K z) (hK:K<=4000000000):∃B:Nat,ak P L 172 [v] (ab B)/\z.natAbs<2^B/\B<=K+64:=by
 obtain ⟨s,w,rfl,hn⟩:=hv;obtain ⟨l,u⟩:=hn.a6;obtain ⟨r,e1,hr⟩:=Ac h.toNu hn;obtain ⟨ws,hw,g,nz',hb⟩:=hr;have hl:ws.length<=K/64+1:=ot nz' hb (yU hz (atc K));unfold ak at e1 ⊢;by_cases h0:ws=[]
 ·subst h0;have lV:z.natAbs=0:=by rw [<-hb];rfl
  refine ⟨0,?_,by rw [lV];decide,by omega⟩
  rw [aH h.alo];simp only [go_sem,ya,yb,Oe,bi,cu,cD,u.pu,u.ap,u.one,e1,hw.len,yK,show ((0:Nat):Int)=0 from rfl,yq]
 ·have hp:0<ws.length:=List.length_pos_iff.2 h0;have qM:=Mz nz' h0;have D1:=gV (show 0<18446744073709551616 by decide) g (ws.length-1);have ei:=hw.aY (i:=ws.length-1) (by omega);have eS:=ju (b:=18446744073709551616) (l:=ws) (ws.length-1);have Ko:=mr (A0 g (ws.length-1));rw [yE,xA (by omega)] at Ko;rw [show ws.length-1+1=ws.length by omega,yN (yu _)] at eS;generalize ws.getD (ws.length-1) 0=top at*
  have e2:=ay7 (P:=P) (f:=D P L) h.aCq D1;have hle:=SB 64 top;have ajt:=ava hp (Nat.pos_of_ne_zero qM) D1 eS Ko;rw [hb] at ajt;refine ⟨64*(ws.length-1)+eL 64 top,?_,ajt,by omega⟩;rw [aH h.alo]
  simp only [go_sem,ya,yb,Oe,bi,cu,cD,u.pu,u.ap,u.one,e1,hw.len,show ¬(ws.length:Int)=0 by omega,show (ws.length:Int)-1=((ws.length-1:Nat):Int) by omega,wrapN (n:=ws.length-1) (by omega),show (64:Int)*((ws.length-1:Nat):Int)=((64*(ws.length-1):Nat):Int) by omega,wrapN (n:=64*(ws.length-1)) (by omega),ei,e2,show ((64*(ws.length-1):Nat):Int)+((eL 64 top:Nat):Int)=((64*(ws.length-1)+eL 64 top:Nat):Int) from rfl,wrapN (n:=64*(ws.length-1)+eL 64 top) (by omega)]
def aCE (h:Tx P L) {v:AV} {z:Int} {K:Nat} (hv:cG v z) (hz:Bd K z) (hK:K<=4000000000):∃B:Nat,ak P L 172 [v] (ab B)/\z.natAbs<2^B/\B<=300000000000:=by
 obtain ⟨B,h1,h2,h3⟩:=aAS h hv hz hK;exact ⟨B,h1,h2,by omega⟩
def aq5 (z:Int):(if gK [45] (aZ z)=true then (aZ z).drop 1 else aZ z)=aB z.natAbs:=by
 by_cases h:z<0
 ·rw [mO h];rfl
 ·obtain ⟨m,rfl⟩:∃m:Nat,z=m:=⟨z.toNat,by omega⟩;rw [lA];obtain ⟨b,r,hb,h1,_⟩:=Er m;rw [vn,hb,RC h1];rfl
def alv (h:Tx P L) {v:AV} {z:Int} {K:Nat} (hv:cG v z) (hz:Bd K z) (hK:K<=4000000000):ak P L 151 [v] (.bool (LN z)):=by
 obtain ⟨B,e1,hB,hBb⟩:=aCE h hv hz hK;have e2:=m99 h hv hz hK;obtain ⟨s,w,rfl,hn⟩:=hv;obtain ⟨l,u⟩:=hn.a6;have e3:bL P L (D P L) 153 [.str (aZ z),.str [45]]=some (.str (aB z.natAbs)):=by
  rw [jr h.YU,<-aq5];show some (AV.str (bif gK [45] (aZ z) then (aZ z).drop 1 else aZ z))=_
  cases gK [45] (aZ z)<;>rfl
 unfold ak at e1 e2 ⊢;rw [aH h.aCr];unfold LN;by_cases h1:1800<B
 ·simp only [go_sem,ya,yb,N9,bi,cu,cD,u.pu,u.ap,u.one,e1,show (1800:Int)<(B:Int) by omega,yq,e2,e3];by_cases h2:600<(aB z.natAbs).length
  ·rw [xn h2,xn (by omega)]
  ·rw [y8 h2,y8 (by omega)]
 ·have h2:=apw (k:=600) (by omega) (by decide) hB;rw [y8 (by omega)];simp only [go_sem,ya,yb,N9,bi,cu,cD,u.pu,u.ap,u.one,e1,show ¬(1800:Int)<(B:Int) by omega,yt]
def aCF (h:Tx P L) {v:AV} {a:Rat} {K:Nat} (hv:eN v a) (ka:Hq K a) (hK:K<=4000000000):ak P L 107 [v] (.bool (LG a)):=by
 obtain ⟨s1,w1,s2,w2,rfl,h1,h2⟩:=hv;have e1:=alv h ⟨s1,w1,rfl,h1⟩ ka.1 hK;have e2:=alv h ⟨s2,w2,rfl,h2⟩ ka.2 hK;obtain ⟨l1,u1⟩:=h1.a6;obtain ⟨l2,u2⟩:=h2.a6;unfold ak at e1 e2 ⊢;rw [aH h.aCs];unfold LG
 cases hb:LN a.num with
 | true=>
  rw [hb] at e1;simp only [go_sem,ya,yb,N3,bi,b5,ye,cu,cD,u1.pu,u1.ap,u1.one,u2.pu,u2.one,e1];rfl
 | false=>
  rw [hb] at e1;simp only [go_sem,ya,yb,N3,bi,b5,ye,show vD 2 [ab s1,w1,ab s2,w2]=[ab s2,w2] from rfl,cu,cD,u1.pu,u1.ap,u1.one,u2.pu,u2.ap,u2.one,e1,e2];rfl
end
end
section
open Go (IntKind)
def aq6 (p s:Nat):p*(s%1000000000)+p*1000000000*(s/1000000000)=p*s:=by
 rw [xo,<-xI,Nat.mod_add_div]
def Ik {l:List Int} {i:Nat} (h:l.length<=i):l.getD i 0=0:=by simp_all
def atd {a b out:List Int} {i c:Nat} {x y:Int} (hx:x=a.getD i 0) (hy:y=b.getD i 0) (h1:0<=x) (h2:0<=y) (hl:out.length=i) (hv:dv out+1000000000^i*c=dv (a.take i)+dv (b.take i)):
  dv (out++[(((x.toNat+y.toNat+c)%1000000000:Nat):Int)])+1000000000^(i+1)*((x.toNat+y.toNat+c)/1000000000)=dv (a.take (i+1))+dv (b.take (i+1)):=by
 rw [pk,pk,mN,hl,<-hx,<-hy];simp only [dv,xX,xJ,yY,xd]
 have:=aq6 (1000000000^i) (x.toNat+y.toNat+c)
 grind
section
variable {P:aK} {L:Lib}
def ay8 (nk:Has P L 302 sj) {v w:AV} {a b:List Int} (hv:bt v a) (hw:bt w b) (ha:dg a) (hb:dg b) {N:Nat} (la:a.length<=N) (lb:b.length<=N) (lN:N<=20000000000):
  ∀k s,(∃(i c:Nat) (out:List Int),2*(N-i)+c=k/\out.length=i/\c<=1/\dg out/\dv out+1000000000^i*c=dv (a.take i)+dv (b.take i)/\i<=N+1/\(i<=N\/c=0)/\
    ((i=0/\aI [0,1,5,6,7] s=⟨[(0,v),(1,w),(5,.aa),(6,ab c),(7,ab i)],[],0,0⟩)\/
    (0<i/\aI [0,1,5,6,7] s=⟨[(0,v),(1,w),(5,.ao 0 0 i),(6,ab c),(7,ab i)],[(0,.cells true true false 1 (out.map ab))],1,0⟩)))->
   ∃ex s',D P L (.loop [0,1,5,6,7] px) s=some (ex,s')/\∃tm out,ex= .exit 0/\dg out/\dv out=dv a+dv b/\out.length<=N+1/\((out=[]/\ai tm 5= .aa/\s'=⟨tm,[],0,0⟩)\/(0<out.length/\ai tm 5= .ao 0 0 out.length/\s'=⟨tm,[(0,.cells true true false 1 (out.map ab))],1,0⟩)):=by
 intro dq sq;generalize bk:aI [0,1,5,6,7] sq=s0;revert bk s0 sq dq;apply du;rintro k s ⟨i,c,out,hk,hlen,hc,nH,aS,hi,Gg,hs⟩;have e1:=YF nk hv i;have e2:=YF nk hw i;unfold ak at e1 e2;have ga:=im ha i;have gb:=im hb i;by_cases sT:i<a.length\/i<b.length\/0<c
 ·left
  obtain ⟨x,hx⟩:∃x,x=a.getD i 0:=⟨_,rfl⟩;obtain ⟨y,hy⟩:∃y,y=b.getD i 0:=⟨_,rfl⟩;rw [<-hx] at e1 ga;rw [<-hy] at e2 gb;have kP:=atd (c:=c) hx hy ga.1 gb.1 hlen aS;obtain ⟨s0,Aj⟩:∃s0,s0=x.toNat+y.toNat+c:=⟨_,rfl⟩;rw [<-Aj] at kP;have BG:x+y+(c:Int)=(s0:Int):=by omega
  have hs9:s0<2000000000:=by omega
  have hr:((s0:Nat):Int).tmod 1000000000=((s0%1000000000:Nat):Int):=by rw [wB (by omega)];rfl
  have hq:((s0:Nat):Int).tdiv 1000000000=((s0/1000000000:Nat):Int):=by rw [wC (by omega)];rfl
  have lf:s0/1000000000<=1:=by omega
  have aAT:2*(N-(i+1))+s0/1000000000<k:=by
   by_cases hm:i<N
   ·omega
   ·have:c=1:=by omega
    have Aw:x=0:=by rw [hx];exact Ik (by omega)
    have jW:y=0:=by rw [hy];exact Ik (by omega)
    subst Aw;subst jW
    have:s0=1:=by rw [Aj,this];rfl
    subst this;omega
  have F7:dg (out++[((s0%1000000000:Nat):Int)]):=ig.2 ⟨nH,lE.2 (by omega)⟩;have zO:(out++[((s0%1000000000:Nat):Int)]).length=i+1:=by simp [hlen]
  have aCG:i+1<=N\/s0/1000000000=0:=by
   by_cases hm:i<N
   ·exact .inl hm
   ·right
    have:c=1:=by omega
    have Aw:x=0:=by rw [hx];exact Ik (by omega)
    have jW:y=0:=by rw [hy];exact Ik (by omega)
    subst Aw;subst jW
    have:s0=1:=by rw [Aj,this];rfl
    subst this;rfl
  have fin:∃s',D P L px s=some (.normal,s')/\aI [0,1,5,6,7] s'=⟨[(0,v),(1,w),(5,.ao 0 0 (i+1)),(6,ab (s0/1000000000:Nat)),(7,ab (i+1:Nat))],[(0,.cells true true false 1 ((out++[((s0%1000000000:Nat):Int)]).map ab))],1,0⟩:=by
   have three:((i:Int)<a.length)\/(¬(i:Int)<a.length/\(i:Int)<b.length)\/(¬(i:Int)<a.length/\¬(i:Int)<b.length/\(0:Int)<c):=by omega
   rcases three with t1 | ⟨t1,t2⟩ | ⟨t1,t2,t3⟩
   ·rcases hs with ⟨h0,rfl⟩ | ⟨h0,rfl⟩
    ·subst h0;have mC:out=[]:=yB hlen;subst mC
     simp only [go_sem,ya,yb,xt,yD,yk,yf,px,hv.len,hv.ap,hw.ap,t1,e1,e2,wrap64 (n:=x+y) (by omega) (by omega),BG,wrap64 (n:=(s0:Int)) (by omega) (by omega),iV _ _ _ (show (1000000000:Int)≠0 by decide),gG _ _ _ (show (1000000000:Int)≠0 by decide),hr,hq,wrap64 (n:=((s0/1000000000:Nat):Int)) (by omega) (by omega),ij];refine ⟨_,rfl,?_⟩;rw [wrap64 (by omega) (by omega)];simp only [go_sem,ya,yb,ax,aD hv.pu,aE _ hv.pu,aD hw.pu,aE _ hw.pu]<;>rfl
    ·simp only [go_sem,ya,yb,yk,yf,px,hv.len,hv.ap,hw.ap,t1,e1,e2,wrap64 (n:=x+y) (by omega) (by omega),BG,wrap64 (n:=(s0:Int)) (by omega) (by omega),iV _ _ _ (show (1000000000:Int)≠0 by decide),hr]
     rw [fS (ex:=false) (pu:=true) (cs:=out.map ab) (by simp only [go_sem,ya]) (by rw [yr,hlen,yf]) (by omega) (by omega) (by decide) (by simp only [go_sem])]
     simp only [go_sem,ya,yb,gG _ _ _ (show (1000000000:Int)≠0 by decide),hq,wrap64 (n:=((s0/1000000000:Nat):Int)) (by omega) (by omega)];refine ⟨_,rfl,?_⟩;rw [wrap64 (by omega) (by omega),xi];simp only [go_sem,ya,yb,ax,aD hv.pu,aE _ hv.pu,aD hw.pu,aE _ hw.pu]<;>rfl
   ·rcases hs with ⟨h0,rfl⟩ | ⟨h0,rfl⟩
    ·subst h0;have mC:out=[]:=yB hlen;subst mC
     simp only [go_sem,ya,yb,xt,yD,yk,yf,px,hv.len,hv.ap,hw.len,hw.ap,t1,t2,e1,e2,wrap64 (n:=x+y) (by omega) (by omega),BG,wrap64 (n:=(s0:Int)) (by omega) (by omega),iV _ _ _ (show (1000000000:Int)≠0 by decide),gG _ _ _ (show (1000000000:Int)≠0 by decide),hr,hq,wrap64 (n:=((s0/1000000000:Nat):Int)) (by omega) (by omega),ij];refine ⟨_,rfl,?_⟩;rw [wrap64 (by omega) (by omega)];simp only [go_sem,ya,yb,ax,aD hv.pu,aE _ hv.pu,aD hw.pu,aE _ hw.pu]<;>rfl
    ·simp only [go_sem,ya,yb,yk,yf,px,hv.len,hv.ap,hw.len,hw.ap,t1,t2,e1,e2,wrap64 (n:=x+y) (by omega) (by omega),BG,wrap64 (n:=(s0:Int)) (by omega) (by omega),iV _ _ _ (show (1000000000:Int)≠0 by decide),hr]
     rw [fS (ex:=false) (pu:=true) (cs:=out.map ab) (by simp only [go_sem,ya]) (by rw [yr,hlen,yf]) (by omega) (by omega) (by decide) (by simp only [go_sem])]
     simp only [go_sem,ya,yb,gG _ _ _ (show (1000000000:Int)≠0 by decide),hq,wrap64 (n:=((s0/1000000000:Nat):Int)) (by omega) (by omega)];refine ⟨_,rfl,?_⟩;rw [wrap64 (by omega) (by omega),xi];simp only [go_sem,ya,yb,ax,aD hv.pu,aE _ hv.pu,aD hw.pu,aE _ hw.pu]<;>rfl
   ·rcases hs with ⟨h0,rfl⟩ | ⟨h0,rfl⟩
    ·subst h0;have mC:out=[]:=yB hlen;subst mC
     simp only [go_sem,ya,yb,xt,yD,yk,yf,px,hv.len,hv.ap,hw.len,hw.ap,t1,t2,t3,e1,e2,wrap64 (n:=x+y) (by omega) (by omega),BG,wrap64 (n:=(s0:Int)) (by omega) (by omega),iV _ _ _ (show (1000000000:Int)≠0 by decide),gG _ _ _ (show (1000000000:Int)≠0 by decide),hr,hq,wrap64 (n:=((s0/1000000000:Nat):Int)) (by omega) (by omega),ij];refine ⟨_,rfl,?_⟩;rw [wrap64 (by omega) (by omega)];simp only [go_sem,ya,yb,ax,aD hv.pu,aE _ hv.pu,aD hw.pu,aE _ hw.pu]<;>rfl
    ·simp only [go_sem,ya,yb,yk,yf,px,hv.len,hv.ap,hw.len,hw.ap,t1,t2,t3,e1,e2,wrap64 (n:=x+y) (by omega) (by omega),BG,wrap64 (n:=(s0:Int)) (by omega) (by omega),iV _ _ _ (show (1000000000:Int)≠0 by decide),hr]
     rw [fS (ex:=false) (pu:=true) (cs:=out.map ab) (by simp only [go_sem,ya]) (by rw [yr,hlen,yf]) (by omega) (by omega) (by decide) (by simp only [go_sem])]
     simp only [go_sem,ya,yb,gG _ _ _ (show (1000000000:Int)≠0 by decide),hq,wrap64 (n:=((s0/1000000000:Nat):Int)) (by omega) (by omega)];refine ⟨_,rfl,?_⟩;rw [wrap64 (by omega) (by omega),xi];simp only [go_sem,ya,yb,ax,aD hv.pu,aE _ hv.pu,aD hw.pu,aE _ hw.pu]<;>rfl
  obtain ⟨s',f1,f2⟩:=fin;exact ⟨s',_,f1,aAT,i+1,s0/1000000000,_,rfl,zO,lf,F7,kP,by omega,aCG,.inr ⟨by omega,f2⟩⟩
 ·right
  have kX:c=0:=by omega
  subst kX;rw [xJ,yY,yN (by omega),yN (by omega)] at aS;rcases hs with ⟨h0,rfl⟩ | ⟨h0,rfl⟩
  ·simp only [go_sem,ya,px,hv.len,hw.len,show ¬(i:Int)<a.length by omega,show ¬(i:Int)<b.length by omega,show ¬(0:Int)<((0:Nat):Int) by omega];exact ⟨_,_,rfl,by simp,_,out,rfl,nH,aS,by omega,.inl ⟨yB (by omega),by simp only [go_sem,ya],rfl⟩⟩
  ·simp only [go_sem,ya,px,hv.len,hw.len,show ¬(i:Int)<a.length by omega,show ¬(i:Int)<b.length by omega,show ¬(0:Int)<((0:Nat):Int) by omega];exact ⟨_,_,rfl,by simp,_,out,rfl,nH,aS,by omega,.inr ⟨by omega,by rw [hlen];simp only [go_sem,ya],rfl⟩⟩
def aCH (h:Has P L 295 JQ) (nk:Has P L 302 sj) {v w:AV} {a b:List Int} (hv:bt v a) (hw:bt w b) (ha:dg a) (hb:dg b) (la:a.length<=20000000000) (lb:b.length<=20000000000):
  ∃r out,ak P L 295 [v,w] r/\bt (shut r) out/\dg out/\dv out=dv a+dv b/\out.length<=max a.length b.length+1:=by
 have je:∃out,ak P L 295 [v,w] (if out=[] then .aa else .bn false 1 out.length (out.map ab))/\dg out/\dv out=dv a+dv b/\out.length<=max a.length b.length+1:=by
  unfold ak;rw [aH h];simp only [go_sem,JQ];generalize hq:D P L (.loop [0,1,5,6,7] px) _=q;obtain ⟨ex,s,rfl,tm,out,rfl,hd,aS,hl,hs⟩:=bJ hq (ay8 (P:=P) (L:=L) nk hv hw ha hb (N:=max a.length b.length) (by omega) (by omega) (by omega) (2*(max a.length b.length))) ⟨0,0,[],by omega,rfl,by omega,rfl,by simp [dv],by omega,.inr rfl,.inl ⟨rfl,by simp only [go_sem,ya,ax,aD hv.pu,aE _ hv.pu,aD hw.pu,aE _ hw.pu]<;>rfl⟩⟩
  refine ⟨out,?_,hd,aS,hl⟩;rcases hs with ⟨h0,h5,rfl⟩ | ⟨h0,h5,rfl⟩
  ·rw [yM h0];simp only [go_sem,ax,h5]
  ·rw [yx (by intro e;subst e;simp at h0)];simp only [go_sem,yb,ax,h5];exact Cw (fR _ _ _) (by simp) (by decide)
 obtain ⟨out,g1,g2,g3,g4⟩:=je;refine ⟨_,out,g1,?_,g2,g3,g4⟩
 split
 ·rename_i e;subst e;exact qF
 ·exact lB false out
end
end
section
open Go (IntKind)
section
variable {P:aK} {L:Lib}
def Y5 (h:Has P L 296 sf) {v w:AV} {a b:List Int} (hv:bt v a) (hw:bt w b) (ha:dg a) (hb:dg b) (na:nz a) (nb:nz b) (la:a.length<=20000000000) (lb:b.length<=20000000000):
  ak P L 296 [v,w] (ab (dU (dv a) (dv b))):=by
 unfold ak;rw [aH h];by_cases hlen:a.length=b.length
 ·have key:=gh (P:=P) (L:=L) (live:=[0,1,5]) (a:=CT)
   (I:=fun k st=>∃j:Nat,st=⟨[(0,v),(1,w),(5,ab ((j:Int)-1))],[],0,0⟩/\j<=a.length/\j=k/\a.drop j=b.drop j)
   (Q:=fun ex st=>∃tm ct,st=⟨tm,[],ct,0⟩/\((ex= .ret/\ai tm 4=ab (dU (dv a) (dv b)))\/(ex= .exit 0/\a=b))) ?_
  ·simp only [go_sem,ya,sf,hv.len,hw.len,show (a.length:Int)=b.length by omega];generalize hq:D P L (.loop [0,1,5] CT) _=q;obtain ⟨ex,st,rfl,tm,ct,rfl,h2⟩:=bJ hq (key a.length) ⟨a.length,by
    rw [wrap64 (by omega) (by omega)];rw [hlen]
    simp only [go_sem,ya,ax,aD hv.pu,aE _ hv.pu,aD hw.pu,aE _ hw.pu]<;>rfl,yu _,rfl,by rw [xf (yu _),xf (by omega)]⟩
   rcases h2 with ⟨rfl,h2⟩ | ⟨rfl,h2⟩
   ·simp only [go_sem,h2]
   ·simp only [go_sem,ax];subst h2;simp [dU]
  ·rintro k st ⟨j,rfl,hj,rfl,he⟩
   cases j with
   | zero=>
    right
    simp only [go_sem,ya,CT,show ¬(0:Int)<=((0:Nat):Int)-1 by omega];exact ⟨_,_,rfl,by simp,_,_,rfl,.inr ⟨rfl,by simpa using he⟩⟩
   | succ i=>
    have h1:i<a.length:=by omega
    have h2:i<b.length:=by omega
    have Gp:=ahf ha hb h1 h2 he;have aW:=ahf hb ha h2 h1 he.symm;by_cases c1:a[i]<b[i]
    ·right
     simp only [go_sem,ya,CT,show ((i+1:Nat):Int)-1=(i:Int) by omega,show (0:Int)<=(i:Int) by omega,hv.aY h1,hw.aY h2,c1];refine ⟨_,_,rfl,by simp,_,_,rfl,.inl ⟨rfl,?_⟩⟩;simp only [go_sem];unfold dU;rw [yM (Gp c1)]
    ·by_cases c2:b[i]<a[i]
     ·right
      simp only [go_sem,ya,CT,show ((i+1:Nat):Int)-1=(i:Int) by omega,show (0:Int)<=(i:Int) by omega,hv.aY h1,hw.aY h2,c1,c2];refine ⟨_,_,rfl,by simp,_,_,rfl,.inl ⟨rfl,?_⟩⟩;simp only [go_sem];unfold dU;rw [yx (by omega),yM (by omega)]
     ·left
      simp only [go_sem,ya,CT,show ((i+1:Nat):Int)-1=(i:Int) by omega,show (0:Int)<=(i:Int) by omega,hv.aY h1,hw.aY h2,c1,c2];refine ⟨_,i,rfl,by omega,i,?_,by omega,rfl,?_⟩
      ·rw [wrap64 (by omega) (by omega)];simp only [go_sem,ya,ax,aD hv.pu,aE _ hv.pu,aD hw.pu,aE _ hw.pu]<;>rfl
      ·rw [yP h1,yP h2,he,show a[i]=b[i] by omega]
 ·by_cases c1:a.length<b.length
  ·have:=SS ha nb hb c1
   simp only [go_sem,ya,sf,hv.len,hw.len,show ¬(a.length:Int)=b.length by omega,show (a.length:Int)<b.length by omega];unfold dU;rw [yM this]
  ·have:=SS hb na ha (show b.length<a.length by omega)
   simp only [go_sem,ya,sf,hv.len,hw.len,show ¬(a.length:Int)=b.length by omega,show ¬(a.length:Int)<b.length by omega];unfold dU;rw [yx (by omega),yM this]
def ate {a b out:List Int} {i c:Nat} {x y z:Int} {c':Nat} (hx:x=a.getD i 0) (hy:y=b.getD i 0) (h1:0<=x) (h2:0<=y) (h3:0<=z) (hz:z=x-y-c+1000000000*c') (hl:out.length=i) (hv:dv out+dv (b.take i)=dv (a.take i)+1000000000^i*c):
  dv (out++[z])+dv (b.take (i+1))=dv (a.take (i+1))+1000000000^(i+1)*c':=by
 rw [pk,pk,mN,hl,<-hx,<-hy];simp only [dv,xJ,yY,xd];have e:z.toNat+y.toNat+c=x.toNat+1000000000*c':=by omega
 grind
end
end
section
open Go (IntKind)
section
variable {P:aK} {L:Lib}
def ay9 (nk:Has P L 302 sj) {v w:AV} {a b:List Int} (hv:bt v a) (hw:bt w b) (ha:dg a) (hb:dg b) (la:a.length<=20000000000) (hle:dv b<=dv a) (D8:b.length<=a.length):
  ∀k s,(∃(i c:Nat) (out:List Int),i+k=a.length/\out.length=i/\c<=1/\dg out/\dv out+dv (b.take i)=dv (a.take i)+1000000000^i*c/\
    ((i=0/\aI [0,1,5,6,7] s=⟨[(0,v),(1,w),(5,.aa),(6,ab c),(7,ab i)],[],0,0⟩)\/
    (0<i/\aI [0,1,5,6,7] s=⟨[(0,v),(1,w),(5,.ao 0 0 i),(6,ab c),(7,ab i)],[(0,.cells true true false 1 (out.map ab))],1,0⟩)))->
   ∃ex s',D P L (.loop [0,1,5,6,7] rU) s=some (ex,s')/\∃tm out,ex= .exit 0/\dg out/\dv out+dv b=dv a/\out.length<=20000000000/\((out=[]/\ai tm 5= .aa/\s'=⟨tm,[],0,0⟩)\/(0<out.length/\ai tm 5= .ao 0 0 out.length/\s'=⟨tm,[(0,.cells true true false 1 (out.map ab))],1,0⟩)):=by
 intro dq sq;generalize bk:aI [0,1,5,6,7] sq=s0;revert bk s0 sq dq;apply du;rintro k s ⟨i,c,out,hk,hlen,hc,nH,aS,hs⟩;have e2:=YF nk hw i;unfold ak at e2;have ga:=im ha i;have gb:=im hb i;by_cases sT:i<a.length
 ·left
  obtain ⟨x,hx⟩:∃x,x=a.getD i 0:=⟨_,rfl⟩;obtain ⟨y,hy⟩:∃y,y=b.getD i 0:=⟨_,rfl⟩;have rq:a[i]=x:=by rw [hx];simp [y9,xM sT]
  have e1:=hv.aY sT;rw [rq] at e1;rw [<-hx] at ga;rw [<-hy] at e2 gb;obtain ⟨z,c',hz,lf,lV,mG,n9⟩:∃(z:Int) (c':Nat),z=x-y-c+1000000000*c'/\c'<=1/\0<=z/\z<1000000000/\((x-y-c<0/\c'=1)\/(¬x-y-c<0/\c'=0)):=by
   by_cases h:x-y-c<0
   ·exact ⟨x-y-c+1000000000,1,by omega,by omega,by omega,by omega,.inl ⟨h,rfl⟩⟩
   ·exact ⟨x-y-c,0,by omega,by omega,by omega,by omega,.inr ⟨h,rfl⟩⟩
  have kP:=ate hx hy ga.1 gb.1 lV hz hlen aS;have F7:dg (out++[z]):=ig.2 ⟨nH,lE.2 ⟨lV,mG⟩⟩;have zO:(out++[z]).length=i+1:=by simp [hlen]
  have fin:∃s',D P L rU s=some (.normal,s')/\aI [0,1,5,6,7] s'=⟨[(0,v),(1,w),(5,.ao 0 0 (i+1)),(6,ab c'),(7,ab (i+1:Nat))],[(0,.cells true true false 1 ((out++[z]).map ab))],1,0⟩:=by
   rcases n9 with ⟨iL,rfl⟩ | ⟨iL,rfl⟩
   ·have gC:x-y-c+1000000000=z:=by omega
    rcases hs with ⟨h0,rfl⟩ | ⟨h0,rfl⟩
    ·subst h0;have mC:out=[]:=yB hlen;subst mC
     simp only [go_sem,ya,yb,xt,yD,yk,yf,rU,hv.len,hw.ap,show ((0:Nat):Int)<a.length by omega,e1,e2,wrap64 (n:=x-y) (by omega) (by omega),wrap64 (n:=x-y-(c:Int)) (by omega) (by omega),iL,gC,wrap64 (n:=z) (by omega) (by omega),ij];refine ⟨_,rfl,?_⟩;rw [wrap64 (by omega) (by omega)];simp only [go_sem,ya,yb,ax,aD hv.pu,aE _ hv.pu,aD hw.pu,aE _ hw.pu]<;>rfl
    ·simp only [go_sem,ya,yb,yk,yf,rU,hv.len,hw.ap,show (i:Int)<a.length by omega,e1,e2,wrap64 (n:=x-y) (by omega) (by omega),wrap64 (n:=x-y-(c:Int)) (by omega) (by omega),iL,gC,wrap64 (n:=z) (by omega) (by omega)]
     rw [fS (ex:=false) (pu:=true) (cs:=out.map ab) (by simp only [go_sem,ya]) (by rw [yr,hlen,yf]) (by omega) (by omega) (by decide) (by simp only [go_sem])];simp only [go_sem,ya,yb];refine ⟨_,rfl,?_⟩;rw [wrap64 (by omega) (by omega),xi];simp only [go_sem,ya,yb,ax,aD hv.pu,aE _ hv.pu,aD hw.pu,aE _ hw.pu]<;>rfl
   ·have gC:x-y-c=z:=by omega
    have iL:¬z<0:=by omega
    rcases hs with ⟨h0,rfl⟩ | ⟨h0,rfl⟩
    ·subst h0;have mC:out=[]:=yB hlen;subst mC
     simp only [go_sem,ya,yb,xt,yD,yk,yf,rU,hv.len,hw.ap,show ((0:Nat):Int)<a.length by omega,e1,e2,wrap64 (n:=x-y) (by omega) (by omega),gC,wrap64 (n:=z) (by omega) (by omega),iL,ij];refine ⟨_,rfl,?_⟩;rw [wrap64 (by omega) (by omega)];simp only [go_sem,ya,yb,ax,aD hv.pu,aE _ hv.pu,aD hw.pu,aE _ hw.pu]<;>rfl
    ·simp only [go_sem,ya,yb,yk,yf,rU,hv.len,hw.ap,show (i:Int)<a.length by omega,e1,e2,wrap64 (n:=x-y) (by omega) (by omega),gC,wrap64 (n:=z) (by omega) (by omega),iL]
     rw [fS (ex:=false) (pu:=true) (cs:=out.map ab) (by simp only [go_sem,ya]) (by rw [yr,hlen,yf]) (by omega) (by omega) (by decide) (by simp only [go_sem])];simp only [go_sem,ya,yb];refine ⟨_,rfl,?_⟩;rw [wrap64 (by omega) (by omega),xi];simp only [go_sem,ya,yb,ax,aD hv.pu,aE _ hv.pu,aD hw.pu,aE _ hw.pu]<;>rfl
  obtain ⟨s',f1,f2⟩:=fin;exact ⟨s',k-1,f1,by omega,i+1,c',_,by omega,zO,lf,F7,kP,.inr ⟨by omega,f2⟩⟩
 ·right
  have aju:dv out+dv b=dv a:=by
   rw [yN (by omega),yN (by omega)] at aS;have aW:=jJ nH;rw [hlen] at aW;rcases (show c=0\/c=1 by omega) with rfl | rfl
   ·omega
   ·omega
  rcases hs with ⟨h0,rfl⟩ | ⟨h0,rfl⟩
  ·simp only [go_sem,ya,rU,hv.len,show ¬(i:Int)<a.length by omega];exact ⟨_,_,rfl,by simp,_,out,rfl,nH,aju,by omega,.inl ⟨yB (by omega),by simp only [go_sem,ya],rfl⟩⟩
  ·simp only [go_sem,ya,rU,hv.len,show ¬(i:Int)<a.length by omega];exact ⟨_,_,rfl,by simp,_,out,rfl,nH,aju,by omega,.inr ⟨by omega,by rw [hlen];simp only [go_sem,ya],rfl⟩⟩
def alw (h:Has P L 297 JR) (nk:Has P L 302 sj) (cX:Has P L 300 lL) {v w:AV} {a b:List Int} (hv:bt v a) (hw:bt w b) (ha:dg a) (hb:dg b) (na:nz a) (nb:nz b) (la:a.length<=20000000000) (hle:dv b<=dv a):
  ∃r out,ak P L 297 [v,w] r/\bt r out/\shut r=r/\dg out/\nz out/\dv out+dv b=dv a:=by
 have D8:b.length<=a.length:=by
  by_cases h:a.length<b.length
  ·have:=SS ha nb hb h;omega
  ·omega
 unfold ak;rw [aH h];simp only [go_sem,JR];generalize hq:D P L (.loop [0,1,5,6,7] rU) _=q;obtain ⟨ex,s,rfl,tm,out,rfl,hd,aS,hl,hs⟩:=bJ hq (ay9 (P:=P) (L:=L) nk hv hw ha hb la hle D8 a.length) ⟨0,0,[],by omega,rfl,by omega,rfl,by simp [dv],.inl ⟨rfl,by simp only [go_sem,ya,ax,aD hv.pu,aE _ hv.pu,aD hw.pu,aE _ hw.pu]<;>rfl⟩⟩
 have lQ:=lB false out;rcases hs with ⟨h0,h5,rfl⟩ | ⟨h0,h5,rfl⟩
 ·subst h0;obtain ⟨r,e1,hr,ic⟩:=BB cX (v:= .aa) (l:=[]) qF (by simp);refine ⟨r,dY [],?_,hr,ic,rfl,rfl,by rw [zg];exact aS⟩
  simp only [go_sem,ax,h5,e1,ic,hr.fO]
 ·obtain ⟨r,e1,hr,ic⟩:=BB cX lQ hl;refine ⟨r,dY out,?_,hr,ic,AT hd,Ez out,by rw [zg];exact aS⟩
  have jn:∀hp:Hp,jN 0 out.length (some (false,1,out.map ab,hp))=some (.aw false out.length (out.map ab),hp):=fun hp=>nP false (by simp) (by decide)
  simp only [go_sem,yb,ax,h5,jn,e1,ic,hr.fO]
end
end
section
open Go (IntKind)
def Cg {hp:Hp} {ct id o:Nat} {v:Int} {ex:Bool} {l:List Int} (h:o<l.length):iR hp ct id o 1 [.int .i64 v] (some (.cells true true ex 1 (l.map ab)))=some (.ae [],a7 hp id (.cells true true ex 1 ((l.set o v).map ab)),ct):=by
 rw [zJ (by rfl) (by simp;omega) (by rfl)]
 have:over o [AV.int .i64 v] (l.map ab)=(l.set o v).map ab:=by
  simp only [over,yz,yK,ye];rw [tI,vR,yM (by simpa using h)]
  simp
 rw [this];rfl
def r7 {l:List Int} {o:Nat} (h:o<l.length):vD o (l.map ab)=AV.int .i64 (l.getD o 0)::vD (o+1) (l.map ab):=by
 rw [yP (by simpa using h)]
 grind
def qO {v:AV} {l:List Int} (hv:bt v l) {i:Nat} (h:i<l.length):jG 1 i v=some (.b6 (.int .i64 (l.getD i 0)::(l.map ab).drop (i+1))):=by
 rw [hv.aY h]
 grind
def atf {o x y c:Int} (ho:0<=o/\o<1000000000) (hx:0<=x/\x<1000000000) (hy:0<=y/\y<1000000000) (hc:0<=c/\c<1000000000):
  (0<=x*y/\x*y<=999999998000000001)/\0<=o+x*y+c/\o+x*y+c<1000000000000000000:=by
 have h1:=tM hx.1 hy.1;have h2:=ybl (show x<=999999999 by omega) (show y<=999999999 by omega) hy.1 (by decide);omega
section
variable {P:aK} {L:Lib}
def aza {v w:AV} {a b:List Int} (hv:bt v a) (hw:bt w b) (ha:dg a) (hb:dg b) (la:a.length<=20000000000) (lb:b.length<=20000000000) {n i:Nat} (hn:n=a.length+b.length) (hi:i<a.length) {out0:List Int}:
  ∀k s,(∃(j:Nat) (c:Int) (out:List Int),aI [0,1,5,6,7,8] s=⟨[(0,v),(1,w),(5,.ao 0 0 n),(6,ab i),(7,ab c),(8,ab j)],[(0,.cells true true true 1 (out.map ab))],1,0⟩/\j+k=b.length/\out.length=n/\dg out/\(0<=c/\c<1000000000)/\
    dv out+1000000000^i*1000000000^j*c.toNat=dv out0+1000000000^i*((a.getD i 0).toNat*dv (b.take j))/\(∀m,i+b.length<=m->out.getD m 0=out0.getD m 0))->
   ∃ex s',D P L (.loop [0,1,5,6,7,8] IX) s=some (ex,s')/\∃tm c out,s'=⟨tm,[(0,.cells true true true 1 (out.map ab))],1,0⟩/\ex= .exit 2/\ai tm 0=v/\ai tm 1=w/\ai tm 5= .ao 0 0 n/\ai tm 6=ab i/\ai tm 7=ab c/\out.length=n/\dg out/\(0<=c/\c<1000000000)/\
    dv out+1000000000^i*1000000000^b.length*c.toNat=dv out0+1000000000^i*((a.getD i 0).toNat*dv b)/\(∀m,i+b.length<=m->out.getD m 0=out0.getD m 0):=by
 intro dq sq;generalize bk:aI [0,1,5,6,7,8] sq=s0;revert bk s0 sq dq;apply du;rintro k s ⟨j,c,out,rfl,hk,hlen,hd,hc,aS,gE⟩;by_cases hj:j<b.length
 ·left
  obtain ⟨x,hx⟩:∃x,x=a.getD i 0:=⟨_,rfl⟩;obtain ⟨y,hy⟩:∃y,y=b.getD j 0:=⟨_,rfl⟩;obtain ⟨o,ho⟩:∃o,o=out.getD (i+j) 0:=⟨_,rfl⟩;have gx:=im ha i;have gy:=im hb j;have nF:=im hd (i+j);rw [<-hx] at gx;rw [<-hy] at gy;rw [<-ho] at nF;obtain ⟨p1,p2,p3⟩:=atf nF gx gy hc;obtain ⟨t,ht⟩:∃t:Nat,o+x*y+c=t:=⟨(o+x*y+c).toNat,by omega⟩;have hr:((t:Nat):Int).tmod 1000000000=((t%1000000000:Nat):Int):=by rw [wB (by omega)];rfl
  have hq:((t:Nat):Int).tdiv 1000000000=((t/1000000000:Nat):Int):=by rw [wC (by omega)];rfl
  have e1:=qO hv hi;have e2:=qO hw hj;rw [<-hx] at e1;rw [<-hy] at e2;have e3:=r7 (l:=out) (o:=i+j) (by omega);rw [<-ho] at e3;have Aq:t=o.toNat+x.toNat*y.toNat+c.toNat:=by
   have:((x.toNat*y.toNat:Nat):Int)=x*y:=by rw [ve,yay gx.1,yay gy.1]
   omega
  have a7:=SU (l:=out) (j:=i+j) (x:=((t%1000000000:Nat):Int)) (by omega);rw [<-ho,xX,wS] at a7;have kP:=ar7 (Y:=dv (b.take j)) Aq a7 (by rw [hx];exact aS)
  simp only [go_sem,ya,yf,IX,hw.len,show (j:Int)<b.length by omega,wrapN (n:=i+j) (by omega),show (i:Int)+(j:Int)=((i+j:Nat):Int) from rfl,bN 0 0 (show i+j<n by omega),ye,e3,e1,e2,wrap64 (n:=x*y) (by omega) (by omega),wrap64 (n:=o+x*y) (by omega) (by omega),ht,wrapN (n:=t) (by omega),iV _ _ _ (show (1000000000:Int)≠0 by decide),gG _ _ _ (show (1000000000:Int)≠0 by decide),hr,hq,wrapN (n:=t/1000000000) (by omega),Cg (l:=out) (o:=i+j) (by omega)];refine ⟨_,k-1,rfl,by omega,j+1,((t/1000000000:Nat):Int),out.set (i+j) ((t%1000000000:Nat):Int),?_,by omega,by simp [hlen],Nl hd (by omega),by omega,?_,fun m hm=>?_⟩
  ·rw [wrap64 (by omega) (by omega)];simp only [go_sem,ya,yb,ax,aD hv.pu,aE _ hv.pu,aD hw.pu,aE _ hw.pu]<;>rfl
  ·rw [xX,pk,xd,<-hx,<-hy];exact kP
  ·rw [adH (by omega)];exact gE m hm
 ·right
  have:j=b.length:=by omega
  subst this;rw [xD] at aS;simp only [go_sem,ya,IX,hw.len,show ¬(b.length:Int)<b.length by omega];exact ⟨_,_,rfl,by simp,_,c,out,rfl,rfl,by simp only [go_sem,ya],by simp only [go_sem,ya],by simp only [go_sem,ya],by simp only [go_sem,ya],by simp only [go_sem,ya],hlen,hd,hc,aS,gE⟩
end
end
section
open Go (IntKind)
def Q7 (n:Nat):(yj n [AV.int .i64 0]).flatten=(yj n (0:Int)).map ab:=by simp_all
def avb (b:Bool):Kc true (some b)=some (.bool (!b)):=by cases b<;>rfl
def ab6 (n m:Nat):(yj n (0:Int)).getD m 0=0:=by grind
section
variable {P:aK} {L:Lib}
def azb {v w:AV} {a b:List Int} (hv:bt v a) (hw:bt w b) (ha:dg a) (hb:dg b) (la:a.length<=20000000000) (lb:b.length<=20000000000) {n:Nat} (hn:n=a.length+b.length):
  ∀k s,(∃(i:Nat) (out:List Int),aI [0,1,5,6] s=⟨[(0,v),(1,w),(5,.ao 0 0 n),(6,ab i)],[(0,.cells true true true 1 (out.map ab))],1,0⟩/\i+k=a.length/\out.length=n/\dg out/\dv out=dv (a.take i)*dv b/\(∀m,i+b.length<=m->out.getD m 0=0))->
   ∃ex s',D P L (.loop [0,1,5,6] IY) s=some (ex,s')/\∃tm out,s'=⟨tm,[(0,.cells true true true 1 (out.map ab))],1,0⟩/\ex= .exit 0/\ai tm 5= .ao 0 0 n/\out.length=n/\dg out/\dv out=dv a*dv b:=by
 intro dq sq;generalize bk:aI [0,1,5,6] sq=s0;revert bk s0 sq dq;apply du;rintro k s ⟨i,out,rfl,hk,hlen,hd,aS,gE⟩;by_cases hi:i<a.length
 ·left
  simp only [go_sem,ya,IY,hv.len,show (i:Int)<a.length by omega];generalize hq:D P L (.loop [0,1,5,6,7,8] IX) _=q;obtain ⟨ex,s,rfl,tm,c,su,rfl,rfl,t0,t1,t5,t6,t7,TF,jh,hc,TG,Kf⟩:=bJ hq (aza (P:=P) (L:=L) hv hw ha hb la lb hn hi (out0:=out) b.length) ⟨0,0,out,by simp only [go_sem,ya,yb,ax,aD hv.pu,aE _ hv.pu,aD hw.pu,aE _ hw.pu]<;>rfl,by omega,hlen,hd,by omega,by simp [dv],fun m _=>rfl⟩
  have hz:su.getD (i+b.length) 0=0:=by rw [Kf _ (yu _),gE _ (yu _)]
  have e3:=r7 (l:=su) (o:=i+b.length) (by omega);rw [hz] at e3;have a7:=SU (l:=su) (j:=i+b.length) (x:=c) (by omega);rw [hz,wS] at a7
  simp only [go_sem,ya,yf,ax,t0,t1,t5,t6,t7,hw.len,aD hv.pu,aE _ hv.pu,aD hw.pu,aE _ hw.pu,wrapN (n:=i+b.length) (by omega),show (i:Int)+(b.length:Int)=((i+b.length:Nat):Int) from rfl,bN 0 0 (show i+b.length<n by omega),ye,e3,Int.zero_add,wrap64 (n:=c) (by omega) (by omega),Cg (l:=su) (o:=i+b.length) (by omega)];refine ⟨_,k-1,rfl,by omega,i+1,su.set (i+b.length) c,?_,by omega,by simp [TF],Nl jh hc,?_,fun m hm=>?_⟩
  ·rw [wrap64 (by omega) (by omega)];simp only [go_sem,ya,yb,ax,aD hv.pu,aE _ hv.pu,aD hw.pu,aE _ hw.pu]<;>rfl
  ·rw [pk,wJ,<-aS,xo];simp only [Int.toNat_zero,xJ,yY] at a7;rw [a7];exact TG
  ·rw [adH (by omega),Kf m (by omega),gE m (by omega)]
 ·right
  have:i=a.length:=by omega
  subst this;rw [xD] at aS;simp only [go_sem,ya,IY,hv.len,show ¬(a.length:Int)<a.length by omega];exact ⟨_,_,rfl,by simp,_,out,rfl,rfl,by simp only [go_sem,ya],hlen,hd,aS⟩
def Y6 (h:Has P L 293 Br) (cX:Has P L 300 lL) {v w:AV} {a b:List Int} (hv:bt v a) (hw:bt w b) (ha:dg a) (hb:dg b) (la:a.length<=8000000000) (lb:b.length<=8000000000):
  ∃r out,ak P L 293 [v,w] r/\bt r out/\shut r=r/\dg out/\nz out/\dv out=dv a*dv b:=by
 obtain ⟨n,hn⟩:∃n,n=a.length+b.length:=⟨_,rfl⟩;have cN:∀ct:Nat,qU ct 1 8 [.int .i64 0] (some n) (some n)=some (.ao ct 0 n,.cells true true true 1 ((yj n (0:Int)).map ab)):=fun ct=>by
  rw [C2 (sz:=1) (by omega) (by omega) (by rfl) (by rfl),Q7];rfl
 unfold ak;rw [aH h]
 simp only [go_sem,ya,yb,Br,hv.len,hw.len,wrapN (n:=n) (by omega),show (a.length:Int)+(b.length:Int)=((a.length+b.length:Nat):Int) from rfl,<-hn,cN];generalize hq:D P L (.loop [0,1,5,6] IY) _=q;obtain ⟨ex,s,rfl,tm,out,rfl,rfl,t5,hlen,hd,aS⟩:=bJ hq (azb (P:=P) (L:=L) hv hw ha hb (by omega) (by omega) hn a.length) ⟨0,yj n 0,by simp only [go_sem,ya,yb,ax,aD hv.pu,aE _ hv.pu,aD hw.pu,aE _ hw.pu]<;>rfl,by omega,by simp,adJ n,by rw [adI];simp [dv],fun m _=>ab6 n m⟩
 have lQ:=lB true out;rw [hlen] at lQ;obtain ⟨r,e1,hr,ic⟩:=BB cX lQ (by omega);refine ⟨r,dY out,?_,hr,ic,AT hd,Ez out,by rw [zg];exact aS⟩
 have jn:∀hp:Hp,jN 0 n (some (true,1,out.map ab,hp))=some (.aw true n (out.map ab),hp):=fun hp=>nP true (by simp [hlen]) (by decide)
 simp only [go_sem,yb,ax,t5,jn,e1,ic,hr.fO]
def Kp (h:Has P L 278 Oj) (kT:Has P L 293 Br) (jA:Has P L 294 Bs) (cX:Has P L 300 lL) {v w:AV} {n m:Int} {K:Nat} (hK:K<=8000000000) (hv:kI v n) (hw:kI w m) (hn:n.natAbs<1000000000^K) (hm:m.natAbs<1000000000^K):
  ∃r,ak P L 278 [v,w] r/\kI r (n*m):=by
 obtain ⟨x,a,rfl,hx,ha,na,va⟩:=hv;obtain ⟨y,b,rfl,hy,hb,nb,vb⟩:=hw;have la:=xm (jv ha na (by rw [va];exact hn)) hK
 have lb:=xm (jv hb nb (by rw [vb];exact hm)) hK
 obtain ⟨z,out,e1,hz,ic,hd,B8,aS⟩:=Y6 kT cX hx hy ha hb la lb;have lo:out.length<=20000000000:=by
  refine jv hd B8 ?_;rw [aS];have h1:=jJ ha;have h2:=jJ hb;have h3:dv a*dv b<1000000000^a.length*1000000000^b.length:=Nat.mul_lt_mul'' h1 h2;rw [<-wS] at h3;have hk:∀K,a.length+b.length<=K->dv a*dv b<1000000000^K:=fun K h=>yU h3 (xh (by decide) h)
  exact hk 20000000000 (by omega)
 obtain ⟨r,e2,hr⟩:=Aa jA cX (!(decide (n<0)==decide (m<0))) hz hd lo;have e:cE (!(decide (n<0)==decide (m<0))) (dv out)=n*m:=by
  rw [aS,va,vb];have hnm:((n.natAbs*m.natAbs:Nat):Int)=(n.natAbs:Int)*m.natAbs:=ve _ _;unfold cE;by_cases h0:n<0<;>by_cases h1:m<0<;>simp only [h0,h1,yq,yt,tY,yR,yI,xg,hnm]
  ·rw [show (n.natAbs:Int)= -n by omega,show (m.natAbs:Int)= -m by omega,Int.neg_mul_neg]
  ·rw [show (true==false)=false from rfl,yO,yM rfl,show (n.natAbs:Int)= -n by omega,show (m.natAbs:Int)=m by omega,Int.neg_mul,ybD]
  ·rw [show (false==true)=false from rfl,yO,yM rfl,show (n.natAbs:Int)=n by omega,show (m.natAbs:Int)= -m by omega,Int.mul_neg,ybD]
  ·rw [show (n.natAbs:Int)=n by omega,show (m.natAbs:Int)=m by omega]
 rw [e] at hr;obtain ⟨w2,l2,rfl,ie,fF,jR,Ab⟩:=hr;refine ⟨_,?_,w2,l2,rfl,ie,fF,jR,Ab⟩;unfold ak at e1 e2 ⊢;rw [aH h];simp only [go_sem,ya,yb,Oj,bi,hx.pu,hx.ap,hx.one,hy.pu,hy.ap,hy.one,hz.ap,hz.shut,ie.pu,ie.one,b5,ye,de,e1,pE,avb,e2,gL,cd];rcases ie with ⟨rfl,_⟩ | ⟨e,rfl⟩<;>rfl
end
end
section
open Go (IntKind)
def avc (i:Nat) (q:List Int) (x:Int):(yj (i+1) (0:Int)++q).set i x=yj i 0++x::q:=by
 rw [List.replicate_succ',xy,List.set_append_right _ _ (by simp)]
 simp
section
variable {P:aK} {L:Lib}
def azc {v:AV} {a:List Int} (hv:bt v a) (ha:dg a) (la:a.length<=20000000000) {d:Nat} (h0:0<d) (h1:d<1000000000):
  ∀k s,(∃(j r:Nat) (q:List Int),aI [0,1,6,7,8] s=⟨[(0,v),(1,ab d),(6,.ao 0 0 a.length),(7,ab r),(8,ab ((j:Int)-1))],[(0,.cells true true true 1 ((yj j (0:Int)++q).map ab))],1,0⟩/\j=k/\j+q.length=a.length/\r<d/\dg q/\dv (a.drop j)=d*dv q+r)->
   ∃ex s',D P L (.loop [0,1,6,7,8] IZ) s=some (ex,s')/\∃tm r q,s'=⟨tm,[(0,.cells true true true 1 (q.map ab))],1,0⟩/\ex= .exit 0/\ai tm 6= .ao 0 0 a.length/\ai tm 7=ab (r:Nat)/\q.length=a.length/\r<d/\dg q/\dv a=d*dv q+r:=by
 intro dq sq;generalize bk:aI [0,1,6,7,8] sq=s0;revert bk s0 sq dq;apply du;rintro k s ⟨j,r,q,rfl,rfl,hl,hr,hd,aS⟩
 cases j with
 | zero=>
  right
  simp only [go_sem,ya,IZ,show ¬(0:Int)<=((0:Nat):Int)-1 by omega];exact ⟨_,_,rfl,by simp,_,r,q,rfl,rfl,by simp only [go_sem,ya],by simp only [go_sem,ya],by omega,hr,hd,aS⟩
 | succ i=>
  left
  have hi:i<a.length:=by omega
  obtain ⟨x,hx⟩:∃x,x=a.getD i 0:=⟨_,rfl⟩;have e1:=qO hv hi;have gx:=im ha i;rw [<-hx] at e1 gx;obtain ⟨t,ht⟩:∃t:Nat,t=r*1000000000+x.toNat:=⟨_,rfl⟩;have Aq:(r:Int)*1000000000+x=(t:Int):=by omega
  have kF:t<d*1000000000:=by
   omega
  have fm:t/d<1000000000:=(wg h0).2 (by rw [xL];exact kF)
  have cC:t%d<d:=xF _ h0;have e2:((t:Nat):Int).tdiv d=((t/d:Nat):Int):=by rw [wC (by omega)];rfl
  have e3:((t:Nat):Int).tmod d=((t%d:Nat):Int):=by rw [wB (by omega)];rfl
  have K9:(yj (i+1) (0:Int)++q).length=a.length:=by simp;omega
  have aO:=fun (hp:Hp) (ct id:Nat) (ex:Bool)=>Cg (hp:=hp) (ct:=ct) (id:=id) (ex:=ex) (v:=((t/d:Nat):Int)) (l:=yj (i+1) (0:Int)++q) (o:=i) (by rw [K9];exact hi)
  simp only [avc] at aO
  simp only [go_sem,ya,yf,IZ,show ((i+1:Nat):Int)-1=(i:Int) by omega,show (0:Int)<=(i:Int) by omega,wrap64 (n:=(r:Int)*1000000000) (by omega) (by omega),e1,Aq,wrapN (n:=t) (by omega),gG _ _ _ (show (d:Int)≠0 by omega),iV _ _ _ (show (d:Int)≠0 by omega),e2,e3,wrapN (n:=t/d) (by omega),bN 0 0 (show i<a.length from hi),ye,aO]
  refine ⟨_,i,rfl,by omega,i,t%d,((t/d:Nat):Int)::q,?_,rfl,by simp;omega,cC,(ig (a:=[((t/d:Nat):Int)]) (b:=q)).2 ⟨lE.2 ⟨tF _,uF.2 fm⟩,hd⟩,?_⟩
  ·rw [wrap64 (by omega) (by omega)];simp only [go_sem,ya,yb,ax,aD hv.pu,aE _ hv.pu]<;>rfl
  ·have jl:a.drop i=x::a.drop (i+1):=by
    rw [yP hi,hx];simp [y9,xM hi]
   rw [jl];simp only [dv,aS,xX];have e:=xU t d;rw [xI,xI d,Nat.mul_left_comm 1000000000 d];omega
def alx (h:Has P L 299 Bt) (cX:Has P L 300 lL) {v:AV} {a:List Int} (hv:bt v a) (ha:dg a) (la:a.length<=20000000000) {d:Nat} (h0:0<d) (h1:d<1000000000):
  ∃r q,ak P L 299 [v,ab d] (.ae [r,ab (dv a%d:Nat)])/\bt r q/\shut r=r/\bK r=r/\dg q/\nz q/\dv q=dv a/d:=by
 obtain ⟨n,hn⟩:∃n,n=a.length:=⟨_,rfl⟩;have cN:∀ct:Nat,qU ct 1 8 [.int .i64 0] (some n) (some n)=some (.ao ct 0 n,.cells true true true 1 ((yj n (0:Int)).map ab)):=fun ct=>by
  rw [C2 (sz:=1) (by omega) (by omega) (by rfl) (by rfl),Q7];rfl
 unfold ak;rw [aH h];simp only [go_sem,ya,yb,Bt,hv.len,<-hn,cN];generalize hq:D P L (.loop [0,1,6,7,8] IZ) _=q;obtain ⟨ex,s,rfl,tm,r,qs,rfl,rfl,t6,t7,hlen,hr,hd,aS⟩:=bJ hq (azc (P:=P) (L:=L) hv ha la h0 h1 a.length) ⟨a.length,0,[],by
  rw [wrap64 (by omega) (by omega),xY,<-hn]
  simp only [go_sem,ya,yb,ax,aD hv.pu,aE _ hv.pu]<;>rfl,rfl,by simp,h0,rfl,by rw [xf (yu _)];simp [dv]⟩
 have lQ:=lB true qs;rw [hlen] at lQ;obtain ⟨w,e1,hw,ic⟩:=BB cX lQ (by omega);have fP:dv a/d=dv qs/\dv a%d=r:=(Nat.div_mod_unique h0).2 ⟨by omega,hr⟩;refine ⟨w,dY qs,?_,hw,ic,hw.bK,AT hd,Ez qs,by rw [zg,fP.1]⟩;have jn:∀hp:Hp,jN 0 a.length (some (true,1,qs.map ab,hp))=some (.aw true a.length (qs.map ab),hp):=fun hp=>nP true (by simp [hlen]) (by decide)
 rw [fP.2];simp only [go_sem,ya,yb,ax,t6,t7,jn,e1,ic];rcases hw with ⟨rfl,_⟩ | ⟨e,rfl⟩<;>rfl
def aCI (h:Has P L 279 Fw) (Y7:Has P L 295 JQ) (oA:Has P L 296 sf) (PA:Has P L 297 JR) (nk:Has P L 302 sj) (jA:Has P L 294 Bs) (cX:Has P L 300 lL) {v w:AV} {n m:Int} {K:Nat} (hK:K<=8000000000) (hv:kI v n) (hw:kI w m) (hn:n.natAbs<1000000000^K) (hm:m.natAbs<1000000000^K):
  ∃r,ak P L 279 [v,w] r/\kI r (n+m):=by
 obtain ⟨x,a,rfl,hx,ha,na,va⟩:=hv;obtain ⟨y,b,rfl,hy,hb,nb,vb⟩:=hw;have la:=xm (jv ha na (by rw [va];exact hn)) hK
 have lb:=xm (jv hb nb (by rw [vb];exact hm)) hK
 by_cases hs:(decide (n<0)==decide (m<0))=true
 ·obtain ⟨z,out,e1,hz,hd,aS,hl⟩:=aCH Y7 nk hx hy ha hb (by omega) (by omega);have lo:out.length<=20000000000:=by omega
  obtain ⟨r,e2,hr⟩:=Aa jA cX (decide (n<0)) hz hd lo;have e:cE (decide (n<0)) (dv out)=n+m:=by
   have Ch:(n<0)=(m<0):=by simpa using eq_of_beq hs
   rw [aS,va,vb];unfold cE;by_cases h0:n<0
   ·have h1:m<0:=Ch▸h0;simp only [h0,yq,xE];omega
   ·have h1:¬m<0:=Ch▸h0;simp only [h0,yt,yI,xg];omega
  rw [e] at hr;obtain ⟨w2,l2,rfl,ie,fF,jR,Ab⟩:=hr;refine ⟨_,?_,w2,l2,rfl,ie,fF,jR,Ab⟩;unfold ak at e1 e2 ⊢;rw [aH h];simp only [go_sem,ya,yb,Fw,bi,hx.pu,hx.ap,hx.one,hy.pu,hy.ap,hy.one,hz.ap,ie.pu,ie.one,b5,ye,de,e1,pE,eC,hs,e2,gL,cd];rcases ie with ⟨rfl,_⟩ | ⟨e,rfl⟩<;>rfl
 ·have hs:(decide (n<0)==decide (m<0))=false:=by simpa using hs
  have Ch:¬((n<0)=(m<0)):=fun e=>by simp [e] at hs
  have ec:=Y5 oA hx hy ha hb na nb (by omega) (by omega);by_cases hc:dv a<dv b
  ·have ew:dU (dv a) (dv b)= -1:=by unfold dU;rw [yM hc]
   rw [ew] at ec;obtain ⟨z,out,e1,hz,ic,hd,B8,aS⟩:=alw PA nk cX hy hx hb ha nb na (by omega) (by omega);have lo:out.length<=20000000000:=by
    refine jv hd B8 ?_
    have:=jJ hb
    have hk:∀K,b.length<=K->dv out<1000000000^K:=fun K h=>yU (show dv out<1000000000^b.length by omega) (xh (by decide) h)
    exact hk 20000000000 (by omega)
   obtain ⟨r,e2,hr⟩:=Aa jA cX (decide (m<0)) hz hd lo;have e:cE (decide (m<0)) (dv out)=n+m:=by
    rw [va,vb] at aS;unfold cE;by_cases h0:m<0
    ·have h1:¬n<0:=fun h1=>Ch (by simp [h0,h1])
     simp only [h0,yq,xE];omega
    ·have h1:n<0:=by
      by_cases h1:n<0
      ·exact h1
      ·exact absurd (by simp [h0,h1]) Ch
     simp only [h0,yt,yI,xg];omega
   rw [e] at hr;obtain ⟨w2,l2,rfl,ie,fF,jR,Ab⟩:=hr;refine ⟨_,?_,w2,l2,rfl,ie,fF,jR,Ab⟩;unfold ak at e1 e2 ec ⊢;rw [aH h];simp only [go_sem,ya,yb,Fw,bi,hx.pu,hx.ap,hx.one,hy.pu,hy.ap,hy.one,hz.ap,hz.shut,ie.pu,ie.one,b5,ye,de,e1,pE,eC,hs,ec,show ¬(0:Int)<=-1 by decide,e2,gL,cd];rcases ie with ⟨rfl,_⟩ | ⟨e,rfl⟩<;>rfl
  ·have ew:(0:Int)<=dU (dv a) (dv b):=by unfold dU;rw [yx hc];split<;>decide
   obtain ⟨z,out,e1,hz,ic,hd,B8,aS⟩:=alw PA nk cX hx hy ha hb na nb (by omega) (by omega);have lo:out.length<=20000000000:=by
    refine jv hd B8 ?_
    have:=jJ ha
    have hk:∀K,a.length<=K->dv out<1000000000^K:=fun K h=>yU (show dv out<1000000000^a.length by omega) (xh (by decide) h)
    exact hk 20000000000 (by omega)
   obtain ⟨r,e2,hr⟩:=Aa jA cX (decide (n<0)) hz hd lo;have e:cE (decide (n<0)) (dv out)=n+m:=by
    rw [va,vb] at aS;unfold cE;by_cases h0:n<0
    ·have h1:¬m<0:=fun h1=>Ch (by simp [h0,h1])
     simp only [h0,yq,xE];omega
    ·have h1:m<0:=by
      by_cases h1:m<0
      ·exact h1
      ·exact absurd (by simp [h0,h1]) Ch
     simp only [h0,yt,yI,xg];omega
   rw [e] at hr;obtain ⟨w2,l2,rfl,ie,fF,jR,Ab⟩:=hr;refine ⟨_,?_,w2,l2,rfl,ie,fF,jR,Ab⟩;unfold ak at e1 e2 ec ⊢;rw [aH h];simp only [go_sem,ya,yb,Fw,bi,hx.pu,hx.ap,hx.one,hy.pu,hy.ap,hy.one,hz.ap,hz.shut,ie.pu,ie.one,b5,ye,de,e1,pE,eC,hs,ec,ew,e2,gL,cd];rcases ie with ⟨rfl,_⟩ | ⟨e,rfl⟩<;>rfl
end
end
section
open Go (IntKind)
section
variable {P:aK} {L:Lib}
def ahr {l:List Int} (hd:dg l) (hn:nz l) (h:dv l<1000000000):l.length<=1:=jv hd hn (by simpa using h)
def aCJ (h:Has P L 289 se) (oA:Has P L 296 sf) (pP:Has P L 299 Bt) (cX:Has P L 300 lL) {v w:AV} {a b:List Int} (hv:bt v a) (hw:bt w b) (ha:dg a) (hb:dg b) (na:nz a) (nb:nz b) (la:a.length<=20000000000) (lb:b.length<=1) (h0:0<dv b):
  ∃q r lq lr,ak P L 289 [v,w] (.ae [q,r])/\bt q lq/\bt r lr/\dg lq/\nz lq/\dg lr/\nz lr/\dv lq=dv a/dv b/\dv lr=dv a%dv b:=by
 have ec:=Y5 oA hv hw ha hb na nb la (by omega);by_cases hc:dv a<dv b
 ·have ew:dU (dv a) (dv b)= -1:=by unfold dU;rw [yM hc]
  rw [ew] at ec;refine ⟨.aa,v,[],a,?_,qF,hv,rfl,rfl,ha,na,?_,?_⟩
  ·unfold ak;rw [aH h];simp only [go_sem,ya,se,hv.ap,hw.ap,ec,show (-1:Int)<0 by decide];rcases hv with ⟨rfl,_⟩ | ⟨e,rfl⟩<;>rfl
  ·rw [Nat.div_eq_of_lt hc];rfl
  ·rw [Nat.mod_eq_of_lt hc]
 ·have ew:¬dU (dv a) (dv b)<0:=by unfold dU;rw [yx hc];split<;>decide
  have ns:b.length=1:=by
   rcases xp b.length with e | e
   ·rw [yB e] at h0;simp [dv] at h0
   ·omega
  obtain ⟨x,rfl⟩:∃x,b=[x]:=by
   cases b with
   | nil=>simp at ns
   | cons x r=>cases r with
    | nil=>exact ⟨x,rfl⟩
    | cons y r=>simp at ns
  have gx:=lE.1 hb;obtain ⟨d,hd⟩:∃d:Nat,x=d:=⟨x.toNat,by omega⟩;subst hd;have hdd:dv [((d:Nat):Int)]=d:=by simp [dv]
  rw [hdd] at h0 hc ew ec ⊢;obtain ⟨q,lq,e1,hq,lh,aCK,dq,nq,vq⟩:=alx pP cX hv ha la h0 (by omega);have ajr:dv a%d<d:=xF _ h0;generalize dv a%d=m at*
  obtain ⟨r,e2,hr,ZE⟩:=BB cX (lB true [(m:Int)]) (by simp);refine ⟨q,r,lq,dY [(m:Int)],?_,hq,hr,dq,nq,AT (lE.2 (by omega)),Ez _,vq,by rw [zg];simp [dv]⟩;have e3:=hw.aY (i:=0) (by simp);simp only [yz,yK,ye,xa,vM,List.getElem_cons_zero] at e2 e3;unfold ak;rw [aH h];simp only [go_sem,ya,yb,yD,yk,yf,se,hv.ap,hw.len,hw.ap,ec,ew,yz,yK,show ((1:Nat):Int)=(1:Int) from rfl,yq,e3,e1,aCK,e2,ZE];rcases hq with ⟨rfl,_⟩ | ⟨e,rfl⟩<;>rcases hr with ⟨rfl,_⟩ | ⟨e',rfl⟩<;>rfl
end
end
section
open Go (IntKind)
def sv:List Int->Int
 | []=>0
 | a::r=>a+1000000000*sv r
def acY:∀(a b:List Int),sv (a++b)=sv a+1000000000^a.length*sv b
 | [],b=>by simp [sv]
 | x::a,b=>by
  simp only [List.cons_append,sv,acY a b,yz,td,ybR]
  grind
def azd (x:Int):sv [x]=x:=by simp [sv]
def E4:∀{l:List Int} {i:Nat} {x:Int},i<l.length->sv (l.set i x)=sv l+1000000000^i*(x-l.getD i 0)
 | [],i,x,h=>by simp at h
 | a::l,0,x,_=>by simp [sv];omega
 | a::l,i+1,x,h=>by
  have ih:=E4 (l:=l) (i:=i) (x:=x) (by simpa using h);simp only [List.set_cons_succ,sv,List.getD_cons_succ,ih,td,ybR]
  grind
def M9 {l:List Int} (i:Nat):sv (l.take (i+1))=sv (l.take i)+1000000000^i*l.getD i 0:=by
 by_cases h:i<l.length
 ·rw [List.take_succ_eq_append_getElem h,acY,yE,xA (by omega),azd]
  grind
 ·rw [yN (by omega),yN (by omega),Ik (by omega),Int.mul_zero,Int.add_zero]
def zP:∀{l:List Int},dg l->sv l=dv l
 | [],_=>rfl
 | a::l,h=>by
  obtain ⟨h1,h2⟩:=ig.1 (show dg ([a]++l) from h);have h1:=lE.1 h1;simp only [sv,dv,zP h2,yaZ,ve];omega
section
variable {pre x post:List Int} {i:Nat}
def nZ:(pre++x++post).length=pre.length+x.length+post.length:=by grind
def A9 (h:i<x.length):(pre++x++post).getD (pre.length+i) 0=x.getD i 0:=by grind
def Nv (a:Int) (h:i<x.length):(pre++x++post).set (pre.length+i) a=pre++x.set i a++post:=by simp_all
end
def aiN {l:List Int} {i m:Nat} {x:Int} (h:i≠m):(l.set i x).getD m 0=l.getD m 0:=by simp_all
def aq7 {l:List Int} {i:Nat} {x:Int} (h:i<l.length):(l.set i x).getD i 0=x:=by simp_all
abbrev H3 (q u:List Int) (f:Int):Hp:=[(2,.cells true true true 1 (q.map ab)),(1,.cells true true false 1 (u.map ab)),(0,.cells false true true 1 [ab f])]
def MF {live:List Nat} {tm:Env} {ct:Nat} {a b c:List AV} (ht:qK 3 (cg tm live)) (hl:(fc (cg tm live)).length<100000):
  aI live ⟨tm,[(2,.cells true true true 1 a),(1,.cells true true false 1 b),(0,.cells false true true 1 c)],ct,3⟩=⟨cg tm live,[(2,.cells true true true 1 a),(1,.cells true true false 1 b),(0,.cells false true true 1 c)],3,3⟩:=
 abr ht ⟨by omega,.inl rfl,by omega,.inl rfl,by omega,.inl rfl,trivial⟩ (by
  have:js 3 [(2,Obj.cells true true true 1 a),(1,Obj.cells true true false 1 b),(0,Obj.cells false true true 1 c)]=[]:=rfl
  rw [this,yK,yY];exact hl)
structure gg (x vs:List Int) (n v1 v2 u0 u1 u2:Nat):Prop where
 n2:2<=n
 nb:n<=20000000000
 lx:x.length=n+1
 lv:vs.length=n
 gx:dg x
 gv:dg vs
 eZ:vs.getD (n-1) 0=(v1:Int)
 dH:vs.getD (n-2) 0=(v2:Int)
 h0:x.getD n 0=(u0:Int)
 h1:x.getD (n-1) 0=(u1:Int)
 h2:x.getD (n-2) 0=(u2:Int)
 pos:0<v1
 lt:dv x<1000000000*dv vs
section
variable {x vs:List Int} {n v1 v2 u0 u1 u2:Nat}
def gg.Lb (h:gg x vs n v1 v2 u0 u1 u2):v1<1000000000:=by have:=im h.gv (n-1);rw [h.eZ] at this;omega
def gg.DY (h:gg x vs n v1 v2 u0 u1 u2):v2<1000000000:=by have:=im h.gv (n-2);rw [h.dH] at this;omega
def gg.u0W (h:gg x vs n v1 v2 u0 u1 u2):u0<1000000000:=by have:=im h.gx n;rw [h.h0] at this;omega
def gg.Lc (h:gg x vs n v1 v2 u0 u1 u2):u1<1000000000:=by have:=im h.gx (n-1);rw [h.h1] at this;omega
def gg.Ld (h:gg x vs n v1 v2 u0 u1 u2):u2<1000000000:=by have:=im h.gx (n-2);rw [h.h2] at this;omega
def gg.parts (h:gg x vs n v1 v2 u0 u1 u2):∃p vr ur,dv vs=(v1*1000000000+v2)*p+vr/\vr<p/\dv x=((u0*1000000000+u1)*1000000000+u2)*p+ur/\ur<p:=by
 obtain ⟨m,hm⟩:∃m,n=m+2:=⟨n-2,by have:=h.n2;omega⟩;subst hm;have e1:=pk (l:=vs) (m+1);have e2:=pk (l:=vs) m;have f0:=pk (l:=x) (m+2);have f1:=pk (l:=x) (m+1);have f2:=pk (l:=x) m;have eZ:vs.getD (m+1) 0=(v1:Int):=h.eZ;have dH:vs.getD m 0=(v2:Int):=h.dH;have h0:x.getD (m+2) 0=(u0:Int):=h.h0;have h1:x.getD (m+1) 0=(u1:Int):=h.h1;have h2:x.getD m 0=(u2:Int):=h.h2
 rw [yN (by have:=h.lv;omega),eZ,e2,dH] at e1
 rw [yN (by have:=h.lx;omega),h0,f1,h1,f2,h2] at f0;simp only [xX] at e1 f0;have g1:=jJ (CD h.gv m)
 rw [yE,xA (by have:=h.lv;omega)] at g1;have g2:=jJ (CD h.gx m)
 rw [yE,xA (by have:=h.lx;omega)] at g2;refine ⟨1000000000^m,_,_,?_,g1,?_,g2⟩
 ·rw [e1,xd,aAJ]
 ·rw [f0,show 1000000000^(m+2)=1000000000^m*1000000000*1000000000 by rw [xd,xd],xd,aAK]
def gg.down (h:gg x vs n v1 v2 u0 u1 u2) {t r:Nat} (ht:t*v1+r=u0*1000000000+u1) (hr:r*1000000000+u2<t*v2):dv x/dv vs<=t-1:=by
 obtain ⟨p,vr,ur,h1,h2,h3,h4⟩:=h.parts;exact abS h1 h3 h4 ht hr
def gg.stop (h:gg x vs n v1 v2 u0 u1 u2) {t r:Nat} (kF:t<1000000000) (ht:t*v1+r=u0*1000000000+u1) (hr:1000000000<=r\/t*v2<=r*1000000000+u2):t<=dv x/dv vs+1:=by
 obtain ⟨p,vr,ur,h1,h2,h3,h4⟩:=h.parts;exact acI (by decide) h1 h2 h3 h.pos h.DY kF ht hr
def gg.first (h:gg x vs n v1 v2 u0 u1 u2):dv x/dv vs<=(u0*1000000000+u1)/v1:=by
 obtain ⟨p,vr,ur,h1,h2,h3,h4⟩:=h.parts;exact QS h1 h3 h4 h.Ld h.pos
def gg.top (h:gg x vs n v1 v2 u0 u1 u2):u0<=v1:=by
 obtain ⟨p,vr,ur,h1,h2,h3,h4⟩:=h.parts;exact acJ h1 h3 h2 h.DY h.lt
def gg.digit (h:gg x vs n v1 v2 u0 u1 u2):dv x/dv vs<1000000000:=by
 refine (wg ?_).2 h.lt;rcases xp (dv vs) with h0 | h0
 ·have:=h.lt;rw [h0] at this;simp at this
 ·exact h0
def gg.small (h:gg x vs n v1 v2 u0 u1 u2) {t r:Nat} (ht:t*v1+r=u0*1000000000+u1) (hb:1000000000<=t):r<1000000000:=by
 have h1:=h.top;have h2:=h.Lc;have h3:=Nat.mul_le_mul_right v1 hb
 grind
end
def aCL {r u:Nat} (hr:r<1000000000) (hu:u<1000000000):r*1000000000<9223372036854775808/\r*1000000000+u<9223372036854775808:=by omega
section
variable {P:aK} {L:Lib}
def avd {w:AV} {x vs pre post qs:List Int} {f:Int} (hw:bt w vs) {n v1 v2 u0 u1 u2 M:Nat} (hl:gg x vs n v1 v2 u0 u1 u2) (hM:M=pre.length+x.length+post.length) (Lq:M<=50000000000):
  ∀k s,(∃t r:Nat,aI [0,1,2,7,9,10] s=⟨[(0,.ao 1 0 M),(1,w),(2,ab pre.length),(7,ab n),(9,ab t),(10,ab r)],H3 qs (pre++x++post) f,3,3⟩/\t*v1+r=u0*1000000000+u1/\r<1000000000/\dv x/dv vs<=t/\t=k)->
   ∃ex s',D P L (.loop [0,1,2,7,9,10] A6) s=some (ex,s')/\∃tm ct t,s'=⟨tm,H3 qs (pre++x++post) f,ct,3⟩/\((ex= .exit 0/\ai tm 9=ab (t:Nat))\/(ex= .ret/\ai tm 6=ab (t:Nat)))/\ct=3/\t<1000000000/\dv x/dv vs<=t/\t<=dv x/dv vs+1:=by
 intro dq sq;generalize bk:aI [0,1,2,7,9,10] sq=s0;revert bk s0 sq dq;apply du;rintro k s ⟨t,r,rfl,ht,hr,hQ,rfl⟩;have dQ:=hl.n2;have pX:=hl.nb;have hlx:=hl.lx;have F2:=hl.Lb;have YG:=hl.DY;have ak3:=hl.Ld;have aCM:=hl.u0W;have Po:=hl.Lc;have BJ:=hl.pos;have qc:=qO hw (i:=n-2) (by have:=hl.lv;omega);have e9:=qO hw (i:=n-1) (by have:=hl.lv;omega);rw [hl.dH] at qc;rw [hl.eZ] at e9;have sU:=r7 (l:=pre++x++post) (o:=pre.length+(n-2)) (by rw [nZ];omega);rw [A9 (by omega),hl.h2] at sU;have Ax:(n:Int)-2=((n-2:Nat):Int):=by omega
 have qd:(n:Int)-1=((n-1:Nat):Int):=by omega
 have Lr:(pre.length:Int)+(n:Int)=((pre.length+n:Nat):Int):=rfl;have pn2:((pre.length+n:Nat):Int)-2=((pre.length+(n-2):Nat):Int):=by omega
 have aIQ:t<=1000000000000000000:=by
  have:=yZ t BJ
  omega
 have aIR:t*1<=t*v1:=yZ t BJ;obtain ⟨rm1,rm2⟩:=aCL hr ak3;by_cases sT:1000000000<=t\/r*1000000000+u2<t*v2
 ·have ht0:0<t:=by
   rcases xp t with h0 | h0
   ·subst h0;omega
   ·exact h0
  have h1:(t-1)*v1+(r+v1)=u0*1000000000+u1:=by
   obtain ⟨p,rfl⟩:∃p,t=p+1:=⟨t-1,by omega⟩;rw [wJ,Nat.one_mul] at ht;rw [Nat.add_sub_cancel];omega
  have DZ:dv x/dv vs<=t-1:=by
   rcases sT with h | h
   ·have:=hl.digit;generalize dv x/dv vs=q at*;omega
   ·exact hl.down ht h
  have Qu:((t:Nat):Int)-1=((t-1:Nat):Int):=by omega
  have stop:1000000000<=r+v1->t-1<1000000000/\t-1<=dv x/dv vs+1:=fun hb=>by
   have aW:t-1<1000000000:=by
    by_cases sJ:1000000000<=t-1
    ·have:=hl.small h1 sJ;omega
    ·omega
   exact ⟨aW,hl.stop aW h1 (.inl hb)⟩
  by_cases hb:1000000000<=t
  ·by_cases mI:1000000000<=r+v1
   ·right
    obtain ⟨s1,s2⟩:=stop mI
    simp only [go_sem,ya,A6,H3,show (1000000000:Int)<=(t:Int) by omega,Qu,wrapN (n:=t-1) (by omega),qd,wrapN (n:=n-1) (by omega),e9,show (r:Int)+(v1:Int)=((r+v1:Nat):Int) from rfl,wrapN (n:=r+v1) (by omega),show (1000000000:Int)<=((r+v1:Nat):Int) by omega];exact ⟨_,_,rfl,by simp,_,_,t-1,rfl,.inr ⟨rfl,by simp only [go_sem]⟩,rfl,s1,DZ,s2⟩
   ·left
    simp only [go_sem,ya,A6,H3,show (1000000000:Int)<=(t:Int) by omega,Qu,wrapN (n:=t-1) (by omega),qd,wrapN (n:=n-1) (by omega),e9,show (r:Int)+(v1:Int)=((r+v1:Nat):Int) from rfl,wrapN (n:=r+v1) (by omega),show ¬(1000000000:Int)<=((r+v1:Nat):Int) by omega];refine ⟨_,t-1,rfl,by omega,t-1,r+v1,?_,h1,by omega,DZ,rfl⟩;rw [MF (by simp only [go_sem,ya,yD,mo,mS,mg,mf,qB hw.pu,vz]) (by simp only [go_sem,ya,yb,yD,aD hw.pu])];simp only [go_sem,ya]
  ·have BY:=vj (show t<=999999999 by omega) (show v2<=999999999 by omega);have Y8:r*1000000000+u2<t*v2:=sT.resolve_left hb;obtain ⟨m,hm⟩:∃m,t*v2=m:=⟨_,rfl⟩;have em:(t:Int)*(v2:Int)=(m:Int):=by rw [<-hm,ve]
   rw [hm] at Y8 BY;have GD:(r:Int)*1000000000=((r*1000000000:Nat):Int):=by omega
   have B3:((r*1000000000:Nat):Int)+(u2:Int)=((r*1000000000+u2:Nat):Int):=rfl;by_cases mI:1000000000<=r+v1
   ·right
    obtain ⟨s1,s2⟩:=stop mI
    simp only [go_sem,ya,yf,A6,H3,show ¬(1000000000:Int)<=(t:Int) by omega,Ax,wrapN (n:=n-2) (by omega),qc,em,wrapN (n:=m) (by omega),GD,wrapN rm1,Lr,wrapN (n:=pre.length+n) (by omega),pn2,wrapN (n:=pre.length+(n-2)) (by omega),bN 1 0 (show pre.length+(n-2)<M by omega),ye,sU,B3,wrapN rm2,show ((r*1000000000+u2:Nat):Int)<(m:Int) from uF.2 Y8,Qu,wrapN (n:=t-1) (by omega),qd,wrapN (n:=n-1) (by omega),e9,show (r:Int)+(v1:Int)=((r+v1:Nat):Int) from rfl,wrapN (n:=r+v1) (by omega),show (1000000000:Int)<=((r+v1:Nat):Int) by omega];exact ⟨_,_,rfl,by simp,_,_,t-1,rfl,.inr ⟨rfl,by simp only [go_sem]⟩,rfl,s1,DZ,s2⟩
   ·left
    simp only [go_sem,ya,yf,A6,H3,show ¬(1000000000:Int)<=(t:Int) by omega,Ax,wrapN (n:=n-2) (by omega),qc,em,wrapN (n:=m) (by omega),GD,wrapN rm1,Lr,wrapN (n:=pre.length+n) (by omega),pn2,wrapN (n:=pre.length+(n-2)) (by omega),bN 1 0 (show pre.length+(n-2)<M by omega),ye,sU,B3,wrapN rm2,show ((r*1000000000+u2:Nat):Int)<(m:Int) from uF.2 Y8,Qu,wrapN (n:=t-1) (by omega),qd,wrapN (n:=n-1) (by omega),e9,show (r:Int)+(v1:Int)=((r+v1:Nat):Int) from rfl,wrapN (n:=r+v1) (by omega),show ¬(1000000000:Int)<=((r+v1:Nat):Int) by omega];refine ⟨_,t-1,rfl,by omega,t-1,r+v1,?_,h1,by omega,DZ,rfl⟩;rw [MF (by simp only [go_sem,ya,yD,mo,mS,mg,mf,qB hw.pu,vz]) (by simp only [go_sem,ya,yb,yD,aD hw.pu])];simp only [go_sem,ya]
 ·right
  have kF:t<1000000000:=Nat.lt_of_not_le fun e=>sT (.inl e)
  have BY:=vj (show t<=999999999 from tO kF) (show v2<=999999999 from tO YG);have Y9:t*v2<=r*1000000000+u2:=Nat.le_of_not_lt fun e=>sT (.inr e)
  have aAU:=hl.stop kF ht (.inr Y9);obtain ⟨m,hm⟩:∃m,t*v2=m:=⟨_,rfl⟩;have em:(t:Int)*(v2:Int)=(m:Int):=by rw [<-hm,ve]
  rw [hm] at Y9 BY;have GD:(r:Int)*1000000000=((r*1000000000:Nat):Int):=by omega
  have B3:((r*1000000000:Nat):Int)+(u2:Int)=((r*1000000000+u2:Nat):Int):=rfl
  simp only [go_sem,ya,yf,A6,H3,show ¬(1000000000:Int)<=(t:Int) by omega,Ax,wrapN (n:=n-2) (by omega),qc,em,wrapN (n:=m) (by omega),GD,wrapN rm1,Lr,wrapN (n:=pre.length+n) (by omega),pn2,wrapN (n:=pre.length+(n-2)) (by omega),bN 1 0 (show pre.length+(n-2)<M by omega),ye,sU,B3,wrapN rm2,show ¬((r*1000000000+u2:Nat):Int)<(m:Int) from fun e=>Nat.not_lt_of_le Y9 (uF.1 e)];exact ⟨_,_,rfl,by simp,_,_,t,rfl,.inl ⟨rfl,by simp only [go_sem,ya]⟩,rfl,kF,hQ,aAU⟩
def aAV (h:Has P L 301 zV) {w:AV} {x vs pre post qs:List Int} {f:Int} (hw:bt w vs) {n v1 v2 u0 u1 u2 M:Nat} (hl:gg x vs n v1 v2 u0 u1 u2) (hM:M=pre.length+x.length+post.length) (Lq:M<=50000000000):
  ∃t:Nat,il P L (D P L) (H3 qs (pre++x++post) f) 3 301 [.ao 1 0 M,w,ab pre.length]=some (ab t,H3 qs (pre++x++post) f,3)/\t<1000000000/\dv x/dv vs<=t/\t<=dv x/dv vs+1:=by
 have dQ:=hl.n2;have pX:=hl.nb;have hlx:=hl.lx;have sW:below 3 w:=qB hw.pu;have F2:=hl.Lb;have aCM:=hl.u0W;have Po:=hl.Lc;have BJ:=hl.pos;have e9:=qO hw (i:=n-1) (by have:=hl.lv;omega);rw [hl.eZ] at e9;have B5:=r7 (l:=pre++x++post) (o:=pre.length+n) (by rw [nZ];omega);rw [A9 (by omega),hl.h0] at B5;have B6:=r7 (l:=pre++x++post) (o:=pre.length+(n-1)) (by rw [nZ];omega);rw [A9 (by omega),hl.h1] at B6;have qd:(n:Int)-1=((n-1:Nat):Int):=by omega
 have Lr:(pre.length:Int)+(n:Int)=((pre.length+n:Nat):Int):=rfl;have pn1:((pre.length+n:Nat):Int)-1=((pre.length+(n-1):Nat):Int):=by omega
 obtain ⟨m,hm⟩:∃m,m=u0*1000000000+u1:=⟨_,rfl⟩;have em:(u0:Int)*1000000000=((u0*1000000000:Nat):Int):=by omega
 have em2:((u0*1000000000:Nat):Int)+(u1:Int)=(m:Int):=by omega
 have fP:=xU m v1;have sA:=xF m BJ;have Nt:=hl.first;rw [<-hm] at Nt;have aI4:m/v1<=m:=Nat.div_le_self _ _;have oq:IntKind.wrap .i64 ((m:Int).tdiv (v1:Int))=((m/v1:Nat):Int):=by
  rw [wC (by omega),<-Int.natCast_ediv,wrapN (by omega)]
 have or':(m:Int).tmod (v1:Int)=((m%v1:Nat):Int):=by rw [wB (by omega),<-Int.natCast_emod]
 rw [xL] at fP;generalize m/v1=q0 at*
 generalize m%v1=r0 at*
 have je:∃ex tm t,D P L zV.body ⟨dX 0 [.ao 1 0 M,w,ab pre.length],H3 qs (pre++x++post) f,3,3⟩=some (ex,⟨tm,H3 qs (pre++x++post) f,3,3⟩)/\(ex= .normal\/ex= .ret)/\ai tm 6=ab (t:Nat)/\t<1000000000/\dv x/dv vs<=t/\t<=dv x/dv vs+1:=by
  simp only [go_sem,ya,yf,zV,H3,hw.len,hl.lv,Lr,wrapN (n:=pre.length+n) (by omega),bN 1 0 (show pre.length+n<M by omega),ye,B5,em,wrapN (n:=u0*1000000000) (by omega),pn1,wrapN (n:=pre.length+(n-1)) (by omega),bN 1 0 (show pre.length+(n-1)<M by omega),B6,em2,wrapN (n:=m) (by omega),qd,wrapN (n:=n-1) (by omega),e9,gG _ _ _ (show (v1:Int)≠0 by omega),iV _ _ _ (show (v1:Int)≠0 by omega),oq,or'];generalize mJ:D P L (.loop [0,1,2,7,9,10] A6) _=qq;obtain ⟨ex,s,rfl,tm,ct,t,rfl,FX,rfl,g1,g2,g3⟩:=bJ mJ (avd (P:=P) (L:=L) (qs:=qs) (f:=f) hw hl hM Lq q0) ⟨q0,r0,by
   rw [MF (by simp only [go_sem,ya,yD,mo,mS,mg,mf,sW,vz]) (by simp only [go_sem,ya,yb,yD,aD hw.pu])]
   simp only [go_sem,ya],by omega,by omega,Nt,rfl⟩
  rcases FX with ⟨rfl,h9⟩ | ⟨rfl,h6⟩
  ·simp only [go_sem,yD,H3,MF,mo,mg,mf,h9,and_self];exact ⟨_,_,t,rfl,.inr rfl,by simp only [go_sem],g1,g2,g3⟩
  ·simp only [go_sem];exact ⟨_,_,t,rfl,.inr rfl,h6,g1,g2,g3⟩
 obtain ⟨ex,tm,t,g1,g2,g3,g4,g5,g6⟩:=je;exact ⟨t,M1 h g1 g2 (by show iU _ [RV.t 6]=_;rw [Yz,TE,g3]),g4,g5,g6⟩
end
end
section
open Go (IntKind)
def aCN {t v bo:Int} (ht:0<=t/\t<1000000000) (hv:0<=v/\v<1000000000) (hb:0<=bo/\bo<1000000000):0<=t*v/\t*v<=999999998000000001/\0<=t*v+bo/\t*v+bo<=999999999000000000:=by
 have h1:=tM ht.1 hv.1;have h2:=ybl (show t<=999999999 by omega) (show v<=999999999 by omega) hv.1 (by decide);omega
def aCO {x p:Int} (hx:0<=x/\x<1000000000) (hp:0<=p/\p<=999999999000000000):
  (x-p.tmod 1000000000<0->0<=x-p.tmod 1000000000+1000000000/\x-p.tmod 1000000000+1000000000<1000000000/\0<=p.tdiv 1000000000+1/\p.tdiv 1000000000+1<1000000000/\x-p.tmod 1000000000+1000000000+p=x+1000000000*(p.tdiv 1000000000+1))/\
  (¬x-p.tmod 1000000000<0->x-p.tmod 1000000000<1000000000/\0<=p.tdiv 1000000000/\p.tdiv 1000000000<1000000000/\x-p.tmod 1000000000+p=x+1000000000*p.tdiv 1000000000):=by grind
def SC {l:List Int} (h:dg l) {i:Nat} {z:Int} (hz:0<=z/\z<1000000000):dg (l.set i z):=Nl h hz
def ave {b p z q v bo Ay x X Y S:Int} (h2:z+(q*v+bo)=x+b*Ay) (h3:Y+q*X=S+p*bo):(Y+p*(z-x))+q*(X+p*v)=S+p*b*Ay:=by grind
section
variable {P:aK} {L:Lib}
def avf {w:AV} {x vs pre post qs:List Int} {f:Int} (hw:bt w vs) {n M m:Nat} (lv:vs.length=n) (hM:M=pre.length+(n+1)+post.length) (Lq:M<=50000000000) (gv:dg vs) {t:Int} (ht:0<=t/\t<1000000000):
  ∀k s,(∃(i:Nat) (bo:Int) (y:List Int),aI [8,9,10,11,12,13,14,15,16] s=⟨[(8,.ao 0 0 1),(9,w),(10,ab n),(11,.ao 1 0 M),(12,.ao 2 0 m),(13,ab pre.length),(14,ab t),(15,ab bo),(16,ab i)],H3 qs (pre++y++post) f,3,0⟩/\i+k=n/\y.length=n+1/\dg y/\(0<=bo/\bo<1000000000)/\
    sv y+t*sv (vs.take i)=sv x+1000000000^i*bo)->
   ∃ex s',D P L (.loop [8,9,10,11,12,13,14,15,16] EV) s=some (ex,s')/\∃tm bo y,s'=⟨tm,H3 qs (pre++y++post) f,3,0⟩/\ex= .exit 4/\ai tm 8= .ao 0 0 1/\ai tm 9=w/\ai tm 10=ab n/\ai tm 11= .ao 1 0 M/\ai tm 12= .ao 2 0 m/\ai tm 13=ab pre.length/\ai tm 14=ab t/\ai tm 15=ab bo/\y.length=n+1/\dg y/\(0<=bo/\bo<1000000000)/\
    sv y+t*sv vs=sv x+1000000000^n*bo:=by
 intro dq sq;generalize bk:aI [8,9,10,11,12,13,14,15,16] sq=s0;revert bk s0 sq dq;apply du;rintro k s ⟨i,bo,y,rfl,hk,ly,gy,jm,aS⟩;by_cases hi:i<n
 ·left
  have rm:=im gv i;have qg:=im gy i;have ev:=qO hw (i:=i) (by omega);have ey:=r7 (l:=pre++y++post) (o:=pre.length+i) (by rw [nZ];omega);rw [A9 (by omega)] at ey;have eS:=M9 (l:=vs) i;obtain ⟨a,ha⟩:∃a,a=vs.getD i 0:=⟨_,rfl⟩;obtain ⟨d,hd⟩:∃d,d=y.getD i 0:=⟨_,rfl⟩;rw [<-ha] at rm ev eS;rw [<-hd] at qg ey;obtain ⟨p1,p2,p3,p4⟩:=aCN ht rm jm;obtain ⟨s1,s2⟩:=aCO qg ⟨p3,p4⟩;have fe:(i:Int)+(pre.length:Int)=((pre.length+i:Nat):Int):=by omega
  have aO:=fun (hp:Hp) (ct:Nat) (z:Int)=>Cg (hp:=hp) (ct:=ct) (id:=1) (v:=z) (ex:=false) (l:=pre++y++post) (o:=pre.length+i) (by rw [nZ];omega)
  have ol:=fun z=>Nv (pre:=pre) (x:=y) (post:=post) (i:=i) z (by omega)
  have a7:=fun z=>E4 (l:=y) (i:=i) (x:=z) (by omega)
  rw [<-hd] at a7;obtain ⟨pr,eU⟩:∃pr,pr=t*a+bo:=⟨_,rfl⟩;obtain ⟨dm,fP⟩:∃dm,pr.tmod 1000000000=dm:=⟨_,rfl⟩;obtain ⟨dq,D3⟩:∃dq,pr.tdiv 1000000000=dq:=⟨_,rfl⟩;have aI5:0<=dm/\dm<1000000000:=by rw [<-fP,wB (by omega)];omega
  have aI6:0<=dq/\dq<1000000000:=by rw [<-D3,wC (by omega)];omega
  rw [<-eU,fP,D3] at s1 s2;have key:∀z Ay,z+(t*a+bo)=d+1000000000*Ay->sv (y.set i z)+t*sv (vs.take (i+1))=sv x+1000000000^(i+1)*Ay:=fun z Ay h=>by
   rw [a7,eS,td];exact ave h aS
  rw [<-eU] at key;by_cases iL:d-dm<0
  ·obtain ⟨q1,q2,q3,q4,q5⟩:=s1 iL;have kk:=key _ _ q5;obtain ⟨dr,jl⟩:∃dr,d-dm=dr:=⟨_,rfl⟩;rw [jl] at iL kk q1 q2
   simp only [go_sem,ya,yf,EV,H3,show (i:Int)<(n:Int) by omega,ev,wrap64 (n:=t*a) (by omega) (by omega),<-eU,wrap64 (n:=pr) (by omega) (by omega),fe,wrapN (n:=pre.length+i) (by omega),bN 1 0 (show pre.length+i<M by omega),ye,ey,iV _ _ _ (show (1000000000:Int)≠0 by decide),gG _ _ _ (show (1000000000:Int)≠0 by decide),fP,D3,jl,wrap64 (n:=dr) (by omega) (by omega),wrap64 (n:=dq) (by omega) (by omega),iL,wrap64 (n:=dr+1000000000) (by omega) (by omega),wrap64 (n:=dq+1) (by omega) (by omega),aO,ol];refine ⟨_,k-1,rfl,by omega,i+1,dq+1,y.set i (dr+1000000000),?_,by omega,by simp [ly],SC gy ⟨q1,q2⟩,⟨q3,q4⟩,kk⟩;rw [wrap64 (by omega) (by omega)];simp only [go_sem,ya,yb,ax,aD hw.pu,aE _ hw.pu]<;>rfl
  ·obtain ⟨q2,q3,q4,q5⟩:=s2 iL;have kk:=key _ _ q5;obtain ⟨dr,jl⟩:∃dr,d-dm=dr:=⟨_,rfl⟩;rw [jl] at iL kk q2
   simp only [go_sem,ya,yf,EV,H3,show (i:Int)<(n:Int) by omega,ev,wrap64 (n:=t*a) (by omega) (by omega),<-eU,wrap64 (n:=pr) (by omega) (by omega),fe,wrapN (n:=pre.length+i) (by omega),bN 1 0 (show pre.length+i<M by omega),ye,ey,iV _ _ _ (show (1000000000:Int)≠0 by decide),gG _ _ _ (show (1000000000:Int)≠0 by decide),fP,D3,jl,wrap64 (n:=dr) (by omega) (by omega),wrap64 (n:=dq) (by omega) (by omega),iL,aO,ol];refine ⟨_,k-1,rfl,by omega,i+1,dq,y.set i dr,?_,by omega,by simp [ly],SC gy ⟨by omega,q2⟩,⟨q3,q4⟩,kk⟩;rw [wrap64 (by omega) (by omega)];simp only [go_sem,ya,yb,ax,aD hw.pu,aE _ hw.pu]<;>rfl
 ·right
  have:i=n:=by omega
  subst this;rw [yN (by omega)] at aS;simp only [go_sem,ya,EV,H3,show ¬(i:Int)<(i:Int) by omega];exact ⟨_,_,rfl,by simp,_,bo,y,rfl,rfl,by simp only [go_sem,ya],by simp only [go_sem,ya],by simp only [go_sem,ya],by simp only [go_sem,ya],by simp only [go_sem,ya],by simp only [go_sem,ya],by simp only [go_sem,ya],by simp only [go_sem,ya],ly,gy,jm,aS⟩
def avg {b p z v c c' x X Y S:Int} (h2:z+b*c'=x+v+c) (h3:Y+p*c=S+X):(Y+p*(z-x))+p*b*c'=S+(X+p*v):=by grind
def avh {w:AV} {y0 vs pre post qs:List Int} {f:Int} (hw:bt w vs) {n M m:Nat} (lv:vs.length=n) (hM:M=pre.length+(n+1)+post.length) (Lq:M<=50000000000) (gv:dg vs) {t top:Int}:
  ∀k s,(∃(i:Nat) (c:Int) (y:List Int),aI [8,9,10,11,12,13,14,19,20] s=⟨[(8,.ao 0 0 1),(9,w),(10,ab n),(11,.ao 1 0 M),(12,.ao 2 0 m),(13,ab pre.length),(14,ab t),(19,ab c),(20,ab i)],H3 qs (pre++y++post) f,3,0⟩/\i+k=n/\y.length=n+1/\dg (y.take n)/\y.getD n 0=top/\(0<=c/\c<=1)/\
    sv y+1000000000^i*c=sv y0+sv (vs.take i))->
   ∃ex s',D P L (.loop [8,9,10,11,12,13,14,19,20] IT) s=some (ex,s')/\∃tm c y,s'=⟨tm,H3 qs (pre++y++post) f,3,0⟩/\ex= .exit 6/\ai tm 8= .ao 0 0 1/\ai tm 9=w/\ai tm 10=ab n/\ai tm 11= .ao 1 0 M/\ai tm 12= .ao 2 0 m/\ai tm 13=ab pre.length/\ai tm 14=ab t/\ai tm 19=ab c/\y.length=n+1/\dg (y.take n)/\y.getD n 0=top/\(0<=c/\c<=1)/\
    sv y+1000000000^n*c=sv y0+sv vs:=by
 intro dq sq;generalize bk:aI [8,9,10,11,12,13,14,19,20] sq=s0;revert bk s0 sq dq;apply du;rintro k s ⟨i,c,y,rfl,hk,ly,gy,om,hc,aS⟩;by_cases hi:i<n
 ·left
  have rm:=im gv i;have qg:=im gy i;have e0:(y.take n).getD i 0=y.getD i 0:=by
   simp [y9,hi]
  rw [e0] at qg;have ev:=qO hw (i:=i) (by omega);have ey:=r7 (l:=pre++y++post) (o:=pre.length+i) (by rw [nZ];omega);rw [A9 (by omega)] at ey;have eS:=M9 (l:=vs) i;obtain ⟨a,ha⟩:∃a,a=vs.getD i 0:=⟨_,rfl⟩;obtain ⟨d,hd⟩:∃d,d=y.getD i 0:=⟨_,rfl⟩;rw [<-ha] at rm ev eS;rw [<-hd] at qg ey;have fe:(i:Int)+(pre.length:Int)=((pre.length+i:Nat):Int):=by omega
  have a7:=fun z=>E4 (l:=y) (i:=i) (x:=z) (by omega)
  rw [<-hd] at a7;have sA:(d+a+c).tmod 1000000000=(d+a+c)%1000000000:=wB (by omega);have hdiv:(d+a+c).tdiv 1000000000=(d+a+c)/1000000000:=wC (by omega);obtain ⟨z,hz⟩:∃z,z=(d+a+c)%1000000000:=⟨_,rfl⟩;obtain ⟨c',lf⟩:∃z,z=(d+a+c)/1000000000:=⟨_,rfl⟩;have Zm:z+1000000000*c'=d+a+c:=by omega
  rw [<-hz] at sA;rw [<-lf] at hdiv;have aO:=fun (hp:Hp) (ct:Nat)=>Cg (hp:=hp) (ct:=ct) (id:=1) (v:=z) (ex:=false) (l:=pre++y++post) (o:=pre.length+i) (by rw [nZ];omega)
  have ol:=Nv (pre:=pre) (x:=y) (post:=post) (i:=i) z (by omega)
  simp only [go_sem,ya,yf,IT,H3,show (i:Int)<(n:Int) by omega,ev,fe,wrapN (n:=pre.length+i) (by omega),bN 1 0 (show pre.length+i<M by omega),ye,ey,wrap64 (n:=d+a) (by omega) (by omega),wrap64 (n:=d+a+c) (by omega) (by omega),iV _ _ _ (show (1000000000:Int)≠0 by decide),gG _ _ _ (show (1000000000:Int)≠0 by decide),sA,hdiv,wrap64 (n:=c') (by omega) (by omega),aO,ol];refine ⟨_,k-1,rfl,by omega,i+1,c',y.set i z,?_,by omega,by simp [ly],?_,by rw [aiN (by omega)];exact om,⟨by omega,by omega⟩,?_⟩
  ·rw [wrap64 (by omega) (by omega)];simp only [go_sem,ya,yb,ax,aD hw.pu,aE _ hw.pu]<;>rfl
  ·rw [tT];exact SC gy ⟨by omega,by omega⟩
  ·rw [a7,eS,td];exact avg Zm aS
 ·right
  have:i=n:=by omega
  subst this;rw [yN (show vs.length<=i by omega)] at aS;simp only [go_sem,ya,IT,H3,show ¬(i:Int)<(i:Int) by omega];exact ⟨_,_,rfl,by simp,_,c,y,rfl,rfl,by simp only [go_sem,ya],by simp only [go_sem,ya],by simp only [go_sem,ya],by simp only [go_sem,ya],by simp only [go_sem,ya],by simp only [go_sem,ya],by simp only [go_sem,ya],by simp only [go_sem,ya],ly,gy,om,hc,aS⟩
def avi {A V t:Nat} {y:List Int} {n:Nat} (hV:0<V) (ly:y.length=n+1) (gy:dg (y.take n)) (h:sv y=(A:Int)-t*V) (h1:A/V<=t) (h2:t<=A/V+1):
  (¬y.getD n 0<0->t=A/V/\sv y=((A%V:Nat):Int))/\(y.getD n 0<0->t=A/V+1/\sv y+V=((A%V:Nat):Int)):=by
 have fP:=xU A V;have hm:=xF A hV;have eS:=M9 (l:=y) n;rw [yN (by omega),zP gy] at eS;have Ko:=jJ gy;have hp:(0:Int)<1000000000^n:=ybS (by decide);generalize y.getD n 0=top at*
 generalize A/V=Q at*
 have hq:t=Q\/t=Q+1:=by omega
 constructor
 ·intro h0;have h3:0<=(1000000000:Int)^n*top:=tM (tf hp) (by omega);rcases hq with rfl | rfl
  ·grind
  ·grind
 ·intro h0;have h3:(1000000000:Int)^n*top<=-(1000000000^n):=by
   have:=ua (show top<=-1 by omega) (tf hp)
   grind
  rcases hq with rfl | rfl
  ·grind
  ·grind
def ad8 {y:List Int} {n:Nat} (ly:y.length=n+1) (gy:dg (y.take n)) (h0:0<=sv y) (h1:sv y<1000000000^n):y.getD n 0=0/\dg y/\sv y=dv y:=by
 have eS:=M9 (l:=y) n;rw [yN (by omega),zP gy] at eS;have Ko:=jJ gy;rw [yE,xA (by omega)] at Ko;have hp:(0:Int)<1000000000^n:=ybS (by decide);have Fe:((1000000000^n:Nat):Int)=(1000000000:Int)^n:=by simp
 have aIS:(dv (y.take n):Int)<1000000000^n:=by omega
 have ht:y.getD n 0=0:=by
  generalize y.getD n 0=top at*
  rcases Int.lt_trichotomy top 0 with h | h | h
  ·have:=ua (show top<=-1 by omega) (tf hp)
   grind
  ·grind
  ·have:=ua (show 1<=top by omega) (tf hp)
   grind
 have hg:dg y:=by
  have e:y=y.take n++[0]:=by
   have h1:y=y.take n++y.drop n:=(xS n y).symm;have h2:y.drop n=[0]:=by
    rw [yP (by omega),xf (by omega)]
    grind
   grind
  rw [e];exact ig.2 ⟨gy,lE.2 ⟨by decide,by decide⟩⟩
 exact ⟨ht,hg,zP hg⟩
end
end
section
open Go (IntKind)
def avj {l:List Int} {i:Nat} (h:i<l.length):dv (l.drop i)=(l.getD i 0).toNat+1000000000*dv (l.drop (i+1)):=by
 rw [yP h]
 have:l[i]=l.getD i 0:=by simp_all
 rw [this];rfl
def R7 (l:List Int) (i:Nat) (h:i<=l.length):dv l=dv (l.take i)+1000000000^i*dv (l.drop i):=by
 conv=>lhs;rw [<-xS i l]
 rw [mN,yE,xA h]
def avk {sx sy sV:Int} {p:Int} {bo t:Int} {yn z:Int} {szy:Int} (h1:sy+t*sV=sx+p*bo) (h2:szy=sy+p*(z-yn)) (h3:z=yn-bo):szy=sx-t*sV:=by grind
section
variable {P:aK} {L:Lib}
def avl (qW:Has P L 301 zV) {w:AV} {vs:List Int} {f:Int} (hw:bt w vs) (gv:dg vs) {n M m:Nat} (lv:vs.length=n) (dQ:2<=n) (hnM:n<M) (Lq:M<=20000000000) (hm:m=M-n) (eZ:0<vs.getD (n-1) 0) {U0:Nat}:
  ∀k st,(∃(j:Nat) (us qs:List Int),aI [8,9,10,11,12,13] st=⟨[(8,.ao 0 0 1),(9,w),(10,ab n),(11,.ao 1 0 M),(12,.ao 2 0 m),(13,ab ((j:Int)-1))],H3 qs us f,3,0⟩/\j=k/\j<=m/\us.length=M/\qs.length=m/\dg us/\dg qs/\(∀i,i<j->qs.getD i 0=0)/\
    dv us+dv qs*dv vs=U0/\dv (us.drop j)<dv vs)->
   ∃ex st',D P L (.loop [8,9,10,11,12,13] IU) st=some (ex,st')/\∃tm us qs,st'=⟨tm,H3 qs us f,3,0⟩/\ex= .exit 2/\ai tm 8= .ao 0 0 1/\ai tm 10=ab n/\ai tm 11= .ao 1 0 M/\ai tm 12= .ao 2 0 m/\us.length=M/\qs.length=m/\dg us/\dg qs/\
    dv us+dv qs*dv vs=U0/\dv us<dv vs:=by
 intro dq sq;generalize bk:aI [8,9,10,11,12,13] sq=s0;revert bk s0 sq dq;apply du;rintro k st ⟨j,us,qs,rfl,rfl,hj,lu,lq,gu,gq,hz,aS,om⟩
 cases j with
 | zero=>
  right
  simp only [go_sem,ya,IU,H3,show ¬(0:Int)<=((0:Nat):Int)-1 by omega];exact ⟨_,_,rfl,by simp,_,us,qs,rfl,rfl,by simp only [go_sem,ya],by simp only [go_sem,ya],by simp only [go_sem,ya],by simp only [go_sem,ya],lu,lq,gu,gq,aS,by simpa using om⟩
 | succ j=>
  left
  obtain ⟨pre,fe⟩:∃p,p=us.take j:=⟨_,rfl⟩;obtain ⟨x,hx⟩:∃p,p=(us.drop j).take (n+1):=⟨_,rfl⟩;obtain ⟨post,gl⟩:∃p,p=us.drop (j+(n+1)):=⟨_,rfl⟩;have lp:pre.length=j:=by rw [fe,yE];omega
  have lx:x.length=n+1:=by rw [hx,yE,xT];omega
  have lpo:M=pre.length+(n+1)+post.length:=by rw [lp,gl,xT];omega
  have j9:us=pre++x++post:=by
   rw [fe,hx,gl,<-vX,xy,xS,xS]
  have gpo:dg post:=by
   have:=gu;rw [j9] at this;exact (ig.1 this).2
  have gpx:=by have:=gu;rw [j9] at this;exact (ig.1 this).1
  have gx:dg x:=(ig.1 gpx).2;have YJ:dg pre:=(ig.1 gpx).1;have hA:=avj (l:=us) (i:=j) (by omega);have hgj:=im gu j;have hdx:us.drop j=x++post:=by rw [gl,hx,<-vX,xS]
  have Az:dv (us.drop j)=dv x+1000000000^(n+1)*dv post:=by rw [hdx,mN,lx]
  have Lf:=jJ gv;rw [lv] at Lf;have aW:dv (us.drop j)<1000000000*dv vs:=by omega
  have hp0:dv post=0:=by
   rcases xp (dv post) with e | e
   ·exact e
   ·have h1:=yZ (1000000000^(n+1)) e;rw [yf,xd] at h1;rw [xd] at Az;omega
  rw [hp0,xJ,yY] at Az;have Ls:=fun (l:List Int) (hl:dg l) (i:Nat)=>im hl i
  obtain ⟨v1,e9⟩:∃v:Nat,vs.getD (n-1) 0=v:=⟨(vs.getD (n-1) 0).toNat,by have:=Ls vs gv (n-1);omega⟩;obtain ⟨v2,qc⟩:∃v:Nat,vs.getD (n-2) 0=v:=⟨(vs.getD (n-2) 0).toNat,by have:=Ls vs gv (n-2);omega⟩;obtain ⟨u0,B5⟩:∃v:Nat,x.getD n 0=v:=⟨(x.getD n 0).toNat,by have:=Ls x gx n;omega⟩;obtain ⟨u1,B6⟩:∃v:Nat,x.getD (n-1) 0=v:=⟨(x.getD (n-1) 0).toNat,by have:=Ls x gx (n-1);omega⟩;obtain ⟨u2,sU⟩:∃v:Nat,x.getD (n-2) 0=v:=⟨(x.getD (n-2) 0).toNat,by have:=Ls x gx (n-2);omega⟩;have hl:gg x vs n v1 v2 u0 u1 u2:=⟨dQ,by omega,lx,lv,gx,gv,e9,qc,B5,B6,sU,by omega,by rw [<-Az];exact aW⟩
  have Pp:=hl.digit;have rk:0<dv vs:=by omega
  have sA:=xF (dv x) rk;obtain ⟨t,e1,ht1,ZG,ht3⟩:=aAV (P:=P) (L:=L) qW hw hl (pre:=pre) (post:=post) (qs:=qs) (f:=f) (M:=M) (by omega) (by omega);rw [<-j9,lp] at e1;have hbu:dv us=dv pre+1000000000^j*dv x:=by
   have:=R7 us j (by omega)
   rw [Az,<-fe] at this;exact this
  have YK:∀y,dv (pre++y++post)=dv pre+1000000000^j*dv y:=fun y=>by
   rw [xy,mN,mN,hp0,xJ,yY,lp]
  have jd:=acT (b:=0) hbu aS;have sW:below 3 w:=qB hw.pu;have a7:=E4 (l:=qs) (i:=j) (x:=((dv x/dv vs:Nat):Int)) (by omega);have gq':dg (qs.set j ((dv x/dv vs:Nat):Int)):=Nl gq ⟨tF _,uF.2 Pp⟩;rw [hz j (by omega),Int.sub_zero,zP gq,zP gq'] at a7;have a7:dv (qs.set j ((dv x/dv vs:Nat):Int))=dv qs+1000000000^j*(dv x/dv vs):=by
   have Fe:((1000000000^j*(dv x/dv vs):Nat):Int)=(1000000000:Int)^j*((dv x/dv vs:Nat):Int):=by rw [ve];simp
   rw [<-Fe] at a7;exact yaz (by rw [yat,yat,a7,yaZ])
  have fin:∀(s':St) (x':List Int),aI [8,9,10,11,12,13] s'=⟨[(8,.ao 0 0 1),(9,w),(10,ab n),(11,.ao 1 0 M),(12,.ao 2 0 m),(13,ab ((j:Int)-1))],H3 (qs.set j ((dv x/dv vs:Nat):Int)) (pre++x'++post) f,3,0⟩->x'.length=n+1->dg x'->sv x'=((dv x%dv vs:Nat):Int)->
    ∃(j':Nat) (us qs:List Int),aI [8,9,10,11,12,13] s'=⟨[(8,.ao 0 0 1),(9,w),(10,ab n),(11,.ao 1 0 M),(12,.ao 2 0 m),(13,ab ((j':Int)-1))],H3 qs us f,3,0⟩/\j'=j/\j'<=m/\us.length=M/\qs.length=m/\dg us/\dg qs/\(∀i,i<j'->qs.getD i 0=0)/\dv us+dv qs*dv vs=U0/\dv (us.drop j')<dv vs:=fun s' x' hc lx' Qg Li=>by
   have aly:dv x'=dv x%dv vs:=by rw [zP Qg] at Li;exact yaz Li
   refine ⟨j,_,_,hc,rfl,by omega,by rw [nZ,lx'];omega,by simp [lq],ig.2 ⟨ig.2 ⟨YJ,Qg⟩,gpo⟩,gq',fun i hi=>by rw [aiN (by omega)];exact hz i (by omega),?_,?_⟩
   ·rw [YK,aly,a7];exact jd
   ·rw [xy,List.drop_left' lp,mN,hp0,xJ,yY,aly];exact sA
  have alz:=fun (z:Int) (hp:Hp) (ct:Nat)=>Cg (hp:=hp) (ct:=ct) (id:=2) (v:=z) (ex:=true) (l:=qs) (o:=j) (by omega)
  have svx:=zP gx;have svv:=zP gv;simp only [H3] at e1;simp only [go_sem,ya,IU,H3,show ((j+1:Nat):Int)-1=(j:Int) by omega,show (0:Int)<=(j:Int) by omega,ajp,e1];generalize mJ:D P L (.loop [8,9,10,11,12,13,14,15,16] EV) _=qq;obtain ⟨ex,s,rfl,tm,bo,y,rfl,rfl,t8,t9,t10,t11,t12,t13,t14,t15,ly,gy,jm,hv⟩:=bJ mJ (avf (P:=P) (L:=L) (x:=x) (pre:=pre) (post:=post) (qs:=qs) (f:=f) (m:=m) (M:=M) hw lv lpo (by omega) gv (t:=t) (by omega) n) ⟨0,0,x,by
   rw [j9,lp]
   simp only [go_sem,ya,yb,ax,aD hw.pu,aE _ hw.pu]<;>rfl,by omega,lx,gx,by omega,by simp [sv]⟩
  rw [lp] at t13;have hyn:=im gy n;have eyn:=r7 (l:=pre++y++post) (o:=pre.length+n) (by rw [nZ];omega);rw [A9 (by omega),lp] at eyn;obtain ⟨z,hzz⟩:∃z,z=y.getD n 0-bo:=⟨_,rfl⟩;have Fm:=fun (hp:Hp) (ct:Nat)=>Cg (hp:=hp) (ct:=ct) (id:=1) (v:=z) (ex:=false) (l:=pre++y++post) (o:=j+n) (by rw [nZ];omega)
  have ol:=Nv (pre:=pre) (x:=y) (post:=post) (i:=n) z (by omega);rw [lp] at ol;rw [ol] at Fm;have nv:=E4 (l:=y) (i:=n) (x:=z) (by omega);have N1:=avk hv nv hzz;have B4:(y.set n z).length=n+1:=by simp [ly]
  have D0:dg ((y.set n z).take n):=by
   have:(y.set n z).take n=y.take n:=by rw [tT,tR (by simp;omega)]
   rw [this];exact CD gy n
  rw [svx,svv] at N1;obtain ⟨s0,s1⟩:=avi rk B4 D0 N1 ZG ht3;have eg:(y.set n z).getD n 0=z:=aq7 (by omega);rw [eg] at s0 s1;have ezn:=r7 (l:=pre++y.set n z++post) (o:=pre.length+n) (by rw [nZ];omega);rw [A9 (by omega),lp,eg] at ezn;generalize y.set n z=y1 at*
  have nI:((10^9:Int))=1000000000:=by decide
  by_cases iL:z<0
  ·obtain ⟨f1,f2⟩:=s1 iL
   simp only [go_sem,ya,yb,yf,ax,aD hw.pu,aE _ hw.pu,t8,t9,t10,t11,t12,t13,t14,t15,show (j:Int)+(n:Int)=((j+n:Nat):Int) from rfl,wrapN (n:=j+n) (by omega),bN 1 0 (show j+n<M by omega),ye,eyn,<-hzz,wrap64 (n:=z) (by omega) (by omega),Fm,ezn,iL];generalize Dy:D P L (.loop [8,9,10,11,12,13,14,19,20] IT) _=qq2;obtain ⟨ex,s,rfl,sE,c,y2,rfl,rfl,t8,t9,t10,t11,t12,t13,t14,t19,ly2,Qe,ajv,hc,dH⟩:=bJ Dy (avh (P:=P) (L:=L) (y0:=y1) (pre:=pre) (post:=post) (qs:=qs) (f:=f) (m:=m) (M:=M) (t:=(t:Int)-1) (top:=z) hw lv lpo (by omega) gv n) ⟨0,0,y1,by
    rw [lp,wrap64 (n:=(t:Int)-1) (by omega) (by omega)]
    simp only [go_sem,ya,yb,ax,aD hw.pu,aE _ hw.pu]<;>rfl,by omega,B4,D0,eg,by omega,by simp [sv]⟩
   rw [lp] at t13;have alA:=r7 (l:=pre++y2++post) (o:=pre.length+n) (by rw [nZ];omega);rw [A9 (by omega),lp,ajv] at alA;have Pn:=fun (hp:Hp) (ct:Nat)=>Cg (hp:=hp) (ct:=ct) (id:=1) (v:=z+c) (ex:=false) (l:=pre++y2++post) (o:=j+n) (by rw [nZ];omega)
   have NO:=Nv (pre:=pre) (x:=y2) (post:=post) (i:=n) (z+c) (by omega);rw [lp] at NO;rw [NO] at Pn;have An:=E4 (l:=y2) (i:=n) (x:=z+c) (by omega);rw [ajv,show z+c-z=c by omega,dH,svv,f2] at An;have Lg:(y2.set n (z+c)).length=n+1:=by simp [ly2]
   have Qf:dg ((y2.set n (z+c)).take n):=by
    have:(y2.set n (z+c)).take n=y2.take n:=by rw [tT,tR (by simp;omega)]
    rw [this];exact Qe
   have hmV:((dv x%dv vs:Nat):Int)<1000000000^n:=by
    have Fe:((1000000000^n:Nat):Int)=(1000000000:Int)^n:=by simp
    rw [<-Fe];omega
   obtain ⟨g1,g2,g3⟩:=ad8 Lg Qf (by rw [An];omega) (by rw [An];exact hmV)
   generalize y2.set n (z+c)=y3 at*
   have ft:(t:Int)-1=((dv x/dv vs:Nat):Int):=by rw [f1];omega
   simp only [go_sem,ya,yb,yf,ax,aD hw.pu,aE _ hw.pu,t8,t9,t10,t11,t12,t13,t14,t19,show (j:Int)+(n:Int)=((j+n:Nat):Int) from rfl,wrapN (n:=j+n) (by omega),bN 1 0 (show j+n<M by omega),ye,alA,wrap64 (n:=z+c) (by omega) (by omega),Pn,bN 2 0 (show j<m by omega),alz];rw [ft];refine ⟨_,j,rfl,by omega,fin _ y3 ?_ Lg g2 An⟩;rw [wrap64 (by omega) (by omega)];simp only [go_sem,ya,yb,ax,aD hw.pu,aE _ hw.pu]<;>rfl
  ·obtain ⟨f1,f2⟩:=s0 iL;have hmV:((dv x%dv vs:Nat):Int)<1000000000^n:=by
    have Fe:((1000000000^n:Nat):Int)=(1000000000:Int)^n:=by simp
    rw [<-Fe];omega
   obtain ⟨g1,g2,g3⟩:=ad8 B4 D0 (by rw [f2];omega) (by rw [f2];exact hmV)
   simp only [go_sem,ya,yb,yf,ax,aD hw.pu,aE _ hw.pu,t8,t9,t10,t11,t12,t13,t14,t15,show (j:Int)+(n:Int)=((j+n:Nat):Int) from rfl,wrapN (n:=j+n) (by omega),bN 1 0 (show j+n<M by omega),ye,eyn,<-hzz,wrap64 (n:=z) (by omega) (by omega),Fm,ezn,iL,bN 2 0 (show j<m by omega),alz];rw [f1];refine ⟨_,j,rfl,by omega,fin _ y1 ?_ B4 g2 f2⟩;rw [wrap64 (by omega) (by omega)];simp only [go_sem,ya,yb,ax,aD hw.pu,aE _ hw.pu]<;>rfl
end
end
end VE
