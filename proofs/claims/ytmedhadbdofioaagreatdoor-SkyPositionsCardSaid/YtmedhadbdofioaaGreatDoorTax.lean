import Derived.Test.YtmedhadbdofioaaGreatDoorTav
import Derived.Test.YtmedhadbdofioaaGreatDoorTal
import Derived.Test.YtmedhadbdofioaaGreatDoorTao
import Derived.Test.YtmedhadbdofioaaGreatDoorTap
import Derived.Test.YtmedhadbdofioaaGreatDoorTau
import Derived.Test.YtmedhadbdofioaaGreatDoorTaq
import Derived.Test.YtmedhadbdofioaaGreatDoorTak
set_option linter.all false
set_option maxRecDepth 100000
open Bool renaming and_eq_true→yg,and_self→wp,false_and→wr,false_eq_true→yD,false_or→vl,not_false→yF,not_true→yH,true_and→wA,true_or→uO
open Go renaming DataW→xr,Field→uk,FloatKind→vP,IntKind→yV,MemPlace→xV,Program→y6,TypeId→yx,Value→yf,World→yi
open Int renaming natAbs_natCast→wK
open List renaming append_assoc→xp,append_nil→wc,drop_eq_nil_of_le→y8,drop_zero→yj,eq_nil_of_length_eq_zero→yJ,flatMap_def→yae,length_append→yQ,length_cons→yr,length_drop→xS,length_map→xu,length_nil→yE,length_take→yT,mapM_cons→vC,map_cons→yU,mem_cons→wk,mem_cons_of_mem→wY,mem_cons_self→uE,mem_map→vR,take_of_length_le→yM
open Nat renaming beq→yu,ble→yG,blt→yK,eq_of_beq_eq_true→yp,gcd→wg,le_of_ble_eq_true→yy,le_refl→yC,le_trans→xj,lt_of_lt_of_le→yN,mul_one→yh,pow_add→wC,pow_le_pow_left→uH,pow_le_pow_right→xP,pow_mul→tF,reduceAdd→yb,reduceEqDiff→ya,reduceLT→yt,reduceLeDiff→ye,zero_add→yd
open Option renaming bind_eq_bind→wR,bind_some→xH,map_eq_some_iff→xX,pure_def→wn
open Option.some renaming injEq→yc
open Prod.mk renaming injEq→yk
namespace VE
section
open Go (IntKind)
def ajY:∀(cs:List AV) (l:List Nat),rA cs=some l->cs=l.map uc/\lo 18446744073709551616 l:=by
 intro cs
 induction cs with
 | nil=>
  intro l h;simp only [rA,yc] at h;subst h;exact ⟨rfl,fun _ h=>by cases h⟩
 | cons c cs ih=>
  intro l h;unfold rA at h
  split at h
  ·grind
  ·rename_i d r fZ;cases fZ
   cases hb:yK d 18446744073709551616 with
   | false=>rw [hb] at h;cases h
   | true=>
    rw [hb] at h
    cases hw:rA cs with
    | none=>rw [hw] at h;cases h
    | some l'=>
     rw [hw] at h;cases h;obtain ⟨k1,k2⟩:=ih l' hw;refine ⟨by rw [k1];rfl,fun x hx=>?_⟩
     rcases wk.1 hx with rfl | hx
     ·simp_all
     ·exact k2 x hx
  ·cases h
def ZR:∀{l:List Nat},Bm l=true->gL l
 | [],h=>by cases h
 | [a],h=>by
  have h0:a≠0:=fun e=>by subst e;cases h
  exact Eb h0 []
 | a::b::r,h=>by
  have h1:ew (b::r)=b::r:=ZR (l:=b::r) h;show ew (a::(b::r))=_
  simp only [ew] at h1 ⊢;rw [h1]
section
variable {P:aG} {L:Lib}
def aqe (h:Has P L 99 DA) (US:L.pure 135=some Ja) {s:Int} (hs:Bg s=true):bO P L (D P L) 99 [.agg [aa s,.ab]]=some (.str (bh s)):=by
 have e1:bO P L (D P L) 135 [aa s]=some (.str (bh s)):=by
  rw [js US];show (bif Bg s then some (AV.str (bh s)) else none)=_
  rw [hs];rfl
 rw [av h];simp only [go_sem,ya,yb,DA,aB,aV,yd,bU,gS,cQ,e1]
end
section
open Go
variable {O:bA}
def alH (hO:eP O) (hN:Nu O.prog O.aU) (US:O.aU.pure 135=some Ja) (Dk:O.aU.pure 138=some AH) (zW:O.aU.pure 139=some AZ) (Ge:Has O.prog O.aU 99 DA) {fn:Func} {c:Code} (lE:O.P.funcs[O.ai 99]? =some fn) (jn:fn.body=some c) (Pp:fn.ntmps=69)
  (UO:OT 5 c) (ht:Sm O.P c):∀vals r,MV vals=some r->eX O 99 vals r:=by
 intro vals r h;unfold MV at h
 split at h
 ·rename_i s
  cases hs:Bg s with
  | false=>rw [hs] at h;cases h
  | true=>
   rw [hs] at h;cases h;obtain ⟨k,hk⟩:=adk (aqe (P:=O.prog) (L:=O.aU) Ge US hs);exact sound hO hk
 ·rename_i s e n cs
  cases hw:rA cs with
  | none=>rw [hw] at h;cases h
  | some l=>
   rw [hw] at h;simp only at h
   cases hb:(yu l.length n&&(yG n 4000000000&&(Bm l&&yG 9223372036854775808 (rT l)))) with
   | false=>rw [hb] at h;cases h
   | true=>
    rw [hb] at h;simp only [yg] at hb;obtain ⟨h1,h2,h3,h4⟩:=hb;obtain ⟨rfl,bq⟩:=ajY cs l hw;have h1:=yp h1;subst h1;have h2:=yy h2;have h4:=yy h4;have h3:=ZR h3;rw [Sj] at h4 h;have bi:=mz bq;have key:=fun (s z:Int) (hz:z.natAbs=bv 18446744073709551616 l) (hs:s=if z<0 then -1 else 1)=>
     anX hO hN Dk zW Ge.code lE jn Pp UO ht (s:=s) (z:=z) (e:=e) (l:=l) (.inr ⟨e,l,rfl,bq,h3,hz.symm,hs,by omega⟩) (by omega) h2 (by omega)
    split at h
    ·cases h
     have:=key 1 (bv 18446744073709551616 l:Nat) (by simp) (by rw [yB (by omega)])
     exact this
    ·cases h
     have:=key (-1) (-(bv 18446744073709551616 l:Nat):Int) (by simp) (by rw [yI (by omega)])
     rw [mR (by omega)] at this
     grind
    ·cases h
 ·cases h
end
end
section
open Go
def SU (L:Lib) (n:Nat) (sp:List AV->Option AV):Lib:=⟨fun i=>bif yu i n then some sp else L.pure i,L.heap⟩
def alI {O:bA} (hO:eP O) {n:Nat} {sp:List AV->Option AV} (h:∀vals r,sp vals=some r->eX O n vals r):eP (O.sX (SU O.aU n sp)) where
 hint:=hO.hint
 mixed:=hO.mixed
 prog:=hO.prog
 aU i PQ vals r hi hs:=by
  show eX O i vals r
  simp only [SU] at hi
  cases hb:yu i n with
  | true=>
   rw [hb] at hi;cases hi
   have:=yp hb
   subst this;exact h vals r hs
  | false=>
   rw [hb] at hi;exact hO.aU i PQ vals r hi hs
 E8 i PQ hp ct vals v ao bg hi hs:=Zy (hO.E8 i PQ hp ct vals v ao bg hi hs)
end
section
open Go
section
variable {H:Type} {enc:yx×yf->H} {P:y6} {w:yi} {base:Nat} {sp:Nat->Bool} {held:Bool}
def mapM_mem {α β:Type} {f:α->Option β}:∀{l:List α} {r:List β},l.mapM f=some r->∀y,y∈r->∃x,f x=some y
 | [],r,h,y,hy=>by simp only [List.mapM_nil,wn,yc] at h;subst h;cases hy
 | x::l,r,h,y,hy=>by
  rw [vC] at h
  cases h1:f x with
  | none=>simp [h1] at h
  | some z=>
   cases h2:l.mapM f with
   | none=>simp [h1,h2] at h
   | some zs=>
    simp only [h1,h2,xH,wR,wn,yc] at h;subst h;rcases wk.1 hy with rfl | hy
    ·exact ⟨x,h1⟩
    ·exact mapM_mem h2 y hy
def Rd (enc:yx×yf->H) (P:y6) (w:yi) (base:Nat) (sp:Nat->Bool) (held:Bool) (t:yx) (d:xr H):Prop:=∃bB cs ps,DataW.trod enc P w base sp held bB t cs=some (d,ps)
def asJ {t:yx} {k:yV} {d:xr H} {n:Nat} (ht:P.underlying t=some (.int k)) (h:Rd enc P w base sp held t d):∃z,db P (n+1) t d=[.int k z]/\(Lit.int k z).wf=true:=by
 obtain ⟨bB,cs,ps,h⟩:=h
 cases bB with
 | zero=>simp [DataW.trod] at h
 | succ bB=>
  unfold DataW.trod at h
  split at h
  all_goals first
   | (rename_i hu;rw [ht] at hu;cases hu;done)
   | skip
  ·rename_i k1 k2 z hu;rw [ht] at hu;injection hu with hu
   injection hu with hu
   subst hu
   split at h
   ·rename_i hk;simp only [yc,yk] at h;obtain ⟨rfl,rfl⟩:=h;exact ⟨z,by simp only [db,ht],hk.2⟩
   ·cases h
  all_goals (cases h;done)
def an1 {t e:yx} {d:xr H} {n:Nat} (ht:P.underlying t=some (.slice e)) (h:Rd enc P w base sp held t d):
  db P (n+1) t d=[.ab]\/∃(x:Bool) (jK:List (xr H)),db P (n+1) t d=[.aE x jK.length (jK.flatMap fun y=>db P n e y)]/\∀y,y∈jK->Rd enc P w base sp held e y:=by
 obtain ⟨bB,cs,ps,h⟩:=h
 cases bB with
 | zero=>simp [DataW.trod] at h
 | succ bB=>
  unfold DataW.trod at h
  split at h
  all_goals first
   | (rename_i hu;rw [ht] at hu;cases hu;done)
   | skip
  ·simp only [yc,yk] at h;obtain ⟨rfl,rfl⟩:=h;exact .inl (by simp only [db,ht])
  ·rename_i e' a len cap hu;rw [ht] at hu;injection hu with hu
   injection hu with hu
   subst hu;simp only at h
   split at h
   case isFalse=>cases h
   cases h1:(List.range len).mapM fun i=>(w.cells? base (a.add (i*P.cellsOf e)) (P.cellsOf e)).bind (DataW.trod enc P w base sp held bB e) with
   | none=>rw [h1] at h;simp at h
   | some jK=>
    rw [h1] at h;simp only [xH] at h;obtain ⟨rest,_,h⟩:=xX.1 h;simp only [yk] at h;obtain ⟨rfl,rfl⟩:=h;refine .inr ⟨(rest.map (·.1)).isEmpty,jK.map (·.1),by simp only [db,ht,xu],?_⟩;intro y hy;obtain ⟨p,hp,rfl⟩:=vR.1 hy;obtain ⟨i,hi⟩:=mapM_mem h1 p hp;obtain ⟨dN,_,jj⟩:=Option.bind_eq_some_iff.1 hi;exact ⟨bB,dN,p.2,jj⟩
  all_goals (cases h;done)
def alJ {t:yx} {fs:Array uk} {d:xr H} {n:Nat} (ht:P.underlying t=some (.struct fs)) (h:Rd enc P w base sp held t d):
  ∃ds:List (xr H),ds.length=fs.toList.length/\db P (n+1) t d=(fs.toList.zip ds).flatMap (fun x=>db P n x.1.type x.2)/\∀i (h1:i<fs.toList.length) (h2:i<ds.length),Rd enc P w base sp held fs.toList[i].type ds[i]:=by
 obtain ⟨bB,cs,ps,h⟩:=h
 cases bB with
 | zero=>simp [DataW.trod] at h
 | succ bB=>
  unfold DataW.trod at h
  split at h
  all_goals first
   | (rename_i hu;rw [ht] at hu;cases hu;done)
   | (cases h;done)
   | skip
  rename_i cs x1 KT fs' hu;rw [ht] at hu;injection hu with hu
  injection hu with hu
  subst hu
  split at h
  case isFalse=>cases h
  obtain ⟨xs,h1,h⟩:=xX.1 h;simp only [yk] at h;obtain ⟨rfl,rfl⟩:=h;refine ⟨xs.map (·.1),by simp [L6 h1],by simp only [db,ht],?_⟩;have key:∀{r:List uk} {xs:List (xr H×List xV)},r.mapM (fun f=>DataW.trod enc P w base sp held bB f.type ((cs.drop f.offset).take (P.cellsOf f.type)))=some xs->
    ∀i (h1:i<r.length) (h2:i<(xs.map (·.1)).length),Rd enc P w base sp held r[i].type (xs.map (·.1))[i]:=by
   intro r
   induction r with
   | nil=>intro xs h i h1;exact absurd h1 (Nat.not_lt_zero i)
   | cons f r ih=>
    intro xs h i h1 h2;rw [vC] at h
    cases g1:DataW.trod enc P w base sp held bB f.type ((cs.drop f.offset).take (P.cellsOf f.type)) with
    | none=>simp [g1] at h
    | some x=>
     cases g2:r.mapM (fun f=>DataW.trod enc P w base sp held bB f.type ((cs.drop f.offset).take (P.cellsOf f.type))) with
     | none=>simp [g1,g2] at h
     | some ys=>
      simp only [g1,g2,xH,wR,wn,yc] at h;subst h
      cases i with
      | zero=>exact ⟨bB,_,x.2,g1⟩
      | succ i=>exact ih g2 i (by simpa using h1) (by simpa using h2)
  exact key h1
def an2 {t e:yx} {k:Nat} {d:xr H} {n:Nat} (ht:P.underlying t=some (.array k e)) (h:Rd enc P w base sp held t d):
  ∃ds:List (xr H),ds.length=k/\db P (n+1) t d=ds.flatMap (fun x=>db P n e x)/\∀y,y∈ds->Rd enc P w base sp held e y:=by
 obtain ⟨bB,cs,ps,h⟩:=h
 cases bB with
 | zero=>simp [DataW.trod] at h
 | succ bB=>
  unfold DataW.trod at h
  split at h
  all_goals first
   | (rename_i hu;rw [ht] at hu;cases hu;done)
   | (cases h;done)
   | skip
  rename_i cs x1 KT k' e' hu;rw [ht] at hu;injection hu with hu
  injection hu with qP Ao
  subst qP;subst Ao
  split at h
  case isFalse=>cases h
  obtain ⟨xs,h1,h⟩:=xX.1 h;simp only [yk] at h;obtain ⟨rfl,rfl⟩:=h;refine ⟨xs.map (·.1),by simp [L6 h1],by simp only [db,ht],fun y hy=>?_⟩;obtain ⟨p,hp,rfl⟩:=vR.1 hy;obtain ⟨i,hi⟩:=mapM_mem h1 p hp;exact ⟨bB,_,p.2,hi⟩
end
end
section
open Go
inductive Ty
 | int (k:yV)
 | dE (k:vP)
 | bool
 | str
 | sl (e:Ty)
 | nil
 | cat (a b:Ty)
 | ar (n:Nat) (e:Ty)
def kJ:Ty->List AV->Prop
 | .int k,l=>∃z,l=[.int k z]/\(Lit.int k z).wf=true
 | .dE k,l=>∃b,l=[.dE k b]
 | .bool,l=>∃b,l=[.bool b]
 | .str,l=>∃s:List Nat,l=[.str s]/\s.length<9223372036854775808/\∀c,c∈s->c<256
 | .sl e,l=>l=[.ab]\/∃(x:Bool) (ps:List (List AV)),l=[.aE x ps.length ps.flatten]/\∀p,p∈ps->kJ e p
 | .nil,l=>l=[]
 | .cat a b,l=>∃x y,l=x++y/\kJ a x/\kJ b y
 | .ar n e,l=>∃ps:List (List AV),ps.length=n/\l=ps.flatten/\∀p,p∈ps->kJ e p
def nd:List (Option Ty)->Option Ty
 | []=>some .nil
 | some a::r=>match nd r with
  | some b=>some (.cat a b)
  | none=>none
 | none::_=>none
def gJ (P:y6):Nat->yx->Option Ty
 | 0,_=>none
 | n+1,t=>
  match P.underlying t with
  | some .bool=>some .bool
  | some (.int k)=>some (.int k)
  | some (.float k)=>some (.dE k)
  | some .string=>some .str
  | some (.slice e)=>(gJ P n e).map .sl
  | some (.struct fs)=>nd (fs.toList.map fun f=>gJ P n f.type)
  | some (.array k e)=>(gJ P n e).map (.ar k)
  | _=>none
section
variable {H:Type} {enc:yx×yf->H} {P:y6} {w:yi} {base:Nat} {sp:Nat->Bool} {held:Bool}
def asK {t:yx} {k:vP} {d:xr H} {n:Nat} (ht:P.underlying t=some (.float k)) (h:Rd enc P w base sp held t d):∃b,db P (n+1) t d=[.dE k b]:=by
 obtain ⟨bB,cs,ps,h⟩:=h
 cases bB with
 | zero=>simp [DataW.trod] at h
 | succ bB=>
  unfold DataW.trod at h
  split at h
  all_goals first
   | (rename_i hu;rw [ht] at hu;cases hu;done)
   | skip
  ·rename_i k1 k2 z hu;rw [ht] at hu;injection hu with hu
   injection hu with hu
   subst hu
   split at h
   ·simp only [yc,yk] at h;obtain ⟨rfl,rfl⟩:=h;exact ⟨z,by simp only [db,ht]⟩
   ·cases h
  all_goals (cases h;done)
def aqf {t:yx} {d:xr H} {n:Nat} (ht:P.underlying t=some .bool) (h:Rd enc P w base sp held t d):∃b,db P (n+1) t d=[.bool b]:=by
 obtain ⟨bB,cs,ps,h⟩:=h
 cases bB with
 | zero=>simp [DataW.trod] at h
 | succ bB=>
  unfold DataW.trod at h
  split at h
  all_goals first
   | (rename_i hu;rw [ht] at hu;cases hu;done)
   | skip
  ·simp only [yc,yk] at h;obtain ⟨rfl,rfl⟩:=h;rename_i b _;exact ⟨b,by simp only [db,ht]⟩
  all_goals (cases h;done)
def asL {t:yx} {d:xr H} {n:Nat} (ht:P.underlying t=some .string) (h:Rd enc P w base sp held t d):
  ∃s:List Nat,db P (n+1) t d=[.str s]/\s.length<9223372036854775808/\∀c,c∈s->c<256:=by
 obtain ⟨bB,cs,ps,h⟩:=h
 cases bB with
 | zero=>simp [DataW.trod] at h
 | succ bB=>
  unfold DataW.trod at h
  split at h
  all_goals first
   | (rename_i hu;rw [ht] at hu;cases hu;done)
   | skip
  ·rename_i s hu
   split at h
   ·rename_i hs;simp only [yc,yk] at h;obtain ⟨rfl,rfl⟩:=h;refine ⟨_,by simp only [db,ht];rfl,?_,fun c hc=>?_⟩
    ·simp only [xu,Array.length_toList];have h1:s.size<=9223372036854775807:=hs;have h2:s.data.size=s.size:=rfl;omega
    ·obtain ⟨b,_,rfl⟩:=vR.1 hc;exact b.toNat_lt
   ·cases h
  all_goals (cases h;done)
def Y5 {n:Nat} (ih:∀{t:yx} {T:Ty} {d:xr H},gJ P n t=some T->Rd enc P w base sp held t d->kJ T (db P n t d)):
  ∀(fs:List uk) (ds:List (xr H)) (T:Ty),nd (fs.map fun f=>gJ P n f.type)=some T->ds.length=fs.length->(∀i (h1:i<fs.length) (h2:i<ds.length),Rd enc P w base sp held fs[i].type ds[i])->
   kJ T ((fs.zip ds).flatMap fun x=>db P n x.1.type x.2)
 | [],ds,T,hT,_,_=>by
  simp only [List.map_nil,nd,yc] at hT;subst hT;simp [kJ]
 | f::fs,[],T,_,hl,_=>by simp at hl
 | f::fs,d::ds,T,hT,hl,hr=>by
  simp only [yU] at hT
  cases h1:gJ P n f.type with
  | none=>simp [h1,nd] at hT
  | some a=>
   cases h2:nd (fs.map fun f=>gJ P n f.type) with
   | none=>simp [h1,h2,nd] at hT
   | some b=>
    simp only [h1,h2,nd,yc] at hT;subst hT;simp only [List.zip_cons_cons,List.flatMap_cons];exact ⟨_,_,rfl,ih h1 (hr 0 (by simp) (by simp)),Y5 ih fs ds b h2 (by simpa using hl) (fun i h1 h2=>hr (i+1) (by simpa using h1) (by simpa using h2))⟩
def adH:∀(n:Nat) {t:yx} {T:Ty} {d:xr H},gJ P n t=some T->Rd enc P w base sp held t d->kJ T (db P n t d)
 | 0,t,T,d,hT,_=>by simp [gJ] at hT
 | n+1,t,T,d,hT,hr=>by
  have ih:=@adH n
  cases hu:P.underlying t with
  | none=>simp [gJ,hu] at hT
  | some u=>
   cases u with
   | slice e=>
    simp only [gJ,hu] at hT;obtain ⟨E,hE,rfl⟩:=xX.1 hT
    rcases an1 (n:=n) hu hr with h | ⟨x,jK,h,hm⟩
    ·exact .inl h
    ·refine .inr ⟨x,jK.map (db P n e),by rw [h,xu,yae],fun p hp=>?_⟩;obtain ⟨y,hy,rfl⟩:=vR.1 hp;exact ih hE (hm y hy)
   | struct fs=>
    simp only [gJ,hu] at hT;obtain ⟨ds,e1,e2,e3⟩:=alJ (n:=n) hu hr;rw [e2];exact Y5 ih fs.toList ds T hT e1 e3
   | array k e=>
    simp only [gJ,hu] at hT;obtain ⟨E,hE,rfl⟩:=xX.1 hT;obtain ⟨ds,e1,e2,e3⟩:=an2 (n:=n) hu hr;refine ⟨ds.map (db P n e),by simp [e1],by rw [e2,yae],fun p hp=>?_⟩;obtain ⟨y,hy,rfl⟩:=vR.1 hp;exact ih hE (e3 y hy)
   | int k=>
    simp only [gJ,hu,yc] at hT;subst hT;exact asJ hu hr
   | float k=>
    simp only [gJ,hu,yc] at hT;subst hT;exact asK hu hr
   | bool=>
    simp only [gJ,hu,yc] at hT;subst hT;exact aqf hu hr
   | string=>
    simp only [gJ,hu,yc] at hT;subst hT;exact asL hu hr
   | _=>simp [gJ,hu] at hT
def FB:Ty->List AV->AV
 | .nil,l | .cat _ _,l | .ar _ _,l=> .agg l
 | _,l=>l.headD .undef
def alK:∀{l:List (Option Ty)} {T:Ty},nd l=some T->∀x,FB T x= .agg x
 | [],T,h=>by simp only [nd,yc] at h;subst h;exact fun _=>rfl
 | none::r,T,h=>by simp [nd] at h
 | some a::r,T,h=>by
  cases h1:nd r with
  | none=>simp [nd,h1] at h
  | some b=>
   simp only [nd,h1,yc] at h;subst h;exact fun _=>rfl
def auv {n:Nat} {t:yx} {T:Ty} {d:xr H} (hT:gJ P n t=some T):lM P n t d=FB T (db P n t d):=by
 cases n with
 | zero=>simp [gJ] at hT
 | succ n=>
  cases hu:P.underlying t with
  | none=>simp [gJ,hu] at hT
  | some u=>
   cases u with
   | slice e=>
    simp only [gJ,hu] at hT;obtain ⟨E,hE,rfl⟩:=xX.1 hT;simp only [lM,hu,FB]
   | struct fs=>
    simp only [gJ,hu] at hT;rw [alK hT];simp only [lM,hu]
   | array k e=>
    simp only [gJ,hu] at hT;obtain ⟨E,hE,rfl⟩:=xX.1 hT;simp only [lM,hu,FB]
   | _=>
    simp only [gJ,hu,yc,reduceCtorEq] at hT<;>
    (subst hT
     simp only [lM,hu,FB])
def Jh:List Ty->List (List AV)->List AV
 | T::Ts,l::ls=>FB T l::Jh Ts ls
 | _,_=>[]
def aaU {n:Nat}:∀{ts:List yx} {Ts:List Ty} {vs:List yf} {ds:List (xr H)} {ps:List xV},(ts.map (gJ P n))=Ts.map some->DataW.TrodAll enc P w base sp held ts vs ds ps->
  ∃ls,li kJ Ts ls/\zj P n ts ds=Jh Ts ls/\ds.length=ts.length
 | [],[],[],[],ps,_,_=>⟨[],trivial,rfl,rfl⟩
 | t::ts,T::Ts,v::vs,d::ds,ps,hT,⟨p,q,⟨bB,h1⟩,h2,_⟩=>by
  simp only [yU,List.cons.injEq] at hT;obtain ⟨ls,k1,k2,k3⟩:=aaU hT.2 h2;exact ⟨db P n t d::ls,⟨adH n hT.1 ⟨bB,_,_,h1⟩,k1⟩,by simp only [zj,Jh,k2,auv hT.1],by simp [k3]⟩
 | [],_::_,_,_,_,h,_=>by simp at h
 | _::_,[],_,_,_,h,_=>by simp at h
 | [],[],_::_,_,_,_,h=>by simp [DataW.TrodAll] at h
 | [],[],[],_::_,_,_,h=>by simp [DataW.TrodAll] at h
 | _::_,_,[],_,_,_,h=>by simp [DataW.TrodAll] at h
 | _::_,_,_::_,[],_,_,h=>by simp [DataW.TrodAll] at h
def asM {α β:Type} {p:α->β->Prop} {a:α}:∀{l:List β},li p [a] l->∃x,l=[x]/\p a x
 | [x],h=>⟨x,rfl,h.1⟩
 | [],h=>h.elim
 | _::_::_,h=>h.2.elim
def asN {α β:Type} {p:α->β->Prop} {a b:α}:∀{l:List β},li p [a,b] l->∃x y,l=[x,y]/\p a x/\p b y
 | x::l,h=>let ⟨y,h1,h2⟩:=asM h.2;⟨x,y,by rw [h1],h.1,h2⟩
 | [],h=>h.elim
end
end
section
open Go (IntKind)
abbrev IV:Ty:= .cat .str (.cat .str .nil)
abbrev afe:Ty:= .cat IV (.cat .str .nil)
abbrev awa:Ty:= .cat afe (.cat IV (.cat (.int .i64) .nil))
def Ma {l:List AV} (h:kJ IV l):∃x y:List Nat,l=[.str x,.str y]/\x.length<9223372036854775808/\y.length<9223372036854775808:=by
 obtain ⟨_,_,rfl,⟨x,rfl,hx,_⟩,_,_,rfl,⟨y,rfl,hy,_⟩,rfl⟩:=h;exact ⟨x,y,rfl,hx,hy⟩
def an3 {l:List AV} (h:kJ afe l):∃x y s:List Nat,l=[.str x,.str y,.str s]/\x.length<9223372036854775808/\y.length<9223372036854775808/\s.length<9223372036854775808:=by
 obtain ⟨_,_,rfl,h1,_,_,rfl,⟨s,rfl,hs,_⟩,rfl⟩:=h;obtain ⟨x,y,rfl,hx,hy⟩:=Ma h1;exact ⟨x,y,s,rfl,hx,hy,hs⟩
end
section
open Go (IntKind)
abbrev Tn:Ty:= .sl (.int .i64)
abbrev abU:Ty:= .sl Tn
abbrev adI:Ty:= .cat abU (.cat .str (.cat .str (.cat .str (.cat IV (.cat IV .nil)))))
def aaV:∀{ps:List (List AV)},(∀p,p∈ps->kJ (.int .i64) p)->∃zs:List Int,zs.length=ps.length/\ps.flatten=zs.map aa
 | [],_=>⟨[],rfl,rfl⟩
 | p::ps,h=>by
  obtain ⟨z,rfl,_⟩:=h p uE;obtain ⟨zs,h1,h2⟩:=aaV (ps:=ps) (fun q hq=>h q (wY _ hq));exact ⟨z::zs,by simp [h1],by simp [h2]⟩
def an4 {l:List AV} (h:kJ Tn l):∃(v:AV) (zs:List Int),l=[v]/\br v zs:=by
 rcases h with rfl | ⟨x,ps,rfl,h⟩
 ·exact ⟨_,[],rfl,pZ⟩
 ·obtain ⟨zs,h1,h2⟩:=aaV h;refine ⟨_,zs,rfl,?_⟩;rw [h2,<-h1];exact fm x zs
def aaW:∀{ps:List (List AV)},(∀p,p∈ps->kJ Tn p)->∃s:List (List Int),s.length=ps.length/\ps.flatten.length=ps.length/\li br ps.flatten s
 | [],_=>⟨[],rfl,rfl,trivial⟩
 | p::ps,h=>by
  obtain ⟨v,zs,rfl,hv⟩:=an4 (h p uE);obtain ⟨s,h1,h2,h3⟩:=aaW (ps:=ps) (fun q hq=>h q (wY _ hq));exact ⟨zs::s,by simp [h1],by simp [h2],hv,h3⟩
def ajZ {l:List AV} (h:kJ abU l):∃(v:AV) (s:List (List Int)),l=[v]/\cF v s:=by
 rcases h with rfl | ⟨x,ps,rfl,h⟩
 ·exact ⟨_,[],rfl,H6⟩
 ·obtain ⟨s,h1,h2,h3⟩:=aaW h;refine ⟨_,s,rfl,ps.flatten,?_,h3⟩
  have:=Ik x ps.flatten
  rwa [h2] at this
def alL {l:List AV} (h:kJ adI l):∃(w:AV) (s:List (List Int)) (a b c d e f g:List Nat),l=[w,.str a,.str b,.str c,.str d,.str e,.str f,.str g]/\cF w s/\a.length<9223372036854775808/\b.length<9223372036854775808/\c.length<9223372036854775808/\d.length<9223372036854775808/\e.length<9223372036854775808/\f.length<9223372036854775808/\g.length<9223372036854775808:=by
 obtain ⟨_,_,rfl,h1,_,_,rfl,⟨a,rfl,ha,_⟩,_,_,rfl,⟨b,rfl,hb,_⟩,_,_,rfl,⟨c,rfl,hc,_⟩,_,_,rfl,h2,_,_,rfl,h3,rfl⟩:=h;obtain ⟨w,s,rfl,hw⟩:=ajZ h1;obtain ⟨d,e,rfl,hd,he⟩:=Ma h2;obtain ⟨f,g,rfl,hf,hg⟩:=Ma h3;exact ⟨w,s,a,b,c,d,e,f,g,rfl,hw,ha,hb,hc,hd,he,hf,hg⟩
end
section
open Go (IntKind)
def Ir (n:Nat):10^n<=2^(4*n):=by
 rw [tF];exact uH (by decide) n
def alM {b:Nat} {r:List Nat} (h:dD (b::r)=true):48<=b/\b<=57:=by
 simp only [dD,yg] at h
 simp_all
section
variable {P:aG} {L:Lib}
def adJ (h:Tx P L) {ds:List Nat} {N:Nat} (hD:cW ds 0=some N) (hl:ds.length<=4000000000) {neg:Bool} {o1 o2:AV}:
  ∀m st,(∃(pre rest:List Nat) (a:Nat) (s:Int) (w:AV),bD [0,2,3,4] st=⟨[(0,.str rest),(2,.ptr 0 0),(3,.bool neg),(4,.ptr 1 0)],[(1,.cells true true true 2 [aa s,w]),(0,.cells true true true 2 [o1,o2])],2,0⟩/\ds=pre++rest/\cW pre 0=some a/\cN s w a/\rest.length=m)->
   ∃ex st',D P L (.loop [0,2,3,4] EA) st=some (ex,st')/\∃tm s w,st'=⟨tm,[(1,.cells true true true 2 [aa s,w]),(0,.cells true true true 2 [o1,o2])],2,0⟩/\ex= .exit 0/\af tm 2= .ptr 0 0/\af tm 3= .bool neg/\af tm 4= .ptr 1 0/\cN s w N:=by
 refine cg (I:=fun m st=>∃(pre rest:List Nat) (a:Nat) (s:Int) (w:AV),st=⟨[(0,.str rest),(2,.ptr 0 0),(3,.bool neg),(4,.ptr 1 0)],[(1,.cells true true true 2 [aa s,w]),(0,.cells true true true 2 [o1,o2])],2,0⟩/\ds=pre++rest/\cW pre 0=some a/\cN s w a/\rest.length=m)
  (Q:=fun ex st'=>∃tm s w,st'=⟨tm,[(1,.cells true true true 2 [aa s,w]),(0,.cells true true true 2 [o1,o2])],2,0⟩/\ex= .exit 0/\af tm 2= .ptr 0 0/\af tm 3= .bool neg/\af tm 4= .ptr 1 0/\cN s w N) ?_
 rintro m st ⟨pre,rest,a,s,w,rfl,DM,fp,hn,rfl⟩;obtain ⟨l1,u1⟩:=hn.az;have mE:=hD;rw [DM,H8,fp] at mE;have mE:cW rest a=some N:=mE;have hlen:pre.length+rest.length<=4000000000:=by rw [DM,yQ] at hl;exact hl
 by_cases h0:rest.length=0
 ·right
  have hr:rest=[]:=yJ h0;subst hr
  have:a=N:=by simpa [cW] using mE
  subst this;simp only [go_sem,EA,yE,show ¬(0:Int)<((0:Nat):Int) by omega];exact ⟨_,_,rfl,by simp,_,s,w,rfl,rfl,by simp only [go_sem,ya],by simp only [go_sem,ya],by simp only [go_sem,ya],hn⟩
 ·left
  obtain ⟨n,BS⟩:∃n,n=min 18 rest.length:=⟨_,rfl⟩;have afw:(if (rest.length:Int)<18 then (rest.length:Int) else 18)=(n:Int):=by split<;>omega
  have jl:rest.take n++rest.drop n=rest:=List.take_append_drop n rest;obtain ⟨a',Dw⟩:∃a',cW (rest.take n) a=some a':=by
   rw [<-jl,H8] at mE
   cases hq:cW (rest.take n) a with
   | none=>rw [hq] at mE;cases mE
   | some a'=>exact ⟨a',rfl⟩
  obtain ⟨v,hv⟩:∃v,cW (rest.take n) 0=some v:=by
   have:∀(l:List Nat) (x y b:Nat),cW l x=some y->∃z,cW l b=some z:=by
    intro l
    induction l with
    | nil=>intro x y b _;exact ⟨b,rfl⟩
    | cons c l ih=>
     intro x y b hh;simp only [cW] at hh ⊢
     cases hb:(yG 48 c&&yG c 57) with
     | false=>rw [hb] at hh;cases hh
     | true=>rw [hb] at hh;exact ih _ _ _ hh
   exact this _ _ _ 0 Dw
  have agf:=anV (a:=a) hv;have Xe:(rest.take n).length=n:=by rw [yT];omega
  rw [Xe,Dw,yc] at agf;have UT:=Sk hv;rw [Xe] at UT;have aA2:v<1000000000000000000:=yN UT (xP (n:=10) (by decide) (show n<=18 by omega));have e1:=aqb (P:=P) h.UK (f:=D P L) (s:=rest.take n) (by omega) (by omega) hv;obtain ⟨t1,t2⟩:=Di h.toNu (z:=10) (by decide) (by decide);obtain ⟨t3,t4⟩:=Di h.toNu (z:=(v:Int)) (by omega) (by omega);obtain ⟨p,e2,hp⟩:=av9 h.toNu h.UM t2 (K:=4) (k:=n) (by unfold Bd;decide) (by omega) (by omega)
  have halt:=Sk fp;have ba:Bd (4*pre.length) (a:Int):=yN halt (Ir _);have bp:Bd (4*n+1) ((10:Int)^n):=Bd.pow (k:=4) (by unfold Bd;decide) n
  obtain ⟨q,e3,hq⟩:=rS h.toNu (v:= .agg [aa s,w]) ⟨s,w,rfl,hn⟩ hp (K:=4*pre.length+4*n+1) (ba.mono (by omega)) (bp.mono (by omega)) (by omega);have bv':Bd (4*n) (v:Int):=yN UT (Ir _);obtain ⟨r,e4,hr⟩:=J4 h.toNu hq t4 (K:=4*pre.length+4*n+1) ((ba.mul bp).mono (by omega)) (bv'.mono (by omega)) (by omega);have aQ:(a:Int)*10^n+(v:Int)=(a':Int):=by
   rw [agf]
   simp
  rw [aQ] at hr;obtain ⟨s2,w2,rfl,h2⟩:=hp;obtain ⟨s3,w3,rfl,h3⟩:=hq;obtain ⟨s4,w4,rfl,h4⟩:=hr;obtain ⟨l2,u2⟩:=h2.az;obtain ⟨l3,u3⟩:=h3.az;obtain ⟨l4,u4⟩:=h4.az;have un:=sQ;have c1:iC rest (some 0) (some n)=some (.str (rest.take n)):=by rw [lK (by omega) (by omega),yj]
  have c2:iC rest (some n) (some rest.length)=some (.str (rest.drop n)):=by rw [lK (by omega) (by omega),List.take_length]
  simp only [go_sem,ya,EA,show (0:Int)<(rest.length:Nat) by omega,SM,RX,afw,eV,fo,dQ,c1,c2,e1,bZ,t1,t3,aZ,u1.ah,u2.ah,u3.ah,un.ah,e2,e3,e4,bl,bZ,yj,dS u4];refine ⟨_,(rest.drop n).length,rfl,by rw [xS];omega,pre++rest.take n,rest.drop n,a',s4,w4,by simp only [go_sem,ya,yb,ay],by rw [xp,jl];exact DM,by rw [H8,fp];exact Dw,h4,rfl⟩
def Rz {b:Nat} {r:List Nat} (h:48<=b):gR [45] (b::r)=false:=by
 show (yu 45 b&&true)=false
 rw [cG (by omega)];rfl
def J7 (h:Tx P L) {z:Int} (hz:(bh z).length<=4000000000):∃r,ae P L 110 [.str (bh z)] r/\cL r z:=by
 have hN:=Cn z.natAbs;have un:=sQ;have Ad:(aw z.natAbs).length<=4000000000:=by
  by_cases h0:z<0
  ·rw [mR h0] at hz;simp at hz;omega
  ·rw [<-nB,yB h0] at hz;simpa using hz
 have ba:Bd (4*(aw z.natAbs).length) (z.natAbs:Int):=yN (Sk hN) (Ir _);by_cases h0:z<0
 ·have hs:bh z=45::aw z.natAbs:=mR h0;have e1:bO P L (D P L) 152 [.str (45::aw z.natAbs),.str [45]]=some (.bool true):=by rw [js h.af9];rfl
  have e2:bO P L (D P L) 153 [.str (45::aw z.natAbs),.str [45]]=some (.str (aw z.natAbs)):=by rw [js h.UJ];rfl
  have je:∃s w r,ae P L 110 [.str (bh z)] r/\cN s w (z.natAbs:Int)/\ae P L 147 [.agg [aa s,w]] r/\cL r (-(z.natAbs:Int)):=by
   rw [hs];unfold ae;rw [av h.agb];simp only [go_sem,ya,yb,N5,aB,e1,e2,un.pu,un.one,dS un];generalize hq:D P L (.loop [0,2,3,4] EA) _=q;obtain ⟨ex,st,rfl,tm,s,w,rfl,rfl,t2,t3,t4,h5⟩:=bP hq (adJ (P:=P) (L:=L) h hN Ad (neg:=true) (o1:= .int .i64 0) (o2:= .ab) (aw z.natAbs).length) ⟨[],aw z.natAbs,0,0,.ab,by simp only [go_sem,ya,yb,ay]<;>rfl,rfl,rfl,.inl ⟨rfl,rfl,by decide,by decide⟩,rfl⟩
   obtain ⟨l5,u5⟩:=h5.az;obtain ⟨r,e3,hr⟩:=FA h.toNu (v:= .agg [aa s,w]) ⟨s,w,rfl,h5⟩ (K:=4*(aw z.natAbs).length) ba (by omega);have bX:=hr;obtain ⟨s6,w6,rfl,h6⟩:=hr;obtain ⟨l6,u6⟩:=h6.az;refine ⟨s,w,_,?_,h5,e3,bX⟩;simp only [go_sem,ya,yb,ay,t2,t3,t4,bZ,aZ,u5.ah,e3,bl,dc,dd,bZ,yj,mB u6,dS u6]
  obtain ⟨s,w,r,g1,_,_,g2⟩:=je;rw [show -((z.natAbs:Nat):Int)=z by omega] at g2;exact ⟨r,g1,g2⟩
 ·have hs:bh z=aw z.natAbs:=by rw [<-nB,yB h0];rfl
  obtain ⟨b,r0,hb,ff,lG⟩:=Ef z.natAbs;have e1:bO P L (D P L) 152 [.str (aw z.natAbs),.str [45]]=some (.bool false):=by
   rw [js h.af9,hb];show some (AV.bool (gR [45] (b::r0)))=_
   rw [Rz ff]
  have e2:bO P L (D P L) 153 [.str (aw z.natAbs),.str [45]]=some (.str (aw z.natAbs)):=by
   rw [js h.UJ,hb];show some (AV.str (bif gR [45] (b::r0) then _ else _))=_
   rw [Rz ff];rfl
  have je:∃s w,ae P L 110 [.str (bh z)] (.agg [aa s,w])/\cN s w (z.natAbs:Int):=by
   rw [hs];unfold ae;rw [av h.agb];simp only [go_sem,ya,yb,N5,aB,e1,e2,un.pu,un.one,dS un];generalize hq:D P L (.loop [0,2,3,4] EA) _=q;obtain ⟨ex,st,rfl,tm,s,w,rfl,rfl,t2,t3,t4,h5⟩:=bP hq (adJ (P:=P) (L:=L) h hN Ad (neg:=false) (o1:= .int .i64 0) (o2:= .ab) (aw z.natAbs).length) ⟨[],aw z.natAbs,0,0,.ab,by simp only [go_sem,ya,yb,ay]<;>rfl,rfl,rfl,.inl ⟨rfl,rfl,by decide,by decide⟩,rfl⟩
   obtain ⟨l5,u5⟩:=h5.az;refine ⟨s,w,?_,h5⟩;simp only [go_sem,ya,yb,ay,t2,t3,t4,bZ,dc,dd,bZ,yj,mB u5,dS u5]
  obtain ⟨s,w,g1,g2⟩:=je;rw [show ((z.natAbs:Nat):Int)=z by omega] at g2;exact ⟨_,g1,s,w,rfl,g2⟩
def HT (b:Nat) (r:List Nat) (c:Nat):gR [c] (b::r)=yu c b:=by
 show (yu c b&&true)=_
 grind
def Yp:∀(l r:List Nat) (k:Nat),(∀x,x∈l->x≠47)->mq [47] (l++47::r) k=some (k+l.length)
 | [],r,k,_=>by
  show (bif gR [47] (47::r) then some k else _)=_
  rw [HT];rfl
 | b::l,r,k,h=>by
  show (bif gR [47] (b::(l++47::r)) then some k else mq [47] (l++47::r) (k+1))=_
  rw [HT,cG (fun e=>h b (by simp) e.symm),yA,Yp l r (k+1) (fun x hx=>h x (by simp [hx])),yr]
  grind
def index_none:∀(l:List Nat) (k:Nat),(∀x,x∈l->x≠47)->mq [47] l k=none
 | [],k,_=>rfl
 | b::l,k,h=>by
  show (bif gR [47] (b::l) then some k else mq [47] l (k+1))=_
  rw [HT,cG (fun e=>h b (by simp) e.symm),yA,index_none l (k+1) (fun x hx=>h x (by simp [hx]))]
def aaX:∀{l:List Nat},dD l=true->∀x,x∈l->48<=x/\x<=57
 | [],_,x,hx=>by simp at hx
 | b::l,h,x,hx=>by
  have h1:=alM h;simp only [dD,yg] at h;rcases wk.1 hx with rfl | hx
  ·grind
  ·exact aaX h.2 x hx
def ait (z:Int):∀x,x∈bh z->x≠47:=fun x hx=>by
 rw [<-nB] at hx;rcases List.mem_append.1 hx with h | h
 ·grind
 ·have:=aaX (HR _) x h;omega
def m62 (h:Tx P L) {a:Rat} (hl:(RT a).length<4000000000):∃r,ae P L 62 [.str (RT a)] r/\cE r a:=by
 have FJ:=ait a.num;unfold RT at hl ⊢;by_cases hd:a.den=1
 ·rw [yI hd,wc] at hl ⊢;obtain ⟨p,e1,hp⟩:=J7 h (z:=a.num) (by omega);obtain ⟨r,e2,hr⟩:=J5 h.toFr' hp;rw [<-MU a hd] at hr;have bX:=hr;obtain ⟨s1,w1,rfl,h1⟩:=hp;obtain ⟨s2,w2,s3,w3,rfl,h2,h3⟩:=hr;obtain ⟨l1,u1⟩:=h1.az;obtain ⟨l2,u2⟩:=h2.az;obtain ⟨l3,u3⟩:=h3.az;have e0:bO P L (D P L) 109 [.str (bh a.num),.str [47]]=some (.ap [.str (bh a.num),.str [],.bool false]):=by
   rw [js h.UL];show (bif yK (bh a.num).length 4294967281 then (match mq [47] (bh a.num) 0 with | some i=>_ | none=>some (AV.ap [.str (bh a.num),.str [],.bool false])) else none)=_
   rw [jM (by omega),index_none _ _ FJ];rfl
  refine ⟨_,?_,bX⟩;unfold ae;rw [av h.Qe];simp only [go_sem,ya,yb,PH,aB,e0,e1,bl,u1.ah,aZ,e2,kU u2 u3,dc,dd,yj,hZ,lO u2 u3]
 ·rw [yB hd] at hl ⊢;simp only [yQ,yr] at hl;obtain ⟨p,e1,hp⟩:=J7 h (z:=a.num) (by omega);obtain ⟨q,e2,hq⟩:=J7 h (z:=(a.den:Int)) (by rw [kM];omega);rw [kM] at e2;obtain ⟨s1,w1,rfl,h1⟩:=hp;obtain ⟨s2,w2,rfl,h2⟩:=hq;obtain ⟨l1,u1⟩:=h1.az;obtain ⟨l2,u2⟩:=h2.az;have e0:bO P L (D P L) 109 [.str (bh a.num++47::aw a.den),.str [47]]=some (.ap [.str (bh a.num),.str (aw a.den),.bool true]):=by
   rw [js h.UL];show (bif yK (bh a.num++47::aw a.den).length 4294967281 then (match mq [47] (bh a.num++47::aw a.den) 0 with | some i=>some (AV.ap [.str ((bh a.num++47::aw a.den).take i),.str ((bh a.num++47::aw a.den).drop (i+1)),.bool true]) | none=>_) else none)=_
   rw [jM (by simp;omega),Yp _ _ _ FJ];simp only [yd,ym,List.take_left];rw [show (bh a.num).length+1=(bh a.num++[47]).length by simp,show bh a.num++47::aw a.den=(bh a.num++[47])++aw a.den by simp,List.drop_left]
  refine ⟨.agg [aa s1,w1,aa s2,w2],?_,s1,w1,s2,w2,rfl,h1,h2⟩;unfold ae;rw [av h.Qe];simp only [go_sem,ya,yb,PH,aB,e0,e1,e2,bl,u1.one,u2.one,Es,Et,kU u1 u2,dc,dd,yj,hZ,lO u1 u2]
end
end
section
open Go (IntKind)
def ef (p:List Nat):Bool:=dD p&&(match p with | []=>false | b::r=> !(yu b 48)||r.isEmpty)
def fY (p:List Nat):Nat:=(cW p 0).getD 0
def zX (neg:Bool) (t:List Nat):Int:=
 if ef (t.take (bS t))=false\/(neg=true/\t.take (bS t)=[48]) then 1
 else if bS t<t.length/\(ef (t.drop (bS t+1))=false\/t.drop (bS t+1)=[48]\/t.drop (bS t+1)=[49]) then 1
 else if 600<bS t\/600<t.length-bS t-1 then 4
 else if bS t<t.length/\wg (fY (t.take (bS t))) (fY (t.drop (bS t+1)))≠1 then 1
 else 0
def aY:List Nat->Int
 | []=>zX false []
 | b::t=>if b=45 then zX true t else zX false (b::t)
def aaY:∀{p:List Nat} (a:Nat),dD p=true->∃n,cW p a=some n
 | [],a,_=>⟨a,rfl⟩
 | b::r,a,h=>by
  have h':=h;simp only [dD,yg] at h';obtain ⟨n,hn⟩:=aaY (p:=r) (10*a+(b-48)) h'.2;exact ⟨n,by simp only [cW,h'.1.1,h'.1.2,wp,ym];exact hn⟩
def Eg:∀(k:Nat) {p:List Nat},p.length=k->ef p=true->aw (fY p)=p:=by
 intro k
 induction k with
 | zero=>intro p hl h;rw [yJ hl] at h;simp [ef] at h
 | succ k ih=>
  intro p hl h;rcases snoc p with rfl | ⟨m,a,rfl⟩
  ·grind
  ·simp only [ef,yg,LC] at h;obtain ⟨⟨h1,h2⟩,h3⟩:=h;simp only [dD,yg] at h2;have ha1:=yy h2.1.1;have ha2:=yy h2.1.2;obtain ⟨n,hn⟩:=aaY 0 h1;have hv:fY (m++[a])=10*n+(a-48):=by
    unfold fY;rw [H8,hn];simp only [xH,cW,h2.1.1,h2.1.2,wp,ym,Option.getD_some]
   cases m with
   | nil=>
    have:n=0:=by simpa [cW] using hn.symm
    rw [hv,oB (by omega)]
    simp;omega
   | cons b r=>
    have hd:ef (b::r)=true:=by
     simp only [ef,h1,wA]
     cases r with
     | nil=>simp
     | cons c r=>simp at h3 ⊢;exact h3
    have hm:=ih (p:=b::r) (by simpa using hl) hd;have hnv:fY (b::r)=n:=by unfold fY;rw [hn];rfl
    rw [hnv] at hm;have lB:n≠0:=fun e=>by
     rw [oB (by omega)] at hm
     simp_all
    rw [hv,p0 (by omega),show (10*n+(a-48))/10=n by omega,show 48+(10*n+(a-48))%10=a by omega,hm]
def XT (t:List Nat):bS t<t.length->t=t.take (bS t)++47::t.drop (bS t+1):=by
 induction t with
 | nil=>simp
 | cons b r ih=>
  intro h;simp only [bS] at h ⊢
  grind
def ZS {n:Int} {d:Nat} (hd:0<d) (hg:wg n.natAbs d=1):∃r:Rat,r.num=n/\r.den=d:=⟨⟨n,d,by omega,hg⟩,rfl,rfl⟩
def asP {s:List Nat} (h:aY s=0):∃r:Rat,s=RT r/\(aw r.num.natAbs).length<=600/\(aw r.den).length<=600:=by
 have key:∀(neg:Bool) (t:List Nat),zX neg t=0->∃r:Rat,(if neg=true then [45] else [])++t=RT r/\(aw r.num.natAbs).length<=600/\(aw r.den).length<=600:=by
  intro neg t h;unfold zX at h
  split at h
  ·grind
  rename_i h1
  split at h
  ·grind
  rename_i h2
  split at h
  ·grind
  rename_i h3
  split at h
  ·grind
  rename_i h4;have hle:=HQ t;have hp:ef (t.take (bS t))=true:=by
   cases hb:ef (t.take (bS t)) with
   | true=>rfl
   | false=>exact absurd (.inl hb) h1
  have qX:=Eg _ rfl hp;generalize hn:fY (t.take (bS t))=n at*
  have auw:neg=true->n≠0:=fun hh e=>by
   subst e;exact h1 (.inr ⟨hh,by rw [<-qX];rfl⟩)
  have hint:(if neg=true then [45] else [])++aw n=bh (if neg=true then -(n:Int) else n):=by
   cases neg with
   | true=>
    have:=auw rfl
    simp only [y5];rw [mR (by omega)]
    simp
   | false=>simp [kM]
  have UU:(if neg=true then -(n:Int) else n).natAbs=n:=by split<;>omega
  have hln:(aw n).length<=600:=by rw [qX,yT];omega
  by_cases hs:bS t<t.length
  ·have hq:ef (t.drop (bS t+1))=true:=by
    cases hb:ef (t.drop (bS t+1)) with
    | true=>rfl
    | false=>exact absurd ⟨hs,.inl hb⟩ h2
   have ow:=Eg _ rfl hq;have hg:wg n (fY (t.drop (bS t+1)))=1:=by
    grind
   have kq:=XT t hs;have Gf:(t.drop (bS t+1)).length<=600:=by rw [xS];omega
   rw [<-ow] at kq Gf;have iE:fY (t.drop (bS t+1))≠0:=fun e=>by
    rw [e] at ow;exact h2 ⟨hs,.inr (.inl (by rw [<-ow];rfl))⟩
   have jB:fY (t.drop (bS t+1))≠1:=fun e=>by
    rw [e] at ow;exact h2 ⟨hs,.inr (.inr (by rw [<-ow];rfl))⟩
   generalize fY (t.drop (bS t+1))=d at*
   obtain ⟨r,cp,fe⟩:=ZS (n:=if neg=true then -(n:Int) else n) (d:=d) (by omega) (by rw [UU];exact hg)
   refine ⟨r,?_,by rw [cp,UU];exact hln,by rw [fe];exact Gf⟩
   unfold RT;rw [cp,fe,yB jB,<-hint,xp]
   congr 1
   rw [qX];exact kq
  ·have ht:t.take (bS t)=t:=yM (by omega);rw [ht] at qX;obtain ⟨r,cp,fe⟩:=ZS (n:=if neg=true then -(n:Int) else n) (d:=1) (by omega) (Nat.gcd_one_right _);refine ⟨r,?_,by rw [cp,UU];exact hln,by rw [fe];decide⟩
   unfold RT;rw [cp,fe,yI rfl,<-hint,wc,qX]
 cases s with
 | nil=>exact absurd h (by decide)
 | cons b t=>
  simp only [aY] at h
  split at h
  ·rename_i hb;subst hb;exact key true t h
  ·exact key false (b::t) h
end
section
namespace Nd
structure Ord (n:Nat) (l:List Int):Prop where
 len:l.length=n
 po:∀a,a<n->0<=l.getD a 0/\l.getD a 0<n
 inj:∀a b,a<n->b<n->l.getD a 0=l.getD b 0->a=b
end Nd
end
section
namespace Nd
open Go (IntKind)
section
variable {P:aG} {L:Lib}
abbrev ae (P:aG) (L:Lib) (f:Nat) (vals:List AV) (r:AV):Prop:=bO P L (D P L) f vals=some r
def zY (h:Has P L 124 Fc) (b:Bool) (n:Int):ae P L 124 [.bool b,aa n] (aa (if b=true then n else 0)):=by
 unfold ae;rw [av h]
 cases b with
 | true=>simp only [go_sem,ya,Fc,y5]
 | false=>simp only [go_sem,ya,Fc];rfl
def awb (h:Has P L 125 N9) {v:AV} {l:List Int} (hv:br v l) (hl:l.length<=1000000):ae P L 125 [v] (aa (bj l)):=by
 unfold ae;rw [av h];simp only [go_sem,ya,N9,hv.len];have key:=H5 (P:=P) (L:=L) (live:=[5,6,7]) (a:=M1)
  (I:=fun k s=>∃tm ct i,s=⟨tm,[],ct,0⟩/\af tm 5=v/\af tm 6=aa l.length/\af tm 7=aa (i:Nat)/\i+k=l.length/\bj (l.drop i)=bj l)
  (Q:=fun ex s=>∃tm,s=⟨tm,[],0,0⟩/\((ex= .ret/\af tm 2=aa (bj l))\/(ex= .exit 0/\bj l=0))) ?_ l.length
 ·generalize hq:D P L (.loop [5,6,7] M1) _=q;obtain ⟨ex,s,rfl,tm,rfl,h2⟩:=bP hq key ⟨_,_,0,rfl,rfl,rfl,rfl,by omega,rfl⟩;rcases h2 with ⟨rfl,h2⟩ | ⟨rfl,h2⟩
  ·simp only [go_sem,h2]
  ·rw [h2];simp only [go_sem]
 ·rintro k s ⟨tm,ct,i,rfl,h5,h6,h7,hk,hf⟩;rw [Lz (by simp only [go_sem,h5,h6,h7,hv.pu])];simp only [go_sem,ya,h5,h6,h7,M1];by_cases hi:i<l.length
  ·have cu:(i:Int)<l.length:=by omega
   rw [QF hi] at hf;by_cases hz:l[i]=0
   ·left
    simp only [go_sem,ya,cu,hv.bk hi,hz];refine ⟨_,k-1,rfl,by omega,_,_,i+1,rfl,?_⟩;rw [wrap64 (by omega) (by omega)];rw [yI hz] at hf;simp only [go_sem,ya];exact ⟨trivial,trivial,rfl,by omega,hf⟩
   ·right
    simp only [go_sem,ya,cu,hv.bk hi,hz];rw [yB hz] at hf;refine ⟨_,_,rfl,by simp,_,rfl,.inl ⟨rfl,?_⟩⟩;simp only [go_sem,hf]
  ·right
   have cu:¬(i:Int)<l.length:=by omega
   simp only [go_sem,cu];refine ⟨_,_,rfl,by simp,_,rfl,.inr ⟨rfl,?_⟩⟩;rw [<-hf,y8 (by omega)];rfl
end
end Nd
end
section
open Go (IntKind)
def aaZ (i:Nat):Fb i [48,49,50,51,52,53,54,55,56,57]=(yG 48 i&&yG i 57):=by
 by_cases h:48<=i/\i<=57
 ·obtain ⟨h1,h2⟩:=h;obtain ⟨k,rfl⟩:∃k,i=48+k:=⟨i-48,by omega⟩;rcases (show k=0\/k=1\/k=2\/k=3\/k=4\/k=5\/k=6\/k=7\/k=8\/k=9 by omega) with rfl | rfl | rfl | rfl | rfl | rfl | rfl | rfl | rfl | rfl<;>rfl
 ·have e:(yG 48 i&&yG i 57)=false:=by
   cases h1:yG 48 i with
   | false=>rfl
   | true=>
    cases h2:yG i 57 with
    | false=>rfl
    | true=>exact absurd ⟨yy h1,yy h2⟩ h
  rw [e];have ne:∀c,48<=c->c<=57->yu c i=false:=fun c h1 h2=>cG (by omega)
  simp only [Fb,ne 48 (by decide) (by decide),ne 49 (by decide) (by decide),ne 50 (by decide) (by decide),ne 51 (by decide) (by decide),ne 52 (by decide) (by decide),ne 53 (by decide) (by decide),ne 54 (by decide) (by decide),ne 55 (by decide) (by decide),ne 56 (by decide) (by decide),ne 57 (by decide) (by decide),yA]
def RA:∀l:List Nat,kR [48,49,50,51,52,53,54,55,56,57] l=[]↔dD l=true
 | []=>by simp [kR,dD]
 | b::r=>by
  simp only [kR,dD,aaZ]
  cases hb:(yG 48 b&&yG b 57) with
  | true=>simp only [ym,wA];exact RA r
  | false=>simp
def My:∀l:List Nat,dD l.reverse=dD l
 | []=>rfl
 | b::r=>by rw [List.reverse_cons,LC,My r];simp [dD,Bool.and_comm]
def XZ:∀l:List Nat,dD l=false->dD (kR [48,49,50,51,52,53,54,55,56,57] l)=false
 | [],h=>by simp [dD] at h
 | b::r,h=>by
  simp only [kR,aaZ]
  cases hb:(yG 48 b&&yG b 57) with
  | true=>
   simp only [dD,hb,wA] at h;exact XZ r h
  | false=>simp only [yA];exact h
def an5 (p:List Nat):cA (kR [48,49,50,51,52,53,54,55,56,57] (kR [48,49,50,51,52,53,54,55,56,57] p.reverse).reverse) []=dD p:=by
 cases hd:dD p with
 | true=>
  have h1:=(RA p.reverse).2 (by rw [My];exact hd)
  rw [h1];rfl
 | false=>
  have h1:=XZ p.reverse (by rw [My];exact hd)
  have h2:dD (kR [48,49,50,51,52,53,54,55,56,57] p.reverse).reverse=false:=by rw [My];exact h1
  cases hq:kR [48,49,50,51,52,53,54,55,56,57] (kR [48,49,50,51,52,53,54,55,56,57] p.reverse).reverse with
  | nil=>have:=(RA _).1 hq;rw [h2] at this;exact absurd this (by decide)
  | cons b r=>rfl
def X0:∀(t:List Nat) (k:Nat),mq [47] t k=if bS t<t.length then some (k+bS t) else none
 | [],k=>by simp [mq,gR,bS]
 | b::r,k=>by
  by_cases hb:b=47
  ·subst hb;have e:bS (47::r)=0:=by simp [bS]
   rw [e,yI (by simp)];rfl
  ·have e:bS (b::r)=bS r+1:=by simp [bS,hb]
   have hp:gR [47] (b::r)=false:=by rw [HT];exact cG (fun e=>hb e.symm)
   rw [e,mq,hp,yA,X0 r (k+1)]
   grind
def sZ (a b:List Nat):binOp .neq (.str a) (.str b)=some (.bool (!(cA a b))):=rfl
structure Ck (P:aG) (L:Lib):Prop extends Tx P L where
 awc:L.pure 128=some LR
 awd:L.pure 162=some trimS
 h86:Has P L 86 fF
 Dl:Has P L 124 Fc
 awe:Has P L 125 N9
 awf:Has P L 129 Fe
section
variable {P:aG} {L:Lib}
def zY (h:Has P L 124 Fc) (b:Bool) (n:Int):ae P L 124 [.bool b,aa n] (aa (if b=true then n else 0)):=Nd.zY h b n
def agh (h:Ck P L) {p:List Nat} (hl:p.length<=4000000000):ae P L 129 [.str p] (.bool (ef p)):=by
 have e1:bO P L (D P L) 162 [.str p,.str [48,49,50,51,52,53,54,55,56,57]]=some (.str (kR [48,49,50,51,52,53,54,55,56,57] (kR [48,49,50,51,52,53,54,55,56,57] p.reverse).reverse)):=by
  rw [js h.awd];show (bif Ez [48,49,50,51,52,53,54,55,56,57]&&(yK p.length 4294967281&&yK 10 4294967281) then _ else none)=_
  rw [jM (by omega)];rfl
 have e2:=an5 p;unfold ae;rw [av h.awf]
 match p,e1,e2 with
 | [],_,_=>
  simp only [go_sem,ya,Fe,sZ,show cA [] []=true from rfl,yH];rfl
 | b::r,e1,e2=>
  have hI:mX 0 (.str (b::r))=some (.int .u8 (b:Nat)):=rfl;have h0:cA (b::r) []=false:=rfl;have hd:ef (b::r)=(dD (b::r)&&(!(yu b 48)||r.isEmpty)):=rfl;rw [hd]
  cases nt:dD (b::r) with
  | false=>
   rw [nt] at e2;simp only [go_sem,ya,Fe,sZ,h0,yF,e1,iF,e2,wr]
  | true=>
   rw [nt] at e2;by_cases hb:b=48
   ·subst hb;have e3:cA (48::r) [48]=r.isEmpty:=by
     cases r with
     | nil=>rfl
     | cons c r=>rfl
    have VQ:mX 0 (.str (48::r))=some (.int .u8 48):=rfl;simp only [go_sem,ya,Fe,sZ,h0,yF,e1,iF,e2,VQ,yq,yH,e3];rfl
   ·have:yu b 48=false:=cG hb
    rw [this];simp only [go_sem,ya,Fe,sZ,h0,yF,e1,iF,e2,hI,show ¬((b:Nat):Int)=48 by omega,yo,yF];rfl
def awg (h:Ck P L) (s:List Nat):bO P L (D P L) 128 [.str s,.str [45]]=some (if s.head? =some 45 then .ap [.str s.tail,.bool true] else .ap [.str s,.bool false]):=by
 rw [js h.awc];show some (bif gR [45] s then AV.ap [.str (s.drop 1),.bool true] else .ap [.str s,.bool false])=_
 cases s with
 | nil=>rfl
 | cons b r=>
  by_cases hb:b=45
  ·subst hb;rfl
  ·have:gR [45] (b::r)=false:=by rw [HT];exact cG (fun e=>hb e.symm)
   grind
def awh (h:Ck P L) {t:List Nat} (hl:t.length<=4000000000):bO P L (D P L) 109 [.str t,.str [47]]=some (.ap [.str (t.take (bS t)),.str (t.drop (bS t+1)),.bool (decide (bS t<t.length))]):=by
 rw [js h.UL];show (bif yK t.length 4294967281 then (match mq [47] t 0 with | some i=>some (AV.ap [.str (t.take i),.str (t.drop (i+1)),.bool true]) | none=>some (AV.ap [.str t,.str [],.bool false])) else none)=_
 rw [jM (by omega),X0];by_cases hs:bS t<t.length
 ·grind
 ·rw [yB hs,yR hs,yM (by omega),y8 (by omega)];rfl
def aj0 {P:aG} {L:Lib} (a b c d:VC) (s:St):D P L (.seq a (.seq b (.seq c d))) s=mA P L (D P L (.seq a (.seq b c)) s) d:=by
 have e:=Cr (P:=P) (L:=L) b c d;rw [iK,iK]
 cases D P L a s with
 | none=>rfl
 | some q=>
  obtain ⟨ex,st⟩:=q
  cases ex with
  | normal=>rw [fu,fu];exact e st
  | ret=>rfl
  | exit id=>rfl
def alN {P:aG} {L:Lib} (a b c d f:VC) (s:St):D P L (.seq a (.seq b (.seq c (.seq d f)))) s=mA P L (D P L (.seq a (.seq b (.seq c d))) s) f:=by
 have e:=aj0 (P:=P) (L:=L) b c d f;rw [iK,iK]
 cases D P L a s with
 | none=>rfl
 | some q=>
  obtain ⟨ex,st⟩:=q
  cases ex with
  | normal=>rw [fu,fu];exact e st
  | ret=>rfl
  | exit id=>rfl
def MW {a b:List Nat} (h:a=b):cA a b=true:=by
 subst h
 induction a with
 | nil=>rfl
 | cons x a ih=>simp [cA,ih]
def Sn {a b:List Nat} (h:a≠b):cA a b=false:=by
 cases hb:cA a b with
 | false=>rfl
 | true=>
  exact absurd (by
   clear h;revert b
   induction a with
   | nil=>intro b hb;cases b with | nil=>rfl | cons y b=>simp [cA] at hb
   | cons x a ih=>
    intro b hb
    cases b with
    | nil=>simp [cA] at hb
    | cons y b=>
     simp only [cA,yg] at hb
     rw [yp hb.1,ih hb.2]) h
def auy (h:Ck P L) {p q:List Nat} {ok found:Bool} (lp:p.length<=1000000000) (lq:q.length<=1000000000) (jq:ok=true->ef p=true/\(found=true->ef q=true)) {tm:Env} (t5:af tm 5= .str p) (t6:af tm 6= .str q) (t7:af tm 7= .bool found) (t8:af tm 8= .bool ok):
  fJ [.t 2] (D P L (ax (ax (ax (ax (ax fF.body))))) ⟨tm,[],0,0⟩)=some (aa (
   if ok=false then 1
   else if 600<p.length\/600<q.length then 4
   else if found=true/\wg (fY p) (fY q)≠1 then 1
   else 0)):=by
 have w1:=zY h.Dl (!ok) 1;have Qm:∀a b:Int,ae P L 125 [.aE true 2 [aa a,aa b]] (aa (bj [a,b])):=fun a b=>Nd.awb h.awe (fm true [a,b]) (by simp)
 cases ok with
 | false=>
  have f1:=Qm 1 0;have f2:=Qm 1 4;have w2:=zY h.Dl false 4;have w3:=zY h.Dl true 4;simp only [yF,y5,yD,yO] at w1 w2 w3;rw [show bj [1,0]=1 by decide] at f1;rw [show bj [1,4]=1 by decide] at f2;unfold ae at w1 w2 w3 f1 f2;by_cases h1:600<p.length
  ·simp only [go_sem,ya,yb,yt,ye,yh,fF,ax,show ¬(1:Int)=0 by decide,yF,t5,t8,yF,w1,show (600:Int)<(p.length:Int) by omega,yq,w3,f2,yo]
   simp
  ·by_cases h2:600<q.length
   ·simp only [go_sem,ya,yb,yt,ye,yh,fF,ax,show ¬(1:Int)=0 by decide,yF,t5,t6,t8,yF,w1,show ¬(600:Int)<(p.length:Int) by omega,show (600:Int)<(q.length:Int) by omega,yq,yo,w3,f2]
    simp
   ·simp only [go_sem,ya,yb,yt,ye,yh,fF,ax,show ¬(1:Int)=0 by decide,yF,t5,t6,t8,yF,w1,show ¬(600:Int)<(p.length:Int) by omega,show ¬(600:Int)<(q.length:Int) by omega,yo,w2,f1]
    simp
 | true=>
  obtain ⟨hp,hq⟩:=jq rfl;have f1:=Qm 0 0;have f2:=Qm 0 4;have w2:=zY h.Dl false 4;have w3:=zY h.Dl true 4;have w4:=zY h.Dl false 1;have w5:=zY h.Dl true 1;simp only [yH,y5,yD,yO] at w1 w2 w3 w4 w5;rw [show bj [0,0]=0 by decide] at f1;rw [show bj [0,4]=4 by decide] at f2;unfold ae at w1 w2 w3 w4 w5 f1 f2;rw [yB (by decide)];by_cases h1:600<p.length
  ·rw [yI (.inl h1)];simp only [go_sem,ya,yb,yt,ye,yh,fF,ax,show ¬(4:Int)=0 by decide,yF,t5,t8,yH,w1,show (600:Int)<(p.length:Int) by omega,yq,w3,f2,yo]
  ·by_cases h2:600<q.length
   ·rw [yI (.inr h2)];simp only [go_sem,ya,yb,yt,ye,yh,fF,ax,show ¬(4:Int)=0 by decide,yF,t5,t6,t8,yH,w1,show ¬(600:Int)<(p.length:Int) by omega,show (600:Int)<(q.length:Int) by omega,yq,yo,w3,f2]
   ·rw [yB (by omega)]
    cases found with
    | false=>
     rw [yB (by simp)];simp only [go_sem,ya,yb,yt,ye,yh,fF,ax,t5,t6,t7,t8,yH,w1,show ¬(600:Int)<(p.length:Int) by omega,show ¬(600:Int)<(q.length:Int) by omega,yq,yo,w2,f1]
    | true=>
     have qX:=Eg _ rfl hp;have ow:=Eg _ rfl (hq rfl);generalize fY p=n at*
     generalize fY q=d at*
     subst qX;subst ow;obtain ⟨M,hM⟩:∃M:Nat,M=2400:=⟨_,rfl⟩;have bd:∀{m:Nat},(aw m).length<=600->Bd M (m:Int):=fun {m} hm=>by
      have h1:=Iq m;have h2:=Ir (aw m).length;have h3:(2:Nat)^(4*(aw m).length)<=2^M:=xP (by decide) (by omega);unfold Bd;rw [wK];exact yN h1 (xj h2 h3)
     obtain ⟨x,e1,hx⟩:=J7 h.toTx (z:=(n:Int)) (by rw [kM];omega);obtain ⟨y,e2,hy⟩:=J7 h.toTx (z:=(d:Int)) (by rw [kM];omega);rw [kM] at e1 e2;have kn:=bd (m:=n) (by omega);have kd:=bd (m:=d) (by omega);obtain ⟨g,e3,hg⟩:=af7 h.toNu hx hy kn kd (by omega);obtain ⟨e4,BP⟩:=Di h.toNu (z:=1) (by decide) (by decide);have kg:Bd M ((Int.gcd (n:Int) (d:Int):Nat):Int):=by
      rcases Nat.eq_zero_or_pos d with h0 | h0
      ·subst h0;simpa using kn
      ·exact kd.le (by have:=Nat.gcd_le_right n h0;simpa using this)
     have e5:=af3 h.toNu hg BP (K:=M) kg (by unfold Bd;exact Nat.one_lt_two_pow (by omega)) (by omega)
     have awi:Int.gcd (n:Int) (d:Int)=wg n d:=rfl;rw [awi] at e5;obtain ⟨xs,xw,rfl,DQ⟩:=hx;obtain ⟨ys,yw,rfl,sL⟩:=hy;obtain ⟨gs,gw,rfl,DR⟩:=hg;obtain ⟨l1,u1⟩:=DQ.az;obtain ⟨l2,u2⟩:=sL.az;obtain ⟨l3,u3⟩:=DR.az;by_cases gU:wg n d=1
     ·rw [yB (by simp [gU])];have hs:cf (((wg n d:Nat):Int)-1)=0:=by rw [gU];rfl
      rw [hs] at e5;simp only [go_sem,ya,yb,yt,ye,yh,fF,ax,t5,t6,t7,t8,yH,w1,show ¬(600:Int)<((aw n).length:Int) by omega,show ¬(600:Int)<((aw d).length:Int) by omega,yq,yo,w2,f1,e1,e2,u1.ah,u2.ah,u3.ah,bl,aZ,e3,e4,e5]
     ·rw [yI ⟨rfl,gU⟩];obtain ⟨c,hc,lD⟩:∃c,cf (((wg n d:Nat):Int)-1)=c/\c≠0:=⟨_,rfl,fun e=>gU (by
       unfold cf at e
       split at e
       ·exact absurd e (by decide)
       ·split at e
        ·omega
        ·exact absurd e (by decide))⟩
      rw [hc] at e5;simp only [go_sem,ya,yb,yt,ye,yh,fF,ax,yF,t5,t6,t7,t8,yH,w1,show ¬(600:Int)<((aw n).length:Int) by omega,show ¬(600:Int)<((aw d).length:Int) by omega,yq,yo,w2,f1,e1,e2,u1.ah,u2.ah,u3.ah,bl,aZ,e3,e4,e5,lD,yF,w5]
def Qn (h:Ck P L) {s:List Nat} (hl:s.length<=1000000000):ae P L 86 [.str s] (aa (aY s)):=by
 have key:∀(neg:Bool) (t:List Nat),t.length<=1000000000->bO P L (D P L) 128 [.str s,.str [45]]=some (.ap [.str t,.bool neg])->ae P L 86 [.str s] (aa (zX neg t)):=by
  intro neg t hl e0;have e1:=awh h (t:=t) (by omega);obtain ⟨k,hk⟩:∃k,k=bS t:=⟨_,rfl⟩;have Xf:k<=t.length:=by rw [hk];exact HQ t
  have e2:=agh h (p:=t.take k) (by rw [yT];omega);have e3:=agh h (p:=t.drop (k+1)) (by rw [xS];omega);have lp:(t.take k).length=k:=by rw [yT];omega
  have lq:(t.drop (k+1)).length=t.length-k-1:=by rw [xS];omega
  unfold zX;rw [<-hk] at e1 ⊢;generalize hp:t.take k=p at*
  generalize hq:t.drop (k+1)=q at*
  obtain ⟨B7,rU⟩:∃ok:Bool,ok=(ef p&&(!neg|| !(cA p [48]))):=⟨_,rfl⟩;obtain ⟨ok,jq⟩:∃ok:Bool,ok=(B7&&(!(decide (k<t.length))||(ef q&&(!(cA q [48])&& !(cA q [49]))))):=⟨_,rfl⟩
  have OK:(if ef p=false\/(neg=true/\p=[48]) then 1
    else if k<t.length/\(ef q=false\/q=[48]\/q=[49]) then 1
    else if 600<k\/600<t.length-k-1 then 4
    else if k<t.length/\wg (fY p) (fY q)≠1 then 1 else 0:Int)=(if ok=false then 1
    else if 600<p.length\/600<q.length then 4
    else if decide (k<t.length)=true/\wg (fY p) (fY q)≠1 then 1
    else 0):=by
   rw [lp,lq];have a1:(ef p=false\/(neg=true/\p=[48]))↔B7=false:=by
    rw [rU];cases ef p<;>cases neg<;>simp
    by_cases e:p=[48]
    ·simp [e,MW]
    ·simp [e,Sn e]
   have a2:ok=false↔(B7=false\/(k<t.length/\(ef q=false\/q=[48]\/q=[49]))):=by
    rw [jq];by_cases hs:k<t.length
    ·simp only [hs,yq,yH,vl,ux];cases B7<;>cases ef q<;>simp
     by_cases e:q=[48]
     ·simp [e,MW]
     ·by_cases e':q=[49]
      ·simp [e',MW]
      ·simp [e,e',Sn e,Sn e']
    ·simp [hs]
   by_cases h1:B7=false
   ·rw [yI (a1.2 h1),yI (a2.2 (.inl h1))]
   ·rw [yB (fun e=>h1 (a1.1 e))];by_cases h2:k<t.length/\(ef q=false\/q=[48]\/q=[49])
    ·rw [yI h2,yI (a2.2 (.inr h2))]
    ·rw [yB h2,yB (fun e=>(a2.1 e).elim h1 h2)];simp only [wP]
  rw [OK];have awj:ok=true->ef p=true/\(decide (k<t.length)=true->ef q=true):=fun e=>by
   rw [jq,yg] at e;obtain ⟨e1,e2⟩:=e;rw [rU,yg] at e1;refine ⟨e1.1,fun hs=>?_⟩;rw [hs,yH,vl,yg] at e2;exact e2.1
  have tail:∀tm,af tm 5= .str p->af tm 6= .str q->af tm 7= .bool (decide (k<t.length))->af tm 8= .bool ok->fJ [.t 2] (D P L (ax (ax (ax (ax (ax fF.body))))) ⟨tm,[],0,0⟩)=_:=fun tm t5 t6 t7 t8=>
   auy h (by omega) (by omega) awj t5 t6 t7 t8
  have mid:∀tm,af tm 5= .str p->af tm 6= .str q->af tm 7= .bool (decide (k<t.length))->af tm 8= .bool B7->
    ∃tm',D P L (bC (ax (ax (ax (ax fF.body))))) ⟨tm,[],0,0⟩=some (.normal,⟨tm',[],0,0⟩)/\af tm' 5= .str p/\af tm' 6= .str q/\af tm' 7= .bool (decide (k<t.length))/\af tm' 8= .bool ok:=fun tm t5 t6 t7 t8=>by
   unfold ae at e3;by_cases hs:k<t.length
   ·rw [xh hs] at t7 jq ⊢;simp only [yH,vl] at jq
    cases B7 with
    | false=>
     rw [wr] at jq;subst jq;refine ⟨_,by simp only [go_sem,ya,fF,bC,ax,t7,t8]<;>rfl,?_⟩
     simp only [go_sem,ya,t5,t6,t7,ux]
    | true=>
     rw [wA] at jq
     cases hd:ef q with
     | false=>
      rw [hd] at e3 jq;rw [wr] at jq;subst jq;refine ⟨_,by simp only [go_sem,ya,fF,bC,ax,t6,t7,t8,e3]<;>rfl,?_⟩
      simp only [go_sem,ya,t5,t6,t7,ux]
     | true=>
      rw [hd] at e3 jq;rw [wA] at jq
      cases jD:cA q [48] with
      | true=>
       rw [jD,yH,wr] at jq;subst jq;refine ⟨_,by simp only [go_sem,ya,fF,bC,ax,t6,t7,t8,e3,sZ,jD,yH]<;>rfl,?_⟩
       simp only [go_sem,ya,t5,t6,t7,ux]
      | false=>
       rw [jD,yF,wA] at jq;subst jq;refine ⟨_,by simp only [go_sem,ya,fF,bC,ax,t6,t7,t8,e3,sZ,jD,yF]<;>rfl,?_⟩
       simp only [go_sem,ya,t5,t6,t7,ux]
   ·rw [yR hs] at t7 jq ⊢;simp only [yF,uO,Bool.and_true] at jq;subst jq;refine ⟨_,by simp only [go_sem,fF,bC,ax,t7]<;>rfl,?_⟩
    simp only [go_sem,ya,t5,t6,t7,t8,ux]
  have fin:∀tm,af tm 5= .str p->af tm 6= .str q->af tm 7= .bool (decide (k<t.length))->af tm 8= .bool B7->
    D P L (.seq (bC fF.body) (.seq (bC (ax fF.body)) (.seq (bC (ax (ax fF.body))) (bC (ax (ax (ax fF.body))))))) ⟨[(0,.str s)],[],0,0⟩=some (.normal,⟨tm,[],0,0⟩)->ae P L 86 [.str s] _:=fun tm t5 t6 t7 t8 e=>by
   obtain ⟨tm',e',f5,f6,f7,f8⟩:=mid tm t5 t6 t7 t8;unfold ae;rw [av h.h86];show fJ [.t 2] (D P L (.seq (bC fF.body) (.seq (bC (ax fF.body)) (.seq (bC (ax (ax fF.body))) (.seq (bC (ax (ax (ax fF.body)))) (.seq (bC (ax (ax (ax (ax fF.body))))) (ax (ax (ax (ax (ax fF.body)))))))))) ⟨[(0,.str s)],[],0,0⟩)=_
   rw [alN,e,fu,iK,e',fu];exact tail tm' f5 f6 f7 f8
  unfold ae at e2
  cases hd:ef p with
  | false=>
   rw [hd] at e2 rU;rw [wr] at rU;subst rU;refine fin _ ?_ ?_ ?_ ?_ (by simp only [go_sem,ya,fF,bC,ax,e0,e1,e2]<;>rfl)<;>simp only [go_sem,ya]
  | true=>
   rw [hd] at e2 rU
   cases neg with
   | false=>
    simp only [yF,uO] at rU;subst rU;refine fin _ ?_ ?_ ?_ ?_ (by simp only [go_sem,ya,fF,bC,ax,e0,e1,e2,yF]<;>rfl)<;>simp only [go_sem,ya]
   | true=>
    simp only [yH,vl] at rU;subst rU;refine fin _ ?_ ?_ ?_ ?_ (by simp only [go_sem,ya,fF,bC,ax,e0,e1,e2,yH,sZ]<;>rfl)<;>simp only [go_sem,ya]
 unfold aY;have e0:=awg h s
 cases s with
 | nil=>exact key false [] (by simp) e0
 | cons b r=>
  by_cases hb:b=45
  ·subst hb;exact key true r (by simp at hl;omega) e0
  ·simp only [hb,yO];rw [yB (by simpa using hb)] at e0;exact key false (b::r) hl e0
end
end
section
open Go (IntKind)
def LN (z:Int):Bool:=decide (600<(aw z.natAbs).length)
def LG (r:Rat):Bool:=LN r.num||LN (r.den:Int)
def aj1 {m B k:Nat} (hB:B<=3*k) (hk:0<k) (h:m<2^B):(aw m).length<=k:=by
 obtain ⟨j,rfl⟩:∃j,k=j+1:=⟨k-1,by omega⟩;refine p9 (yN h (xj (xP (by decide) hB) ?_));rw [tF];exact uH (by decide) _
def So:∀f n:Nat,eS f n<=f
 | 0,_=>yC _
 | f+1,n=>by
  unfold eS
  cases yu n 0 with
  | true=>exact Nat.zero_le _
  | false=>have:=So f (n/2);simp only [yA];omega
def asQ {P:aG} {L:Lib} {f:cK} (h:L.pure 175=some Ix) {x:Nat} (hx:x<18446744073709551616):bO P L f 175 [uc x]=some (aa (eS 64 x:Nat)):=by
 rw [js h];show (bif yK x 18446744073709551616 then _ else none)=_
 rw [jM hx];rfl
def aqg {V n top low:Nat} (hn:0<n) (h0:0<top) (ht:top<18446744073709551616) (hV:V=low+18446744073709551616^(n-1)*top) (hl:low<18446744073709551616^(n-1)):V<2^(64*(n-1)+eS 64 top):=by
 obtain ⟨l1,l2,l3⟩:=R0 h0 ht;have hle:=So 64 top;have h1:top<2^eS 64 top:=by
  have e:(18446744073709551616:Nat)=2^eS 64 top*2^(64-eS 64 top):=by rw [<-wC,show eS 64 top+(64-eS 64 top)=64 by omega]
  rw [e] at l3;exact Nat.lt_of_mul_lt_mul_right l3
 have h3:=Nat.mul_le_mul_left (18446744073709551616^(n-1)) (show top+1<=2^eS 64 top from h1);rw [wC,tF]
 grind
section
variable {P:aG} {L:Lib}
def awk (h:Tx P L) {v:AV} {z:Int} {K:Nat} (hv:cL v z) (hz:Bd K z) (hK:K<=4000000000):∃B:Nat,ae P L 172 [v] (aa B)/\z.natAbs<2^B/\B<=300000000000:=by
 obtain ⟨s,w,rfl,hn⟩:=hv;obtain ⟨l,u⟩:=hn.az;obtain ⟨r,e1,hr⟩:=zU h.toNu hn;obtain ⟨ws,hw,g,nz',hb⟩:=hr;have hl:ws.length<=4000000000:=xj (nR nz' hb (yN hz (zm K))) hK;unfold ae at e1 ⊢;by_cases h0:ws=[]
 ·subst h0;have mb:z.natAbs=0:=by rw [<-hb];rfl
  refine ⟨0,?_,by rw [mb];decide,by omega⟩
  rw [av h.aga];simp only [go_sem,ya,yb,Og,aB,bZ,aZ,u.pu,u.ah,u.one,e1,hw.len,yE,show ((0:Nat):Int)=0 from rfl,yq]
 ·have hp:0<ws.length:=List.length_pos_iff.2 h0;have Bk:=Mr nz' h0;have DI:=gP (show 0<18446744073709551616 by decide) g (ws.length-1);have ei:=hw.bk (i:=ws.length-1) (by omega);have eF:=jv (b:=18446744073709551616) (l:=ws) (ws.length-1);have J8:=mz (A0 g (ws.length-1));rw [yT,Nat.min_eq_left (by omega)] at J8;rw [show ws.length-1+1=ws.length by omega,yM (yC _)] at eF;generalize ws.getD (ws.length-1) 0=top at*
  have e2:=asQ (P:=P) (f:=D P L) h.av3 DI;have hle:=So 64 top;have aff:=aqg hp (Nat.pos_of_ne_zero Bk) DI eF J8;rw [hb] at aff;refine ⟨64*(ws.length-1)+eS 64 top,?_,aff,by omega⟩;rw [av h.aga]
  simp only [go_sem,ya,yb,Og,aB,bZ,aZ,u.pu,u.ah,u.one,e1,hw.len,show ¬(ws.length:Int)=0 by omega,show (ws.length:Int)-1=((ws.length-1:Nat):Int) by omega,wrapN (n:=ws.length-1) (by omega),show (64:Int)*((ws.length-1:Nat):Int)=((64*(ws.length-1):Nat):Int) by omega,wrapN (n:=64*(ws.length-1)) (by omega),ei,e2,show ((64*(ws.length-1):Nat):Int)+((eS 64 top:Nat):Int)=((64*(ws.length-1)+eS 64 top:Nat):Int) from rfl,wrapN (n:=64*(ws.length-1)+eS 64 top) (by omega)]
def alO (z:Int):(if gR [45] (bh z)=true then (bh z).drop 1 else bh z)=aw z.natAbs:=by
 by_cases h:z<0
 ·rw [mR h];rfl
 ·obtain ⟨m,rfl⟩:∃m:Nat,z=m:=⟨z.toNat,by omega⟩;rw [kM];obtain ⟨b,r,hb,h1,_⟩:=Ef m;rw [wK,hb,Rz h1];rfl
def agi (h:Tx P L) {v:AV} {z:Int} {K:Nat} (hv:cL v z) (hz:Bd K z) (hK:K<=4000000000):ae P L 151 [v] (.bool (LN z)):=by
 obtain ⟨B,e1,hB,hBb⟩:=awk h hv hz hK;have e2:=WW h hv hz hK;obtain ⟨s,w,rfl,hn⟩:=hv;obtain ⟨l,u⟩:=hn.az;have e3:bO P L (D P L) 153 [.str (bh z),.str [45]]=some (.str (aw z.natAbs)):=by
  rw [js h.UJ,<-alO];show some (AV.str (bif gR [45] (bh z) then (bh z).drop 1 else bh z))=_
  cases gR [45] (bh z)<;>rfl
 unfold ae at e1 e2 ⊢;rw [av h.av4];unfold LN;by_cases h1:1800<B
 ·simp only [go_sem,ya,yb,Oc,aB,bZ,aZ,u.pu,u.ah,u.one,e1,show (1800:Int)<(B:Int) by omega,yq,e2,e3];by_cases h2:600<(aw z.natAbs).length
  ·rw [xh h2,xh (by omega)]
  ·rw [yR h2,yR (by omega)]
 ·have h2:=aj1 (k:=600) (by omega) (by decide) hB;rw [yR (by omega)];simp only [go_sem,ya,yb,Oc,aB,bZ,aZ,u.pu,u.ah,u.one,e1,show ¬(1800:Int)<(B:Int) by omega,yo]
def OW (h:Tx P L) {v:AV} {a:Rat} {K:Nat} (hv:cE v a) (ka:Hq K a) (hK:K<=4000000000):ae P L 107 [v] (.bool (LG a)):=by
 obtain ⟨s1,w1,s2,w2,rfl,h1,h2⟩:=hv;have e1:=agi h ⟨s1,w1,rfl,h1⟩ ka.1 hK;have e2:=agi h ⟨s2,w2,rfl,h2⟩ ka.2 hK;obtain ⟨l1,u1⟩:=h1.az;obtain ⟨l2,u2⟩:=h2.az;unfold ae at e1 e2 ⊢;rw [av h.av5];unfold LG
 cases hb:LN a.num with
 | true=>
  rw [hb] at e1;simp only [go_sem,ya,yb,N4,aB,aV,yd,bZ,aZ,u1.pu,u1.ah,u1.one,u2.pu,u2.one,e1];rfl
 | false=>
  rw [hb] at e1;simp only [go_sem,ya,yb,N4,aB,aV,yd,show List.drop 2 [aa s1,w1,aa s2,w2]=[aa s2,w2] from rfl,bZ,aZ,u1.pu,u1.ah,u1.one,u2.pu,u2.ah,u2.one,e1,e2];rfl
end
end
end VE
