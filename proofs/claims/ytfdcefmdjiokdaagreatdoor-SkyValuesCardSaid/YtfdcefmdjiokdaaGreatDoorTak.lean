import Ieee.Arith
import Derived.Test.YtfdcefmdjiokdaaGreatDoorTai
import Derived.Test.YtfdcefmdjiokdaaGreatDoorTad
import Derived.Test.YtfdcefmdjiokdaaGreatDoorTah
import Derived.Test.YtfdcefmdjiokdaaGreatDoorTaf
set_option linter.all false
set_option maxRecDepth 100000
open Bool renaming and_eq_true→yg,and_self→wQ,and_true→vn,false_and→wN,false_eq_true→yD,false_or→uj,not_false→yP,not_true→yQ,true_and→wP,true_eq_false→yaY,true_or→tZ,xor_false→ybJ
open Go renaming DataW→xM,Field→uZ,FloatKind→vZ,IntKind→y8,MemPlace→wB,Program→y7,TypeId→yF,Value→yh,World→yi
open Int renaming add_zero→ycx,gcd→wR,le_of_lt→uQ,lt_trichotomy→ud,mul_add→ycL,mul_le_mul→ybX,mul_le_mul_of_nonneg_left→vY,mul_nonneg→tg,natAbs_ediv_of_dvd→uz,natAbs_natCast→xq,natCast_add→ybH,natCast_mul→wY,natCast_nonneg→tY,neg_neg→tV,ofNat_eq_natCast→yaQ,ofNat_lt→uP,pow_pos→ycM,pow_succ→tG,tdiv_eq_ediv_of_nonneg→xL,tmod_eq_emod_of_nonneg→xh,toNat_natCast→wh,toNat_of_nonneg→yaX
open Int.ofNat renaming inj→tQ
open List renaming append_assoc→xr,append_nil→xW,cons_append→yY,drop→vH,drop_drop→vN,drop_eq_getElem_cons→yO,drop_eq_nil_of_le→y5,drop_left→td,drop_left'→tr,drop_zero→yp,eq_nil_of_length_eq_zero→yJ,flatMap_def→ybu,getD_eq_getElem?_getD→xz,getElem?_eq_getElem→xV,getElem_cons_zero→vV,length_append→yR,length_cons→yv,length_drop→xN,length_map→xo,length_nil→yI,length_pos_iff→vL,length_take→yT,mapM_cons→um,map_append→xu,map_cons→xj,map_nil→wL,mem_cons→wA,mem_cons_of_mem→vl,mem_cons_self→ub,mem_map→uH,nil_append→xX,range→xF,range_succ→uI,replicate→yC,reverse_cons→yaa,set_eq_of_length_le→yak,take_append_drop→wa,take_left→tc,take_length→xH,take_of_length_le→yN,take_set→yam
open List.cons renaming injEq→tC
open Nat renaming add_assoc→uG,add_comm→tf,add_mul→we,add_zero→yW,beq→yt,beq_refl→xG,ble→yG,ble_eq_true_of_le→yy,blt→yK,div_add_mod→wb,div_eq_of_lt→xO,div_lt_iff_lt_mul→wu,eq_of_beq_eq_true→yk,eq_zero_or_pos→xn,gcd→wz,gcd_comm→tv,le_log2→ycK,le_mul_of_pos_left→yaw,le_mul_of_pos_right→yau,le_of_ble_eq_true→yr,le_of_lt_succ→yah,le_refl→yz,le_trans→xg,log2→ybW,log2_lt→yaP,lt_of_lt_of_le→yA,lt_trans→ycz,min_eq_left→xD,mod_add_div→uB,mod_eq_of_lt→yL,mod_lt→xE,mul_add→xC,mul_add_div→yaG,mul_add_mod→yaH,mul_assoc→xm,mul_comm→xA,mul_div_cancel→tB,mul_le_mul→wK,mul_le_mul_left→yU,mul_le_mul_right→yS,mul_lt_mul''→tp,mul_lt_mul_of_pos_right→xZ,mul_mod_left→ybz,mul_one→yj,mul_pos→vS,mul_zero→xx,ne_of_gt→ue,one_lt_two_pow→wD,pow_add→xP,pow_le_pow_left→vm,pow_le_pow_right→yV,pow_lt_pow_iff_right→yao,pow_mul→tU,pow_pos→yax,pow_succ→y9,reduceAdd→yc,reduceEqDiff→ya,reduceLT→yE,reduceLeDiff→ym,reduceMul→xK,shiftLeft_eq→tO,succ_mul→ycy,two_pow_pos→xt,zero_add→yf,zero_le→tu,zero_mul→wU
open Option renaming bind_eq_bind→vG,bind_some→xY,map_eq_some_iff→wC,pure_def→wM
open Option.some renaming injEq→yd
open Prod.mk renaming injEq→yo
open Rat renaming divInt→wy,intCast_neg→ybK,lt_irrefl→uo,mul_assoc→wm,mul_comm→ybI,mul_lt_mul_right→wv,mul_one→wE,natCast_mul→xS
namespace VE
open Go (IntKind)
def aik:∀(cs:List AV) (l:List Nat),q8 cs=some l->cs=l.map uc/\lo 18446744073709551616 l:=by
 intro cs
 induction cs with
 | nil=>
  intro l h;simp only [q8,yd] at h;subst h;exact ⟨rfl,fun _ h=>by cases h⟩
 | cons c cs ih=>
  intro l h;unfold q8 at h
  split at h
  ·grind
  ·rename_i d r n8;cases n8
   cases hb:yK d 18446744073709551616 with
   | false=>rw [hb] at h;cases h
   | true=>
    rw [hb] at h
    cases hw:q8 cs with
    | none=>rw [hw] at h;cases h
    | some l'=>
     rw [hw] at h;cases h;obtain ⟨k1,k2⟩:=ih l' hw;refine ⟨by rw [k1];rfl,fun x hx=>?_⟩
     rcases wA.1 hx with rfl | hx
     ·simp_all
     ·exact k2 x hx
  ·cases h
def Yx:∀{l:List Nat},AU l=true->gI l
 | [],h=>by cases h
 | [a],h=>by
  have h0:a≠0:=fun e=>by subst e;cases h
  exact DU h0 []
 | a::b::r,h=>by
  have h1:dT (b::r)=b::r:=Yx (l:=b::r) h;show dT (a::(b::r))=_
  simp only [dT] at h1 ⊢;rw [h1]
section
variable {P:aG} {L:Lib}
def aoK (h:Has P L 99 Dr) (TX:L.pure 135=some IN) {s:Int} (hs:AR s=true):bF P L (D P L) 99 [.agg [aa s,.af]]=some (.str (aT s)):=by
 have e1:bF P L (D P L) 135 [aa s]=some (.str (aT s)):=by
  rw [iA TX];show (bif AR s then some (AV.str (aT s)) else none)=_
  rw [hs];rfl
 rw [aA h];simp only [go_sem,ya,yc,Dr,aO,bq,yf,cm,gF,eb,e1]
end
section
open Go
variable {O:br}
def aj5 (hO:gN O) (hN:Nu O.prog O.aX) (TX:O.aX.pure 135=some IN) (C6:O.aX.pure 138=some Ac) (zD:O.aX.pure 139=some At) (FX:Has O.prog O.aX 99 Dr) {fn:Func} {c:Code} (kY:O.P.funcs[O.ae 99]? =some fn) (jl:fn.body=some c) (OC:fn.ntmps=69)
  (TU:Od 5 c) (ht:Ri O.P c):∀vals r,Ml vals=some r->ep O 99 vals r:=by
 intro vals r h;unfold Ml at h
 split at h
 ·rename_i s
  cases hs:AR s with
  | false=>rw [hs] at h;cases h
  | true=>
   rw [hs] at h;cases h;obtain ⟨k,hk⟩:=aaO (aoK (P:=O.prog) (L:=O.aX) FX TX hs);exact sound hO hk
 ·rename_i s e n cs
  cases hw:q8 cs with
  | none=>rw [hw] at h;cases h
  | some l=>
   rw [hw] at h;simp only at h
   cases hb:(yt l.length n&&(yG n 4000000000&&(AU l&&yG 9223372036854775808 (rH l)))) with
   | false=>rw [hb] at h;cases h
   | true=>
    rw [hb] at h;simp only [yg] at hb;obtain ⟨h1,h2,h3,h4⟩:=hb;obtain ⟨rfl,aZ⟩:=aik cs l hw;have h1:=yk h1;subst h1;have h2:=yr h2;have h4:=yr h4;have h3:=Yx h3;rw [Rg] at h4 h;have aP:=lD aZ;have key:=fun (s z:Int) (hz:z.natAbs=bv 18446744073709551616 l) (hs:s=if z<0 then -1 else 1)=>
     amn hO hN C6 zD FX.code kY jl OC TU ht (s:=s) (z:=z) (e:=e) (l:=l) (.inr ⟨e,l,rfl,aZ,h3,hz.symm,hs,by omega⟩) (by omega) h2 (by omega)
    split at h
    ·cases h
     have:=key 1 (bv 18446744073709551616 l:Nat) (by simp) (by rw [yB (by omega)])
     exact this
    ·cases h
     have:=key (-1) (-(bv 18446744073709551616 l:Nat):Int) (by simp) (by rw [yM (by omega)])
     rw [lW (by omega)] at this
     grind
    ·cases h
 ·cases h
end
section
open Go
def R0 (L:Lib) (n:Nat) (sp:List AV->Option AV):Lib:=⟨fun i=>bif yt i n then some sp else L.pure i,L.heap⟩
def aj6 {O:br} (hO:gN O) {n:Nat} {sp:List AV->Option AV} (h:∀vals r,sp vals=some r->ep O n vals r):gN (O.sS (R0 O.aX n sp)) where
 hint:=hO.hint
 mixed:=hO.mixed
 prog:=hO.prog
 aX i ON vals r hi hs:=by
  show ep O i vals r
  simp only [R0] at hi
  cases hb:yt i n with
  | true=>
   simp_all
  | false=>
   rw [hb] at hi;exact hO.aX i ON vals r hi hs
 EM i ON hp ct vals v ao aW hi hs:=Yi (hO.EM i ON hp ct vals v ao aW hi hs)
end
section
open Go
section
variable {H:Type} {enc:yF×yh->H} {P:y7} {w:yi} {base:Nat} {sp:Nat->Bool} {held:Bool}
def mapM_mem {α β:Type} {f:α->Option β}:∀{l:List α} {r:List β},l.mapM f=some r->∀y,y∈r->∃x,f x=some y
 | [],r,h,y,hy=>by simp only [List.mapM_nil,wM,yd] at h;subst h;cases hy
 | x::l,r,h,y,hy=>by
  rw [um] at h
  cases h1:f x with
  | none=>simp [h1] at h
  | some z=>
   cases h2:l.mapM f with
   | none=>simp [h1,h2] at h
   | some zs=>
    simp only [h1,h2,xY,vG,wM,yd] at h;subst h;rcases wA.1 hy with rfl | hy
    ·exact ⟨x,h1⟩
    ·exact mapM_mem h2 y hy
def Rd (enc:yF×yh->H) (P:y7) (w:yi) (base:Nat) (sp:Nat->Bool) (held:Bool) (t:yF) (d:xM H):Prop:=∃bi cs ps,DataW.trod enc P w base sp held bi t cs=some (d,ps)
def ark {t:yF} {k:y8} {d:xM H} {n:Nat} (ht:P.underlying t=some (.int k)) (h:Rd enc P w base sp held t d):∃z,cO P (n+1) t d=[.int k z]/\(Lit.int k z).wf=true:=by
 obtain ⟨bi,cs,ps,h⟩:=h
 cases bi with
 | zero=>simp [DataW.trod] at h
 | succ bi=>
  unfold DataW.trod at h
  split at h
  all_goals first
   | (rename_i hu;rw [ht] at hu;cases hu;done)
   | skip
  ·rename_i k1 k2 z hu;rw [ht] at hu;injection hu with hu
   injection hu with hu
   subst hu
   split at h
   ·rename_i hk;simp only [yd,yo] at h;obtain ⟨rfl,rfl⟩:=h;exact ⟨z,by simp only [cO,ht],hk.2⟩
   ·cases h
  all_goals (cases h;done)
def amr {t e:yF} {d:xM H} {n:Nat} (ht:P.underlying t=some (.slice e)) (h:Rd enc P w base sp held t d):
  cO P (n+1) t d=[.af]\/∃(x:Bool) (jL:List (xM H)),cO P (n+1) t d=[.aC x jL.length (jL.flatMap fun y=>cO P n e y)]/\∀y,y∈jL->Rd enc P w base sp held e y:=by
 obtain ⟨bi,cs,ps,h⟩:=h
 cases bi with
 | zero=>simp [DataW.trod] at h
 | succ bi=>
  unfold DataW.trod at h
  split at h
  all_goals first
   | (rename_i hu;rw [ht] at hu;cases hu;done)
   | skip
  ·simp only [yd,yo] at h;obtain ⟨rfl,rfl⟩:=h;exact .inl (by simp only [cO,ht])
  ·rename_i e' a len cap hu;rw [ht] at hu;injection hu with hu
   injection hu with hu
   subst hu;simp only at h
   split at h
   case isFalse=>cases h
   cases h1:(xF len).mapM fun i=>(w.cells? base (a.add (i*P.cellsOf e)) (P.cellsOf e)).bind (DataW.trod enc P w base sp held bi e) with
   | none=>rw [h1] at h;simp at h
   | some jL=>
    rw [h1] at h;simp only [xY] at h;obtain ⟨rest,_,h⟩:=wC.1 h;simp only [yo] at h;obtain ⟨rfl,rfl⟩:=h;refine .inr ⟨(rest.map (·.1)).isEmpty,jL.map (·.1),by simp only [cO,ht,xo],?_⟩;intro y hy;obtain ⟨p,hp,rfl⟩:=uH.1 hy;obtain ⟨i,hi⟩:=mapM_mem h1 p hp;obtain ⟨dE,_,qg⟩:=Option.bind_eq_some_iff.1 hi;exact ⟨bi,dE,p.2,qg⟩
  all_goals (cases h;done)
def aj7 {t:yF} {fs:Array uZ} {d:xM H} {n:Nat} (ht:P.underlying t=some (.struct fs)) (h:Rd enc P w base sp held t d):
  ∃ds:List (xM H),ds.length=fs.toList.length/\cO P (n+1) t d=(fs.toList.zip ds).flatMap (fun x=>cO P n x.1.type x.2)/\∀i (h1:i<fs.toList.length) (h2:i<ds.length),Rd enc P w base sp held fs.toList[i].type ds[i]:=by
 obtain ⟨bi,cs,ps,h⟩:=h
 cases bi with
 | zero=>simp [DataW.trod] at h
 | succ bi=>
  unfold DataW.trod at h
  split at h
  all_goals first
   | (rename_i hu;rw [ht] at hu;cases hu;done)
   | (cases h;done)
   | skip
  rename_i cs x1 Ko fs' hu;rw [ht] at hu;injection hu with hu
  injection hu with hu
  subst hu
  split at h
  case isFalse=>cases h
  obtain ⟨xs,h1,h⟩:=wC.1 h;simp only [yo] at h;obtain ⟨rfl,rfl⟩:=h;refine ⟨xs.map (·.1),by simp [Ly h1],by simp only [cO,ht],?_⟩;have key:∀{r:List uZ} {xs:List (xM H×List wB)},r.mapM (fun f=>DataW.trod enc P w base sp held bi f.type ((cs.drop f.offset).take (P.cellsOf f.type)))=some xs->
    ∀i (h1:i<r.length) (h2:i<(xs.map (·.1)).length),Rd enc P w base sp held r[i].type (xs.map (·.1))[i]:=by
   intro r
   induction r with
   | nil=>intro xs h i h1;exact absurd h1 (Nat.not_lt_zero i)
   | cons f r ih=>
    intro xs h i h1 h2;rw [um] at h
    cases g1:DataW.trod enc P w base sp held bi f.type ((cs.drop f.offset).take (P.cellsOf f.type)) with
    | none=>simp [g1] at h
    | some x=>
     cases g2:r.mapM (fun f=>DataW.trod enc P w base sp held bi f.type ((cs.drop f.offset).take (P.cellsOf f.type))) with
     | none=>simp [g1,g2] at h
     | some ys=>
      simp only [g1,g2,xY,vG,wM,yd] at h;subst h
      cases i with
      | zero=>exact ⟨bi,_,x.2,g1⟩
      | succ i=>exact ih g2 i (by simpa using h1) (by simpa using h2)
  exact key h1
def ams {t e:yF} {k:Nat} {d:xM H} {n:Nat} (ht:P.underlying t=some (.array k e)) (h:Rd enc P w base sp held t d):
  ∃ds:List (xM H),ds.length=k/\cO P (n+1) t d=ds.flatMap (fun x=>cO P n e x)/\∀y,y∈ds->Rd enc P w base sp held e y:=by
 obtain ⟨bi,cs,ps,h⟩:=h
 cases bi with
 | zero=>simp [DataW.trod] at h
 | succ bi=>
  unfold DataW.trod at h
  split at h
  all_goals first
   | (rename_i hu;rw [ht] at hu;cases hu;done)
   | (cases h;done)
   | skip
  rename_i cs x1 Ko k' e' hu;rw [ht] at hu;injection hu with hu
  injection hu with qu zP
  subst qu;subst zP
  split at h
  case isFalse=>cases h
  obtain ⟨xs,h1,h⟩:=wC.1 h;simp only [yo] at h;obtain ⟨rfl,rfl⟩:=h;refine ⟨xs.map (·.1),by simp [Ly h1],by simp only [cO,ht],fun y hy=>?_⟩;obtain ⟨p,hp,rfl⟩:=uH.1 hy;obtain ⟨i,hi⟩:=mapM_mem h1 p hp;exact ⟨bi,_,p.2,hi⟩
end
end
section
open Go
inductive Ty
 | int (k:y8)
 | aB (k:vZ)
 | bool
 | str
 | sl (e:Ty)
 | nil
 | cat (a b:Ty)
 | ar (n:Nat) (e:Ty)
def lT:Ty->List AV->Prop
 | .int k,l=>∃z,l=[.int k z]/\(Lit.int k z).wf=true
 | .aB k,l=>∃b,l=[.aB k b]/\(Lit.float k b).wf=true
 | .bool,l=>∃b,l=[.bool b]
 | .str,l=>∃s:List Nat,l=[.str s]/\s.length<9223372036854775808/\∀c,c∈s->c<256
 | .sl e,l=>l=[.af]\/∃(x:Bool) (ps:List (List AV)),l=[.aC x ps.length ps.flatten]/\∀p,p∈ps->lT e p
 | .nil,l=>l=[]
 | .cat a b,l=>∃x y,l=x++y/\lT a x/\lT b y
 | .ar n e,l=>∃ps:List (List AV),ps.length=n/\l=ps.flatten/\∀p,p∈ps->lT e p
def mS:List (Option Ty)->Option Ty
 | []=>some .nil
 | some a::r=>match mS r with
  | some b=>some (.cat a b)
  | none=>none
 | none::_=>none
def gj (P:y7):Nat->yF->Option Ty
 | 0,_=>none
 | n+1,t=>
  match P.underlying t with
  | some .bool=>some .bool
  | some (.int k)=>some (.int k)
  | some (.float k)=>some (.aB k)
  | some .string=>some .str
  | some (.slice e)=>(gj P n e).map .sl
  | some (.struct fs)=>mS (fs.toList.map fun f=>gj P n f.type)
  | some (.array k e)=>(gj P n e).map (.ar k)
  | _=>none
section
variable {H:Type} {enc:yF×yh->H} {P:y7} {w:yi} {base:Nat} {sp:Nat->Bool} {held:Bool}
def arl {t:yF} {k:vZ} {d:xM H} {n:Nat} (ht:P.underlying t=some (.float k)) (h:Rd enc P w base sp held t d):∃b,cO P (n+1) t d=[.aB k b]/\(Lit.float k b).wf=true:=by
 obtain ⟨bi,cs,ps,h⟩:=h
 cases bi with
 | zero=>simp [DataW.trod] at h
 | succ bi=>
  unfold DataW.trod at h
  split at h
  all_goals first
   | (rename_i hu;rw [ht] at hu;cases hu;done)
   | skip
  ·rename_i k1 k2 z hu;rw [ht] at hu;injection hu with hu
   injection hu with hu
   subst hu
   split at h
   ·rename_i hw;simp only [yd,yo] at h;obtain ⟨rfl,rfl⟩:=h;exact ⟨z,by simp only [cO,ht],hw.2⟩
   ·cases h
  all_goals (cases h;done)
def aoL {t:yF} {d:xM H} {n:Nat} (ht:P.underlying t=some .bool) (h:Rd enc P w base sp held t d):∃b,cO P (n+1) t d=[.bool b]:=by
 obtain ⟨bi,cs,ps,h⟩:=h
 cases bi with
 | zero=>simp [DataW.trod] at h
 | succ bi=>
  unfold DataW.trod at h
  split at h
  all_goals first
   | (rename_i hu;rw [ht] at hu;cases hu;done)
   | skip
  ·simp only [yd,yo] at h;obtain ⟨rfl,rfl⟩:=h;rename_i b _;exact ⟨b,by simp only [cO,ht]⟩
  all_goals (cases h;done)
def arm {t:yF} {d:xM H} {n:Nat} (ht:P.underlying t=some .string) (h:Rd enc P w base sp held t d):
  ∃s:List Nat,cO P (n+1) t d=[.str s]/\s.length<9223372036854775808/\∀c,c∈s->c<256:=by
 obtain ⟨bi,cs,ps,h⟩:=h
 cases bi with
 | zero=>simp [DataW.trod] at h
 | succ bi=>
  unfold DataW.trod at h
  split at h
  all_goals first
   | (rename_i hu;rw [ht] at hu;cases hu;done)
   | skip
  ·rename_i s hu
   split at h
   ·rename_i hs;simp only [yd,yo] at h;obtain ⟨rfl,rfl⟩:=h;refine ⟨_,by simp only [cO,ht];rfl,?_,fun c hc=>?_⟩
    ·simp only [xo,Array.length_toList];have h1:s.size<=9223372036854775807:=hs;have h2:s.data.size=s.size:=rfl;omega
    ·obtain ⟨b,_,rfl⟩:=uH.1 hc;exact b.toNat_lt
   ·cases h
  all_goals (cases h;done)
def XK {n:Nat} (ih:∀{t:yF} {T:Ty} {d:xM H},gj P n t=some T->Rd enc P w base sp held t d->lT T (cO P n t d)):
  ∀(fs:List uZ) (ds:List (xM H)) (T:Ty),mS (fs.map fun f=>gj P n f.type)=some T->ds.length=fs.length->(∀i (h1:i<fs.length) (h2:i<ds.length),Rd enc P w base sp held fs[i].type ds[i])->
   lT T ((fs.zip ds).flatMap fun x=>cO P n x.1.type x.2)
 | [],ds,T,hT,_,_=>by
  simp only [wL,mS,yd] at hT;subst hT;simp [lT]
 | f::fs,[],T,_,hl,_=>by simp at hl
 | f::fs,d::ds,T,hT,hl,hr=>by
  simp only [xj] at hT
  cases h1:gj P n f.type with
  | none=>simp [h1,mS] at hT
  | some a=>
   cases h2:mS (fs.map fun f=>gj P n f.type) with
   | none=>simp [h1,h2,mS] at hT
   | some b=>
    simp only [h1,h2,mS,yd] at hT;subst hT;simp only [List.zip_cons_cons,List.flatMap_cons];exact ⟨_,_,rfl,ih h1 (hr 0 (by simp) (by simp)),XK ih fs ds b h2 (by simpa using hl) (fun i h1 h2=>hr (i+1) (by simpa using h1) (by simpa using h2))⟩
def abb:∀(n:Nat) {t:yF} {T:Ty} {d:xM H},gj P n t=some T->Rd enc P w base sp held t d->lT T (cO P n t d)
 | 0,t,T,d,hT,_=>by simp [gj] at hT
 | n+1,t,T,d,hT,hr=>by
  have ih:=@abb n
  cases hu:P.underlying t with
  | none=>simp [gj,hu] at hT
  | some u=>
   cases u with
   | slice e=>
    simp only [gj,hu] at hT;obtain ⟨E,hE,rfl⟩:=wC.1 hT
    rcases amr (n:=n) hu hr with h | ⟨x,jL,h,hm⟩
    ·exact .inl h
    ·refine .inr ⟨x,jL.map (cO P n e),by rw [h,xo,ybu],fun p hp=>?_⟩;obtain ⟨y,hy,rfl⟩:=uH.1 hp;exact ih hE (hm y hy)
   | struct fs=>
    simp only [gj,hu] at hT;obtain ⟨ds,e1,e2,e3⟩:=aj7 (n:=n) hu hr;rw [e2];exact XK ih fs.toList ds T hT e1 e3
   | array k e=>
    simp only [gj,hu] at hT;obtain ⟨E,hE,rfl⟩:=wC.1 hT;obtain ⟨ds,e1,e2,e3⟩:=ams (n:=n) hu hr;refine ⟨ds.map (cO P n e),by simp [e1],by rw [e2,ybu],fun p hp=>?_⟩;obtain ⟨y,hy,rfl⟩:=uH.1 hp;exact ih hE (e3 y hy)
   | int k=>
    simp only [gj,hu,yd] at hT;subst hT;exact ark hu hr
   | float k=>
    simp only [gj,hu,yd] at hT;subst hT;exact arl hu hr
   | bool=>
    simp only [gj,hu,yd] at hT;subst hT;exact aoL hu hr
   | string=>
    simp only [gj,hu,yd] at hT;subst hT;exact arm hu hr
   | _=>simp [gj,hu] at hT
def E8:Ty->List AV->AV
 | .nil,l | .cat _ _,l | .ar _ _,l=> .agg l
 | _,l=>l.headD .undef
def aj8:∀{l:List (Option Ty)} {T:Ty},mS l=some T->∀x,E8 T x= .agg x
 | [],T,h=>by simp only [mS,yd] at h;subst h;exact fun _=>rfl
 | none::r,T,h=>by simp [mS] at h
 | some a::r,T,h=>by
  cases h1:mS r with
  | none=>simp [mS,h1] at h
  | some b=>
   simp only [mS,h1,yd] at h;subst h;exact fun _=>rfl
def atz {n:Nat} {t:yF} {T:Ty} {d:xM H} (hT:gj P n t=some T):lC P n t d=E8 T (cO P n t d):=by
 cases n with
 | zero=>simp [gj] at hT
 | succ n=>
  cases hu:P.underlying t with
  | none=>simp [gj,hu] at hT
  | some u=>
   cases u with
   | slice e=>
    simp only [gj,hu] at hT;obtain ⟨E,hE,rfl⟩:=wC.1 hT;simp only [lC,hu,E8]
   | struct fs=>
    simp only [gj,hu] at hT;rw [aj8 hT];simp only [lC,hu]
   | array k e=>
    simp only [gj,hu] at hT;obtain ⟨E,hE,rfl⟩:=wC.1 hT;simp only [lC,hu,E8]
   | _=>
    simp only [gj,hu,yd,reduceCtorEq] at hT<;>
    (subst hT
     simp only [lC,hu,E8])
def IX:List Ty->List (List AV)->List AV
 | T::Ts,l::ls=>E8 T l::IX Ts ls
 | _,_=>[]
def Zx {n:Nat}:∀{ts:List yF} {Ts:List Ty} {vs:List yh} {ds:List (xM H)} {ps:List wB},(ts.map (gj P n))=Ts.map some->DataW.TrodAll enc P w base sp held ts vs ds ps->
  ∃ls,nK lT Ts ls/\za P n ts ds=IX Ts ls/\ds.length=ts.length
 | [],[],[],[],ps,_,_=>⟨[],trivial,rfl,rfl⟩
 | t::ts,T::Ts,v::vs,d::ds,ps,hT,⟨p,q,⟨bi,h1⟩,h2,_⟩=>by
  simp only [xj,tC] at hT;obtain ⟨ls,k1,k2,k3⟩:=Zx hT.2 h2;exact ⟨cO P n t d::ls,⟨abb n hT.1 ⟨bi,_,_,h1⟩,k1⟩,by simp only [za,IX,k2,atz hT.1],by simp [k3]⟩
 | [],_::_,_,_,_,h,_=>by simp at h
 | _::_,[],_,_,_,h,_=>by simp at h
 | [],[],_::_,_,_,_,h=>by simp [DataW.TrodAll] at h
 | [],[],[],_::_,_,_,h=>by simp [DataW.TrodAll] at h
 | _::_,_,[],_,_,_,h=>by simp [DataW.TrodAll] at h
 | _::_,_,_::_,[],_,_,h=>by simp [DataW.TrodAll] at h
def arn {α β:Type} {p:α->β->Prop} {a:α}:∀{l:List β},nK p [a] l->∃x,l=[x]/\p a x
 | [x],h=>⟨x,rfl,h.1⟩
 | [],h=>h.elim
 | _::_::_,h=>h.2.elim
def aro {α β:Type} {p:α->β->Prop} {a b:α}:∀{l:List β},nK p [a,b] l->∃x y,l=[x,y]/\p a x/\p b y
 | x::l,h=>let ⟨y,h1,h2⟩:=arn h.2;⟨x,y,by rw [h1],h.1,h2⟩
 | [],h=>h.elim
def arp {α β:Type} {p:α->β->Prop} {a b c:α}:∀{l:List β},nK p [a,b,c] l->∃x y z,l=[x,y,z]/\p a x/\p b y/\p c z
 | x::l,h=>let ⟨y,z,h1,h2,h3⟩:=aro h.2;⟨x,y,z,by rw [h1],h.1,h2,h3⟩
 | [],h=>h.elim
end
end
abbrev abc:Ty:= .cat .str (.cat .str .nil)
def aj9 {l:List AV} (h:lT abc l):∃x y:List Nat,l=[.str x,.str y]/\x.length<9223372036854775808/\y.length<9223372036854775808:=by
 obtain ⟨_,_,rfl,⟨x,rfl,hx,_⟩,_,_,rfl,⟨y,rfl,hy,_⟩,rfl⟩:=h;exact ⟨x,y,rfl,hx,hy⟩
abbrev SA:Ty:= .sl (.int .i64)
abbrev aar:Ty:= .sl SA
def Zy:∀{ps:List (List AV)},(∀p,p∈ps->lT (.int .i64) p)->∃zs:List Int,zs.length=ps.length/\ps.flatten=zs.map aa
 | [],_=>⟨[],rfl,rfl⟩
 | p::ps,h=>by
  obtain ⟨z,rfl,_⟩:=h p ub;obtain ⟨zs,h1,h2⟩:=Zy (ps:=ps) (fun q hq=>h q (vl _ hq));exact ⟨z::zs,by simp [h1],by simp [h2]⟩
def amt {l:List AV} (h:lT SA l):∃(v:AV) (zs:List Int),l=[v]/\a8 v zs:=by
 rcases h with rfl | ⟨x,ps,rfl,h⟩
 ·exact ⟨_,[],rfl,qQ⟩
 ·obtain ⟨zs,h1,h2⟩:=Zy h;refine ⟨_,zs,rfl,?_⟩;rw [h2,<-h1];exact gZ x zs
def Zz:∀{ps:List (List AV)},(∀p,p∈ps->lT SA p)->∃s:List (List Int),s.length=ps.length/\ps.flatten.length=ps.length/\nK a8 ps.flatten s
 | [],_=>⟨[],rfl,rfl,trivial⟩
 | p::ps,h=>by
  obtain ⟨v,zs,rfl,hv⟩:=amt (h p ub);obtain ⟨s,h1,h2,h3⟩:=Zz (ps:=ps) (fun q hq=>h q (vl _ hq));exact ⟨zs::s,by simp [h1],by simp [h2],hv,h3⟩
def ail {l:List AV} (h:lT aar l):∃(v:AV) (s:List (List Int)),l=[v]/\fV v s:=by
 rcases h with rfl | ⟨x,ps,rfl,h⟩
 ·exact ⟨_,[],rfl,alH⟩
 ·obtain ⟨s,h1,h2,h3⟩:=Zz h;refine ⟨_,s,rfl,ps.flatten,?_,h3⟩
  have:=Ca x ps.flatten
  rwa [h2] at this
section
variable {P:aG} {L:Lib}
def SB (tm:Env) (hp:Hp) (rs:List (Nat×Bool×Nat)) (q:fS):fS:=match q with | some (v,ao,aW)=>bif lZ tm hp ao rs then some (v,ao,aW) else none | none=>none
def amu {f:cw} {tm:Env} {hp:Hp} {ct:Nat} (rs:List (Nat×Bool×Nat)) (g:X) (xs:List X):a7 P L f tm hp ct (.ia rs g xs)=SB tm hp rs (dA P L f hp ct .dyn (az tm g) (di tm xs)):=rfl
def aoM {tm:Env} {hp ao:Hp} {rs:List (Nat×Bool×Nat)} {v:AV} {aW:Nat} (h:lZ tm hp ao rs=true):SB tm hp rs (some (v,ao,aW))=some (v,ao,aW):=by
 simp only [SB,h,yx]
section
variable {b n R st:Nat} {fnv:AV} {H:Hp} {rs:List (List AV)}
def amv {cs:List AV} {old:Hp} {ct:Nat} (h:ct=b+5+rs.length):(ct,Obj.cells true true true 1 cs)::(bh (b+5) rs++old)=bh (b+5) (cs::rs)++old:=by
 subst h;rfl
def amw {cs:List AV} {old:Hp} {x:Nat} (h:x=b+5+rs.length):an (bh (b+5) (cs::rs)++old) x=some (.cells true true true 1 cs):=by
 subst h;simp only [bh,yY,Hz]
def amx {cs dE:List AV} {old:Hp} {x:Nat} (h:x=b+5+rs.length):aU (bh (b+5) (cs::rs)++old) x (.cells true true true 1 dE)=bh (b+5) (dE::rs)++old:=by
 subst h;simp only [bh,yY,Zh]
end
def Yy {B n r:Nat}:(fR B n (r+1)).drop r= .ay (B+r) 0 n::yC (n-(r+1)) .af:=by
 unfold fR;rw [uI,xu,xr,tr (by simp)];rfl
def Yz {B:Nat}:∀{rs:List (List AV)} (p:Nat×Obj),p∈bh B rs->B<=p.1
 | [],p,h=>by simp [bh] at h
 | c::r,p,h=>by
  rcases wA.1 h with rfl | h
  ·show B<=B+r.length;omega
  ·exact Yz p h
structure BuT (P:aG) (L:Lib):Prop where
 z7:Has P L 40 c40
 h96:Has P L 96 OU
 TY:Has P L 133 Ja
def kB (b n:Nat) (fnv:AV) (val:Nat->Nat->AV) (H:Hp):Hp:=
 bh (b+5) (fI val n n)++(b+3,.cells true false true 1 [.ay (b+2) 0 n])::(b+2,.cells true false true 1 (fR (b+5) n n))::(b+1,.cells true (aV fnv) true 1 [fnv])::(b,.cells true true true 1 [.int .i64 n])::H
def YA {x:Nat}:∀{H:Hp},(∀p,p∈H->p.1≠x)->da H x=H
 | [],_=>rfl
 | (id,o)::r,h=>by
  rw [da,cd (h (id,o) (by simp)),yH,YA (fun p hp=>h p (by simp [hp]))]
def aim {hp:Hp} {id i:Nat} {o:Obj}:an (aU hp id o) i=if id=i then (if (an hp id).isSome then some o else none) else an hp i:=by
 induction hp with
 | nil=>simp [aU,an]
 | cons x r ih=>
  obtain ⟨j,q⟩:=x;simp only [aU];by_cases hj:j=id
  ·subst hj;simp only [xG,yx,an];by_cases hi:j=i
   ·subst hi;simp
   ·simp [cd hi,hi]
  ·simp only [cd hj,yH];rw [an,ih];by_cases hi:j=i
   ·subst hi
    have:¬id=j:=fun h=>hj h.symm
    simp [xG,this,an]
   ·simp [cd hi,an,cd hj]
def ZA {B n:Nat} {row:Nat->List AV} (hlen:∀i,(row i).length=n):∀(l:List Nat) (k:Nat) (hp:Hp),l.length+3<=k->(∀i,i∈l->∃rw,an hp (B+i)=some (.cells rw true true 1 (row i)))->
  ∃ao,cB k hp (l.map fun i=> .ay (B+i) 0 n)=some (l.map fun i=> .aC true n (row i),ao)
 | [],0,hp,hk,_=>by simp at hk
 | [],k+1,hp,_,_=>⟨hp,rfl⟩
 | i::l,0,hp,hk,_=>by simp at hk
 | i::l,1,hp,hk,_=>by simp at hk
 | i::l,2,hp,hk,_=>by simp at hk
 | i::l,k+3,hp,hk,h=>by
  simp only [yv] at hk;obtain ⟨rw,h1⟩:=h i (by simp);have hf:freeze (k+2) hp (.ay (B+i) 0 n)=some (.aC true n (row i),bif rw then aU hp (B+i) (.cells false true true 1 (row i)) else hp):=by
   rw [Q7,Q8,h1]
   cases rw with
   | true=>rw [aaS,lV true (by rw [hlen,yj]) (by decide)];rfl
   | false=>rw [aaT,lV true (by rw [hlen,yj]) (by decide)];rfl
  obtain ⟨ao,h2⟩:=ZA hlen l (k+2) (bif rw then aU hp (B+i) (.cells false true true 1 (row i)) else hp) (by omega) (fun j hj=>by
   obtain ⟨et,h3⟩:=h j (by simp [hj])
   cases rw with
   | false=>exact ⟨et,h3⟩
   | true=>
    simp only [yx,aim,h1,Option.isSome_some,xB];by_cases e:B+i=B+j
    ·have:i=j:=by omega
     subst this;exact ⟨false,by rw [yM rfl]⟩
    ·exact ⟨et,by rw [yB e,h3]⟩)
  exact ⟨ao,by rw [xj,Yo,hf,aaQ,h2];rfl⟩
def C7 (val:Nat->Nat->AV) (n:Nat):AV:= .aC true n ((xF n).map fun r=> .aC true n ((xF n).map fun c=>val c r))
def YB {val:Nat->Nat->AV} {n:Nat}:∀r,(fI val n r).reverse=(xF r).map fun r=>(xF n).map fun c=>val c r
 | 0=>rfl
 | r+1=>by rw [fI,yaa,YB r,uI,xu];rfl
def aka {b n k:Nat} (hn:0<n) (eV:n<=900) {fnv:AV} {val:Nat->Nat->AV} {H:Hp} (hk:903<k):∃ao,freeze (k+2) (kB b n fnv val H) (.ay (b+2) 0 n)=some (C7 val n,ao):=by
 have r8:an (kB b n fnv val H) (b+2)=some (.cells true false true 1 (fR (b+5) n n)):=by
  rw [kB,qH (by omega),an,cd (by omega),yH,an,xG,yx]
 have EO:fR (b+5) n n=(xF n).map fun i=> .ay (b+5+i) 0 n:=by simp [fR]
 have hlen:(fI val n n).length=n:=B2 val n n;obtain ⟨ao,h1⟩:=ZA (B:=b+5) (n:=n) (row:=fun r=>(xF n).map fun c=>val c r) (fun i=>by simp) (xF n) k (kB b n fnv val H) (by simp;omega) (fun i hi=>by
  have cD:i<n:=List.mem_range.1 hi;refine ⟨true,?_⟩;rw [kB,LC (by omega)]
  simp only [YB,List.getElem_map,List.getElem_range])
 rw [Q7,Q8,r8];have hq:JC k (b+2) (kB b n fnv val H) (some (.cells true false true 1 (fR (b+5) n n)))=some (true,1,(xF n).map fun r=> .aC true n ((xF n).map fun c=>val c r),aU ao (b+2) (.cells false false true 1 (fR (b+5) n n))):=by
  simp only [JC,yH,EO,h1]
 rw [hq,lV true (by simp) (by decide)];exact ⟨_,rfl⟩
def akb {b n:Nat} (hn:0<n) (eV:n<=900) {fnv:AV} {val:Nat->Nat->AV} {H:Hp} {k:y8} {x:Int}:result (kB b n fnv val H) (.ap [.ay (b+2) 0 n,.int k x])=some (.ap [C7 val n,.int k x]):=by
 have r8:an (kB b n fnv val H) (b+2)=some (.cells true false true 1 (fR (b+5) n n)):=by
  rw [kB,qH (by omega),an,cd (by omega),yH,an,xG,yx]
 obtain ⟨ao,h⟩:=aka (b:=b) (k:=998) hn eV (fnv:=fnv) (val:=val) (H:=H) (by omega);have h1:Ce [.ay (b+2) 0 n,.int k x]=some [b+2]:=rfl;simp only [result,h1,qS,oF,r8,deep,h];rfl
structure SmP (P:aG) (L:Lib):Prop extends BuT P L,Sq P L where
 h41:Has P L 41 c41
 h97:Has P L 97 c97
 JM:Has P L 134 ET
def PC {s:List (List Int)} (h:iy s=0):0<s.length/\s.length<=16/\jw s.length (-1000) 1000 s=0:=by
 unfold iy at h
 grind
def Hr {b x:Nat} {H:Hp} (hx:x<b):∀{iJ:Hp},(∀p,p∈iJ->b<=p.1)->an (iJ++H) x=an H x
 | [],_=>rfl
 | (id,o)::r,h=>by
  have:=h (id,o) (by simp)
  simp only [yY];rw [an,cd (by simp only at this;omega),yH,Hr hx (fun p hp=>h p (by simp [hp]))]
def YC {b x:Nat} {H:Hp} {o':Obj} (hx:x<b):∀{iJ:Hp},(∀p,p∈iJ->b<=p.1)->aU (iJ++H) x o'=iJ++aU H x o'
 | [],_=>rfl
 | (id,o)::r,h=>by
  have:=h (id,o) (by simp)
  simp only [yY];rw [aU,cd (by simp only at this;omega),yH,YC hx (fun p hp=>h p (by simp [hp]))]
end
section
def abd (m a b c:Nat) (h:m<2^a) (hc:a+b=c):m*2^b<2^c:=by
 subst hc;rw [xP];exact xZ h (xt _)
def aoN (a b k:Nat) (h:a<b):a<b*2^k:=yA h (yau _ (xt _))
def arq (m a b c:Nat) (h:2^a<=m) (hc:c<=a+b):2^c<=m*2^b:=
 xg (yV (by decide) hc) (by rw [xP];exact yS _ h)
open Ieee
def p2 (e:Int):Rat:=(2:Rat)^e
def eS (a b:Int):p2 (a+b)=p2 a*p2 b:=Rat.zpow_add (by decide) a b
def lz (e:Int):0<p2 e:=Rat.zpow_pos (by decide)
def SC (e:Int):p2 e≠0:=fun h=>by have:=lz e;rw [h] at this;exact absurd this (by decide)
def fH (n:Nat):p2 n=((2^n:Nat):Rat):=by
 unfold p2;rw [Rat.zpow_natCast,Rat.natCast_pow];rfl
def ars (n:Nat) (h:n≠0):1<p2 n:=by
 rw [fH n]
 have:((1:Nat):Rat)<((2^n:Nat):Rat):=by rw [Rat.natCast_lt_natCast];exact wD h
 exact this
def oV:p2 0=1:=by have:=fH 0;simpa using this
def rI:p2 1=2:=by have:=fH 1;simpa using this
def Ez (e:Int):p2 (-e)*p2 e=1:=by rw [<-eS,show -e+e=0 by omega,oV]
structure Can (f:Format) (m:Nat) (e:Int):Prop where
 lp:f.leastPlace<=e
 lt:m<2^(f.fractionBits+1)
 ge:2^f.fractionBits<=m\/e=f.leastPlace
def gk (f:Format) (m:Nat) (e:Int):Nat:=(e-f.leastPlace).toNat*2^f.fractionBits+m
def art (f:Format):f.infRung<f.signWeight:=by
 have h:0<2^f.exponentBits:=xt _;have hb:0<2^f.fractionBits:=xt _;unfold Format.infRung Format.signWeight Format.binade;rw [xP];exact xZ (by omega) hb
def akc {f:Format} {m:Nat} {e:Int} (h:Can f m e) (s:Bool) (hr:gk f m e<f.infRung):f.read (f.word s (gk f m e))= .number s m e:=by
 have fX:=art f;have hb:0<2^f.fractionBits:=xt _;have lp:=h.lp;have lt:=h.lt;have ge:=h.ge;rw [y9] at lt;have eM:(f.word s (gk f m e)/f.signWeight%2==1)=s:=by
  unfold Format.word
  cases s with
  | true=>rw [yM rfl,Nat.add_div_left _ (by omega),xO (by omega)];rfl
  | false=>rw [yB (by decide),xO (by omega)];rfl
 have lM:f.word s (gk f m e)%f.signWeight=gk f m e:=by
  unfold Format.word
  cases s with
  | true=>rw [yM rfl,Nat.add_mod_left,yL (by omega)]
  | false=>rw [yB (by decide),yL (by omega)]
 unfold Format.read;simp only [eM,lM];obtain ⟨d,hd⟩:∃d:Nat,e=f.leastPlace+d:=⟨(e-f.leastPlace).toNat,by omega⟩;have fU:gk f m e=d*2^f.fractionBits+m:=by unfold gk;rw [hd,show (f.leastPlace+(d:Int)-f.leastPlace).toNat=d by omega]
 unfold Format.binade;by_cases c:gk f m e<2^f.fractionBits
 ·rw [yM c];have fW:d=0:=by
   rcases ge with ge | ge
   ·exfalso
    have:=tu (d*2^f.fractionBits)
    omega
   ·omega
  subst fW;rw [wU,yf] at fU;rw [fU,hd,Int.natCast_zero,ycx]
 ·rw [yB c,yM hr];have hm:2^f.fractionBits<=m:=by
   rcases ge with ge | ge
   ·exact ge
   ·have:d=0:=by omega
    subst this;rw [wU,yf] at fU;omega
  obtain ⟨x,hx⟩:∃x,m=2^f.fractionBits+x:=⟨m-2^f.fractionBits,by omega⟩;have hdiv:gk f m e/2^f.fractionBits=d+1:=by
   rw [fU,hx,<-uG,<-ycy,xA,yaG hb,xO (by omega)]
  have De:gk f m e%2^f.fractionBits=x:=by
   rw [fU,hx,<-uG,<-ycy,xA,yaH,yL (by omega)]
  rw [hdiv,De,hx,hd,show d+1-1=d by omega]
def YD {n d:Nat} {neg:Bool}:Toward.even.cut neg (n*2^d) d=n:=by
 unfold Toward.cut;by_cases h0:n=0
 ·subst h0
  simp
 ·have hl:d<=(n*2^d).log2:=(ycK (ue (vS (by omega) (xt _)))).2 (yaw _ (by omega));have hp:0<2^d:=xt _;rw [xD (by omega),Nat.one_shiftLeft];simp only [ybz,tB _ hp,xx];have h1:decide (2^d<0)=false:=by simp
  have h2:((2^d==0):Bool)=false:=by simpa using ue hp
  simp [h2]
def PD {n:Nat} (h:n≠0):∀d,(n*2^d).log2=n.log2+d
 | 0=>by simp
 | d+1=>by
  rw [y9,<-xm,xA (n*2^d) 2,Nat.log2_two_mul (ue (vS (by omega) (xt _))),PD h d];omega
def Can.last {f:Format} {m:Nat} {e:Int} (h:Can f m e) (h0:m≠0):max (e+m.log2-f.fractionBits) f.leastPlace=e:=by
 have lp:=h.lp;have h1:m.log2<f.fractionBits+1:=(yaP h0).2 h.lt;rcases h.ge with g | g
 ·have:=(ycK h0).2 g
  omega
 ·omega
def ZB {f:Format} {m:Nat} {e:Int} (h:Can f m e) (h0:m≠0) {m0:Nat} {e0:Int} (s:Bool) (hv:(m0:Rat)*p2 e0=(m:Rat)*p2 e):f.nearest s m0 e0=f.word s (min (gk f m e) f.infRung):=by
 have hl:=h.last h0;have lp:=h.lp;by_cases c:e0<=e
 ·obtain ⟨d,hd⟩:∃d:Nat,e=e0+d:=⟨(e-e0).toNat,by omega⟩;have hm:m0=m*2^d:=by
   rw [hd,eS,fH] at hv;have h1:(m0:Rat)=((m*2^d:Nat):Rat):=by
    rw [xS];have h2:p2 e0*p2 (-e0)=1:=by rw [ybI];exact Ez e0
    have h3:(m0:Rat)*p2 e0*p2 (-e0)=(m:Rat)*(p2 e0*((2^d:Nat):Rat))*p2 (-e0):=congrArg (·*p2 (-e0)) hv;rw [wm,h2,wE] at h3;rw [h3]
    have:(m:Rat)*(p2 e0*((2^d:Nat):Rat))*p2 (-e0)=(m:Rat)*((2^d:Nat):Rat)*(p2 e0*p2 (-e0)):=by grind
    rw [this,h2,wE]
   exact_mod_cast h1
  have qF:m0≠0:=by rw [hm];exact ue (vS (by omega) (xt _))
  unfold Format.nearest;rw [yB qF];have kP:max (e0+m0.log2-f.fractionBits) f.leastPlace=e:=by
   rw [hm,PD h0,<-hl];omega
  dsimp only
  rw [kP];rw [show (e0-e).toNat=0 by omega,Nat.shiftLeft_zero,show (e-e0).toNat=d by omega,hm,YD];rfl
 ·obtain ⟨d,hd⟩:∃d:Nat,e0=e+d:=⟨(e0-e).toNat,by omega⟩;have hm:m=m0*2^d:=by
   rw [hd,eS,fH] at hv;have h1:(m:Rat)=((m0*2^d:Nat):Rat):=by
    rw [xS];have h2:p2 e*p2 (-e)=1:=by rw [ybI];exact Ez e
    have h3:(m0:Rat)*(p2 e*((2^d:Nat):Rat))*p2 (-e)=(m:Rat)*p2 e*p2 (-e):=congrArg (·*p2 (-e)) hv;have h4:(m:Rat)*p2 e*p2 (-e)=m:=by rw [wm,h2,wE]
    rw [h4] at h3;rw [<-h3]
    have:(m0:Rat)*(p2 e*((2^d:Nat):Rat))*p2 (-e)=(m0:Rat)*((2^d:Nat):Rat)*(p2 e*p2 (-e)):=by grind
    rw [this,h2,wE]
   exact_mod_cast h1
  have qF:m0≠0:=fun q=>by rw [q,wU] at hm;exact h0 hm
  unfold Format.nearest;rw [yB qF];have kP:max (e0+m0.log2-f.fractionBits) f.leastPlace=e:=by
   rw [hm,PD qF] at hl;rw [<-hl];omega
  dsimp only
  rw [kP];rw [show (e0-e).toNat=d by omega,show (e-e0).toNat=0 by omega,tO,<-hm]
  have:=YD (n:=m) (d:=0) (neg:=s)
  rw [Nat.pow_zero,yj] at this;rw [this];rfl
end
section
open Ieee
structure nk (f:Format) (b:Nat) (s:Bool) (m:Nat) (e:Int):Prop where
 can:Can f m e
 lt:gk f m e<f.infRung
 eq:b=f.word s (gk f m e)
def nk.read {f:Format} {b:Nat} {s:Bool} {m:Nat} {e:Int} (h:nk f b s m e):f.read b= .number s m e:=by
 rw [h.eq];exact akc h.can s h.lt
def sg (s:Bool):Rat:=if s then -1 else 1
def fv (s:Bool) (m:Nat) (e:Int):Rat:=sg s*((m:Rat)*p2 e)
def aas {f:Format} {m:Nat} {e:Int} (h:Can f m e) (he:(e-f.leastPlace).toNat+2<=2^f.exponentBits-1):gk f m e<f.infRung:=by
 have aP:=h.lt;rw [y9] at aP;unfold gk Format.infRung Format.binade
 have:=yS (2^f.fractionBits) he
 rw [we] at this;omega
def aru {f:Format} {n:Nat} {k:Int} (h0:n≠0) (hn:n<2^(f.fractionBits+1)) (hk:f.leastPlace<=k):∃m e,Can f m e/\m≠0/\e<=k/\(m:Rat)*p2 e=(n:Rat)*p2 k:=by
 have hl:=(yaP h0).2 hn;obtain ⟨j,hj⟩:∃j:Nat,j=min (f.fractionBits-n.log2) (k-f.leastPlace).toNat:=⟨_,rfl⟩;have h1:2^n.log2<=n:=Nat.log2_self_le h0;have h2:n<2^(n.log2+1):=Nat.lt_log2_self;refine ⟨n*2^j,k-j,⟨by omega,?_,?_⟩,ue (vS (by omega) (xt _)),by omega,?_⟩
 ·have:n*2^j<2^(n.log2+1)*2^j:=xZ h2 (xt _)
  rw [<-xP] at this;exact yA this (yV (by decide) (by omega))
 ·by_cases c:f.fractionBits-n.log2<=(k-f.leastPlace).toNat
  ·left
   have:=yS (2^j) h1
   rw [<-xP,show n.log2+j=f.fractionBits by omega] at this;exact this
  ·right;omega
 ·rw [xS,<-fH,wm,<-eS,show (j:Int)+(k-j)=k by omega]
def wr {f:Format} {n:Nat} {k:Int} (h0:n≠0) (hn:n<2^(f.fractionBits+1)) (hk:f.leastPlace<=k) (iR:(k-f.leastPlace).toNat+2<=2^f.exponentBits-1) {m0:Nat} {e0:Int} (s:Bool) (hv:(m0:Rat)*p2 e0=(n:Rat)*p2 k):∃m e,nk f (f.write (.number s m0 e0)) s m e/\m≠0/\(m:Rat)*p2 e=(n:Rat)*p2 k:=by
 obtain ⟨m,e,hc,hm,he,hq⟩:=aru h0 hn hk;have hr:=aas hc (by have:=hc.lp;omega);refine ⟨m,e,⟨hc,hr,?_⟩,hm,hq⟩;show f.nearest s m0 e0=_
 rw [ZB hc hm s (hv.trans hq.symm),xD (by omega)]
def acw (f:Format):Can f 0 f.leastPlace:=⟨Int.le_refl _,xt _,.inr rfl⟩
def wr0 {f:Format} (s:Bool) (e0:Int) (hi:0<f.infRung):nk f (f.write (.number s 0 e0)) s 0 f.leastPlace:=by
 have hr:gk f 0 f.leastPlace=0:=by unfold gk;rw [Int.sub_self];simp
 refine ⟨acw f,by rw [hr];exact hi,?_⟩
 rw [hr];show f.nearest s 0 e0=_
 unfold Format.nearest;rw [yM rfl]
end
section
open Ieee
abbrev og (b:Nat) (s:Bool) (m:Nat) (e:Int):Prop:=nk single b s m e
def G1:single.leastPlace= -149:=by decide
def og.b {b m:Nat} {s:Bool} {e:Int} (h:og b s m e): -149<=e/\m<16777216/\(8388608<=m\/e= -149)/\e<=104:=by
 have h1:=h.can.lp;have h2:=h.can.lt;have h3:=h.can.ge;have h4:=h.lt;rw [G1] at h1 h3;have h4:(e-single.leastPlace).toNat*8388608+m<2139095040:=h4;rw [G1] at h4;have h2:m<16777216:=h2;have h3:8388608<=m\/e= -149:=h3;exact ⟨h1,h2,h3,by omega⟩
def BM {n:Nat} {k:Int} (h0:n≠0) (hn:n<16777216) (hk: -149<=k) (iR:k<=104) {m0:Nat} {e0:Int} (s:Bool) (hv:(m0:Rat)*p2 e0=(n:Rat)*p2 k):∃m e,og (single.write (.number s m0 e0)) s m e/\m≠0/\(m:Rat)*p2 e=(n:Rat)*p2 k:=
 wr (f:=single) h0 hn (by rw [G1];exact hk) (by rw [G1];show _<=255;omega) s hv
def Og (s:Bool) (e0:Int):og (single.write (.number s 0 e0)) s 0 (-149):=by
 have:=wr0 (f:=single) s e0 (by decide)
 rwa [G1] at this
def acx:single.read 1073741824= .number false 8388608 (-22):=by decide
def TZ {b m:Nat} {s:Bool} {e:Int} (h:og b s m e) (he:e<=103\/m=0):∃b' m' e',single.mul b 1073741824=some b'/\og b' s m' e'/\(m':Rat)*p2 e'=2*((m:Rat)*p2 e):=by
 obtain ⟨b1,b2,b3,b4⟩:=h.b;have hr:=h.read;unfold Format.mul;rw [hr,acx];show ∃b' m' e',some (single.write (.number (s^^false) (m*8388608) (e+ -22)))=some b'/\_
 rw [ybJ];by_cases h0:m=0
 ·subst h0;rw [wU];exact ⟨_,_,_,rfl,Og s _,by simp⟩
 ·obtain ⟨m',e',k1,k2,k3⟩:=BM (n:=m) (k:=e+1) h0 b2 (by omega) (by omega) (m0:=m*8388608) (e0:=e+ -22) s (by
   have:((8388608:Nat):Rat)=p2 23:=(fH 23).symm
   rw [xS,this,wm,<-eS,show (23:Int)+(e+ -22)=e+1 by omega])
  exact ⟨_,m',e',rfl,k1,by rw [k3,eS,rI];grind⟩
def Ua {b m:Nat} {s:Bool} {e:Int} (h:og b s m e) (he: -148<=e\/m%2=0):∃b' m' e',single.div b 1073741824=some b'/\og b' s m' e'/\2*((m':Rat)*p2 e')=(m:Rat)*p2 e:=by
 obtain ⟨b1,b2,b3,b4⟩:=h.b;have hr:=h.read;unfold Format.div;rw [hr,acx];have hl:(8388608:Nat).log2=23:=by decide
 have e0:Datum.quotient (single.fractionBits+2) (.number s m e) (.number false 8388608 (-22))=some (.number (s^^false) (2*((m<<<(25+23-m.log2))/8388608)+((m<<<(25+23-m.log2))%8388608 !=0).toNat) (e - -22-(25+23-m.log2:Nat)-1)):=by
  show (if (8388608:Nat)=0 then (if m=0 then none else some (Datum.infinity (s^^false))) else some (Datum.number (s^^false) (2*((m<<<(25+ybW 8388608-m.log2))/8388608)+((m<<<(25+ybW 8388608-m.log2))%8388608 !=0).toNat) (e - -22-((25+ybW 8388608-m.log2:Nat):Int)-1)))=_
  rw [yB (by decide),hl]
 rw [e0,ybJ];show ∃b' m' e',some (single.write (.number s _ _))=some b'/\_
 by_cases h0:m=0
 ·subst h0;simp only [Nat.zero_shiftLeft,Nat.zero_div,Nat.zero_mod,xx];exact ⟨_,_,_,rfl,Og s _,by simp⟩
 ·have Bq:m.log2<24:=(yaP h0).2 b2;obtain ⟨t,ht⟩:∃t,25+23-m.log2=t+23:=⟨25-m.log2,by omega⟩;have jm:m<<<(t+23)=(m*2^t)*8388608:=by rw [tO,xP,<-xm]
  rw [ht,jm,tB _ (by decide),ybz];simp only [bne_self_eq_false,Bool.toNat_false,yW];have aI:((2*(m*2^t):Nat):Rat)*p2 (e - -22-(t+23:Nat)-1)=(m:Rat)*p2 (e-1):=by
   have:((2:Nat):Rat)=p2 1:=(fH 1).symm
   rw [xS,xS,<-fH,this];have h2:p2 1*((m:Rat)*p2 t)*p2 (e - -22-(t+23:Nat)-1)=(m:Rat)*(p2 1*p2 t*p2 (e - -22-(t+23:Nat)-1)):=by grind
   rw [h2,<-eS,<-eS,show (1:Int)+t+(e - -22-(t+23:Nat)-1)=e-1 by omega]
  have fin:∀{m':Nat} {e':Int},(m':Rat)*p2 e'=(m:Rat)*p2 (e-1)->2*((m':Rat)*p2 e')=(m:Rat)*p2 e:=fun {m' e'} q=>by
   rw [q]
   have:p2 e=p2 1*p2 (e-1):=by rw [<-eS,show 1+(e-1)=e by omega]
   rw [this,rI];grind
  by_cases c: -148<=e
  ·obtain ⟨m',e',k1,k2,k3⟩:=BM (n:=m) (k:=e-1) h0 b2 (by omega) (by omega) s aI;exact ⟨_,m',e',rfl,k1,fin k3⟩
  ·have Ke:m%2=0:=by omega
   have hm:((m:Nat):Rat)=((m/2:Nat):Rat)*2:=by
    have:m=m/2*2:=by omega
    conv=>lhs;rw [this,xS]
    rfl
   have hq:(m:Rat)*p2 (e-1)=((m/2:Nat):Rat)*p2 e:=by
    have:p2 e=p2 1*p2 (e-1):=by rw [<-eS,show 1+(e-1)=e by omega]
    rw [hm,this,rI];grind
   obtain ⟨m',e',k1,k2,k3⟩:=BM (n:=m/2) (k:=e) (by omega) (by omega) (by omega) (by omega) s (aI.trans hq);exact ⟨_,m',e',rfl,k1,fin (k3.trans hq.symm)⟩
def ofInt {n:Int} (h:n.natAbs<=16777216):∃m e,og (single.write (.number (n<0) n.natAbs 0)) (n<0) m e/\(m:Rat)*p2 e=(n.natAbs:Rat):=by
 by_cases h0:n.natAbs=0
 ·rw [h0];exact ⟨0,-149,Og _ _,by simp⟩
 ·by_cases h1:n.natAbs<16777216
  ·obtain ⟨m,e,k1,k2,k3⟩:=BM (n:=n.natAbs) (k:=0) h0 h1 (by omega) (by omega) (m0:=n.natAbs) (e0:=0) (n<0) rfl;exact ⟨m,e,k1,by rw [k3,oV,wE]⟩
  ·have h2:n.natAbs=16777216:=by omega
   obtain ⟨m,e,k1,k2,k3⟩:=BM (n:=8388608) (k:=1) (by decide) (by decide) (by omega) (by omega) (m0:=n.natAbs) (e0:=0) (n<0) (by rw [h2,oV,rI];decide+kernel)
   exact ⟨m,e,k1,by rw [k3,h2,rI];decide+kernel⟩
def Mm {m:Nat} {s:Bool} {e base:Int} (h:base<=e):((signed s m (e-base).toNat:Int):Rat)*p2 base=fv s m e:=by
 have:p2 e=p2 ((e-base).toNat:Nat)*p2 base:=by rw [<-eS,show ((e-base).toNat:Int)+base=e by omega]
 unfold signed fv sg;rw [this,tO,fH]
 cases s with
 | true=>
  rw [yM rfl,yM rfl,ybK]
  have:(((m*2^(e-base).toNat:Nat):Int):Rat)=(m:Rat)*((2^(e-base).toNat:Nat):Rat):=by rw [<-xS];rfl
  rw [this];grind
 | false=>
  rw [yB (by decide),yB (by decide)]
  have:(((m*2^(e-base).toNat:Nat):Int):Rat)=(m:Rat)*((2^(e-base).toNat:Nat):Rat):=by rw [<-xS];rfl
  rw [this];grind
def aoO {x y m n:Nat} {s t:Bool} {e j:Int} (hx:og x s m e) (hy:og y t n j):single.order x y=some (if fv s m e<fv t n j then .lt else if fv s m e=fv t n j then .eq else .gt):=by
 unfold Format.order;rw [hx.read,hy.read];unfold Datum.order;have h1:=Mm (m:=m) (s:=s) (show min e j<=e by omega);have h2:=Mm (m:=n) (s:=t) (show min e j<=j by omega);have hp:=lz (min e j)
 dsimp only
 generalize signed s m (e-min e j).toNat=a at*
 generalize signed t n (j-min e j).toNat=b at*
 rw [<-h1,<-h2]
 congr 1
 have lt_iff:(a:Rat)*p2 (min e j)<(b:Rat)*p2 (min e j)↔a<b:=by
  constructor
  ·intro q
   have:=(wv hp).1 q
   exact_mod_cast this
  ·intro q;exact (wv hp).2 (by exact_mod_cast q)
 have eq_iff:(a:Rat)*p2 (min e j)=(b:Rat)*p2 (min e j)↔a=b:=by
  constructor
  ·intro q;rcases ud a b with c | c | c
   ·have:=lt_iff.2 c;rw [q] at this;exact absurd this (uo)
   ·exact c
   ·have:=(wv hp).2 (show (b:Rat)<a by exact_mod_cast c);rw [q] at this;exact absurd this (uo)
  ·intro q;rw [q]
 rcases ud a b with c | c | c
 ·rw [yM (lt_iff.2 c)];exact Int.compare_eq_lt.2 c
 ·rw [yB (fun q=>by have:=lt_iff.1 q;omega),yM (eq_iff.2 c)];exact Int.compare_eq_eq.2 c
 ·rw [yB (fun q=>by have:=lt_iff.1 q;omega),yB (fun q=>by have:=eq_iff.1 q;omega)];exact Int.compare_eq_gt.2 c
end
section
open Ieee
def dQ (m:Nat) (e:Int):Nat:=m*2^(e+149).toNat
structure Fl (b:Nat) (s:Bool) (M:Nat):Prop where
 ex:∃m e,og b s m e/\M=dQ m e
def qV {m:Nat} {e:Int} (h: -149<=e):((dQ m e:Nat):Rat)=(m:Rat)*p2 e*p2 149:=by
 unfold dQ;rw [xS,<-fH,wm,<-eS,show ((e+149).toNat:Int)=e+149 by omega]
def arv:p2 149≠0:=SC 149
def aat {m n:Nat} {e j:Int} (h1: -149<=e) (h2: -149<=j) (h:(m:Rat)*p2 e=(n:Rat)*p2 j):dQ m e=dQ n j:=by
 have:((dQ m e:Nat):Rat)=((dQ n j:Nat):Rat):=by rw [qV h1,qV h2,h]
 exact_mod_cast this
def Fl.TZ {b:Nat} {s:Bool} {M:Nat} (h:Fl b s M) (hM:M<2^276):∃b',single.mul b 1073741824=some b'/\Fl b' s (2*M):=by
 obtain ⟨m,e,h1,rfl⟩:=h.ex;obtain ⟨b1,b2,b3,b4⟩:=h1.b;have he:e<=103\/m=0:=by
  by_cases c:e<=103
  ·exact .inl c
  ·exfalso
   have hm:8388608<=m:=by omega
   unfold dQ at hM;have h3:2^253<=2^(e+149).toNat:=yV (by decide) (by omega);have h4:=wK hm h3;have h5:(2:Nat)^275<=8388608*2^253:=arq 8388608 23 253 275 (by decide) (by decide);omega
 obtain ⟨b',m',e',k1,k2,k3⟩:=VE.TZ h1 he;have VY:=k2.b.1;refine ⟨b',k1,m',e',k2,?_⟩
 have:((2*dQ m e:Nat):Rat)=((dQ m' e':Nat):Rat):=by
  rw [xS,qV b1,qV VY,k3];show (2:Rat)*_=_
  grind
 exact_mod_cast this
def Fl.Ua {b:Nat} {s:Bool} {M:Nat} (h:Fl b s M) (hM:M%2=0):∃b',single.div b 1073741824=some b'/\Fl b' s (M/2):=by
 obtain ⟨m,e,h1,rfl⟩:=h.ex;obtain ⟨b1,b2,b3,b4⟩:=h1.b;have he: -148<=e\/m%2=0:=by
  by_cases c: -148<=e
  ·exact .inl c
  ·have:e= -149:=by omega
   subst this;unfold dQ at hM;right
   simpa using hM
 obtain ⟨b',m',e',k1,k2,k3⟩:=VE.Ua h1 he;have VY:=k2.b.1;refine ⟨b',k1,m',e',k2,?_⟩
 have:((dQ m e:Nat):Rat)=((2*dQ m' e':Nat):Rat):=by
  rw [xS,qV b1,qV VY,<-k3];show _=(2:Rat)*_
  grind
 have:dQ m e=2*dQ m' e':=by exact_mod_cast this
 omega
def dR (s:Bool) (M:Nat):Int:=if s then -(M:Int) else M
def acy {s:Bool} {m:Nat} {e:Int} (h: -149<=e):fv s m e*p2 149=((dR s (dQ m e):Int):Rat):=by
 unfold fv sg dR
 cases s with
 | true=>
  rw [yM rfl,yM rfl,ybK]
  have:=qV (m:=m) h
  have h2:(((dQ m e:Nat):Int):Rat)=((dQ m e:Nat):Rat):=rfl;rw [h2,this];grind
 | false=>
  rw [yB (by decide),yB (by decide)]
  have:=qV (m:=m) h
  have h2:(((dQ m e:Nat):Int):Rat)=((dQ m e:Nat):Rat):=rfl;rw [h2,this];grind
def Fl.ord {x y:Nat} {s t:Bool} {M N:Nat} (hx:Fl x s M) (hy:Fl y t N):single.order x y=some (if dR s M<dR t N then .lt else if dR s M=dR t N then .eq else .gt):=by
 obtain ⟨m,e,h1,rfl⟩:=hx.ex;obtain ⟨n,j,h2,rfl⟩:=hy.ex;rw [aoO h1 h2];have q1:=acy (s:=s) (m:=m) h1.b.1;have q2:=acy (s:=t) (m:=n) h2.b.1;have hp:=lz 149;have lt_iff:fv s m e<fv t n j↔dR s (dQ m e)<dR t (dQ n j):=by
  rw [<-wv hp,q1,q2];exact Rat.intCast_lt_intCast
 have eq_iff:fv s m e=fv t n j↔dR s (dQ m e)=dR t (dQ n j):=by
  constructor
  ·intro q;rw [q,q2] at q1;exact (Rat.intCast_inj.1 q1).symm
  ·intro q
   have:fv s m e*p2 149=fv t n j*p2 149:=by rw [q1,q2,q]
   have h3:=congrArg (·*(p2 149)⁻¹) this;simpa only [wm,Rat.mul_inv_cancel _ arv,wE] using h3
 congr 1
 by_cases c1:dR s (dQ m e)<dR t (dQ n j)
 ·rw [yM c1,yM (lt_iff.2 c1)]
 ·rw [yB c1,yB (fun q=>c1 (lt_iff.1 q))];by_cases c2:dR s (dQ m e)=dR t (dQ n j)
  ·rw [yM c2,yM (eq_iff.2 c2)]
  ·rw [yB c2,yB (fun q=>c2 (eq_iff.1 q))]
def Fl.ofInt {n:Int} (h:n.natAbs<=16777216):Fl (single.write (.number (n<0) n.natAbs 0)) (n<0) (n.natAbs*2^149):=by
 obtain ⟨m,e,k1,k2⟩:=VE.ofInt h;refine ⟨m,e,k1,?_⟩;have b1:=k1.b.1
 have:((n.natAbs*2^149:Nat):Rat)=((dQ m e:Nat):Rat):=by
  rw [qV b1,k2,xS,<-fH];rfl
 exact_mod_cast this
def Fl.zero:Fl 0 false 0:=⟨0,-149,⟨by rw [<-G1];exact acw single,by decide,by decide⟩,by decide⟩
def Fl.neg {b:Nat} {s:Bool} {M:Nat} (h:Fl b s M):Fl (b^^^2147483648) (!s) M:=by
 obtain ⟨m,e,h1,rfl⟩:=h.ex;refine ⟨m,e,⟨h1.can,h1.lt,?_⟩,rfl⟩;have hr:gk single m e<2^31:=ycz h1.lt (by decide);have sw:single.signWeight=2^31:=by decide
 rw [h1.eq];unfold Format.word;rw [sw];have hx:gk single m e^^^2147483648=2^31+gk single m e:=by
  rw [show (2147483648:Nat)=2^31*1 by decide,Nat.xor_comm]
  have:=Nat.two_pow_add_eq_or_of_lt hr 1
  have h2:=Nat.xor_mod_two_pow (a:=gk single m e) (b:=2^31*1) (n:=31);refine Nat.eq_of_testBit_eq fun i=>?_
  rw [Nat.testBit_xor,show 2^31+gk single m e=2^31*1+gk single m e by omega,Nat.testBit_two_pow_mul_add _ hr,Nat.testBit_two_pow_mul];by_cases c:i<31
  ·simp [c,show ¬31<=i by omega]
  ·have:Nat.testBit (gk single m e) i=false:=Nat.testBit_lt_two_pow (yA hr (yV (by decide) (by omega)))
   simp [c,this,show 31<=i by omega]
 cases s with
 | false=>rw [yB (by decide),hx];rfl
 | true=>
  rw [yM rfl]
  have:(2^31+gk single m e)^^^2147483648=gk single m e:=by rw [<-hx,Nat.xor_assoc,Nat.xor_self,Nat.xor_zero]
  rw [this];rfl
end
section
open Go (IntKind)
open Ieee
def arw {b:Nat} {s:Bool} {M:Nat} (h:Fl b s M) (hM:M<2^276):∃b',binOp .mul (.aB .f32 b) (.aB .f32 1073741824)=some (.aB .f32 b')/\Fl b' s (2*M):=by
 obtain ⟨b',k1,k2⟩:=h.TZ hM;refine ⟨b',?_,k2⟩;show (match single.mul b 1073741824 with | some b=>some (AV.aB .f32 b) | none=>none)=_
 rw [k1]
def arx {b:Nat} {s:Bool} {M:Nat} (h:Fl b s M) (hM:M%2=0):∃b',binOp .quo (.aB .f32 b) (.aB .f32 1073741824)=some (.aB .f32 b')/\Fl b' s (M/2):=by
 obtain ⟨b',k1,k2⟩:=h.Ua hM;refine ⟨b',?_,k2⟩;show (match single.div b 1073741824 with | some b=>some (AV.aB .f32 b) | none=>none)=_
 rw [k1]
section
variable {x y M N:Nat} {s t:Bool} (hx:Fl x s M) (hy:Fl y t N)
include hx hy
theorem SD:binOp .eql (.aB .f32 x) (.aB .f32 y)=some (.bool (decide (dR s M=dR t N))):=by
 show some (AV.bool (single.order x y==some .eq))=_
 rw [hx.ord hy];by_cases c:dR s M<dR t N
 ·rw [yM c,yX (by omega)];rfl
 ·rw [yB c];by_cases d:dR s M=dR t N
  ·rw [yM d,xp d];rfl
  ·rw [yB d,yX d];rfl
theorem atA:binOp .neq (.aB .f32 x) (.aB .f32 y)=some (.bool (!decide (dR s M=dR t N))):=by
 show some (AV.bool (single.order x y !=some .eq))=_
 rw [hx.ord hy];by_cases c:dR s M<dR t N
 ·rw [yM c,yX (by omega)];rfl
 ·rw [yB c];by_cases d:dR s M=dR t N
  ·rw [yM d,xp d];rfl
  ·rw [yB d,yX d];rfl
end
def acz (b:Nat):unOp .neg (.aB .f32 b)=some (.aB .f32 (b^^^2147483648)):=rfl
def aoP {n:Int} (h:n.natAbs<=16777216):∃b,iG (.toFlt .f32) (.int .i64 n)=some (.aB .f32 b)/\Fl b (n<0) (n.natAbs*2^149):=
 ⟨_,rfl,Fl.ofInt h⟩
end
def HS (n:Nat):10^n<=2^(4*n):=by
 rw [tU];exact vm (by decide) n
def YE {b:Nat} {r:List Nat} (h:dc (b::r)=true):48<=b/\b<=57:=by
 simp only [dc,yg] at h
 simp_all
section
variable {P:aG} {L:Lib}
def abe (h:Tx P L) {ds:List Nat} {N:Nat} (hD:cL ds 0=some N) (hl:ds.length<=4000000000) {neg:Bool} {o1 o2:AV}:
  ∀m st,(∃(pre rest:List Nat) (a:Nat) (s:Int) (w:AV),aM [0,2,3,4] st=⟨[(0,.str rest),(2,.ptr 0 0),(3,.bool neg),(4,.ptr 1 0)],[(1,.cells true true true 2 [aa s,w]),(0,.cells true true true 2 [o1,o2])],2,0⟩/\ds=pre++rest/\cL pre 0=some a/\cT s w a/\rest.length=m)->
   ∃ex st',D P L (.loop [0,2,3,4] Ee) st=some (ex,st')/\∃tm s w,st'=⟨tm,[(1,.cells true true true 2 [aa s,w]),(0,.cells true true true 2 [o1,o2])],2,0⟩/\ex= .exit 0/\aj tm 2= .ptr 0 0/\aj tm 3= .bool neg/\aj tm 4= .ptr 1 0/\cT s w N:=by
 intro dq sq;generalize bf:aM [0,2,3,4] sq=s0;revert bf s0 sq dq;apply dh;rintro m st ⟨pre,rest,a,s,w,rfl,DB,eU,hn,rfl⟩;obtain ⟨l1,u1⟩:=hn.aD;have jA:=hD;rw [DB,HC,eU] at jA;have jA:cL rest a=some N:=jA;have hlen:pre.length+rest.length<=4000000000:=by rw [DB,yR] at hl;exact hl
 by_cases h0:rest.length=0
 ·right
  have hr:rest=[]:=yJ h0;subst hr
  have:a=N:=by simpa [cL] using jA
  subst this;simp only [go_sem,Ee,yI,show ¬(0:Int)<((0:Nat):Int) by omega];exact ⟨_,_,rfl,by simp,_,s,w,rfl,rfl,by simp only [go_sem,ya],by simp only [go_sem,ya],by simp only [go_sem,ya],hn⟩
 ·left
  obtain ⟨n,r7⟩:∃n,n=min 18 rest.length:=⟨_,rfl⟩;have acZ:(if (rest.length:Int)<18 then (rest.length:Int) else 18)=(n:Int):=by split<;>omega
  have jk:rest.take n++rest.drop n=rest:=wa n rest;obtain ⟨a',Dj⟩:∃a',cL (rest.take n) a=some a':=by
   rw [<-jk,HC] at jA
   cases hq:cL (rest.take n) a with
   | none=>rw [hq] at jA;cases jA
   | some a'=>exact ⟨a',rfl⟩
  obtain ⟨v,hv⟩:∃v,cL (rest.take n) 0=some v:=by
   have:∀(l:List Nat) (x y b:Nat),cL l x=some y->∃z,cL l b=some z:=by
    intro l
    induction l with
    | nil=>intro x y b _;exact ⟨b,rfl⟩
    | cons c l ih=>
     intro x y b hh;simp only [cL] at hh ⊢
     cases hb:(yG 48 c&&yG c 57) with
     | false=>rw [hb] at hh;cases hh
     | true=>rw [hb] at hh;exact ih _ _ _ hh
   exact this _ _ _ 0 Dj
  have adU:=aml (a:=a) hv;have VZ:(rest.take n).length=n:=by rw [yT];omega
  rw [VZ,Dj,yd] at adU;have Ub:=Rh hv;rw [VZ] at Ub;have azU:v<1000000000000000000:=yA Ub (yV (n:=10) (by decide) (show n<=18 by omega));have e1:=aoH (P:=P) h.TO (f:=D P L) (s:=rest.take n) (by omega) (by omega) hv;obtain ⟨t1,t2⟩:=zC h.toNu (z:=10) (by decide) (by decide);obtain ⟨t3,t4⟩:=zC h.toNu (z:=(v:Int)) (by omega) (by omega);obtain ⟨p,e2,hp⟩:=TR h.toNu h.p8 t2 (K:=4) (k:=n) (by unfold Bd;decide) (by omega) (by omega)
  have halt:=Rh eU;have ba:Bd (4*pre.length) (a:Int):=yA halt (HS _);have bp:Bd (4*n+1) ((10:Int)^n):=Bd.pow (k:=4) (by unfold Bd;decide) n
  obtain ⟨q,e3,hq⟩:=rG h.toNu (v:= .agg [aa s,w]) ⟨s,w,rfl,hn⟩ hp (K:=4*pre.length+4*n+1) (ba.mono (by omega)) (bp.mono (by omega)) (by omega);have bv':Bd (4*n) (v:Int):=yA Ub (HS _);obtain ⟨r,e4,hr⟩:=JK h.toNu hq t4 (K:=4*pre.length+4*n+1) ((ba.mul bp).mono (by omega)) (bv'.mono (by omega)) (by omega);have aI:(a:Int)*10^n+(v:Int)=(a':Int):=by
   rw [adU]
   simp
  rw [aI] at hr;obtain ⟨s2,w2,rfl,h2⟩:=hp;obtain ⟨s3,w3,rfl,h3⟩:=hq;obtain ⟨s4,w4,rfl,h4⟩:=hr;obtain ⟨l2,u2⟩:=h2.aD;obtain ⟨l3,u3⟩:=h3.aD;obtain ⟨l4,u4⟩:=h4.aD;have un:=pQ;have c1:ig rest (some 0) (some n)=some (.str (rest.take n)):=by rw [ll (by omega) (by omega),yp]
  have c2:ig rest (some n) (some rest.length)=some (.str (rest.drop n)):=by rw [ll (by omega) (by omega),xH]
  simp only [go_sem,ya,Ee,show (0:Int)<(rest.length:Nat) by omega,aaY,Zk,acZ,eF,eR,dH,c1,c2,e1,bV,t1,t3,bw,u1.ai,u2.ai,u3.ai,un.ai,e2,e3,e4,bg,bV,yp,dj u4];refine ⟨_,(rest.drop n).length,rfl,by rw [xN];omega,pre++rest.take n,rest.drop n,a',s4,w4,by simp only [go_sem,ya,yc,ax],by rw [xr,jk];exact DB,by rw [HC,eU];exact Dj,h4,rfl⟩
def Ql {b:Nat} {r:List Nat} (h:48<=b):gD [45] (b::r)=false:=by
 show (yt 45 b&&true)=false
 rw [cd (by omega)];rfl
def JN (h:Tx P L) {z:Int} (hz:(aT z).length<=4000000000):∃r,ab P L 110 [.str (aT z)] r/\cp r z:=by
 have hN:=sK z.natAbs;have un:=pQ;have qj:(aq z.natAbs).length<=4000000000:=by
  by_cases h0:z<0
  ·rw [lW h0] at hz;simp at hz;omega
  ·rw [<-ns,yB h0] at hz;simpa using hz
 have ba:Bd (4*(aq z.natAbs).length) (z.natAbs:Int):=yA (Rh hN) (HS _);by_cases h0:z<0
 ·have hs:aT z=45::aq z.natAbs:=lW h0;have e1:bF P L (D P L) 152 [.str (45::aq z.natAbs),.str [45]]=some (.bool true):=by rw [iA h.adP];rfl
  have e2:bF P L (D P L) 153 [.str (45::aq z.natAbs),.str [45]]=some (.str (aq z.natAbs)):=by rw [iA h.TN];rfl
  have jd:∃s w r,ab P L 110 [.str (aT z)] r/\cT s w (z.natAbs:Int)/\ab P L 147 [.agg [aa s,w]] r/\cp r (-(z.natAbs:Int)):=by
   rw [hs];unfold ab;rw [aA h.adQ];simp only [go_sem,ya,yc,Nt,aO,e1,e2,un.pu,un.one,dj un];generalize hq:D P L (.loop [0,2,3,4] Ee) _=q;obtain ⟨ex,st,rfl,tm,s,w,rfl,rfl,t2,t3,t4,h5⟩:=bI hq (abe (P:=P) (L:=L) h hN qj (neg:=true) (o1:= .int .i64 0) (o2:= .af) (aq z.natAbs).length) ⟨[],aq z.natAbs,0,0,.af,by simp only [go_sem,ya,yc,ax]<;>rfl,rfl,rfl,.inl ⟨rfl,rfl,by decide,by decide⟩,rfl⟩
   obtain ⟨l5,u5⟩:=h5.aD;obtain ⟨r,e3,hr⟩:=E6 h.toNu (v:= .agg [aa s,w]) ⟨s,w,rfl,h5⟩ (K:=4*(aq z.natAbs).length) ba (by omega);have bC:=hr;obtain ⟨s6,w6,rfl,h6⟩:=hr;obtain ⟨l6,u6⟩:=h6.aD;refine ⟨s,w,_,?_,h5,e3,bC⟩;simp only [go_sem,ya,yc,ax,t2,t3,t4,bV,bw,u5.ai,e3,bg,dt,du,bV,yp,mh u6,dj u6]
  obtain ⟨s,w,r,g1,_,_,g2⟩:=jd;rw [show -((z.natAbs:Nat):Int)=z by omega] at g2;exact ⟨r,g1,g2⟩
 ·have hs:aT z=aq z.natAbs:=by rw [<-ns,yB h0];rfl
  obtain ⟨b,r0,hb,jj,BB⟩:=DX z.natAbs;have e1:bF P L (D P L) 152 [.str (aq z.natAbs),.str [45]]=some (.bool false):=by
   rw [iA h.adP,hb];show some (AV.bool (gD [45] (b::r0)))=_
   rw [Ql jj]
  have e2:bF P L (D P L) 153 [.str (aq z.natAbs),.str [45]]=some (.str (aq z.natAbs)):=by
   rw [iA h.TN,hb];show some (AV.str (bif gD [45] (b::r0) then _ else _))=_
   rw [Ql jj];rfl
  have jd:∃s w,ab P L 110 [.str (aT z)] (.agg [aa s,w])/\cT s w (z.natAbs:Int):=by
   rw [hs];unfold ab;rw [aA h.adQ];simp only [go_sem,ya,yc,Nt,aO,e1,e2,un.pu,un.one,dj un];generalize hq:D P L (.loop [0,2,3,4] Ee) _=q;obtain ⟨ex,st,rfl,tm,s,w,rfl,rfl,t2,t3,t4,h5⟩:=bI hq (abe (P:=P) (L:=L) h hN qj (neg:=false) (o1:= .int .i64 0) (o2:= .af) (aq z.natAbs).length) ⟨[],aq z.natAbs,0,0,.af,by simp only [go_sem,ya,yc,ax]<;>rfl,rfl,rfl,.inl ⟨rfl,rfl,by decide,by decide⟩,rfl⟩
   obtain ⟨l5,u5⟩:=h5.aD;refine ⟨s,w,?_,h5⟩;simp only [go_sem,ya,yc,ax,t2,t3,t4,bV,dt,du,bV,yp,mh u5,dj u5]
  obtain ⟨s,w,g1,g2⟩:=jd;rw [show ((z.natAbs:Nat):Int)=z by omega] at g2;exact ⟨_,g1,s,w,rfl,g2⟩
def Ht (b:Nat) (r:List Nat) (c:Nat):gD [c] (b::r)=yt c b:=by
 show (yt c b&&true)=_
 grind
def W6:∀(l r:List Nat) (k:Nat),(∀x,x∈l->x≠47)->mc [47] (l++47::r) k=some (k+l.length)
 | [],r,k,_=>by
  show (bif gD [47] (47::r) then some k else _)=_
  rw [Ht];rfl
 | b::l,r,k,h=>by
  show (bif gD [47] (b::(l++47::r)) then some k else mc [47] (l++47::r) (k+1))=_
  rw [Ht,cd (fun e=>h b (by simp) e.symm),yH,W6 l r (k+1) (fun x hx=>h x (by simp [hx])),yv]
  grind
def index_none:∀(l:List Nat) (k:Nat),(∀x,x∈l->x≠47)->mc [47] l k=none
 | [],k,_=>rfl
 | b::l,k,h=>by
  show (bif gD [47] (b::l) then some k else mc [47] l (k+1))=_
  rw [Ht,cd (fun e=>h b (by simp) e.symm),yH,index_none l (k+1) (fun x hx=>h x (by simp [hx]))]
def ZC:∀{l:List Nat},dc l=true->∀x,x∈l->48<=x/\x<=57
 | [],_,x,hx=>by simp at hx
 | b::l,h,x,hx=>by
  have h1:=YE h;simp only [dc,yg] at h;rcases wA.1 hx with rfl | hx
  ·grind
  ·exact ZC h.2 x hx
def agJ (z:Int):∀x,x∈aT z->x≠47:=fun x hx=>by
 rw [<-ns] at hx;rcases List.mem_append.1 hx with h | h
 ·grind
 ·have:=ZC (Ak _) x h;omega
def V1 (h:Tx P L) {a:Rat} (hl:(RT a).length<4000000000):∃r,ab P L 62 [.str (RT a)] r/\bS r a:=by
 have Fk:=agJ a.num;unfold RT at hl ⊢;by_cases hd:a.den=1
 ·rw [yM hd,xW] at hl ⊢;obtain ⟨p,e1,hp⟩:=JN h (z:=a.num) (by omega);obtain ⟨r,e2,hr⟩:=E7 h.toFr' hp;rw [<-Mk a hd] at hr;have bC:=hr;obtain ⟨s1,w1,rfl,h1⟩:=hp;obtain ⟨s2,w2,s3,w3,rfl,h2,h3⟩:=hr;obtain ⟨l1,u1⟩:=h1.aD;obtain ⟨l2,u2⟩:=h2.aD;obtain ⟨l3,u3⟩:=h3.aD;have e0:bF P L (D P L) 109 [.str (aT a.num),.str [47]]=some (.ap [.str (aT a.num),.str [],.bool false]):=by
   rw [iA h.TP];show (bif yK (aT a.num).length 4294967281 then (match mc [47] (aT a.num) 0 with | some i=>_ | none=>some (AV.ap [.str (aT a.num),.str [],.bool false])) else none)=_
   rw [jO (by omega),index_none _ _ Fk];rfl
  refine ⟨_,?_,bC⟩;unfold ab;rw [aA h.Pj];simp only [go_sem,ya,yc,OS,aO,e0,e1,bg,u1.ai,bw,e2,jy u2 u3,dt,du,yp,dJ,jP u2 u3]
 ·rw [yB hd] at hl ⊢;simp only [yR,yv] at hl;obtain ⟨p,e1,hp⟩:=JN h (z:=a.num) (by omega);obtain ⟨q,e2,hq⟩:=JN h (z:=(a.den:Int)) (by rw [jX];omega);rw [jX] at e2;obtain ⟨s1,w1,rfl,h1⟩:=hp;obtain ⟨s2,w2,rfl,h2⟩:=hq;obtain ⟨l1,u1⟩:=h1.aD;obtain ⟨l2,u2⟩:=h2.aD;have e0:bF P L (D P L) 109 [.str (aT a.num++47::aq a.den),.str [47]]=some (.ap [.str (aT a.num),.str (aq a.den),.bool true]):=by
   rw [iA h.TP];show (bif yK (aT a.num++47::aq a.den).length 4294967281 then (match mc [47] (aT a.num++47::aq a.den) 0 with | some i=>some (AV.ap [.str ((aT a.num++47::aq a.den).take i),.str ((aT a.num++47::aq a.den).drop (i+1)),.bool true]) | none=>_) else none)=_
   rw [jO (by simp;omega),W6 _ _ _ Fk];simp only [yf,yx,tc];rw [show (aT a.num).length+1=(aT a.num++[47]).length by simp,show aT a.num++47::aq a.den=(aT a.num++[47])++aq a.den by simp,td]
  refine ⟨.agg [aa s1,w1,aa s2,w2],?_,s1,w1,s2,w2,rfl,h1,h2⟩;unfold ab;rw [aA h.Pj];simp only [go_sem,ya,yc,OS,aO,e0,e1,e2,bg,u1.one,u2.one,Au,Aw,jy u1 u2,dt,du,yp,dJ,jP u1 u2]
end
def dC (p:List Nat):Bool:=dc p&&(match p with | []=>false | b::r=> !(yt b 48)||r.isEmpty)
def fo (p:List Nat):Nat:=(cL p 0).getD 0
def mz (neg:Bool) (t:List Nat):Int:=
 if dC (t.take (bH t))=false\/(neg=true/\t.take (bH t)=[48]) then 1
 else if bH t<t.length/\(dC (t.drop (bH t+1))=false\/t.drop (bH t+1)=[48]\/t.drop (bH t+1)=[49]) then 1
 else if 600<bH t\/600<t.length-bH t-1 then 4
 else if bH t<t.length/\wz (fo (t.take (bH t))) (fo (t.drop (bH t+1)))≠1 then 1
 else 0
def cr:List Nat->Int
 | []=>mz false []
 | b::t=>if b=45 then mz true t else mz false (b::t)
def ZD:∀{p:List Nat} (a:Nat),dc p=true->∃n,cL p a=some n
 | [],a,_=>⟨a,rfl⟩
 | b::r,a,h=>by
  have h':=h;simp only [dc,yg] at h';obtain ⟨n,hn⟩:=ZD (p:=r) (10*a+(b-48)) h'.2;exact ⟨n,by simp only [cL,h'.1.1,h'.1.2,wQ,yx];exact hn⟩
def DY:∀(k:Nat) {p:List Nat},p.length=k->dC p=true->aq (fo p)=p:=by
 intro k
 induction k with
 | zero=>intro p hl h;rw [yJ hl] at h;simp [dC] at h
 | succ k ih=>
  intro p hl h;rcases snoc p with rfl | ⟨m,a,rfl⟩
  ·grind
  ·simp only [dC,yg,K4] at h;obtain ⟨⟨h1,h2⟩,h3⟩:=h;simp only [dc,yg] at h2;have ha1:=yr h2.1.1;have ha2:=yr h2.1.2;obtain ⟨n,hn⟩:=ZD 0 h1;have hv:fo (m++[a])=10*n+(a-48):=by
    unfold fo;rw [HC,hn];simp only [xY,cL,h2.1.1,h2.1.2,wQ,yx,Option.getD_some]
   cases m with
   | nil=>
    have:n=0:=by simpa [cL] using hn.symm
    rw [hv,nn (by omega)]
    simp;omega
   | cons b r=>
    have hd:dC (b::r)=true:=by
     simp only [dC,h1,wP]
     cases r with
     | nil=>simp
     | cons c r=>simp at h3 ⊢;exact h3
    have hm:=ih (p:=b::r) (by simpa using hl) hd;have hnv:fo (b::r)=n:=by unfold fo;rw [hn];rfl
    rw [hnv] at hm;have lQ:n≠0:=fun e=>by
     rw [nn (by omega)] at hm
     simp_all
    rw [hv,ox (by omega),show (10*n+(a-48))/10=n by omega,show 48+(10*n+(a-48))%10=a by omega,hm]
def WD (t:List Nat):bH t<t.length->t=t.take (bH t)++47::t.drop (bH t+1):=by
 induction t with
 | nil=>simp
 | cons b r ih=>
  intro h;simp only [bH] at h ⊢
  grind
def YF {n:Int} {d:Nat} (hd:0<d) (hg:wz n.natAbs d=1):∃r:Rat,r.num=n/\r.den=d:=⟨⟨n,d,by omega,hg⟩,rfl,rfl⟩
def ary {s:List Nat} (h:cr s=0):∃r:Rat,s=RT r/\(aq r.num.natAbs).length<=600/\(aq r.den).length<=600:=by
 have key:∀(neg:Bool) (t:List Nat),mz neg t=0->∃r:Rat,(if neg=true then [45] else [])++t=RT r/\(aq r.num.natAbs).length<=600/\(aq r.den).length<=600:=by
  intro neg t h;unfold mz at h
  split at h
  ·grind
  rename_i h1
  split at h
  ·grind
  rename_i h2
  split at h
  ·grind
  rename_i h3
  split at h
  ·grind
  rename_i h4;have hle:=Hn t;have hp:dC (t.take (bH t))=true:=by
   cases hb:dC (t.take (bH t)) with
   | true=>rfl
   | false=>exact absurd (.inl hb) h1
  have qG:=DY _ rfl hp;generalize hn:fo (t.take (bH t))=n at*
  have atB:neg=true->n≠0:=fun hh e=>by
   subst e;exact h1 (.inr ⟨hh,by rw [<-qG];rfl⟩)
  have hint:(if neg=true then [45] else [])++aq n=aT (if neg=true then -(n:Int) else n):=by
   cases neg with
   | true=>
    have:=atB rfl
    simp only [xB];rw [lW (by omega)]
    simp
   | false=>simp [jX]
  have Uc:(if neg=true then -(n:Int) else n).natAbs=n:=by split<;>omega
  have hln:(aq n).length<=600:=by rw [qG,yT];omega
  by_cases hs:bH t<t.length
  ·have hq:dC (t.drop (bH t+1))=true:=by
    cases hb:dC (t.drop (bH t+1)) with
    | true=>rfl
    | false=>exact absurd ⟨hs,.inl hb⟩ h2
   have oh:=DY _ rfl hq;have hg:wz n (fo (t.drop (bH t+1)))=1:=by
    grind
   have j9:=WD t hs;have FY:(t.drop (bH t+1)).length<=600:=by rw [xN];omega
   rw [<-oh] at j9 FY;have fW:fo (t.drop (bH t+1))≠0:=fun e=>by
    rw [e] at oh;exact h2 ⟨hs,.inr (.inl (by rw [<-oh];rfl))⟩
   have kF:fo (t.drop (bH t+1))≠1:=fun e=>by
    rw [e] at oh;exact h2 ⟨hs,.inr (.inr (by rw [<-oh];rfl))⟩
   generalize fo (t.drop (bH t+1))=d at*
   obtain ⟨r,bW,eE⟩:=YF (n:=if neg=true then -(n:Int) else n) (d:=d) (by omega) (by rw [Uc];exact hg)
   refine ⟨r,?_,by rw [bW,Uc];exact hln,by rw [eE];exact FY⟩
   unfold RT;rw [bW,eE,yB kF,<-hint,xr]
   congr 1
   rw [qG];exact j9
  ·have ht:t.take (bH t)=t:=yN (by omega);rw [ht] at qG;obtain ⟨r,bW,eE⟩:=YF (n:=if neg=true then -(n:Int) else n) (d:=1) (by omega) (Nat.gcd_one_right _);refine ⟨r,?_,by rw [bW,Uc];exact hln,by rw [eE];decide⟩
   unfold RT;rw [bW,eE,yM rfl,<-hint,xW,qG]
 cases s with
 | nil=>exact absurd h (by decide)
 | cons b t=>
  simp only [cr] at h
  split at h
  ·rename_i hb;subst hb;exact key true t h
  ·exact key false (b::t) h
namespace Nd
structure Ord (n:Nat) (l:List Int):Prop where
 len:l.length=n
 pc:∀a,a<n->0<=l.getD a 0/\l.getD a 0<n
 inj:∀a b,a<n->b<n->l.getD a 0=l.getD b 0->a=b
end Nd
namespace Nd
open Go (IntKind)
section
variable {P:aG} {L:Lib}
abbrev ab (P:aG) (L:Lib) (f:Nat) (vals:List AV) (r:AV):Prop:=bF P L (D P L) f vals=some r
def zE (h:Has P L 124 ER) (b:Bool) (n:Int):ab P L 124 [.bool b,aa n] (aa (if b=true then n else 0)):=by
 unfold ab;rw [aA h]
 cases b with
 | true=>simp only [go_sem,ya,ER,xB]
 | false=>simp only [go_sem,ya,ER];rfl
def avm (h:Has P L 125 Nw) {v:AV} {l:List Int} (hv:a8 v l) (hl:l.length<=1000000):ab P L 125 [v] (aa (bX l)):=by
 unfold ab;rw [aA h];simp only [go_sem,ya,Nw,hv.len];have key:=HA (P:=P) (L:=L) (live:=[5,6,7]) (a:=Mt)
  (I:=fun k s=>∃tm ct i,s=⟨tm,[],ct,0⟩/\aj tm 5=v/\aj tm 6=aa l.length/\aj tm 7=aa (i:Nat)/\i+k=l.length/\bX (l.drop i)=bX l)
  (Q:=fun ex s=>∃tm,s=⟨tm,[],0,0⟩/\((ex= .ret/\aj tm 2=aa (bX l))\/(ex= .exit 0/\bX l=0))) ?_ l.length
 ·generalize hq:D P L (.loop [5,6,7] Mt) _=q;obtain ⟨ex,s,rfl,tm,rfl,h2⟩:=bI hq key ⟨_,_,0,rfl,rfl,rfl,rfl,by omega,rfl⟩;rcases h2 with ⟨rfl,h2⟩ | ⟨rfl,h2⟩
  ·simp only [go_sem,h2]
  ·rw [h2];simp only [go_sem]
 ·rintro k s ⟨tm,ct,i,rfl,h5,h6,h7,hk,hf⟩;rw [KY (by simp only [go_sem,h5,h6,h7,hv.pu])];simp only [go_sem,ya,h5,h6,h7,Mt];by_cases hi:i<l.length
  ·have cD:(i:Int)<l.length:=by omega
   rw [PI hi] at hf;by_cases hz:l[i]=0
   ·left
    simp only [go_sem,ya,cD,hv.bn hi,hz];refine ⟨_,k-1,rfl,by omega,_,_,i+1,rfl,?_⟩;rw [wrap64 (by omega) (by omega)];rw [yM hz] at hf;simp only [go_sem,ya];exact ⟨trivial,trivial,rfl,by omega,hf⟩
   ·right
    simp only [go_sem,ya,cD,hv.bn hi,hz];rw [yB hz] at hf;refine ⟨_,_,rfl,by simp,_,rfl,.inl ⟨rfl,?_⟩⟩;simp only [go_sem,hf]
  ·right
   have cD:¬(i:Int)<l.length:=by omega
   simp only [go_sem,cD];refine ⟨_,_,rfl,by simp,_,rfl,.inr ⟨rfl,?_⟩⟩;rw [<-hf,y5 (by omega)];rfl
end
end Nd
def ZE (i:Nat):EQ i [48,49,50,51,52,53,54,55,56,57]=(yG 48 i&&yG i 57):=by
 by_cases h:48<=i/\i<=57
 ·obtain ⟨h1,h2⟩:=h;obtain ⟨k,rfl⟩:∃k,i=48+k:=⟨i-48,by omega⟩;rcases (show k=0\/k=1\/k=2\/k=3\/k=4\/k=5\/k=6\/k=7\/k=8\/k=9 by omega) with rfl | rfl | rfl | rfl | rfl | rfl | rfl | rfl | rfl | rfl<;>rfl
 ·have e:(yG 48 i&&yG i 57)=false:=by
   cases h1:yG 48 i with
   | false=>rfl
   | true=>
    cases h2:yG i 57 with
    | false=>rfl
    | true=>exact absurd ⟨yr h1,yr h2⟩ h
  rw [e];have ne:∀c,48<=c->c<=57->yt c i=false:=fun c h1 h2=>cd (by omega)
  simp only [EQ,ne 48 (by decide) (by decide),ne 49 (by decide) (by decide),ne 50 (by decide) (by decide),ne 51 (by decide) (by decide),ne 52 (by decide) (by decide),ne 53 (by decide) (by decide),ne 54 (by decide) (by decide),ne 55 (by decide) (by decide),ne 56 (by decide) (by decide),ne 57 (by decide) (by decide),yH]
def Qm:∀l:List Nat,kN [48,49,50,51,52,53,54,55,56,57] l=[]↔dc l=true
 | []=>by simp [kN,dc]
 | b::r=>by
  simp only [kN,dc,ZE]
  cases hb:(yG 48 b&&yG b 57) with
  | true=>simp only [yx,wP];exact Qm r
  | false=>simp
def LZ:∀l:List Nat,dc l.reverse=dc l
 | []=>rfl
 | b::r=>by rw [yaa,K4,LZ r];simp [dc,Bool.and_comm]
def WJ:∀l:List Nat,dc l=false->dc (kN [48,49,50,51,52,53,54,55,56,57] l)=false
 | [],h=>by simp [dc] at h
 | b::r,h=>by
  simp only [kN,ZE]
  cases hb:(yG 48 b&&yG b 57) with
  | true=>
   simp only [dc,hb,wP] at h;exact WJ r h
  | false=>simp only [yH];exact h
def amy (p:List Nat):cP (kN [48,49,50,51,52,53,54,55,56,57] (kN [48,49,50,51,52,53,54,55,56,57] p.reverse).reverse) []=dc p:=by
 cases hd:dc p with
 | true=>
  have h1:=(Qm p.reverse).2 (by rw [LZ];exact hd)
  rw [h1];rfl
 | false=>
  have h1:=WJ p.reverse (by rw [LZ];exact hd)
  have h2:dc (kN [48,49,50,51,52,53,54,55,56,57] p.reverse).reverse=false:=by rw [LZ];exact h1
  cases hq:kN [48,49,50,51,52,53,54,55,56,57] (kN [48,49,50,51,52,53,54,55,56,57] p.reverse).reverse with
  | nil=>have:=(Qm _).1 hq;rw [h2] at this;exact absurd this (by decide)
  | cons b r=>rfl
def WK:∀(t:List Nat) (k:Nat),mc [47] t k=if bH t<t.length then some (k+bH t) else none
 | [],k=>by simp [mc,gD,bH]
 | b::r,k=>by
  by_cases hb:b=47
  ·subst hb;have e:bH (47::r)=0:=by simp [bH]
   rw [e,yM (by simp)];rfl
  ·have e:bH (b::r)=bH r+1:=by simp [bH,hb]
   have hp:gD [47] (b::r)=false:=by rw [Ht];exact cd (fun e=>hb e.symm)
   rw [e,mc,hp,yH,WK r (k+1)]
   grind
def Cc (a b:List Nat):binOp .neq (.str a) (.str b)=some (.bool (!(cP a b))):=rfl
structure Ck (P:aG) (L:Lib):Prop extends Tx P L where
 avn:L.pure 128=some Lc
 avo:L.pure 162=some trimS
 h86:Has P L 86 fe
 C8:Has P L 124 ER
 avp:Has P L 125 Nw
 avq:Has P L 129 ES
section
variable {P:aG} {L:Lib}
def zE (h:Has P L 124 ER) (b:Bool) (n:Int):ab P L 124 [.bool b,aa n] (aa (if b=true then n else 0)):=Nd.zE h b n
def adV (h:Ck P L) {p:List Nat} (hl:p.length<=4000000000):ab P L 129 [.str p] (.bool (dC p)):=by
 have e1:bF P L (D P L) 162 [.str p,.str [48,49,50,51,52,53,54,55,56,57]]=some (.str (kN [48,49,50,51,52,53,54,55,56,57] (kN [48,49,50,51,52,53,54,55,56,57] p.reverse).reverse)):=by
  rw [iA h.avo];show (bif Ed [48,49,50,51,52,53,54,55,56,57]&&(yK p.length 4294967281&&yK 10 4294967281) then _ else none)=_
  rw [jO (by omega)];rfl
 have e2:=amy p;unfold ab;rw [aA h.avq]
 match p,e1,e2 with
 | [],_,_=>
  simp only [go_sem,ya,ES,Cc,show cP [] []=true from rfl,yQ];rfl
 | b::r,e1,e2=>
  have hI:mP 0 (.str (b::r))=some (.int .u8 (b:Nat)):=rfl;have h0:cP (b::r) []=false:=rfl;have hd:dC (b::r)=(dc (b::r)&&(!(yt b 48)||r.isEmpty)):=rfl;rw [hd]
  cases lc:dc (b::r) with
  | false=>
   rw [lc] at e2;simp only [go_sem,ya,ES,Cc,h0,yP,e1,jZ,e2,wN]
  | true=>
   rw [lc] at e2;by_cases hb:b=48
   ·subst hb;have e3:cP (48::r) [48]=r.isEmpty:=by
     cases r with
     | nil=>rfl
     | cons c r=>rfl
    have UR:mP 0 (.str (48::r))=some (.int .u8 48):=rfl;simp only [go_sem,ya,ES,Cc,h0,yP,e1,jZ,e2,UR,yq,yQ,e3];rfl
   ·have:yt b 48=false:=cd hb
    rw [this];simp only [go_sem,ya,ES,Cc,h0,yP,e1,jZ,e2,hI,show ¬((b:Nat):Int)=48 by omega,yu,yP];rfl
def avr (h:Ck P L) (s:List Nat):bF P L (D P L) 128 [.str s,.str [45]]=some (if s.head? =some 45 then .ap [.str s.tail,.bool true] else .ap [.str s,.bool false]):=by
 rw [iA h.avn];show some (bif gD [45] s then AV.ap [.str (s.drop 1),.bool true] else .ap [.str s,.bool false])=_
 cases s with
 | nil=>rfl
 | cons b r=>
  by_cases hb:b=45
  ·subst hb;rfl
  ·have:gD [45] (b::r)=false:=by rw [Ht];exact cd (fun e=>hb e.symm)
   grind
def avt (h:Ck P L) {t:List Nat} (hl:t.length<=4000000000):bF P L (D P L) 109 [.str t,.str [47]]=some (.ap [.str (t.take (bH t)),.str (t.drop (bH t+1)),.bool (decide (bH t<t.length))]):=by
 rw [iA h.TP];show (bif yK t.length 4294967281 then (match mc [47] t 0 with | some i=>some (AV.ap [.str (t.take i),.str (t.drop (i+1)),.bool true]) | none=>some (AV.ap [.str t,.str [],.bool false])) else none)=_
 rw [jO (by omega),WK];by_cases hs:bH t<t.length
 ·grind
 ·rw [yB hs,yX hs,yN (by omega),y5 (by omega)];rfl
def ain {P:aG} {L:Lib} (a b c d:VC) (s:St):D P L (.seq a (.seq b (.seq c d))) s=mR P L (D P L (.seq a (.seq b c)) s) d:=by
 have e:=B4 (P:=P) (L:=L) b c d;rw [iE,iE]
 cases D P L a s with
 | none=>rfl
 | some q=>
  obtain ⟨ex,st⟩:=q
  cases ex with
  | normal=>rw [fF,fF];exact e st
  | ret=>rfl
  | exit id=>rfl
def akd {P:aG} {L:Lib} (a b c d f:VC) (s:St):D P L (.seq a (.seq b (.seq c (.seq d f)))) s=mR P L (D P L (.seq a (.seq b (.seq c d))) s) f:=by
 have e:=ain (P:=P) (L:=L) b c d f;rw [iE,iE]
 cases D P L a s with
 | none=>rfl
 | some q=>
  obtain ⟨ex,st⟩:=q
  cases ex with
  | normal=>rw [fF,fF];exact e st
  | ret=>rfl
  | exit id=>rfl
def Mn {a b:List Nat} (h:a=b):cP a b=true:=by
 subst h
 induction a with
 | nil=>rfl
 | cons x a ih=>simp [cP,ih]
def Rj {a b:List Nat} (h:a≠b):cP a b=false:=by
 cases hb:cP a b with
 | false=>rfl
 | true=>
  exact absurd (by
   clear h;revert b
   induction a with
   | nil=>intro b hb;cases b with | nil=>rfl | cons y b=>simp [cP] at hb
   | cons x a ih=>
    intro b hb
    cases b with
    | nil=>simp [cP] at hb
    | cons y b=>
     simp only [cP,yg] at hb
     rw [yk hb.1,ih hb.2]) h
def atD (h:Ck P L) {p q:List Nat} {ok found:Bool} (lp:p.length<=1000000000) (lq:q.length<=1000000000) (fY:ok=true->dC p=true/\(found=true->dC q=true)) {tm:Env} (t5:aj tm 5= .str p) (t6:aj tm 6= .str q) (t7:aj tm 7= .bool found) (t8:aj tm 8= .bool ok):
  dV [.t 2] (D P L (aw (aw (aw (aw (aw fe.body))))) ⟨tm,[],0,0⟩)=some (aa (
   if ok=false then 1
   else if 600<p.length\/600<q.length then 4
   else if found=true/\wz (fo p) (fo q)≠1 then 1
   else 0)):=by
 have w1:=zE h.C8 (!ok) 1;have Pp:∀a b:Int,ab P L 125 [.aC true 2 [aa a,aa b]] (aa (bX [a,b])):=fun a b=>Nd.avm h.avp (gZ true [a,b]) (by simp)
 cases ok with
 | false=>
  have f1:=Pp 1 0;have f2:=Pp 1 4;have w2:=zE h.C8 false 4;have w3:=zE h.C8 true 4;simp only [yP,xB,yD,xk] at w1 w2 w3;rw [show bX [1,0]=1 by decide] at f1;rw [show bX [1,4]=1 by decide] at f2;unfold ab at w1 w2 w3 f1 f2;by_cases h1:600<p.length
  ·simp only [go_sem,ya,yc,yE,ym,yj,fe,aw,show ¬(1:Int)=0 by decide,yP,t5,t8,yP,w1,show (600:Int)<(p.length:Int) by omega,yq,w3,f2,yu]
   simp
  ·by_cases h2:600<q.length
   ·simp only [go_sem,ya,yc,yE,ym,yj,fe,aw,show ¬(1:Int)=0 by decide,yP,t5,t6,t8,yP,w1,show ¬(600:Int)<(p.length:Int) by omega,show (600:Int)<(q.length:Int) by omega,yq,yu,w3,f2]
    simp
   ·simp only [go_sem,ya,yc,yE,ym,yj,fe,aw,show ¬(1:Int)=0 by decide,yP,t5,t6,t8,yP,w1,show ¬(600:Int)<(p.length:Int) by omega,show ¬(600:Int)<(q.length:Int) by omega,yu,w2,f1]
    simp
 | true=>
  obtain ⟨hp,hq⟩:=fY rfl;have f1:=Pp 0 0;have f2:=Pp 0 4;have w2:=zE h.C8 false 4;have w3:=zE h.C8 true 4;have w4:=zE h.C8 false 1;have w5:=zE h.C8 true 1;simp only [yQ,xB,yD,xk] at w1 w2 w3 w4 w5;rw [show bX [0,0]=0 by decide] at f1;rw [show bX [0,4]=4 by decide] at f2;unfold ab at w1 w2 w3 w4 w5 f1 f2;rw [yB (by decide)];by_cases h1:600<p.length
  ·rw [yM (.inl h1)];simp only [go_sem,ya,yc,yE,ym,yj,fe,aw,show ¬(4:Int)=0 by decide,yP,t5,t8,yQ,w1,show (600:Int)<(p.length:Int) by omega,yq,w3,f2,yu]
  ·by_cases h2:600<q.length
   ·rw [yM (.inr h2)];simp only [go_sem,ya,yc,yE,ym,yj,fe,aw,show ¬(4:Int)=0 by decide,yP,t5,t6,t8,yQ,w1,show ¬(600:Int)<(p.length:Int) by omega,show (600:Int)<(q.length:Int) by omega,yq,yu,w3,f2]
   ·rw [yB (by omega)]
    cases found with
    | false=>
     rw [yB (by simp)];simp only [go_sem,ya,yc,yE,ym,yj,fe,aw,t5,t6,t7,t8,yQ,w1,show ¬(600:Int)<(p.length:Int) by omega,show ¬(600:Int)<(q.length:Int) by omega,yq,yu,w2,f1]
    | true=>
     have qG:=DY _ rfl hp;have oh:=DY _ rfl (hq rfl);generalize fo p=n at*
     generalize fo q=d at*
     subst qG;subst oh;obtain ⟨M,hM⟩:∃M:Nat,M=2400:=⟨_,rfl⟩;have bd:∀{m:Nat},(aq m).length<=600->Bd M (m:Int):=fun {m} hm=>by
      have h1:=HQ m;have h2:=HS (aq m).length;have h3:(2:Nat)^(4*(aq m).length)<=2^M:=yV (by decide) (by omega);unfold Bd;rw [xq];exact yA h1 (xg h2 h3)
     obtain ⟨x,e1,hx⟩:=JN h.toTx (z:=(n:Int)) (by rw [jX];omega);obtain ⟨y,e2,hy⟩:=JN h.toTx (z:=(d:Int)) (by rw [jX];omega);rw [jX] at e1 e2;have kn:=bd (m:=n) (by omega);have kd:=bd (m:=d) (by omega);obtain ⟨g,e3,hg⟩:=adM h.toNu hx hy kn kd (by omega);obtain ⟨e4,Br⟩:=zC h.toNu (z:=1) (by decide) (by decide);have kg:Bd M ((wR (n:Int) (d:Int):Nat):Int):=by
      rcases xn d with h0 | h0
      ·subst h0;simpa using kn
      ·exact kd.le (by have:=Nat.gcd_le_right n h0;simpa using this)
     have e5:=adI h.toNu hg Br (K:=M) kg (by unfold Bd;exact wD (by omega)) (by omega)
     have avu:wR (n:Int) (d:Int)=wz n d:=rfl;rw [avu] at e5;obtain ⟨xs,xw,rfl,sC⟩:=hx;obtain ⟨ys,yw,rfl,sD⟩:=hy;obtain ⟨gs,gw,rfl,DF⟩:=hg;obtain ⟨l1,u1⟩:=sC.aD;obtain ⟨l2,u2⟩:=sD.aD;obtain ⟨l3,u3⟩:=DF.aD;by_cases ik:wz n d=1
     ·rw [yB (by simp [ik])];have hs:bN (((wz n d:Nat):Int)-1)=0:=by rw [ik];rfl
      rw [hs] at e5;simp only [go_sem,ya,yc,yE,ym,yj,fe,aw,t5,t6,t7,t8,yQ,w1,show ¬(600:Int)<((aq n).length:Int) by omega,show ¬(600:Int)<((aq d).length:Int) by omega,yq,yu,w2,f1,e1,e2,u1.ai,u2.ai,u3.ai,bg,bw,e3,e4,e5]
     ·rw [yM ⟨rfl,ik⟩];obtain ⟨c,hc,kW⟩:∃c,bN (((wz n d:Nat):Int)-1)=c/\c≠0:=⟨_,rfl,fun e=>ik (by
       unfold bN at e
       split at e
       ·exact absurd e (by decide)
       ·split at e
        ·omega
        ·exact absurd e (by decide))⟩
      rw [hc] at e5;simp only [go_sem,ya,yc,yE,ym,yj,fe,aw,yP,t5,t6,t7,t8,yQ,w1,show ¬(600:Int)<((aq n).length:Int) by omega,show ¬(600:Int)<((aq d).length:Int) by omega,yq,yu,w2,f1,e1,e2,u1.ai,u2.ai,u3.ai,bg,bw,e3,e4,e5,kW,yP,w5]
def Pq (h:Ck P L) {s:List Nat} (hl:s.length<=1000000000):ab P L 86 [.str s] (aa (cr s)):=by
 have key:∀(neg:Bool) (t:List Nat),t.length<=1000000000->bF P L (D P L) 128 [.str s,.str [45]]=some (.ap [.str t,.bool neg])->ab P L 86 [.str s] (aa (mz neg t)):=by
  intro neg t hl e0;have e1:=avt h (t:=t) (by omega);obtain ⟨k,hk⟩:∃k,k=bH t:=⟨_,rfl⟩;have V2:k<=t.length:=by rw [hk];exact Hn t
  have e2:=adV h (p:=t.take k) (by rw [yT];omega);have e3:=adV h (p:=t.drop (k+1)) (by rw [xN];omega);have lp:(t.take k).length=k:=by rw [yT];omega
  have lq:(t.drop (k+1)).length=t.length-k-1:=by rw [xN];omega
  unfold mz;rw [<-hk] at e1 ⊢;generalize hp:t.take k=p at*
  generalize hq:t.drop (k+1)=q at*
  obtain ⟨BN,rJ⟩:∃ok:Bool,ok=(dC p&&(!neg|| !(cP p [48]))):=⟨_,rfl⟩;obtain ⟨ok,fY⟩:∃ok:Bool,ok=(BN&&(!(decide (k<t.length))||(dC q&&(!(cP q [48])&& !(cP q [49]))))):=⟨_,rfl⟩
  have my:(if dC p=false\/(neg=true/\p=[48]) then 1
    else if k<t.length/\(dC q=false\/q=[48]\/q=[49]) then 1
    else if 600<k\/600<t.length-k-1 then 4
    else if k<t.length/\wz (fo p) (fo q)≠1 then 1 else 0:Int)=(if ok=false then 1
    else if 600<p.length\/600<q.length then 4
    else if decide (k<t.length)=true/\wz (fo p) (fo q)≠1 then 1
    else 0):=by
   rw [lp,lq];have a1:(dC p=false\/(neg=true/\p=[48]))↔BN=false:=by
    rw [rJ];cases dC p<;>cases neg<;>simp
    by_cases e:p=[48]
    ·simp [e,Mn]
    ·simp [e,Rj e]
   have a2:ok=false↔(BN=false\/(k<t.length/\(dC q=false\/q=[48]\/q=[49]))):=by
    rw [fY];by_cases hs:k<t.length
    ·simp only [hs,yq,yQ,uj,tJ];cases BN<;>cases dC q<;>simp
     by_cases e:q=[48]
     ·simp [e,Mn]
     ·by_cases e':q=[49]
      ·simp [e',Mn]
      ·simp [e,e',Rj e,Rj e']
    ·simp [hs]
   by_cases h1:BN=false
   ·rw [yM (a1.2 h1),yM (a2.2 (.inl h1))]
   ·rw [yB (fun e=>h1 (a1.1 e))];by_cases h2:k<t.length/\(dC q=false\/q=[48]\/q=[49])
    ·rw [yM h2,yM (a2.2 (.inr h2))]
    ·rw [yB h2,yB (fun e=>(a2.1 e).elim h1 h2)];simp only [uV]
  rw [my];have avv:ok=true->dC p=true/\(decide (k<t.length)=true->dC q=true):=fun e=>by
   rw [fY,yg] at e;obtain ⟨e1,e2⟩:=e;rw [rJ,yg] at e1;refine ⟨e1.1,fun hs=>?_⟩;rw [hs,yQ,uj,yg] at e2;exact e2.1
  have tail:∀tm,aj tm 5= .str p->aj tm 6= .str q->aj tm 7= .bool (decide (k<t.length))->aj tm 8= .bool ok->dV [.t 2] (D P L (aw (aw (aw (aw (aw fe.body))))) ⟨tm,[],0,0⟩)=_:=fun tm t5 t6 t7 t8=>
   atD h (by omega) (by omega) avv t5 t6 t7 t8
  have mid:∀tm,aj tm 5= .str p->aj tm 6= .str q->aj tm 7= .bool (decide (k<t.length))->aj tm 8= .bool BN->
    ∃tm',D P L (a6 (aw (aw (aw (aw fe.body))))) ⟨tm,[],0,0⟩=some (.normal,⟨tm',[],0,0⟩)/\aj tm' 5= .str p/\aj tm' 6= .str q/\aj tm' 7= .bool (decide (k<t.length))/\aj tm' 8= .bool ok:=fun tm t5 t6 t7 t8=>by
   unfold ab at e3;by_cases hs:k<t.length
   ·rw [xp hs] at t7 fY ⊢;simp only [yQ,uj] at fY
    cases BN with
    | false=>
     rw [wN] at fY;subst fY;refine ⟨_,by simp only [go_sem,ya,fe,a6,aw,t7,t8]<;>rfl,?_⟩
     simp only [go_sem,ya,t5,t6,t7,tJ]
    | true=>
     rw [wP] at fY
     cases hd:dC q with
     | false=>
      rw [hd] at e3 fY;rw [wN] at fY;subst fY;refine ⟨_,by simp only [go_sem,ya,fe,a6,aw,t6,t7,t8,e3]<;>rfl,?_⟩
      simp only [go_sem,ya,t5,t6,t7,tJ]
     | true=>
      rw [hd] at e3 fY;rw [wP] at fY
      cases jF:cP q [48] with
      | true=>
       rw [jF,yQ,wN] at fY;subst fY;refine ⟨_,by simp only [go_sem,ya,fe,a6,aw,t6,t7,t8,e3,Cc,jF,yQ]<;>rfl,?_⟩
       simp only [go_sem,ya,t5,t6,t7,tJ]
      | false=>
       rw [jF,yP,wP] at fY;subst fY;refine ⟨_,by simp only [go_sem,ya,fe,a6,aw,t6,t7,t8,e3,Cc,jF,yP]<;>rfl,?_⟩
       simp only [go_sem,ya,t5,t6,t7,tJ]
   ·rw [yX hs] at t7 fY ⊢;simp only [yP,tZ,vn] at fY;subst fY;refine ⟨_,by simp only [go_sem,fe,a6,aw,t7]<;>rfl,?_⟩
    simp only [go_sem,ya,t5,t6,t7,t8,tJ]
  have fin:∀tm,aj tm 5= .str p->aj tm 6= .str q->aj tm 7= .bool (decide (k<t.length))->aj tm 8= .bool BN->
    D P L (.seq (a6 fe.body) (.seq (a6 (aw fe.body)) (.seq (a6 (aw (aw fe.body))) (a6 (aw (aw (aw fe.body))))))) ⟨[(0,.str s)],[],0,0⟩=some (.normal,⟨tm,[],0,0⟩)->ab P L 86 [.str s] _:=fun tm t5 t6 t7 t8 e=>by
   obtain ⟨tm',e',f5,f6,f7,f8⟩:=mid tm t5 t6 t7 t8;unfold ab;rw [aA h.h86];show dV [.t 2] (D P L (.seq (a6 fe.body) (.seq (a6 (aw fe.body)) (.seq (a6 (aw (aw fe.body))) (.seq (a6 (aw (aw (aw fe.body)))) (.seq (a6 (aw (aw (aw (aw fe.body))))) (aw (aw (aw (aw (aw fe.body)))))))))) ⟨[(0,.str s)],[],0,0⟩)=_
   rw [akd,e,fF,iE,e',fF];exact tail tm' f5 f6 f7 f8
  unfold ab at e2
  cases hd:dC p with
  | false=>
   rw [hd] at e2 rJ;rw [wN] at rJ;subst rJ;refine fin _ ?_ ?_ ?_ ?_ (by simp only [go_sem,ya,fe,a6,aw,e0,e1,e2]<;>rfl)<;>simp only [go_sem,ya]
  | true=>
   rw [hd] at e2 rJ
   cases neg with
   | false=>
    simp only [yP,tZ] at rJ;subst rJ;refine fin _ ?_ ?_ ?_ ?_ (by simp only [go_sem,ya,fe,a6,aw,e0,e1,e2,yP]<;>rfl)<;>simp only [go_sem,ya]
   | true=>
    simp only [yQ,uj] at rJ;subst rJ;refine fin _ ?_ ?_ ?_ ?_ (by simp only [go_sem,ya,fe,a6,aw,e0,e1,e2,yQ,Cc]<;>rfl)<;>simp only [go_sem,ya]
 unfold cr;have e0:=avr h s
 cases s with
 | nil=>exact key false [] (by simp) e0
 | cons b r=>
  by_cases hb:b=45
  ·subst hb;exact key true r (by simp at hl;omega) e0
  ·simp only [hb,xk];rw [yB (by simpa using hb)] at e0;exact key false (b::r) hl e0
end
def LN (z:Int):Bool:=decide (600<(aq z.natAbs).length)
def LG (r:Rat):Bool:=LN r.num||LN (r.den:Int)
def P1 {m B k:Nat} (hB:B<=3*k) (hk:0<k) (h:m<2^B):(aq m).length<=k:=by
 obtain ⟨j,rfl⟩:∃j,k=j+1:=⟨k-1,by omega⟩;refine pP (yA h (xg (yV (by decide) hB) ?_));rw [tU];exact vm (by decide) _
def Mo:∀f n:Nat,dw f n<=f
 | 0,_=>yz _
 | f+1,n=>by
  unfold dw
  cases yt n 0 with
  | true=>exact tu _
  | false=>have:=Mo f (n/2);simp only [yH];omega
def abf {P:aG} {L:Lib} {f:cw} (h:L.pure 175=some HY) {x:Nat} (hx:x<18446744073709551616):bF P L f 175 [uc x]=some (aa (dw 64 x:Nat)):=by
 rw [iA h];show (bif yK x 18446744073709551616 then _ else none)=_
 rw [jO hx];rfl
def aau {V n top low:Nat} (hn:0<n) (h0:0<top) (ht:top<18446744073709551616) (hV:V=low+18446744073709551616^(n-1)*top) (hl:low<18446744073709551616^(n-1)):V<2^(64*(n-1)+dw 64 top):=by
 obtain ⟨l1,l2,l3⟩:=QK h0 ht;have hle:=Mo 64 top;have h1:top<2^dw 64 top:=by
  have e:(18446744073709551616:Nat)=2^dw 64 top*2^(64-dw 64 top):=by rw [<-xP,show dw 64 top+(64-dw 64 top)=64 by omega]
  rw [e] at l3;exact Nat.lt_of_mul_lt_mul_right l3
 have h3:=yU (18446744073709551616^(n-1)) (show top+1<=2^dw 64 top from h1);rw [xP,tU]
 grind
section
variable {P:aG} {L:Lib}
def ZF (K:Nat):2^K<=18446744073709551616^(K/64+1):=by
 rw [show (18446744073709551616:Nat)=2^64 from rfl,<-tU];exact yV (by decide) (by omega)
def atE (h:Tx P L) {v:AV} {z:Int} {K:Nat} (hv:cp v z) (hz:Bd K z) (hK:K<=4000000000):∃B:Nat,ab P L 172 [v] (aa B)/\z.natAbs<2^B/\B<=K+64:=by
 obtain ⟨s,w,rfl,hn⟩:=hv;obtain ⟨l,u⟩:=hn.aD;obtain ⟨r,e1,hr⟩:=rF h.toNu hn;obtain ⟨ws,hw,g,KI,hb⟩:=hr;have hl:ws.length<=K/64+1:=mX KI hb (yA hz (ZF K));unfold ab at e1 ⊢;by_cases h0:ws=[]
 ·subst h0;have kZ:z.natAbs=0:=by rw [<-hb];rfl
  refine ⟨0,?_,by rw [kZ];decide,by omega⟩
  rw [aA h.TQ];simp only [go_sem,ya,yc,Jg,aO,bV,bw,u.pu,u.ai,u.one,e1,hw.len,yI,show ((0:Nat):Int)=0 from rfl,yq]
 ·have hp:0<ws.length:=vL.2 h0;have kP:=Hy KI h0;have qD:=gC (show 0<18446744073709551616 by decide) g (ws.length-1);have ei:=hw.bn (i:=ws.length-1) (by omega);have dz:=iW (b:=18446744073709551616) (l:=ws) (ws.length-1);have Bc:=lD (sT g (ws.length-1));rw [yT,xD (by omega)] at Bc;rw [show ws.length-1+1=ws.length by omega,yN (yz _)] at dz;generalize ws.getD (ws.length-1) 0=top at*
  have e2:=abf (P:=P) (f:=D P L) h.adO qD;have hle:=Mo 64 top;have CG:=aau hp (Nat.pos_of_ne_zero kP) qD dz Bc;rw [hb] at CG;refine ⟨64*(ws.length-1)+dw 64 top,?_,CG,by omega⟩;rw [aA h.TQ]
  simp only [go_sem,ya,yc,Jg,aO,bV,bw,u.pu,u.ai,u.one,e1,hw.len,show ¬(ws.length:Int)=0 by omega,show (ws.length:Int)-1=((ws.length-1:Nat):Int) by omega,wrapN (n:=ws.length-1) (by omega),show (64:Int)*((ws.length-1:Nat):Int)=((64*(ws.length-1):Nat):Int) by omega,wrapN (n:=64*(ws.length-1)) (by omega),ei,e2,show ((64*(ws.length-1):Nat):Int)+((dw 64 top:Nat):Int)=((64*(ws.length-1)+dw 64 top:Nat):Int) from rfl,wrapN (n:=64*(ws.length-1)+dw 64 top) (by omega)]
def avw (h:Tx P L) {v:AV} {z:Int} {K:Nat} (hv:cp v z) (hz:Bd K z) (hK:K<=4000000000):∃B:Nat,ab P L 172 [v] (aa B)/\z.natAbs<2^B/\B<=300000000000:=by
 obtain ⟨B,h1,h2,h3⟩:=atE h hv hz hK;exact ⟨B,h1,h2,by omega⟩
def ake (z:Int):(if gD [45] (aT z)=true then (aT z).drop 1 else aT z)=aq z.natAbs:=by
 by_cases h:z<0
 ·rw [lW h];rfl
 ·obtain ⟨m,rfl⟩:∃m:Nat,z=m:=⟨z.toNat,by omega⟩;rw [jX];obtain ⟨b,r,hb,h1,_⟩:=DX m;rw [xq,hb,Ql h1];rfl
def adW (h:Tx P L) {v:AV} {z:Int} {K:Nat} (hv:cp v z) (hz:Bd K z) (hK:K<=4000000000):ab P L 151 [v] (.bool (LN z)):=by
 obtain ⟨B,e1,hB,hBb⟩:=avw h hv hz hK;have e2:=VS h hv hz hK;obtain ⟨s,w,rfl,hn⟩:=hv;obtain ⟨l,u⟩:=hn.aD;have e3:bF P L (D P L) 153 [.str (aT z),.str [45]]=some (.str (aq z.natAbs)):=by
  rw [iA h.TN,<-ake];show some (AV.str (bif gD [45] (aT z) then (aT z).drop 1 else aT z))=_
  cases gD [45] (aT z)<;>rfl
 unfold ab at e1 e2 ⊢;rw [aA h.avh];unfold LN;by_cases h1:1800<B
 ·simp only [go_sem,ya,yc,Nz,aO,bV,bw,u.pu,u.ai,u.one,e1,show (1800:Int)<(B:Int) by omega,yq,e2,e3];by_cases h2:600<(aq z.natAbs).length
  ·rw [xp h2,xp (by omega)]
  ·rw [yX h2,yX (by omega)]
 ·have h2:=P1 (k:=600) (by omega) (by decide) hB;rw [yX (by omega)];simp only [go_sem,ya,yc,Nz,aO,bV,bw,u.pu,u.ai,u.one,e1,show ¬(1800:Int)<(B:Int) by omega,yu]
def avx (h:Tx P L) {v:AV} {a:Rat} {K:Nat} (hv:bS v a) (ka:Hq K a) (hK:K<=4000000000):ab P L 107 [v] (.bool (LG a)):=by
 obtain ⟨s1,w1,s2,w2,rfl,h1,h2⟩:=hv;have e1:=adW h ⟨s1,w1,rfl,h1⟩ ka.1 hK;have e2:=adW h ⟨s2,w2,rfl,h2⟩ ka.2 hK;obtain ⟨l1,u1⟩:=h1.aD;obtain ⟨l2,u2⟩:=h2.aD;unfold ab at e1 e2 ⊢;rw [aA h.avi];unfold LG
 cases hb:LN a.num with
 | true=>
  rw [hb] at e1;simp only [go_sem,ya,yc,Ns,aO,bq,yf,bV,bw,u1.pu,u1.ai,u1.one,u2.pu,u2.one,e1];rfl
 | false=>
  rw [hb] at e1;simp only [go_sem,ya,yc,Ns,aO,bq,yf,show vH 2 [aa s1,w1,aa s2,w2]=[aa s2,w2] from rfl,bV,bw,u1.pu,u1.ai,u1.one,u2.pu,u2.ai,u2.one,e1,e2];rfl
end
def akf (p s:Nat):p*(s%1000000000)+p*1000000000*(s/1000000000)=p*s:=by
 rw [xm,<-xC,uB]
def HE {l:List Int} {i:Nat} (h:l.length<=i):l.getD i 0=0:=by simp_all
def amz {a b out:List Int} {i c:Nat} {x y:Int} (hx:x=a.getD i 0) (hy:y=b.getD i 0) (h1:0<=x) (h2:0<=y) (hl:out.length=i) (hv:dv out+1000000000^i*c=dv (a.take i)+dv (b.take i)):
  dv (out++[(((x.toNat+y.toNat+c)%1000000000:Nat):Int)])+1000000000^(i+1)*((x.toNat+y.toNat+c)/1000000000)=dv (a.take (i+1))+dv (b.take (i+1)):=by
 rw [oC,oC,lU,hl,<-hx,<-hy];simp only [dv,wh,xx,yW,y9]
 have:=akf (1000000000^i) (x.toNat+y.toNat+c)
 grind
section
variable {P:aG} {L:Lib}
def arz (mA:Has P L 302 rC) {v w:AV} {a b:List Int} (hv:a8 v a) (hw:a8 w b) (ha:dg a) (hb:dg b) {N:Nat} (la:a.length<=N) (lb:b.length<=N) (lN:N<=20000000000):
  ∀k s,(∃(i c:Nat) (out:List Int),2*(N-i)+c=k/\out.length=i/\c<=1/\dg out/\dv out+1000000000^i*c=dv (a.take i)+dv (b.take i)/\i<=N+1/\(i<=N\/c=0)/\
    ((i=0/\aM [0,1,5,6,7] s=⟨[(0,v),(1,w),(5,.af),(6,aa c),(7,aa i)],[],0,0⟩)\/
    (0<i/\aM [0,1,5,6,7] s=⟨[(0,v),(1,w),(5,.ay 0 0 i),(6,aa c),(7,aa i)],[(0,.cells true true false 1 (out.map aa))],1,0⟩)))->
   ∃ex s',D P L (.loop [0,1,5,6,7] oG) s=some (ex,s')/\∃tm out,ex= .exit 0/\dg out/\dv out=dv a+dv b/\out.length<=N+1/\((out=[]/\aj tm 5= .af/\s'=⟨tm,[],0,0⟩)\/(0<out.length/\aj tm 5= .ay 0 0 out.length/\s'=⟨tm,[(0,.cells true true false 1 (out.map aa))],1,0⟩)):=by
 intro dq sq;generalize bf:aM [0,1,5,6,7] sq=s0;revert bf s0 sq dq;apply dh;rintro k s ⟨i,c,out,hk,hlen,hc,lc,aI,hi,Fj,hs⟩;have e1:=Tv mA hv i;have e2:=Tv mA hw i;unfold ab at e1 e2;have ga:=hX ha i;have gb:=hX hb i;by_cases sn:i<a.length\/i<b.length\/0<c
 ·left
  obtain ⟨x,hx⟩:∃x,x=a.getD i 0:=⟨_,rfl⟩;obtain ⟨y,hy⟩:∃y,y=b.getD i 0:=⟨_,rfl⟩;rw [<-hx] at e1 ga;rw [<-hy] at e2 gb;have kO:=amz (c:=c) hx hy ga.1 gb.1 hlen aI;obtain ⟨s0,kE⟩:∃s0,s0=x.toNat+y.toNat+c:=⟨_,rfl⟩;rw [<-kE] at kO;have A9:x+y+(c:Int)=(s0:Int):=by omega
  have hs9:s0<2000000000:=by omega
  have hr:((s0:Nat):Int).tmod 1000000000=((s0%1000000000:Nat):Int):=by rw [xh (by omega)];rfl
  have hq:((s0:Nat):Int).tdiv 1000000000=((s0/1000000000:Nat):Int):=by rw [xL (by omega)];rfl
  have jD:s0/1000000000<=1:=by omega
  have atF:2*(N-(i+1))+s0/1000000000<k:=by
   by_cases hm:i<N
   ·omega
   ·have:c=1:=by omega
    have zS:x=0:=by rw [hx];exact HE (by omega)
    have fO:y=0:=by rw [hy];exact HE (by omega)
    subst zS;subst fO
    have:s0=1:=by rw [kE,this];rfl
    subst this;omega
  have qc:dg (out++[((s0%1000000000:Nat):Int)]):=gL.2 ⟨lc,jH.2 (by omega)⟩;have IY:(out++[((s0%1000000000:Nat):Int)]).length=i+1:=by simp [hlen]
  have avy:i+1<=N\/s0/1000000000=0:=by
   by_cases hm:i<N
   ·exact .inl hm
   ·right
    have:c=1:=by omega
    have zS:x=0:=by rw [hx];exact HE (by omega)
    have fO:y=0:=by rw [hy];exact HE (by omega)
    subst zS;subst fO
    have:s0=1:=by rw [kE,this];rfl
    subst this;rfl
  have fin:∃s',D P L oG s=some (.normal,s')/\aM [0,1,5,6,7] s'=⟨[(0,v),(1,w),(5,.ay 0 0 (i+1)),(6,aa (s0/1000000000:Nat)),(7,aa (i+1:Nat))],[(0,.cells true true false 1 ((out++[((s0%1000000000:Nat):Int)]).map aa))],1,0⟩:=by
   have three:((i:Int)<a.length)\/(¬(i:Int)<a.length/\(i:Int)<b.length)\/(¬(i:Int)<a.length/\¬(i:Int)<b.length/\(0:Int)<c):=by omega
   rcases three with t1 | ⟨t1,t2⟩ | ⟨t1,t2,t3⟩
   ·rcases hs with ⟨h0,rfl⟩ | ⟨h0,rfl⟩
    ·subst h0;have jf:out=[]:=yJ hlen;subst jf
     simp only [go_sem,ya,yc,xK,yE,ym,yj,oG,hv.len,hv.ai,hw.ai,t1,e1,e2,wrap64 (n:=x+y) (by omega) (by omega),A9,wrap64 (n:=(s0:Int)) (by omega) (by omega),eI _ _ _ (show (1000000000:Int)≠0 by decide),eQ _ _ _ (show (1000000000:Int)≠0 by decide),hr,hq,wrap64 (n:=((s0/1000000000:Nat):Int)) (by omega) (by omega),jW];refine ⟨_,rfl,?_⟩;rw [wrap64 (by omega) (by omega)];simp only [go_sem,ya,yc,ax,aE hv.pu,aH _ hv.pu,aE hw.pu,aH _ hw.pu]<;>rfl
    ·simp only [go_sem,ya,yc,ym,yj,oG,hv.len,hv.ai,hw.ai,t1,e1,e2,wrap64 (n:=x+y) (by omega) (by omega),A9,wrap64 (n:=(s0:Int)) (by omega) (by omega),eI _ _ _ (show (1000000000:Int)≠0 by decide),hr]
     rw [jG (ex:=false) (pu:=true) (cs:=out.map aa) (by simp only [go_sem,ya]) (by rw [xo,hlen,yj]) (by omega) (by omega) (by decide) (by simp only [go_sem])]
     simp only [go_sem,ya,yc,eQ _ _ _ (show (1000000000:Int)≠0 by decide),hq,wrap64 (n:=((s0/1000000000:Nat):Int)) (by omega) (by omega)];refine ⟨_,rfl,?_⟩;rw [wrap64 (by omega) (by omega),xu];simp only [go_sem,ya,yc,ax,aE hv.pu,aH _ hv.pu,aE hw.pu,aH _ hw.pu]<;>rfl
   ·rcases hs with ⟨h0,rfl⟩ | ⟨h0,rfl⟩
    ·subst h0;have jf:out=[]:=yJ hlen;subst jf
     simp only [go_sem,ya,yc,xK,yE,ym,yj,oG,hv.len,hv.ai,hw.len,hw.ai,t1,t2,e1,e2,wrap64 (n:=x+y) (by omega) (by omega),A9,wrap64 (n:=(s0:Int)) (by omega) (by omega),eI _ _ _ (show (1000000000:Int)≠0 by decide),eQ _ _ _ (show (1000000000:Int)≠0 by decide),hr,hq,wrap64 (n:=((s0/1000000000:Nat):Int)) (by omega) (by omega),jW];refine ⟨_,rfl,?_⟩;rw [wrap64 (by omega) (by omega)];simp only [go_sem,ya,yc,ax,aE hv.pu,aH _ hv.pu,aE hw.pu,aH _ hw.pu]<;>rfl
    ·simp only [go_sem,ya,yc,ym,yj,oG,hv.len,hv.ai,hw.len,hw.ai,t1,t2,e1,e2,wrap64 (n:=x+y) (by omega) (by omega),A9,wrap64 (n:=(s0:Int)) (by omega) (by omega),eI _ _ _ (show (1000000000:Int)≠0 by decide),hr]
     rw [jG (ex:=false) (pu:=true) (cs:=out.map aa) (by simp only [go_sem,ya]) (by rw [xo,hlen,yj]) (by omega) (by omega) (by decide) (by simp only [go_sem])]
     simp only [go_sem,ya,yc,eQ _ _ _ (show (1000000000:Int)≠0 by decide),hq,wrap64 (n:=((s0/1000000000:Nat):Int)) (by omega) (by omega)];refine ⟨_,rfl,?_⟩;rw [wrap64 (by omega) (by omega),xu];simp only [go_sem,ya,yc,ax,aE hv.pu,aH _ hv.pu,aE hw.pu,aH _ hw.pu]<;>rfl
   ·rcases hs with ⟨h0,rfl⟩ | ⟨h0,rfl⟩
    ·subst h0;have jf:out=[]:=yJ hlen;subst jf
     simp only [go_sem,ya,yc,xK,yE,ym,yj,oG,hv.len,hv.ai,hw.len,hw.ai,t1,t2,t3,e1,e2,wrap64 (n:=x+y) (by omega) (by omega),A9,wrap64 (n:=(s0:Int)) (by omega) (by omega),eI _ _ _ (show (1000000000:Int)≠0 by decide),eQ _ _ _ (show (1000000000:Int)≠0 by decide),hr,hq,wrap64 (n:=((s0/1000000000:Nat):Int)) (by omega) (by omega),jW];refine ⟨_,rfl,?_⟩;rw [wrap64 (by omega) (by omega)];simp only [go_sem,ya,yc,ax,aE hv.pu,aH _ hv.pu,aE hw.pu,aH _ hw.pu]<;>rfl
    ·simp only [go_sem,ya,yc,ym,yj,oG,hv.len,hv.ai,hw.len,hw.ai,t1,t2,t3,e1,e2,wrap64 (n:=x+y) (by omega) (by omega),A9,wrap64 (n:=(s0:Int)) (by omega) (by omega),eI _ _ _ (show (1000000000:Int)≠0 by decide),hr]
     rw [jG (ex:=false) (pu:=true) (cs:=out.map aa) (by simp only [go_sem,ya]) (by rw [xo,hlen,yj]) (by omega) (by omega) (by decide) (by simp only [go_sem])]
     simp only [go_sem,ya,yc,eQ _ _ _ (show (1000000000:Int)≠0 by decide),hq,wrap64 (n:=((s0/1000000000:Nat):Int)) (by omega) (by omega)];refine ⟨_,rfl,?_⟩;rw [wrap64 (by omega) (by omega),xu];simp only [go_sem,ya,yc,ax,aE hv.pu,aH _ hv.pu,aE hw.pu,aH _ hw.pu]<;>rfl
  obtain ⟨s',f1,f2⟩:=fin;exact ⟨s',_,f1,atF,i+1,s0/1000000000,_,rfl,IY,jD,qc,kO,by omega,avy,.inr ⟨by omega,f2⟩⟩
 ·right
  have kW:c=0:=by omega
  subst kW;rw [xx,yW,yN (by omega),yN (by omega)] at aI;rcases hs with ⟨h0,rfl⟩ | ⟨h0,rfl⟩
  ·simp only [go_sem,ya,oG,hv.len,hw.len,show ¬(i:Int)<a.length by omega,show ¬(i:Int)<b.length by omega,show ¬(0:Int)<((0:Nat):Int) by omega];exact ⟨_,_,rfl,by simp,_,out,rfl,lc,aI,by omega,.inl ⟨yJ (by omega),by simp only [go_sem,ya],rfl⟩⟩
  ·simp only [go_sem,ya,oG,hv.len,hw.len,show ¬(i:Int)<a.length by omega,show ¬(i:Int)<b.length by omega,show ¬(0:Int)<((0:Nat):Int) by omega];exact ⟨_,_,rfl,by simp,_,out,rfl,lc,aI,by omega,.inr ⟨by omega,by rw [hlen];simp only [go_sem,ya],rfl⟩⟩
def adX (h:Has P L 295 Js) (mA:Has P L 302 rC) {v w:AV} {a b:List Int} (hv:a8 v a) (hw:a8 w b) (ha:dg a) (hb:dg b) (la:a.length<=20000000000) (lb:b.length<=20000000000):
  ∃r out,ab P L 295 [v,w] r/\a8 (shut r) out/\dg out/\dv out=dv a+dv b/\out.length<=max a.length b.length+1:=by
 have jd:∃out,ab P L 295 [v,w] (if out=[] then .af else .cf false 1 out.length (out.map aa))/\dg out/\dv out=dv a+dv b/\out.length<=max a.length b.length+1:=by
  unfold ab;rw [aA h];simp only [go_sem,Js];generalize hq:D P L (.loop [0,1,5,6,7] oG) _=q;obtain ⟨ex,s,rfl,tm,out,rfl,hd,aI,hl,hs⟩:=bI hq (arz (P:=P) (L:=L) mA hv hw ha hb (N:=max a.length b.length) (by omega) (by omega) (by omega) (2*(max a.length b.length))) ⟨0,0,[],by omega,rfl,by omega,rfl,by simp [dv],by omega,.inr rfl,.inl ⟨rfl,by simp only [go_sem,ya,ax,aE hv.pu,aH _ hv.pu,aE hw.pu,aH _ hw.pu]<;>rfl⟩⟩
  refine ⟨out,?_,hd,aI,hl⟩;rcases hs with ⟨h0,h5,rfl⟩ | ⟨h0,h5,rfl⟩
  ·rw [yM h0];simp only [go_sem,ax,h5]
  ·rw [yB (by intro e;subst e;simp at h0)];simp only [go_sem,yc,ax,h5];exact XB (Hz _ _ _) (by simp) (by decide)
 obtain ⟨out,g1,g2,g3,g4⟩:=jd;refine ⟨_,out,g1,?_,g2,g3,g4⟩
 split
 ·rename_i e;subst e;exact qQ
 ·exact gZ false out
def Ud (h:Has P L 296 rB) {v w:AV} {a b:List Int} (hv:a8 v a) (hw:a8 w b) (ha:dg a) (hb:dg b) (na:nz a) (nb:nz b) (la:a.length<=20000000000) (lb:b.length<=20000000000):
  ab P L 296 [v,w] (aa (dP (dv a) (dv b))):=by
 unfold ab;rw [aA h];by_cases hlen:a.length=b.length
 ·have key:=iU (P:=P) (L:=L) (live:=[0,1,5]) (a:=Cp)
   (I:=fun k st=>∃j:Nat,st=⟨[(0,v),(1,w),(5,aa ((j:Int)-1))],[],0,0⟩/\j<=a.length/\j=k/\a.drop j=b.drop j)
   (Q:=fun ex st=>∃tm ct,st=⟨tm,[],ct,0⟩/\((ex= .ret/\aj tm 4=aa (dP (dv a) (dv b)))\/(ex= .exit 0/\a=b))) ?_
  ·simp only [go_sem,ya,rB,hv.len,hw.len,show (a.length:Int)=b.length by omega];generalize hq:D P L (.loop [0,1,5] Cp) _=q;obtain ⟨ex,st,rfl,tm,ct,rfl,h2⟩:=bI hq (key a.length) ⟨a.length,by
    rw [wrap64 (by omega) (by omega)];rw [hlen]
    simp only [go_sem,ya,ax,aE hv.pu,aH _ hv.pu,aE hw.pu,aH _ hw.pu]<;>rfl,yz _,rfl,by rw [y5 (yz _),y5 (by omega)]⟩
   rcases h2 with ⟨rfl,h2⟩ | ⟨rfl,h2⟩
   ·simp only [go_sem,h2]
   ·simp only [go_sem,ax];subst h2;simp [dP]
  ·rintro k st ⟨j,rfl,hj,rfl,he⟩
   cases j with
   | zero=>
    right
    simp only [go_sem,ya,Cp,show ¬(0:Int)<=((0:Nat):Int)-1 by omega];exact ⟨_,_,rfl,by simp,_,_,rfl,.inr ⟨rfl,by simpa using he⟩⟩
   | succ i=>
    have h1:i<a.length:=by omega
    have h2:i<b.length:=by omega
    have Fs:=aag ha hb h1 h2 he;have aP:=aag hb ha h2 h1 he.symm;by_cases c1:a[i]<b[i]
    ·right
     simp only [go_sem,ya,Cp,show ((i+1:Nat):Int)-1=(i:Int) by omega,show (0:Int)<=(i:Int) by omega,hv.bn h1,hw.bn h2,c1];refine ⟨_,_,rfl,by simp,_,_,rfl,.inl ⟨rfl,?_⟩⟩;simp only [go_sem];unfold dP;rw [yM (Fs c1)]
    ·by_cases c2:b[i]<a[i]
     ·right
      simp only [go_sem,ya,Cp,show ((i+1:Nat):Int)-1=(i:Int) by omega,show (0:Int)<=(i:Int) by omega,hv.bn h1,hw.bn h2,c1,c2];refine ⟨_,_,rfl,by simp,_,_,rfl,.inl ⟨rfl,?_⟩⟩;simp only [go_sem];unfold dP;rw [yB (by omega),yM (by omega)]
     ·left
      simp only [go_sem,ya,Cp,show ((i+1:Nat):Int)-1=(i:Int) by omega,show (0:Int)<=(i:Int) by omega,hv.bn h1,hw.bn h2,c1,c2];refine ⟨_,i,rfl,by omega,i,?_,by omega,rfl,?_⟩
      ·rw [wrap64 (by omega) (by omega)];simp only [go_sem,ya,ax,aE hv.pu,aH _ hv.pu,aE hw.pu,aH _ hw.pu]<;>rfl
      ·rw [yO h1,yO h2,he,show a[i]=b[i] by omega]
 ·by_cases c1:a.length<b.length
  ·have:=RG ha nb hb c1
   simp only [go_sem,ya,rB,hv.len,hw.len,show ¬(a.length:Int)=b.length by omega,show (a.length:Int)<b.length by omega];unfold dP;rw [yM this]
  ·have:=RG hb na ha (show b.length<a.length by omega)
   simp only [go_sem,ya,rB,hv.len,hw.len,show ¬(a.length:Int)=b.length by omega,show ¬(a.length:Int)<b.length by omega];unfold dP;rw [yB (by omega),yM this]
def amA {a b out:List Int} {i c:Nat} {x y z:Int} {c':Nat} (hx:x=a.getD i 0) (hy:y=b.getD i 0) (h1:0<=x) (h2:0<=y) (h3:0<=z) (hz:z=x-y-c+1000000000*c') (hl:out.length=i) (hv:dv out+dv (b.take i)=dv (a.take i)+1000000000^i*c):
  dv (out++[z])+dv (b.take (i+1))=dv (a.take (i+1))+1000000000^(i+1)*c':=by
 rw [oC,oC,lU,hl,<-hx,<-hy];simp only [dv,xx,yW,y9];have e:z.toNat+y.toNat+c=x.toNat+1000000000*c':=by omega
 grind
def arA (mA:Has P L 302 rC) {v w:AV} {a b:List Int} (hv:a8 v a) (hw:a8 w b) (ha:dg a) (hb:dg b) (la:a.length<=20000000000) (hle:dv b<=dv a) (DD:b.length<=a.length):
  ∀k s,(∃(i c:Nat) (out:List Int),i+k=a.length/\out.length=i/\c<=1/\dg out/\dv out+dv (b.take i)=dv (a.take i)+1000000000^i*c/\
    ((i=0/\aM [0,1,5,6,7] s=⟨[(0,v),(1,w),(5,.af),(6,aa c),(7,aa i)],[],0,0⟩)\/
    (0<i/\aM [0,1,5,6,7] s=⟨[(0,v),(1,w),(5,.ay 0 0 i),(6,aa c),(7,aa i)],[(0,.cells true true false 1 (out.map aa))],1,0⟩)))->
   ∃ex s',D P L (.loop [0,1,5,6,7] qY) s=some (ex,s')/\∃tm out,ex= .exit 0/\dg out/\dv out+dv b=dv a/\out.length<=20000000000/\((out=[]/\aj tm 5= .af/\s'=⟨tm,[],0,0⟩)\/(0<out.length/\aj tm 5= .ay 0 0 out.length/\s'=⟨tm,[(0,.cells true true false 1 (out.map aa))],1,0⟩)):=by
 intro dq sq;generalize bf:aM [0,1,5,6,7] sq=s0;revert bf s0 sq dq;apply dh;rintro k s ⟨i,c,out,hk,hlen,hc,lc,aI,hs⟩;have e2:=Tv mA hw i;unfold ab at e2;have ga:=hX ha i;have gb:=hX hb i;by_cases sn:i<a.length
 ·left
  obtain ⟨x,hx⟩:∃x,x=a.getD i 0:=⟨_,rfl⟩;obtain ⟨y,hy⟩:∃y,y=b.getD i 0:=⟨_,rfl⟩;have sC:a[i]=x:=by rw [hx];simp [xz,xV sn]
  have e1:=hv.bn sn;rw [sC] at e1;rw [<-hx] at ga;rw [<-hy] at e2 gb;obtain ⟨z,c',hz,jD,kZ,lP,CH⟩:∃(z:Int) (c':Nat),z=x-y-c+1000000000*c'/\c'<=1/\0<=z/\z<1000000000/\((x-y-c<0/\c'=1)\/(¬x-y-c<0/\c'=0)):=by
   by_cases h:x-y-c<0
   ·exact ⟨x-y-c+1000000000,1,by omega,by omega,by omega,by omega,.inl ⟨h,rfl⟩⟩
   ·exact ⟨x-y-c,0,by omega,by omega,by omega,by omega,.inr ⟨h,rfl⟩⟩
  have kO:=amA hx hy ga.1 gb.1 kZ hz hlen aI;have qc:dg (out++[z]):=gL.2 ⟨lc,jH.2 ⟨kZ,lP⟩⟩;have IY:(out++[z]).length=i+1:=by simp [hlen]
  have fin:∃s',D P L qY s=some (.normal,s')/\aM [0,1,5,6,7] s'=⟨[(0,v),(1,w),(5,.ay 0 0 (i+1)),(6,aa c'),(7,aa (i+1:Nat))],[(0,.cells true true false 1 ((out++[z]).map aa))],1,0⟩:=by
   rcases CH with ⟨eM,rfl⟩ | ⟨eM,rfl⟩
   ·have eN:x-y-c+1000000000=z:=by omega
    rcases hs with ⟨h0,rfl⟩ | ⟨h0,rfl⟩
    ·subst h0;have jf:out=[]:=yJ hlen;subst jf
     simp only [go_sem,ya,yc,xK,yE,ym,yj,qY,hv.len,hw.ai,show ((0:Nat):Int)<a.length by omega,e1,e2,wrap64 (n:=x-y) (by omega) (by omega),wrap64 (n:=x-y-(c:Int)) (by omega) (by omega),eM,eN,wrap64 (n:=z) (by omega) (by omega),jW];refine ⟨_,rfl,?_⟩;rw [wrap64 (by omega) (by omega)];simp only [go_sem,ya,yc,ax,aE hv.pu,aH _ hv.pu,aE hw.pu,aH _ hw.pu]<;>rfl
    ·simp only [go_sem,ya,yc,ym,yj,qY,hv.len,hw.ai,show (i:Int)<a.length by omega,e1,e2,wrap64 (n:=x-y) (by omega) (by omega),wrap64 (n:=x-y-(c:Int)) (by omega) (by omega),eM,eN,wrap64 (n:=z) (by omega) (by omega)]
     rw [jG (ex:=false) (pu:=true) (cs:=out.map aa) (by simp only [go_sem,ya]) (by rw [xo,hlen,yj]) (by omega) (by omega) (by decide) (by simp only [go_sem])];simp only [go_sem,ya,yc];refine ⟨_,rfl,?_⟩;rw [wrap64 (by omega) (by omega),xu];simp only [go_sem,ya,yc,ax,aE hv.pu,aH _ hv.pu,aE hw.pu,aH _ hw.pu]<;>rfl
   ·have eN:x-y-c=z:=by omega
    have eM:¬z<0:=by omega
    rcases hs with ⟨h0,rfl⟩ | ⟨h0,rfl⟩
    ·subst h0;have jf:out=[]:=yJ hlen;subst jf
     simp only [go_sem,ya,yc,xK,yE,ym,yj,qY,hv.len,hw.ai,show ((0:Nat):Int)<a.length by omega,e1,e2,wrap64 (n:=x-y) (by omega) (by omega),eN,wrap64 (n:=z) (by omega) (by omega),eM,jW];refine ⟨_,rfl,?_⟩;rw [wrap64 (by omega) (by omega)];simp only [go_sem,ya,yc,ax,aE hv.pu,aH _ hv.pu,aE hw.pu,aH _ hw.pu]<;>rfl
    ·simp only [go_sem,ya,yc,ym,yj,qY,hv.len,hw.ai,show (i:Int)<a.length by omega,e1,e2,wrap64 (n:=x-y) (by omega) (by omega),eN,wrap64 (n:=z) (by omega) (by omega),eM]
     rw [jG (ex:=false) (pu:=true) (cs:=out.map aa) (by simp only [go_sem,ya]) (by rw [xo,hlen,yj]) (by omega) (by omega) (by decide) (by simp only [go_sem])];simp only [go_sem,ya,yc];refine ⟨_,rfl,?_⟩;rw [wrap64 (by omega) (by omega),xu];simp only [go_sem,ya,yc,ax,aE hv.pu,aH _ hv.pu,aE hw.pu,aH _ hw.pu]<;>rfl
  obtain ⟨s',f1,f2⟩:=fin;exact ⟨s',k-1,f1,by omega,i+1,c',_,by omega,IY,jD,qc,kO,.inr ⟨by omega,f2⟩⟩
 ·right
  have acA:dv out+dv b=dv a:=by
   rw [yN (by omega),yN (by omega)] at aI;have aP:=jN lc;rw [hlen] at aP;rcases (show c=0\/c=1 by omega) with rfl | rfl
   ·omega
   ·omega
  rcases hs with ⟨h0,rfl⟩ | ⟨h0,rfl⟩
  ·simp only [go_sem,ya,qY,hv.len,show ¬(i:Int)<a.length by omega];exact ⟨_,_,rfl,by simp,_,out,rfl,lc,acA,by omega,.inl ⟨yJ (by omega),by simp only [go_sem,ya],rfl⟩⟩
  ·simp only [go_sem,ya,qY,hv.len,show ¬(i:Int)<a.length by omega];exact ⟨_,_,rfl,by simp,_,out,rfl,lc,acA,by omega,.inr ⟨by omega,by rw [hlen];simp only [go_sem,ya],rfl⟩⟩
def adY (h:Has P L 297 Jt) (mA:Has P L 302 rC) (cG:Has P L 300 lJ) {v w:AV} {a b:List Int} (hv:a8 v a) (hw:a8 w b) (ha:dg a) (hb:dg b) (na:nz a) (nb:nz b) (la:a.length<=20000000000) (hle:dv b<=dv a):
  ∃r out,ab P L 297 [v,w] r/\a8 r out/\shut r=r/\dg out/\nz out/\dv out+dv b=dv a:=by
 have DD:b.length<=a.length:=by
  by_cases h:a.length<b.length
  ·have:=RG ha nb hb h;omega
  ·omega
 unfold ab;rw [aA h];simp only [go_sem,Jt];generalize hq:D P L (.loop [0,1,5,6,7] qY) _=q;obtain ⟨ex,s,rfl,tm,out,rfl,hd,aI,hl,hs⟩:=bI hq (arA (P:=P) (L:=L) mA hv hw ha hb la hle DD a.length) ⟨0,0,[],by omega,rfl,by omega,rfl,by simp [dv],.inl ⟨rfl,by simp only [go_sem,ya,ax,aE hv.pu,aH _ hv.pu,aE hw.pu,aH _ hw.pu]<;>rfl⟩⟩
 have nX:=gZ false out;rcases hs with ⟨h0,h5,rfl⟩ | ⟨h0,h5,rfl⟩
 ·subst h0;obtain ⟨r,e1,hr,jm⟩:=A5 cG (v:= .af) (l:=[]) qQ (by simp);refine ⟨r,dS [],?_,hr,jm,rfl,rfl,by rw [sM];exact aI⟩
  simp only [go_sem,ax,h5,e1,jm,hr.dd]
 ·obtain ⟨r,e1,hr,jm⟩:=A5 cG nX hl;refine ⟨r,dS out,?_,hr,jm,An hd,D7 out,by rw [sM];exact aI⟩
  have iv:∀hp:Hp,lK 0 out.length (some (false,1,out.map aa,hp))=some (.aC false out.length (out.map aa),hp):=fun hp=>lV false (by simp) (by decide)
  simp only [go_sem,yc,ax,h5,iv,e1,jm,hr.dd]
end
def BO {hp:Hp} {ct id o:Nat} {v:Int} {ex:Bool} {l:List Int} (h:o<l.length):gW hp ct id o 1 [.int .i64 v] (some (.cells true true ex 1 (l.map aa)))=some (.ap [],aU hp id (.cells true true ex 1 ((l.set o v).map aa)),ct):=by
 rw [ri (by rfl) (by simp;omega) (by rfl)]
 have:over o [AV.int .i64 v] (l.map aa)=(l.set o v).map aa:=by
  simp only [over,yv,yI,yf];rw [List.map_set,List.set_eq_take_append_cons_drop,yM (by simpa using h)]
  simp
 rw [this];rfl
def rm {l:List Int} {o:Nat} (h:o<l.length):vH o (l.map aa)=AV.int .i64 (l.getD o 0)::vH (o+1) (l.map aa):=by
 rw [yO (by simpa using h)]
 grind
def pZ {v:AV} {l:List Int} (hv:a8 v l) {i:Nat} (h:i<l.length):ju 1 i v=some (.aJ (.int .i64 (l.getD i 0)::(l.map aa).drop (i+1))):=by
 rw [hv.bn h]
 grind
def amB {o x y c:Int} (ho:0<=o/\o<1000000000) (hx:0<=x/\x<1000000000) (hy:0<=y/\y<1000000000) (hc:0<=c/\c<1000000000):
  (0<=x*y/\x*y<=999999998000000001)/\0<=o+x*y+c/\o+x*y+c<1000000000000000000:=by
 have h1:=tg hx.1 hy.1;have h2:=ybX (show x<=999999999 by omega) (show y<=999999999 by omega) hy.1 (by decide);omega
section
variable {P:aG} {L:Lib}
def arB {v w:AV} {a b:List Int} (hv:a8 v a) (hw:a8 w b) (ha:dg a) (hb:dg b) (la:a.length<=20000000000) (lb:b.length<=20000000000) {n i:Nat} (hn:n=a.length+b.length) (hi:i<a.length) {out0:List Int}:
  ∀k s,(∃(j:Nat) (c:Int) (out:List Int),aM [0,1,5,6,7,8] s=⟨[(0,v),(1,w),(5,.ay 0 0 n),(6,aa i),(7,aa c),(8,aa j)],[(0,.cells true true true 1 (out.map aa))],1,0⟩/\j+k=b.length/\out.length=n/\dg out/\(0<=c/\c<1000000000)/\
    dv out+1000000000^i*1000000000^j*c.toNat=dv out0+1000000000^i*((a.getD i 0).toNat*dv (b.take j))/\(∀m,i+b.length<=m->out.getD m 0=out0.getD m 0))->
   ∃ex s',D P L (.loop [0,1,5,6,7,8] Io) s=some (ex,s')/\∃tm c out,s'=⟨tm,[(0,.cells true true true 1 (out.map aa))],1,0⟩/\ex= .exit 2/\aj tm 0=v/\aj tm 1=w/\aj tm 5= .ay 0 0 n/\aj tm 6=aa i/\aj tm 7=aa c/\out.length=n/\dg out/\(0<=c/\c<1000000000)/\
    dv out+1000000000^i*1000000000^b.length*c.toNat=dv out0+1000000000^i*((a.getD i 0).toNat*dv b)/\(∀m,i+b.length<=m->out.getD m 0=out0.getD m 0):=by
 intro dq sq;generalize bf:aM [0,1,5,6,7,8] sq=s0;revert bf s0 sq dq;apply dh;rintro k s ⟨j,c,out,rfl,hk,hlen,hd,hc,aI,fN⟩;by_cases hj:j<b.length
 ·left
  obtain ⟨x,hx⟩:∃x,x=a.getD i 0:=⟨_,rfl⟩;obtain ⟨y,hy⟩:∃y,y=b.getD j 0:=⟨_,rfl⟩;obtain ⟨o,ho⟩:∃o,o=out.getD (i+j) 0:=⟨_,rfl⟩;have gx:=hX ha i;have gy:=hX hb j;have ni:=hX hd (i+j);rw [<-hx] at gx;rw [<-hy] at gy;rw [<-ho] at ni;obtain ⟨p1,p2,p3⟩:=amB ni gx gy hc;obtain ⟨t,ht⟩:∃t:Nat,o+x*y+c=t:=⟨(o+x*y+c).toNat,by omega⟩;have hr:((t:Nat):Int).tmod 1000000000=((t%1000000000:Nat):Int):=by rw [xh (by omega)];rfl
  have hq:((t:Nat):Int).tdiv 1000000000=((t/1000000000:Nat):Int):=by rw [xL (by omega)];rfl
  have e1:=pZ hv hi;have e2:=pZ hw hj;rw [<-hx] at e1;rw [<-hy] at e2;have e3:=rm (l:=out) (o:=i+j) (by omega);rw [<-ho] at e3;have zN:t=o.toNat+x.toNat*y.toNat+c.toNat:=by
   have:((x.toNat*y.toNat:Nat):Int)=x*y:=by rw [wY,yaX gx.1,yaX gy.1]
   omega
  have aU:=RH (l:=out) (j:=i+j) (x:=((t%1000000000:Nat):Int)) (by omega);rw [<-ho,wh,xP] at aU;have kO:=alh (Y:=dv (b.take j)) zN aU (by rw [hx];exact aI)
  simp only [go_sem,ya,yj,Io,hw.len,show (j:Int)<b.length by omega,wrapN (n:=i+j) (by omega),show (i:Int)+(j:Int)=((i+j:Nat):Int) from rfl,cU 0 0 (show i+j<n by omega),yf,e3,e1,e2,wrap64 (n:=x*y) (by omega) (by omega),wrap64 (n:=o+x*y) (by omega) (by omega),ht,wrapN (n:=t) (by omega),eI _ _ _ (show (1000000000:Int)≠0 by decide),eQ _ _ _ (show (1000000000:Int)≠0 by decide),hr,hq,wrapN (n:=t/1000000000) (by omega),BO (l:=out) (o:=i+j) (by omega)];refine ⟨_,k-1,rfl,by omega,j+1,((t/1000000000:Nat):Int),out.set (i+j) ((t%1000000000:Nat):Int),?_,by omega,by simp [hlen],Mv hd (by omega),by omega,?_,fun m hm=>?_⟩
  ·rw [wrap64 (by omega) (by omega)];simp only [go_sem,ya,yc,ax,aE hv.pu,aH _ hv.pu,aE hw.pu,aH _ hw.pu]<;>rfl
  ·rw [wh,oC,y9,<-hx,<-hy];exact kO
  ·rw [Ze (by omega)];exact fN m hm
 ·right
  have:j=b.length:=by omega
  subst this;rw [xH] at aI;simp only [go_sem,ya,Io,hw.len,show ¬(b.length:Int)<b.length by omega];exact ⟨_,_,rfl,by simp,_,c,out,rfl,rfl,by simp only [go_sem,ya],by simp only [go_sem,ya],by simp only [go_sem,ya],by simp only [go_sem,ya],by simp only [go_sem,ya],hlen,hd,hc,aI,fN⟩
end
def P2 (n:Nat):(yC n [AV.int .i64 0]).flatten=(yC n (0:Int)).map aa:=by simp_all
def aoQ (b:Bool):Jz true (some b)=some (.bool (!b)):=by cases b<;>rfl
def XL (n m:Nat):(yC n (0:Int)).getD m 0=0:=by grind
section
variable {P:aG} {L:Lib}
def arD {v w:AV} {a b:List Int} (hv:a8 v a) (hw:a8 w b) (ha:dg a) (hb:dg b) (la:a.length<=20000000000) (lb:b.length<=20000000000) {n:Nat} (hn:n=a.length+b.length):
  ∀k s,(∃(i:Nat) (out:List Int),aM [0,1,5,6] s=⟨[(0,v),(1,w),(5,.ay 0 0 n),(6,aa i)],[(0,.cells true true true 1 (out.map aa))],1,0⟩/\i+k=a.length/\out.length=n/\dg out/\dv out=dv (a.take i)*dv b/\(∀m,i+b.length<=m->out.getD m 0=0))->
   ∃ex s',D P L (.loop [0,1,5,6] Ip) s=some (ex,s')/\∃tm out,s'=⟨tm,[(0,.cells true true true 1 (out.map aa))],1,0⟩/\ex= .exit 0/\aj tm 5= .ay 0 0 n/\out.length=n/\dg out/\dv out=dv a*dv b:=by
 intro dq sq;generalize bf:aM [0,1,5,6] sq=s0;revert bf s0 sq dq;apply dh;rintro k s ⟨i,out,rfl,hk,hlen,hd,aI,fN⟩;by_cases hi:i<a.length
 ·left
  simp only [go_sem,ya,Ip,hv.len,show (i:Int)<a.length by omega];generalize hq:D P L (.loop [0,1,5,6,7,8] Io) _=q;obtain ⟨ex,s,rfl,tm,c,rE,rfl,rfl,t0,t1,t5,t6,t7,CE,kF,hc,Sy,JE⟩:=bI hq (arB (P:=P) (L:=L) hv hw ha hb la lb hn hi (out0:=out) b.length) ⟨0,0,out,by simp only [go_sem,ya,yc,ax,aE hv.pu,aH _ hv.pu,aE hw.pu,aH _ hw.pu]<;>rfl,by omega,hlen,hd,by omega,by simp [dv],fun m _=>rfl⟩
  have hz:rE.getD (i+b.length) 0=0:=by rw [JE _ (yz _),fN _ (yz _)]
  have e3:=rm (l:=rE) (o:=i+b.length) (by omega);rw [hz] at e3;have aU:=RH (l:=rE) (j:=i+b.length) (x:=c) (by omega);rw [hz,xP] at aU
  simp only [go_sem,ya,yj,ax,t0,t1,t5,t6,t7,hw.len,aE hv.pu,aH _ hv.pu,aE hw.pu,aH _ hw.pu,wrapN (n:=i+b.length) (by omega),show (i:Int)+(b.length:Int)=((i+b.length:Nat):Int) from rfl,cU 0 0 (show i+b.length<n by omega),yf,e3,Int.zero_add,wrap64 (n:=c) (by omega) (by omega),BO (l:=rE) (o:=i+b.length) (by omega)];refine ⟨_,k-1,rfl,by omega,i+1,rE.set (i+b.length) c,?_,by omega,by simp [CE],Mv kF hc,?_,fun m hm=>?_⟩
  ·rw [wrap64 (by omega) (by omega)];simp only [go_sem,ya,yc,ax,aE hv.pu,aH _ hv.pu,aE hw.pu,aH _ hw.pu]<;>rfl
  ·rw [oC,we,<-aI,xm];simp only [Int.toNat_zero,xx,yW] at aU;rw [aU];exact Sy
  ·rw [Ze (by omega),JE m (by omega),fN m (by omega)]
 ·right
  have:i=a.length:=by omega
  subst this;rw [xH] at aI;simp only [go_sem,ya,Ip,hv.len,show ¬(a.length:Int)<a.length by omega];exact ⟨_,_,rfl,by simp,_,out,rfl,rfl,by simp only [go_sem,ya],hlen,hd,aI⟩
def Ue (h:Has P L 293 A1) (cG:Has P L 300 lJ) {v w:AV} {a b:List Int} (hv:a8 v a) (hw:a8 w b) (ha:dg a) (hb:dg b) (la:a.length<=8000000000) (lb:b.length<=8000000000):
  ∃r out,ab P L 293 [v,w] r/\a8 r out/\shut r=r/\dg out/\nz out/\dv out=dv a*dv b:=by
 obtain ⟨n,hn⟩:∃n,n=a.length+b.length:=⟨_,rfl⟩;have cI:∀ct:Nat,zx ct 1 8 [.int .i64 0] (some n) (some n)=some (.ay ct 0 n,.cells true true true 1 ((yC n (0:Int)).map aa)):=fun ct=>by
  rw [Ew (sz:=1) (by omega) (by omega) (by rfl) (by rfl),P2];rfl
 unfold ab;rw [aA h]
 simp only [go_sem,ya,yc,A1,hv.len,hw.len,wrapN (n:=n) (by omega),show (a.length:Int)+(b.length:Int)=((a.length+b.length:Nat):Int) from rfl,<-hn,cI];generalize hq:D P L (.loop [0,1,5,6] Ip) _=q;obtain ⟨ex,s,rfl,tm,out,rfl,rfl,t5,hlen,hd,aI⟩:=bI hq (arD (P:=P) (L:=L) hv hw ha hb (by omega) (by omega) hn a.length) ⟨0,yC n 0,by simp only [go_sem,ya,yc,ax,aE hv.pu,aH _ hv.pu,aE hw.pu,aH _ hw.pu]<;>rfl,by omega,by simp,Zg n,by rw [Zf];simp [dv],fun m _=>XL n m⟩
 have nX:=gZ true out;rw [hlen] at nX;obtain ⟨r,e1,hr,jm⟩:=A5 cG nX (by omega);refine ⟨r,dS out,?_,hr,jm,An hd,D7 out,by rw [sM];exact aI⟩
 have iv:∀hp:Hp,lK 0 n (some (true,1,out.map aa,hp))=some (.aC true n (out.map aa),hp):=fun hp=>lV true (by simp [hlen]) (by decide)
 simp only [go_sem,yc,ax,t5,iv,e1,jm,hr.dd]
def JO (h:Has P L 278 NJ) (kU:Has P L 293 A1) (gR:Has P L 294 A2) (cG:Has P L 300 lJ) {v w:AV} {n m:Int} {K:Nat} (hK:K<=8000000000) (hv:iT v n) (hw:iT w m) (hn:n.natAbs<1000000000^K) (hm:m.natAbs<1000000000^K):
  ∃r,ab P L 278 [v,w] r/\iT r (n*m):=by
 obtain ⟨x,a,rfl,hx,ha,na,va⟩:=hv;obtain ⟨y,b,rfl,hy,hb,nb,vb⟩:=hw;have la:=xg (hZ ha na (by rw [va];exact hn)) hK
 have lb:=xg (hZ hb nb (by rw [vb];exact hm)) hK
 obtain ⟨z,out,e1,hz,jm,hd,BH,aI⟩:=Ue kU cG hx hy ha hb la lb;have lo:out.length<=20000000000:=by
  refine hZ hd BH ?_;rw [aI];have h1:=jN ha;have h2:=jN hb;have h3:dv a*dv b<1000000000^a.length*1000000000^b.length:=tp h1 h2;rw [<-xP] at h3;have hk:∀K,a.length+b.length<=K->dv a*dv b<1000000000^K:=fun K h=>yA h3 (yV (by decide) h)
  exact hk 20000000000 (by omega)
 obtain ⟨r,e2,hr⟩:=nO gR cG (!(decide (n<0)==decide (m<0))) hz hd lo;have e:bY (!(decide (n<0)==decide (m<0))) (dv out)=n*m:=by
  rw [aI,va,vb];have hnm:((n.natAbs*m.natAbs:Nat):Int)=(n.natAbs:Int)*m.natAbs:=wY _ _;unfold bY;by_cases h0:n<0<;>by_cases h1:m<0<;>simp only [h0,h1,yq,yu,yat,yQ,yD,xk,hnm]
  ·rw [show (n.natAbs:Int)= -n by omega,show (m.natAbs:Int)= -m by omega,Int.neg_mul_neg]
  ·rw [show (true==false)=false from rfl,yP,yM rfl,show (n.natAbs:Int)= -n by omega,show (m.natAbs:Int)=m by omega,Int.neg_mul,tV]
  ·rw [show (false==true)=false from rfl,yP,yM rfl,show (n.natAbs:Int)=n by omega,show (m.natAbs:Int)= -m by omega,Int.mul_neg,tV]
  ·rw [show (n.natAbs:Int)=n by omega,show (m.natAbs:Int)=m by omega]
 rw [e] at hr;obtain ⟨w2,l2,rfl,gX,gT,iP,zB⟩:=hr;refine ⟨_,?_,w2,l2,rfl,gX,gT,iP,zB⟩;unfold ab at e1 e2 ⊢;rw [aA h];simp only [go_sem,ya,yc,NJ,aO,hx.pu,hx.ai,hx.one,hy.pu,hy.ai,hy.one,hz.ai,hz.shut,gX.pu,gX.one,bq,yf,cm,e1,oM,aoQ,e2,eJ,bg];rcases gX with ⟨rfl,_⟩ | ⟨e,rfl⟩<;>rfl
end
def aoR (i:Nat) (q:List Int) (x:Int):(yC (i+1) (0:Int)++q).set i x=yC i 0++x::q:=by
 rw [List.replicate_succ',xr,List.set_append_right _ _ (by simp)]
 simp
section
variable {P:aG} {L:Lib}
def arE {v:AV} {a:List Int} (hv:a8 v a) (ha:dg a) (la:a.length<=20000000000) {d:Nat} (h0:0<d) (h1:d<1000000000):
  ∀k s,(∃(j r:Nat) (q:List Int),aM [0,1,6,7,8] s=⟨[(0,v),(1,aa d),(6,.ay 0 0 a.length),(7,aa r),(8,aa ((j:Int)-1))],[(0,.cells true true true 1 ((yC j (0:Int)++q).map aa))],1,0⟩/\j=k/\j+q.length=a.length/\r<d/\dg q/\dv (a.drop j)=d*dv q+r)->
   ∃ex s',D P L (.loop [0,1,6,7,8] Iq) s=some (ex,s')/\∃tm r q,s'=⟨tm,[(0,.cells true true true 1 (q.map aa))],1,0⟩/\ex= .exit 0/\aj tm 6= .ay 0 0 a.length/\aj tm 7=aa (r:Nat)/\q.length=a.length/\r<d/\dg q/\dv a=d*dv q+r:=by
 intro dq sq;generalize bf:aM [0,1,6,7,8] sq=s0;revert bf s0 sq dq;apply dh;rintro k s ⟨j,r,q,rfl,rfl,hl,hr,hd,aI⟩
 cases j with
 | zero=>
  right
  simp only [go_sem,ya,Iq,show ¬(0:Int)<=((0:Nat):Int)-1 by omega];exact ⟨_,_,rfl,by simp,_,r,q,rfl,rfl,by simp only [go_sem,ya],by simp only [go_sem,ya],by omega,hr,hd,aI⟩
 | succ i=>
  left
  have hi:i<a.length:=by omega
  obtain ⟨x,hx⟩:∃x,x=a.getD i 0:=⟨_,rfl⟩;have e1:=pZ hv hi;have gx:=hX ha i;rw [<-hx] at e1 gx;obtain ⟨t,ht⟩:∃t:Nat,t=r*1000000000+x.toNat:=⟨_,rfl⟩;have zN:(r:Int)*1000000000+x=(t:Int):=by omega
  have kG:t<d*1000000000:=by
   omega
  have ff:t/d<1000000000:=(wu h0).2 (by rw [xA];exact kG)
  have bW:t%d<d:=xE _ h0;have e2:((t:Nat):Int).tdiv d=((t/d:Nat):Int):=by rw [xL (by omega)];rfl
  have e3:((t:Nat):Int).tmod d=((t%d:Nat):Int):=by rw [xh (by omega)];rfl
  have Kr:(yC (i+1) (0:Int)++q).length=a.length:=by simp;omega
  have aQ:=fun (hp:Hp) (ct id:Nat) (ex:Bool)=>BO (hp:=hp) (ct:=ct) (id:=id) (ex:=ex) (v:=((t/d:Nat):Int)) (l:=yC (i+1) (0:Int)++q) (o:=i) (by rw [Kr];exact hi)
  simp only [aoR] at aQ
  simp only [go_sem,ya,yj,Iq,show ((i+1:Nat):Int)-1=(i:Int) by omega,show (0:Int)<=(i:Int) by omega,wrap64 (n:=(r:Int)*1000000000) (by omega) (by omega),e1,zN,wrapN (n:=t) (by omega),eQ _ _ _ (show (d:Int)≠0 by omega),eI _ _ _ (show (d:Int)≠0 by omega),e2,e3,wrapN (n:=t/d) (by omega),cU 0 0 (show i<a.length from hi),yf,aQ]
  refine ⟨_,i,rfl,by omega,i,t%d,((t/d:Nat):Int)::q,?_,rfl,by simp;omega,bW,(gL (a:=[((t/d:Nat):Int)]) (b:=q)).2 ⟨jH.2 ⟨tY _,uP.2 ff⟩,hd⟩,?_⟩
  ·rw [wrap64 (by omega) (by omega)];simp only [go_sem,ya,yc,ax,aE hv.pu,aH _ hv.pu]<;>rfl
  ·have ir:a.drop i=x::a.drop (i+1):=by
    rw [yO hi,hx];simp [xz,xV hi]
   rw [ir];simp only [dv,aI,wh];have e:=wb t d;rw [xC,xC d,Nat.mul_left_comm 1000000000 d];omega
def adZ (h:Has P L 299 A3) (cG:Has P L 300 lJ) {v:AV} {a:List Int} (hv:a8 v a) (ha:dg a) (la:a.length<=20000000000) {d:Nat} (h0:0<d) (h1:d<1000000000):
  ∃r q,ab P L 299 [v,aa d] (.ap [r,aa (dv a%d:Nat)])/\a8 r q/\shut r=r/\bP r=r/\dg q/\nz q/\dv q=dv a/d:=by
 obtain ⟨n,hn⟩:∃n,n=a.length:=⟨_,rfl⟩;have cI:∀ct:Nat,zx ct 1 8 [.int .i64 0] (some n) (some n)=some (.ay ct 0 n,.cells true true true 1 ((yC n (0:Int)).map aa)):=fun ct=>by
  rw [Ew (sz:=1) (by omega) (by omega) (by rfl) (by rfl),P2];rfl
 unfold ab;rw [aA h];simp only [go_sem,ya,yc,A3,hv.len,<-hn,cI];generalize hq:D P L (.loop [0,1,6,7,8] Iq) _=q;obtain ⟨ex,s,rfl,tm,r,qs,rfl,rfl,t6,t7,hlen,hr,hd,aI⟩:=bI hq (arE (P:=P) (L:=L) hv ha la h0 h1 a.length) ⟨a.length,0,[],by
  rw [wrap64 (by omega) (by omega),xW,<-hn]
  simp only [go_sem,ya,yc,ax,aE hv.pu,aH _ hv.pu]<;>rfl,rfl,by simp,h0,rfl,by rw [y5 (yz _)];simp [dv]⟩
 have nX:=gZ true qs;rw [hlen] at nX;obtain ⟨w,e1,hw,jm⟩:=A5 cG nX (by omega);have fg:dv a/d=dv qs/\dv a%d=r:=(Nat.div_mod_unique h0).2 ⟨by omega,hr⟩;refine ⟨w,dS qs,?_,hw,jm,hw.bP,An hd,D7 qs,by rw [sM,fg.1]⟩;have iv:∀hp:Hp,lK 0 a.length (some (true,1,qs.map aa,hp))=some (.aC true a.length (qs.map aa),hp):=fun hp=>lV true (by simp [hlen]) (by decide)
 rw [fg.2];simp only [go_sem,ya,yc,ax,t6,t7,iv,e1,jm];rcases hw with ⟨rfl,_⟩ | ⟨e,rfl⟩<;>rfl
def avz (h:Has P L 279 EZ) (Oh:Has P L 295 Js) (nQ:Has P L 296 rB) (Oi:Has P L 297 Jt) (mA:Has P L 302 rC) (gR:Has P L 294 A2) (cG:Has P L 300 lJ) {v w:AV} {n m:Int} {K:Nat} (hK:K<=8000000000) (hv:iT v n) (hw:iT w m) (hn:n.natAbs<1000000000^K) (hm:m.natAbs<1000000000^K):
  ∃r,ab P L 279 [v,w] r/\iT r (n+m):=by
 obtain ⟨x,a,rfl,hx,ha,na,va⟩:=hv;obtain ⟨y,b,rfl,hy,hb,nb,vb⟩:=hw;have la:=xg (hZ ha na (by rw [va];exact hn)) hK
 have lb:=xg (hZ hb nb (by rw [vb];exact hm)) hK
 by_cases hs:(decide (n<0)==decide (m<0))=true
 ·obtain ⟨z,out,e1,hz,hd,aI,hl⟩:=adX Oh mA hx hy ha hb (by omega) (by omega);have lo:out.length<=20000000000:=by omega
  obtain ⟨r,e2,hr⟩:=nO gR cG (decide (n<0)) hz hd lo;have e:bY (decide (n<0)) (dv out)=n+m:=by
   have pH:(n<0)=(m<0):=by simpa using eq_of_beq hs
   rw [aI,va,vb];unfold bY;by_cases h0:n<0
   ·have h1:m<0:=pH▸h0;simp only [h0,yq,xB];omega
   ·have h1:¬m<0:=pH▸h0;simp only [h0,yu,yD,xk];omega
  rw [e] at hr;obtain ⟨w2,l2,rfl,gX,gT,iP,zB⟩:=hr;refine ⟨_,?_,w2,l2,rfl,gX,gT,iP,zB⟩;unfold ab at e1 e2 ⊢;rw [aA h];simp only [go_sem,ya,yc,EZ,aO,hx.pu,hx.ai,hx.one,hy.pu,hy.ai,hy.one,hz.ai,gX.pu,gX.one,bq,yf,cm,e1,oM,eb,hs,e2,eJ,bg];rcases gX with ⟨rfl,_⟩ | ⟨e,rfl⟩<;>rfl
 ·have hs:(decide (n<0)==decide (m<0))=false:=by simpa using hs
  have pH:¬((n<0)=(m<0)):=fun e=>by simp [e] at hs
  have ec:=Ud nQ hx hy ha hb na nb (by omega) (by omega);by_cases hc:dv a<dv b
  ·have ef:dP (dv a) (dv b)= -1:=by unfold dP;rw [yM hc]
   rw [ef] at ec;obtain ⟨z,out,e1,hz,jm,hd,BH,aI⟩:=adY Oi mA cG hy hx hb ha nb na (by omega) (by omega);have lo:out.length<=20000000000:=by
    refine hZ hd BH ?_
    have:=jN hb
    have hk:∀K,b.length<=K->dv out<1000000000^K:=fun K h=>yA (show dv out<1000000000^b.length by omega) (yV (by decide) h)
    exact hk 20000000000 (by omega)
   obtain ⟨r,e2,hr⟩:=nO gR cG (decide (m<0)) hz hd lo;have e:bY (decide (m<0)) (dv out)=n+m:=by
    rw [va,vb] at aI;unfold bY;by_cases h0:m<0
    ·have h1:¬n<0:=fun h1=>pH (by simp [h0,h1])
     simp only [h0,yq,xB];omega
    ·have h1:n<0:=by
      by_cases h1:n<0
      ·exact h1
      ·exact absurd (by simp [h0,h1]) pH
     simp only [h0,yu,yD,xk];omega
   rw [e] at hr;obtain ⟨w2,l2,rfl,gX,gT,iP,zB⟩:=hr;refine ⟨_,?_,w2,l2,rfl,gX,gT,iP,zB⟩;unfold ab at e1 e2 ec ⊢;rw [aA h];simp only [go_sem,ya,yc,EZ,aO,hx.pu,hx.ai,hx.one,hy.pu,hy.ai,hy.one,hz.ai,hz.shut,gX.pu,gX.one,bq,yf,cm,e1,oM,eb,hs,ec,show ¬(0:Int)<=-1 by decide,e2,eJ,bg];rcases gX with ⟨rfl,_⟩ | ⟨e,rfl⟩<;>rfl
  ·have ef:(0:Int)<=dP (dv a) (dv b):=by unfold dP;rw [yB hc];split<;>decide
   obtain ⟨z,out,e1,hz,jm,hd,BH,aI⟩:=adY Oi mA cG hx hy ha hb na nb (by omega) (by omega);have lo:out.length<=20000000000:=by
    refine hZ hd BH ?_
    have:=jN ha
    have hk:∀K,a.length<=K->dv out<1000000000^K:=fun K h=>yA (show dv out<1000000000^a.length by omega) (yV (by decide) h)
    exact hk 20000000000 (by omega)
   obtain ⟨r,e2,hr⟩:=nO gR cG (decide (n<0)) hz hd lo;have e:bY (decide (n<0)) (dv out)=n+m:=by
    rw [va,vb] at aI;unfold bY;by_cases h0:n<0
    ·have h1:¬m<0:=fun h1=>pH (by simp [h0,h1])
     simp only [h0,yq,xB];omega
    ·have h1:m<0:=by
      by_cases h1:m<0
      ·exact h1
      ·exact absurd (by simp [h0,h1]) pH
     simp only [h0,yu,yD,xk];omega
   rw [e] at hr;obtain ⟨w2,l2,rfl,gX,gT,iP,zB⟩:=hr;refine ⟨_,?_,w2,l2,rfl,gX,gT,iP,zB⟩;unfold ab at e1 e2 ec ⊢;rw [aA h];simp only [go_sem,ya,yc,EZ,aO,hx.pu,hx.ai,hx.one,hy.pu,hy.ai,hy.one,hz.ai,hz.shut,gX.pu,gX.one,bq,yf,cm,e1,oM,eb,hs,ec,ef,e2,eJ,bg];rcases gX with ⟨rfl,_⟩ | ⟨e,rfl⟩<;>rfl
def Rk {l:List Int} (hd:dg l) (hn:nz l) (h:dv l<1000000000):l.length<=1:=hZ hd hn (by simpa using h)
def avA (h:Has P L 289 rA) (nQ:Has P L 296 rB) (oW:Has P L 299 A3) (cG:Has P L 300 lJ) {v w:AV} {a b:List Int} (hv:a8 v a) (hw:a8 w b) (ha:dg a) (hb:dg b) (na:nz a) (nb:nz b) (la:a.length<=20000000000) (lb:b.length<=1) (h0:0<dv b):
  ∃q r lq lr,ab P L 289 [v,w] (.ap [q,r])/\a8 q lq/\a8 r lr/\dg lq/\nz lq/\dg lr/\nz lr/\dv lq=dv a/dv b/\dv lr=dv a%dv b:=by
 have ec:=Ud nQ hv hw ha hb na nb la (by omega);by_cases hc:dv a<dv b
 ·have ef:dP (dv a) (dv b)= -1:=by unfold dP;rw [yM hc]
  rw [ef] at ec;refine ⟨.af,v,[],a,?_,qQ,hv,rfl,rfl,ha,na,?_,?_⟩
  ·unfold ab;rw [aA h];simp only [go_sem,ya,rA,hv.ai,hw.ai,ec,show (-1:Int)<0 by decide];rcases hv with ⟨rfl,_⟩ | ⟨e,rfl⟩<;>rfl
  ·rw [xO hc];rfl
  ·rw [yL hc]
 ·have ef:¬dP (dv a) (dv b)<0:=by unfold dP;rw [yB hc];split<;>decide
  have mD:b.length=1:=by
   rcases xn b.length with e | e
   ·rw [yJ e] at h0;simp [dv] at h0
   ·omega
  obtain ⟨x,rfl⟩:∃x,b=[x]:=by
   cases b with
   | nil=>simp at mD
   | cons x r=>cases r with
    | nil=>exact ⟨x,rfl⟩
    | cons y r=>simp at mD
  have gx:=jH.1 hb;obtain ⟨d,hd⟩:∃d:Nat,x=d:=⟨x.toNat,by omega⟩;subst hd;have hdd:dv [((d:Nat):Int)]=d:=by simp [dv]
  rw [hdd] at h0 hc ef ec ⊢;obtain ⟨q,lq,e1,hq,hqs,avB,dq,nq,vq⟩:=adZ oW cG hv ha la h0 (by omega);have acs:dv a%d<d:=xE _ h0;generalize dv a%d=m at*
  obtain ⟨r,e2,hr,Bw⟩:=A5 cG (gZ true [(m:Int)]) (by simp);refine ⟨q,r,lq,dS [(m:Int)],?_,hq,hr,dq,nq,An (jH.2 (by omega)),D7 _,vq,by rw [sM];simp [dv]⟩;have e3:=hw.bn (i:=0) (by simp);simp only [yv,yI,yf,xj,wL,vV] at e2 e3;unfold ab;rw [aA h];simp only [go_sem,ya,yc,yE,ym,yj,rA,hv.ai,hw.len,hw.ai,ec,ef,yv,yI,show ((1:Nat):Int)=(1:Int) from rfl,yq,e3,e1,avB,e2,Bw];rcases hq with ⟨rfl,_⟩ | ⟨e,rfl⟩<;>rcases hr with ⟨rfl,_⟩ | ⟨e',rfl⟩<;>rfl
end
def sv:List Int->Int
 | []=>0
 | a::r=>a+1000000000*sv r
def YG:∀(a b:List Int),sv (a++b)=sv a+1000000000^a.length*sv b
 | [],b=>by simp [sv]
 | x::a,b=>by
  simp only [yY,sv,YG a b,yv,tG,ycL]
  grind
def arF (x:Int):sv [x]=x:=by simp [sv]
def EA:∀{l:List Int} {i:Nat} {x:Int},i<l.length->sv (l.set i x)=sv l+1000000000^i*(x-l.getD i 0)
 | [],i,x,h=>by simp at h
 | a::l,0,x,_=>by simp [sv];omega
 | a::l,i+1,x,h=>by
  have ih:=EA (l:=l) (i:=i) (x:=x) (by simpa using h);simp only [List.set_cons_succ,sv,List.getD_cons_succ,ih,tG,ycL]
  grind
def Mq {l:List Int} (i:Nat):sv (l.take (i+1))=sv (l.take i)+1000000000^i*l.getD i 0:=by
 by_cases h:i<l.length
 ·rw [List.take_succ_eq_append_getElem h,YG,yT,xD (by omega),arF]
  grind
 ·rw [yN (by omega),yN (by omega),HE (by omega),Int.mul_zero,ycx]
def zh:∀{l:List Int},dg l->sv l=dv l
 | [],_=>rfl
 | a::l,h=>by
  obtain ⟨h1,h2⟩:=gL.1 (show dg ([a]++l) from h);have h1:=jH.1 h1;simp only [sv,dv,zh h2,ybH,wY];omega
section
variable {pre x post:List Int} {i:Nat}
def nG:(pre++x++post).length=pre.length+x.length+post.length:=by grind
def AJ (h:i<x.length):(pre++x++post).getD (pre.length+i) 0=x.getD i 0:=by grind
def MC (a:Int) (h:i<x.length):(pre++x++post).set (pre.length+i) a=pre++x.set i a++post:=by simp_all
end
def abg {l:List Int} {i m:Nat} {x:Int} (h:i≠m):(l.set i x).getD m 0=l.getD m 0:=by simp_all
def akg {l:List Int} {i:Nat} {x:Int} (h:i<l.length):(l.set i x).getD i 0=x:=by simp_all
abbrev H3 (q u:List Int) (f:Int):Hp:=[(2,.cells true true true 1 (q.map aa)),(1,.cells true true false 1 (u.map aa)),(0,.cells false true true 1 [aa f])]
def L2 {live:List Nat} {tm:Env} {ct:Nat} {a b c:List AV} (ht:jI 3 (cK tm live)) (hl:(fA (cK tm live)).length<100000):
  aM live ⟨tm,[(2,.cells true true true 1 a),(1,.cells true true false 1 b),(0,.cells false true true 1 c)],ct,3⟩=⟨cK tm live,[(2,.cells true true true 1 a),(1,.cells true true false 1 b),(0,.cells false true true 1 c)],3,3⟩:=
 W4 ht ⟨by omega,.inl rfl,by omega,.inl rfl,by omega,.inl rfl,trivial⟩ (by
  have:ej 3 [(2,Obj.cells true true true 1 a),(1,Obj.cells true true false 1 b),(0,Obj.cells false true true 1 c)]=[]:=rfl
  rw [this,yI,yW];exact hl)
structure fZ (x vs:List Int) (n v1 v2 u0 u1 u2:Nat):Prop where
 n2:2<=n
 nb:n<=20000000000
 lx:x.length=n+1
 lv:vs.length=n
 gx:dg x
 gv:dg vs
 dY:vs.getD (n-1) 0=(v1:Int)
 cA:vs.getD (n-2) 0=(v2:Int)
 h0:x.getD n 0=(u0:Int)
 h1:x.getD (n-1) 0=(u1:Int)
 h2:x.getD (n-2) 0=(u2:Int)
 pos:0<v1
 lt:dv x<1000000000*dv vs
section
variable {x vs:List Int} {n v1 v2 u0 u1 u2:Nat}
def fZ.Ks (h:fZ x vs n v1 v2 u0 u1 u2):v1<1000000000:=by have:=hX h.gv (n-1);rw [h.dY] at this;omega
def fZ.Dx (h:fZ x vs n v1 v2 u0 u1 u2):v2<1000000000:=by have:=hX h.gv (n-2);rw [h.cA] at this;omega
def fZ.u0W (h:fZ x vs n v1 v2 u0 u1 u2):u0<1000000000:=by have:=hX h.gx n;rw [h.h0] at this;omega
def fZ.Kt (h:fZ x vs n v1 v2 u0 u1 u2):u1<1000000000:=by have:=hX h.gx (n-1);rw [h.h1] at this;omega
def fZ.Ku (h:fZ x vs n v1 v2 u0 u1 u2):u2<1000000000:=by have:=hX h.gx (n-2);rw [h.h2] at this;omega
def fZ.parts (h:fZ x vs n v1 v2 u0 u1 u2):∃p vr ur,dv vs=(v1*1000000000+v2)*p+vr/\vr<p/\dv x=((u0*1000000000+u1)*1000000000+u2)*p+ur/\ur<p:=by
 obtain ⟨m,hm⟩:∃m,n=m+2:=⟨n-2,by have:=h.n2;omega⟩;subst hm;have e1:=oC (l:=vs) (m+1);have e2:=oC (l:=vs) m;have f0:=oC (l:=x) (m+2);have f1:=oC (l:=x) (m+1);have f2:=oC (l:=x) m;have dY:vs.getD (m+1) 0=(v1:Int):=h.dY;have cA:vs.getD m 0=(v2:Int):=h.cA;have h0:x.getD (m+2) 0=(u0:Int):=h.h0;have h1:x.getD (m+1) 0=(u1:Int):=h.h1;have h2:x.getD m 0=(u2:Int):=h.h2
 rw [yN (by have:=h.lv;omega),dY,e2,cA] at e1
 rw [yN (by have:=h.lx;omega),h0,f1,h1,f2,h2] at f0;simp only [wh] at e1 f0;have g1:=jN (B8 h.gv m)
 rw [yT,xD (by have:=h.lv;omega)] at g1;have g2:=jN (B8 h.gx m)
 rw [yT,xD (by have:=h.lx;omega)] at g2;refine ⟨1000000000^m,_,_,?_,g1,?_,g2⟩
 ·rw [e1,y9,ats]
 ·rw [f0,show 1000000000^(m+2)=1000000000^m*1000000000*1000000000 by rw [y9,y9],y9,att]
def fZ.down (h:fZ x vs n v1 v2 u0 u1 u2) {t r:Nat} (ht:t*v1+r=u0*1000000000+u1) (hr:r*1000000000+u2<t*v2):dv x/dv vs<=t-1:=by
 obtain ⟨p,vr,ur,h1,h2,h3,h4⟩:=h.parts;exact Xx h1 h3 h4 ht hr
def fZ.stop (h:fZ x vs n v1 v2 u0 u1 u2) {t r:Nat} (kG:t<1000000000) (ht:t*v1+r=u0*1000000000+u1) (hr:1000000000<=r\/t*v2<=r*1000000000+u2):t<=dv x/dv vs+1:=by
 obtain ⟨p,vr,ur,h1,h2,h3,h4⟩:=h.parts;exact Ym (by decide) h1 h2 h3 h.pos h.Dx kG ht hr
def fZ.first (h:fZ x vs n v1 v2 u0 u1 u2):dv x/dv vs<=(u0*1000000000+u1)/v1:=by
 obtain ⟨p,vr,ur,h1,h2,h3,h4⟩:=h.parts;exact PJ h1 h3 h4 h.Ku h.pos
def fZ.top (h:fZ x vs n v1 v2 u0 u1 u2):u0<=v1:=by
 obtain ⟨p,vr,ur,h1,h2,h3,h4⟩:=h.parts;exact Yn h1 h3 h2 h.Dx h.lt
def fZ.digit (h:fZ x vs n v1 v2 u0 u1 u2):dv x/dv vs<1000000000:=by
 refine (wu ?_).2 h.lt;rcases xn (dv vs) with h0 | h0
 ·have:=h.lt;rw [h0] at this;simp at this
 ·exact h0
def fZ.small (h:fZ x vs n v1 v2 u0 u1 u2) {t r:Nat} (ht:t*v1+r=u0*1000000000+u1) (hb:1000000000<=t):r<1000000000:=by
 have h1:=h.top;have h2:=h.Kt;have h3:=yS v1 hb
 grind
end
def avC {r u:Nat} (hr:r<1000000000) (hu:u<1000000000):r*1000000000<9223372036854775808/\r*1000000000+u<9223372036854775808:=by omega
section
variable {P:aG} {L:Lib}
def aoS {w:AV} {x vs pre post qs:List Int} {f:Int} (hw:a8 w vs) {n v1 v2 u0 u1 u2 M:Nat} (hl:fZ x vs n v1 v2 u0 u1 u2) (hM:M=pre.length+x.length+post.length) (KJ:M<=50000000000):
  ∀k s,(∃t r:Nat,aM [0,1,2,7,9,10] s=⟨[(0,.ay 1 0 M),(1,w),(2,aa pre.length),(7,aa n),(9,aa t),(10,aa r)],H3 qs (pre++x++post) f,3,3⟩/\t*v1+r=u0*1000000000+u1/\r<1000000000/\dv x/dv vs<=t/\t=k)->
   ∃ex s',D P L (.loop [0,1,2,7,9,10] AD) s=some (ex,s')/\∃tm ct t,s'=⟨tm,H3 qs (pre++x++post) f,ct,3⟩/\((ex= .exit 0/\aj tm 9=aa (t:Nat))\/(ex= .ret/\aj tm 6=aa (t:Nat)))/\ct=3/\t<1000000000/\dv x/dv vs<=t/\t<=dv x/dv vs+1:=by
 intro dq sq;generalize bf:aM [0,1,2,7,9,10] sq=s0;revert bf s0 sq dq;apply dh;rintro k s ⟨t,r,rfl,ht,hr,hQ,rfl⟩;have dn:=hl.n2;have px:=hl.nb;have hlx:=hl.lx;have E4:=hl.Ks;have Tw:=hl.Dx;have adw:=hl.Ku;have avD:=hl.u0W;have N6:=hl.Kt;have Be:=hl.pos;have py:=pZ hw (i:=n-2) (by have:=hl.lv;omega);have eP:=pZ hw (i:=n-1) (by have:=hl.lv;omega);rw [hl.cA] at py;rw [hl.dY] at eP;have ss:=rm (l:=pre++x++post) (o:=pre.length+(n-2)) (by rw [nG];omega);rw [AJ (by omega),hl.h2] at ss;have zT:(n:Int)-2=((n-2:Nat):Int):=by omega
 have pC:(n:Int)-1=((n-1:Nat):Int):=by omega
 have KK:(pre.length:Int)+(n:Int)=((pre.length+n:Nat):Int):=rfl;have V3:((pre.length+n:Nat):Int)-2=((pre.length+(n-2):Nat):Int):=by omega
 have azH:t<=1000000000000000000:=by
  have:=yU t Be
  omega
 have azI:t*1<=t*v1:=yU t Be;obtain ⟨V4,V5⟩:=avC hr adw;by_cases sn:1000000000<=t\/r*1000000000+u2<t*v2
 ·have ht0:0<t:=by
   rcases xn t with h0 | h0
   ·subst h0;omega
   ·exact h0
  have h1:(t-1)*v1+(r+v1)=u0*1000000000+u1:=by
   obtain ⟨p,rfl⟩:∃p,t=p+1:=⟨t-1,by omega⟩;rw [we,Nat.one_mul] at ht;rw [Nat.add_sub_cancel];omega
  have zU:dv x/dv vs<=t-1:=by
   rcases sn with h | h
   ·have:=hl.digit;generalize dv x/dv vs=q at*;omega
   ·exact hl.down ht h
  have Pr:((t:Nat):Int)-1=((t-1:Nat):Int):=by omega
  have stop:1000000000<=r+v1->t-1<1000000000/\t-1<=dv x/dv vs+1:=fun hb=>by
   have aP:t-1<1000000000:=by
    by_cases rV:1000000000<=t-1
    ·have:=hl.small h1 rV;omega
    ·omega
   exact ⟨aP,hl.stop aP h1 (.inl hb)⟩
  by_cases hb:1000000000<=t
  ·by_cases eE:1000000000<=r+v1
   ·right
    obtain ⟨s1,s2⟩:=stop eE
    simp only [go_sem,ya,AD,H3,show (1000000000:Int)<=(t:Int) by omega,Pr,wrapN (n:=t-1) (by omega),pC,wrapN (n:=n-1) (by omega),eP,show (r:Int)+(v1:Int)=((r+v1:Nat):Int) from rfl,wrapN (n:=r+v1) (by omega),show (1000000000:Int)<=((r+v1:Nat):Int) by omega];exact ⟨_,_,rfl,by simp,_,_,t-1,rfl,.inr ⟨rfl,by simp only [go_sem]⟩,rfl,s1,zU,s2⟩
   ·left
    simp only [go_sem,ya,AD,H3,show (1000000000:Int)<=(t:Int) by omega,Pr,wrapN (n:=t-1) (by omega),pC,wrapN (n:=n-1) (by omega),eP,show (r:Int)+(v1:Int)=((r+v1:Nat):Int) from rfl,wrapN (n:=r+v1) (by omega),show ¬(1000000000:Int)<=((r+v1:Nat):Int) by omega];refine ⟨_,t-1,rfl,by omega,t-1,r+v1,?_,h1,by omega,zU,rfl⟩;rw [L2 (by simp only [go_sem,ya,yE,mg,mO,ma,lX,pL hw.pu,wZ]) (by simp only [go_sem,ya,yc,yE,aE hw.pu])];simp only [go_sem,ya]
  ·have pv:=wK (show t<=999999999 by omega) (show v2<=999999999 by omega);have Uf:r*1000000000+u2<t*v2:=sn.resolve_left hb;obtain ⟨m,hm⟩:∃m,t*v2=m:=⟨_,rfl⟩;have em:(t:Int)*(v2:Int)=(m:Int):=by rw [<-hm,wY]
   rw [hm] at Uf pv;have FQ:(r:Int)*1000000000=((r*1000000000:Nat):Int):=by omega
   have BD:((r*1000000000:Nat):Int)+(u2:Int)=((r*1000000000+u2:Nat):Int):=rfl;by_cases eE:1000000000<=r+v1
   ·right
    obtain ⟨s1,s2⟩:=stop eE
    simp only [go_sem,ya,yj,AD,H3,show ¬(1000000000:Int)<=(t:Int) by omega,zT,wrapN (n:=n-2) (by omega),py,em,wrapN (n:=m) (by omega),FQ,wrapN V4,KK,wrapN (n:=pre.length+n) (by omega),V3,wrapN (n:=pre.length+(n-2)) (by omega),cU 1 0 (show pre.length+(n-2)<M by omega),yf,ss,BD,wrapN V5,show ((r*1000000000+u2:Nat):Int)<(m:Int) from uP.2 Uf,Pr,wrapN (n:=t-1) (by omega),pC,wrapN (n:=n-1) (by omega),eP,show (r:Int)+(v1:Int)=((r+v1:Nat):Int) from rfl,wrapN (n:=r+v1) (by omega),show (1000000000:Int)<=((r+v1:Nat):Int) by omega];exact ⟨_,_,rfl,by simp,_,_,t-1,rfl,.inr ⟨rfl,by simp only [go_sem]⟩,rfl,s1,zU,s2⟩
   ·left
    simp only [go_sem,ya,yj,AD,H3,show ¬(1000000000:Int)<=(t:Int) by omega,zT,wrapN (n:=n-2) (by omega),py,em,wrapN (n:=m) (by omega),FQ,wrapN V4,KK,wrapN (n:=pre.length+n) (by omega),V3,wrapN (n:=pre.length+(n-2)) (by omega),cU 1 0 (show pre.length+(n-2)<M by omega),yf,ss,BD,wrapN V5,show ((r*1000000000+u2:Nat):Int)<(m:Int) from uP.2 Uf,Pr,wrapN (n:=t-1) (by omega),pC,wrapN (n:=n-1) (by omega),eP,show (r:Int)+(v1:Int)=((r+v1:Nat):Int) from rfl,wrapN (n:=r+v1) (by omega),show ¬(1000000000:Int)<=((r+v1:Nat):Int) by omega];refine ⟨_,t-1,rfl,by omega,t-1,r+v1,?_,h1,by omega,zU,rfl⟩;rw [L2 (by simp only [go_sem,ya,yE,mg,mO,ma,lX,pL hw.pu,wZ]) (by simp only [go_sem,ya,yc,yE,aE hw.pu])];simp only [go_sem,ya]
 ·right
  have kG:t<1000000000:=Nat.lt_of_not_le fun e=>sn (.inl e)
  have pv:=wK (show t<=999999999 from yah kG) (show v2<=999999999 from yah Tw);have Ug:t*v2<=r*1000000000+u2:=Nat.le_of_not_lt fun e=>sn (.inr e)
  have atG:=hl.stop kG ht (.inr Ug);obtain ⟨m,hm⟩:∃m,t*v2=m:=⟨_,rfl⟩;have em:(t:Int)*(v2:Int)=(m:Int):=by rw [<-hm,wY]
  rw [hm] at Ug pv;have FQ:(r:Int)*1000000000=((r*1000000000:Nat):Int):=by omega
  have BD:((r*1000000000:Nat):Int)+(u2:Int)=((r*1000000000+u2:Nat):Int):=rfl
  simp only [go_sem,ya,yj,AD,H3,show ¬(1000000000:Int)<=(t:Int) by omega,zT,wrapN (n:=n-2) (by omega),py,em,wrapN (n:=m) (by omega),FQ,wrapN V4,KK,wrapN (n:=pre.length+n) (by omega),V3,wrapN (n:=pre.length+(n-2)) (by omega),cU 1 0 (show pre.length+(n-2)<M by omega),yf,ss,BD,wrapN V5,show ¬((r*1000000000+u2:Nat):Int)<(m:Int) from fun e=>Nat.not_lt_of_le Ug (uP.1 e)];exact ⟨_,_,rfl,by simp,_,_,t,rfl,.inl ⟨rfl,by simp only [go_sem,ya]⟩,rfl,kG,hQ,atG⟩
def atH (h:Has P L 301 zq) {w:AV} {x vs pre post qs:List Int} {f:Int} (hw:a8 w vs) {n v1 v2 u0 u1 u2 M:Nat} (hl:fZ x vs n v1 v2 u0 u1 u2) (hM:M=pre.length+x.length+post.length) (KJ:M<=50000000000):
  ∃t:Nat,iC P L (D P L) (H3 qs (pre++x++post) f) 3 301 [.ay 1 0 M,w,aa pre.length]=some (aa t,H3 qs (pre++x++post) f,3)/\t<1000000000/\dv x/dv vs<=t/\t<=dv x/dv vs+1:=by
 have dn:=hl.n2;have px:=hl.nb;have hlx:=hl.lx;have su:below 3 w:=pL hw.pu;have E4:=hl.Ks;have avD:=hl.u0W;have N6:=hl.Kt;have Be:=hl.pos;have eP:=pZ hw (i:=n-1) (by have:=hl.lv;omega);rw [hl.dY] at eP;have BF:=rm (l:=pre++x++post) (o:=pre.length+n) (by rw [nG];omega);rw [AJ (by omega),hl.h0] at BF;have BG:=rm (l:=pre++x++post) (o:=pre.length+(n-1)) (by rw [nG];omega);rw [AJ (by omega),hl.h1] at BG;have pC:(n:Int)-1=((n-1:Nat):Int):=by omega
 have KK:(pre.length:Int)+(n:Int)=((pre.length+n:Nat):Int):=rfl;have pn1:((pre.length+n:Nat):Int)-1=((pre.length+(n-1):Nat):Int):=by omega
 obtain ⟨m,hm⟩:∃m,m=u0*1000000000+u1:=⟨_,rfl⟩;have em:(u0:Int)*1000000000=((u0*1000000000:Nat):Int):=by omega
 have em2:((u0*1000000000:Nat):Int)+(u1:Int)=(m:Int):=by omega
 have fg:=wb m v1;have lM:=xE m Be;have MB:=hl.first;rw [<-hm] at MB;have azV:m/v1<=m:=Nat.div_le_self _ _;have oq:IntKind.wrap .i64 ((m:Int).tdiv (v1:Int))=((m/v1:Nat):Int):=by
  rw [xL (by omega),<-Int.natCast_ediv,wrapN (by omega)]
 have or':(m:Int).tmod (v1:Int)=((m%v1:Nat):Int):=by rw [xh (by omega),<-Int.natCast_emod]
 rw [xA] at fg;generalize m/v1=q0 at*
 generalize m%v1=r0 at*
 have jd:∃ex tm t,D P L zq.body ⟨eh 0 [.ay 1 0 M,w,aa pre.length],H3 qs (pre++x++post) f,3,3⟩=some (ex,⟨tm,H3 qs (pre++x++post) f,3,3⟩)/\(ex= .normal\/ex= .ret)/\aj tm 6=aa (t:Nat)/\t<1000000000/\dv x/dv vs<=t/\t<=dv x/dv vs+1:=by
  simp only [go_sem,ya,yj,zq,H3,hw.len,hl.lv,KK,wrapN (n:=pre.length+n) (by omega),cU 1 0 (show pre.length+n<M by omega),yf,BF,em,wrapN (n:=u0*1000000000) (by omega),pn1,wrapN (n:=pre.length+(n-1)) (by omega),cU 1 0 (show pre.length+(n-1)<M by omega),BG,em2,wrapN (n:=m) (by omega),pC,wrapN (n:=n-1) (by omega),eP,eQ _ _ _ (show (v1:Int)≠0 by omega),eI _ _ _ (show (v1:Int)≠0 by omega),oq,or'];generalize kI:D P L (.loop [0,1,2,7,9,10] AD) _=qq;obtain ⟨ex,s,rfl,tm,ct,t,rfl,mr,rfl,g1,g2,g3⟩:=bI kI (aoS (P:=P) (L:=L) (qs:=qs) (f:=f) hw hl hM KJ q0) ⟨q0,r0,by
   rw [L2 (by simp only [go_sem,ya,yE,mg,mO,ma,lX,su,wZ]) (by simp only [go_sem,ya,yc,yE,aE hw.pu])]
   simp only [go_sem,ya],by omega,by omega,MB,rfl⟩
  rcases mr with ⟨rfl,h9⟩ | ⟨rfl,h6⟩
  ·simp only [go_sem,yE,H3,L2,mg,ma,lX,h9,and_self];exact ⟨_,_,t,rfl,.inr rfl,by simp only [go_sem],g1,g2,g3⟩
  ·simp only [go_sem];exact ⟨_,_,t,rfl,.inr rfl,h6,g1,g2,g3⟩
 obtain ⟨ex,tm,t,g1,g2,g3,g4,g5,g6⟩:=jd;exact ⟨t,HR h g1 g2 (by show gY _ [RV.t 6]=_;rw [JB,IU,g3]),g4,g5,g6⟩
end
def avE {t v bo:Int} (ht:0<=t/\t<1000000000) (hv:0<=v/\v<1000000000) (hb:0<=bo/\bo<1000000000):0<=t*v/\t*v<=999999998000000001/\0<=t*v+bo/\t*v+bo<=999999999000000000:=by
 have h1:=tg ht.1 hv.1;have h2:=ybX (show t<=999999999 by omega) (show v<=999999999 by omega) hv.1 (by decide);omega
def avF {x p:Int} (hx:0<=x/\x<1000000000) (hp:0<=p/\p<=999999999000000000):
  (x-p.tmod 1000000000<0->0<=x-p.tmod 1000000000+1000000000/\x-p.tmod 1000000000+1000000000<1000000000/\0<=p.tdiv 1000000000+1/\p.tdiv 1000000000+1<1000000000/\x-p.tmod 1000000000+1000000000+p=x+1000000000*(p.tdiv 1000000000+1))/\
  (¬x-p.tmod 1000000000<0->x-p.tmod 1000000000<1000000000/\0<=p.tdiv 1000000000/\p.tdiv 1000000000<1000000000/\x-p.tmod 1000000000+p=x+1000000000*p.tdiv 1000000000):=by grind
def Ro {l:List Int} (h:dg l) {i:Nat} {z:Int} (hz:0<=z/\z<1000000000):dg (l.set i z):=Mv h hz
def aoT {b p z q v bo zV x X Y S:Int} (h2:z+(q*v+bo)=x+b*zV) (h3:Y+q*X=S+p*bo):(Y+p*(z-x))+q*(X+p*v)=S+p*b*zV:=by grind
section
variable {P:aG} {L:Lib}
def aoU {w:AV} {x vs pre post qs:List Int} {f:Int} (hw:a8 w vs) {n M m:Nat} (lv:vs.length=n) (hM:M=pre.length+(n+1)+post.length) (KJ:M<=50000000000) (gv:dg vs) {t:Int} (ht:0<=t/\t<1000000000):
  ∀k s,(∃(i:Nat) (bo:Int) (y:List Int),aM [8,9,10,11,12,13,14,15,16] s=⟨[(8,.ay 0 0 1),(9,w),(10,aa n),(11,.ay 1 0 M),(12,.ay 2 0 m),(13,aa pre.length),(14,aa t),(15,aa bo),(16,aa i)],H3 qs (pre++y++post) f,3,0⟩/\i+k=n/\y.length=n+1/\dg y/\(0<=bo/\bo<1000000000)/\
    sv y+t*sv (vs.take i)=sv x+1000000000^i*bo)->
   ∃ex s',D P L (.loop [8,9,10,11,12,13,14,15,16] Ek) s=some (ex,s')/\∃tm bo y,s'=⟨tm,H3 qs (pre++y++post) f,3,0⟩/\ex= .exit 4/\aj tm 8= .ay 0 0 1/\aj tm 9=w/\aj tm 10=aa n/\aj tm 11= .ay 1 0 M/\aj tm 12= .ay 2 0 m/\aj tm 13=aa pre.length/\aj tm 14=aa t/\aj tm 15=aa bo/\y.length=n+1/\dg y/\(0<=bo/\bo<1000000000)/\
    sv y+t*sv vs=sv x+1000000000^n*bo:=by
 intro dq sq;generalize bf:aM [8,9,10,11,12,13,14,15,16] sq=s0;revert bf s0 sq dq;apply dh;rintro k s ⟨i,bo,y,rfl,hk,ly,gy,jl,aI⟩;by_cases hi:i<n
 ·left
  have qC:=hX gv i;have pD:=hX gy i;have ev:=pZ hw (i:=i) (by omega);have ey:=rm (l:=pre++y++post) (o:=pre.length+i) (by rw [nG];omega);rw [AJ (by omega)] at ey;have dz:=Mq (l:=vs) i;obtain ⟨a,ha⟩:∃a,a=vs.getD i 0:=⟨_,rfl⟩;obtain ⟨d,hd⟩:∃d,d=y.getD i 0:=⟨_,rfl⟩;rw [<-ha] at qC ev dz;rw [<-hd] at pD ey;obtain ⟨p1,p2,p3,p4⟩:=avE ht qC jl;obtain ⟨s1,s2⟩:=avF pD ⟨p3,p4⟩;have eU:(i:Int)+(pre.length:Int)=((pre.length+i:Nat):Int):=by omega
  have aQ:=fun (hp:Hp) (ct:Nat) (z:Int)=>BO (hp:=hp) (ct:=ct) (id:=1) (v:=z) (ex:=false) (l:=pre++y++post) (o:=pre.length+i) (by rw [nG];omega)
  have nM:=fun z=>MC (pre:=pre) (x:=y) (post:=post) (i:=i) z (by omega)
  have aU:=fun z=>EA (l:=y) (i:=i) (x:=z) (by omega)
  rw [<-hd] at aU;obtain ⟨pr,nW⟩:∃pr,pr=t*a+bo:=⟨_,rfl⟩;obtain ⟨dm,fg⟩:∃dm,pr.tmod 1000000000=dm:=⟨_,rfl⟩;obtain ⟨dq,DA⟩:∃dq,pr.tdiv 1000000000=dq:=⟨_,rfl⟩;have azW:0<=dm/\dm<1000000000:=by rw [<-fg,xh (by omega)];omega
  have azX:0<=dq/\dq<1000000000:=by rw [<-DA,xL (by omega)];omega
  rw [<-nW,fg,DA] at s1 s2;have key:∀z zV,z+(t*a+bo)=d+1000000000*zV->sv (y.set i z)+t*sv (vs.take (i+1))=sv x+1000000000^(i+1)*zV:=fun z zV h=>by
   rw [aU,dz,tG];exact aoT h aI
  rw [<-nW] at key;by_cases eM:d-dm<0
  ·obtain ⟨q1,q2,q3,q4,q5⟩:=s1 eM;have kk:=key _ _ q5;obtain ⟨dr,ir⟩:∃dr,d-dm=dr:=⟨_,rfl⟩;rw [ir] at eM kk q1 q2
   simp only [go_sem,ya,yj,Ek,H3,show (i:Int)<(n:Int) by omega,ev,wrap64 (n:=t*a) (by omega) (by omega),<-nW,wrap64 (n:=pr) (by omega) (by omega),eU,wrapN (n:=pre.length+i) (by omega),cU 1 0 (show pre.length+i<M by omega),yf,ey,eI _ _ _ (show (1000000000:Int)≠0 by decide),eQ _ _ _ (show (1000000000:Int)≠0 by decide),fg,DA,ir,wrap64 (n:=dr) (by omega) (by omega),wrap64 (n:=dq) (by omega) (by omega),eM,wrap64 (n:=dr+1000000000) (by omega) (by omega),wrap64 (n:=dq+1) (by omega) (by omega),aQ,nM];refine ⟨_,k-1,rfl,by omega,i+1,dq+1,y.set i (dr+1000000000),?_,by omega,by simp [ly],Ro gy ⟨q1,q2⟩,⟨q3,q4⟩,kk⟩;rw [wrap64 (by omega) (by omega)];simp only [go_sem,ya,yc,ax,aE hw.pu,aH _ hw.pu]<;>rfl
  ·obtain ⟨q2,q3,q4,q5⟩:=s2 eM;have kk:=key _ _ q5;obtain ⟨dr,ir⟩:∃dr,d-dm=dr:=⟨_,rfl⟩;rw [ir] at eM kk q2
   simp only [go_sem,ya,yj,Ek,H3,show (i:Int)<(n:Int) by omega,ev,wrap64 (n:=t*a) (by omega) (by omega),<-nW,wrap64 (n:=pr) (by omega) (by omega),eU,wrapN (n:=pre.length+i) (by omega),cU 1 0 (show pre.length+i<M by omega),yf,ey,eI _ _ _ (show (1000000000:Int)≠0 by decide),eQ _ _ _ (show (1000000000:Int)≠0 by decide),fg,DA,ir,wrap64 (n:=dr) (by omega) (by omega),wrap64 (n:=dq) (by omega) (by omega),eM,aQ,nM];refine ⟨_,k-1,rfl,by omega,i+1,dq,y.set i dr,?_,by omega,by simp [ly],Ro gy ⟨by omega,q2⟩,⟨q3,q4⟩,kk⟩;rw [wrap64 (by omega) (by omega)];simp only [go_sem,ya,yc,ax,aE hw.pu,aH _ hw.pu]<;>rfl
 ·right
  have:i=n:=by omega
  subst this;rw [yN (by omega)] at aI;simp only [go_sem,ya,Ek,H3,show ¬(i:Int)<(i:Int) by omega];exact ⟨_,_,rfl,by simp,_,bo,y,rfl,rfl,by simp only [go_sem,ya],by simp only [go_sem,ya],by simp only [go_sem,ya],by simp only [go_sem,ya],by simp only [go_sem,ya],by simp only [go_sem,ya],by simp only [go_sem,ya],by simp only [go_sem,ya],ly,gy,jl,aI⟩
def aoV {b p z v c c' x X Y S:Int} (h2:z+b*c'=x+v+c) (h3:Y+p*c=S+X):(Y+p*(z-x))+p*b*c'=S+(X+p*v):=by grind
def aoW {w:AV} {y0 vs pre post qs:List Int} {f:Int} (hw:a8 w vs) {n M m:Nat} (lv:vs.length=n) (hM:M=pre.length+(n+1)+post.length) (KJ:M<=50000000000) (gv:dg vs) {t top:Int}:
  ∀k s,(∃(i:Nat) (c:Int) (y:List Int),aM [8,9,10,11,12,13,14,19,20] s=⟨[(8,.ay 0 0 1),(9,w),(10,aa n),(11,.ay 1 0 M),(12,.ay 2 0 m),(13,aa pre.length),(14,aa t),(19,aa c),(20,aa i)],H3 qs (pre++y++post) f,3,0⟩/\i+k=n/\y.length=n+1/\dg (y.take n)/\y.getD n 0=top/\(0<=c/\c<=1)/\
    sv y+1000000000^i*c=sv y0+sv (vs.take i))->
   ∃ex s',D P L (.loop [8,9,10,11,12,13,14,19,20] Ij) s=some (ex,s')/\∃tm c y,s'=⟨tm,H3 qs (pre++y++post) f,3,0⟩/\ex= .exit 6/\aj tm 8= .ay 0 0 1/\aj tm 9=w/\aj tm 10=aa n/\aj tm 11= .ay 1 0 M/\aj tm 12= .ay 2 0 m/\aj tm 13=aa pre.length/\aj tm 14=aa t/\aj tm 19=aa c/\y.length=n+1/\dg (y.take n)/\y.getD n 0=top/\(0<=c/\c<=1)/\
    sv y+1000000000^n*c=sv y0+sv vs:=by
 intro dq sq;generalize bf:aM [8,9,10,11,12,13,14,19,20] sq=s0;revert bf s0 sq dq;apply dh;rintro k s ⟨i,c,y,rfl,hk,ly,gy,nN,hc,aI⟩;by_cases hi:i<n
 ·left
  have qC:=hX gv i;have pD:=hX gy i;have e0:(y.take n).getD i 0=y.getD i 0:=by
   simp [xz,hi]
  rw [e0] at pD;have ev:=pZ hw (i:=i) (by omega);have ey:=rm (l:=pre++y++post) (o:=pre.length+i) (by rw [nG];omega);rw [AJ (by omega)] at ey;have dz:=Mq (l:=vs) i;obtain ⟨a,ha⟩:∃a,a=vs.getD i 0:=⟨_,rfl⟩;obtain ⟨d,hd⟩:∃d,d=y.getD i 0:=⟨_,rfl⟩;rw [<-ha] at qC ev dz;rw [<-hd] at pD ey;have eU:(i:Int)+(pre.length:Int)=((pre.length+i:Nat):Int):=by omega
  have aU:=fun z=>EA (l:=y) (i:=i) (x:=z) (by omega)
  rw [<-hd] at aU;have lM:(d+a+c).tmod 1000000000=(d+a+c)%1000000000:=xh (by omega);have hdiv:(d+a+c).tdiv 1000000000=(d+a+c)/1000000000:=xL (by omega);obtain ⟨z,hz⟩:∃z,z=(d+a+c)%1000000000:=⟨_,rfl⟩;obtain ⟨c',jD⟩:∃z,z=(d+a+c)/1000000000:=⟨_,rfl⟩;have UA:z+1000000000*c'=d+a+c:=by omega
  rw [<-hz] at lM;rw [<-jD] at hdiv;have aQ:=fun (hp:Hp) (ct:Nat)=>BO (hp:=hp) (ct:=ct) (id:=1) (v:=z) (ex:=false) (l:=pre++y++post) (o:=pre.length+i) (by rw [nG];omega)
  have nM:=MC (pre:=pre) (x:=y) (post:=post) (i:=i) z (by omega)
  simp only [go_sem,ya,yj,Ij,H3,show (i:Int)<(n:Int) by omega,ev,eU,wrapN (n:=pre.length+i) (by omega),cU 1 0 (show pre.length+i<M by omega),yf,ey,wrap64 (n:=d+a) (by omega) (by omega),wrap64 (n:=d+a+c) (by omega) (by omega),eI _ _ _ (show (1000000000:Int)≠0 by decide),eQ _ _ _ (show (1000000000:Int)≠0 by decide),lM,hdiv,wrap64 (n:=c') (by omega) (by omega),aQ,nM];refine ⟨_,k-1,rfl,by omega,i+1,c',y.set i z,?_,by omega,by simp [ly],?_,by rw [abg (by omega)];exact nN,⟨by omega,by omega⟩,?_⟩
  ·rw [wrap64 (by omega) (by omega)];simp only [go_sem,ya,yc,ax,aE hw.pu,aH _ hw.pu]<;>rfl
  ·rw [yam];exact Ro gy ⟨by omega,by omega⟩
  ·rw [aU,dz,tG];exact aoV UA aI
 ·right
  have:i=n:=by omega
  subst this;rw [yN (show vs.length<=i by omega)] at aI;simp only [go_sem,ya,Ij,H3,show ¬(i:Int)<(i:Int) by omega];exact ⟨_,_,rfl,by simp,_,c,y,rfl,rfl,by simp only [go_sem,ya],by simp only [go_sem,ya],by simp only [go_sem,ya],by simp only [go_sem,ya],by simp only [go_sem,ya],by simp only [go_sem,ya],by simp only [go_sem,ya],by simp only [go_sem,ya],ly,gy,nN,hc,aI⟩
def aoX {A V t:Nat} {y:List Int} {n:Nat} (hV:0<V) (ly:y.length=n+1) (gy:dg (y.take n)) (h:sv y=(A:Int)-t*V) (h1:A/V<=t) (h2:t<=A/V+1):
  (¬y.getD n 0<0->t=A/V/\sv y=((A%V:Nat):Int))/\(y.getD n 0<0->t=A/V+1/\sv y+V=((A%V:Nat):Int)):=by
 have fg:=wb A V;have hm:=xE A hV;have dz:=Mq (l:=y) n;rw [yN (by omega),zh gy] at dz;have Bc:=jN gy;have hp:(0:Int)<1000000000^n:=ycM (by decide);generalize y.getD n 0=top at*
 generalize A/V=Q at*
 have hq:t=Q\/t=Q+1:=by omega
 constructor
 ·intro h0;have h3:0<=(1000000000:Int)^n*top:=tg (uQ hp) (by omega);rcases hq with rfl | rfl
  ·grind
  ·grind
 ·intro h0;have h3:(1000000000:Int)^n*top<=-(1000000000^n):=by
   have:=vY (show top<=-1 by omega) (uQ hp)
   grind
  rcases hq with rfl | rfl
  ·grind
  ·grind
def ZG {y:List Int} {n:Nat} (ly:y.length=n+1) (gy:dg (y.take n)) (h0:0<=sv y) (h1:sv y<1000000000^n):y.getD n 0=0/\dg y/\sv y=dv y:=by
 have dz:=Mq (l:=y) n;rw [yN (by omega),zh gy] at dz;have Bc:=jN gy;rw [yT,xD (by omega)] at Bc;have hp:(0:Int)<1000000000^n:=ycM (by decide);have oN:((1000000000^n:Nat):Int)=(1000000000:Int)^n:=by simp
 have azJ:(dv (y.take n):Int)<1000000000^n:=by omega
 have ht:y.getD n 0=0:=by
  generalize y.getD n 0=top at*
  rcases ud top 0 with h | h | h
  ·have:=vY (show top<=-1 by omega) (uQ hp)
   grind
  ·grind
  ·have:=vY (show 1<=top by omega) (uQ hp)
   grind
 have hg:dg y:=by
  have e:y=y.take n++[0]:=by
   have h1:y=y.take n++y.drop n:=(wa n y).symm;have h2:y.drop n=[0]:=by
    rw [yO (by omega),y5 (by omega)]
    grind
   grind
  rw [e];exact gL.2 ⟨gy,jH.2 ⟨by decide,by decide⟩⟩
 exact ⟨ht,hg,zh hg⟩
end
def aoY {l:List Int} {i:Nat} (h:i<l.length):dv (l.drop i)=(l.getD i 0).toNat+1000000000*dv (l.drop (i+1)):=by
 rw [yO h]
 have:l[i]=l.getD i 0:=by simp_all
 rw [this];rfl
def QO (l:List Int) (i:Nat) (h:i<=l.length):dv l=dv (l.take i)+1000000000^i*dv (l.drop i):=by
 conv=>lhs;rw [<-wa i l]
 rw [lU,yT,xD h]
def aoZ {sx sy sV:Int} {p:Int} {bo t:Int} {yn z:Int} {szy:Int} (h1:sy+t*sV=sx+p*bo) (h2:szy=sy+p*(z-yn)) (h3:z=yn-bo):szy=sx-t*sV:=by grind
section
variable {P:aG} {L:Lib}
def ao0 (qd:Has P L 301 zq) {w:AV} {vs:List Int} {f:Int} (hw:a8 w vs) (gv:dg vs) {n M m:Nat} (lv:vs.length=n) (dn:2<=n) (hnM:n<M) (KJ:M<=20000000000) (hm:m=M-n) (dY:0<vs.getD (n-1) 0) {U0:Nat}:
  ∀k st,(∃(j:Nat) (us qs:List Int),aM [8,9,10,11,12,13] st=⟨[(8,.ay 0 0 1),(9,w),(10,aa n),(11,.ay 1 0 M),(12,.ay 2 0 m),(13,aa ((j:Int)-1))],H3 qs us f,3,0⟩/\j=k/\j<=m/\us.length=M/\qs.length=m/\dg us/\dg qs/\(∀i,i<j->qs.getD i 0=0)/\
    dv us+dv qs*dv vs=U0/\dv (us.drop j)<dv vs)->
   ∃ex st',D P L (.loop [8,9,10,11,12,13] Ik) st=some (ex,st')/\∃tm us qs,st'=⟨tm,H3 qs us f,3,0⟩/\ex= .exit 2/\aj tm 8= .ay 0 0 1/\aj tm 10=aa n/\aj tm 11= .ay 1 0 M/\aj tm 12= .ay 2 0 m/\us.length=M/\qs.length=m/\dg us/\dg qs/\
    dv us+dv qs*dv vs=U0/\dv us<dv vs:=by
 intro dq sq;generalize bf:aM [8,9,10,11,12,13] sq=s0;revert bf s0 sq dq;apply dh;rintro k st ⟨j,us,qs,rfl,rfl,hj,lu,lq,gu,gq,hz,aI,nN⟩
 cases j with
 | zero=>
  right
  simp only [go_sem,ya,Ik,H3,show ¬(0:Int)<=((0:Nat):Int)-1 by omega];exact ⟨_,_,rfl,by simp,_,us,qs,rfl,rfl,by simp only [go_sem,ya],by simp only [go_sem,ya],by simp only [go_sem,ya],by simp only [go_sem,ya],lu,lq,gu,gq,aI,by simpa using nN⟩
 | succ j=>
  left
  obtain ⟨pre,eU⟩:∃p,p=us.take j:=⟨_,rfl⟩;obtain ⟨x,hx⟩:∃p,p=(us.drop j).take (n+1):=⟨_,rfl⟩;obtain ⟨post,gi⟩:∃p,p=us.drop (j+(n+1)):=⟨_,rfl⟩;have lp:pre.length=j:=by rw [eU,yT];omega
  have lx:x.length=n+1:=by rw [hx,yT,xN];omega
  have lpo:M=pre.length+(n+1)+post.length:=by rw [lp,gi,xN];omega
  have j9:us=pre++x++post:=by
   rw [eU,hx,gi,<-vN,xr,wa,wa]
  have gpo:dg post:=by
   have:=gu;rw [j9] at this;exact (gL.1 this).2
  have gpx:=by have:=gu;rw [j9] at this;exact (gL.1 this).1
  have gx:dg x:=(gL.1 gpx).2;have TB:dg pre:=(gL.1 gpx).1;have hA:=aoY (l:=us) (i:=j) (by omega);have hgj:=hX gu j;have VD:us.drop j=x++post:=by rw [gi,hx,<-vN,wa]
  have zW:dv (us.drop j)=dv x+1000000000^(n+1)*dv post:=by rw [VD,lU,lx]
  have Kv:=jN gv;rw [lv] at Kv;have aP:dv (us.drop j)<1000000000*dv vs:=by omega
  have hp0:dv post=0:=by
   rcases xn (dv post) with e | e
   ·exact e
   ·have h1:=yU (1000000000^(n+1)) e;rw [yj,y9] at h1;rw [y9] at zW;omega
  rw [hp0,xx,yW] at zW;have KL:=fun (l:List Int) (hl:dg l) (i:Nat)=>hX hl i
  obtain ⟨v1,eP⟩:∃v:Nat,vs.getD (n-1) 0=v:=⟨(vs.getD (n-1) 0).toNat,by have:=KL vs gv (n-1);omega⟩;obtain ⟨v2,py⟩:∃v:Nat,vs.getD (n-2) 0=v:=⟨(vs.getD (n-2) 0).toNat,by have:=KL vs gv (n-2);omega⟩;obtain ⟨u0,BF⟩:∃v:Nat,x.getD n 0=v:=⟨(x.getD n 0).toNat,by have:=KL x gx n;omega⟩;obtain ⟨u1,BG⟩:∃v:Nat,x.getD (n-1) 0=v:=⟨(x.getD (n-1) 0).toNat,by have:=KL x gx (n-1);omega⟩;obtain ⟨u2,ss⟩:∃v:Nat,x.getD (n-2) 0=v:=⟨(x.getD (n-2) 0).toNat,by have:=KL x gx (n-2);omega⟩;have hl:fZ x vs n v1 v2 u0 u1 u2:=⟨dn,by omega,lx,lv,gx,gv,eP,py,BF,BG,ss,by omega,by rw [<-zW];exact aP⟩
  have N7:=hl.digit;have qw:0<dv vs:=by omega
  have lM:=xE (dv x) qw;obtain ⟨t,e1,ht1,UT,ht3⟩:=atH (P:=P) (L:=L) qd hw hl (pre:=pre) (post:=post) (qs:=qs) (f:=f) (M:=M) (by omega) (by omega);rw [<-j9,lp] at e1;have VG:dv us=dv pre+1000000000^j*dv x:=by
   have:=QO us j (by omega)
   rw [zW,<-eU] at this;exact this
  have TC:∀y,dv (pre++y++post)=dv pre+1000000000^j*dv y:=fun y=>by
   rw [xr,lU,lU,hp0,xx,yW,lp]
  have jc:=Yu (b:=0) VG aI;have su:below 3 w:=pL hw.pu;have aU:=EA (l:=qs) (i:=j) (x:=((dv x/dv vs:Nat):Int)) (by omega);have gq':dg (qs.set j ((dv x/dv vs:Nat):Int)):=Mv gq ⟨tY _,uP.2 N7⟩;rw [hz j (by omega),Int.sub_zero,zh gq,zh gq'] at aU;have aU:dv (qs.set j ((dv x/dv vs:Nat):Int))=dv qs+1000000000^j*(dv x/dv vs):=by
   have oN:((1000000000^j*(dv x/dv vs):Nat):Int)=(1000000000:Int)^j*((dv x/dv vs:Nat):Int):=by rw [wY];simp
   rw [<-oN] at aU;exact tQ (by rw [yaQ,yaQ,aU,ybH])
  have fin:∀(s':St) (x':List Int),aM [8,9,10,11,12,13] s'=⟨[(8,.ay 0 0 1),(9,w),(10,aa n),(11,.ay 1 0 M),(12,.ay 2 0 m),(13,aa ((j:Int)-1))],H3 (qs.set j ((dv x/dv vs:Nat):Int)) (pre++x'++post) f,3,0⟩->x'.length=n+1->dg x'->sv x'=((dv x%dv vs:Nat):Int)->
    ∃(j':Nat) (us qs:List Int),aM [8,9,10,11,12,13] s'=⟨[(8,.ay 0 0 1),(9,w),(10,aa n),(11,.ay 1 0 M),(12,.ay 2 0 m),(13,aa ((j':Int)-1))],H3 qs us f,3,0⟩/\j'=j/\j'<=m/\us.length=M/\qs.length=m/\dg us/\dg qs/\(∀i,i<j'->qs.getD i 0=0)/\dv us+dv qs*dv vs=U0/\dv (us.drop j')<dv vs:=fun s' x' hc VF Pc Ky=>by
   have ad0:dv x'=dv x%dv vs:=by rw [zh Pc] at Ky;exact tQ Ky
   refine ⟨j,_,_,hc,rfl,by omega,by rw [nG,VF];omega,by simp [lq],gL.2 ⟨gL.2 ⟨TB,Pc⟩,gpo⟩,gq',fun i hi=>by rw [abg (by omega)];exact hz i (by omega),?_,?_⟩
   ·rw [TC,ad0,aU];exact jc
   ·rw [xr,tr lp,lU,hp0,xx,yW,ad0];exact lM
  have ad1:=fun (z:Int) (hp:Hp) (ct:Nat)=>BO (hp:=hp) (ct:=ct) (id:=2) (v:=z) (ex:=true) (l:=qs) (o:=j) (by omega)
  have svx:=zh gx;have svv:=zh gv;simp only [H3] at e1;simp only [go_sem,ya,Ik,H3,show ((j+1:Nat):Int)-1=(j:Int) by omega,show (0:Int)<=(j:Int) by omega,acr,e1];generalize kI:D P L (.loop [8,9,10,11,12,13,14,15,16] Ek) _=qq;obtain ⟨ex,s,rfl,tm,bo,y,rfl,rfl,t8,t9,t10,t11,t12,t13,t14,t15,ly,gy,jl,hv⟩:=bI kI (aoU (P:=P) (L:=L) (x:=x) (pre:=pre) (post:=post) (qs:=qs) (f:=f) (m:=m) (M:=M) hw lv lpo (by omega) gv (t:=t) (by omega) n) ⟨0,0,x,by
   rw [j9,lp]
   simp only [go_sem,ya,yc,ax,aE hw.pu,aH _ hw.pu]<;>rfl,by omega,lx,gx,by omega,by simp [sv]⟩
  rw [lp] at t13;have hyn:=hX gy n;have V6:=rm (l:=pre++y++post) (o:=pre.length+n) (by rw [nG];omega);rw [AJ (by omega),lp] at V6;obtain ⟨z,V7⟩:∃z,z=y.getD n 0-bo:=⟨_,rfl⟩;have EN:=fun (hp:Hp) (ct:Nat)=>BO (hp:=hp) (ct:=ct) (id:=1) (v:=z) (ex:=false) (l:=pre++y++post) (o:=j+n) (by rw [nG];omega)
  have nM:=MC (pre:=pre) (x:=y) (post:=post) (i:=n) z (by omega);rw [lp] at nM;rw [nM] at EN;have mZ:=EA (l:=y) (i:=n) (x:=z) (by omega);have Nj:=aoZ hv mZ V7;have BE:(y.set n z).length=n+1:=by simp [ly]
  have Dy:dg ((y.set n z).take n):=by
   have:(y.set n z).take n=y.take n:=by rw [yam,yak (by simp;omega)]
   rw [this];exact B8 gy n
  rw [svx,svv] at Nj;obtain ⟨s0,s1⟩:=aoX qw BE Dy Nj UT ht3;have eg:(y.set n z).getD n 0=z:=akg (by omega);rw [eg] at s0 s1;have V8:=rm (l:=pre++y.set n z++post) (o:=pre.length+n) (by rw [nG];omega);rw [AJ (by omega),lp,eg] at V8;generalize y.set n z=y1 at*
  have hpn:((10^9:Int))=1000000000:=by decide
  by_cases eM:z<0
  ·obtain ⟨f1,f2⟩:=s1 eM
   simp only [go_sem,ya,yc,yj,ax,aE hw.pu,aH _ hw.pu,t8,t9,t10,t11,t12,t13,t14,t15,show (j:Int)+(n:Int)=((j+n:Nat):Int) from rfl,wrapN (n:=j+n) (by omega),cU 1 0 (show j+n<M by omega),yf,V6,<-V7,wrap64 (n:=z) (by omega) (by omega),EN,V8,eM];generalize C4:D P L (.loop [8,9,10,11,12,13,14,19,20] Ij) _=Vx;obtain ⟨ex,s,rfl,nV,c,y2,rfl,rfl,t8,t9,t10,t11,t12,t13,t14,t19,Vz,Pa,acB,hc,cA⟩:=bI C4 (aoW (P:=P) (L:=L) (y0:=y1) (pre:=pre) (post:=post) (qs:=qs) (f:=f) (m:=m) (M:=M) (t:=(t:Int)-1) (top:=z) hw lv lpo (by omega) gv n) ⟨0,0,y1,by
    rw [lp,wrap64 (n:=(t:Int)-1) (by omega) (by omega)]
    simp only [go_sem,ya,yc,ax,aE hw.pu,aH _ hw.pu]<;>rfl,by omega,BE,Dy,eg,by omega,by simp [sv]⟩
   rw [lp] at t13;have ad2:=rm (l:=pre++y2++post) (o:=pre.length+n) (by rw [nG];omega);rw [AJ (by omega),lp,acB] at ad2;have N5:=fun (hp:Hp) (ct:Nat)=>BO (hp:=hp) (ct:=ct) (id:=1) (v:=z+c) (ex:=false) (l:=pre++y2++post) (o:=j+n) (by rw [nG];omega)
   have M1:=MC (pre:=pre) (x:=y2) (post:=post) (i:=n) (z+c) (by omega);rw [lp] at M1;rw [M1] at N5;have zL:=EA (l:=y2) (i:=n) (x:=z+c) (by omega);rw [acB,show z+c-z=c by omega,cA,svv,f2] at zL;have Kw:(y2.set n (z+c)).length=n+1:=by simp [Vz]
   have Pb:dg ((y2.set n (z+c)).take n):=by
    have:(y2.set n (z+c)).take n=y2.take n:=by rw [yam,yak (by simp;omega)]
    rw [this];exact Pa
   have V9:((dv x%dv vs:Nat):Int)<1000000000^n:=by
    have oN:((1000000000^n:Nat):Int)=(1000000000:Int)^n:=by simp
    rw [<-oN];omega
   obtain ⟨g1,g2,g3⟩:=ZG Kw Pb (by rw [zL];omega) (by rw [zL];exact V9)
   generalize y2.set n (z+c)=y3 at*
   have ft:(t:Int)-1=((dv x/dv vs:Nat):Int):=by rw [f1];omega
   simp only [go_sem,ya,yc,yj,ax,aE hw.pu,aH _ hw.pu,t8,t9,t10,t11,t12,t13,t14,t19,show (j:Int)+(n:Int)=((j+n:Nat):Int) from rfl,wrapN (n:=j+n) (by omega),cU 1 0 (show j+n<M by omega),yf,ad2,wrap64 (n:=z+c) (by omega) (by omega),N5,cU 2 0 (show j<m by omega),ad1];rw [ft];refine ⟨_,j,rfl,by omega,fin _ y3 ?_ Kw g2 zL⟩;rw [wrap64 (by omega) (by omega)];simp only [go_sem,ya,yc,ax,aE hw.pu,aH _ hw.pu]<;>rfl
  ·obtain ⟨f1,f2⟩:=s0 eM;have V9:((dv x%dv vs:Nat):Int)<1000000000^n:=by
    have oN:((1000000000^n:Nat):Int)=(1000000000:Int)^n:=by simp
    rw [<-oN];omega
   obtain ⟨g1,g2,g3⟩:=ZG BE Dy (by rw [f2];omega) (by rw [f2];exact V9)
   simp only [go_sem,ya,yc,yj,ax,aE hw.pu,aH _ hw.pu,t8,t9,t10,t11,t12,t13,t14,t15,show (j:Int)+(n:Int)=((j+n:Nat):Int) from rfl,wrapN (n:=j+n) (by omega),cU 1 0 (show j+n<M by omega),yf,V6,<-V7,wrap64 (n:=z) (by omega) (by omega),EN,V8,eM,cU 2 0 (show j<m by omega),ad1];rw [f1];refine ⟨_,j,rfl,by omega,fin _ y1 ?_ BE g2 f2⟩;rw [wrap64 (by omega) (by omega)];simp only [go_sem,ya,yc,ax,aE hw.pu,aH _ hw.pu]<;>rfl
def arG (h:Has P L 292 zp) {n:Nat} (hn:n<1000000000):ab P L 292 [aa n,aa 9] (.str (iI 9 n)):=by
 have key:=iU (P:=P) (L:=L) (live:=[0,1,5]) (a:=nD)
  (I:=fun k st=>∃(m:Nat) (s:List Nat),st=⟨[(0,aa m),(1,aa 9),(5,.str s)],[],0,0⟩/\s.length+k=9/\m<10^k/\iI 9 n=iI k m++s)
  (Q:=fun ex st=>∃tm ct,st=⟨tm,[],ct,0⟩/\ex= .exit 0/\aj tm 5= .str (iI 9 n)) ?_
 ·unfold ab;rw [aA h];simp only [go_sem,zp];generalize hq:D P L (.loop [0,1,5] nD) _=q;obtain ⟨ex,st,rfl,tm,ct,rfl,rfl,h2⟩:=bI hq (key 9) ⟨n,[],by simp only [go_sem,ya,ax]<;>rfl,rfl,by omega,by simp⟩
  simp only [go_sem,ax,h2]
 ·rintro k st ⟨m,s,rfl,hk,hm,hs⟩
  cases k with
  | zero=>
   right
   have qF:m=0:=by simpa using hm
   subst qF;simp only [go_sem,ya,nD,show ¬(0:Int)<((0:Nat):Int) by omega,show ¬((s.length:Nat):Int)<9 by omega];refine ⟨_,_,rfl,by simp,_,_,rfl,rfl,?_⟩;rw [hs];rfl
  | succ k=>
   left
   have hr:((m:Int)).tmod 10=((m%10:Nat):Int):=by rw [xh (by omega)];rfl
   have hq:((m:Int)).tdiv 10=((m/10:Nat):Int):=by rw [xL (by omega)];rfl
   have hd:=XD (r:=m%10) (by omega);have J5:m<10000000000:=yA hm (by simpa using yV (show 0<10 by decide) (show k+1<=10 by omega));have fin:∃s',D P L nD ⟨[(0,aa m),(1,aa 9),(5,.str s)],[],0,0⟩=some (.normal,s')/\aM [0,1,5] s'=⟨[(0,aa (m/10:Nat)),(1,aa 9),(5,.str ([48+m%10]++s))],[],0,0⟩:=by
    by_cases hc:(0:Int)<m
    ·simp only [go_sem,ya,yc,nD,hc,eI _ _ _ (show (10:Int)≠0 by decide),eQ _ _ _ (show (10:Int)≠0 by decide),hr,hq,wrapN (n:=m%10+1) (by omega),wrap64 (n:=((m/10:Nat):Int)) (by omega) (by omega),eF,dH,show ((m%10:Nat):Int)+1=((m%10+1:Nat):Int) from rfl,hd,gB (a:=[48+m%10]) (b:=s) (by simp;omega)];exact ⟨_,rfl,by simp only [go_sem,ya,ax]⟩
    ·simp only [go_sem,ya,yc,nD,hc,show ((s.length:Nat):Int)<9 by omega,eI _ _ _ (show (10:Int)≠0 by decide),eQ _ _ _ (show (10:Int)≠0 by decide),hr,hq,wrapN (n:=m%10+1) (by omega),wrap64 (n:=((m/10:Nat):Int)) (by omega) (by omega),eF,dH,show ((m%10:Nat):Int)+1=((m%10+1:Nat):Int) from rfl,hd,gB (a:=[48+m%10]) (b:=s) (by simp;omega)];exact ⟨_,rfl,by simp only [go_sem,ya,ax]⟩
   obtain ⟨s',f1,f2⟩:=fin;exact ⟨s',k,f1,by omega,m/10,_,f2,by simp;omega,by rw [y9] at hm;omega,by rw [hs];simp [iI]⟩
end
def last_pos {l:List Int} (hd:dg l) (hn:nz l) (h:0<l.length):0<l.getD (l.length-1) 0:=by
 rcases snoc l with rfl | ⟨m,a,rfl⟩
 ·grind
 ·have e:(m++[a]).getD ((m++[a]).length-1) 0=a:=by simp_all
  have ha:=jH.1 (gL.1 hd).2;by_cases h0:a=0
  ·subst h0
   have:=Lz m
   have e:=congrArg List.length hn;rw [He] at e
   grind
  ·omega
section
variable {P:aG} {L:Lib}
def arH (nL:Has P L 292 zp) {neg:Bool} {w:AV} {l:List Int} (hw:a8 w l) (hd:dg l) (hn:nz l) (hl:l.length<=20000000000):
  ∀k s,(∃(j:Nat) (t:List Nat),aM [1,3,4] s=⟨[(1,.ptr 0 0),(3,.str t),(4,aa ((j:Int)-1))],[(0,.cells true true true 2 [.bool neg,w])],1,0⟩/\j=k/\j<l.length/\0<dv (l.drop j)/\t=aq (dv (l.drop j))/\t.length<=9*(l.length-j))->
   ∃ex s',D P L (.loop [1,3,4] Ih) s=some (ex,s')/\∃tm,s'=⟨tm,[(0,.cells true true true 2 [.bool neg,w])],1,0⟩/\ex= .exit 0/\aj tm 1= .ptr 0 0/\aj tm 3= .str (aq (dv l))/\(aq (dv l)).length<=180000000000:=by
 intro dq sq;generalize bf:aM [1,3,4] sq=s0;revert bf s0 sq dq;apply dh;rintro k s ⟨j,t,rfl,rfl,hj,Be,ht,VZ⟩
 cases j with
 | zero=>
  right
  rw [yp] at ht;simp only [go_sem,ya,Ih,show ¬(0:Int)<=((0:Nat):Int)-1 by omega];exact ⟨_,_,rfl,by simp,_,rfl,rfl,by simp only [go_sem,ya],by rw [<-ht];simp only [go_sem,ya],by rw [<-ht];omega⟩
 | succ i=>
  left
  have hi:i<l.length:=by omega
  obtain ⟨x,hx⟩:∃x,x=l.getD i 0:=⟨_,rfl⟩;have e1:=pZ hw hi;have gx:=hX hd i;rw [<-hx] at e1 gx;obtain ⟨m,rfl⟩:∃m:Nat,x=m:=⟨x.toNat,by omega⟩;have e2:=arG nL (n:=m) (by omega);unfold ab at e2;have hlp:=QI 9 m;have ir:dv (l.drop i)=dv (l.drop (i+1))*10^9+m:=by
   have:l.drop i=(m:Int)::l.drop (i+1):=by
    rw [yO hi,hx];simp [xz,xV hi]
   rw [this];simp only [dv,wh];omega
  have avG:aq (dv (l.drop i))=t++iI 9 m:=by
   rw [ir,LV 9 _ m Be (by omega),ht]
  simp only [go_sem,ya,Ih,show ((i+1:Nat):Int)-1=(i:Int) by omega,show (0:Int)<=(i:Int) by omega,bq,yf,cm,e1,e2,gB (a:=t) (b:=iI 9 m) (by omega)];refine ⟨_,i,rfl,by omega,i,t++iI 9 m,?_,rfl,by omega,by omega,avG.symm,by simp;omega⟩;rw [wrap64 (by omega) (by omega)];simp only [go_sem,ya,yc,ax]<;>rfl
def Oj (h:Has P L 282 Jp) (nL:Has P L 292 zp) {v:AV} {n:Int} {K:Nat} (hK:K<=18000000000) (hv:iT v n) (hn:n.natAbs<1000000000^K):ab P L 282 [v] (.str (aT n))/\(aT n).length<=180000000001:=by
 obtain ⟨w,l,rfl,hw,hd,hz,pE⟩:=hv;have hl:=xg (hZ hd hz (by rw [pE];exact hn)) hK
 by_cases h0:l=[]
 ·subst h0;have lQ:n=0:=by simp [dv] at pE;omega
  subst lQ;refine ⟨?_,by decide⟩;unfold ab;rw [aA h];simp only [go_sem,ya,yc,Jp,aO,hw.len,hw.pu,hw.one,bq,yf,cm,yI,show ((0:Nat):Int)=(0:Int) from rfl,yq];rfl
 ·have Be:0<l.length:=vL.2 h0;obtain ⟨x,hx⟩:∃x,x=l.getD (l.length-1) 0:=⟨_,rfl⟩;have e1:=pZ hw (show l.length-1<l.length by omega);have gx:=hX hd (l.length-1);have gp:=last_pos hd hz Be;rw [<-hx] at e1 gx gp;obtain ⟨m,rfl⟩:∃m:Nat,x=m:=⟨x.toNat,by omega⟩;have e2:=Tt nL (n:=m) (by omega);have ir:dv (l.drop (l.length-1))=m:=by
   rw [yO (show l.length-1<l.length by omega),y5 (by omega)]
   have:l[l.length-1]=(m:Int):=by rw [hx];simp [xz,xV (show l.length-1<l.length by omega)]
   simp [dv,this]
  have h9:(aq m).length<=9:=pP (k:=8) (by omega);have fin:∀neg:Bool,bF P L (D P L) 282 [.agg [.bool neg,w]]=some (.str ((if neg=true then [45] else [])++aq (dv l)))/\(aq (dv l)).length<=180000000000:=fun neg=>by
   rw [aA h]
   simp only [go_sem,ya,yc,Jp,aO,hw.len,hw.pu,hw.one,bq,yf,cm,show ¬(l.length:Int)=0 by omega,show (l.length:Int)-1=((l.length-1:Nat):Int) by omega,wrapN (n:=l.length-1) (by omega),e1,e2];generalize hq:D P L (.loop [1,3,4] Ih) _=q;obtain ⟨ex,s,rfl,tm,rfl,rfl,t1,t3,hlen⟩:=bI hq (arH (P:=P) (L:=L) nL (neg:=neg) hw hd hz (by omega) (l.length-1)) ⟨l.length-1,aq m,by
    rw [show (l.length:Int)-2=((l.length-1:Nat):Int)-1 by omega,wrap64 (by omega) (by omega)]
    simp only [go_sem,ya,yc,ax]<;>rfl,rfl,by omega,by rw [ir];omega,by rw [ir],by omega⟩
   refine ⟨?_,hlen⟩
   cases neg with
   | true=>
    simp only [go_sem,ya,ax,t1,t3,bq,yf,gB (a:=[45]) (b:=aq (dv l)) (by simp;omega),xB]
   | false=>
    simp only [go_sem,ya,ax,t1,t3,bq,yf];rfl
  obtain ⟨f1,f2⟩:=fin (decide (n<0));rw [pE] at f1 f2;simp only [uV] at f1;rw [ns] at f1;refine ⟨f1,?_⟩;rw [<-ns]
  split<;>simp<;>omega
structure Rb (P:aG) (L:Lib):Prop where
 avH:Has P L 262 Jj
 zy:Has P L 272 Jo
 ad3:Has P L 274 NH
 ad4:Has P L 275 NI
 avI:Has P L 277 CU
 avJ:Has P L 280 nJ
 ad5:Has P L 281 NK
 Ok:Has P L 282 Jp
 ad6:Has P L 288 NN
 JP:Has P L 289 rA
 zA:Has P L 290 E0
 Tu:Has P L 291 Jr
 nL:Has P L 292 zp
 kU:Has P L 293 A1
 gR:Has P L 294 A2
 Oh:Has P L 295 Js
 nQ:Has P L 296 rB
 ad7:Has P L 298 NO
 oW:Has P L 299 A3
 cG:Has P L 300 lJ
 mA:Has P L 302 rC
structure Ras (P:aG) (L:Lib):Prop extends Rb P L where
 ad8:Has P L 264 Jk
 avK:Has P L 268 Jm
 avL:Has P L 271 Td
 avM:Has P L 276 oR
 JQ:Has P L 278 NJ
 avN:Has P L 279 EZ
 Oi:Has P L 297 Jt
structure Ra (P:aG) (L:Lib):Prop extends Ras P L where
 ad9:Has P L 267 Jl
def ao1 {v w:AV} {a vs:List Int} {f:Int} (hv:a8 v a) (hw:a8 w vs) {n:Nat} (la:a.length<=9000000000) {A:Nat}:
  ∀k st,(∃us:List Int,aM [0,8,9,10,11] st=⟨[(0,v),(8,.ay 0 0 1),(9,w),(10,aa n),(11,.ay 1 0 us.length)],[(1,.cells true true false 1 (us.map aa)),(0,.cells false true true 1 [aa f])],2,0⟩/\us.length+k=a.length+1/\dg us/\dv us=A)->
   ∃ex st',D P L (.loop [0,8,9,10,11] Ii) st=some (ex,st')/\∃tm us,st'=⟨tm,[(1,.cells true true false 1 (us.map aa)),(0,.cells false true true 1 [aa f])],2,0⟩/\ex= .exit 0/\aj tm 8= .ay 0 0 1/\aj tm 9=w/\aj tm 10=aa n/\aj tm 11= .ay 1 0 (a.length+1)/\us.length=a.length+1/\dg us/\dv us=A:=by
 intro dq sq;generalize bf:aM [0,8,9,10,11] sq=s0;revert bf s0 sq dq;apply dh;rintro k st ⟨us,rfl,hk,gu,aI⟩;have ea:((a.length:Nat):Int)+1=((a.length+1:Nat):Int):=rfl;by_cases hi:us.length<a.length+1
 ·left
  simp only [go_sem,ya,yc,ym,yj,Ii,hv.len,ea,wrapN (n:=a.length+1) (by omega),show ((us.length:Nat):Int)<((a.length+1:Nat):Int) by omega]
  rw [jG (ex:=false) (pu:=true) (cs:=us.map aa) (by simp only [go_sem,ya]) (by simp) (by omega) (by omega) (by decide) (by simp only [go_sem])];refine ⟨_,k-1,rfl,by omega,us++[0],?_,by simp;omega,gL.2 ⟨gu,jH.2 (by decide)⟩,by rw [lU];simp [dv,aI]⟩;rw [xu,yR];simp only [go_sem,ya,yc,ax,aE hv.pu,aH _ hv.pu,aE hw.pu,aH _ hw.pu]<;>rfl
 ·right
  have hl:us.length=a.length+1:=by omega
  rw [hl]
  simp only [go_sem,ya,Ii,hv.len,ea,wrapN (n:=a.length+1) (by omega),show ¬((a.length+1:Nat):Int)<((a.length+1:Nat):Int) by omega];exact ⟨_,_,rfl,by simp,_,us,rfl,rfl,by simp only [go_sem,ya],by simp only [go_sem,ya],by simp only [go_sem,ya],by simp only [go_sem,ya],hl,gu,aI⟩
end
def abh:∀l:List Int,bK (l.map aa)=true
 | []=>rfl
 | a::r=>by rw [xj,Yq,abh r];rfl
def abi:∀l:List Int,aF (l.map aa)=true
 | []=>rfl
 | a::r=>by rw [xj,aF,abi r];rfl
def ao2 {hp:Hp} {ct:Nat} {e:Bool} {us:List Int} {o:Obj} (h:us.length<=100000000000):
  CZ ((1,.cells true true true 1 [])::(0,o)::hp) ct 1 8 (.ay 1 0 0) (lY ((1,.cells true true true 1 [])::(0,o)::hp) 1 (.aC e us.length (us.map aa)))=some (.ay ct 0 us.length,(ct,.cells true true false 1 (us.map aa))::da ((1,.cells true true true 1 [])::(0,o)::hp) 1,ct+1):=by
 have h1:lY ((1,.cells true true true 1 [])::(0,o)::hp) 1 (.aC e us.length (us.map aa))=some (us.length,us.map aa):=by
  simp [lY]
 rw [h1,jG (cs:=[]) (pu:=true) (ex:=true) rfl (by simp) (by omega) (by omega) (by decide) (abh us),abi,yf];rfl
def arI {l:List Int} (hd:dg l) (hn:nz l) (h:0<l.length):1000000000^(l.length-1)<=dv l:=MV hn hd (fun e=>by subst e;simp at h)
def amC {n top f V:Nat} (hf:f=1000000000/(top+1)) (ht0:0<top) (ht:top<1000000000) (h1:V<1000000000^(n-1)*(top+1)) (hn:0<n):0<f/\f<1000000000/\V*f<1000000000^n:=by
 have h2:f*(top+1)<=1000000000:=by rw [hf];exact Nat.div_mul_le_self _ _
 have h3:0<f:=by rw [hf];exact Nat.div_pos (by omega) (by omega)
 refine ⟨h3,?_,?_⟩
 ·have:=yU f (show 2<=top+1 by omega)
  omega
 ·have e1:=xZ h1 h3;have e2:=yU (1000000000^(n-1)) h2;rw [<-y9,show (n-1).succ=n by omega] at e2
  grind
section
variable {P:aG} {L:Lib}
def arJ (h:Has P L 289 rA) (kU:Has P L 293 A1) (oW:Has P L 299 A3) (cG:Has P L 300 lJ) (qd:Has P L 301 zq) {v w:AV} {a b:List Int} (hv:a8 v a) (hw:a8 w b) (ha:dg a) (hb:dg b) (na:nz a) (nb:nz b) (la:a.length<=8000000000) (lb:2<=b.length) (ec:ab P L 296 [v,w] (aa (dP (dv a) (dv b)))) (hc:dv b<=dv a):
  ∃q r lq lr,ab P L 289 [v,w] (.ap [q,r])/\a8 q lq/\a8 r lr/\dg lq/\nz lq/\dg lr/\nz lr/\dv lq=dv a/dv b/\dv lr=dv a%dv b:=by
 have ef:¬dP (dv a) (dv b)<0:=by unfold dP;rw [yB (by omega)];split<;>decide
 have atI:=arI hb nb (by omega);have hba:b.length<=a.length:=by
  have:=jN ha
  have h1:1000000000^(b.length-1)<1000000000^a.length:=by omega
  have:=(yao (show 1<1000000000 by decide)).1 h1
  omega
 obtain ⟨n,hn⟩:∃n,n=b.length:=⟨_,rfl⟩;have avO:=hX hb (n-1);have kP:=last_pos hb nb (by omega);rw [<-hn] at kP;obtain ⟨top,nN⟩:∃v:Nat,b.getD (n-1) 0=v:=⟨(b.getD (n-1) 0).toNat,by omega⟩;have aea:=pZ hw (i:=n-1) (by omega);rw [nN] at avO kP aea;have hbt:=oC (l:=b) (n-1);rw [show n-1+1=n by omega,yN (by omega),nN,wh] at hbt;have atJ:=jN (B8 hb (n-1));rw [yT,xD (by omega)] at atJ;obtain ⟨f,hf⟩:∃f,f=1000000000/(top+1):=⟨_,rfl⟩;obtain ⟨DG,hfB,hfV⟩:=amC (n:=n) (V:=dv b) hf (by omega) (by omega) (by rw [xC,yj];omega) (by omega);have hIf:a8 (.aC true 1 [aa f]) [(f:Int)]:=gZ true [(f:Int)];have gf:dg [(f:Int)]:=jH.2 (by omega);have vf:dv [(f:Int)]=f:=by simp [dv]
 obtain ⟨v',vs,e1,ew,hsv,Dz,Kz,sA⟩:=Ue kU cG hw hIf hb gf (by omega) (by simp);obtain ⟨u',BP,e2,jn,Dw,FT,nus,KM⟩:=Ue kU cG hv hIf ha gf (by omega) (by simp);rw [vf] at sA KM;have qw:0<dv b:=by have:=yax (n:=b.length-1) (show 0<1000000000 by decide);omega
 have zX:vs.length=n:=by
  have h1:vs.length<=n:=hZ Dz Kz (by rw [sA];exact hfV)
  have h2:dv b<=dv vs:=by rw [sA];exact yau _ DG
  have h3:=jN Dz;have h4:1000000000^(n-1)<1000000000^vs.length:=by rw [hn];omega
  have:=(yao (show 1<1000000000 by decide)).1 h4
  omega
 have Pd:BP.length<=a.length+1:=by
  refine hZ FT nus ?_;rw [KM,y9];exact tp (jN ha) hfB
 have aeb:0<BP.length:=by
  rcases xn BP.length with e | e
  ·have h1:0<dv a*f:=vS (by omega) DG;rw [yJ e] at KM;simp only [dv] at KM;omega
  ·exact e
 have dY:0<vs.getD (n-1) 0:=by
  have:=last_pos Dz Kz (by omega)
  rwa [zX] at this
 obtain ⟨m,hm⟩:∃m,m=a.length+1-n:=⟨_,rfl⟩;have cI:∀ct:Nat,zx ct 1 8 [.int .i64 0] (some m) (some m)=some (.ay ct 0 m,.cells true true true 1 ((yC m (0:Int)).map aa)):=fun ct=>by
  rw [Ew (sz:=1) (by omega) (by omega) (by rfl) (by rfl),P2];rfl
 obtain ⟨e,rfl⟩:∃e,u'= .aC e BP.length (BP.map aa):=by
  rcases jn with ⟨rfl,h0⟩ | ⟨e,rfl⟩
  ·rw [List.map_eq_nil_iff] at h0;rw [h0] at aeb;simp at aeb
  ·exact ⟨e,by rw [xo]⟩
 have Sz:∀us:List Int,us.length=a.length+1->dv us=dv a*f->dv (us.drop m)<dv vs:=fun us hl hd=>by
  have e1:=QO us m (by omega);have e2:=jN ha;have e3:=xZ e2 DG;have e4:1000000000^a.length=1000000000^m*1000000000^(n-1):=by rw [<-xP];congr 1;omega
  rw [<-hd,e4,xm] at e3;have e5:1000000000^m*dv (us.drop m)<1000000000^m*(1000000000^(n-1)*f):=by omega
  refine yA (Nat.lt_of_mul_lt_mul_left e5) ?_;rw [sA,hn];exact yS _ atI
 have jd:∃us qs,(us.length=a.length+1/\qs.length=m/\dg us/\dg qs/\dv us+dv qs*dv vs=dv a*f/\dv us<dv vs)/\
   ∃q1 r1 lr,a8 q1 (dS qs)/\a8 r1 lr/\dg lr/\nz lr/\dv lr=dv (us.take n)/f/\ab P L 289 [v,w] (.ap [q1,r1]):=by
  unfold ab at ec e1 e2;unfold ab;rw [aA h];have JI:IntKind.wrap .i64 ((1000000000:Int).tdiv ((top+1:Nat):Int))=(f:Int):=by
   rw [xL (by decide),show (1000000000:Int)/((top+1:Nat):Int)=((1000000000/(top+1):Nat):Int) from rfl,<-hf,wrap64 (by omega) (by omega)]
  simp only [go_sem,ya,yc,yE,ym,yj,rA,hv.ai,hw.len,hw.ai,ec,ef,show ¬(n:Int)=1 by omega,<-hn,show (n:Int)-1=((n-1:Nat):Int) by omega,wrapN (n:=n-1) (by omega),aea,show ((top:Nat):Int)+1=((top+1:Nat):Int) from rfl,wrapN (n:=top+1) (by omega),eQ _ _ _ (show ((top+1:Nat):Int)≠0 by omega),JI,e1,hsv,ew.len,zX,e2,Dw,ao2 (us:=BP) (e:=e) (by omega)];generalize bf:D P L (.loop [0,8,9,10,11] Ii) _=q0;obtain ⟨ex,st,rfl,tm,us,rfl,rfl,t8,t9,t10,t11,lu,gu,vu⟩:=bI bf (ao1 (P:=P) (L:=L) (f:=(f:Int)) (n:=n) (A:=dv a*f) hv ew (by omega) (a.length+1-BP.length)) ⟨BP,by
   simp only [go_sem,ya,yc,ax,aE hv.pu,aH _ hv.pu,aE ew.pu,aH _ ew.pu]<;>rfl,by omega,FT,KM⟩
  have em:((a.length+1:Nat):Int)-(n:Int)=(m:Int):=by omega
  have em1:(m:Int)-1=((m-1:Nat):Int):=by omega
  simp only [go_sem,ya,yc,ax,aE ew.pu,aH _ ew.pu,t8,t9,t10,t11,em,wrapN (n:=m) (by omega),cI,em1,wrapN (n:=m-1) (by omega)];generalize ff:D P L (.loop [8,9,10,11,12,13] Ik) _=q1;obtain ⟨ex,st,rfl,nV,BQ,qs,rfl,rfl,t8,t10,t11,t12,lu1,KD,gu1,gq1,aI,aP⟩:=bI ff (ao0 (P:=P) (L:=L) qd (f:=(f:Int)) ew Dz zX (by omega) (show n<a.length+1 by omega) (by omega) (by omega) dY (U0:=dv a*f) m) ⟨m,us,yC m 0,by
   rw [show ((m-1:Nat):Int)=(m:Int)-1 by omega]
   simp only [go_sem,ya,yc,ax,aE ew.pu,aH _ ew.pu]<;>rfl,rfl,yz _,lu,by simp,gu,Zg m,fun i _=>XL m i,by rw [Zf,wU,yW,vu],Sz us lu vu⟩
  have lL:∀(hp:Hp) tm (y:X),an hp 1=some (.cells true true false 1 (BQ.map aa))->cC tm (a.length+1) (some y)=some n->fB hp (.sl 1) (.ay 1 0 (a.length+1)) tm none (some y)=some (.ay 1 0 n):=fun hp tm y h1 h2=>Zq h1 h2 (by omega) (by omega)
  obtain ⟨e',KB⟩:∃e',∀hp:Hp,lK 0 n (some (false,1,BQ.map aa,hp))=some (.aC e' n ((BQ.take n).map aa),hp):=by
   refine ⟨false&&yK 0 1&&yt n (BQ.map aa).length,fun hp=>?_⟩;simp only [lK,yf,yj,slice,yp,<-List.map_take];rw [yy (by simp;omega)];rfl
  have ltk:(BQ.take n).length=n:=by rw [yT];omega
  have iv:=gZ e' (BQ.take n);rw [ltk] at iv;obtain ⟨r0,f1,lS,avP⟩:=A5 cG iv (by omega);obtain ⟨r1,lr,f2,bW,azY,atK,dr,nr,vr⟩:=adZ oW cG lS (An (B8 gu1 n)) (by have:=Lz (BQ.take n);omega) DG hfB;have KA:=gZ true qs;rw [KD] at KA;obtain ⟨q1,f3,ff,avQ⟩:=A5 cG KA (by omega);rw [sM] at vr;unfold ab at f1 f2 f3;refine ⟨BQ,qs,⟨lu1,KD,gu1,gq1,aI,aP⟩,q1,r1,lr,ff,bW,dr,nr,vr,?_⟩;have n9:ju 1 0 (AV.ay 0 0 1)=some (.ptr 0 0):=cU 0 0 (show 0<1 by omega)
  simp only [go_sem,ya,yc,ax,t8,t10,t11,t12,lL,dH,KB,f1,avP,lS.ai,n9,f2,atK,fun hp=>lV (hp:=hp) (k:=m) (sz:=1) (cs:=qs.map aa) true (by simp [KD]) (by decide),f3,avQ];rcases ff with ⟨rfl,_⟩ | ⟨_,rfl⟩<;>rcases bW with ⟨rfl,_⟩ | ⟨_,rfl⟩<;>rfl
 obtain ⟨us,qs,⟨lu,lq,gu,gq,aI,aP⟩,q1,r1,lr,ff,bW,dr,nr,vr,e⟩:=jd;rw [sA] at aI aP;have JI:dv qs=dv a/dv b:=by
  rw [<-Nat.mul_div_mul_right _ _ DG,<-aI,tf,xA,yaG (vS qw DG),xO aP,yW]
 have Pf:dv us=(dv a%dv b)*f:=by
  rw [<-Nat.mul_mod_mul_right,<-aI,tf,xA (dv qs),yaH,yL aP]
 have j9:=QO us n (by omega);have fW:dv (us.drop n)=0:=by
  rcases xn (dv (us.drop n)) with h0 | h0
  ·exact h0
  ·have:=yU (1000000000^n) h0
   omega
 rw [fW,xx,yW] at j9;rw [<-j9,Pf,tB _ DG] at vr;exact ⟨q1,r1,_,lr,e,ff,bW,An gq,D7 _,dr,nr,by rw [sM,JI],vr⟩
def acC (h:Has P L 289 rA) (kU:Has P L 293 A1) (nQ:Has P L 296 rB) (oW:Has P L 299 A3) (cG:Has P L 300 lJ) (qd:Has P L 301 zq) {v w:AV} {a b:List Int} (hv:a8 v a) (hw:a8 w b) (ha:dg a) (hb:dg b) (na:nz a) (nb:nz b) (la:a.length<=8000000000) (lb:b.length<=8000000000) (h0:0<dv b):
  ∃q r lq lr,ab P L 289 [v,w] (.ap [q,r])/\a8 q lq/\a8 r lr/\dg lq/\nz lq/\dg lr/\nz lr/\dv lq=dv a/dv b/\dv lr=dv a%dv b:=by
 by_cases hl:b.length<=1
 ·exact avA h nQ oW cG hv hw ha hb na nb (by omega) hl h0
 have ec:=Ud nQ hv hw ha hb na nb (by omega) (by omega);by_cases hc:dv a<dv b
 ·unfold ab at ec;have ef:dP (dv a) (dv b)= -1:=by unfold dP;rw [yM hc]
  rw [ef] at ec;refine ⟨.af,v,[],a,?_,qQ,hv,rfl,rfl,ha,na,?_,?_⟩
  ·unfold ab;rw [aA h];simp only [go_sem,ya,rA,hv.ai,hw.ai,ec,show (-1:Int)<0 by decide];rcases hv with ⟨rfl,_⟩ | ⟨e,rfl⟩<;>rfl
  ·rw [xO hc];rfl
  ·rw [yL hc]
 ·exact arJ h kU oW cG qd hv hw ha hb na nb la (by omega) ec (by omega)
def acD (h:Has P L 275 NI) (JP:Has P L 289 rA) (kU:Has P L 293 A1) (nQ:Has P L 296 rB) (oW:Has P L 299 A3) (cG:Has P L 300 lJ) (qd:Has P L 301 zq) {v w:AV} {a b:List Int} (hv:a8 v a) (hw:a8 w b) (ha:dg a) (hb:dg b) (na:nz a) (nb:nz b) (la:a.length<=8000000000) (lb:b.length<=8000000000):
  ∃r l,ab P L 275 [v,w] r/\a8 r l/\dg l/\nz l/\dv l=wz (dv a) (dv b):=by
 have key:=iU (P:=P) (L:=L) (live:=[0,1]) (a:=Ig)
  (I:=fun k st=>∃x y lx ly,st=⟨[(0,x),(1,y)],[],0,0⟩/\a8 x lx/\a8 y ly/\dg lx/\nz lx/\dg ly/\nz ly/\lx.length<=8000000000/\ly.length<=8000000000/\dv ly=k/\wz (dv lx) (dv ly)=wz (dv a) (dv b))
  (Q:=fun ex st=>∃tm ct,st=⟨tm,[],ct,0⟩/\ex= .exit 0/\∃x lx,aj tm 0=x/\a8 x lx/\dg lx/\nz lx/\dv lx=wz (dv a) (dv b)) ?_
 ·unfold ab;rw [aA h];simp only [go_sem,NI];generalize hq:D P L (.loop [0,1] Ig) _=q;obtain ⟨ex,st,rfl,tm,ct,rfl,rfl,x,lx,h2,hx,dx,nx,vx⟩:=bI hq (key (dv b)) ⟨v,w,a,b,by simp only [go_sem,ya,ax,aE hv.pu,aH _ hv.pu,aE hw.pu,aH _ hw.pu]<;>rfl,hv,hw,ha,na,hb,nb,la,lb,rfl,rfl⟩
  refine ⟨x,lx,?_,hx,dx,nx,vx⟩;simp only [go_sem,ax,h2,hx.dd,aE hx.pu,aH _ hx.pu]
 ·rintro k st ⟨x,y,lx,ly,rfl,hx,hy,dx,nx,dy,ny,llx,lly,rfl,hg⟩;by_cases h0:ly=[]
  ·right
   subst h0;simp only [go_sem,ya,Ig,hy.len,yI,show ¬(0:Int)<((0:Nat):Int) by omega];refine ⟨_,_,rfl,by simp,_,_,rfl,rfl,x,lx,by simp only [go_sem,ya],hx,dx,nx,?_⟩;rw [<-hg];simp [dv]
  ·left
   have hp:0<dv ly:=by
    rcases xn (dv ly) with e | e
    ·exact absurd (Q2 ny dy e) h0
    ·exact e
   have hl:0<ly.length:=vL.2 h0;obtain ⟨q,r,lq,lr,e1,hq,hr,dq,nq,dr,nr,vq,vr⟩:=acC JP kU nQ oW cG qd hx hy dx dy nx ny llx lly hp;have aP:dv lr<dv ly:=by rw [vr];exact xE _ hp
   have hB:=jN dy;simp only [go_sem,ya,Ig,hx.ai,hy.len,hy.ai,show (0:Int)<ly.length by omega,e1,hq.bP,hr.bP];refine ⟨_,dv lr,rfl,aP,y,r,ly,lr,?_,hy,hr,dy,ny,dr,nr,by omega,xg (hZ dr nr (ycz aP hB)) lly,rfl,?_⟩
   ·simp only [go_sem,ya,ax,aE hy.pu,aH _ hy.pu,aE hr.pu,aH _ hr.pu]<;>rfl
   ·rw [<-hg,vr,tv (dv ly),<-Nat.gcd_rec,tv]
def arK (zA:Has P L 290 E0) {neg:Bool} {N:Nat} (hN:(aq N).length<=180000000000):
  ∀k s,(∃(i m:Nat) (out:List Int),m=k/\out.length=i/\dg out/\dv out+1000000000^i*m=N/\(aq m).length+9*i<=180000000000/\
    ((i=0/\aM [0,2,3,4] s=⟨[(0,.str (aq m)),(2,.ptr 0 0),(3,.bool neg),(4,.af)],[(0,.cells true true true 2 [.bool false,.af])],1,0⟩)\/
    (0<i/\aM [0,2,3,4] s=⟨[(0,.str (aq m)),(2,.ptr 0 0),(3,.bool neg),(4,.ay 1 0 i)],[(1,.cells true true false 1 (out.map aa)),(0,.cells true true true 2 [.bool false,.af])],2,0⟩)))->
   ∃ex s',D P L (.loop [0,2,3,4] sZ) s=some (ex,s')/\∃tm i m out,ex= .exit 0/\m<1000000000/\out.length=i/\dg out/\dv out+1000000000^i*m=N/\i<20000000000/\aj tm 0= .str (aq m)/\aj tm 2= .ptr 0 0/\aj tm 3= .bool neg/\
    ((i=0/\aj tm 4= .af/\s'=⟨tm,[(0,.cells true true true 2 [.bool false,.af])],1,0⟩)\/(0<i/\aj tm 4= .ay 1 0 i/\s'=⟨tm,[(1,.cells true true false 1 (out.map aa)),(0,.cells true true true 2 [.bool false,.af])],2,0⟩)):=by
 intro dq sq;generalize bf:aM [0,2,3,4] sq=s0;revert bf s0 sq dq;apply dh;rintro k s ⟨i,m,out,rfl,hlen,hd,aI,hl,hs⟩;by_cases hm:1000000000<=m
 ·left
  obtain ⟨q,hq⟩:∃q,q=m/1000000000:=⟨_,rfl⟩;obtain ⟨r,hr⟩:∃r,r=m%1000000000:=⟨_,rfl⟩;have lL:=al9 hm;rw [<-hq,<-hr] at lL;have mY:=QI 9 r;have hqp:=sN q;have hlm:(aq m).length=(aq q).length+9:=by rw [lL,yR,mY]
  have c1:ig (aq m) (some (aq q).length) (some (aq m).length)=some (.str (iI 9 r)):=by
   rw [ll (by omega) (yz _),xH,lL,td]
  have c2:ig (aq m) (some 0) (some (aq q).length)=some (.str (aq q)):=by
   rw [ll (by omega) (by omega),yp,lL,tc]
  have e1:=JD zA (s:=iI 9 r) (v:=r) (by omega) (by rw [Zn 9 r 0 (by omega)];simp)
  unfold ab at e1;have qc:dg (out++[(r:Int)]):=gL.2 ⟨hd,jH.2 (by omega)⟩;have M2:dv (out++[(r:Int)])+1000000000^(i+1)*q=N:=by
   rw [lU,hlen,<-aI,y9];have e:=uB m 1000000000;rw [<-hr,<-hq] at e;rw [<-e];simp only [dv,wh,xx,yW,xC,xm];omega
  have Nc:((aq m).length:Int)-9=((aq q).length:Int):=by omega
  rcases hs with ⟨h0,rfl⟩ | ⟨h0,rfl⟩
  ·subst h0;have jf:out=[]:=yJ hlen;subst jf
   simp only [go_sem,ya,yc,xK,yE,ym,yj,sZ,show (9:Int)<((aq m).length:Int) by omega,Nc,wrapN (n:=(aq q).length) (by omega),eF,eR,dH,c1,c2,e1,jW];refine ⟨_,q,rfl,by omega,1,q,[]++[(r:Int)],rfl,rfl,qc,M2,by omega,.inr ⟨by omega,?_⟩⟩;rfl
  ·simp only [go_sem,ya,yc,ym,yj,sZ,show (9:Int)<((aq m).length:Int) by omega,Nc,wrapN (n:=(aq q).length) (by omega),eF,eR,dH,c1,e1]
   rw [jG (ex:=false) (pu:=true) (cs:=out.map aa) (by simp only [go_sem,ya]) (by rw [xo,hlen,yj]) (by omega) (by omega) (by decide) (by simp only [go_sem])]
   simp only [go_sem,ya,yc,eF,eR,dH,Nc,wrapN (n:=(aq q).length) (by omega),c2];refine ⟨_,q,rfl,by omega,i+1,q,out++[(r:Int)],rfl,by simp [hlen],qc,M2,by omega,.inr ⟨by omega,?_⟩⟩;rw [xu];simp only [go_sem,ya,yc,ax]<;>rfl
 ·right
  have h9:(aq m).length<=9:=pP (k:=8) (by omega);have hp0:=sN m;rcases hs with ⟨h0,rfl⟩ | ⟨h0,rfl⟩
  ·simp only [go_sem,sZ,show ¬(9:Int)<((aq m).length:Int) by omega];exact ⟨_,_,rfl,by simp,_,i,m,out,rfl,by omega,hlen,hd,aI,by omega,by simp only [go_sem,ya],by simp only [go_sem,ya],by simp only [go_sem,ya],.inl ⟨h0,by simp only [go_sem,ya],rfl⟩⟩
  ·simp only [go_sem,sZ,show ¬(9:Int)<((aq m).length:Int) by omega];exact ⟨_,_,rfl,by simp,_,i,m,out,rfl,by omega,hlen,hd,aI,by omega,by simp only [go_sem,ya],by simp only [go_sem,ya],by simp only [go_sem,ya],.inr ⟨h0,by simp only [go_sem,ya],rfl⟩⟩
def Uh (h:Rb P L) {n:Int} (hn:(aq n.natAbs).length<=180000000000):∃r,ab P L 288 [.str (aT n)] r/\iT r n:=by
 obtain ⟨u,hu⟩:∃u,u=aq n.natAbs:=⟨_,rfl⟩;obtain ⟨b,t,hb,jj,BB⟩:=DX n.natAbs;have hs:aT n=(if n<0 then [45] else [])++u:=by rw [hu,ns]
 have BC:0<u.length:=by rw [hu];exact sN _
 have qu:u[0]=b:=by
  have:u=b::t:=by rw [hu,hb]
  simp [this]
 have key:∀(s:St),aM [0,2,3,4] s=⟨[(0,.str u),(2,.ptr 0 0),(3,.bool (decide (n<0))),(4,.af)],[(0,.cells true true true 2 [.bool false,.af])],1,0⟩->
   ∃ex s',D P L (.loop [0,2,3,4] sZ) s=some (ex,s')/\∃tm i m out,ex= .exit 0/\m<1000000000/\out.length=i/\dg out/\dv out+1000000000^i*m=n.natAbs/\i<20000000000/\aj tm 0= .str (aq m)/\aj tm 2= .ptr 0 0/\aj tm 3= .bool (decide (n<0))/\
    ((i=0/\aj tm 4= .af/\s'=⟨tm,[(0,.cells true true true 2 [.bool false,.af])],1,0⟩)\/(0<i/\aj tm 4= .ay 1 0 i/\s'=⟨tm,[(1,.cells true true false 1 (out.map aa)),(0,.cells true true true 2 [.bool false,.af])],2,0⟩)):=fun s hc=>
  arK (P:=P) (L:=L) h.zA (neg:=decide (n<0)) hn n.natAbs s ⟨0,n.natAbs,[],rfl,rfl,rfl,by simp [dv],by omega,.inl ⟨rfl,by rw [hc,hu]⟩⟩
 have fin:∀(i m:Nat) (out:List Int),m<1000000000->out.length=i->dg out->dv out+1000000000^i*m=n.natAbs->i<20000000000->∃w l,bF P L (D P L) 294 [.bool (decide (n<0)),.aC false (i+1) ((out++[(m:Int)]).map aa)]=some (.agg [.bool (decide (n<0)),w])/\a8 w l/\dg l/\nz l/\dv l=n.natAbs:=fun i m out h1 h2 h3 h4 h5=>by
  have hv:=gZ false (out++[(m:Int)]);have hd:dg (out++[(m:Int)]):=gL.2 ⟨h3,jH.2 (by omega)⟩;have aI:dv (out++[(m:Int)])=n.natAbs:=by rw [lU,h2];simp [dv];exact h4
  obtain ⟨r,e,hr⟩:=nO h.gR h.cG (decide (n<0)) hv hd (by simp;omega);have sB:bY (decide (n<0)) (dv (out++[(m:Int)]))=n:=by
   rw [aI];unfold bY;by_cases h0:n<0
   ·simp only [h0,yq,xB];omega
   ·simp only [h0,yu,yD,xk];omega
  rw [sB] at hr;obtain ⟨w,l,rfl,hw,gT,iP,cA⟩:=hr;simp only [yR,List.length_singleton,h2] at e;exact ⟨w,l,e,hw,gT,iP,cA⟩
 unfold ab;rw [hs];by_cases h0:n<0
 ·rw [yM h0,aA h.ad6];have kW:ig (45::u) (some 1) (some (u.length+1))=some (.str u):=by rw [ll (s:=45::u) (l:=1) (h:=u.length+1) (by omega) (by simp)];simp
  simp only [h0,yq] at key fin ⊢;simp only [go_sem,ya,yc,NN,aO,show (0:Int)<((u.length+1:Nat):Int) by omega,yY,xX,C1,yq,eF,eR,dH,kW];generalize hq:D P L (.loop [0,2,3,4] sZ) _=q;obtain ⟨ex,s,rfl,tm,i,m,out,rfl,hm,hlen,hd,aI,hi,t0,t2,t3,CH⟩:=bI hq key (by simp only [go_sem,ya,yc,ax]<;>rfl)
  have e1:=JD h.zA (s:=aq m) (v:=m) (by have:=pP (k:=8) (n:=m) (by omega);omega) (sK m);have cD:i<20000000000:=hi;obtain ⟨w,l,e2,hw,gT,iP,cA⟩:=fin i m out hm hlen hd aI cD;refine ⟨_,?_,w,l,rfl,hw,gT,iP,cA⟩;unfold ab at e1;rcases CH with ⟨pG,t4,rfl⟩ | ⟨pG,t4,rfl⟩
  ·subst pG;have jf:out=[]:=yJ hlen;subst jf;have iv:∀hp:Hp,lK 0 1 (some (false,1,[AV.int .i64 (m:Int)],hp))=some (.aC false 1 [AV.int .i64 (m:Int)],hp):=fun hp=>rfl
   simp only [xX,xj,wL,yf] at e2;simp only [go_sem,ya,yc,xK,yE,ym,yj,ax,t0,t2,t3,t4,e1,jW,iv,e2,bg,hw.pu,hw.one,eJ];rcases hw with ⟨rfl,_⟩ | ⟨e,rfl⟩<;>simp only [h0,yq]<;>rfl
  ·simp only [go_sem,ya,yc,ym,yj,ax,t0,t2,t3,t4,e1]
   rw [jG (ex:=false) (pu:=true) (cs:=out.map aa) (by simp only [go_sem,ya]) (by rw [xo,hlen,yj]) (by omega) (by omega) (by decide) (by simp only [go_sem])];have iv:∀hp:Hp,lK 0 (i+1) (some (false,1,out.map aa++[AV.int .i64 (m:Int)],hp))=some (.aC false (i+1) (out.map aa++[AV.int .i64 (m:Int)]),hp):=fun hp=>lV false (by simp [hlen]) (by decide)
   simp only [xu,xj,wL] at e2;simp only [go_sem,ya,yc,iv,e2,bg,hw.pu,hw.one,eJ,vn];rcases hw with ⟨rfl,_⟩ | ⟨e,rfl⟩<;>simp only [h0,yq]<;>rfl
 ·rw [yB h0,aA h.ad6,xX];simp only [h0,yu] at key fin ⊢;simp only [go_sem,ya,yc,NN,aO,show (0:Int)<(u.length:Int) by omega,pT BC,qu,show ¬((b:Nat):Int)=45 by omega];generalize hq:D P L (.loop [0,2,3,4] sZ) _=q;obtain ⟨ex,s,rfl,tm,i,m,out,rfl,hm,hlen,hd,aI,hi,t0,t2,t3,CH⟩:=bI hq key (by simp only [go_sem,ya,yc,ax]<;>rfl)
  have e1:=JD h.zA (s:=aq m) (v:=m) (by have:=pP (k:=8) (n:=m) (by omega);omega) (sK m);have cD:i<20000000000:=hi;obtain ⟨w,l,e2,hw,gT,iP,cA⟩:=fin i m out hm hlen hd aI cD;refine ⟨_,?_,w,l,rfl,hw,gT,iP,cA⟩;rcases CH with ⟨pG,t4,rfl⟩ | ⟨pG,t4,rfl⟩
  ·subst pG;have jf:out=[]:=yJ hlen;subst jf;have iv:∀hp:Hp,lK 0 1 (some (false,1,[AV.int .i64 (m:Int)],hp))=some (.aC false 1 [AV.int .i64 (m:Int)],hp):=fun hp=>rfl
   simp only [xX,xj,wL,yf] at e2;simp only [go_sem,ya,yc,xK,yE,ym,yj,ax,t0,t2,t3,t4,e1,jW,iv,e2,bg,hw.pu,hw.one,eJ];rcases hw with ⟨rfl,_⟩ | ⟨e,rfl⟩<;>simp only [h0,yu]<;>rfl
  ·simp only [go_sem,ya,yc,ym,yj,ax,t0,t2,t3,t4,e1]
   rw [jG (ex:=false) (pu:=true) (cs:=out.map aa) (by simp only [go_sem,ya]) (by rw [xo,hlen,yj]) (by omega) (by omega) (by decide) (by simp only [go_sem])];have iv:∀hp:Hp,lK 0 (i+1) (some (false,1,out.map aa++[AV.int .i64 (m:Int)],hp))=some (.aC false (i+1) (out.map aa++[AV.int .i64 (m:Int)]),hp):=fun hp=>lV false (by simp [hlen]) (by decide)
   simp only [xu,xj,wL] at e2;simp only [go_sem,ya,yc,iv,e2,bg,hw.pu,hw.one,eJ,vn];rcases hw with ⟨rfl,_⟩ | ⟨e,rfl⟩<;>simp only [h0,yu]<;>rfl
end
def DQ (n:Int) (r:List Nat):bH (aT n++r)=(aT n).length+bH r:=by
 rw [<-ns]
 split
 ·simp only [yY,xX,bH,yv];rw [yB (by decide),G9 r (Ak _)];omega
 ·rw [xX];exact G9 r (Ak _)
def QP:∀{a b:List Nat},cP a b=true->a=b
 | [],[],_=>rfl
 | [],_::_,h=>by simp [cP] at h
 | _::_,[],h=>by simp [cP] at h
 | x::a,y::b,h=>by
  simp only [cP,yg] at h;rw [yk h.1,QP h.2]
def acE {n:Int} {d:Nat} (h:n≠0):cP (TT n d) [48]=false:=by
 cases hb:cP (TT n d) [48] with
 | false=>rfl
 | true=>
  have e:=QP hb;unfold TT at e;by_cases h0:n<0
  ·rw [lW h0] at e;simp at e
  ·obtain ⟨m,rfl⟩:∃m:Nat,n=m:=⟨n.toNat,by omega⟩;rw [jX] at e;obtain ⟨b,r,bQ,_,_⟩:=DX m;rw [bQ] at e;simp only [yY,tC,List.append_eq_nil_iff] at e;have hv:=sK m;rw [bQ,e.1,e.2.1] at hv
   have:(some 0:Option Nat)=some m:=hv
   grind
section
variable {P:aG} {L:Lib}
def arM (h:Rb P L):∃r,ab P L 281 [aa 1] r/\iT r 1:=by
 obtain ⟨r,e,hr⟩:=nO h.gR h.cG false (gZ false [(1:Int)]) (by decide) (by decide);obtain ⟨w,l,rfl,hw,hd,hz,hv⟩:=hr;refine ⟨_,?_,w,l,rfl,hw,hd,hz,hv⟩;simp only [xj,wL,yv,yI,yf] at e;have iv:∀hp:Hp,lK 0 1 (some (false,1,[AV.int .i64 1],hp))=some (.aC false 1 [AV.int .i64 1],hp):=fun hp=>rfl
 unfold ab at e ⊢;rw [aA h.ad5];simp only [go_sem,ya,yc,xK,yE,ym,yj,NK,aO,Int.reduceLT,yu,Eu,ax,qX,Int.reduceEq,yP,yQ,yq,eI _ _ _ (show (1000000000:Int)≠0 by decide),eQ _ _ _ (show (1000000000:Int)≠0 by decide),show Int.tmod 1 1000000000=1 from rfl,show Int.tdiv 1 1000000000=0 from rfl,show IntKind.wrap .i64 0=0 from rfl,jW,iv,e,hw.pu,hw.one,bg,eJ];rcases hw with ⟨rfl,_⟩ | ⟨e,rfl⟩<;>rfl
def aec (h:Rb P L) {n:Int} {d:Nat} (hn:(aq n.natAbs).length<=144000000000) (hd:(aq d).length<=144000000000):
  ∃x y,ab P L 274 [.str (TT n d)] (.ap [x,y])/\iT x n/\iT y d:=by
 obtain ⟨x,e1,hx⟩:=Uh h (n:=n) (by omega);have hli:(aT n).length<=(aq n.natAbs).length+1:=by rw [<-ns];split<;>simp
 by_cases h1:d=1
 ·subst h1;obtain ⟨y,e2,hy⟩:=arM h;have hT:TT n 1=aT n:=by unfold TT;simp
  have hs:=DQ n [];rw [xW] at hs;have e3:=C0 h.zy (s:=aT n) (by omega);rw [hs] at e3;refine ⟨x,y,?_,hx,hy⟩;obtain ⟨xw,xl,rfl,dL,_,_,_⟩:=hx;obtain ⟨yw,yl,rfl,dM,_,_,_⟩:=hy;rw [hT];unfold ab at e1 e2 e3 ⊢;rw [aA h.ad3];simp only [go_sem,ya,yc,NH,aO,e3,bH,yW,yq,e1,e2,bg,dL.pu,dL.one,dM.pu,dM.one,eJ];rcases dL with ⟨rfl,_⟩ | ⟨e,rfl⟩<;>rcases dM with ⟨rfl,_⟩ | ⟨e',rfl⟩<;>rfl
 ·obtain ⟨y,e2,hy⟩:=Uh h (n:=(d:Int)) (by simp;omega);rw [jX] at e2;obtain ⟨s,KC⟩:∃s,s=TT n d:=⟨_,rfl⟩;have hT:s=aT n++47::aq d:=by rw [KC];unfold TT;rw [yB h1]
  have hs:bH s=(aT n).length:=by rw [hT,DQ];rfl
  have hlen:s.length=(aT n).length+(aq d).length+1:=by rw [hT];simp;omega
  have e3:=C0 h.zy (s:=s) (by omega);rw [hs] at e3;have c1:ig s (some 0) (some (aT n).length)=some (.str (aT n)):=by
   rw [ll (by omega) (by omega),yp,hT,tc]
  have c2:ig s (some ((aT n).length+1)) (some s.length)=some (.str (aq d)):=by
   rw [ll (by omega) (yz _),xH,hT,show aT n++47::aq d=(aT n++[47])++aq d by simp,show (aT n).length+1=(aT n++[47]).length by simp,td]
  refine ⟨x,y,?_,hx,hy⟩;obtain ⟨xw,xl,rfl,dL,_,_,_⟩:=hx;obtain ⟨yw,yl,rfl,dM,_,_,_⟩:=hy;rw [<-KC];unfold ab at e1 e2 e3 ⊢;rw [aA h.ad3]
  simp only [go_sem,ya,yc,NH,aO,e3,show ¬((aT n).length:Int)=(s.length:Int) by omega,eF,eR,dH,c1,wrapN (n:=(aT n).length+1) (by omega),show ((aT n).length:Int)+1=(((aT n).length+1:Nat):Int) from rfl,c2,e1,e2,bg,dL.pu,dL.one,dM.pu,dM.one,eJ];rcases dL with ⟨rfl,_⟩ | ⟨e,rfl⟩<;>rcases dM with ⟨rfl,_⟩ | ⟨e',rfl⟩<;>rfl
end
def MD {n:Int} {d:Nat} (h:n<0):TT n d=45::TT (-n) d:=by
 have e:aT (-n)=aq n.natAbs:=by
  rw [<-ns,yB (show ¬-n<0 by omega),xX,show (-n).natAbs=n.natAbs by omega]
 unfold TT;rw [lW h,e];rfl
def ao3 {n:Int} {d:Nat} (h:¬n<0):∃b u,TT n d=b::u/\48<=b:=by
 obtain ⟨b,r,hb,h1,_⟩:=DX n.natAbs;refine ⟨b,r++(if d=1 then [] else 47::aq d),?_,h1⟩;unfold TT;rw [<-ns,yB h,xX,hb];rfl
def nH (a b:AV) (r:List AV):gl 2 true (a::b::r)=some (.agg [a,b]):=rfl
def ao4 (k:Nat):2^k<=1000000000^k:=vm (by decide) k
def Bd.r {k:Nat} {z:Int} (h:Bd k z):z.natAbs<1000000000^k:=yA h (ao4 k)
def IZ (r:Rat):RT r=TT r.num r.den:=rfl
def aav {n d:Int} (hd:0<d):RT (wy n d)=oS n d:=by
 obtain ⟨h1,h2⟩:=KZ (a:=n) hd;rw [aoD hd,IZ,h1]
 congr 1
 exact tQ (show ((wy n d).den:Int)=((db n d).toNat:Int) by rw [h2];have:=HB (a:=n) hd;unfold db at this ⊢;omega)
structure Rm (P:aG) (L:Lib):Prop extends Rb P L where
 avR:Has P L 263 dl
 Ol:Has P L 273 CT
 avS:Has P L 284 Tf
 avT:Has P L 285 NL
 avU:Has P L 286 NM
 E9:Has P L 287 Jq
 qd:Has P L 301 zq
structure Rl (P:aG) (L:Lib):Prop extends Rm P L where
 avV:Has P L 269 Jn
structure Rp (P:aG) (L:Lib):Prop extends Ras P L,Rm P L
structure Rn (P:aG) (L:Lib):Prop extends Ra P L,Rp P L
structure Rx (P:aG) (L:Lib):Prop extends Rn P L,Rl P L where
 Ui:Has P L 266 NG
 zF:Has P L 283 CV
section
variable {P:aG} {L:Lib}
def SE (h:Rm P L) {v w:AV} {a b:List Int} (hv:a8 v a) (hw:a8 w b) (ha:dg a) (hb:dg b) (na:nz a) (nb:nz b) (la:a.length<=8000000000) (lb:b.length<=8000000000) (h0:0<dv b):
  ∃q r lq lr,ab P L 289 [v,w] (.ap [q,r])/\a8 q lq/\a8 r lr/\dg lq/\nz lq/\dg lr/\nz lr/\dv lq=dv a/dv b/\dv lr=dv a%dv b:=
 acC h.JP h.kU h.nQ h.oW h.cG h.qd hv hw ha hb na nb la lb h0
def arN (h:Rm P L) {x y:AV} {a b:List Int} {n d:Int} {K:Nat} (hK:K<=8000000000) (hx:a8 x a) (ha:dg a) (na:nz a) (va:dv a=n.natAbs) (hy:a8 y b) (hb:dg b) (nb:nz b) (vb:dv b=d.natAbs) (kn:Bd K n) (kd:Bd K d) (hd:0<d) {tm:Env} (t2:aj tm 2= .ptr 0 0) (t3:aj tm 3= .ptr 1 0):
  dV [.t 4] (D P L (aw (aw nJ.body)) ⟨tm,[(1,.cells true true true 2 [.bool (decide (d<0)),y]),(0,.cells true true true 2 [.bool (decide (n<0)),x])],2,0⟩)=some (.str (RT (wy n d))):=by
 rw [aav hd];have la:=xg (hZ ha na (by rw [va];exact kn.r)) hK
 have lb:=xg (hZ hb nb (by rw [vb];exact kd.r)) hK
 obtain ⟨g,lg,e1,hg,Wa,ng,vg⟩:=acD h.ad4 h.JP h.kU h.nQ h.oW h.cG h.qd hx hy ha hb na nb la lb;rw [va,vb,show wz n.natAbs d.natAbs=wR n d from rfl] at vg;have Kd:=HP (a:=n) hd;have avW:wR n d<=d.natAbs:=Int.gcd_le_natAbs_right n (by omega);have lg1:lg.length<=8000000000:=xg (hZ Wa ng (by rw [vg];exact Nat.lt_of_le_of_lt avW kd.r)) hK
 obtain ⟨p,p',lp,lp',e2,hp,ao,dp,np,dp',np',vp,vp'⟩:=SE h hx hg ha Wa na ng la lg1 (by omega);obtain ⟨q,q',lq,lq',e3,hq,bJ,dq,nq,dq',nq',vq,vq'⟩:=SE h hy hg hb Wa nb ng lb lg1 (by omega);rw [va,vg] at vp;rw [vb,vg] at vq;have hrn:(cY n d).natAbs=n.natAbs/wR n d:=by unfold cY;rw [uz (Int.gcd_dvd_left n d)];rfl
 have fU:(db n d).natAbs=d.natAbs/wR n d:=by unfold db;rw [uz (Int.gcd_dvd_right n d)];rfl
 have hdp:=HB (a:=n) hd;rw [<-hrn] at vp;rw [<-fU] at vq;have azZ:=aa0 n d;have sB:bY (decide (n<0)) (dv lp)=cY n d:=by
  rw [vp];unfold bY;by_cases h0:n<0
  ·have:¬0<=cY n d:=fun h1=>by have:=tg (uQ Kd) h1;omega
   simp only [h0,yq,xB];omega
  ·have:¬cY n d<0:=fun h1=>by have:=Int.mul_neg_of_pos_of_neg Kd h1;omega
   simp only [h0,yu,yD,xk];omega
 have kn':Bd K (cY n d):=kn.le (Zl n d);have Uy:Bd K (db n d):=kd.le (Zm n d);have lp1:lp.length<=8000000000:=xg (hZ dp np (by rw [vp];exact kn'.r)) hK
 have KD:lq.length<=8000000000:=xg (hZ dq nq (by rw [vq];exact Uy.r)) hK
 obtain ⟨s,e4,hs⟩:=nO h.gR h.cG (decide (n<0)) hp dp (by omega);rw [sB] at hs;obtain ⟨e5,l5⟩:=Oj (K:=K) h.Ok h.nL (by omega) hs kn'.r;obtain ⟨u,e6,hu⟩:=nO h.gR h.cG false hq dq (by omega);have zP:bY false (dv lq)=db n d:=by rw [vq];unfold bY;simp only [yD,xk];omega
 rw [zP] at hu;obtain ⟨e7,l7⟩:=Oj (K:=K) h.Ok h.nL (by omega) hu Uy.r;obtain ⟨sw,sl,rfl,fX,_,_,_⟩:=hs;obtain ⟨uw,ul,rfl,huw,_,_,_⟩:=hu;have azK:0<lq.length:=by
  rcases xn lq.length with e | e
  ·rw [yJ e] at vq;simp [dv] at vq;omega
  ·exact e
 by_cases Pm:lq.length=1
 ·obtain ⟨z,rfl⟩:∃z,lq=[z]:=by
   cases lq with
   | nil=>simp at Pm
   | cons z r=>cases r with
    | nil=>exact ⟨z,rfl⟩
    | cons y r=>simp at Pm
  have KN:z=db n d:=by simp [dv] at vq;omega
  have e8:=hq.bn (i:=0) (by simp);simp only [vV] at e8;by_cases h1:db n d=1
  ·have hT:oS n d=aT (cY n d):=by unfold oS;rw [yM h1]
   rw [hT];simp only [go_sem,ya,nJ,aw,t2,t3,hx.ai,hy.ai,bq,yf,cm,show ¬d<0 by omega,yu,e1,hg.ai,hg.shut,e2,hp.ai,hp.bP,ao.bP,e3,hq.len,hq.bP,bJ.bP,e4,fX.ai,bw,bg,e5,yv,yI,show ((1:Nat):Int)=(1:Int) from rfl,yq,e8,KN,h1]
  ·have hT:oS n d=(aT (cY n d)++[47])++aT (db n d):=by unfold oS;rw [yB h1]
   rw [hT]
   simp only [go_sem,ya,nJ,aw,t2,t3,hx.ai,hy.ai,bq,yf,cm,show ¬d<0 by omega,yu,e1,hg.ai,hg.shut,e2,hp.ai,hp.bP,ao.bP,e3,hq.len,hq.ai,hq.bP,bJ.bP,e4,fX.ai,bw,bg,e5,yv,yI,show ((1:Nat):Int)=(1:Int) from rfl,yq,e8,KN,h1,gB (a:=aT (cY n d)) (b:=[47]) (by simp;omega),e6,huw.ai,e7,gB (a:=aT (cY n d)++[47]) (b:=aT (db n d)) (by simp;omega)]
 ·have h1:¬db n d=1:=fun h1=>Pm (by
   have h2:lq.length<=1:=Rk dq nq (by rw [vq,h1];decide)
   omega)
  have hT:oS n d=(aT (cY n d)++[47])++aT (db n d):=by unfold oS;rw [yB h1]
  rw [hT]
  simp only [go_sem,ya,nJ,aw,t2,t3,hx.ai,hy.ai,bq,yf,cm,show ¬d<0 by omega,yu,e1,hg.ai,hg.shut,e2,hp.ai,hp.bP,ao.bP,e3,hq.len,hq.ai,hq.bP,bJ.bP,e4,fX.ai,bw,bg,e5,show ¬(lq.length:Int)=1 by omega,gB (a:=aT (cY n d)) (b:=[47]) (by simp;omega),e6,huw.ai,e7,gB (a:=aT (cY n d)++[47]) (b:=aT (db n d)) (by simp;omega)]
def aht (n d:Int):wy (-n) (-d)=wy n d:=by rw [Rat.divInt_neg',tV]
def SF (h:Rm P L) {v w:AV} {n d:Int} {K:Nat} (hK:K<=8000000000) (hv:iT v n) (hw:iT w d) (kn:Bd K n) (kd:Bd K d) (hd:d≠0):ab P L 280 [v,w] (.str (RT (wy n d))):=by
 have fin:∀{x y:AV} {a b:List Int} {n' d':Int},a8 x a->dg a->nz a->dv a=n'.natAbs->a8 y b->dg b->nz b->dv b=d'.natAbs->Bd K n'->Bd K d'->0<d'->wy n' d'=wy n d->∀tm,aj tm 2= .ptr 0 0->aj tm 3= .ptr 1 0->
   D P L (.seq (a6 nJ.body) (a6 (aw nJ.body))) ⟨[(0,v),(1,w)],[],0,0⟩=some (.normal,⟨tm,[(1,.cells true true true 2 [.bool (decide (d'<0)),y]),(0,.cells true true true 2 [.bool (decide (n'<0)),x])],2,0⟩)->ab P L 280 [v,w] (.str (RT (wy n d))):=fun {x y a b n' d'} hx ha na va hy hb nb vb kn kd hd hq tm t2 t3 e=>by
  unfold ab;rw [aA h.avJ];show dV [.t 4] (D P L (.seq (a6 nJ.body) (.seq (a6 (aw nJ.body)) (aw (aw nJ.body)))) ⟨[(0,v),(1,w)],[],0,0⟩)=_
  rw [B4,e,fF,<-hq];exact arN h hK hx ha na va hy hb nb vb kn kd hd t2 t3
 have ew:=hv;have VP:=hw;obtain ⟨x,a,rfl,hx,ha,na,va⟩:=hv;obtain ⟨y,b,rfl,hy,hb,nb,vb⟩:=hw;by_cases h0:d<0
 ·obtain ⟨r,e1,hr⟩:=adE (K:=K) h.ad7 h.gR h.cG (by omega) ew kn.r;obtain ⟨s,e2,hs⟩:=adE (K:=K) h.ad7 h.gR h.cG (by omega) VP kd.r;obtain ⟨x',a',rfl,sC,Dj,na',va'⟩:=hr;obtain ⟨y',b',rfl,sD,bQ,nb',vb'⟩:=hs;simp only [h0,yq] at e2
  refine fin sC Dj na' va' sD bQ nb' vb' kn.neg kd.neg (by omega) (aht n d) _ ?_ ?_ (by
   simp only [go_sem,ya,yc,nJ,a6,aw,aO,hx.pu,hx.ai,hx.one,hy.pu,hy.ai,hy.one,sC.pu,sC.one,sD.pu,sD.one,bq,yf,h0,yq,nH,bw,e1,e2,bg,eJ]<;>rfl)<;>simp only [go_sem,ya]
 ·refine fin hx ha na va hy hb nb vb kn kd (by omega) rfl _ ?_ ?_ (by simp only [go_sem,ya,yc,nJ,a6,aw,aO,hx.pu,hx.one,hy.pu,hy.one,bq,yf,h0,yu]<;>rfl)<;>simp only [go_sem,ya]
end
def atL (z:Int) (m:Nat) (h:z.natAbs=m):(z.tdiv 1000000000).natAbs=m/1000000000/\(if z.tmod 1000000000<0 then 0-z.tmod 1000000000 else z.tmod 1000000000)=((m%1000000000:Nat):Int)/\(z<0->z.tdiv 1000000000<=0)/\(0<=z->0<=z.tdiv 1000000000):=by
 rcases Int.lt_or_le z 0 with h0 | h0
 ·obtain ⟨n,rfl⟩:∃n:Nat,z= -(n:Int):=⟨z.natAbs,by omega⟩;rw [Int.neg_tdiv,Int.neg_tmod,xL (by omega),xh (by omega)]
  grind
 ·grind
section
variable {P:aG} {L:Lib}
def arO {neg:Bool} {N:Nat} (hN:N<=9223372036854775808):
  ∀k s,(∃(i:Nat) (z:Int) (out:List Int),z.natAbs=k/\out.length=i/\dg out/\dv out+1000000000^i*z.natAbs=N/\(neg=true->z<=0)/\(neg=false->0<=z)/\i<=3/\
    ((i=0/\aM [0,2,3,4] s=⟨[(0,aa z),(2,.ptr 0 0),(3,.af),(4,.bool neg)],[(0,.cells true true true 2 [.bool false,.af])],1,0⟩)\/
    (0<i/\aM [0,2,3,4] s=⟨[(0,aa z),(2,.ptr 0 0),(3,.ay 1 0 i),(4,.bool neg)],[(1,.cells true true false 1 (out.map aa)),(0,.cells true true true 2 [.bool false,.af])],2,0⟩)))->
   ∃ex s',D P L (.loop [0,2,3,4] qX) s=some (ex,s')/\∃tm i out,ex= .exit 0/\out.length=i/\i<=3/\dg out/\dv out=N/\aj tm 2= .ptr 0 0/\aj tm 4= .bool neg/\
    ((i=0/\aj tm 3= .af/\s'=⟨tm,[(0,.cells true true true 2 [.bool false,.af])],1,0⟩)\/(0<i/\aj tm 3= .ay 1 0 i/\s'=⟨tm,[(1,.cells true true false 1 (out.map aa)),(0,.cells true true true 2 [.bool false,.af])],2,0⟩)):=by
 intro dq sq;generalize bf:aM [0,2,3,4] sq=s0;revert bf s0 sq dq;apply dh;rintro k s ⟨i,z,out,rfl,hlen,hd,aI,eV,lQ,hi3,hs⟩;by_cases hz:z=0
 ·right
  subst hz;have hv:dv out=N:=by simpa using aI
  rcases hs with ⟨h0,rfl⟩ | ⟨h0,rfl⟩
  ·simp only [go_sem,qX,yq,yQ];exact ⟨_,_,rfl,by simp,_,i,out,rfl,hlen,hi3,hd,hv,by simp only [go_sem,ya],by simp only [go_sem,ya],.inl ⟨h0,by simp only [go_sem,ya],rfl⟩⟩
  ·simp only [go_sem,qX,yq,yQ];exact ⟨_,_,rfl,by simp,_,i,out,rfl,hlen,hi3,hd,hv,by simp only [go_sem,ya],by simp only [go_sem,ya],.inr ⟨h0,by simp only [go_sem,ya],rfl⟩⟩
 ·left
  obtain ⟨m,hm⟩:∃m,z.natAbs=m:=⟨_,rfl⟩;have qF:0<m:=by omega
  rw [hm] at aI;have sE:i<3:=by
   rcases Nat.lt_or_ge i 3 with h | h
   ·exact h
   ·have e3:i=3:=by omega
    subst e3
    have:=yU (1000000000^3) qF
    omega
  have hmN:m<=9223372036854775808:=by
   have:=yaw m (yax (n:=i) (show 0<1000000000 by decide))
   omega
  obtain ⟨d1,d2,d3,d4⟩:=atL z m hm;have fg:=uB m 1000000000;have qc:dg (out++[((m%1000000000:Nat):Int)]):=gL.2 ⟨hd,jH.2 (by omega)⟩;have M2:dv (out++[((m%1000000000:Nat):Int)])+1000000000^(i+1)*(m/1000000000)=N:=by
   rw [lU,hlen,<-aI,y9,xm];have e:1000000000^i*m=1000000000^i*(m%1000000000)+1000000000^i*(1000000000*(m/1000000000)):=by rw [<-xC,fg]
   rw [e];simp only [dv,wh,xx,yW];omega
  have so:IntKind.wrap .i64 (z.tdiv 1000000000)=z.tdiv 1000000000:=wrap64 (by omega) (by omega);have lP: -9223372036854775808<=z.tmod 1000000000/\z.tmod 1000000000<1000000000:=by
   have h1:(z.tmod 1000000000).natAbs<1000000000:=by
    split at d2<;>omega
   omega
  have zi:(neg=true->z.tdiv 1000000000<=0)/\(neg=false->0<=z.tdiv 1000000000):=⟨fun h=>d3 (by have:=eV h;omega),fun h=>d4 (lQ h)⟩;have aP:(z.tdiv 1000000000).natAbs<m:=by rw [d1];omega
  obtain ⟨z',eN⟩:∃z',z.tdiv 1000000000=z':=⟨_,rfl⟩;rw [eN] at d1 d3 d4 so zi aP;have cA:dv (out++[((m%1000000000:Nat):Int)])+1000000000^(i+1)*z'.natAbs=N:=by rw [d1];exact M2
  generalize m%1000000000=r at*
  by_cases eM:z.tmod 1000000000<0
  ·rw [yM eM] at d2;rcases hs with ⟨h0,rfl⟩ | ⟨h0,rfl⟩
   ·subst h0;have jf:out=[]:=yJ hlen;subst jf
    simp only [go_sem,ya,yc,xK,yE,ym,yj,qX,yu,hz,yP,eI _ _ _ (show (1000000000:Int)≠0 by decide),eQ _ _ _ (show (1000000000:Int)≠0 by decide),eM,d2,wrapN (n:=r) (by omega),jW,eN,so];refine ⟨_,z'.natAbs,rfl,by omega,1,z',[]++[(r:Int)],rfl,rfl,qc,cA,zi.1,zi.2,by omega,.inr ⟨by omega,?_⟩⟩;simp only [go_sem,ya,yc,ax]<;>rfl
   ·simp only [go_sem,ya,yc,ym,yj,qX,yu,hz,yP,eI _ _ _ (show (1000000000:Int)≠0 by decide),eM,d2,wrapN (n:=r) (by omega)]
    rw [jG (ex:=false) (pu:=true) (cs:=out.map aa) (by simp only [go_sem,ya]) (by rw [xo,hlen,yj]) (by omega) (by omega) (by decide) (by simp only [go_sem])];simp only [go_sem,ya,yc,eQ _ _ _ (show (1000000000:Int)≠0 by decide),eN,so];refine ⟨_,z'.natAbs,rfl,by omega,i+1,z',out++[(r:Int)],rfl,by simp [hlen],qc,cA,zi.1,zi.2,by omega,.inr ⟨by omega,?_⟩⟩;rw [xu];simp only [go_sem,ya,yc,ax]<;>rfl
  ·rw [yB eM] at d2;rcases hs with ⟨h0,rfl⟩ | ⟨h0,rfl⟩
   ·subst h0;have jf:out=[]:=yJ hlen;subst jf;simp only [go_sem,ya,yc,xK,yE,ym,yj,qX,yu,hz,yP,eI _ _ _ (show (1000000000:Int)≠0 by decide),eQ _ _ _ (show (1000000000:Int)≠0 by decide),d2,show ¬((r:Nat):Int)<0 by omega,jW,eN,so];refine ⟨_,z'.natAbs,rfl,by omega,1,z',[]++[(r:Int)],rfl,rfl,qc,cA,zi.1,zi.2,by omega,.inr ⟨by omega,?_⟩⟩;simp only [go_sem,ya,yc,ax]<;>rfl
   ·simp only [go_sem,ya,yc,ym,yj,qX,yu,hz,yP,eI _ _ _ (show (1000000000:Int)≠0 by decide),d2,show ¬((r:Nat):Int)<0 by omega]
    rw [jG (ex:=false) (pu:=true) (cs:=out.map aa) (by simp only [go_sem,ya]) (by rw [xo,hlen,yj]) (by omega) (by omega) (by decide) (by simp only [go_sem])];simp only [go_sem,ya,yc,eQ _ _ _ (show (1000000000:Int)≠0 by decide),eN,so];refine ⟨_,z'.natAbs,rfl,by omega,i+1,z',out++[(r:Int)],rfl,by simp [hlen],qc,cA,zi.1,zi.2,by omega,.inr ⟨by omega,?_⟩⟩;rw [xu];simp only [go_sem,ya,yc,ax]<;>rfl
def aaw {n:Int} (h: -9223372036854775808<=n/\n<9223372036854775808):n.natAbs<=9223372036854775808:=by omega
def aax (n:Int):bY (decide (n<0)) n.natAbs=n:=by
 unfold bY
 grind
def atM (h:Rm P L) {n:Int} (hn: -9223372036854775808<=n/\n<9223372036854775808):∃r,ab P L 281 [aa n] r/\iT r n:=by
 have key:=fun s=>arO (P:=P) (L:=L) (neg:=decide (n<0)) (aaw hn) n.natAbs s
 unfold ab;rw [aA h.ad5];simp only [go_sem,ya,yc,NK,aO];generalize hq:D P L (.loop [0,2,3,4] qX) _=q;obtain ⟨ex,s,rfl,tm,i,out,rfl,hlen,hi,hd,aI,t2,t4,CH⟩:=bI hq key (by
  refine ⟨0,n,[],rfl,rfl,rfl,by simp [dv],fun h=>by simp at h;omega,fun h=>by simp at h;omega,by omega,.inl ⟨rfl,?_⟩⟩
  simp only [go_sem,ya,yc,ax]<;>rfl)
 rcases CH with ⟨pG,t3,rfl⟩ | ⟨pG,t3,rfl⟩
 ·subst pG;have jf:out=[]:=yJ hlen;subst jf;obtain ⟨r,e,hr⟩:=nO h.gR h.cG (decide (n<0)) (show a8 .af [] from qQ) hd (by simp);rw [aI,aax] at hr;have bC:=hr;obtain ⟨w,l,rfl,hw,_,_,_⟩:=bC;refine ⟨_,?_,hr⟩;simp only [go_sem,ya,yc,ax,t2,t3,t4,e,hw.pu,hw.one,bg,eJ];rcases hw with ⟨rfl,_⟩ | ⟨e,rfl⟩<;>rfl
 ·have hI:=gZ false out;rw [hlen] at hI;obtain ⟨r,e,hr⟩:=nO h.gR h.cG (decide (n<0)) hI hd (by omega);rw [aI,aax] at hr;have bC:=hr;obtain ⟨w,l,rfl,hw,_,_,_⟩:=bC;refine ⟨_,?_,hr⟩
  simp only [go_sem,ya,yc,ax,t2,t3,t4,fun hp=>lV (hp:=hp) (k:=i) (sz:=1) (cs:=out.map aa) false (by simp [hlen]) (by decide),e,hw.pu,hw.one,bg,eJ];rcases hw with ⟨rfl,_⟩ | ⟨e,rfl⟩<;>rfl
def R1 (n:Int):RT (n:Rat)=aT n:=by unfold RT;simp
def M3 (h:Rm P L) (rK:Has P L 265 EY) {n:Int} (hn: -9223372036854775808<=n/\n<9223372036854775808):ab P L 265 [aa n] (.str (RT (n:Rat))):=by
 obtain ⟨r,e,hr⟩:=atM h hn;obtain ⟨e2,_⟩:=Oj (K:=8) h.Ok h.nL (by omega) hr (by have:=aaw hn;omega);rw [R1];obtain ⟨w,l,rfl,hw,_,_,_⟩:=hr;unfold ab at e e2 ⊢;rw [aA rK];simp only [go_sem,ya,EY,e,hw.ai,bg,bw,e2]
def AK {K:Nat} {a:Rat} (h:Hq K a):(RT a).length<=2*K+3:=by
 have h1:=Ho h.1;have h2:=Ho h.2;rw [jX] at h2;unfold RT
 grind
def aay {K:Nat} {z:Int} (h:Bd K z):(aq z.natAbs).length<=K+1:=by
 have:=Ho (z:=(z.natAbs:Int)) (k:=K) (by unfold Bd at h ⊢;omega)
 rwa [jX] at this
def EI (h:Rm P L) {a:Rat} {K:Nat} (ka:Hq K a) (hK:K<=8000000000):∃x y,ab P L 274 [.str (RT a)] (.ap [x,y])/\iT x a.num/\iT y (a.den:Int):=by
 have h1:=aay ka.1;have h2:=aay ka.2
 exact aec h.toRb (n:=a.num) (d:=a.den) (by omega) (by simpa using (by omega:(aq ((a.den:Int)).natAbs).length<=144000000000))
def acF (h:Rm P L) {n:Int} {d:Nat} (hl:(TT n d).length<=100000000000) (h00:n=0->d=1):ab P L 262 [.str (TT n d)] (aa (bN n)):=by
 unfold ab;rw [aA h.avH];by_cases h0:n<0
 ·have fM:=acE (n:=n) (d:=d) (by omega);rw [MD h0] at fM ⊢;simp only [go_sem,ya,Jj,jZ,fM,show (0:Int)<(((TT (-n) d).length+1:Nat):Int) by omega,C1,yq];unfold bN;rw [yM h0]
 ·by_cases h1:n=0
  ·subst h1
   have:=h00 rfl
   subst this;rw [show TT 0 1=[48] by decide];simp only [go_sem,ya,Jj,jZ,show cP [48] [48]=true from rfl];rfl
  ·have fM:=acE (n:=n) (d:=d) h1;obtain ⟨b,u,hb,jj⟩:=ao3 (d:=d) h0;rw [hb] at fM ⊢;simp only [go_sem,ya,Jj,jZ,fM,show (0:Int)<((u.length+1:Nat):Int) by omega,show mP 0 (.str (b::u))=some (.int .u8 (b:Nat)) from rfl,show ¬((b:Nat):Int)=45 by omega];unfold bN;rw [yB h0,yB h1]
def agV {a:Rat} (h:a.num=0):a.den=1:=by simp_all
def M4 (h:Rm P L) {a:Rat} {K:Nat} (ka:Hq K a) (hK:K<=8000000000):ab P L 262 [.str (RT a)] (aa (bN a.num)):=
 acF h (by have:=AK ka;rw [IZ] at this;omega) agV
def acG (h:Rp P L) {a:Rat} {K:Nat} (ka:Hq K a) (hK:K<=8000000000):ab P L 268 [.str (RT a)] (.str (RT (-a))):=by
 have e:=M4 h.toRm ka hK;have hl:=AK ka;have en:(-a).num= -a.num:=rfl;have ed:(-a).den=a.den:=rfl;rw [IZ] at hl e ⊢;rw [IZ,en,ed];generalize a.num=n at*
 generalize a.den=d at*
 unfold ab at e ⊢;rw [aA h.avK];by_cases h0:n<0
 ·have es:bN n= -1:=by unfold bN;rw [yM h0]
  rw [es,MD h0] at e;rw [MD h0] at hl ⊢;have hc:ig (45::TT (-n) d) (some 1) (some ((TT (-n) d).length+1))=some (.str (TT (-n) d)):=by rw [ll (s:=45::TT (-n) d) (l:=1) (h:=(TT (-n) d).length+1) (by omega) (by simp)];simp
  simp only [go_sem,ya,Jm,e,show (-1:Int)<0 by decide,eF,eR,dH,hc]
 ·by_cases h1:n=0
  ·subst h1;have es:bN 0=0:=rfl;rw [es] at e;simp only [go_sem,ya,Jm,e,show ¬(0:Int)<0 by decide,yq,Int.neg_zero]
  ·have es:bN n=1:=by unfold bN;rw [yB h0,yB h1]
   rw [es] at e
   have:TT (-n) d=45::TT n d:=by rw [MD (by omega),tV]
   rw [this]
   simp only [go_sem,ya,Jm,e,show ¬(1:Int)<0 by decide,show ¬(1:Int)=0 by decide,gB (a:=[45]) (b:=TT n d) (by simp;omega),yY,xX]
end
def aaz (n:Int) (d:Nat):RP true n d= .ap [aa n,aa d,.bool true]:=rfl
def I0 {a b:Int} (ha:a.natAbs<1000000000) (hb:b.natAbs<1000000000):(a*b).natAbs<1000000000000000000:=by
 rw [Int.natAbs_mul];exact yA (tp ha hb) (by decide)
section
variable {P:aG} {L:Lib}
def acH (h:Rm P L) {a b:Int} (ha: -4000000000000000000<=a/\a<=4000000000000000000) (hb:0<b/\b<=4000000000000000000):ab P L 277 [aa a,aa b] (.str (RT (wy a b))):=by
 rw [aav hb.1];exact auK h.avI h.Tu h.nL ha hb
def M5 (h:Rp P L) {a:Rat} {K:Nat} (ka:Hq K a) (hK:K<=8000000000):∃q:Bool,ab P L 276 [.str (RT a)] (RP q a.num a.den)/\(q=true->a.num.natAbs<1000000000/\a.den<1000000000):=
 auL h.avM h.zy h.zA (n:=a.num) (d:=a.den) (by have:=AK ka;rw [IZ] at this;omega)
def oO (h:Rn P L) {a b:Rat} {K M:Nat} (ka:Hq K a) (kb:Hq M b) (hK:K+M<=8000000000):ab P L 267 [.str (RT a),.str (RT b)] (.str (RT (a*b))):=by
 obtain ⟨q1,e1,b1⟩:=M5 h.toRp ka (by omega);obtain ⟨q2,e2,b2⟩:=M5 h.toRp kb (by omega);have avX:=DP a b;by_cases hq:(q1=true/\q2=true)
 ·obtain ⟨rfl,rfl⟩:=hq;obtain ⟨b11,b12⟩:=b1 rfl;obtain ⟨b21,b22⟩:=b2 rfl;have p1:=I0 b11 b21;have p2:=I0 (a:=(a.den:Int)) (b:=(b.den:Int)) (by omega) (by omega);have e3:=acH h.toRm (a:=a.num*b.num) (b:=(a.den:Int)*b.den) (by omega) (by omega);rw [<-mul_eq] at e3;rw [aaz] at e1 e2;unfold ab at e1 e2 e3 ⊢;rw [aA h.ad9]
  simp only [go_sem,ya,Jl,e1,e2,wrap64 (n:=a.num*b.num) (by omega) (by omega),wrap64 (n:=(a.den:Int)*(b.den:Int)) (by omega) (by omega),e3]
 ·have bJ:∃n1 d1 n2 d2,bF P L (D P L) 276 [.str (RT a)]=some (.ap [aa n1,aa d1,.bool q1])/\bF P L (D P L) 276 [.str (RT b)]=some (.ap [aa n2,aa d2,.bool q2]):=by
   cases q1<;>cases q2<;>exact ⟨_,_,_,_,e1,e2⟩
  obtain ⟨n1,d1,n2,d2,e1,e2⟩:=bJ;obtain ⟨x,y,e3,hx,hy⟩:=EI h.toRm ka (by omega);obtain ⟨z,w,e4,hz,hw⟩:=EI h.toRm kb (by omega);have Fa:max K M<=8000000000:=by omega
  obtain ⟨r,e5,hr⟩:=JO (K:=max K M) h.JQ h.kU h.gR h.cG Fa hx hz (ka.1.mono (by omega)).r (kb.1.mono (by omega)).r;obtain ⟨s,e6,hs⟩:=JO (K:=max K M) h.JQ h.kU h.gR h.cG Fa hy hw (ka.2.mono (by omega)).r (kb.2.mono (by omega)).r;have e7:=SF h.toRm hK hr hs (ka.1.mul kb.1) (ka.2.mul kb.2) (by omega);rw [<-mul_eq] at e7;obtain ⟨xw,xl,rfl,dL,_,_,_⟩:=hx;obtain ⟨yw,yl,rfl,dM,_,_,_⟩:=hy;obtain ⟨zw,zl,rfl,ol,_,_,_⟩:=hz;obtain ⟨ww,wl,rfl,mI,_,_,_⟩:=hw;obtain ⟨et,rl,rfl,nY,_,_,_⟩:=hr;obtain ⟨sw,sl,rfl,fX,_,_,_⟩:=hs;have hb:¬(q1=true/\q2=true):=hq;unfold ab at e3 e4 e5 e6 e7 ⊢;rw [aA h.ad9]
  cases q1 with
  | false=>
   simp only [go_sem,ya,yc,Jl,aO,e1,e2,e3,e4,dL.pu,dL.ai,dL.one,dM.pu,dM.ai,dM.one,ol.pu,ol.ai,ol.one,mI.pu,mI.ai,mI.one,nY.ai,fX.ai,bw,bg,qP,eJ,nH,e5,e6,e7]
  | true=>
   cases q2 with
   | true=>exact absurd ⟨rfl,rfl⟩ hb
   | false=>
    simp only [go_sem,ya,yc,Jl,aO,e1,e2,e3,e4,dL.pu,dL.ai,dL.one,dM.pu,dM.ai,dM.one,ol.pu,ol.ai,ol.one,mI.pu,mI.ai,mI.one,nY.ai,fX.ai,bw,bg,qP,eJ,nH,e5,e6,e7]
def acI (h:Rp P L) {a b:Rat} {K M:Nat} (ka:Hq K a) (kb:Hq M b) (hK:K+M+1<=8000000000):ab P L 264 [.str (RT a),.str (RT b)] (.str (RT (a+b))):=by
 obtain ⟨q1,e1,b1⟩:=M5 h ka (by omega);obtain ⟨q2,e2,b2⟩:=M5 h kb (by omega);have avX:=DP a b;by_cases hq:(q1=true/\q2=true)
 ·obtain ⟨rfl,rfl⟩:=hq;obtain ⟨b11,b12⟩:=b1 rfl;obtain ⟨b21,b22⟩:=b2 rfl;have p1:=I0 (a:=a.num) (b:=(b.den:Int)) (by omega) (by omega);have p2:=I0 (a:=b.num) (b:=(a.den:Int)) (by omega) (by omega);have p3:=I0 (a:=(a.den:Int)) (b:=(b.den:Int)) (by omega) (by omega);have e3:=acH h.toRm (a:=a.num*b.den+b.num*a.den) (b:=(a.den:Int)*b.den) (by omega) (by omega);rw [<-add_eq] at e3;rw [aaz] at e1 e2;unfold ab at e1 e2 e3 ⊢;rw [aA h.ad8]
  simp only [go_sem,ya,Jk,e1,e2,wrap64 (n:=a.num*(b.den:Int)) (by omega) (by omega),wrap64 (n:=b.num*(a.den:Int)) (by omega) (by omega),wrap64 (n:=a.num*(b.den:Int)+b.num*(a.den:Int)) (by omega) (by omega),wrap64 (n:=(a.den:Int)*(b.den:Int)) (by omega) (by omega),e3]
 ·have bJ:∃n1 d1 n2 d2,bF P L (D P L) 276 [.str (RT a)]=some (.ap [aa n1,aa d1,.bool q1])/\bF P L (D P L) 276 [.str (RT b)]=some (.ap [aa n2,aa d2,.bool q2]):=by
   cases q1<;>cases q2<;>exact ⟨_,_,_,_,e1,e2⟩
  obtain ⟨n1,d1,n2,d2,e1,e2⟩:=bJ;obtain ⟨x,y,e3,hx,hy⟩:=EI h.toRm ka (by omega);obtain ⟨z,w,e4,hz,hw⟩:=EI h.toRm kb (by omega);have Fa:max K M<=8000000000:=by omega
  obtain ⟨r,e5,hr⟩:=JO (K:=max K M) h.JQ h.kU h.gR h.cG Fa hx hw (ka.1.mono (by omega)).r (kb.2.mono (by omega)).r;obtain ⟨r2,Wb,eE⟩:=JO (K:=max K M) h.JQ h.kU h.gR h.cG Fa hz hy (kb.1.mono (by omega)).r (ka.2.mono (by omega)).r;obtain ⟨s,e6,hs⟩:=JO (K:=max K M) h.JQ h.kU h.gR h.cG Fa hy hw (ka.2.mono (by omega)).r (kb.2.mono (by omega)).r;have k1:Bd (K+M) (a.num*b.den):=ka.1.mul kb.2;have k2:Bd (K+M) (b.num*a.den):=(kb.1.mul ka.2).mono (by omega);obtain ⟨t,e8,ht⟩:=avz (K:=K+M) h.avN h.Oh h.nQ h.Oi h.mA h.gR h.cG (by omega) hr eE k1.r k2.r;have e7:=SF h.toRm hK ht hs (k1.TL k2) ((ka.2.mul kb.2).mono (by omega)) (by omega);rw [<-add_eq] at e7;obtain ⟨xw,xl,rfl,dL,_,_,_⟩:=hx;obtain ⟨yw,yl,rfl,dM,_,_,_⟩:=hy;obtain ⟨zw,zl,rfl,ol,_,_,_⟩:=hz;obtain ⟨ww,wl,rfl,mI,_,_,_⟩:=hw;obtain ⟨et,rl,rfl,nY,_,_,_⟩:=hr
  obtain ⟨rw2,rl2,rfl,aed,_,_,_⟩:=eE;obtain ⟨tw,tl,rfl,htw,_,_,_⟩:=ht;obtain ⟨sw,sl,rfl,fX,_,_,_⟩:=hs;have hb:¬(q1=true/\q2=true):=hq;unfold ab at e3 e4 e5 Wb e6 e7 e8 ⊢;rw [aA h.ad8]
  cases q1 with
  | false=>
   simp only [go_sem,ya,yc,Jk,aO,e1,e2,e3,e4,dL.pu,dL.ai,dL.one,dM.pu,dM.ai,dM.one,ol.pu,ol.ai,ol.one,mI.pu,mI.ai,mI.one,nY.ai,aed.ai,htw.ai,fX.ai,bw,bg,qP,eJ,nH,e5,Wb,e8,e6,e7]
  | true=>
   cases q2 with
   | true=>exact absurd ⟨rfl,rfl⟩ hb
   | false=>
    simp only [go_sem,ya,yc,Jk,aO,e1,e2,e3,e4,dL.pu,dL.ai,dL.one,dM.pu,dM.ai,dM.one,ol.pu,ol.ai,ol.one,mI.pu,mI.ai,mI.one,nY.ai,aed.ai,htw.ai,fX.ai,bw,bg,qP,eJ,nH,e5,Wb,e8,e6,e7]
def CI (h:Rp P L) {a b:Rat} {K M:Nat} (ka:Hq K a) (kb:Hq M b) (hK:K+M+1<=8000000000):ab P L 271 [.str (RT a),.str (RT b)] (.str (RT (a-b))):=by
 have e1:=acG h kb (by omega);have e2:=acI h ka kb.neg hK;rw [<-Rat.sub_eq_add_neg] at e2;unfold ab at e1 e2 ⊢;rw [aA h.avL];simp only [go_sem,ya,Td,e1,e2]
def inv_divInt (a:Rat) (h:a≠0):a⁻¹=wy (a.den:Int) a.num:=by
 rw [Rat.inv_def]
def acJ (h:Rn P L) (zF:Has P L 283 CV) {a:Rat} {K:Nat} (ka:Hq K a) (hK:K<=8000000000) (h0:a≠0):ab P L 283 [.str (RT a)] (.str (RT a⁻¹)):=by
 obtain ⟨x,y,e3,hx,hy⟩:=EI h.toRm ka hK;have hn:a.num≠0:=fun e=>h0 (Rat.num_eq_zero.1 e)
 have e7:=SF h.toRm hK hy hx ka.2 ka.1 hn;rw [<-inv_divInt a h0] at e7;obtain ⟨xw,xl,rfl,dL,_,_,_⟩:=hx;obtain ⟨yw,yl,rfl,dM,_,_,_⟩:=hy;unfold ab at e3 e7 ⊢;rw [aA zF];simp only [go_sem,ya,yc,CV,aO,e3,dL.pu,dL.ai,dL.one,dM.pu,dM.ai,dM.one,bw,qP,eJ,nH,e7]
def atN (h:Rn P L) (Ui:Has P L 266 NG) (zF:Has P L 283 CV) {a b:Rat} {K M:Nat} (ka:Hq K a) (kb:Hq M b) (hK:K+M<=8000000000) (h0:b≠0):ab P L 266 [.str (RT a),.str (RT b)] (.str (RT (a/b))):=by
 have e1:=acJ h zF kb (by omega) h0;have e2:=oO h ka kb.inv hK;rw [<-Rat.div_def] at e2;unfold ab at e1 e2 ⊢;rw [aA Ui];simp only [go_sem,ya,NG,e1,e2]
def atO (h:Rx P L) {a b:Rat} {K M:Nat} (ka:Hq K a) (kb:Hq M b) (hK:K+M<=8000000000) (h0:b≠0):ab P L 266 [.str (RT a),.str (RT b)] (.str (RT (a/b))):=atN h.toRn h.Ui h.zF ka kb hK h0
end
def YH {P:aG} {L:Lib} (a b c d:VC) (s:St):D P L (.seq a (.seq b (.seq c d))) s=mR P L (D P L (.seq a (.seq b c)) s) d:=by
 have e:=B4 (P:=P) (L:=L) b c d;rw [iE,iE]
 cases D P L a s with
 | none=>rfl
 | some q=>
  obtain ⟨ex,st⟩:=q
  cases ex with
  | normal=>rw [fF,fF];exact e st
  | ret=>rfl
  | exit id=>rfl
def oI {a b:List Nat} (h:a≠b):cP a b=false:=by
 cases hb:cP a b with
 | false=>rfl
 | true=>exact absurd (QP hb) h
def ZH:∀a:List Nat,cP a a=true
 | []=>rfl
 | x::a=>by simp [cP,ZH a]
def abj {a b:List Nat} (h:a=b):cP a b=true:=h▸ZH a
def akh {s:List Nat} {i:Nat} (h:i<s.length):dc (s.drop i)=(yG 48 s[i]&&yG s[i] 57&&dc (s.drop (i+1))):=by
 rw [yO h];rfl
section
variable {P:aG} {L:Lib}
def avY (h:Has P L 287 Jq) {s:List Nat} (hl:s.length<9223372036854775808):ab P L 287 [.str s] (.bool (dc s)):=by
 have key:=iU (P:=P) (L:=L) (live:=[0,3]) (a:=Co)
  (I:=fun k st=>∃i:Nat,st=⟨[(0,.str s),(3,aa i)],[],0,0⟩/\i+k=s.length/\dc (s.drop i)=dc s)
  (Q:=fun ex st=>∃tm ct,st=⟨tm,[],ct,0⟩/\((ex= .ret/\aj tm 2= .bool false/\dc s=false)\/(ex= .exit 0/\dc s=true))) ?_
 ·unfold ab;rw [aA h];simp only [go_sem,Jq];generalize hq:D P L (.loop [0,3] Co) _=q;obtain ⟨ex,st,rfl,tm,ct,rfl,h2⟩:=bI hq (key s.length) ⟨0,by simp only [go_sem,ya,ax]<;>rfl,by omega,by simp⟩
  rcases h2 with ⟨rfl,h2,h3⟩ | ⟨rfl,h3⟩
  ·simp only [go_sem,h2,h3]
  ·simp only [go_sem,ax,h3]
 ·rintro k st ⟨i,rfl,hk,hs⟩;by_cases hi:i<s.length
  ·rw [akh hi] at hs;by_cases h1:s[i]<48
   ·right
    have e:yG 48 s[i]=false:=by
     cases hb:yG 48 s[i] with
     | false=>rfl
     | true=>have:=yr hb;omega
    rw [e,wN,wN] at hs;simp only [go_sem,ya,Co,show (i:Int)<s.length by omega,pT hi,show ((s[i]:Nat):Int)<48 by omega,yq];exact ⟨_,_,rfl,by simp,_,_,rfl,.inl ⟨rfl,by simp only [go_sem],hs.symm⟩⟩
   ·by_cases h2:57<s[i]
    ·right
     have e:yG s[i] 57=false:=by
      cases hb:yG s[i] 57 with
      | false=>rfl
      | true=>have:=yr hb;omega
     rw [e,Bool.and_false,wN] at hs;simp only [go_sem,ya,Co,show (i:Int)<s.length by omega,pT hi,show ¬((s[i]:Nat):Int)<48 by omega,yu,show (57:Int)<((s[i]:Nat):Int) by omega];exact ⟨_,_,rfl,by simp,_,_,rfl,.inl ⟨rfl,by simp only [go_sem],hs.symm⟩⟩
    ·left
     rw [yy (show 48<=s[i] by omega),yy (show s[i]<=57 by omega),wP,wP] at hs;simp only [go_sem,ya,Co,show (i:Int)<s.length by omega,pT hi,show ¬((s[i]:Nat):Int)<48 by omega,yu,show ¬(57:Int)<((s[i]:Nat):Int) by omega];refine ⟨_,k-1,rfl,by omega,i+1,?_,by omega,hs⟩;rw [wrap64 (by omega) (by omega)];simp only [go_sem,ya,ax]<;>rfl
  ·right
   simp only [go_sem,ya,Co,show ¬(i:Int)<s.length by omega];refine ⟨_,_,rfl,by simp,_,_,rfl,.inr ⟨rfl,?_⟩⟩;rw [<-hs,y5 (by omega)];rfl
def Om (h:Has P L 273 CT) (E9:Has P L 287 Jq) {s:List Nat} (hl:s.length<9223372036854775808):ab P L 273 [.str s] (.bool (dC s)):=by
 have e:=avY E9 hl;unfold ab at e ⊢;rw [aA h]
 match s,hl,e with
 | [],_,_=>
  simp only [go_sem,ya,CT,yI,show ((0:Nat):Int)=0 from rfl,yq];rfl
 | [b],_,e=>
  have:dC [b]=dc [b]:=by simp [dC]
  rw [this];simp only [go_sem,ya,CT,yv,yI,yf,show ¬((1:Nat):Int)=0 by decide,show ¬(1:Int)<((1:Nat):Int) by decide,yu,e]
 | b::c::r,hl,e=>
  have hd:dC (b::c::r)=(dc (b::c::r)&& !(yt b 48)):=by simp [dC]
  rw [hd];have zM:r.length+2<9223372036854775808:=by simpa using hl
  by_cases hb:b=48
  ·subst hb;simp only [go_sem,ya,CT,yv,show ¬((r.length+1+1:Nat):Int)=0 by omega,yu,show (1:Int)<((r.length+1+1:Nat):Int) by omega,show mP 0 (.str (48::c::r))=some (.int .u8 48) from rfl,yq]
   simp
  ·have:yt b 48=false:=cd hb
   rw [this,yP,vn];simp only [go_sem,ya,CT,yv,show ¬((r.length+1+1:Nat):Int)=0 by omega,yu,show (1:Int)<((r.length+1+1:Nat):Int) by omega,show mP 0 (.str (b::c::r))=some (.int .u8 (b:Nat)) from rfl,show ¬((b:Nat):Int)=48 by omega,e]
def ZI {s:List Nat} {k:Nat} (h:k<=s.length):ig s (some 0) (some k)=some (.str (s.take k)):=by
 rw [ll (by omega) h,yp]
def L3 {s:List Nat} {k:Nat} (h:k<=s.length):ig s (some k) (some s.length)=some (.str (s.drop k)):=by
 rw [ll h (yz _),xH]
def arP (h:Rm P L) {t:List Nat} {k:Nat} (hk:k=bH t) (hl:t.length<9223372036854775808) (hp:dC (t.take k)=true) {tm:Env} (t3:aj tm 3= .str t) (t4:aj tm 4=aa k):
  dV [.t 2] (D P L (aw (aw (aw (aw (aw dl.body))))) ⟨tm,[],0,0⟩)=some (aa (
   if k<t.length/\(dC (t.drop (k+1))=false\/t.drop (k+1)=[48]\/t.drop (k+1)=[49]) then 1
   else if 600<k\/600<t.length-k-1 then 4
   else if k<t.length/\wz (fo (t.take k)) (fo (t.drop (k+1)))≠1 then 1
   else 0)):=by
 have V2:k<=t.length:=by rw [hk];exact Hn t
 have e3:=Om h.Ol h.E9 (s:=t.drop (k+1)) (by rw [xN];omega);unfold ab at e3;have BR:(k:Int)+1=((k+1:Nat):Int):=rfl;by_cases hs:k<t.length
 ·have c2:=L3 (s:=t) (k:=k+1) (by omega);have j9:=WD t (by omega);rw [<-hk] at j9;have FY:(t.drop (k+1)).length=t.length-k-1:=by rw [xN];omega
  have hlp:(t.take k).length=k:=by rw [yT];omega
  generalize hqe:t.drop (k+1)=q at*
  generalize hpe:t.take k=p at*
  cases hd:dC q with
  | false=>
   rw [yM ⟨hs,.inl rfl⟩];rw [hd] at e3
   simp only [go_sem,ya,dl,aw,t3,t4,show (k:Int)<(t.length:Int) by omega,yq,BR,wrapN (n:=k+1) (by omega),eF,eR,dH,c2,e3,yP]
  | true=>
   rw [hd] at e3;by_cases jF:q=[48]
   ·rw [yM ⟨hs,.inr (.inl jF)⟩]
    simp only [go_sem,ya,dl,aw,t3,t4,show (k:Int)<(t.length:Int) by omega,yq,BR,wrapN (n:=k+1) (by omega),eF,eR,dH,c2,e3,yQ,jZ,abj jF]
   ·by_cases oe:q=[49]
    ·rw [yM ⟨hs,.inr (.inr oe)⟩]
     simp only [go_sem,ya,dl,aw,t3,t4,show (k:Int)<(t.length:Int) by omega,yq,BR,wrapN (n:=k+1) (by omega),eF,eR,dH,c2,e3,yQ,jZ,oI jF,abj oe]
    ·rw [yB (by simp only [hs,tJ,yaY,ycp];exact fun e=>e.elim jF oe)]
     by_cases Bq:600<k
     ·rw [yM (.inl Bq)]
      simp only [go_sem,ya,dl,aw,t3,t4,show (k:Int)<(t.length:Int) by omega,yq,BR,wrapN (n:=k+1) (by omega),eF,eR,dH,c2,e3,yQ,jZ,oI jF,oI oe,show (600:Int)<(k:Int) by omega]
     ·by_cases avZ:600<t.length-k-1
      ·rw [yM (.inr avZ)]
       simp only [go_sem,ya,dl,aw,t3,t4,show (k:Int)<(t.length:Int) by omega,yq,BR,wrapN (n:=k+1) (by omega),eF,eR,dH,c2,e3,yQ,jZ,oI jF,oI oe,show ¬(600:Int)<(k:Int) by omega,yu,show (t.length:Int)-(k:Int)=((t.length-k:Nat):Int) by omega,wrapN (n:=t.length-k) (by omega),show ((t.length-k:Nat):Int)-1=((t.length-k-1:Nat):Int) by omega,wrapN (n:=t.length-k-1) (by omega),show (600:Int)<((t.length-k-1:Nat):Int) by omega]
      ·rw [yB (by omega)];have qG:=DY _ rfl hp;have oh:=DY _ rfl hd;have fW:fo q≠0:=fun e=>jF (by rw [<-oh,e];rfl)
       have kF:fo q≠1:=fun e=>oe (by rw [<-oh,e];rfl)
       generalize fo p=n at*
       generalize fo q=d at*
       have hT:TT (n:Int) d=t:=by
        unfold TT;rw [jX,yB kF,qG,oh];exact j9.symm
       obtain ⟨x,y,e4,hx,hy⟩:=aec h.toRb (n:=(n:Int)) (d:=d) (by rw [xq,qG];omega) (by rw [oh];omega);rw [hT] at e4;obtain ⟨xw,xl,rfl,dL,dx,nx,vx⟩:=hx;obtain ⟨yw,yl,rfl,dM,dy,ny,vy⟩:=hy;rw [xq] at vx vy;have px:n<10^p.length:=by rw [<-qG];exact HQ n
       have hdb:d<10^q.length:=by rw [<-oh];exact HQ d
       obtain ⟨K,hK⟩:∃K:Nat,K=600:=⟨_,rfl⟩;have O8:∀{m j:Nat},m<10^j->j<=K->m<1000000000^K:=fun {m j} h1 h2=>
        yA h1 (xg (yV (by decide) h2) (vm (by decide) K))
       have lxl:=hZ dx nx (by rw [vx];exact O8 px (by omega))
       have lyl:=hZ dy ny (by rw [vy];exact O8 hdb (by omega))
       obtain ⟨g,lg,e5,hg,dgg,ngg,vg⟩:=acD h.ad4 h.JP h.kU h.nQ h.oW h.cG h.qd dL dM dx dy nx ny (by omega) (by omega);rw [vx,vy] at vg;have Kd:0<wz n d:=Nat.gcd_pos_of_pos_right _ (by omega);unfold ab at e4 e5;by_cases Uj:lg.length=1
       ·obtain ⟨z,rfl⟩:∃z,lg=[z]:=by
         cases lg with
         | nil=>simp at Uj
         | cons z r=>cases r with
          | nil=>exact ⟨z,rfl⟩
          | cons y r=>simp at Uj
        have gz:=jH.1 dgg;have KN:z=(wz n d:Nat):=by simp [dv] at vg;omega
        have e8:=hg.bn (i:=0) (by simp);simp only [vV] at e8;by_cases ik:wz n d=1
        ·rw [yB (by simp [ik])]
         simp only [go_sem,ya,yc,dl,aw,t3,t4,show (k:Int)<(t.length:Int) by omega,yq,BR,wrapN (n:=k+1) (by omega),eF,eR,dH,c2,e3,yQ,jZ,oI jF,oI oe,show ¬(600:Int)<(k:Int) by omega,yu,show (t.length:Int)-(k:Int)=((t.length-k:Nat):Int) by omega,wrapN (n:=t.length-k) (by omega),show ((t.length-k:Nat):Int)-1=((t.length-k-1:Nat):Int) by omega,wrapN (n:=t.length-k-1) (by omega),show ¬(600:Int)<((t.length-k-1:Nat):Int) by omega,e4,aO,dL.pu,dL.ai,dL.one,dM.pu,dM.ai,dM.one,eJ,bq,yf,cm,e5,hg.len,hg.shut,yv,yI,show ((1:Nat):Int)=(1:Int) from rfl,yQ,e8,KN,ik]
        ·rw [yM ⟨hs,ik⟩]
         simp only [go_sem,ya,yc,dl,aw,t3,t4,show (k:Int)<(t.length:Int) by omega,yq,BR,wrapN (n:=k+1) (by omega),eF,eR,dH,c2,e3,yQ,jZ,oI jF,oI oe,show ¬(600:Int)<(k:Int) by omega,yu,show (t.length:Int)-(k:Int)=((t.length-k:Nat):Int) by omega,wrapN (n:=t.length-k) (by omega),show ((t.length-k:Nat):Int)-1=((t.length-k-1:Nat):Int) by omega,wrapN (n:=t.length-k-1) (by omega),show ¬(600:Int)<((t.length-k-1:Nat):Int) by omega,e4,aO,dL.pu,dL.ai,dL.one,dM.pu,dM.ai,dM.one,eJ,bq,yf,cm,e5,hg.len,hg.shut,yv,yI,show ((1:Nat):Int)=(1:Int) from rfl,yQ,e8,KN,show ¬((wz n d:Nat):Int)=1 by omega,yP]
       ·have ik:wz n d≠1:=fun e=>Uj (by
         have h1:lg.length<=1:=Rk dgg ngg (by omega);have h2:0<lg.length:=by
          rcases xn lg.length with h0 | h0
          ·rw [yJ h0] at vg;simp [dv] at vg;omega
          ·exact h0
         omega)
        rw [yM ⟨hs,ik⟩]
        simp only [go_sem,ya,yc,dl,aw,t3,t4,show (k:Int)<(t.length:Int) by omega,yq,BR,wrapN (n:=k+1) (by omega),eF,eR,dH,c2,e3,yQ,jZ,oI jF,oI oe,show ¬(600:Int)<(k:Int) by omega,yu,show (t.length:Int)-(k:Int)=((t.length-k:Nat):Int) by omega,wrapN (n:=t.length-k) (by omega),show ((t.length-k:Nat):Int)-1=((t.length-k-1:Nat):Int) by omega,wrapN (n:=t.length-k-1) (by omega),show ¬(600:Int)<((t.length-k-1:Nat):Int) by omega,e4,aO,dL.pu,dL.ai,dL.one,dM.pu,dM.ai,dM.one,eJ,bq,yf,cm,e5,hg.len,hg.shut,show ¬(lg.length:Int)=1 by omega,yP]
 ·have hkt:k=t.length:=by omega
  rw [yB (by omega)];by_cases Bq:600<k
  ·rw [yM (.inl Bq)];simp only [go_sem,ya,dl,aw,t3,t4,show ¬(k:Int)<(t.length:Int) by omega,yu,show (600:Int)<(k:Int) by omega,yq]
  ·rw [yB (by omega),yB (by omega)]
   simp only [go_sem,ya,dl,aw,t3,t4,show ¬(k:Int)<(t.length:Int) by omega,yu,show ¬(600:Int)<(k:Int) by omega,show (t.length:Int)-(k:Int)=((t.length-k:Nat):Int) by omega,wrapN (n:=t.length-k) (by omega),show ((t.length-k:Nat):Int)-1= -1 by omega,show IntKind.wrap .i64 (-1)= -1 by rfl,show ¬(600:Int)<(-1:Int) by omega]
def abk (h:Rm P L) {b:Nat} {r:List Nat} {t:List Nat} {neg:Bool} (eM:decide (((b:Nat):Int)=45)=neg) (hl:t.length<9223372036854775808) {tm:Env} (t0:aj tm 0= .str (b::r)) (t3:aj tm 3= .str t):
  dV [.t 2] (D P L (aw (aw (aw dl.body))) ⟨tm,[],0,0⟩)=some (aa (mz neg t)):=by
 obtain ⟨k,hk⟩:∃k,k=bH t:=⟨_,rfl⟩;have V2:k<=t.length:=by rw [hk];exact Hn t
 have e1:=C0 h.zy (s:=t) (by omega);have e2:=Om h.Ol h.E9 (s:=t.take k) (by rw [yT];omega);have e3:=Om h.Ol h.E9 (s:=t.drop (k+1)) (by rw [xN];omega);unfold mz;rw [<-hk] at e1 ⊢;have c1:=ZI V2;have hI:mP 0 (.str (b::r))=some (.int .u8 (b:Nat)):=rfl;unfold ab at e1 e2 e3;generalize hp:t.take k=p at*
 generalize hq:t.drop (k+1)=q at*
 cases hd:dC p with
 | false=>
  rw [yM (.inl rfl)];rw [hd] at e2;simp only [go_sem,ya,dl,aw,t3,e1,eF,eR,dH,c1,e2,yP]
 | true=>
  rw [hd] at e2;by_cases hz:neg=true/\p=[48]
  ·rw [yM (.inr hz)];obtain ⟨z1,z2⟩:=hz;rw [z1] at eM;have hb:=of_decide_eq_true eM;subst z2;simp only [go_sem,ya,dl,aw,t0,t3,e1,eF,eR,dH,c1,e2,yQ,hI,hb,yq,jZ,show cP [48] [48]=true from rfl]
  ·rw [yB (by simp only [yaY,ycp];exact hz)]
   have fin:∀tm',aj tm' 3= .str t->aj tm' 4=aa k->D P L (.seq (a6 (aw (aw (aw dl.body)))) (a6 (aw (aw (aw (aw dl.body)))))) ⟨tm,[],0,0⟩=some (.normal,⟨tm',[],0,0⟩)->dV [.t 2] (D P L (aw (aw (aw dl.body))) ⟨tm,[],0,0⟩)=some (aa (
     if k<t.length/\(dC q=false\/q=[48]\/q=[49]) then 1
     else if 600<k\/600<t.length-k-1 then 4
     else if k<t.length/\wz (fo p) (fo q)≠1 then 1
     else 0)):=fun tm' f3 f4 e=>by
    show dV [.t 2] (D P L (.seq (a6 (aw (aw (aw dl.body)))) (.seq (a6 (aw (aw (aw (aw dl.body))))) (aw (aw (aw (aw (aw dl.body))))))) ⟨tm,[],0,0⟩)=_
    rw [B4,e,fF,<-hp,<-hq];exact arP h hk hl (by rw [hp];exact hd) f3 f4
   by_cases hb:((b:Nat):Int)=45
   ·have av0:p≠[48]:=fun e=>hz ⟨by rw [<-eM];exact xp hb,e⟩
    refine fin _ ?_ ?_ (by simp only [go_sem,ya,dl,a6,aw,t0,t3,e1,eF,eR,dH,c1,e2,yQ,hI,hb,yq,jZ,oI av0]<;>rfl)<;>simp only [go_sem,ya,t3]
   ·refine fin _ ?_ ?_ (by simp only [go_sem,ya,dl,a6,aw,t0,t3,e1,eF,eR,dH,c1,e2,yQ,hI,hb,yu]<;>rfl)<;>simp only [go_sem,ya,t3]
def aee (h:Rm P L) {s:List Nat} (hl:s.length<9223372036854775808):ab P L 263 [.str s] (aa (cr s)):=by
 unfold ab;rw [aA h.avR]
 cases s with
 | nil=>
  have e1:=C0 h.zy (s:=[]) (by simp);have e2:=Om h.Ol h.E9 (s:=[]) (by simp);unfold ab at e1 e2;have hc:ig [] (some 0) (some 0)=some (.str []):=rfl;simp only [go_sem,ya,dl,yI,show ¬(0:Int)<((0:Nat):Int) by decide,yu,e1,bH,eF,eR,dH,hc,e2,show dC []=false from rfl,yP];rfl
 | cons b t=>
  have zM:t.length+1<9223372036854775808:=by simpa using hl
  have hI:mP 0 (.str (b::t))=some (.int .u8 (b:Nat)):=rfl;by_cases hb:b=45
  ·subst hb;have fin:∀tm',aj tm' 0= .str (45::t)->aj tm' 3= .str t->D P L (.seq (a6 dl.body) (.seq (a6 (aw dl.body)) (a6 (aw (aw dl.body))))) ⟨[(0,.str (45::t))],[],0,0⟩=some (.normal,⟨tm',[],0,0⟩)->dV [.t 2] (D P L dl.body ⟨[(0,.str (45::t))],[],0,0⟩)=some (aa (cr (45::t))):=fun tm' f0 f3 e=>by
    show dV [.t 2] (D P L (.seq (a6 dl.body) (.seq (a6 (aw dl.body)) (.seq (a6 (aw (aw dl.body))) (aw (aw (aw dl.body)))))) ⟨[(0,.str (45::t))],[],0,0⟩)=_
    rw [YH,e,fF]
    exact abk h (b:=45) rfl (by omega) f0 f3
   have hc:ig (45::t) (some 1) (some (t.length+1))=some (.str t):=by
    have:=L3 (s:=45::t) (k:=1) (by simp)
    simpa using this
   refine fin _ ?_ ?_ (by simp only [go_sem,ya,dl,a6,aw,yv,show (0:Int)<((t.length+1:Nat):Int) by omega,yq,C1,eF,eR,dH,hc]<;>rfl)<;>simp only [go_sem,ya]
  ·have fin:∀tm',aj tm' 0= .str (b::t)->aj tm' 3= .str (b::t)->D P L (.seq (a6 dl.body) (.seq (a6 (aw dl.body)) (a6 (aw (aw dl.body))))) ⟨[(0,.str (b::t))],[],0,0⟩=some (.normal,⟨tm',[],0,0⟩)->dV [.t 2] (D P L dl.body ⟨[(0,.str (b::t))],[],0,0⟩)=some (aa (cr (b::t))):=fun tm' f0 f3 e=>by
    show dV [.t 2] (D P L (.seq (a6 dl.body) (.seq (a6 (aw dl.body)) (.seq (a6 (aw (aw dl.body))) (aw (aw (aw dl.body)))))) ⟨[(0,.str (b::t))],[],0,0⟩)=_
    rw [YH,e,fF]
    have:=abk h (b:=b) (neg:=false) (yX (by omega)) (by simpa using hl) f0 f3
    rw [this];simp only [cr,yB hb]
   refine fin _ ?_ ?_ (by simp only [go_sem,ya,dl,a6,aw,yv,show (0:Int)<((t.length+1:Nat):Int) by omega,yq,hI,show ¬((b:Nat):Int)=45 by omega]<;>rfl)<;>simp only [go_sem,ya]
end
def sF (v:AV) (l:List (List Nat)):Prop:=cE v (l.map AV.str)
section
variable {v:AV} {l:List (List Nat)}
def sF.len (h:sF v l) {hp:Hp}:jv hp 1 v=some (.int .i64 (l.length:Nat)):=by
 have:=cE.len (hp:=hp) h
 grind
def sF.pu (h:sF v l):aV v=true:=cE.pu h
def sF.bn (h:sF v l) {i:Nat} (hi:i<l.length):ju 1 i v=some (.aJ (.str l[i]::(l.map AV.str).drop (i+1))):=by
 have:=cE.bn h (i:=i) (by simpa using hi)
 grind
def aaA (e:Bool) (l:List (List Nat)):sF (.aC e l.length (l.map AV.str)) l:=by
 have:=Ca e (l.map AV.str)
 rwa [xo] at this
end
section
variable {P:aG} {L:Lib}
def ao5 (h:Rm P L) {a:Rat} {K:Nat} (ka:Hq K a) (hK:K<=4000000000):bF P L (D P L) 284 [.str (RT a)]=some (.str (aT a.num))/\bF P L (D P L) 285 [.str (aT a.num)]=some (.str (aq a.num.natAbs))/\bF P L (D P L) 286 [.str (RT a)]=some (.str (aq a.den)):=by
 have hl:=AK ka;have e0:=C0 h.zy (s:=RT a) (by omega);have lL:bH (RT a)=(aT a.num).length/\(RT a).take (aT a.num).length=aT a.num:=by
  unfold RT;by_cases hd:a.den=1
  ·rw [yM hd,xW]
   have:=DQ a.num []
   rw [xW] at this;exact ⟨by rw [this];simp [bH],xH⟩
  ·rw [yB hd];exact ⟨by rw [DQ];simp [bH],tc⟩
 obtain ⟨ef,r5⟩:=lL;rw [ef] at e0;have hlen:(aT a.num).length<=(RT a).length:=by unfold RT;simp
 have e1:bF P L (D P L) 284 [.str (RT a)]=some (.str (aT a.num)):=by
  rw [aA h.avS]
  have:=ZI (s:=RT a) hlen
  simp only [go_sem,ya,Tf,e0,eF,eR,dH,this,r5]
 have hT:aT a.num=TT a.num 1:=by unfold TT;simp
 have e2:bF P L (D P L) 285 [.str (aT a.num)]=some (.str (aq a.num.natAbs)):=by
  have e:=acF h (n:=a.num) (d:=1) (by rw [<-hT];omega) (fun _=>rfl);rw [<-hT] at e;rw [aA h.avT];by_cases h0:a.num<0
  ·have es:bN a.num= -1:=by unfold bN;rw [yM h0]
   rw [es] at e;rw [lW h0] at e ⊢;have hc:=L3 (s:=45::aq a.num.natAbs) (k:=1) (by simp);simp only [List.drop_succ_cons,yp,yv] at hc;simp only [go_sem,ya,NL,e,show (-1:Int)<0 by decide,eF,eR,dH,hc]
  ·have es:¬bN a.num<0:=by unfold bN;rw [yB h0];split<;>decide
   have hi:aT a.num=aq a.num.natAbs:=by
    obtain ⟨m,hm⟩:∃m:Nat,a.num=m:=⟨a.num.toNat,by omega⟩;rw [hm,jX,xq]
   simp only [go_sem,ya,NL,e,es];rw [hi]
 have e3:bF P L (D P L) 286 [.str (RT a)]=some (.str (aq a.den)):=by
  rw [aA h.avU];by_cases hd:a.den=1
  ·have hR:(RT a).length=(aT a.num).length:=by unfold RT;rw [yM hd];simp
   rw [hd,show aq 1=[49] by decide];simp only [go_sem,ya,NM,e0,show ((aT a.num).length:Int)=((RT a).length:Int) by omega,yq]
  ·have hR:RT a=(aT a.num++[47])++aq a.den:=by unfold RT;rw [yB hd];simp
   have hRl:(RT a).length=(aT a.num).length+1+(aq a.den).length:=by rw [hR];simp;omega
   have hc:=L3 (s:=RT a) (k:=(aT a.num).length+1) (by omega);have ir:(RT a).drop ((aT a.num).length+1)=aq a.den:=by
    rw [hR,show (aT a.num).length+1=(aT a.num++[47]).length by simp,td]
   rw [ir] at hc
   simp only [go_sem,ya,NM,e0,show ¬((aT a.num).length:Int)=((RT a).length:Int) by omega,show ((aT a.num).length:Int)+1=(((aT a.num).length+1:Nat):Int) from rfl,wrapN (n:=(aT a.num).length+1) (by omega),eF,eR,dH,hc]
 exact ⟨e1,e2,e3⟩
def acK (h:Rl P L) {a:Rat} {K:Nat} (ka:Hq K a) (hK:K<=4000000000):ab P L 269 [.str (RT a)] (aa (if LG a=true then 4 else 0)):=by
 obtain ⟨e1,e2,e3⟩:=ao5 h.toRm ka hK;unfold ab;rw [aA h.avV];unfold LG LN;rw [xq];by_cases h1:600<(aq a.num.natAbs).length
 ·rw [xp h1,tZ,yM rfl];simp only [go_sem,ya,Jn,e1,e2,show (600:Int)<((aq a.num.natAbs).length:Int) by omega,yq]
 ·by_cases h2:600<(aq a.den).length
  ·rw [xp h2,Bool.or_true,yM rfl];simp only [go_sem,ya,Jn,e1,e2,show ¬(600:Int)<((aq a.num.natAbs).length:Int) by omega,yu,e3,show (600:Int)<((aq a.den).length:Int) by omega]
  ·rw [yX h1,yX h2,Bool.or_self,yB (by decide)];simp only [go_sem,ya,Jn,e1,e2,show ¬(600:Int)<((aq a.num.natAbs).length:Int) by omega,yu,e3,show ¬(600:Int)<((aq a.den).length:Int) by omega]
def rn (l:List (List Nat)):Bool:=l.all fun s=>decide (s.length<=40)
def aio {l:List (List Nat)} {i:Nat} (h:i<l.length):rn (l.drop i)=(decide (l[i].length<=40)&&rn (l.drop (i+1))):=by
 rw [yO h];rfl
def aki {l:List (List Nat)} {i:Nat} (h:i<l.length):bX ((l.drop i).map cr)=if cr l[i]=0 then bX ((l.drop (i+1)).map cr) else cr l[i]:=by
 rw [yO h];rfl
def av1 (h:Has P L 305 NP) {v:AV} {l:List (List Nat)} (hv:sF v l) (hl:l.length<=1000000) (hs:∀s,s∈l->s.length<9223372036854775808):ab P L 305 [v] (.bool (rn l)):=by
 have key:=iU (P:=P) (L:=L) (live:=[0,3]) (a:=El)
  (I:=fun k st=>∃i:Nat,st=⟨[(0,v),(3,aa i)],[],0,0⟩/\i+k=l.length/\rn (l.drop i)=rn l)
  (Q:=fun ex st=>∃tm ct,st=⟨tm,[],ct,0⟩/\((ex= .ret/\aj tm 2= .bool false/\rn l=false)\/(ex= .exit 0/\rn l=true))) ?_
 ·unfold ab;rw [aA h];simp only [go_sem,NP];generalize hq:D P L (.loop [0,3] El) _=q;obtain ⟨ex,st,rfl,tm,ct,rfl,h2⟩:=bI hq (key l.length) ⟨0,by simp only [go_sem,ya,ax,aE hv.pu,aH _ hv.pu]<;>rfl,by omega,by simp⟩
  rcases h2 with ⟨rfl,h2,h3⟩ | ⟨rfl,h3⟩
  ·simp only [go_sem,h2,h3]
  ·simp only [go_sem,ax,h3]
 ·rintro k st ⟨i,rfl,hk,hd⟩;by_cases hi:i<l.length
  ·rw [aio hi] at hd;have ev:=hv.bn hi;by_cases h1:l[i].length<=40
   ·left
    rw [xp h1,wP] at hd;simp only [go_sem,ya,El,hv.len,show (i:Int)<l.length by omega,ev,show ¬(40:Int)<(l[i].length:Int) by omega];refine ⟨_,k-1,rfl,by omega,i+1,?_,by omega,hd⟩;rw [wrap64 (by omega) (by omega)];simp only [go_sem,ya,ax,aE hv.pu,aH _ hv.pu]<;>rfl
   ·right
    rw [yX h1,wN] at hd;simp only [go_sem,ya,El,hv.len,show (i:Int)<l.length by omega,ev,show (40:Int)<(l[i].length:Int) by omega];exact ⟨_,_,rfl,by simp,_,_,rfl,.inl ⟨rfl,by simp only [go_sem],hd.symm⟩⟩
  ·right
   simp only [go_sem,ya,El,hv.len,show ¬(i:Int)<l.length by omega];refine ⟨_,_,rfl,by simp,_,_,rfl,.inr ⟨rfl,?_⟩⟩;rw [<-hd,y5 (by omega)];rfl
def atP (h:Rm P L) (C9:Has P L 261 EX) {v:AV} {l:List (List Nat)} (hv:sF v l) (hl:l.length<=1000000) (hs:∀s,s∈l->s.length<9223372036854775808):ab P L 261 [v] (aa (bX (l.map cr))):=by
 have key:=iU (P:=P) (L:=L) (live:=[0,3]) (a:=Ei)
  (I:=fun k st=>∃i:Nat,st=⟨[(0,v),(3,aa i)],[],0,0⟩/\i+k=l.length/\bX ((l.drop i).map cr)=bX (l.map cr))
  (Q:=fun ex st=>∃tm ct,st=⟨tm,[],ct,0⟩/\((ex= .ret/\aj tm 2=aa (bX (l.map cr)))\/(ex= .exit 0/\bX (l.map cr)=0))) ?_
 ·unfold ab;rw [aA C9];simp only [go_sem,EX];generalize hq:D P L (.loop [0,3] Ei) _=q;obtain ⟨ex,st,rfl,tm,ct,rfl,h2⟩:=bI hq (key l.length) ⟨0,by simp only [go_sem,ya,ax,aE hv.pu,aH _ hv.pu]<;>rfl,by omega,by simp⟩
  rcases h2 with ⟨rfl,h2⟩ | ⟨rfl,h3⟩
  ·simp only [go_sem,h2]
  ·simp only [go_sem,ax,h3]
 ·rintro k st ⟨i,rfl,hk,hd⟩;by_cases hi:i<l.length
  ·rw [aki hi] at hd;have e1:=aee h (hs l[i] (List.getElem_mem hi));have ev:=hv.bn hi;unfold ab at e1;by_cases h1:cr l[i]=0
   ·left
    rw [yM h1] at hd;rw [h1] at e1;simp only [go_sem,ya,Ei,hv.len,show (i:Int)<l.length by omega,ev,e1,yq,yQ];refine ⟨_,k-1,rfl,by omega,i+1,?_,by omega,hd⟩;rw [wrap64 (by omega) (by omega)];simp only [go_sem,ya,ax,aE hv.pu,aH _ hv.pu]<;>rfl
   ·right
    rw [yB h1] at hd;simp only [go_sem,ya,Ei,hv.len,show (i:Int)<l.length by omega,ev,e1,h1,yu,yP];refine ⟨_,_,rfl,by simp,_,_,rfl,.inl ⟨rfl,?_⟩⟩;rw [<-hd];simp only [go_sem]
  ·right
   simp only [go_sem,ya,Ei,hv.len,show ¬(i:Int)<l.length by omega];refine ⟨_,_,rfl,by simp,_,_,rfl,.inr ⟨rfl,?_⟩⟩;rw [<-hd,y5 (by omega)];rfl
def atQ (h:Rm P L) (C9:Has P L 261 EX) {v:AV} {l:List (List Nat)} (hv:sF v l) (hl:l.length<=1000000) (hs:∀s,s∈l->s.length<=1000000000):ab P L 261 [v] (aa (bX (l.map cr))):=atP h C9 hv hl (fun s h=>by have:=hs s h;omega)
end
section
open Go (IntKind)
open Classical in
noncomputable def cW (s:List Nat):Rat:=if h:cr s=0 then Classical.choose (ary h) else 0
def B5 {s:List Nat} (h:cr s=0):s=RT (cW s)/\(aq (cW s).num.natAbs).length<=600/\(aq (cW s).den).length<=600:=by
 unfold cW
 grind
def LD {z:Int} {k M:Nat} (h:(aq z.natAbs).length<=k) (hM:4*k<=M):Bd M z:=by
 have h1:=HQ z.natAbs;have h2:=HS (aq z.natAbs).length;have h3:(2:Nat)^(4*(aq z.natAbs).length)<=2^M:=yV (by decide) (by omega);exact yA h1 (xg h2 h3)
def D8 {s:List Nat} (h:cr s=0) {M:Nat} (hM:2400<=M):Hq M (cW s):=by
 obtain ⟨_,h1,h2⟩:=B5 h
 exact ⟨LD h1 (by omega),LD (z:=((cW s).den:Int)) (by rw [xq];exact h2) (by omega)⟩
abbrev mJ (x y:List Nat):AV:= .agg [.str x,.str y]
abbrev Wc (a b:Rat):AV:= .agg [.str (RT a),.str (RT b)]
instance (k:Nat) (z:Int):Decidable (Bd k z):=inferInstanceAs (Decidable (z.natAbs<2^k))
def aef:RT 1=[49]:=by decide
def eK:Rat:=⟨1,2,by decide,by decide⟩
def aeg:RT eK=[49,47,50]:=by decide
def Uk:Hq 2 0:=⟨by decide,by decide⟩
def rL:Hq 2 1:=⟨by decide,by decide⟩
def Ul:Hq 2 eK:=⟨by decide,by decide⟩
section
variable {P:aG} {L:Lib}
def JR (h:Rp P L) (Da:Has P L 315 NR) {a b:Rat} {K M:Nat} (ka:Hq K a) (kb:Hq M b) (hK:K+M+1<=8000000000):ab P L 315 [.str (RT a),.str (RT b)] (aa (bN (a-b).num)):=by
 have e1:=CI h ka kb hK;have e2:=M4 h.toRm (ka.sub kb) hK;unfold ab at e1 e2 ⊢;rw [aA Da];simp only [go_sem,ya,NR,e1,e2]
def av2 (h:Rn P L) (Um:Has P L 319 NS) {a:Rat} {K:Nat} (ka:Hq K a) (hK:K+2<=8000000000):ab P L 319 [.str (RT a)] (.str (RT (a*eK))):=by
 have e1:=oO h ka Ul hK;rw [aeg] at e1;unfold ab at e1 ⊢;rw [aA Um];simp only [go_sem,ya,NS,e1]
end
end
end VE
