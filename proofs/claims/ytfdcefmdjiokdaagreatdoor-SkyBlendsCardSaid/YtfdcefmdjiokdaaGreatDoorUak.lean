import Derived.Test.YtfdcefmdjiokdaaGreatDoorUai
import Derived.Test.YtfdcefmdjiokdaaGreatDoorUad
import Derived.Test.YtfdcefmdjiokdaaGreatDoorUah
import Derived.Test.YtfdcefmdjiokdaaGreatDoorUaf
set_option linter.all false
set_option maxRecDepth 100000
open Bool renaming and_eq_true→yg,and_self→wM,and_true→vR,false_and→wB,false_eq_true→yD,false_or→uA,not_false→yU,not_true→yT,true_and→wF,true_eq_false→ybi,true_or→ybD
open Go renaming DataW→xM,Field→tq,FloatKind→uk,IntKind→y8,MemPlace→wE,Program→y5,TypeId→yC,Value→yh,World→yi
open Int renaming gcd→wT,le_of_lt→tc,mul_add→ycZ,mul_le_mul→yco,mul_le_mul_of_nonneg_left→uf,mul_neg→ycY,mul_nonneg→tz,natAbs_ediv_le_natAbs→yay,natAbs_ediv_of_dvd→uJ,natAbs_natCast→xq,natCast_add→ybY,natCast_ediv→ybP,natCast_mul→wN,natCast_nonneg→yai,neg_neg→yae,ofNat_eq_natCast→yaX,ofNat_lt→ta,pow_pos→yda,pow_succ→tP,tdiv_eq_ediv_of_nonneg→xJ,tmod_eq_emod_of_nonneg→xr,toNat_natCast→wo,toNat_of_nonneg→ybh
open Int.ofNat renaming inj→tY
open List renaming append_assoc→xt,append_nil→xX,cons_append→yX,drop→vL,drop_drop→ub,drop_eq_getElem_cons→yP,drop_eq_nil_of_le→y9,drop_left→tv,drop_zero→yo,eq_nil_of_length_eq_zero→yH,flatMap_def→ybG,getD_eq_getElem?_getD→xx,getElem?_eq_getElem→xW,getElem_cons_zero→uT,length_append→yR,length_cons→yz,length_drop→xO,length_map→xo,length_nil→yK,length_pos_iff→vQ,length_take→yO,mapM_cons→uD,map_append→xC,map_cons→xm,map_nil→vA,mem_cons→wA,mem_cons_of_mem→wS,mem_cons_self→vH,mem_map→uS,nil_append→xY,replicate→yy,set_eq_of_length_le→yav,take_append_drop→wa,take_left→tu,take_length→xK,take_of_length_le→yM,take_set→yax,take_succ_eq_append_getElem→wK
open List.cons renaming injEq→vW
open Nat renaming add_comm→tx,add_mul→wh,add_zero→yW,beq→yr,ble→yF,ble_eq_true_of_le→yv,blt→yJ,div_add_mod→xV,div_eq_of_lt→xP,div_le_self→wV,div_lt_iff_lt_mul→wz,eq_of_beq_eq_true→yj,eq_zero_or_pos→xi,gcd→wD,gcd_comm→tH,le_of_ble_eq_true→yq,le_of_lt_succ→yas,le_refl→yA,le_trans→xg,lt_of_le_of_lt→we,lt_of_lt_of_le→yu,min_eq_left→xF,mod_add_div→uL,mod_eq_of_lt→yL,mod_lt→xE,mul_add→xB,mul_add_div→yaP,mul_assoc→xp,mul_comm→xy,mul_le_mul→wW,mul_le_mul_left→yS,mul_le_mul_right→yQ,mul_lt_mul''→uQ,mul_lt_mul_of_pos_right→xS,mul_one→yk,mul_pos→vK,mul_zero→xD,not_lt_zero→tn,one_lt_two_pow→wO,pow_add→xL,pow_le_pow_left→vn,pow_le_pow_right→yV,pow_lt_pow_iff_right→yaz,pow_mul→yad,pow_pos→yaG,pow_succ→y7,reduceAdd→yd,reduceEqDiff→ya,reduceLT→yI,reduceLeDiff→yp,reduceMul→xQ,zero_add→yf
open Option renaming bind_eq_bind→vJ,bind_some→xZ,map_eq_some_iff→wI,pure_def→wQ
open Option.some renaming injEq→yb
open Prod.mk renaming injEq→ym
open Rat renaming den_intCast→wY,divInt→wi,floor_def→uO,num_intCast→wX
namespace VE
open Go (IntKind)
def agV:∀(cs:List AV) (l:List Nat),qS cs=some l->cs=l.map uc/\lo 18446744073709551616 l:=by
 intro cs
 induction cs with
 | nil=>
  intro l h;simp only [qS,yb] at h;subst h;exact ⟨rfl,fun _ h=>by cases h⟩
 | cons c cs ih=>
  intro l h;unfold qS at h
  split at h
  ·grind
  ·rename_i d r nW;cases nW
   cases hb:yJ d 18446744073709551616 with
   | false=>rw [hb] at h;cases h
   | true=>
    rw [hb] at h
    cases hw:qS cs with
    | none=>rw [hw] at h;cases h
    | some l'=>
     rw [hw] at h;cases h;obtain ⟨k1,k2⟩:=ih l' hw;refine ⟨by rw [k1];rfl,fun x hx=>?_⟩
     rcases wA.1 hx with rfl | hx
     ·simp_all
     ·exact k2 x hx
  ·cases h
def Xv:∀{l:List Nat},AG l=true->gB l
 | [],h=>by cases h
 | [a],h=>by
  have h0:a≠0:=fun e=>by subst e;cases h
  exact Di h0 []
 | a::b::r,h=>by
  have h1:dJ (b::r)=b::r:=Xv (l:=b::r) h;show dJ (a::(b::r))=_
  simp only [dJ] at h1 ⊢;rw [h1]
section
variable {P:aF} {L:Lib}
def anq (h:Has P L 99 CS) (SP:L.pure 135=some HU) {s:Int} (hs:AD s=true):bE P L (D P L) 99 [.agg [aa s,.ae]]=some (.str (aP s)):=by
 have e1:bE P L (D P L) 135 [aa s]=some (.str (aP s)):=by
  rw [ir SP];show (bif AD s then some (AV.str (aP s)) else none)=_
  rw [hs];rfl
 rw [aC h];simp only [go_sem,ya,yd,CS,aM,bl,yf,cC,gl,dP,e1]
end
section
open Go
variable {O:bk}
def aiF (hO:gI O) (hN:Nu O.prog O.aX) (SP:O.aX.pure 135=some HU) (Cx:O.aX.pure 138=some zU) (zp:O.aX.pure 139=some Ag) (Fa:Has O.prog O.aX 99 CS) {fn:Func} {c:Code} (kM:O.P.funcs[O.ab 99]? =some fn) (je:fn.body=some c) (NL:fn.ntmps=69)
  (SM:Nk 5 c) (ht:Qs O.P c):∀vals r,Ls vals=some r->dV O 99 vals r:=by
 intro vals r h;unfold Ls at h
 split at h
 ·rename_i s
  cases hs:AD s with
  | false=>rw [hs] at h;cases h
  | true=>
   rw [hs] at h;cases h;obtain ⟨k,hk⟩:=ZA (anq (P:=O.prog) (L:=O.aX) Fa SP hs);exact sound hO hk
 ·rename_i s e n cs
  cases hw:qS cs with
  | none=>rw [hw] at h;cases h
  | some l=>
   rw [hw] at h;simp only at h
   cases hb:(yr l.length n&&(yF n 4000000000&&(AG l&&yF 9223372036854775808 (rA l)))) with
   | false=>rw [hb] at h;cases h
   | true=>
    rw [hb] at h;simp only [yg] at hb;obtain ⟨h1,h2,h3,h4⟩:=hb;obtain ⟨rfl,aY⟩:=agV cs l hw;have h1:=yj h1;subst h1;have h2:=yq h2;have h4:=yq h4;have h3:=Xv h3;rw [Qp] at h4 h;have aR:=ll aY;have key:=fun (s z:Int) (hz:z.natAbs=bv 18446744073709551616 l) (hs:s=if z<0 then -1 else 1)=>
     akY hO hN Cx zp Fa.code kM je NL SM ht (s:=s) (z:=z) (e:=e) (l:=l) (.inr ⟨e,l,rfl,aY,h3,hz.symm,hs,by omega⟩) (by omega) h2 (by omega)
    split at h
    ·cases h
     have:=key 1 (bv 18446744073709551616 l:Nat) (by simp) (by rw [yB (by omega)])
     exact this
    ·cases h
     have:=key (-1) (-(bv 18446744073709551616 l:Nat):Int) (by simp) (by rw [yN (by omega)])
     rw [jJ (by omega)] at this
     grind
    ·cases h
 ·cases h
end
section
open Go
def QU (L:Lib) (n:Nat) (sp:List AV->Option AV):Lib:=⟨fun i=>bif yr i n then some sp else L.pure i,L.heap⟩
def aiG {O:bk} (hO:gI O) {n:Nat} {sp:List AV->Option AV} (h:∀vals r,sp vals=some r->dV O n vals r):gI (O.sK (QU O.aX n sp)) where
 hint:=hO.hint
 mixed:=hO.mixed
 prog:=hO.prog
 aX i NX vals r hi hs:=by
  show dV O i vals r
  simp only [QU] at hi
  cases hb:yr i n with
  | true=>
   simp_all
  | false=>
   rw [hb] at hi;exact hO.aX i NX vals r hi hs
 D6 i NX hp ct vals v an aV hi hs:=Xg (hO.D6 i NX hp ct vals v an aV hi hs)
end
section
open Go
section
variable {H:Type} {enc:yC×yh->H} {P:y5} {w:yi} {base:Nat} {sp:Nat->Bool} {held:Bool}
def mapM_mem {α β:Type} {f:α->Option β}:∀{l:List α} {r:List β},l.mapM f=some r->∀y,y∈r->∃x,f x=some y
 | [],r,h,y,hy=>by simp only [List.mapM_nil,wQ,yb] at h;subst h;cases hy
 | x::l,r,h,y,hy=>by
  rw [uD] at h
  cases h1:f x with
  | none=>simp [h1] at h
  | some z=>
   cases h2:l.mapM f with
   | none=>simp [h1,h2] at h
   | some zs=>
    simp only [h1,h2,xZ,vJ,wQ,yb] at h;subst h;rcases wA.1 hy with rfl | hy
    ·exact ⟨x,h1⟩
    ·exact mapM_mem h2 y hy
def Rd (enc:yC×yh->H) (P:y5) (w:yi) (base:Nat) (sp:Nat->Bool) (held:Bool) (t:yC) (d:xM H):Prop:=∃bg cs ps,DataW.trod enc P w base sp held bg t cs=some (d,ps)
def ap5 {t:yC} {k:y8} {d:xM H} {n:Nat} (ht:P.underlying t=some (.int k)) (h:Rd enc P w base sp held t d):∃z,cM P (n+1) t d=[.int k z]/\(Lit.int k z).wf=true:=by
 obtain ⟨bg,cs,ps,h⟩:=h
 cases bg with
 | zero=>simp [DataW.trod] at h
 | succ bg=>
  unfold DataW.trod at h
  split at h
  all_goals first
   | (rename_i hu;rw [ht] at hu;cases hu;done)
   | skip
  ·rename_i k1 k2 z hu;rw [ht] at hu;injection hu with hu
   injection hu with hu
   subst hu
   split at h
   ·rename_i hk;simp only [yb,ym] at h;obtain ⟨rfl,rfl⟩:=h;exact ⟨z,by simp only [cM,ht],hk.2⟩
   ·cases h
  all_goals (cases h;done)
def ak2 {t e:yC} {d:xM H} {n:Nat} (ht:P.underlying t=some (.slice e)) (h:Rd enc P w base sp held t d):
  cM P (n+1) t d=[.ae]\/∃(x:Bool) (jz:List (xM H)),cM P (n+1) t d=[.aA x jz.length (jz.flatMap fun y=>cM P n e y)]/\∀y,y∈jz->Rd enc P w base sp held e y:=by
 obtain ⟨bg,cs,ps,h⟩:=h
 cases bg with
 | zero=>simp [DataW.trod] at h
 | succ bg=>
  unfold DataW.trod at h
  split at h
  all_goals first
   | (rename_i hu;rw [ht] at hu;cases hu;done)
   | skip
  ·simp only [yb,ym] at h;obtain ⟨rfl,rfl⟩:=h;exact .inl (by simp only [cM,ht])
  ·rename_i e' a len cap hu;rw [ht] at hu;injection hu with hu
   injection hu with hu
   subst hu;simp only at h
   split at h
   case isFalse=>cases h
   cases h1:(List.range len).mapM fun i=>(w.cells? base (a.add (i*P.cellsOf e)) (P.cellsOf e)).bind (DataW.trod enc P w base sp held bg e) with
   | none=>rw [h1] at h;simp at h
   | some jz=>
    rw [h1] at h;simp only [xZ] at h;obtain ⟨rest,_,h⟩:=wI.1 h;simp only [ym] at h;obtain ⟨rfl,rfl⟩:=h;refine .inr ⟨(rest.map (·.1)).isEmpty,jz.map (·.1),by simp only [cM,ht,xo],?_⟩;intro y hy;obtain ⟨p,hp,rfl⟩:=uS.1 hy;obtain ⟨i,hi⟩:=mapM_mem h1 p hp;obtain ⟨du,_,pX⟩:=Option.bind_eq_some_iff.1 hi;exact ⟨bg,du,p.2,pX⟩
  all_goals (cases h;done)
def aiH {t:yC} {fs:Array tq} {d:xM H} {n:Nat} (ht:P.underlying t=some (.struct fs)) (h:Rd enc P w base sp held t d):
  ∃ds:List (xM H),ds.length=fs.toList.length/\cM P (n+1) t d=(fs.toList.zip ds).flatMap (fun x=>cM P n x.1.type x.2)/\∀i (h1:i<fs.toList.length) (h2:i<ds.length),Rd enc P w base sp held fs.toList[i].type ds[i]:=by
 obtain ⟨bg,cs,ps,h⟩:=h
 cases bg with
 | zero=>simp [DataW.trod] at h
 | succ bg=>
  unfold DataW.trod at h
  split at h
  all_goals first
   | (rename_i hu;rw [ht] at hu;cases hu;done)
   | (cases h;done)
   | skip
  rename_i cs x1 Ju fs' hu;rw [ht] at hu;injection hu with hu
  injection hu with hu
  subst hu
  split at h
  case isFalse=>cases h
  obtain ⟨xs,h1,h⟩:=wI.1 h;simp only [ym] at h;obtain ⟨rfl,rfl⟩:=h;refine ⟨xs.map (·.1),by simp [Kz h1],by simp only [cM,ht],?_⟩;have key:∀{r:List tq} {xs:List (xM H×List wE)},r.mapM (fun f=>DataW.trod enc P w base sp held bg f.type ((cs.drop f.offset).take (P.cellsOf f.type)))=some xs->
    ∀i (h1:i<r.length) (h2:i<(xs.map (·.1)).length),Rd enc P w base sp held r[i].type (xs.map (·.1))[i]:=by
   intro r
   induction r with
   | nil=>intro xs h i h1;exact absurd h1 (tn i)
   | cons f r ih=>
    intro xs h i h1 h2;rw [uD] at h
    cases g1:DataW.trod enc P w base sp held bg f.type ((cs.drop f.offset).take (P.cellsOf f.type)) with
    | none=>simp [g1] at h
    | some x=>
     cases g2:r.mapM (fun f=>DataW.trod enc P w base sp held bg f.type ((cs.drop f.offset).take (P.cellsOf f.type))) with
     | none=>simp [g1,g2] at h
     | some ys=>
      simp only [g1,g2,xZ,vJ,wQ,yb] at h;subst h
      cases i with
      | zero=>exact ⟨bg,_,x.2,g1⟩
      | succ i=>exact ih g2 i (by simpa using h1) (by simpa using h2)
  exact key h1
def ak3 {t e:yC} {k:Nat} {d:xM H} {n:Nat} (ht:P.underlying t=some (.array k e)) (h:Rd enc P w base sp held t d):
  ∃ds:List (xM H),ds.length=k/\cM P (n+1) t d=ds.flatMap (fun x=>cM P n e x)/\∀y,y∈ds->Rd enc P w base sp held e y:=by
 obtain ⟨bg,cs,ps,h⟩:=h
 cases bg with
 | zero=>simp [DataW.trod] at h
 | succ bg=>
  unfold DataW.trod at h
  split at h
  all_goals first
   | (rename_i hu;rw [ht] at hu;cases hu;done)
   | (cases h;done)
   | skip
  rename_i cs x1 Ju k' e' hu;rw [ht] at hu;injection hu with hu
  injection hu with p8 zG
  subst p8;subst zG
  split at h
  case isFalse=>cases h
  obtain ⟨xs,h1,h⟩:=wI.1 h;simp only [ym] at h;obtain ⟨rfl,rfl⟩:=h;refine ⟨xs.map (·.1),by simp [Kz h1],by simp only [cM,ht],fun y hy=>?_⟩;obtain ⟨p,hp,rfl⟩:=uS.1 hy;obtain ⟨i,hi⟩:=mapM_mem h1 p hp;exact ⟨bg,_,p.2,hi⟩
end
end
section
open Go
inductive Ty
 | int (k:y8)
 | aK (k:uk)
 | bool
 | str
 | sl (e:Ty)
 | nil
 | cat (a b:Ty)
 | ar (n:Nat) (e:Ty)
def lL:Ty->List AV->Prop
 | .int k,l=>∃z,l=[.int k z]/\(Lit.int k z).wf=true
 | .aK k,l=>∃b,l=[.aK k b]/\(Lit.float k b).wf=true
 | .bool,l=>∃b,l=[.bool b]
 | .str,l=>∃s:List Nat,l=[.str s]/\s.length<9223372036854775808/\∀c,c∈s->c<256
 | .sl e,l=>l=[.ae]\/∃(x:Bool) (ps:List (List AV)),l=[.aA x ps.length ps.flatten]/\∀p,p∈ps->lL e p
 | .nil,l=>l=[]
 | .cat a b,l=>∃x y,l=x++y/\lL a x/\lL b y
 | .ar n e,l=>∃ps:List (List AV),ps.length=n/\l=ps.flatten/\∀p,p∈ps->lL e p
def mJ:List (Option Ty)->Option Ty
 | []=>some .nil
 | some a::r=>match mJ r with
  | some b=>some (.cat a b)
  | none=>none
 | none::_=>none
def fT (P:y5):Nat->yC->Option Ty
 | 0,_=>none
 | n+1,t=>
  match P.underlying t with
  | some .bool=>some .bool
  | some (.int k)=>some (.int k)
  | some (.float k)=>some (.aK k)
  | some .string=>some .str
  | some (.slice e)=>(fT P n e).map .sl
  | some (.struct fs)=>mJ (fs.toList.map fun f=>fT P n f.type)
  | some (.array k e)=>(fT P n e).map (.ar k)
  | _=>none
section
variable {H:Type} {enc:yC×yh->H} {P:y5} {w:yi} {base:Nat} {sp:Nat->Bool} {held:Bool}
def ap6 {t:yC} {k:uk} {d:xM H} {n:Nat} (ht:P.underlying t=some (.float k)) (h:Rd enc P w base sp held t d):∃b,cM P (n+1) t d=[.aK k b]/\(Lit.float k b).wf=true:=by
 obtain ⟨bg,cs,ps,h⟩:=h
 cases bg with
 | zero=>simp [DataW.trod] at h
 | succ bg=>
  unfold DataW.trod at h
  split at h
  all_goals first
   | (rename_i hu;rw [ht] at hu;cases hu;done)
   | skip
  ·rename_i k1 k2 z hu;rw [ht] at hu;injection hu with hu
   injection hu with hu
   subst hu
   split at h
   ·rename_i hw;simp only [yb,ym] at h;obtain ⟨rfl,rfl⟩:=h;exact ⟨z,by simp only [cM,ht],hw.2⟩
   ·cases h
  all_goals (cases h;done)
def anr {t:yC} {d:xM H} {n:Nat} (ht:P.underlying t=some .bool) (h:Rd enc P w base sp held t d):∃b,cM P (n+1) t d=[.bool b]:=by
 obtain ⟨bg,cs,ps,h⟩:=h
 cases bg with
 | zero=>simp [DataW.trod] at h
 | succ bg=>
  unfold DataW.trod at h
  split at h
  all_goals first
   | (rename_i hu;rw [ht] at hu;cases hu;done)
   | skip
  ·simp only [yb,ym] at h;obtain ⟨rfl,rfl⟩:=h;rename_i b _;exact ⟨b,by simp only [cM,ht]⟩
  all_goals (cases h;done)
def ap7 {t:yC} {d:xM H} {n:Nat} (ht:P.underlying t=some .string) (h:Rd enc P w base sp held t d):
  ∃s:List Nat,cM P (n+1) t d=[.str s]/\s.length<9223372036854775808/\∀c,c∈s->c<256:=by
 obtain ⟨bg,cs,ps,h⟩:=h
 cases bg with
 | zero=>simp [DataW.trod] at h
 | succ bg=>
  unfold DataW.trod at h
  split at h
  all_goals first
   | (rename_i hu;rw [ht] at hu;cases hu;done)
   | skip
  ·rename_i s hu
   split at h
   ·rename_i hs;simp only [yb,ym] at h;obtain ⟨rfl,rfl⟩:=h;refine ⟨_,by simp only [cM,ht];rfl,?_,fun c hc=>?_⟩
    ·simp only [xo,Array.length_toList];have h1:s.size<=9223372036854775807:=hs;have h2:s.data.size=s.size:=rfl;omega
    ·obtain ⟨b,_,rfl⟩:=uS.1 hc;exact b.toNat_lt
   ·cases h
  all_goals (cases h;done)
def WI {n:Nat} (ih:∀{t:yC} {T:Ty} {d:xM H},fT P n t=some T->Rd enc P w base sp held t d->lL T (cM P n t d)):
  ∀(fs:List tq) (ds:List (xM H)) (T:Ty),mJ (fs.map fun f=>fT P n f.type)=some T->ds.length=fs.length->(∀i (h1:i<fs.length) (h2:i<ds.length),Rd enc P w base sp held fs[i].type ds[i])->
   lL T ((fs.zip ds).flatMap fun x=>cM P n x.1.type x.2)
 | [],ds,T,hT,_,_=>by
  simp only [vA,mJ,yb] at hT;subst hT;simp [lL]
 | f::fs,[],T,_,hl,_=>by simp at hl
 | f::fs,d::ds,T,hT,hl,hr=>by
  simp only [xm] at hT
  cases h1:fT P n f.type with
  | none=>simp [h1,mJ] at hT
  | some a=>
   cases h2:mJ (fs.map fun f=>fT P n f.type) with
   | none=>simp [h1,h2,mJ] at hT
   | some b=>
    simp only [h1,h2,mJ,yb] at hT;subst hT;simp only [List.zip_cons_cons,List.flatMap_cons];exact ⟨_,_,rfl,ih h1 (hr 0 (by simp) (by simp)),WI ih fs ds b h2 (by simpa using hl) (fun i h1 h2=>hr (i+1) (by simpa using h1) (by simpa using h2))⟩
def ZT:∀(n:Nat) {t:yC} {T:Ty} {d:xM H},fT P n t=some T->Rd enc P w base sp held t d->lL T (cM P n t d)
 | 0,t,T,d,hT,_=>by simp [fT] at hT
 | n+1,t,T,d,hT,hr=>by
  have ih:=@ZT n
  cases hu:P.underlying t with
  | none=>simp [fT,hu] at hT
  | some u=>
   cases u with
   | slice e=>
    simp only [fT,hu] at hT;obtain ⟨E,hE,rfl⟩:=wI.1 hT
    rcases ak2 (n:=n) hu hr with h | ⟨x,jz,h,hm⟩
    ·exact .inl h
    ·refine .inr ⟨x,jz.map (cM P n e),by rw [h,xo,ybG],fun p hp=>?_⟩;obtain ⟨y,hy,rfl⟩:=uS.1 hp;exact ih hE (hm y hy)
   | struct fs=>
    simp only [fT,hu] at hT;obtain ⟨ds,e1,e2,e3⟩:=aiH (n:=n) hu hr;rw [e2];exact WI ih fs.toList ds T hT e1 e3
   | array k e=>
    simp only [fT,hu] at hT;obtain ⟨E,hE,rfl⟩:=wI.1 hT;obtain ⟨ds,e1,e2,e3⟩:=ak3 (n:=n) hu hr;refine ⟨ds.map (cM P n e),by simp [e1],by rw [e2,ybG],fun p hp=>?_⟩;obtain ⟨y,hy,rfl⟩:=uS.1 hp;exact ih hE (e3 y hy)
   | int k=>
    simp only [fT,hu,yb] at hT;subst hT;exact ap5 hu hr
   | float k=>
    simp only [fT,hu,yb] at hT;subst hT;exact ap6 hu hr
   | bool=>
    simp only [fT,hu,yb] at hT;subst hT;exact anr hu hr
   | string=>
    simp only [fT,hu,yb] at hT;subst hT;exact ap7 hu hr
   | _=>simp [fT,hu] at hT
def Es:Ty->List AV->AV
 | .nil,l | .cat _ _,l | .ar _ _,l=> .agg l
 | _,l=>l.headD .undef
def aiI:∀{l:List (Option Ty)} {T:Ty},mJ l=some T->∀x,Es T x= .agg x
 | [],T,h=>by simp only [mJ,yb] at h;subst h;exact fun _=>rfl
 | none::r,T,h=>by simp [mJ] at h
 | some a::r,T,h=>by
  cases h1:mJ r with
  | none=>simp [mJ,h1] at h
  | some b=>
   simp only [mJ,h1,yb] at h;subst h;exact fun _=>rfl
def arX {n:Nat} {t:yC} {T:Ty} {d:xM H} (hT:fT P n t=some T):lj P n t d=Es T (cM P n t d):=by
 cases n with
 | zero=>simp [fT] at hT
 | succ n=>
  cases hu:P.underlying t with
  | none=>simp [fT,hu] at hT
  | some u=>
   cases u with
   | slice e=>
    simp only [fT,hu] at hT;obtain ⟨E,hE,rfl⟩:=wI.1 hT;simp only [lj,hu,Es]
   | struct fs=>
    simp only [fT,hu] at hT;rw [aiI hT];simp only [lj,hu]
   | array k e=>
    simp only [fT,hu] at hT;obtain ⟨E,hE,rfl⟩:=wI.1 hT;simp only [lj,hu,Es]
   | _=>
    simp only [fT,hu,yb,reduceCtorEq] at hT<;>
    (subst hT
     simp only [lj,hu,Es])
def H4:List Ty->List (List AV)->List AV
 | T::Ts,l::ls=>Es T l::H4 Ts ls
 | _,_=>[]
def Yq {n:Nat}:∀{ts:List yC} {Ts:List Ty} {vs:List yh} {ds:List (xM H)} {ps:List wE},(ts.map (fT P n))=Ts.map some->DataW.TrodAll enc P w base sp held ts vs ds ps->
  ∃ls,nF lL Ts ls/\sR P n ts ds=H4 Ts ls/\ds.length=ts.length
 | [],[],[],[],ps,_,_=>⟨[],trivial,rfl,rfl⟩
 | t::ts,T::Ts,v::vs,d::ds,ps,hT,⟨p,q,⟨bg,h1⟩,h2,_⟩=>by
  simp only [xm,vW] at hT;obtain ⟨ls,k1,k2,k3⟩:=Yq hT.2 h2;exact ⟨cM P n t d::ls,⟨ZT n hT.1 ⟨bg,_,_,h1⟩,k1⟩,by simp only [sR,H4,k2,arX hT.1],by simp [k3]⟩
 | [],_::_,_,_,_,h,_=>by simp at h
 | _::_,[],_,_,_,h,_=>by simp at h
 | [],[],_::_,_,_,_,h=>by simp [DataW.TrodAll] at h
 | [],[],[],_::_,_,_,h=>by simp [DataW.TrodAll] at h
 | _::_,_,[],_,_,_,h=>by simp [DataW.TrodAll] at h
 | _::_,_,_::_,[],_,_,h=>by simp [DataW.TrodAll] at h
def ap8 {α β:Type} {p:α->β->Prop} {a:α}:∀{l:List β},nF p [a] l->∃x,l=[x]/\p a x
 | [x],h=>⟨x,rfl,h.1⟩
 | [],h=>h.elim
 | _::_::_,h=>h.2.elim
def ap9 {α β:Type} {p:α->β->Prop} {a b:α}:∀{l:List β},nF p [a,b] l->∃x y,l=[x,y]/\p a x/\p b y
 | x::l,h=>let ⟨y,h1,h2⟩:=ap8 h.2;⟨x,y,by rw [h1],h.1,h2⟩
 | [],h=>h.elim
def aqa {α β:Type} {p:α->β->Prop} {a b c:α}:∀{l:List β},nF p [a,b,c] l->∃x y z,l=[x,y,z]/\p a x/\p b y/\p c z
 | x::l,h=>let ⟨y,z,h1,h2,h3⟩:=ap9 h.2;⟨x,y,z,by rw [h1],h.1,h2,h3⟩
 | [],h=>h.elim
end
end
abbrev ZU:Ty:= .cat .str (.cat .str .nil)
def aiJ {l:List AV} (h:lL ZU l):∃x y:List Nat,l=[.str x,.str y]/\x.length<9223372036854775808/\y.length<9223372036854775808:=by
 obtain ⟨_,_,rfl,⟨x,rfl,hx,_⟩,_,_,rfl,⟨y,rfl,hy,_⟩,rfl⟩:=h;exact ⟨x,y,rfl,hx,hy⟩
abbrev Rz:Ty:= .sl (.int .i64)
abbrev Zg:Ty:= .sl Rz
def Yr:∀{ps:List (List AV)},(∀p,p∈ps->lL (.int .i64) p)->∃zs:List Int,zs.length=ps.length/\ps.flatten=zs.map aa
 | [],_=>⟨[],rfl,rfl⟩
 | p::ps,h=>by
  obtain ⟨z,rfl,_⟩:=h p vH;obtain ⟨zs,h1,h2⟩:=Yr (ps:=ps) (fun q hq=>h q (wS _ hq));exact ⟨z::zs,by simp [h1],by simp [h2]⟩
def ak4 {l:List AV} (h:lL Rz l):∃(v:AV) (zs:List Int),l=[v]/\a8 v zs:=by
 rcases h with rfl | ⟨x,ps,rfl,h⟩
 ·exact ⟨_,[],rfl,qG⟩
 ·obtain ⟨zs,h1,h2⟩:=Yr h;refine ⟨_,zs,rfl,?_⟩;rw [h2,<-h1];exact iQ x zs
def Ys:∀{ps:List (List AV)},(∀p,p∈ps->lL Rz p)->∃s:List (List Int),s.length=ps.length/\ps.flatten.length=ps.length/\nF a8 ps.flatten s
 | [],_=>⟨[],rfl,rfl,trivial⟩
 | p::ps,h=>by
  obtain ⟨v,zs,rfl,hv⟩:=ak4 (h p vH);obtain ⟨s,h1,h2,h3⟩:=Ys (ps:=ps) (fun q hq=>h q (wS _ hq));exact ⟨zs::s,by simp [h1],by simp [h2],hv,h3⟩
def agW {l:List AV} (h:lL Zg l):∃(v:AV) (s:List (List Int)),l=[v]/\fJ v s:=by
 rcases h with rfl | ⟨x,ps,rfl,h⟩
 ·exact ⟨_,[],rfl,akj⟩
 ·obtain ⟨s,h1,h2,h3⟩:=Ys h;refine ⟨_,s,rfl,ps.flatten,?_,h3⟩
  have:=Dy x ps.flatten
  rwa [h2] at this
def G6 (n:Nat):10^n<=2^(4*n):=by
 rw [yad];exact vn (by decide) n
def Pz {b:Nat} {r:List Nat} (h:cX (b::r)=true):48<=b/\b<=57:=by
 simp only [cX,yg] at h
 simp_all
section
variable {P:aF} {L:Lib}
def ZV (h:Tx P L) {ds:List Nat} {N:Nat} (hD:cJ ds 0=some N) (hl:ds.length<=4000000000) {neg:Bool} {o1 o2:AV}:
  ∀m st,(∃(pre rest:List Nat) (a:Nat) (s:Int) (w:AV),aT [0,2,3,4] st=⟨[(0,.str rest),(2,.ptr 0 0),(3,.bool neg),(4,.ptr 1 0)],[(1,.cells true true true 2 [aa s,w]),(0,.cells true true true 2 [o1,o2])],2,0⟩/\ds=pre++rest/\cJ pre 0=some a/\cS s w a/\rest.length=m)->
   ∃ex st',D P L (.loop [0,2,3,4] DE) st=some (ex,st')/\∃tm s w,st'=⟨tm,[(1,.cells true true true 2 [aa s,w]),(0,.cells true true true 2 [o1,o2])],2,0⟩/\ex= .exit 0/\aj tm 2= .ptr 0 0/\aj tm 3= .bool neg/\aj tm 4= .ptr 1 0/\cS s w N:=by
 intro dq sq;generalize bt:aT [0,2,3,4] sq=s0;revert bt s0 sq dq;apply dU;rintro m st ⟨pre,rest,a,s,w,rfl,C3,eH,hn,rfl⟩;obtain ⟨l1,u1⟩:=hn.aB;have gL:=hD;rw [C3,GP,eH] at gL;have gL:cJ rest a=some N:=gL;have hlen:pre.length+rest.length<=4000000000:=by rw [C3,yR] at hl;exact hl
 by_cases h0:rest.length=0
 ·right
  have hr:rest=[]:=yH h0;subst hr
  have:a=N:=by simpa [cJ] using gL
  subst this;simp only [go_sem,DE,yK,show ¬(0:Int)<((0:Nat):Int) by omega];exact ⟨_,_,rfl,by simp,_,s,w,rfl,rfl,by simp only [go_sem,ya],by simp only [go_sem,ya],by simp only [go_sem,ya],hn⟩
 ·left
  obtain ⟨n,rQ⟩:∃n,n=min 18 rest.length:=⟨_,rfl⟩;have abz:(if (rest.length:Int)<18 then (rest.length:Int) else 18)=(n:Int):=by split<;>omega
  have jd:rest.take n++rest.drop n=rest:=wa n rest;obtain ⟨a',CM⟩:∃a',cJ (rest.take n) a=some a':=by
   rw [<-jd,GP] at gL
   cases hq:cJ (rest.take n) a with
   | none=>rw [hq] at gL;cases gL
   | some a'=>exact ⟨a',rfl⟩
  obtain ⟨v,hv⟩:∃v,cJ (rest.take n) 0=some v:=by
   have:∀(l:List Nat) (x y b:Nat),cJ l x=some y->∃z,cJ l b=some z:=by
    intro l
    induction l with
    | nil=>intro x y b _;exact ⟨b,rfl⟩
    | cons c l ih=>
     intro x y b hh;simp only [cJ] at hh ⊢
     cases hb:(yF 48 c&&yF c 57) with
     | false=>rw [hb] at hh;cases hh
     | true=>rw [hb] at hh;exact ih _ _ _ hh
   exact this _ _ _ 0 CM
  have acu:=akW (a:=a) hv;have UL:(rest.take n).length=n:=by rw [yO];omega
  rw [UL,CM,yb] at acu;have SQ:=Qq hv;rw [UL] at SQ;have ayr:v<1000000000000000000:=yu SQ (yV (n:=10) (by decide) (show n<=18 by omega));have e1:=ann (P:=P) h.SH (f:=D P L) (s:=rest.take n) (by omega) (by omega) hv;obtain ⟨t1,t2⟩:=zo h.toNu (z:=10) (by decide) (by decide);obtain ⟨t3,t4⟩:=zo h.toNu (z:=(v:Int)) (by omega) (by omega);obtain ⟨p,e2,hp⟩:=SK h.toNu h.pR t2 (K:=4) (k:=n) (by unfold Bd;decide) (by omega) (by omega)
  have halt:=Qq eH;have ba:Bd (4*pre.length) (a:Int):=yu halt (G6 _);have bp:Bd (4*n+1) ((10:Int)^n):=Bd.pow (k:=4) (by unfold Bd;decide) n
  obtain ⟨q,e3,hq⟩:=rz h.toNu (v:= .agg [aa s,w]) ⟨s,w,rfl,hn⟩ hp (K:=4*pre.length+4*n+1) (ba.mono (by omega)) (bp.mono (by omega)) (by omega);have bv':Bd (4*n) (v:Int):=yu SQ (G6 _);obtain ⟨r,e4,hr⟩:=IW h.toNu hq t4 (K:=4*pre.length+4*n+1) ((ba.mul bp).mono (by omega)) (bv'.mono (by omega)) (by omega);have aG:(a:Int)*10^n+(v:Int)=(a':Int):=by
   rw [acu]
   simp
  rw [aG] at hr;obtain ⟨s2,w2,rfl,h2⟩:=hp;obtain ⟨s3,w3,rfl,h3⟩:=hq;obtain ⟨s4,w4,rfl,h4⟩:=hr;obtain ⟨l2,u2⟩:=h2.aB;obtain ⟨l3,u3⟩:=h3.aB;obtain ⟨l4,u4⟩:=h4.aB;have un:=pE;have c1:ib rest (some 0) (some n)=some (.str (rest.take n)):=by rw [kZ (by omega) (by omega),yo]
  have c2:ib rest (some n) (some rest.length)=some (.str (rest.drop n)):=by rw [kZ (by omega) (by omega),xK]
  simp only [go_sem,ya,DE,show (0:Int)<(rest.length:Nat) by omega,LI,KV,abz,ef,eF,dA,c1,c2,e1,bR,t1,t3,bA,u1.ai,u2.ai,u3.ai,un.ai,e2,e3,e4,bc,bR,yo,da u4];refine ⟨_,(rest.drop n).length,rfl,by rw [xO];omega,pre++rest.take n,rest.drop n,a',s4,w4,by simp only [go_sem,ya,yd,az],by rw [xt,jd];exact C3,by rw [GP,eH];exact CM,h4,rfl⟩
def PA {b:Nat} {r:List Nat} (h:48<=b):gk [45] (b::r)=false:=by
 show (yr 45 b&&true)=false
 rw [bW (by omega)];rfl
def IY (h:Tx P L) {z:Int} (hz:(aP z).length<=4000000000):∃r,ah P L 110 [.str (aP z)] r/\ck r z:=by
 have hN:=sB z.natAbs;have un:=pE;have p6:(ap z.natAbs).length<=4000000000:=by
  by_cases h0:z<0
  ·rw [jJ h0] at hz;simp at hz;omega
  ·rw [<-nd,yB h0] at hz;simpa using hz
 have ba:Bd (4*(ap z.natAbs).length) (z.natAbs:Int):=yu (Qq hN) (G6 _);by_cases h0:z<0
 ·have hs:aP z=45::ap z.natAbs:=jJ h0;have e1:bE P L (D P L) 152 [.str (45::ap z.natAbs),.str [45]]=some (.bool true):=by rw [ir h.aco];rfl
  have e2:bE P L (D P L) 153 [.str (45::ap z.natAbs),.str [45]]=some (.str (ap z.natAbs)):=by rw [ir h.SG];rfl
  have iY:∃s w r,ah P L 110 [.str (aP z)] r/\cS s w (z.natAbs:Int)/\ah P L 147 [.agg [aa s,w]] r/\ck r (-(z.natAbs:Int)):=by
   rw [hs];unfold ah;rw [aC h.acp];simp only [go_sem,ya,yd,MG,aM,e1,e2,un.pu,un.one,da un];generalize hq:D P L (.loop [0,2,3,4] DE) _=q;obtain ⟨ex,st,rfl,tm,s,w,rfl,rfl,t2,t3,t4,h5⟩:=b9 hq (ZV (P:=P) (L:=L) h hN p6 (neg:=true) (o1:= .int .i64 0) (o2:= .ae) (ap z.natAbs).length) ⟨[],ap z.natAbs,0,0,.ae,by simp only [go_sem,ya,yd,az]<;>rfl,rfl,rfl,.inl ⟨rfl,rfl,by decide,by decide⟩,rfl⟩
   obtain ⟨l5,u5⟩:=h5.aB;obtain ⟨r,e3,hr⟩:=Ep h.toNu (v:= .agg [aa s,w]) ⟨s,w,rfl,h5⟩ (K:=4*(ap z.natAbs).length) ba (by omega);have bC:=hr;obtain ⟨s6,w6,rfl,h6⟩:=hr;obtain ⟨l6,u6⟩:=h6.aB;refine ⟨s,w,_,?_,h5,e3,bC⟩;simp only [go_sem,ya,yd,az,t2,t3,t4,bR,bA,u5.ai,e3,bc,de,df,bR,yo,lY u6,da u6]
  obtain ⟨s,w,r,g1,_,_,g2⟩:=iY;rw [show -((z.natAbs:Nat):Int)=z by omega] at g2;exact ⟨r,g1,g2⟩
 ·have hs:aP z=ap z.natAbs:=by rw [<-nd,yB h0];rfl
  obtain ⟨b,r0,hb,mq,hb2⟩:=Dp z.natAbs;have e1:bE P L (D P L) 152 [.str (ap z.natAbs),.str [45]]=some (.bool false):=by
   rw [ir h.aco,hb];show some (AV.bool (gk [45] (b::r0)))=_
   rw [PA mq]
  have e2:bE P L (D P L) 153 [.str (ap z.natAbs),.str [45]]=some (.str (ap z.natAbs)):=by
   rw [ir h.SG,hb];show some (AV.str (bif gk [45] (b::r0) then _ else _))=_
   rw [PA mq];rfl
  have iY:∃s w,ah P L 110 [.str (aP z)] (.agg [aa s,w])/\cS s w (z.natAbs:Int):=by
   rw [hs];unfold ah;rw [aC h.acp];simp only [go_sem,ya,yd,MG,aM,e1,e2,un.pu,un.one,da un];generalize hq:D P L (.loop [0,2,3,4] DE) _=q;obtain ⟨ex,st,rfl,tm,s,w,rfl,rfl,t2,t3,t4,h5⟩:=b9 hq (ZV (P:=P) (L:=L) h hN p6 (neg:=false) (o1:= .int .i64 0) (o2:= .ae) (ap z.natAbs).length) ⟨[],ap z.natAbs,0,0,.ae,by simp only [go_sem,ya,yd,az]<;>rfl,rfl,rfl,.inl ⟨rfl,rfl,by decide,by decide⟩,rfl⟩
   obtain ⟨l5,u5⟩:=h5.aB;refine ⟨s,w,?_,h5⟩;simp only [go_sem,ya,yd,az,t2,t3,t4,bR,de,df,bR,yo,lY u5,da u5]
  obtain ⟨s,w,g1,g2⟩:=iY;rw [show ((z.natAbs:Nat):Int)=z by omega] at g2;exact ⟨_,g1,s,w,rfl,g2⟩
def GH (b:Nat) (r:List Nat) (c:Nat):gk [c] (b::r)=yr c b:=by
 show (yr c b&&true)=_
 grind
def V2:∀(l r:List Nat) (k:Nat),(∀x,x∈l->x≠47)->lT [47] (l++47::r) k=some (k+l.length)
 | [],r,k,_=>by
  show (bif gk [47] (47::r) then some k else _)=_
  rw [GH];rfl
 | b::l,r,k,h=>by
  show (bif gk [47] (b::(l++47::r)) then some k else lT [47] (l++47::r) (k+1))=_
  rw [GH,bW (fun e=>h b (by simp) e.symm),yG,V2 l r (k+1) (fun x hx=>h x (by simp [hx])),yz]
  grind
def index_none:∀(l:List Nat) (k:Nat),(∀x,x∈l->x≠47)->lT [47] l k=none
 | [],k,_=>rfl
 | b::l,k,h=>by
  show (bif gk [47] (b::l) then some k else lT [47] l (k+1))=_
  rw [GH,bW (fun e=>h b (by simp) e.symm),yG,index_none l (k+1) (fun x hx=>h x (by simp [hx]))]
def Yt:∀{l:List Nat},cX l=true->∀x,x∈l->48<=x/\x<=57
 | [],_,x,hx=>by simp at hx
 | b::l,h,x,hx=>by
  have h1:=Pz h;simp only [cX,yg] at h;rcases wA.1 hx with rfl | hx
  ·grind
  ·exact Yt h.2 x hx
def afl (z:Int):∀x,x∈aP z->x≠47:=fun x hx=>by
 rw [<-nd] at hx;rcases List.mem_append.1 hx with h | h
 ·grind
 ·have:=Yt (sA _) x h;omega
def UM (h:Tx P L) {a:Rat} (hl:(RT a).length<4000000000):∃r,ah P L 62 [.str (RT a)] r/\bO r a:=by
 have ED:=afl a.num;unfold RT at hl ⊢;by_cases hd:a.den=1
 ·rw [yN hd,xX] at hl ⊢;obtain ⟨p,e1,hp⟩:=IY h (z:=a.num) (by omega);obtain ⟨r,e2,hr⟩:=Er h.toFr' hp;rw [<-Lr a hd] at hr;have bC:=hr;obtain ⟨s1,w1,rfl,h1⟩:=hp;obtain ⟨s2,w2,s3,w3,rfl,h2,h3⟩:=hr;obtain ⟨l1,u1⟩:=h1.aB;obtain ⟨l2,u2⟩:=h2.aB;obtain ⟨l3,u3⟩:=h3.aB;have e0:bE P L (D P L) 109 [.str (aP a.num),.str [47]]=some (.au [.str (aP a.num),.str [],.bool false]):=by
   rw [ir h.SI];show (bif yJ (aP a.num).length 4294967281 then (match lT [47] (aP a.num) 0 with | some i=>_ | none=>some (AV.au [.str (aP a.num),.str [],.bool false])) else none)=_
   rw [jQ (by omega),index_none _ _ ED];rfl
  refine ⟨_,?_,bC⟩;unfold ah;rw [aC h.Ov];simp only [go_sem,ya,yd,N3,aM,e0,e1,bc,u1.ai,bA,e2,jn u2 u3,de,df,yo,dC,jB u2 u3]
 ·rw [yB hd] at hl ⊢;simp only [yR,yz] at hl;obtain ⟨p,e1,hp⟩:=IY h (z:=a.num) (by omega);obtain ⟨q,e2,hq⟩:=IY h (z:=(a.den:Int)) (by rw [j8];omega);rw [j8] at e2;obtain ⟨s1,w1,rfl,h1⟩:=hp;obtain ⟨s2,w2,rfl,h2⟩:=hq;obtain ⟨l1,u1⟩:=h1.aB;obtain ⟨l2,u2⟩:=h2.aB;have e0:bE P L (D P L) 109 [.str (aP a.num++47::ap a.den),.str [47]]=some (.au [.str (aP a.num),.str (ap a.den),.bool true]):=by
   rw [ir h.SI];show (bif yJ (aP a.num++47::ap a.den).length 4294967281 then (match lT [47] (aP a.num++47::ap a.den) 0 with | some i=>some (AV.au [.str ((aP a.num++47::ap a.den).take i),.str ((aP a.num++47::ap a.den).drop (i+1)),.bool true]) | none=>_) else none)=_
   rw [jQ (by simp;omega),V2 _ _ _ ED];simp only [yf,yt,tu];rw [show (aP a.num).length+1=(aP a.num++[47]).length by simp,show aP a.num++47::ap a.den=(aP a.num++[47])++ap a.den by simp,tv]
  refine ⟨.agg [aa s1,w1,aa s2,w2],?_,s1,w1,s2,w2,rfl,h1,h2⟩;unfold ah;rw [aC h.Ov];simp only [go_sem,ya,yd,N3,aM,e0,e1,e2,bc,u1.one,u2.one,Ah,Ai,jn u1 u2,de,df,yo,dC,jB u1 u2]
end
def dn (p:List Nat):Bool:=cX p&&(match p with | []=>false | b::r=> !(yr b 48)||r.isEmpty)
def eY (p:List Nat):Nat:=(cJ p 0).getD 0
def mh (neg:Bool) (t:List Nat):Int:=
 if dn (t.take (bG t))=false\/(neg=true/\t.take (bG t)=[48]) then 1
 else if bG t<t.length/\(dn (t.drop (bG t+1))=false\/t.drop (bG t+1)=[48]\/t.drop (bG t+1)=[49]) then 1
 else if 600<bG t\/600<t.length-bG t-1 then 4
 else if bG t<t.length/\wD (eY (t.take (bG t))) (eY (t.drop (bG t+1)))≠1 then 1
 else 0
def bZ:List Nat->Int
 | []=>mh false []
 | b::t=>if b=45 then mh true t else mh false (b::t)
def Yu:∀{p:List Nat} (a:Nat),cX p=true->∃n,cJ p a=some n
 | [],a,_=>⟨a,rfl⟩
 | b::r,a,h=>by
  have h':=h;simp only [cX,yg] at h';obtain ⟨n,hn⟩:=Yu (p:=r) (10*a+(b-48)) h'.2;exact ⟨n,by simp only [cJ,h'.1.1,h'.1.2,wM,yt];exact hn⟩
def Dq:∀(k:Nat) {p:List Nat},p.length=k->dn p=true->ap (eY p)=p:=by
 intro k
 induction k with
 | zero=>intro p hl h;rw [yH hl] at h;simp [dn] at h
 | succ k ih=>
  intro p hl h;rcases snoc p with rfl | ⟨m,a,rfl⟩
  ·grind
  ·simp only [dn,yg,J6] at h;obtain ⟨⟨h1,h2⟩,h3⟩:=h;simp only [cX,yg] at h2;have ha1:=yq h2.1.1;have ha2:=yq h2.1.2;obtain ⟨n,hn⟩:=Yu 0 h1;have hv:eY (m++[a])=10*n+(a-48):=by
    unfold eY;rw [GP,hn];simp only [xZ,cJ,h2.1.1,h2.1.2,wM,yt,Option.getD_some]
   cases m with
   | nil=>
    have:n=0:=by simpa [cJ] using hn.symm
    rw [hv,nc (by omega)]
    simp;omega
   | cons b r=>
    have hd:dn (b::r)=true:=by
     simp only [dn,h1,wF]
     cases r with
     | nil=>simp
     | cons c r=>simp at h3 ⊢;exact h3
    have hm:=ih (p:=b::r) (by simpa using hl) hd;have hnv:eY (b::r)=n:=by unfold eY;rw [hn];rfl
    rw [hnv] at hm;have rO:n≠0:=fun e=>by
     rw [nc (by omega)] at hm
     simp_all
    rw [hv,od (by omega),show (10*n+(a-48))/10=n by omega,show 48+(10*n+(a-48))%10=a by omega,hm]
def Vz (t:List Nat):bG t<t.length->t=t.take (bG t)++47::t.drop (bG t+1):=by
 induction t with
 | nil=>simp
 | cons b r ih=>
  intro h;simp only [bG] at h ⊢
  grind
def Xw {n:Int} {d:Nat} (hd:0<d) (hg:wD n.natAbs d=1):∃r:Rat,r.num=n/\r.den=d:=⟨⟨n,d,by omega,hg⟩,rfl,rfl⟩
def aqb {s:List Nat} (h:bZ s=0):∃r:Rat,s=RT r/\(ap r.num.natAbs).length<=600/\(ap r.den).length<=600:=by
 have key:∀(neg:Bool) (t:List Nat),mh neg t=0->∃r:Rat,(if neg=true then [45] else [])++t=RT r/\(ap r.num.natAbs).length<=600/\(ap r.den).length<=600:=by
  intro neg t h;unfold mh at h
  split at h
  ·grind
  rename_i h1
  split at h
  ·grind
  rename_i h2
  split at h
  ·grind
  rename_i h3
  split at h
  ·grind
  rename_i h4;have hle:=GF t;have hp:dn (t.take (bG t))=true:=by
   cases hb:dn (t.take (bG t)) with
   | true=>rfl
   | false=>exact absurd (.inl hb) h1
  have qu:=Dq _ rfl hp;generalize hn:eY (t.take (bG t))=n at*
  have arY:neg=true->n≠0:=fun hh e=>by
   subst e;exact h1 (.inr ⟨hh,by rw [<-qu];rfl⟩)
  have hint:(if neg=true then [45] else [])++ap n=aP (if neg=true then -(n:Int) else n):=by
   cases neg with
   | true=>
    have:=arY rfl
    simp only [xA];rw [jJ (by omega)]
    simp
   | false=>simp [j8]
  have SR:(if neg=true then -(n:Int) else n).natAbs=n:=by split<;>omega
  have hln:(ap n).length<=600:=by rw [qu,yO];omega
  by_cases hs:bG t<t.length
  ·have hq:dn (t.drop (bG t+1))=true:=by
    cases hb:dn (t.drop (bG t+1)) with
    | true=>rfl
    | false=>exact absurd ⟨hs,.inl hb⟩ h2
   have n7:=Dq _ rfl hq;have hg:wD n (eY (t.drop (bG t+1)))=1:=by
    grind
   have jO:=Vz t hs;have Fb:(t.drop (bG t+1)).length<=600:=by rw [xO];omega
   rw [<-n7] at jO Fb;have fB:eY (t.drop (bG t+1))≠0:=fun e=>by
    rw [e] at n7;exact h2 ⟨hs,.inr (.inl (by rw [<-n7];rfl))⟩
   have jW:eY (t.drop (bG t+1))≠1:=fun e=>by
    rw [e] at n7;exact h2 ⟨hs,.inr (.inr (by rw [<-n7];rfl))⟩
   generalize eY (t.drop (bG t+1))=d at*
   obtain ⟨r,cg,fp⟩:=Xw (n:=if neg=true then -(n:Int) else n) (d:=d) (by omega) (by rw [SR];exact hg)
   refine ⟨r,?_,by rw [cg,SR];exact hln,by rw [fp];exact Fb⟩
   unfold RT;rw [cg,fp,yB jW,<-hint,xt]
   congr 1
   rw [qu];exact jO
  ·have ht:t.take (bG t)=t:=yM (by omega);rw [ht] at qu;obtain ⟨r,cg,fp⟩:=Xw (n:=if neg=true then -(n:Int) else n) (d:=1) (by omega) (Nat.gcd_one_right _);refine ⟨r,?_,by rw [cg,SR];exact hln,by rw [fp];decide⟩
   unfold RT;rw [cg,fp,yN rfl,<-hint,xX,qu]
 cases s with
 | nil=>exact absurd h (by decide)
 | cons b t=>
  simp only [bZ] at h
  split at h
  ·rename_i hb;subst hb;exact key true t h
  ·exact key false (b::t) h
namespace Nd
structure Ord (n:Nat) (l:List Int):Prop where
 len:l.length=n
 oR:∀a,a<n->0<=l.getD a 0/\l.getD a 0<n
 inj:∀a b,a<n->b<n->l.getD a 0=l.getD b 0->a=b
end Nd
namespace Nd
open Go (IntKind)
section
variable {P:aF} {L:Lib}
abbrev ah (P:aF) (L:Lib) (f:Nat) (vals:List AV) (r:AV):Prop:=bE P L (D P L) f vals=some r
def zq (h:Has P L 124 Eb) (b:Bool) (n:Int):ah P L 124 [.bool b,aa n] (aa (if b=true then n else 0)):=by
 unfold ah;rw [aC h]
 cases b with
 | true=>simp only [go_sem,ya,Eb,xA]
 | false=>simp only [go_sem,ya,Eb];rfl
def atG (h:Has P L 125 MI) {v:AV} {l:List Int} (hv:a8 v l) (hl:l.length<=1000000):ah P L 125 [v] (aa (cp l)):=by
 unfold ah;rw [aC h];simp only [go_sem,ya,MI,hv.len];have key:=KU (P:=P) (L:=L) (live:=[5,6,7]) (a:=LB)
  (I:=fun k s=>∃tm ct i,s=⟨tm,[],ct,0⟩/\aj tm 5=v/\aj tm 6=aa l.length/\aj tm 7=aa (i:Nat)/\i+k=l.length/\cp (l.drop i)=cp l)
  (Q:=fun ex s=>∃tm,s=⟨tm,[],0,0⟩/\((ex= .ret/\aj tm 2=aa (cp l))\/(ex= .exit 0/\cp l=0))) ?_ l.length
 ·generalize hq:D P L (.loop [5,6,7] LB) _=q;obtain ⟨ex,s,rfl,tm,rfl,h2⟩:=b9 hq key ⟨_,_,0,rfl,rfl,rfl,rfl,by omega,rfl⟩;rcases h2 with ⟨rfl,h2⟩ | ⟨rfl,h2⟩
  ·simp only [go_sem,h2]
  ·rw [h2];simp only [go_sem]
 ·rintro k s ⟨tm,ct,i,rfl,h5,h6,h7,hk,hf⟩;rw [OO (by simp only [go_sem,h5,h6,h7,hv.pu])];simp only [go_sem,ya,h5,h6,h7,LB];by_cases hi:i<l.length
  ·have cI:(i:Int)<l.length:=by omega
   rw [VV hi] at hf;by_cases hz:l[i]=0
   ·left
    simp only [go_sem,ya,cI,hv.br hi,hz];refine ⟨_,k-1,rfl,by omega,_,_,i+1,rfl,?_⟩;rw [wrap64 (by omega) (by omega)];rw [yN hz] at hf;simp only [go_sem,ya];exact ⟨trivial,trivial,rfl,by omega,hf⟩
   ·right
    simp only [go_sem,ya,cI,hv.br hi,hz];rw [yB hz] at hf;refine ⟨_,_,rfl,by simp,_,rfl,.inl ⟨rfl,?_⟩⟩;simp only [go_sem,hf]
  ·right
   have cI:¬(i:Int)<l.length:=by omega
   simp only [go_sem,cI];refine ⟨_,_,rfl,by simp,_,rfl,.inr ⟨rfl,?_⟩⟩;rw [<-hf,y9 (by omega)];rfl
end
end Nd
def Yv (i:Nat):Ea i [48,49,50,51,52,53,54,55,56,57]=(yF 48 i&&yF i 57):=by
 by_cases h:48<=i/\i<=57
 ·obtain ⟨h1,h2⟩:=h;obtain ⟨k,rfl⟩:∃k,i=48+k:=⟨i-48,by omega⟩;rcases (show k=0\/k=1\/k=2\/k=3\/k=4\/k=5\/k=6\/k=7\/k=8\/k=9 by omega) with rfl | rfl | rfl | rfl | rfl | rfl | rfl | rfl | rfl | rfl<;>rfl
 ·have e:(yF 48 i&&yF i 57)=false:=by
   cases h1:yF 48 i with
   | false=>rfl
   | true=>
    cases h2:yF i 57 with
    | false=>rfl
    | true=>exact absurd ⟨yq h1,yq h2⟩ h
  rw [e];have ne:∀c,48<=c->c<=57->yr c i=false:=fun c h1 h2=>bW (by omega)
  simp only [Ea,ne 48 (by decide) (by decide),ne 49 (by decide) (by decide),ne 50 (by decide) (by decide),ne 51 (by decide) (by decide),ne 52 (by decide) (by decide),ne 53 (by decide) (by decide),ne 54 (by decide) (by decide),ne 55 (by decide) (by decide),ne 56 (by decide) (by decide),ne 57 (by decide) (by decide),yG]
def PB:∀l:List Nat,km [48,49,50,51,52,53,54,55,56,57] l=[]↔cX l=true
 | []=>by simp [km,cX]
 | b::r=>by
  simp only [km,cX,Yv]
  cases hb:(yF 48 b&&yF b 57) with
  | true=>simp only [yt,wF];exact PB r
  | false=>simp
def K0:∀l:List Nat,cX l.reverse=cX l
 | []=>rfl
 | b::r=>by rw [List.reverse_cons,J6,K0 r];simp [cX,Bool.and_comm]
def VF:∀l:List Nat,cX l=false->cX (km [48,49,50,51,52,53,54,55,56,57] l)=false
 | [],h=>by simp [cX] at h
 | b::r,h=>by
  simp only [km,Yv]
  cases hb:(yF 48 b&&yF b 57) with
  | true=>
   simp only [cX,hb,wF] at h;exact VF r h
  | false=>simp only [yG];exact h
def ak5 (p:List Nat):cN (km [48,49,50,51,52,53,54,55,56,57] (km [48,49,50,51,52,53,54,55,56,57] p.reverse).reverse) []=cX p:=by
 cases hd:cX p with
 | true=>
  have h1:=(PB p.reverse).2 (by rw [K0];exact hd)
  rw [h1];rfl
 | false=>
  have h1:=VF p.reverse (by rw [K0];exact hd)
  have h2:cX (km [48,49,50,51,52,53,54,55,56,57] p.reverse).reverse=false:=by rw [K0];exact h1
  cases hq:km [48,49,50,51,52,53,54,55,56,57] (km [48,49,50,51,52,53,54,55,56,57] p.reverse).reverse with
  | nil=>have:=(PB _).1 hq;rw [h2] at this;exact absurd this (by decide)
  | cons b r=>rfl
def VG:∀(t:List Nat) (k:Nat),lT [47] t k=if bG t<t.length then some (k+bG t) else none
 | [],k=>by simp [lT,gk,bG]
 | b::r,k=>by
  by_cases hb:b=47
  ·subst hb;have e:bG (47::r)=0:=by simp [bG]
   rw [e,yN (by simp)];rfl
  ·have e:bG (b::r)=bG r+1:=by simp [bG,hb]
   have hp:gk [47] (b::r)=false:=by rw [GH];exact bW (fun e=>hb e.symm)
   rw [e,lT,hp,yG,VG r (k+1)]
   grind
def Aj (a b:List Nat):binOp .neq (.str a) (.str b)=some (.bool (!(cN a b))):=rfl
structure Ck (P:aF) (L:Lib):Prop extends Tx P L where
 atH:L.pure 128=some Ke
 atI:L.pure 162=some trimS
 h86:Has P L 86 eP
 Cy:Has P L 124 Eb
 atJ:Has P L 125 MI
 atK:Has P L 129 Ec
section
variable {P:aF} {L:Lib}
def zq (h:Has P L 124 Eb) (b:Bool) (n:Int):ah P L 124 [.bool b,aa n] (aa (if b=true then n else 0)):=Nd.zq h b n
def acv (h:Ck P L) {p:List Nat} (hl:p.length<=4000000000):ah P L 129 [.str p] (.bool (dn p)):=by
 have e1:bE P L (D P L) 162 [.str p,.str [48,49,50,51,52,53,54,55,56,57]]=some (.str (km [48,49,50,51,52,53,54,55,56,57] (km [48,49,50,51,52,53,54,55,56,57] p.reverse).reverse)):=by
  rw [ir h.atI];show (bif DD [48,49,50,51,52,53,54,55,56,57]&&(yJ p.length 4294967281&&yJ 10 4294967281) then _ else none)=_
  rw [jQ (by omega)];rfl
 have e2:=ak5 p;unfold ah;rw [aC h.atK]
 match p,e1,e2 with
 | [],_,_=>
  simp only [go_sem,ya,Ec,Aj,show cN [] []=true from rfl,yT];rfl
 | b::r,e1,e2=>
  have hI:mG 0 (.str (b::r))=some (.int .u8 (b:Nat)):=rfl;have h0:cN (b::r) []=false:=rfl;have hd:dn (b::r)=(cX (b::r)&&(!(yr b 48)||r.isEmpty)):=rfl;rw [hd]
  cases kP:cX (b::r) with
  | false=>
   rw [kP] at e2;simp only [go_sem,ya,Ec,Aj,h0,yU,e1,lc,e2,wB]
  | true=>
   rw [kP] at e2;by_cases hb:b=48
   ·subst hb;have e3:cN (48::r) [48]=r.isEmpty:=by
     cases r with
     | nil=>rfl
     | cons c r=>rfl
    have TA:mG 0 (.str (48::r))=some (.int .u8 48):=rfl;simp only [go_sem,ya,Ec,Aj,h0,yU,e1,lc,e2,TA,yx,yT,e3];rfl
   ·have:yr b 48=false:=bW hb
    rw [this];simp only [go_sem,ya,Ec,Aj,h0,yU,e1,lc,e2,hI,show ¬((b:Nat):Int)=48 by omega,yE,yU];rfl
def atL (h:Ck P L) (s:List Nat):bE P L (D P L) 128 [.str s,.str [45]]=some (if s.head? =some 45 then .au [.str s.tail,.bool true] else .au [.str s,.bool false]):=by
 rw [ir h.atH];show some (bif gk [45] s then AV.au [.str (s.drop 1),.bool true] else .au [.str s,.bool false])=_
 cases s with
 | nil=>rfl
 | cons b r=>
  by_cases hb:b=45
  ·subst hb;rfl
  ·have:gk [45] (b::r)=false:=by rw [GH];exact bW (fun e=>hb e.symm)
   grind
def atM (h:Ck P L) {t:List Nat} (hl:t.length<=4000000000):bE P L (D P L) 109 [.str t,.str [47]]=some (.au [.str (t.take (bG t)),.str (t.drop (bG t+1)),.bool (decide (bG t<t.length))]):=by
 rw [ir h.SI];show (bif yJ t.length 4294967281 then (match lT [47] t 0 with | some i=>some (AV.au [.str (t.take i),.str (t.drop (i+1)),.bool true]) | none=>some (AV.au [.str t,.str [],.bool false])) else none)=_
 rw [jQ (by omega),VG];by_cases hs:bG t<t.length
 ·grind
 ·rw [yB hs,yY hs,yM (by omega),y9 (by omega)];rfl
def agX {P:aF} {L:Lib} (a b c d:VC) (s:St):D P L (.seq a (.seq b (.seq c d))) s=mI P L (D P L (.seq a (.seq b c)) s) d:=by
 have e:=BI (P:=P) (L:=L) b c d;rw [iz,iz]
 cases D P L a s with
 | none=>rfl
 | some q=>
  obtain ⟨ex,st⟩:=q
  cases ex with
  | normal=>rw [fe,fe];exact e st
  | ret=>rfl
  | exit id=>rfl
def aiK {P:aF} {L:Lib} (a b c d f:VC) (s:St):D P L (.seq a (.seq b (.seq c (.seq d f)))) s=mI P L (D P L (.seq a (.seq b (.seq c d))) s) f:=by
 have e:=agX (P:=P) (L:=L) b c d f;rw [iz,iz]
 cases D P L a s with
 | none=>rfl
 | some q=>
  obtain ⟨ex,st⟩:=q
  cases ex with
  | normal=>rw [fe,fe];exact e st
  | ret=>rfl
  | exit id=>rfl
def Lt {a b:List Nat} (h:a=b):cN a b=true:=by
 subst h
 induction a with
 | nil=>rfl
 | cons x a ih=>simp [cN,ih]
def Lu {a b:List Nat} (h:a≠b):cN a b=false:=by
 cases hb:cN a b with
 | false=>rfl
 | true=>
  exact absurd (by
   clear h;revert b
   induction a with
   | nil=>intro b hb;cases b with | nil=>rfl | cons y b=>simp [cN] at hb
   | cons x a ih=>
    intro b hb
    cases b with
    | nil=>simp [cN] at hb
    | cons y b=>
     simp only [cN,yg] at hb
     rw [yj hb.1,ih hb.2]) h
def arZ (h:Ck P L) {p q:List Nat} {ok found:Bool} (lp:p.length<=1000000000) (lq:q.length<=1000000000) (im:ok=true->dn p=true/\(found=true->dn q=true)) {tm:Env} (t5:aj tm 5= .str p) (t6:aj tm 6= .str q) (t7:aj tm 7= .bool found) (t8:aj tm 8= .bool ok):
  eX [.t 2] (D P L (av (av (av (av (av eP.body))))) ⟨tm,[],0,0⟩)=some (aa (
   if ok=false then 1
   else if 600<p.length\/600<q.length then 4
   else if found=true/\wD (eY p) (eY q)≠1 then 1
   else 0)):=by
 have w1:=zq h.Cy (!ok) 1;have OB:∀a b:Int,ah P L 125 [.aA true 2 [aa a,aa b]] (aa (cp [a,b])):=fun a b=>Nd.atG h.atJ (iQ true [a,b]) (by simp)
 cases ok with
 | false=>
  have f1:=OB 1 0;have f2:=OB 1 4;have w2:=zq h.Cy false 4;have w3:=zq h.Cy true 4;simp only [yU,xA,yD,xk] at w1 w2 w3;rw [show cp [1,0]=1 by decide] at f1;rw [show cp [1,4]=1 by decide] at f2;unfold ah at w1 w2 w3 f1 f2;by_cases h1:600<p.length
  ·simp only [go_sem,ya,yd,yI,yp,yk,eP,av,show ¬(1:Int)=0 by decide,yU,t5,t8,yU,w1,show (600:Int)<(p.length:Int) by omega,yx,w3,f2,yE]
   simp
  ·by_cases h2:600<q.length
   ·simp only [go_sem,ya,yd,yI,yp,yk,eP,av,show ¬(1:Int)=0 by decide,yU,t5,t6,t8,yU,w1,show ¬(600:Int)<(p.length:Int) by omega,show (600:Int)<(q.length:Int) by omega,yx,yE,w3,f2]
    simp
   ·simp only [go_sem,ya,yd,yI,yp,yk,eP,av,show ¬(1:Int)=0 by decide,yU,t5,t6,t8,yU,w1,show ¬(600:Int)<(p.length:Int) by omega,show ¬(600:Int)<(q.length:Int) by omega,yE,w2,f1]
    simp
 | true=>
  obtain ⟨hp,hq⟩:=im rfl;have f1:=OB 0 0;have f2:=OB 0 4;have w2:=zq h.Cy false 4;have w3:=zq h.Cy true 4;have w4:=zq h.Cy false 1;have w5:=zq h.Cy true 1;simp only [yT,xA,yD,xk] at w1 w2 w3 w4 w5;rw [show cp [0,0]=0 by decide] at f1;rw [show cp [0,4]=4 by decide] at f2;unfold ah at w1 w2 w3 w4 w5 f1 f2;rw [yB (by decide)];by_cases h1:600<p.length
  ·rw [yN (.inl h1)];simp only [go_sem,ya,yd,yI,yp,yk,eP,av,show ¬(4:Int)=0 by decide,yU,t5,t8,yT,w1,show (600:Int)<(p.length:Int) by omega,yx,w3,f2,yE]
  ·by_cases h2:600<q.length
   ·rw [yN (.inr h2)];simp only [go_sem,ya,yd,yI,yp,yk,eP,av,show ¬(4:Int)=0 by decide,yU,t5,t6,t8,yT,w1,show ¬(600:Int)<(p.length:Int) by omega,show (600:Int)<(q.length:Int) by omega,yx,yE,w3,f2]
   ·rw [yB (by omega)]
    cases found with
    | false=>
     rw [yB (by simp)];simp only [go_sem,ya,yd,yI,yp,yk,eP,av,t5,t6,t7,t8,yT,w1,show ¬(600:Int)<(p.length:Int) by omega,show ¬(600:Int)<(q.length:Int) by omega,yx,yE,w2,f1]
    | true=>
     have qu:=Dq _ rfl hp;have n7:=Dq _ rfl (hq rfl);generalize eY p=n at*
     generalize eY q=d at*
     subst qu;subst n7;obtain ⟨M,hM⟩:∃M:Nat,M=2400:=⟨_,rfl⟩;have bd:∀{m:Nat},(ap m).length<=600->Bd M (m:Int):=fun {m} hm=>by
      have h1:=G4 m;have h2:=G6 (ap m).length;have h3:(2:Nat)^(4*(ap m).length)<=2^M:=yV (by decide) (by omega);unfold Bd;rw [xq];exact yu h1 (xg h2 h3)
     obtain ⟨x,e1,hx⟩:=IY h.toTx (z:=(n:Int)) (by rw [j8];omega);obtain ⟨y,e2,hy⟩:=IY h.toTx (z:=(d:Int)) (by rw [j8];omega);rw [j8] at e1 e2;have kn:=bd (m:=n) (by omega);have kd:=bd (m:=d) (by omega);obtain ⟨g,e3,hg⟩:=ack h.toNu hx hy kn kd (by omega);obtain ⟨e4,A9⟩:=zo h.toNu (z:=1) (by decide) (by decide);have kg:Bd M ((wT (n:Int) (d:Int):Nat):Int):=by
      rcases xi d with h0 | h0
      ·subst h0;simpa using kn
      ·exact kd.le (by have:=Nat.gcd_le_right n h0;simpa using this)
     have e5:=acg h.toNu hg A9 (K:=M) kg (by unfold Bd;exact wO (by omega)) (by omega)
     have atN:wT (n:Int) (d:Int)=wD n d:=rfl;rw [atN] at e5;obtain ⟨xs,xw,rfl,sd⟩:=hx;obtain ⟨ys,yw,rfl,se⟩:=hy;obtain ⟨gs,gw,rfl,C7⟩:=hg;obtain ⟨l1,u1⟩:=sd.aB;obtain ⟨l2,u2⟩:=se.aB;obtain ⟨l3,u3⟩:=C7.aB;by_cases ic:wD n d=1
     ·rw [yB (by simp [ic])];have hs:bQ (((wD n d:Nat):Int)-1)=0:=by rw [ic];rfl
      rw [hs] at e5;simp only [go_sem,ya,yd,yI,yp,yk,eP,av,t5,t6,t7,t8,yT,w1,show ¬(600:Int)<((ap n).length:Int) by omega,show ¬(600:Int)<((ap d).length:Int) by omega,yx,yE,w2,f1,e1,e2,u1.ai,u2.ai,u3.ai,bc,bA,e3,e4,e5]
     ·rw [yN ⟨rfl,ic⟩];obtain ⟨c,hc,kK⟩:∃c,bQ (((wD n d:Nat):Int)-1)=c/\c≠0:=⟨_,rfl,fun e=>ic (by
       unfold bQ at e
       split at e
       ·exact absurd e (by decide)
       ·split at e
        ·omega
        ·exact absurd e (by decide))⟩
      rw [hc] at e5;simp only [go_sem,ya,yd,yI,yp,yk,eP,av,yU,t5,t6,t7,t8,yT,w1,show ¬(600:Int)<((ap n).length:Int) by omega,show ¬(600:Int)<((ap d).length:Int) by omega,yx,yE,w2,f1,e1,e2,u1.ai,u2.ai,u3.ai,bc,bA,e3,e4,e5,kK,yU,w5]
def OC (h:Ck P L) {s:List Nat} (hl:s.length<=1000000000):ah P L 86 [.str s] (aa (bZ s)):=by
 have key:∀(neg:Bool) (t:List Nat),t.length<=1000000000->bE P L (D P L) 128 [.str s,.str [45]]=some (.au [.str t,.bool neg])->ah P L 86 [.str s] (aa (mh neg t)):=by
  intro neg t hl e0;have e1:=atM h (t:=t) (by omega);obtain ⟨k,hk⟩:∃k,k=bG t:=⟨_,rfl⟩;have UN:k<=t.length:=by rw [hk];exact GF t
  have e2:=acv h (p:=t.take k) (by rw [yO];omega);have e3:=acv h (p:=t.drop (k+1)) (by rw [xO];omega);have lp:(t.take k).length=k:=by rw [yO];omega
  have lq:(t.drop (k+1)).length=t.length-k-1:=by rw [xO];omega
  unfold mh;rw [<-hk] at e1 ⊢;generalize hp:t.take k=p at*
  generalize hq:t.drop (k+1)=q at*
  obtain ⟨Bt,rB⟩:∃ok:Bool,ok=(dn p&&(!neg|| !(cN p [48]))):=⟨_,rfl⟩;obtain ⟨ok,im⟩:∃ok:Bool,ok=(Bt&&(!(decide (k<t.length))||(dn q&&(!(cN q [48])&& !(cN q [49]))))):=⟨_,rfl⟩
  have M9:(if dn p=false\/(neg=true/\p=[48]) then 1
    else if k<t.length/\(dn q=false\/q=[48]\/q=[49]) then 1
    else if 600<k\/600<t.length-k-1 then 4
    else if k<t.length/\wD (eY p) (eY q)≠1 then 1 else 0:Int)=(if ok=false then 1
    else if 600<p.length\/600<q.length then 4
    else if decide (k<t.length)=true/\wD (eY p) (eY q)≠1 then 1
    else 0):=by
   rw [lp,lq];have a1:(dn p=false\/(neg=true/\p=[48]))↔Bt=false:=by
    rw [rB];cases dn p<;>cases neg<;>simp
    by_cases e:p=[48]
    ·simp [e,Lt]
    ·simp [e,Lu e]
   have a2:ok=false↔(Bt=false\/(k<t.length/\(dn q=false\/q=[48]\/q=[49]))):=by
    rw [im];by_cases hs:k<t.length
    ·simp only [hs,yx,yT,uA,tT];cases Bt<;>cases dn q<;>simp
     by_cases e:q=[48]
     ·simp [e,Lt]
     ·by_cases e':q=[49]
      ·simp [e',Lt]
      ·simp [e,e',Lu e,Lu e']
    ·simp [hs]
   by_cases h1:Bt=false
   ·rw [yN (a1.2 h1),yN (a2.2 (.inl h1))]
   ·rw [yB (fun e=>h1 (a1.1 e))];by_cases h2:k<t.length/\(dn q=false\/q=[48]\/q=[49])
    ·rw [yN h2,yN (a2.2 (.inr h2))]
    ·rw [yB h2,yB (fun e=>(a2.1 e).elim h1 h2)];simp only [um]
  rw [M9];have atO:ok=true->dn p=true/\(decide (k<t.length)=true->dn q=true):=fun e=>by
   rw [im,yg] at e;obtain ⟨e1,e2⟩:=e;rw [rB,yg] at e1;refine ⟨e1.1,fun hs=>?_⟩;rw [hs,yT,uA,yg] at e2;exact e2.1
  have tail:∀tm,aj tm 5= .str p->aj tm 6= .str q->aj tm 7= .bool (decide (k<t.length))->aj tm 8= .bool ok->eX [.t 2] (D P L (av (av (av (av (av eP.body))))) ⟨tm,[],0,0⟩)=_:=fun tm t5 t6 t7 t8=>
   arZ h (by omega) (by omega) atO t5 t6 t7 t8
  have mid:∀tm,aj tm 5= .str p->aj tm 6= .str q->aj tm 7= .bool (decide (k<t.length))->aj tm 8= .bool Bt->
    ∃tm',D P L (a7 (av (av (av (av eP.body))))) ⟨tm,[],0,0⟩=some (.normal,⟨tm',[],0,0⟩)/\aj tm' 5= .str p/\aj tm' 6= .str q/\aj tm' 7= .bool (decide (k<t.length))/\aj tm' 8= .bool ok:=fun tm t5 t6 t7 t8=>by
   unfold ah at e3;by_cases hs:k<t.length
   ·rw [xj hs] at t7 im ⊢;simp only [yT,uA] at im
    cases Bt with
    | false=>
     rw [wB] at im;subst im;refine ⟨_,by simp only [go_sem,ya,eP,a7,av,t7,t8]<;>rfl,?_⟩
     simp only [go_sem,ya,t5,t6,t7,tT]
    | true=>
     rw [wF] at im
     cases hd:dn q with
     | false=>
      rw [hd] at e3 im;rw [wB] at im;subst im;refine ⟨_,by simp only [go_sem,ya,eP,a7,av,t6,t7,t8,e3]<;>rfl,?_⟩
      simp only [go_sem,ya,t5,t6,t7,tT]
     | true=>
      rw [hd] at e3 im;rw [wF] at im
      cases jv:cN q [48] with
      | true=>
       rw [jv,yT,wB] at im;subst im;refine ⟨_,by simp only [go_sem,ya,eP,a7,av,t6,t7,t8,e3,Aj,jv,yT]<;>rfl,?_⟩
       simp only [go_sem,ya,t5,t6,t7,tT]
      | false=>
       rw [jv,yU,wF] at im;subst im;refine ⟨_,by simp only [go_sem,ya,eP,a7,av,t6,t7,t8,e3,Aj,jv,yU]<;>rfl,?_⟩
       simp only [go_sem,ya,t5,t6,t7,tT]
   ·rw [yY hs] at t7 im ⊢;simp only [yU,ybD,vR] at im;subst im;refine ⟨_,by simp only [go_sem,eP,a7,av,t7]<;>rfl,?_⟩
    simp only [go_sem,ya,t5,t6,t7,t8,tT]
  have fin:∀tm,aj tm 5= .str p->aj tm 6= .str q->aj tm 7= .bool (decide (k<t.length))->aj tm 8= .bool Bt->
    D P L (.seq (a7 eP.body) (.seq (a7 (av eP.body)) (.seq (a7 (av (av eP.body))) (a7 (av (av (av eP.body))))))) ⟨[(0,.str s)],[],0,0⟩=some (.normal,⟨tm,[],0,0⟩)->ah P L 86 [.str s] _:=fun tm t5 t6 t7 t8 e=>by
   obtain ⟨tm',e',f5,f6,f7,f8⟩:=mid tm t5 t6 t7 t8;unfold ah;rw [aC h.h86];show eX [.t 2] (D P L (.seq (a7 eP.body) (.seq (a7 (av eP.body)) (.seq (a7 (av (av eP.body))) (.seq (a7 (av (av (av eP.body)))) (.seq (a7 (av (av (av (av eP.body))))) (av (av (av (av (av eP.body)))))))))) ⟨[(0,.str s)],[],0,0⟩)=_
   rw [aiK,e,fe,iz,e',fe];exact tail tm' f5 f6 f7 f8
  unfold ah at e2
  cases hd:dn p with
  | false=>
   rw [hd] at e2 rB;rw [wB] at rB;subst rB;refine fin _ ?_ ?_ ?_ ?_ (by simp only [go_sem,ya,eP,a7,av,e0,e1,e2]<;>rfl)<;>simp only [go_sem,ya]
  | true=>
   rw [hd] at e2 rB
   cases neg with
   | false=>
    simp only [yU,ybD] at rB;subst rB;refine fin _ ?_ ?_ ?_ ?_ (by simp only [go_sem,ya,eP,a7,av,e0,e1,e2,yU]<;>rfl)<;>simp only [go_sem,ya]
   | true=>
    simp only [yT,uA] at rB;subst rB;refine fin _ ?_ ?_ ?_ ?_ (by simp only [go_sem,ya,eP,a7,av,e0,e1,e2,yT,Aj]<;>rfl)<;>simp only [go_sem,ya]
 unfold bZ;have e0:=atL h s
 cases s with
 | nil=>exact key false [] (by simp) e0
 | cons b r=>
  by_cases hb:b=45
  ·subst hb;exact key true r (by simp at hl;omega) e0
  ·simp only [hb,xk];rw [yB (by simpa using hb)] at e0;exact key false (b::r) hl e0
end
def LN (z:Int):Bool:=decide (600<(ap z.natAbs).length)
def LG (r:Rat):Bool:=LN r.num||LN (r.den:Int)
def Pd {m B k:Nat} (hB:B<=3*k) (hk:0<k) (h:m<2^B):(ap m).length<=k:=by
 obtain ⟨j,rfl⟩:∃j,k=j+1:=⟨k-1,by omega⟩;refine qH (yu h (xg (yV (by decide) hB) ?_));rw [yad];exact vn (by decide) _
def Lv:∀f n:Nat,dh f n<=f
 | 0,_=>yA _
 | f+1,n=>by
  unfold dh
  cases yr n 0 with
  | true=>exact Nat.zero_le _
  | false=>have:=Lv f (n/2);simp only [yG];omega
def ZW {P:aF} {L:Lib} {f:cu} (h:L.pure 175=some Hg) {x:Nat} (hx:x<18446744073709551616):bE P L f 175 [uc x]=some (aa (dh 64 x:Nat)):=by
 rw [ir h];show (bif yJ x 18446744073709551616 then _ else none)=_
 rw [jQ hx];rfl
def Zh {V n top low:Nat} (hn:0<n) (h0:0<top) (ht:top<18446744073709551616) (hV:V=low+18446744073709551616^(n-1)*top) (hl:low<18446744073709551616^(n-1)):V<2^(64*(n-1)+dh 64 top):=by
 obtain ⟨l1,l2,l3⟩:=P0 h0 ht;have hle:=Lv 64 top;have h1:top<2^dh 64 top:=by
  have e:(18446744073709551616:Nat)=2^dh 64 top*2^(64-dh 64 top):=by rw [<-xL,show dh 64 top+(64-dh 64 top)=64 by omega]
  rw [e] at l3;exact Nat.lt_of_mul_lt_mul_right l3
 have h3:=yS (18446744073709551616^(n-1)) (show top+1<=2^dh 64 top from h1);rw [xL,yad]
 grind
section
variable {P:aF} {L:Lib}
def Yw (K:Nat):2^K<=18446744073709551616^(K/64+1):=by
 rw [show (18446744073709551616:Nat)=2^64 from rfl,<-yad];exact yV (by decide) (by omega)
def ar0 (h:Tx P L) {v:AV} {z:Int} {K:Nat} (hv:ck v z) (hz:Bd K z) (hK:K<=4000000000):∃B:Nat,ah P L 172 [v] (aa B)/\z.natAbs<2^B/\B<=K+64:=by
 obtain ⟨s,w,rfl,hn⟩:=hv;obtain ⟨l,u⟩:=hn.aB;obtain ⟨r,e1,hr⟩:=ru h.toNu hn;obtain ⟨ws,hw,g,JN,hb⟩:=hr;have hl:ws.length<=K/64+1:=mN JN hb (yu hz (Yw K));unfold ah at e1 ⊢;by_cases h0:ws=[]
 ·subst h0;have kN:z.natAbs=0:=by rw [<-hb];rfl
  refine ⟨0,?_,by rw [kN];decide,by omega⟩
  rw [aC h.SJ];simp only [go_sem,ya,yd,Ip,aM,bR,bA,u.pu,u.ai,u.one,e1,hw.len,yK,show ((0:Nat):Int)=0 from rfl,yx]
 ·have hp:0<ws.length:=vQ.2 h0;have lX:=GN JN h0;have qj:=gi (show 0<18446744073709551616 by decide) g (ws.length-1);have ei:=hw.br (i:=ws.length-1) (by omega);have di:=iP (b:=18446744073709551616) (l:=ws) (ws.length-1);have AY:=ll (sL g (ws.length-1));rw [yO,xF (by omega)] at AY;rw [show ws.length-1+1=ws.length by omega,yM (yA _)] at di;generalize ws.getD (ws.length-1) 0=top at*
  have e2:=ZW (P:=P) (f:=D P L) h.acn qj;have hle:=Lv 64 top;have Cc:=Zh hp (Nat.pos_of_ne_zero lX) qj di AY;rw [hb] at Cc;refine ⟨64*(ws.length-1)+dh 64 top,?_,Cc,by omega⟩;rw [aC h.SJ]
  simp only [go_sem,ya,yd,Ip,aM,bR,bA,u.pu,u.ai,u.one,e1,hw.len,show ¬(ws.length:Int)=0 by omega,show (ws.length:Int)-1=((ws.length-1:Nat):Int) by omega,wrapN (n:=ws.length-1) (by omega),show (64:Int)*((ws.length-1:Nat):Int)=((64*(ws.length-1):Nat):Int) by omega,wrapN (n:=64*(ws.length-1)) (by omega),ei,e2,show ((64*(ws.length-1):Nat):Int)+((dh 64 top:Nat):Int)=((64*(ws.length-1)+dh 64 top:Nat):Int) from rfl,wrapN (n:=64*(ws.length-1)+dh 64 top) (by omega)]
def atP (h:Tx P L) {v:AV} {z:Int} {K:Nat} (hv:ck v z) (hz:Bd K z) (hK:K<=4000000000):∃B:Nat,ah P L 172 [v] (aa B)/\z.natAbs<2^B/\B<=300000000000:=by
 obtain ⟨B,h1,h2,h3⟩:=ar0 h hv hz hK;exact ⟨B,h1,h2,by omega⟩
def aiL (z:Int):(if gk [45] (aP z)=true then (aP z).drop 1 else aP z)=ap z.natAbs:=by
 by_cases h:z<0
 ·rw [jJ h];rfl
 ·obtain ⟨m,rfl⟩:∃m:Nat,z=m:=⟨z.toNat,by omega⟩;rw [j8];obtain ⟨b,r,hb,h1,_⟩:=Dp m;rw [xq,hb,PA h1];rfl
def acw (h:Tx P L) {v:AV} {z:Int} {K:Nat} (hv:ck v z) (hz:Bd K z) (hK:K<=4000000000):ah P L 151 [v] (.bool (LN z)):=by
 obtain ⟨B,e1,hB,hBb⟩:=atP h hv hz hK;have e2:=UE h hv hz hK;obtain ⟨s,w,rfl,hn⟩:=hv;obtain ⟨l,u⟩:=hn.aB;have e3:bE P L (D P L) 153 [.str (aP z),.str [45]]=some (.str (ap z.natAbs)):=by
  rw [ir h.SG,<-aiL];show some (AV.str (bif gk [45] (aP z) then (aP z).drop 1 else aP z))=_
  cases gk [45] (aP z)<;>rfl
 unfold ah at e1 e2 ⊢;rw [aC h.atA];unfold LN;by_cases h1:1800<B
 ·simp only [go_sem,ya,yd,ML,aM,bR,bA,u.pu,u.ai,u.one,e1,show (1800:Int)<(B:Int) by omega,yx,e2,e3];by_cases h2:600<(ap z.natAbs).length
  ·rw [xj h2,xj (by omega)]
  ·rw [yY h2,yY (by omega)]
 ·have h2:=Pd (k:=600) (by omega) (by decide) hB;rw [yY (by omega)];simp only [go_sem,ya,yd,ML,aM,bR,bA,u.pu,u.ai,u.one,e1,show ¬(1800:Int)<(B:Int) by omega,yE]
def atQ (h:Tx P L) {v:AV} {a:Rat} {K:Nat} (hv:bO v a) (ka:Hq K a) (hK:K<=4000000000):ah P L 107 [v] (.bool (LG a)):=by
 obtain ⟨s1,w1,s2,w2,rfl,h1,h2⟩:=hv;have e1:=acw h ⟨s1,w1,rfl,h1⟩ ka.1 hK;have e2:=acw h ⟨s2,w2,rfl,h2⟩ ka.2 hK;obtain ⟨l1,u1⟩:=h1.aB;obtain ⟨l2,u2⟩:=h2.aB;unfold ah at e1 e2 ⊢;rw [aC h.atB];unfold LG
 cases hb:LN a.num with
 | true=>
  rw [hb] at e1;simp only [go_sem,ya,yd,MF,aM,bl,yf,bR,bA,u1.pu,u1.ai,u1.one,u2.pu,u2.one,e1];rfl
 | false=>
  rw [hb] at e1;simp only [go_sem,ya,yd,MF,aM,bl,yf,show vL 2 [aa s1,w1,aa s2,w2]=[aa s2,w2] from rfl,bR,bA,u1.pu,u1.ai,u1.one,u2.pu,u2.ai,u2.one,e1,e2];rfl
end
def aiM (p s:Nat):p*(s%1000000000)+p*1000000000*(s/1000000000)=p*s:=by
 rw [xp,<-xB,uL]
def GQ {l:List Int} {i:Nat} (h:l.length<=i):l.getD i 0=0:=by simp_all
def ak6 {a b out:List Int} {i c:Nat} {x y:Int} (hx:x=a.getD i 0) (hy:y=b.getD i 0) (h1:0<=x) (h2:0<=y) (hl:out.length=i) (hv:dv out+1000000000^i*c=dv (a.take i)+dv (b.take i)):
  dv (out++[(((x.toNat+y.toNat+c)%1000000000:Nat):Int)])+1000000000^(i+1)*((x.toNat+y.toNat+c)/1000000000)=dv (a.take (i+1))+dv (b.take (i+1)):=by
 rw [ol,ol,lM,hl,<-hx,<-hy];simp only [dv,wo,xD,yW,y7]
 have:=aiM (1000000000^i) (x.toNat+y.toNat+c)
 grind
section
variable {P:aF} {L:Lib}
def aqc (mi:Has P L 302 rk) {v w:AV} {a b:List Int} (hv:a8 v a) (hw:a8 w b) (ha:dg a) (hb:dg b) {N:Nat} (la:a.length<=N) (lb:b.length<=N) (lN:N<=20000000000):
  ∀k s,(∃(i c:Nat) (out:List Int),2*(N-i)+c=k/\out.length=i/\c<=1/\dg out/\dv out+1000000000^i*c=dv (a.take i)+dv (b.take i)/\i<=N+1/\(i<=N\/c=0)/\
    ((i=0/\aT [0,1,5,6,7] s=⟨[(0,v),(1,w),(5,.ae),(6,aa c),(7,aa i)],[],0,0⟩)\/
    (0<i/\aT [0,1,5,6,7] s=⟨[(0,v),(1,w),(5,.ay 0 0 i),(6,aa c),(7,aa i)],[(0,.cells true true false 1 (out.map aa))],1,0⟩)))->
   ∃ex s',D P L (.loop [0,1,5,6,7] oA) s=some (ex,s')/\∃tm out,ex= .exit 0/\dg out/\dv out=dv a+dv b/\out.length<=N+1/\((out=[]/\aj tm 5= .ae/\s'=⟨tm,[],0,0⟩)\/(0<out.length/\aj tm 5= .ay 0 0 out.length/\s'=⟨tm,[(0,.cells true true false 1 (out.map aa))],1,0⟩)):=by
 intro dq sq;generalize bt:aT [0,1,5,6,7] sq=s0;revert bt s0 sq dq;apply dU;rintro k s ⟨i,c,out,hk,hlen,hc,kP,aG,hi,EC,hs⟩;have e1:=Sn mi hv i;have e2:=Sn mi hw i;unfold ah at e1 e2;have ga:=gX ha i;have gb:=gX hb i;by_cases rY:i<a.length\/i<b.length\/0<c
 ·left
  obtain ⟨x,hx⟩:∃x,x=a.getD i 0:=⟨_,rfl⟩;obtain ⟨y,hy⟩:∃y,y=b.getD i 0:=⟨_,rfl⟩;rw [<-hx] at e1 ga;rw [<-hy] at e2 gb;have kC:=ak6 (c:=c) hx hy ga.1 gb.1 hlen aG;obtain ⟨s0,ml⟩:∃s0,s0=x.toNat+y.toNat+c:=⟨_,rfl⟩;rw [<-ml] at kC;have AU:x+y+(c:Int)=(s0:Int):=by omega
  have hs9:s0<2000000000:=by omega
  have hr:((s0:Nat):Int).tmod 1000000000=((s0%1000000000:Nat):Int):=by rw [xr (by omega)];rfl
  have hq:((s0:Nat):Int).tdiv 1000000000=((s0/1000000000:Nat):Int):=by rw [xJ (by omega)];rfl
  have gC:s0/1000000000<=1:=by omega
  have ar1:2*(N-(i+1))+s0/1000000000<k:=by
   by_cases hm:i<N
   ·omega
   ·have:c=1:=by omega
    have zI:x=0:=by rw [hx];exact GQ (by omega)
    have iL:y=0:=by rw [hy];exact GQ (by omega)
    subst zI;subst iL
    have:s0=1:=by rw [ml,this];rfl
    subst this;omega
  have pU:dg (out++[((s0%1000000000:Nat):Int)]):=gG.2 ⟨kP,jM.2 (by omega)⟩;have RA:(out++[((s0%1000000000:Nat):Int)]).length=i+1:=by simp [hlen]
  have atS:i+1<=N\/s0/1000000000=0:=by
   by_cases hm:i<N
   ·exact .inl hm
   ·right
    have:c=1:=by omega
    have zI:x=0:=by rw [hx];exact GQ (by omega)
    have iL:y=0:=by rw [hy];exact GQ (by omega)
    subst zI;subst iL
    have:s0=1:=by rw [ml,this];rfl
    subst this;rfl
  have fin:∃s',D P L oA s=some (.normal,s')/\aT [0,1,5,6,7] s'=⟨[(0,v),(1,w),(5,.ay 0 0 (i+1)),(6,aa (s0/1000000000:Nat)),(7,aa (i+1:Nat))],[(0,.cells true true false 1 ((out++[((s0%1000000000:Nat):Int)]).map aa))],1,0⟩:=by
   have three:((i:Int)<a.length)\/(¬(i:Int)<a.length/\(i:Int)<b.length)\/(¬(i:Int)<a.length/\¬(i:Int)<b.length/\(0:Int)<c):=by omega
   rcases three with t1 | ⟨t1,t2⟩ | ⟨t1,t2,t3⟩
   ·rcases hs with ⟨h0,rfl⟩ | ⟨h0,rfl⟩
    ·subst h0;have iZ:out=[]:=yH hlen;subst iZ
     simp only [go_sem,ya,yd,xQ,yI,yp,yk,oA,hv.len,hv.ai,hw.ai,t1,e1,e2,wrap64 (n:=x+y) (by omega) (by omega),AU,wrap64 (n:=(s0:Int)) (by omega) (by omega),fD _ _ _ (show (1000000000:Int)≠0 by decide),eS _ _ _ (show (1000000000:Int)≠0 by decide),hr,hq,wrap64 (n:=((s0/1000000000:Nat):Int)) (by omega) (by omega),kW];refine ⟨_,rfl,?_⟩;rw [wrap64 (by omega) (by omega)];simp only [go_sem,ya,yd,az,aE hv.pu,aJ _ hv.pu,aE hw.pu,aJ _ hw.pu]<;>rfl
    ·simp only [go_sem,ya,yd,yp,yk,oA,hv.len,hv.ai,hw.ai,t1,e1,e2,wrap64 (n:=x+y) (by omega) (by omega),AU,wrap64 (n:=(s0:Int)) (by omega) (by omega),fD _ _ _ (show (1000000000:Int)≠0 by decide),hr]
     rw [kh (ex:=false) (pu:=true) (cs:=out.map aa) (by simp only [go_sem,ya]) (by rw [xo,hlen,yk]) (by omega) (by omega) (by decide) (by simp only [go_sem])]
     simp only [go_sem,ya,yd,eS _ _ _ (show (1000000000:Int)≠0 by decide),hq,wrap64 (n:=((s0/1000000000:Nat):Int)) (by omega) (by omega)];refine ⟨_,rfl,?_⟩;rw [wrap64 (by omega) (by omega),xC];simp only [go_sem,ya,yd,az,aE hv.pu,aJ _ hv.pu,aE hw.pu,aJ _ hw.pu]<;>rfl
   ·rcases hs with ⟨h0,rfl⟩ | ⟨h0,rfl⟩
    ·subst h0;have iZ:out=[]:=yH hlen;subst iZ
     simp only [go_sem,ya,yd,xQ,yI,yp,yk,oA,hv.len,hv.ai,hw.len,hw.ai,t1,t2,e1,e2,wrap64 (n:=x+y) (by omega) (by omega),AU,wrap64 (n:=(s0:Int)) (by omega) (by omega),fD _ _ _ (show (1000000000:Int)≠0 by decide),eS _ _ _ (show (1000000000:Int)≠0 by decide),hr,hq,wrap64 (n:=((s0/1000000000:Nat):Int)) (by omega) (by omega),kW];refine ⟨_,rfl,?_⟩;rw [wrap64 (by omega) (by omega)];simp only [go_sem,ya,yd,az,aE hv.pu,aJ _ hv.pu,aE hw.pu,aJ _ hw.pu]<;>rfl
    ·simp only [go_sem,ya,yd,yp,yk,oA,hv.len,hv.ai,hw.len,hw.ai,t1,t2,e1,e2,wrap64 (n:=x+y) (by omega) (by omega),AU,wrap64 (n:=(s0:Int)) (by omega) (by omega),fD _ _ _ (show (1000000000:Int)≠0 by decide),hr]
     rw [kh (ex:=false) (pu:=true) (cs:=out.map aa) (by simp only [go_sem,ya]) (by rw [xo,hlen,yk]) (by omega) (by omega) (by decide) (by simp only [go_sem])]
     simp only [go_sem,ya,yd,eS _ _ _ (show (1000000000:Int)≠0 by decide),hq,wrap64 (n:=((s0/1000000000:Nat):Int)) (by omega) (by omega)];refine ⟨_,rfl,?_⟩;rw [wrap64 (by omega) (by omega),xC];simp only [go_sem,ya,yd,az,aE hv.pu,aJ _ hv.pu,aE hw.pu,aJ _ hw.pu]<;>rfl
   ·rcases hs with ⟨h0,rfl⟩ | ⟨h0,rfl⟩
    ·subst h0;have iZ:out=[]:=yH hlen;subst iZ
     simp only [go_sem,ya,yd,xQ,yI,yp,yk,oA,hv.len,hv.ai,hw.len,hw.ai,t1,t2,t3,e1,e2,wrap64 (n:=x+y) (by omega) (by omega),AU,wrap64 (n:=(s0:Int)) (by omega) (by omega),fD _ _ _ (show (1000000000:Int)≠0 by decide),eS _ _ _ (show (1000000000:Int)≠0 by decide),hr,hq,wrap64 (n:=((s0/1000000000:Nat):Int)) (by omega) (by omega),kW];refine ⟨_,rfl,?_⟩;rw [wrap64 (by omega) (by omega)];simp only [go_sem,ya,yd,az,aE hv.pu,aJ _ hv.pu,aE hw.pu,aJ _ hw.pu]<;>rfl
    ·simp only [go_sem,ya,yd,yp,yk,oA,hv.len,hv.ai,hw.len,hw.ai,t1,t2,t3,e1,e2,wrap64 (n:=x+y) (by omega) (by omega),AU,wrap64 (n:=(s0:Int)) (by omega) (by omega),fD _ _ _ (show (1000000000:Int)≠0 by decide),hr]
     rw [kh (ex:=false) (pu:=true) (cs:=out.map aa) (by simp only [go_sem,ya]) (by rw [xo,hlen,yk]) (by omega) (by omega) (by decide) (by simp only [go_sem])]
     simp only [go_sem,ya,yd,eS _ _ _ (show (1000000000:Int)≠0 by decide),hq,wrap64 (n:=((s0/1000000000:Nat):Int)) (by omega) (by omega)];refine ⟨_,rfl,?_⟩;rw [wrap64 (by omega) (by omega),xC];simp only [go_sem,ya,yd,az,aE hv.pu,aJ _ hv.pu,aE hw.pu,aJ _ hw.pu]<;>rfl
  obtain ⟨s',f1,f2⟩:=fin;exact ⟨s',_,f1,ar1,i+1,s0/1000000000,_,rfl,RA,gC,pU,kC,by omega,atS,.inr ⟨by omega,f2⟩⟩
 ·right
  have kK:c=0:=by omega
  subst kK;rw [xD,yW,yM (by omega),yM (by omega)] at aG;rcases hs with ⟨h0,rfl⟩ | ⟨h0,rfl⟩
  ·simp only [go_sem,ya,oA,hv.len,hw.len,show ¬(i:Int)<a.length by omega,show ¬(i:Int)<b.length by omega,show ¬(0:Int)<((0:Nat):Int) by omega];exact ⟨_,_,rfl,by simp,_,out,rfl,kP,aG,by omega,.inl ⟨yH (by omega),by simp only [go_sem,ya],rfl⟩⟩
  ·simp only [go_sem,ya,oA,hv.len,hw.len,show ¬(i:Int)<a.length by omega,show ¬(i:Int)<b.length by omega,show ¬(0:Int)<((0:Nat):Int) by omega];exact ⟨_,_,rfl,by simp,_,out,rfl,kP,aG,by omega,.inr ⟨by omega,by rw [hlen];simp only [go_sem,ya],rfl⟩⟩
def acx (h:Has P L 295 IB) (mi:Has P L 302 rk) {v w:AV} {a b:List Int} (hv:a8 v a) (hw:a8 w b) (ha:dg a) (hb:dg b) (la:a.length<=20000000000) (lb:b.length<=20000000000):
  ∃r out,ah P L 295 [v,w] r/\a8 (shut r) out/\dg out/\dv out=dv a+dv b/\out.length<=max a.length b.length+1:=by
 have iY:∃out,ah P L 295 [v,w] (if out=[] then .ae else .cr false 1 out.length (out.map aa))/\dg out/\dv out=dv a+dv b/\out.length<=max a.length b.length+1:=by
  unfold ah;rw [aC h];simp only [go_sem,IB];generalize hq:D P L (.loop [0,1,5,6,7] oA) _=q;obtain ⟨ex,s,rfl,tm,out,rfl,hd,aG,hl,hs⟩:=b9 hq (aqc (P:=P) (L:=L) mi hv hw ha hb (N:=max a.length b.length) (by omega) (by omega) (by omega) (2*(max a.length b.length))) ⟨0,0,[],by omega,rfl,by omega,rfl,by simp [dv],by omega,.inr rfl,.inl ⟨rfl,by simp only [go_sem,ya,az,aE hv.pu,aJ _ hv.pu,aE hw.pu,aJ _ hw.pu]<;>rfl⟩⟩
  refine ⟨out,?_,hd,aG,hl⟩;rcases hs with ⟨h0,h5,rfl⟩ | ⟨h0,h5,rfl⟩
  ·rw [yN h0];simp only [go_sem,az,h5]
  ·rw [yB (by intro e;subst e;simp at h0)];simp only [go_sem,yd,az,h5];exact Wz (KS _ _ _) (by simp) (by decide)
 obtain ⟨out,g1,g2,g3,g4⟩:=iY;refine ⟨_,out,g1,?_,g2,g3,g4⟩
 split
 ·rename_i e;subst e;exact qG
 ·exact iQ false out
def SS (h:Has P L 296 ri) {v w:AV} {a b:List Int} (hv:a8 v a) (hw:a8 w b) (ha:dg a) (hb:dg b) (na:nz a) (nb:nz b) (la:a.length<=20000000000) (lb:b.length<=20000000000):
  ah P L 296 [v,w] (aa (dG (dv a) (dv b))):=by
 unfold ah;rw [aC h];by_cases hlen:a.length=b.length
 ·have key:=jZ (P:=P) (L:=L) (live:=[0,1,5]) (a:=BY)
   (I:=fun k st=>∃j:Nat,st=⟨[(0,v),(1,w),(5,aa ((j:Int)-1))],[],0,0⟩/\j<=a.length/\j=k/\a.drop j=b.drop j)
   (Q:=fun ex st=>∃tm ct,st=⟨tm,[],ct,0⟩/\((ex= .ret/\aj tm 4=aa (dG (dv a) (dv b)))\/(ex= .exit 0/\a=b))) ?_
  ·simp only [go_sem,ya,ri,hv.len,hw.len,show (a.length:Int)=b.length by omega];generalize hq:D P L (.loop [0,1,5] BY) _=q;obtain ⟨ex,st,rfl,tm,ct,rfl,h2⟩:=b9 hq (key a.length) ⟨a.length,by
    rw [wrap64 (by omega) (by omega)];rw [hlen]
    simp only [go_sem,ya,az,aE hv.pu,aJ _ hv.pu,aE hw.pu,aJ _ hw.pu]<;>rfl,yA _,rfl,by rw [y9 (yA _),y9 (by omega)]⟩
   rcases h2 with ⟨rfl,h2⟩ | ⟨rfl,h2⟩
   ·simp only [go_sem,h2]
   ·simp only [go_sem,az];subst h2;simp [dG]
  ·rintro k st ⟨j,rfl,hj,rfl,he⟩
   cases j with
   | zero=>
    right
    simp only [go_sem,ya,BY,show ¬(0:Int)<=((0:Nat):Int)-1 by omega];exact ⟨_,_,rfl,by simp,_,_,rfl,.inr ⟨rfl,by simpa using he⟩⟩
   | succ i=>
    have h1:i<a.length:=by omega
    have h2:i<b.length:=by omega
    have EI:=Y5 ha hb h1 h2 he;have aR:=Y5 hb ha h2 h1 he.symm;by_cases c1:a[i]<b[i]
    ·right
     simp only [go_sem,ya,BY,show ((i+1:Nat):Int)-1=(i:Int) by omega,show (0:Int)<=(i:Int) by omega,hv.br h1,hw.br h2,c1];refine ⟨_,_,rfl,by simp,_,_,rfl,.inl ⟨rfl,?_⟩⟩;simp only [go_sem];unfold dG;rw [yN (EI c1)]
    ·by_cases c2:b[i]<a[i]
     ·right
      simp only [go_sem,ya,BY,show ((i+1:Nat):Int)-1=(i:Int) by omega,show (0:Int)<=(i:Int) by omega,hv.br h1,hw.br h2,c1,c2];refine ⟨_,_,rfl,by simp,_,_,rfl,.inl ⟨rfl,?_⟩⟩;simp only [go_sem];unfold dG;rw [yB (by omega),yN (by omega)]
     ·left
      simp only [go_sem,ya,BY,show ((i+1:Nat):Int)-1=(i:Int) by omega,show (0:Int)<=(i:Int) by omega,hv.br h1,hw.br h2,c1,c2];refine ⟨_,i,rfl,by omega,i,?_,by omega,rfl,?_⟩
      ·rw [wrap64 (by omega) (by omega)];simp only [go_sem,ya,az,aE hv.pu,aJ _ hv.pu,aE hw.pu,aJ _ hw.pu]<;>rfl
      ·rw [yP h1,yP h2,he,show a[i]=b[i] by omega]
 ·by_cases c1:a.length<b.length
  ·have:=QF ha nb hb c1
   simp only [go_sem,ya,ri,hv.len,hw.len,show ¬(a.length:Int)=b.length by omega,show (a.length:Int)<b.length by omega];unfold dG;rw [yN this]
  ·have:=QF hb na ha (show b.length<a.length by omega)
   simp only [go_sem,ya,ri,hv.len,hw.len,show ¬(a.length:Int)=b.length by omega,show ¬(a.length:Int)<b.length by omega];unfold dG;rw [yB (by omega),yN this]
def ak7 {a b out:List Int} {i c:Nat} {x y z:Int} {c':Nat} (hx:x=a.getD i 0) (hy:y=b.getD i 0) (h1:0<=x) (h2:0<=y) (h3:0<=z) (hz:z=x-y-c+1000000000*c') (hl:out.length=i) (hv:dv out+dv (b.take i)=dv (a.take i)+1000000000^i*c):
  dv (out++[z])+dv (b.take (i+1))=dv (a.take (i+1))+1000000000^(i+1)*c':=by
 rw [ol,ol,lM,hl,<-hx,<-hy];simp only [dv,xD,yW,y7];have e:z.toNat+y.toNat+c=x.toNat+1000000000*c':=by omega
 grind
def aqd (mi:Has P L 302 rk) {v w:AV} {a b:List Int} (hv:a8 v a) (hw:a8 w b) (ha:dg a) (hb:dg b) (la:a.length<=20000000000) (hle:dv b<=dv a) (C5:b.length<=a.length):
  ∀k s,(∃(i c:Nat) (out:List Int),i+k=a.length/\out.length=i/\c<=1/\dg out/\dv out+dv (b.take i)=dv (a.take i)+1000000000^i*c/\
    ((i=0/\aT [0,1,5,6,7] s=⟨[(0,v),(1,w),(5,.ae),(6,aa c),(7,aa i)],[],0,0⟩)\/
    (0<i/\aT [0,1,5,6,7] s=⟨[(0,v),(1,w),(5,.ay 0 0 i),(6,aa c),(7,aa i)],[(0,.cells true true false 1 (out.map aa))],1,0⟩)))->
   ∃ex s',D P L (.loop [0,1,5,6,7] qQ) s=some (ex,s')/\∃tm out,ex= .exit 0/\dg out/\dv out+dv b=dv a/\out.length<=20000000000/\((out=[]/\aj tm 5= .ae/\s'=⟨tm,[],0,0⟩)\/(0<out.length/\aj tm 5= .ay 0 0 out.length/\s'=⟨tm,[(0,.cells true true false 1 (out.map aa))],1,0⟩)):=by
 intro dq sq;generalize bt:aT [0,1,5,6,7] sq=s0;revert bt s0 sq dq;apply dU;rintro k s ⟨i,c,out,hk,hlen,hc,kP,aG,hs⟩;have e2:=Sn mi hw i;unfold ah at e2;have ga:=gX ha i;have gb:=gX hb i;by_cases rY:i<a.length
 ·left
  obtain ⟨x,hx⟩:∃x,x=a.getD i 0:=⟨_,rfl⟩;obtain ⟨y,hy⟩:∃y,y=b.getD i 0:=⟨_,rfl⟩;have sd:a[i]=x:=by rw [hx];simp [xx,xW rY]
  have e1:=hv.br rY;rw [sd] at e1;rw [<-hx] at ga;rw [<-hy] at e2 gb;obtain ⟨z,c',hz,gC,kN,lH,Cd⟩:∃(z:Int) (c':Nat),z=x-y-c+1000000000*c'/\c'<=1/\0<=z/\z<1000000000/\((x-y-c<0/\c'=1)\/(¬x-y-c<0/\c'=0)):=by
   by_cases h:x-y-c<0
   ·exact ⟨x-y-c+1000000000,1,by omega,by omega,by omega,by omega,.inl ⟨h,rfl⟩⟩
   ·exact ⟨x-y-c,0,by omega,by omega,by omega,by omega,.inr ⟨h,rfl⟩⟩
  have kC:=ak7 hx hy ga.1 gb.1 kN hz hlen aG;have pU:dg (out++[z]):=gG.2 ⟨kP,jM.2 ⟨kN,lH⟩⟩;have RA:(out++[z]).length=i+1:=by simp [hlen]
  have fin:∃s',D P L qQ s=some (.normal,s')/\aT [0,1,5,6,7] s'=⟨[(0,v),(1,w),(5,.ay 0 0 (i+1)),(6,aa c'),(7,aa (i+1:Nat))],[(0,.cells true true false 1 ((out++[z]).map aa))],1,0⟩:=by
   rcases Cd with ⟨eL,rfl⟩ | ⟨eL,rfl⟩
   ·have fo:x-y-c+1000000000=z:=by omega
    rcases hs with ⟨h0,rfl⟩ | ⟨h0,rfl⟩
    ·subst h0;have iZ:out=[]:=yH hlen;subst iZ
     simp only [go_sem,ya,yd,xQ,yI,yp,yk,qQ,hv.len,hw.ai,show ((0:Nat):Int)<a.length by omega,e1,e2,wrap64 (n:=x-y) (by omega) (by omega),wrap64 (n:=x-y-(c:Int)) (by omega) (by omega),eL,fo,wrap64 (n:=z) (by omega) (by omega),kW];refine ⟨_,rfl,?_⟩;rw [wrap64 (by omega) (by omega)];simp only [go_sem,ya,yd,az,aE hv.pu,aJ _ hv.pu,aE hw.pu,aJ _ hw.pu]<;>rfl
    ·simp only [go_sem,ya,yd,yp,yk,qQ,hv.len,hw.ai,show (i:Int)<a.length by omega,e1,e2,wrap64 (n:=x-y) (by omega) (by omega),wrap64 (n:=x-y-(c:Int)) (by omega) (by omega),eL,fo,wrap64 (n:=z) (by omega) (by omega)]
     rw [kh (ex:=false) (pu:=true) (cs:=out.map aa) (by simp only [go_sem,ya]) (by rw [xo,hlen,yk]) (by omega) (by omega) (by decide) (by simp only [go_sem])];simp only [go_sem,ya,yd];refine ⟨_,rfl,?_⟩;rw [wrap64 (by omega) (by omega),xC];simp only [go_sem,ya,yd,az,aE hv.pu,aJ _ hv.pu,aE hw.pu,aJ _ hw.pu]<;>rfl
   ·have fo:x-y-c=z:=by omega
    have eL:¬z<0:=by omega
    rcases hs with ⟨h0,rfl⟩ | ⟨h0,rfl⟩
    ·subst h0;have iZ:out=[]:=yH hlen;subst iZ
     simp only [go_sem,ya,yd,xQ,yI,yp,yk,qQ,hv.len,hw.ai,show ((0:Nat):Int)<a.length by omega,e1,e2,wrap64 (n:=x-y) (by omega) (by omega),fo,wrap64 (n:=z) (by omega) (by omega),eL,kW];refine ⟨_,rfl,?_⟩;rw [wrap64 (by omega) (by omega)];simp only [go_sem,ya,yd,az,aE hv.pu,aJ _ hv.pu,aE hw.pu,aJ _ hw.pu]<;>rfl
    ·simp only [go_sem,ya,yd,yp,yk,qQ,hv.len,hw.ai,show (i:Int)<a.length by omega,e1,e2,wrap64 (n:=x-y) (by omega) (by omega),fo,wrap64 (n:=z) (by omega) (by omega),eL]
     rw [kh (ex:=false) (pu:=true) (cs:=out.map aa) (by simp only [go_sem,ya]) (by rw [xo,hlen,yk]) (by omega) (by omega) (by decide) (by simp only [go_sem])];simp only [go_sem,ya,yd];refine ⟨_,rfl,?_⟩;rw [wrap64 (by omega) (by omega),xC];simp only [go_sem,ya,yd,az,aE hv.pu,aJ _ hv.pu,aE hw.pu,aJ _ hw.pu]<;>rfl
  obtain ⟨s',f1,f2⟩:=fin;exact ⟨s',k-1,f1,by omega,i+1,c',_,by omega,RA,gC,pU,kC,.inr ⟨by omega,f2⟩⟩
 ·right
  have aa4:dv out+dv b=dv a:=by
   rw [yM (by omega),yM (by omega)] at aG;have aR:=jA kP;rw [hlen] at aR;rcases (show c=0\/c=1 by omega) with rfl | rfl
   ·omega
   ·omega
  rcases hs with ⟨h0,rfl⟩ | ⟨h0,rfl⟩
  ·simp only [go_sem,ya,qQ,hv.len,show ¬(i:Int)<a.length by omega];exact ⟨_,_,rfl,by simp,_,out,rfl,kP,aa4,by omega,.inl ⟨yH (by omega),by simp only [go_sem,ya],rfl⟩⟩
  ·simp only [go_sem,ya,qQ,hv.len,show ¬(i:Int)<a.length by omega];exact ⟨_,_,rfl,by simp,_,out,rfl,kP,aa4,by omega,.inr ⟨by omega,by rw [hlen];simp only [go_sem,ya],rfl⟩⟩
def acy (h:Has P L 297 IC) (mi:Has P L 302 rk) (cD:Has P L 300 lD) {v w:AV} {a b:List Int} (hv:a8 v a) (hw:a8 w b) (ha:dg a) (hb:dg b) (na:nz a) (nb:nz b) (la:a.length<=20000000000) (hle:dv b<=dv a):
  ∃r out,ah P L 297 [v,w] r/\a8 r out/\shut r=r/\dg out/\nz out/\dv out+dv b=dv a:=by
 have C5:b.length<=a.length:=by
  by_cases h:a.length<b.length
  ·have:=QF ha nb hb h;omega
  ·omega
 unfold ah;rw [aC h];simp only [go_sem,IC];generalize hq:D P L (.loop [0,1,5,6,7] qQ) _=q;obtain ⟨ex,s,rfl,tm,out,rfl,hd,aG,hl,hs⟩:=b9 hq (aqd (P:=P) (L:=L) mi hv hw ha hb la hle C5 a.length) ⟨0,0,[],by omega,rfl,by omega,rfl,by simp [dv],.inl ⟨rfl,by simp only [go_sem,ya,az,aE hv.pu,aJ _ hv.pu,aE hw.pu,aJ _ hw.pu]<;>rfl⟩⟩
 have nP:=iQ false out;rcases hs with ⟨h0,h5,rfl⟩ | ⟨h0,h5,rfl⟩
 ·subst h0;obtain ⟨r,e1,hr,jH⟩:=AQ cD (v:= .ae) (l:=[]) qG (by simp);refine ⟨r,dI [],?_,hr,jH,rfl,rfl,by rw [sD];exact aG⟩
  simp only [go_sem,az,h5,e1,jH,hr.dQ]
 ·obtain ⟨r,e1,hr,jH⟩:=AQ cD nP hl;refine ⟨r,dI out,?_,hr,jH,Ab hd,Dx out,by rw [sD];exact aG⟩
  have il:∀hp:Hp,lE 0 out.length (some (false,1,out.map aa,hp))=some (.aA false out.length (out.map aa),hp):=fun hp=>nf false (by simp) (by decide)
  simp only [go_sem,yd,az,h5,il,e1,jH,hr.dQ]
end
def Bu {hp:Hp} {ct id o:Nat} {v:Int} {ex:Bool} {l:List Int} (h:o<l.length):ij hp ct id o 1 [.int .i64 v] (some (.cells true true ex 1 (l.map aa)))=some (.au [],aU hp id (.cells true true ex 1 ((l.set o v).map aa)),ct):=by
 rw [sY (by rfl) (by simp;omega) (by rfl)]
 have:over o [AV.int .i64 v] (l.map aa)=(l.set o v).map aa:=by
  simp only [over,yz,yK,yf];rw [List.map_set,List.set_eq_take_append_cons_drop,yN (by simpa using h)]
  simp
 rw [this];rfl
def qZ {l:List Int} {o:Nat} (h:o<l.length):vL o (l.map aa)=AV.int .i64 (l.getD o 0)::vL (o+1) (l.map aa):=by
 rw [yP (by simpa using h)]
 grind
def pM {v:AV} {l:List Int} (hv:a8 v l) {i:Nat} (h:i<l.length):jj 1 i v=some (.aH (.int .i64 (l.getD i 0)::(l.map aa).drop (i+1))):=by
 rw [hv.br h]
 grind
def ak8 {o x y c:Int} (ho:0<=o/\o<1000000000) (hx:0<=x/\x<1000000000) (hy:0<=y/\y<1000000000) (hc:0<=c/\c<1000000000):
  (0<=x*y/\x*y<=999999998000000001)/\0<=o+x*y+c/\o+x*y+c<1000000000000000000:=by
 have h1:=tz hx.1 hy.1;have h2:=yco (show x<=999999999 by omega) (show y<=999999999 by omega) hy.1 (by decide);omega
section
variable {P:aF} {L:Lib}
def aqe {v w:AV} {a b:List Int} (hv:a8 v a) (hw:a8 w b) (ha:dg a) (hb:dg b) (la:a.length<=20000000000) (lb:b.length<=20000000000) {n i:Nat} (hn:n=a.length+b.length) (hi:i<a.length) {out0:List Int}:
  ∀k s,(∃(j:Nat) (c:Int) (out:List Int),aT [0,1,5,6,7,8] s=⟨[(0,v),(1,w),(5,.ay 0 0 n),(6,aa i),(7,aa c),(8,aa j)],[(0,.cells true true true 1 (out.map aa))],1,0⟩/\j+k=b.length/\out.length=n/\dg out/\(0<=c/\c<1000000000)/\
    dv out+1000000000^i*1000000000^j*c.toNat=dv out0+1000000000^i*((a.getD i 0).toNat*dv (b.take j))/\(∀m,i+b.length<=m->out.getD m 0=out0.getD m 0))->
   ∃ex s',D P L (.loop [0,1,5,6,7,8] HE) s=some (ex,s')/\∃tm c out,s'=⟨tm,[(0,.cells true true true 1 (out.map aa))],1,0⟩/\ex= .exit 2/\aj tm 0=v/\aj tm 1=w/\aj tm 5= .ay 0 0 n/\aj tm 6=aa i/\aj tm 7=aa c/\out.length=n/\dg out/\(0<=c/\c<1000000000)/\
    dv out+1000000000^i*1000000000^b.length*c.toNat=dv out0+1000000000^i*((a.getD i 0).toNat*dv b)/\(∀m,i+b.length<=m->out.getD m 0=out0.getD m 0):=by
 intro dq sq;generalize bt:aT [0,1,5,6,7,8] sq=s0;revert bt s0 sq dq;apply dU;rintro k s ⟨j,c,out,rfl,hk,hlen,hd,hc,aG,fA⟩;by_cases hj:j<b.length
 ·left
  obtain ⟨x,hx⟩:∃x,x=a.getD i 0:=⟨_,rfl⟩;obtain ⟨y,hy⟩:∃y,y=b.getD j 0:=⟨_,rfl⟩;obtain ⟨o,ho⟩:∃o,o=out.getD (i+j) 0:=⟨_,rfl⟩;have gx:=gX ha i;have gy:=gX hb j;have mX:=gX hd (i+j);rw [<-hx] at gx;rw [<-hy] at gy;rw [<-ho] at mX;obtain ⟨p1,p2,p3⟩:=ak8 mX gx gy hc;obtain ⟨t,ht⟩:∃t:Nat,o+x*y+c=t:=⟨(o+x*y+c).toNat,by omega⟩;have hr:((t:Nat):Int).tmod 1000000000=((t%1000000000:Nat):Int):=by rw [xr (by omega)];rfl
  have hq:((t:Nat):Int).tdiv 1000000000=((t/1000000000:Nat):Int):=by rw [xJ (by omega)];rfl
  have e1:=pM hv hi;have e2:=pM hw hj;rw [<-hx] at e1;rw [<-hy] at e2;have e3:=qZ (l:=out) (o:=i+j) (by omega);rw [<-ho] at e3;have zE:t=o.toNat+x.toNat*y.toNat+c.toNat:=by
   have:((x.toNat*y.toNat:Nat):Int)=x*y:=by rw [wN,ybh gx.1,ybh gy.1]
   omega
  have aU:=QG (l:=out) (j:=i+j) (x:=((t%1000000000:Nat):Int)) (by omega);rw [<-ho,wo,xL] at aU;have kC:=ajU (Y:=dv (b.take j)) zE aU (by rw [hx];exact aG)
  simp only [go_sem,ya,yk,HE,hw.len,show (j:Int)<b.length by omega,wrapN (n:=i+j) (by omega),show (i:Int)+(j:Int)=((i+j:Nat):Int) from rfl,cT 0 0 (show i+j<n by omega),yf,e3,e1,e2,wrap64 (n:=x*y) (by omega) (by omega),wrap64 (n:=o+x*y) (by omega) (by omega),ht,wrapN (n:=t) (by omega),fD _ _ _ (show (1000000000:Int)≠0 by decide),eS _ _ _ (show (1000000000:Int)≠0 by decide),hr,hq,wrapN (n:=t/1000000000) (by omega),Bu (l:=out) (o:=i+j) (by omega)];refine ⟨_,k-1,rfl,by omega,j+1,((t/1000000000:Nat):Int),out.set (i+j) ((t%1000000000:Nat):Int),?_,by omega,by simp [hlen],LD hd (by omega),by omega,?_,fun m hm=>?_⟩
  ·rw [wrap64 (by omega) (by omega)];simp only [go_sem,ya,yd,az,aE hv.pu,aJ _ hv.pu,aE hw.pu,aJ _ hw.pu]<;>rfl
  ·rw [wo,ol,y7,<-hx,<-hy];exact kC
  ·rw [X9 (by omega)];exact fA m hm
 ·right
  have:j=b.length:=by omega
  subst this;rw [xK] at aG;simp only [go_sem,ya,HE,hw.len,show ¬(b.length:Int)<b.length by omega];exact ⟨_,_,rfl,by simp,_,c,out,rfl,rfl,by simp only [go_sem,ya],by simp only [go_sem,ya],by simp only [go_sem,ya],by simp only [go_sem,ya],by simp only [go_sem,ya],hlen,hd,hc,aG,fA⟩
end
def Pe (n:Nat):(yy n [AV.int .i64 0]).flatten=(yy n (0:Int)).map aa:=by simp_all
def ans (b:Bool):IK true (some b)=some (.bool (!b)):=by cases b<;>rfl
def WJ (n m:Nat):(yy n (0:Int)).getD m 0=0:=by grind
section
variable {P:aF} {L:Lib}
def aqf {v w:AV} {a b:List Int} (hv:a8 v a) (hw:a8 w b) (ha:dg a) (hb:dg b) (la:a.length<=20000000000) (lb:b.length<=20000000000) {n:Nat} (hn:n=a.length+b.length):
  ∀k s,(∃(i:Nat) (out:List Int),aT [0,1,5,6] s=⟨[(0,v),(1,w),(5,.ay 0 0 n),(6,aa i)],[(0,.cells true true true 1 (out.map aa))],1,0⟩/\i+k=a.length/\out.length=n/\dg out/\dv out=dv (a.take i)*dv b/\(∀m,i+b.length<=m->out.getD m 0=0))->
   ∃ex s',D P L (.loop [0,1,5,6] HF) s=some (ex,s')/\∃tm out,s'=⟨tm,[(0,.cells true true true 1 (out.map aa))],1,0⟩/\ex= .exit 0/\aj tm 5= .ay 0 0 n/\out.length=n/\dg out/\dv out=dv a*dv b:=by
 intro dq sq;generalize bt:aT [0,1,5,6] sq=s0;revert bt s0 sq dq;apply dU;rintro k s ⟨i,out,rfl,hk,hlen,hd,aG,fA⟩;by_cases hi:i<a.length
 ·left
  simp only [go_sem,ya,HF,hv.len,show (i:Int)<a.length by omega];generalize hq:D P L (.loop [0,1,5,6,7,8] HE) _=q;obtain ⟨ex,s,rfl,tm,c,rq,rfl,rfl,t0,t1,t5,t6,t7,Ca,jW,hc,Rx,IQ⟩:=b9 hq (aqe (P:=P) (L:=L) hv hw ha hb la lb hn hi (out0:=out) b.length) ⟨0,0,out,by simp only [go_sem,ya,yd,az,aE hv.pu,aJ _ hv.pu,aE hw.pu,aJ _ hw.pu]<;>rfl,by omega,hlen,hd,by omega,by simp [dv],fun m _=>rfl⟩
  have hz:rq.getD (i+b.length) 0=0:=by rw [IQ _ (yA _),fA _ (yA _)]
  have e3:=qZ (l:=rq) (o:=i+b.length) (by omega);rw [hz] at e3;have aU:=QG (l:=rq) (j:=i+b.length) (x:=c) (by omega);rw [hz,xL] at aU
  simp only [go_sem,ya,yk,az,t0,t1,t5,t6,t7,hw.len,aE hv.pu,aJ _ hv.pu,aE hw.pu,aJ _ hw.pu,wrapN (n:=i+b.length) (by omega),show (i:Int)+(b.length:Int)=((i+b.length:Nat):Int) from rfl,cT 0 0 (show i+b.length<n by omega),yf,e3,Int.zero_add,wrap64 (n:=c) (by omega) (by omega),Bu (l:=rq) (o:=i+b.length) (by omega)];refine ⟨_,k-1,rfl,by omega,i+1,rq.set (i+b.length) c,?_,by omega,by simp [Ca],LD jW hc,?_,fun m hm=>?_⟩
  ·rw [wrap64 (by omega) (by omega)];simp only [go_sem,ya,yd,az,aE hv.pu,aJ _ hv.pu,aE hw.pu,aJ _ hw.pu]<;>rfl
  ·rw [ol,wh,<-aG,xp];simp only [Int.toNat_zero,xD,yW] at aU;rw [aU];exact Rx
  ·rw [X9 (by omega),IQ m (by omega),fA m (by omega)]
 ·right
  have:i=a.length:=by omega
  subst this;rw [xK] at aG;simp only [go_sem,ya,HF,hv.len,show ¬(a.length:Int)<a.length by omega];exact ⟨_,_,rfl,by simp,_,out,rfl,rfl,by simp only [go_sem,ya],hlen,hd,aG⟩
def SU (h:Has P L 293 AM) (cD:Has P L 300 lD) {v w:AV} {a b:List Int} (hv:a8 v a) (hw:a8 w b) (ha:dg a) (hb:dg b) (la:a.length<=8000000000) (lb:b.length<=8000000000):
  ∃r out,ah P L 293 [v,w] r/\a8 r out/\shut r=r/\dg out/\nz out/\dv out=dv a*dv b:=by
 obtain ⟨n,hn⟩:∃n,n=a.length+b.length:=⟨_,rfl⟩;have cE:∀ct:Nat,zj ct 1 8 [.int .i64 0] (some n) (some n)=some (.ay ct 0 n,.cells true true true 1 ((yy n (0:Int)).map aa)):=fun ct=>by
  rw [DQ (sz:=1) (by omega) (by omega) (by rfl) (by rfl),Pe];rfl
 unfold ah;rw [aC h]
 simp only [go_sem,ya,yd,AM,hv.len,hw.len,wrapN (n:=n) (by omega),show (a.length:Int)+(b.length:Int)=((a.length+b.length:Nat):Int) from rfl,<-hn,cE];generalize hq:D P L (.loop [0,1,5,6] HF) _=q;obtain ⟨ex,s,rfl,tm,out,rfl,rfl,t5,hlen,hd,aG⟩:=b9 hq (aqf (P:=P) (L:=L) hv hw ha hb (by omega) (by omega) hn a.length) ⟨0,yy n 0,by simp only [go_sem,ya,yd,az,aE hv.pu,aJ _ hv.pu,aE hw.pu,aJ _ hw.pu]<;>rfl,by omega,by simp,Yb n,by rw [Ya];simp [dv],fun m _=>WJ n m⟩
 have nP:=iQ true out;rw [hlen] at nP;obtain ⟨r,e1,hr,jH⟩:=AQ cD nP (by omega);refine ⟨r,dI out,?_,hr,jH,Ab hd,Dx out,by rw [sD];exact aG⟩
 have il:∀hp:Hp,lE 0 n (some (true,1,out.map aa,hp))=some (.aA true n (out.map aa),hp):=fun hp=>nf true (by simp [hlen]) (by decide)
 simp only [go_sem,yd,az,t5,il,e1,jH,hr.dQ]
def IZ (h:Has P L 278 MT) (kH:Has P L 293 AM) (gO:Has P L 294 AN) (cD:Has P L 300 lD) {v w:AV} {n m:Int} {K:Nat} (hK:K<=8000000000) (hv:iM v n) (hw:iM w m) (hn:n.natAbs<1000000000^K) (hm:m.natAbs<1000000000^K):
  ∃r,ah P L 278 [v,w] r/\iM r (n*m):=by
 obtain ⟨x,a,rfl,hx,ha,na,va⟩:=hv;obtain ⟨y,b,rfl,hy,hb,nb,vb⟩:=hw;have la:=xg (gY ha na (by rw [va];exact hn)) hK
 have lb:=xg (gY hb nb (by rw [vb];exact hm)) hK
 obtain ⟨z,out,e1,hz,jH,hd,Bn,aG⟩:=SU kH cD hx hy ha hb la lb;have lo:out.length<=20000000000:=by
  refine gY hd Bn ?_;rw [aG];have h1:=jA ha;have h2:=jA hb;have h3:dv a*dv b<1000000000^a.length*1000000000^b.length:=uQ h1 h2;rw [<-xL] at h3;have hk:∀K,a.length+b.length<=K->dv a*dv b<1000000000^K:=fun K h=>yu h3 (yV (by decide) h)
  exact hk 20000000000 (by omega)
 obtain ⟨r,e2,hr⟩:=nJ gO cD (!(decide (n<0)==decide (m<0))) hz hd lo;have e:bT (!(decide (n<0)==decide (m<0))) (dv out)=n*m:=by
  rw [aG,va,vb];have hnm:((n.natAbs*m.natAbs:Nat):Int)=(n.natAbs:Int)*m.natAbs:=wN _ _;unfold bT;by_cases h0:n<0<;>by_cases h1:m<0<;>simp only [h0,h1,yx,yE,yaD,yT,yD,xk,hnm]
  ·rw [show (n.natAbs:Int)= -n by omega,show (m.natAbs:Int)= -m by omega,Int.neg_mul_neg]
  ·rw [show (true==false)=false from rfl,yU,yN rfl,show (n.natAbs:Int)= -n by omega,show (m.natAbs:Int)=m by omega,Int.neg_mul,yae]
  ·rw [show (false==true)=false from rfl,yU,yN rfl,show (n.natAbs:Int)=n by omega,show (m.natAbs:Int)= -m by omega,ycY,yae]
  ·rw [show (n.natAbs:Int)=n by omega,show (m.natAbs:Int)=m by omega]
 rw [e] at hr;obtain ⟨w2,l2,rfl,gD,gP,iI,zn⟩:=hr;refine ⟨_,?_,w2,l2,rfl,gD,gP,iI,zn⟩;unfold ah at e1 e2 ⊢;rw [aC h];simp only [go_sem,ya,yd,MT,aM,hx.pu,hx.ai,hx.one,hy.pu,hy.ai,hy.one,hz.ai,hz.shut,gD.pu,gD.one,bl,yf,cC,e1,oF,ans,e2,eI,bc];rcases gD with ⟨rfl,_⟩ | ⟨e,rfl⟩<;>rfl
end
def ant (i:Nat) (q:List Int) (x:Int):(yy (i+1) (0:Int)++q).set i x=yy i 0++x::q:=by
 rw [List.replicate_succ',xt,List.set_append_right _ _ (by simp)]
 simp
section
variable {P:aF} {L:Lib}
def aqg {v:AV} {a:List Int} (hv:a8 v a) (ha:dg a) (la:a.length<=20000000000) {d:Nat} (h0:0<d) (h1:d<1000000000):
  ∀k s,(∃(j r:Nat) (q:List Int),aT [0,1,6,7,8] s=⟨[(0,v),(1,aa d),(6,.ay 0 0 a.length),(7,aa r),(8,aa ((j:Int)-1))],[(0,.cells true true true 1 ((yy j (0:Int)++q).map aa))],1,0⟩/\j=k/\j+q.length=a.length/\r<d/\dg q/\dv (a.drop j)=d*dv q+r)->
   ∃ex s',D P L (.loop [0,1,6,7,8] HG) s=some (ex,s')/\∃tm r q,s'=⟨tm,[(0,.cells true true true 1 (q.map aa))],1,0⟩/\ex= .exit 0/\aj tm 6= .ay 0 0 a.length/\aj tm 7=aa (r:Nat)/\q.length=a.length/\r<d/\dg q/\dv a=d*dv q+r:=by
 intro dq sq;generalize bt:aT [0,1,6,7,8] sq=s0;revert bt s0 sq dq;apply dU;rintro k s ⟨j,r,q,rfl,rfl,hl,hr,hd,aG⟩
 cases j with
 | zero=>
  right
  simp only [go_sem,ya,HG,show ¬(0:Int)<=((0:Nat):Int)-1 by omega];exact ⟨_,_,rfl,by simp,_,r,q,rfl,rfl,by simp only [go_sem,ya],by simp only [go_sem,ya],by omega,hr,hd,aG⟩
 | succ i=>
  left
  have hi:i<a.length:=by omega
  obtain ⟨x,hx⟩:∃x,x=a.getD i 0:=⟨_,rfl⟩;have e1:=pM hv hi;have gx:=gX ha i;rw [<-hx] at e1 gx;obtain ⟨t,ht⟩:∃t:Nat,t=r*1000000000+x.toNat:=⟨_,rfl⟩;have zE:(r:Int)*1000000000+x=(t:Int):=by omega
  have jX:t<d*1000000000:=by
   omega
  have eQ:t/d<1000000000:=(wz h0).2 (by rw [xy];exact jX)
  have cg:t%d<d:=xE _ h0;have e2:((t:Nat):Int).tdiv d=((t/d:Nat):Int):=by rw [xJ (by omega)];rfl
  have e3:((t:Nat):Int).tmod d=((t%d:Nat):Int):=by rw [xr (by omega)];rfl
  have Bi:(yy (i+1) (0:Int)++q).length=a.length:=by simp;omega
  have aO:=fun (hp:Hp) (ct id:Nat) (ex:Bool)=>Bu (hp:=hp) (ct:=ct) (id:=id) (ex:=ex) (v:=((t/d:Nat):Int)) (l:=yy (i+1) (0:Int)++q) (o:=i) (by rw [Bi];exact hi)
  simp only [ant] at aO
  simp only [go_sem,ya,yk,HG,show ((i+1:Nat):Int)-1=(i:Int) by omega,show (0:Int)<=(i:Int) by omega,wrap64 (n:=(r:Int)*1000000000) (by omega) (by omega),e1,zE,wrapN (n:=t) (by omega),eS _ _ _ (show (d:Int)≠0 by omega),fD _ _ _ (show (d:Int)≠0 by omega),e2,e3,wrapN (n:=t/d) (by omega),cT 0 0 (show i<a.length from hi),yf,aO]
  refine ⟨_,i,rfl,by omega,i,t%d,((t/d:Nat):Int)::q,?_,rfl,by simp;omega,cg,(gG (a:=[((t/d:Nat):Int)]) (b:=q)).2 ⟨jM.2 ⟨yai _,ta.2 eQ⟩,hd⟩,?_⟩
  ·rw [wrap64 (by omega) (by omega)];simp only [go_sem,ya,yd,az,aE hv.pu,aJ _ hv.pu]<;>rfl
  ·have ik:a.drop i=x::a.drop (i+1):=by
    rw [yP hi,hx];simp [xx,xW hi]
   rw [ik];simp only [dv,aG,wo];have e:=xV t d;rw [xB,xB d,Nat.mul_left_comm 1000000000 d];omega
def acz (h:Has P L 299 AO) (cD:Has P L 300 lD) {v:AV} {a:List Int} (hv:a8 v a) (ha:dg a) (la:a.length<=20000000000) {d:Nat} (h0:0<d) (h1:d<1000000000):
  ∃r q,ah P L 299 [v,aa d] (.au [r,aa (dv a%d:Nat)])/\a8 r q/\shut r=r/\bM r=r/\dg q/\nz q/\dv q=dv a/d:=by
 obtain ⟨n,hn⟩:∃n,n=a.length:=⟨_,rfl⟩;have cE:∀ct:Nat,zj ct 1 8 [.int .i64 0] (some n) (some n)=some (.ay ct 0 n,.cells true true true 1 ((yy n (0:Int)).map aa)):=fun ct=>by
  rw [DQ (sz:=1) (by omega) (by omega) (by rfl) (by rfl),Pe];rfl
 unfold ah;rw [aC h];simp only [go_sem,ya,yd,AO,hv.len,<-hn,cE];generalize hq:D P L (.loop [0,1,6,7,8] HG) _=q;obtain ⟨ex,s,rfl,tm,r,qs,rfl,rfl,t6,t7,hlen,hr,hd,aG⟩:=b9 hq (aqg (P:=P) (L:=L) hv ha la h0 h1 a.length) ⟨a.length,0,[],by
  rw [wrap64 (by omega) (by omega),xX,<-hn]
  simp only [go_sem,ya,yd,az,aE hv.pu,aJ _ hv.pu]<;>rfl,rfl,by simp,h0,rfl,by rw [y9 (yA _)];simp [dv]⟩
 have nP:=iQ true qs;rw [hlen] at nP;obtain ⟨w,e1,hw,jH⟩:=AQ cD nP (by omega);have eR:dv a/d=dv qs/\dv a%d=r:=(Nat.div_mod_unique h0).2 ⟨by omega,hr⟩;refine ⟨w,dI qs,?_,hw,jH,hw.bM,Ab hd,Dx qs,by rw [sD,eR.1]⟩;have il:∀hp:Hp,lE 0 a.length (some (true,1,qs.map aa,hp))=some (.aA true a.length (qs.map aa),hp):=fun hp=>nf true (by simp [hlen]) (by decide)
 rw [eR.2];simp only [go_sem,ya,yd,az,t6,t7,il,e1,jH];rcases hw with ⟨rfl,_⟩ | ⟨e,rfl⟩<;>rfl
def atT (h:Has P L 279 Ei) (No:Has P L 295 IB) (nL:Has P L 296 ri) (Np:Has P L 297 IC) (mi:Has P L 302 rk) (gO:Has P L 294 AN) (cD:Has P L 300 lD) {v w:AV} {n m:Int} {K:Nat} (hK:K<=8000000000) (hv:iM v n) (hw:iM w m) (hn:n.natAbs<1000000000^K) (hm:m.natAbs<1000000000^K):
  ∃r,ah P L 279 [v,w] r/\iM r (n+m):=by
 obtain ⟨x,a,rfl,hx,ha,na,va⟩:=hv;obtain ⟨y,b,rfl,hy,hb,nb,vb⟩:=hw;have la:=xg (gY ha na (by rw [va];exact hn)) hK
 have lb:=xg (gY hb nb (by rw [vb];exact hm)) hK
 by_cases hs:(decide (n<0)==decide (m<0))=true
 ·obtain ⟨z,out,e1,hz,hd,aG,hl⟩:=acx No mi hx hy ha hb (by omega) (by omega);have lo:out.length<=20000000000:=by omega
  obtain ⟨r,e2,hr⟩:=nJ gO cD (decide (n<0)) hz hd lo;have e:bT (decide (n<0)) (dv out)=n+m:=by
   have pk:(n<0)=(m<0):=by simpa using eq_of_beq hs
   rw [aG,va,vb];unfold bT;by_cases h0:n<0
   ·have h1:m<0:=pk▸h0;simp only [h0,yx,xA];omega
   ·have h1:¬m<0:=pk▸h0;simp only [h0,yE,yD,xk];omega
  rw [e] at hr;obtain ⟨w2,l2,rfl,gD,gP,iI,zn⟩:=hr;refine ⟨_,?_,w2,l2,rfl,gD,gP,iI,zn⟩;unfold ah at e1 e2 ⊢;rw [aC h];simp only [go_sem,ya,yd,Ei,aM,hx.pu,hx.ai,hx.one,hy.pu,hy.ai,hy.one,hz.ai,gD.pu,gD.one,bl,yf,cC,e1,oF,dP,hs,e2,eI,bc];rcases gD with ⟨rfl,_⟩ | ⟨e,rfl⟩<;>rfl
 ·have hs:(decide (n<0)==decide (m<0))=false:=by simpa using hs
  have pk:¬((n<0)=(m<0)):=fun e=>by simp [e] at hs
  have ec:=SS nL hx hy ha hb na nb (by omega) (by omega);by_cases hc:dv a<dv b
  ·have dR:dG (dv a) (dv b)= -1:=by unfold dG;rw [yN hc]
   rw [dR] at ec;obtain ⟨z,out,e1,hz,jH,hd,Bn,aG⟩:=acy Np mi cD hy hx hb ha nb na (by omega) (by omega);have lo:out.length<=20000000000:=by
    refine gY hd Bn ?_
    have:=jA hb
    have hk:∀K,b.length<=K->dv out<1000000000^K:=fun K h=>yu (show dv out<1000000000^b.length by omega) (yV (by decide) h)
    exact hk 20000000000 (by omega)
   obtain ⟨r,e2,hr⟩:=nJ gO cD (decide (m<0)) hz hd lo;have e:bT (decide (m<0)) (dv out)=n+m:=by
    rw [va,vb] at aG;unfold bT;by_cases h0:m<0
    ·have h1:¬n<0:=fun h1=>pk (by simp [h0,h1])
     simp only [h0,yx,xA];omega
    ·have h1:n<0:=by
      by_cases h1:n<0
      ·exact h1
      ·exact absurd (by simp [h0,h1]) pk
     simp only [h0,yE,yD,xk];omega
   rw [e] at hr;obtain ⟨w2,l2,rfl,gD,gP,iI,zn⟩:=hr;refine ⟨_,?_,w2,l2,rfl,gD,gP,iI,zn⟩;unfold ah at e1 e2 ec ⊢;rw [aC h];simp only [go_sem,ya,yd,Ei,aM,hx.pu,hx.ai,hx.one,hy.pu,hy.ai,hy.one,hz.ai,hz.shut,gD.pu,gD.one,bl,yf,cC,e1,oF,dP,hs,ec,show ¬(0:Int)<=-1 by decide,e2,eI,bc];rcases gD with ⟨rfl,_⟩ | ⟨e,rfl⟩<;>rfl
  ·have dR:(0:Int)<=dG (dv a) (dv b):=by unfold dG;rw [yB hc];split<;>decide
   obtain ⟨z,out,e1,hz,jH,hd,Bn,aG⟩:=acy Np mi cD hx hy ha hb na nb (by omega) (by omega);have lo:out.length<=20000000000:=by
    refine gY hd Bn ?_
    have:=jA ha
    have hk:∀K,a.length<=K->dv out<1000000000^K:=fun K h=>yu (show dv out<1000000000^a.length by omega) (yV (by decide) h)
    exact hk 20000000000 (by omega)
   obtain ⟨r,e2,hr⟩:=nJ gO cD (decide (n<0)) hz hd lo;have e:bT (decide (n<0)) (dv out)=n+m:=by
    rw [va,vb] at aG;unfold bT;by_cases h0:n<0
    ·have h1:¬m<0:=fun h1=>pk (by simp [h0,h1])
     simp only [h0,yx,xA];omega
    ·have h1:m<0:=by
      by_cases h1:m<0
      ·exact h1
      ·exact absurd (by simp [h0,h1]) pk
     simp only [h0,yE,yD,xk];omega
   rw [e] at hr;obtain ⟨w2,l2,rfl,gD,gP,iI,zn⟩:=hr;refine ⟨_,?_,w2,l2,rfl,gD,gP,iI,zn⟩;unfold ah at e1 e2 ec ⊢;rw [aC h];simp only [go_sem,ya,yd,Ei,aM,hx.pu,hx.ai,hx.one,hy.pu,hy.ai,hy.one,hz.ai,hz.shut,gD.pu,gD.one,bl,yf,cC,e1,oF,dP,hs,ec,dR,e2,eI,bc];rcases gD with ⟨rfl,_⟩ | ⟨e,rfl⟩<;>rfl
def Zi {l:List Int} (hd:dg l) (hn:nz l) (h:dv l<1000000000):l.length<=1:=gY hd hn (by simpa using h)
def atU (h:Has P L 289 rh) (nL:Has P L 296 ri) (oM:Has P L 299 AO) (cD:Has P L 300 lD) {v w:AV} {a b:List Int} (hv:a8 v a) (hw:a8 w b) (ha:dg a) (hb:dg b) (na:nz a) (nb:nz b) (la:a.length<=20000000000) (lb:b.length<=1) (h0:0<dv b):
  ∃q r lq lr,ah P L 289 [v,w] (.au [q,r])/\a8 q lq/\a8 r lr/\dg lq/\nz lq/\dg lr/\nz lr/\dv lq=dv a/dv b/\dv lr=dv a%dv b:=by
 have ec:=SS nL hv hw ha hb na nb la (by omega);by_cases hc:dv a<dv b
 ·have dR:dG (dv a) (dv b)= -1:=by unfold dG;rw [yN hc]
  rw [dR] at ec;refine ⟨.ae,v,[],a,?_,qG,hv,rfl,rfl,ha,na,?_,?_⟩
  ·unfold ah;rw [aC h];simp only [go_sem,ya,rh,hv.ai,hw.ai,ec,show (-1:Int)<0 by decide];rcases hv with ⟨rfl,_⟩ | ⟨e,rfl⟩<;>rfl
  ·rw [xP hc];rfl
  ·rw [yL hc]
 ·have dR:¬dG (dv a) (dv b)<0:=by unfold dG;rw [yB hc];split<;>decide
  have mR:b.length=1:=by
   rcases xi b.length with e | e
   ·rw [yH e] at h0;simp [dv] at h0
   ·omega
  obtain ⟨x,rfl⟩:∃x,b=[x]:=by
   cases b with
   | nil=>simp at mR
   | cons x r=>cases r with
    | nil=>exact ⟨x,rfl⟩
    | cons y r=>simp at mR
  have gx:=jM.1 hb;obtain ⟨d,hd⟩:∃d:Nat,x=d:=⟨x.toNat,by omega⟩;subst hd;have hdd:dv [((d:Nat):Int)]=d:=by simp [dv]
  rw [hdd] at h0 hc dR ec ⊢;obtain ⟨q,lq,e1,hq,hqs,atV,dq,nq,vq⟩:=acz oM cD hv ha la h0 (by omega);have aa1:dv a%d<d:=xE _ h0;generalize dv a%d=m at*
  obtain ⟨r,e2,hr,Bf⟩:=AQ cD (iQ true [(m:Int)]) (by simp);refine ⟨q,r,lq,dI [(m:Int)],?_,hq,hr,dq,nq,Ab (jM.2 (by omega)),Dx _,vq,by rw [sD];simp [dv]⟩;have e3:=hw.br (i:=0) (by simp);simp only [yz,yK,yf,xm,vA,uT] at e2 e3;unfold ah;rw [aC h];simp only [go_sem,ya,yd,yI,yp,yk,rh,hv.ai,hw.len,hw.ai,ec,dR,yz,yK,show ((1:Nat):Int)=(1:Int) from rfl,yx,e3,e1,atV,e2,Bf];rcases hq with ⟨rfl,_⟩ | ⟨e,rfl⟩<;>rcases hr with ⟨rfl,_⟩ | ⟨e',rfl⟩<;>rfl
end
def sv:List Int->Int
 | []=>0
 | a::r=>a+1000000000*sv r
def Xx:∀(a b:List Int),sv (a++b)=sv a+1000000000^a.length*sv b
 | [],b=>by simp [sv]
 | x::a,b=>by
  simp only [yX,sv,Xx a b,yz,tP,ycZ]
  grind
def aqh (x:Int):sv [x]=x:=by simp [sv]
def DR:∀{l:List Int} {i:Nat} {x:Int},i<l.length->sv (l.set i x)=sv l+1000000000^i*(x-l.getD i 0)
 | [],i,x,h=>by simp at h
 | a::l,0,x,_=>by simp [sv];omega
 | a::l,i+1,x,h=>by
  have ih:=DR (l:=l) (i:=i) (x:=x) (by simpa using h);simp only [List.set_cons_succ,sv,List.getD_cons_succ,ih,tP,ycZ]
  grind
def Lw {l:List Int} (i:Nat):sv (l.take (i+1))=sv (l.take i)+1000000000^i*l.getD i 0:=by
 by_cases h:i<l.length
 ·rw [wK h,Xx,yO,xF (by omega),aqh]
  grind
 ·rw [yM (by omega),yM (by omega),GQ (by omega),Int.mul_zero,Int.add_zero]
def zb:∀{l:List Int},dg l->sv l=dv l
 | [],_=>rfl
 | a::l,h=>by
  obtain ⟨h1,h2⟩:=gG.1 (show dg ([a]++l) from h);have h1:=jM.1 h1;simp only [sv,dv,zb h2,ybY,wN];omega
section
variable {pre x post:List Int} {i:Nat}
def nA:(pre++x++post).length=pre.length+x.length+post.length:=by grind
def Au (h:i<x.length):(pre++x++post).getD (pre.length+i) 0=x.getD i 0:=by grind
def LM (a:Int) (h:i<x.length):(pre++x++post).set (pre.length+i) a=pre++x.set i a++post:=by simp_all
end
def ZX {l:List Int} {i m:Nat} {x:Int} (h:i≠m):(l.set i x).getD m 0=l.getD m 0:=by simp_all
def aiN {l:List Int} {i:Nat} {x:Int} (h:i<l.length):(l.set i x).getD i 0=x:=by simp_all
abbrev H3 (q u:List Int) (f:Int):Hp:=[(2,.cells true true true 1 (q.map aa)),(1,.cells true true false 1 (u.map aa)),(0,.cells false true true 1 [aa f])]
def K4 {live:List Nat} {tm:Env} {ct:Nat} {a b c:List AV} (ht:jw 3 (cG tm live)) (hl:(ff (cG tm live)).length<100000):
  aT live ⟨tm,[(2,.cells true true true 1 a),(1,.cells true true false 1 b),(0,.cells false true true 1 c)],ct,3⟩=⟨cG tm live,[(2,.cells true true true 1 a),(1,.cells true true false 1 b),(0,.cells false true true 1 c)],3,3⟩:=
 VZ ht ⟨by omega,.inl rfl,by omega,.inl rfl,by omega,.inl rfl,trivial⟩ (by
  have:dS 3 [(2,Obj.cells true true true 1 a),(1,Obj.cells true true false 1 b),(0,Obj.cells false true true 1 c)]=[]:=rfl
  rw [this,yK,yW];exact hl)
structure fP (x vs:List Int) (n v1 v2 u0 u1 u2:Nat):Prop where
 n2:2<=n
 nb:n<=20000000000
 lx:x.length=n+1
 lv:vs.length=n
 gx:dg x
 gv:dg vs
 dN:vs.getD (n-1) 0=(v1:Int)
 cz:vs.getD (n-2) 0=(v2:Int)
 h0:x.getD n 0=(u0:Int)
 h1:x.getD (n-1) 0=(u1:Int)
 h2:x.getD (n-2) 0=(u2:Int)
 pos:0<v1
 lt:dv x<1000000000*dv vs
section
variable {x vs:List Int} {n v1 v2 u0 u1 u2:Nat}
def fP.Jx (h:fP x vs n v1 v2 u0 u1 u2):v1<1000000000:=by have:=gX h.gv (n-1);rw [h.dN] at this;omega
def fP.CZ (h:fP x vs n v1 v2 u0 u1 u2):v2<1000000000:=by have:=gX h.gv (n-2);rw [h.cz] at this;omega
def fP.u0W (h:fP x vs n v1 v2 u0 u1 u2):u0<1000000000:=by have:=gX h.gx n;rw [h.h0] at this;omega
def fP.Jy (h:fP x vs n v1 v2 u0 u1 u2):u1<1000000000:=by have:=gX h.gx (n-1);rw [h.h1] at this;omega
def fP.Jz (h:fP x vs n v1 v2 u0 u1 u2):u2<1000000000:=by have:=gX h.gx (n-2);rw [h.h2] at this;omega
def fP.parts (h:fP x vs n v1 v2 u0 u1 u2):∃p vr ur,dv vs=(v1*1000000000+v2)*p+vr/\vr<p/\dv x=((u0*1000000000+u1)*1000000000+u2)*p+ur/\ur<p:=by
 obtain ⟨m,hm⟩:∃m,n=m+2:=⟨n-2,by have:=h.n2;omega⟩;subst hm;have e1:=ol (l:=vs) (m+1);have e2:=ol (l:=vs) m;have f0:=ol (l:=x) (m+2);have f1:=ol (l:=x) (m+1);have f2:=ol (l:=x) m;have dN:vs.getD (m+1) 0=(v1:Int):=h.dN;have cz:vs.getD m 0=(v2:Int):=h.cz;have h0:x.getD (m+2) 0=(u0:Int):=h.h0;have h1:x.getD (m+1) 0=(u1:Int):=h.h1;have h2:x.getD m 0=(u2:Int):=h.h2
 rw [yM (by have:=h.lv;omega),dN,e2,cz] at e1
 rw [yM (by have:=h.lx;omega),h0,f1,h1,f2,h2] at f0;simp only [wo] at e1 f0;have g1:=jA (BM h.gv m)
 rw [yO,xF (by have:=h.lv;omega)] at g1;have g2:=jA (BM h.gx m)
 rw [yO,xF (by have:=h.lx;omega)] at g2;refine ⟨1000000000^m,_,_,?_,g1,?_,g2⟩
 ·rw [e1,y7,arQ]
 ·rw [f0,show 1000000000^(m+2)=1000000000^m*1000000000*1000000000 by rw [y7,y7],y7,arR]
def fP.down (h:fP x vs n v1 v2 u0 u1 u2) {t r:Nat} (ht:t*v1+r=u0*1000000000+u1) (hr:r*1000000000+u2<t*v2):dv x/dv vs<=t-1:=by
 obtain ⟨p,vr,ur,h1,h2,h3,h4⟩:=h.parts;exact Wv h1 h3 h4 ht hr
def fP.stop (h:fP x vs n v1 v2 u0 u1 u2) {t r:Nat} (jX:t<1000000000) (ht:t*v1+r=u0*1000000000+u1) (hr:1000000000<=r\/t*v2<=r*1000000000+u2):t<=dv x/dv vs+1:=by
 obtain ⟨p,vr,ur,h1,h2,h3,h4⟩:=h.parts;exact Xk (by decide) h1 h2 h3 h.pos h.CZ jX ht hr
def fP.first (h:fP x vs n v1 v2 u0 u1 u2):dv x/dv vs<=(u0*1000000000+u1)/v1:=by
 obtain ⟨p,vr,ur,h1,h2,h3,h4⟩:=h.parts;exact OU h1 h3 h4 h.Jz h.pos
def fP.top (h:fP x vs n v1 v2 u0 u1 u2):u0<=v1:=by
 obtain ⟨p,vr,ur,h1,h2,h3,h4⟩:=h.parts;exact Xl h1 h3 h2 h.CZ h.lt
def fP.digit (h:fP x vs n v1 v2 u0 u1 u2):dv x/dv vs<1000000000:=by
 refine (wz ?_).2 h.lt;rcases xi (dv vs) with h0 | h0
 ·have:=h.lt;rw [h0] at this;simp at this
 ·exact h0
def fP.small (h:fP x vs n v1 v2 u0 u1 u2) {t r:Nat} (ht:t*v1+r=u0*1000000000+u1) (hb:1000000000<=t):r<1000000000:=by
 have h1:=h.top;have h2:=h.Jy;have h3:=yQ v1 hb
 grind
end
def atW {r u:Nat} (hr:r<1000000000) (hu:u<1000000000):r*1000000000<9223372036854775808/\r*1000000000+u<9223372036854775808:=by omega
section
variable {P:aF} {L:Lib}
def anu {w:AV} {x vs pre post qs:List Int} {f:Int} (hw:a8 w vs) {n v1 v2 u0 u1 u2 M:Nat} (hl:fP x vs n v1 v2 u0 u1 u2) (hM:M=pre.length+x.length+post.length) (JO:M<=50000000000):
  ∀k s,(∃t r:Nat,aT [0,1,2,7,9,10] s=⟨[(0,.ay 1 0 M),(1,w),(2,aa pre.length),(7,aa n),(9,aa t),(10,aa r)],H3 qs (pre++x++post) f,3,3⟩/\t*v1+r=u0*1000000000+u1/\r<1000000000/\dv x/dv vs<=t/\t=k)->
   ∃ex s',D P L (.loop [0,1,2,7,9,10] Ao) s=some (ex,s')/\∃tm ct t,s'=⟨tm,H3 qs (pre++x++post) f,ct,3⟩/\((ex= .exit 0/\aj tm 9=aa (t:Nat))\/(ex= .ret/\aj tm 6=aa (t:Nat)))/\ct=3/\t<1000000000/\dv x/dv vs<=t/\t<=dv x/dv vs+1:=by
 intro dq sq;generalize bt:aT [0,1,2,7,9,10] sq=s0;revert bt s0 sq dq;apply dU;rintro k s ⟨t,r,rfl,ht,hr,hQ,rfl⟩;have dd:=hl.n2;have oZ:=hl.nb;have hlx:=hl.lx;have En:=hl.Jx;have So:=hl.CZ;have ab3:=hl.Jz;have atX:=hl.u0W;have Nb:=hl.Jy;have AZ:=hl.pos;have pc:=pM hw (i:=n-2) (by have:=hl.lv;omega);have eD:=pM hw (i:=n-1) (by have:=hl.lv;omega);rw [hl.cz] at pc;rw [hl.dN] at eD;have r5:=qZ (l:=pre++x++post) (o:=pre.length+(n-2)) (by rw [nA];omega);rw [Au (by omega),hl.h2] at r5;have zJ:(n:Int)-2=((n-2:Nat):Int):=by omega
 have pf:(n:Int)-1=((n-1:Nat):Int):=by omega
 have JP:(pre.length:Int)+(n:Int)=((pre.length+n:Nat):Int):=rfl;have UO:((pre.length+n:Nat):Int)-2=((pre.length+(n-2):Nat):Int):=by omega
 have ayd:t<=1000000000000000000:=by
  have:=yS t AZ
  omega
 have aye:t*1<=t*v1:=yS t AZ;obtain ⟨UP,UQ⟩:=atW hr ab3;by_cases rY:1000000000<=t\/r*1000000000+u2<t*v2
 ·have ht0:0<t:=by
   rcases xi t with h0 | h0
   ·subst h0;omega
   ·exact h0
  have h1:(t-1)*v1+(r+v1)=u0*1000000000+u1:=by
   obtain ⟨p,rfl⟩:∃p,t=p+1:=⟨t-1,by omega⟩;rw [wh,Nat.one_mul] at ht;rw [Nat.add_sub_cancel];omega
  have zK:dv x/dv vs<=t-1:=by
   rcases rY with h | h
   ·have:=hl.digit;generalize dv x/dv vs=q at*;omega
   ·exact hl.down ht h
  have OD:((t:Nat):Int)-1=((t-1:Nat):Int):=by omega
  have stop:1000000000<=r+v1->t-1<1000000000/\t-1<=dv x/dv vs+1:=fun hb=>by
   have aR:t-1<1000000000:=by
    by_cases rK:1000000000<=t-1
    ·have:=hl.small h1 rK;omega
    ·omega
   exact ⟨aR,hl.stop aR h1 (.inl hb)⟩
  by_cases hb:1000000000<=t
  ·by_cases fp:1000000000<=r+v1
   ·right
    obtain ⟨s1,s2⟩:=stop fp
    simp only [go_sem,ya,Ao,H3,show (1000000000:Int)<=(t:Int) by omega,OD,wrapN (n:=t-1) (by omega),pf,wrapN (n:=n-1) (by omega),eD,show (r:Int)+(v1:Int)=((r+v1:Nat):Int) from rfl,wrapN (n:=r+v1) (by omega),show (1000000000:Int)<=((r+v1:Nat):Int) by omega];exact ⟨_,_,rfl,by simp,_,_,t-1,rfl,.inr ⟨rfl,by simp only [go_sem]⟩,rfl,s1,zK,s2⟩
   ·left
    simp only [go_sem,ya,Ao,H3,show (1000000000:Int)<=(t:Int) by omega,OD,wrapN (n:=t-1) (by omega),pf,wrapN (n:=n-1) (by omega),eD,show (r:Int)+(v1:Int)=((r+v1:Nat):Int) from rfl,wrapN (n:=r+v1) (by omega),show ¬(1000000000:Int)<=((r+v1:Nat):Int) by omega];refine ⟨_,t-1,rfl,by omega,t-1,r+v1,?_,h1,by omega,zK,rfl⟩;rw [K4 (by simp only [go_sem,ya,yI,lW,mD,lR,lO,py hw.pu,vc]) (by simp only [go_sem,ya,yd,yI,aE hw.pu])];simp only [go_sem,ya]
  ·have oY:=wW (show t<=999999999 by omega) (show v2<=999999999 by omega);have SV:r*1000000000+u2<t*v2:=rY.resolve_left hb;obtain ⟨m,hm⟩:∃m,t*v2=m:=⟨_,rfl⟩;have em:(t:Int)*(v2:Int)=(m:Int):=by rw [<-hm,wN]
   rw [hm] at SV oY;have E3:(r:Int)*1000000000=((r*1000000000:Nat):Int):=by omega
   have Bj:((r*1000000000:Nat):Int)+(u2:Int)=((r*1000000000+u2:Nat):Int):=rfl;by_cases fp:1000000000<=r+v1
   ·right
    obtain ⟨s1,s2⟩:=stop fp
    simp only [go_sem,ya,yk,Ao,H3,show ¬(1000000000:Int)<=(t:Int) by omega,zJ,wrapN (n:=n-2) (by omega),pc,em,wrapN (n:=m) (by omega),E3,wrapN UP,JP,wrapN (n:=pre.length+n) (by omega),UO,wrapN (n:=pre.length+(n-2)) (by omega),cT 1 0 (show pre.length+(n-2)<M by omega),yf,r5,Bj,wrapN UQ,show ((r*1000000000+u2:Nat):Int)<(m:Int) from ta.2 SV,OD,wrapN (n:=t-1) (by omega),pf,wrapN (n:=n-1) (by omega),eD,show (r:Int)+(v1:Int)=((r+v1:Nat):Int) from rfl,wrapN (n:=r+v1) (by omega),show (1000000000:Int)<=((r+v1:Nat):Int) by omega];exact ⟨_,_,rfl,by simp,_,_,t-1,rfl,.inr ⟨rfl,by simp only [go_sem]⟩,rfl,s1,zK,s2⟩
   ·left
    simp only [go_sem,ya,yk,Ao,H3,show ¬(1000000000:Int)<=(t:Int) by omega,zJ,wrapN (n:=n-2) (by omega),pc,em,wrapN (n:=m) (by omega),E3,wrapN UP,JP,wrapN (n:=pre.length+n) (by omega),UO,wrapN (n:=pre.length+(n-2)) (by omega),cT 1 0 (show pre.length+(n-2)<M by omega),yf,r5,Bj,wrapN UQ,show ((r*1000000000+u2:Nat):Int)<(m:Int) from ta.2 SV,OD,wrapN (n:=t-1) (by omega),pf,wrapN (n:=n-1) (by omega),eD,show (r:Int)+(v1:Int)=((r+v1:Nat):Int) from rfl,wrapN (n:=r+v1) (by omega),show ¬(1000000000:Int)<=((r+v1:Nat):Int) by omega];refine ⟨_,t-1,rfl,by omega,t-1,r+v1,?_,h1,by omega,zK,rfl⟩;rw [K4 (by simp only [go_sem,ya,yI,lW,mD,lR,lO,py hw.pu,vc]) (by simp only [go_sem,ya,yd,yI,aE hw.pu])];simp only [go_sem,ya]
 ·right
  have jX:t<1000000000:=Nat.lt_of_not_le fun e=>rY (.inl e)
  have oY:=wW (show t<=999999999 from yas jX) (show v2<=999999999 from yas So);have SW:t*v2<=r*1000000000+u2:=Nat.le_of_not_lt fun e=>rY (.inr e)
  have ar2:=hl.stop jX ht (.inr SW);obtain ⟨m,hm⟩:∃m,t*v2=m:=⟨_,rfl⟩;have em:(t:Int)*(v2:Int)=(m:Int):=by rw [<-hm,wN]
  rw [hm] at SW oY;have E3:(r:Int)*1000000000=((r*1000000000:Nat):Int):=by omega
  have Bj:((r*1000000000:Nat):Int)+(u2:Int)=((r*1000000000+u2:Nat):Int):=rfl
  simp only [go_sem,ya,yk,Ao,H3,show ¬(1000000000:Int)<=(t:Int) by omega,zJ,wrapN (n:=n-2) (by omega),pc,em,wrapN (n:=m) (by omega),E3,wrapN UP,JP,wrapN (n:=pre.length+n) (by omega),UO,wrapN (n:=pre.length+(n-2)) (by omega),cT 1 0 (show pre.length+(n-2)<M by omega),yf,r5,Bj,wrapN UQ,show ¬((r*1000000000+u2:Nat):Int)<(m:Int) from fun e=>Nat.not_lt_of_le SW (ta.1 e)];exact ⟨_,_,rfl,by simp,_,_,t,rfl,.inl ⟨rfl,by simp only [go_sem,ya]⟩,rfl,jX,hQ,ar2⟩
def ar3 (h:Has P L 301 zi) {w:AV} {x vs pre post qs:List Int} {f:Int} (hw:a8 w vs) {n v1 v2 u0 u1 u2 M:Nat} (hl:fP x vs n v1 v2 u0 u1 u2) (hM:M=pre.length+x.length+post.length) (JO:M<=50000000000):
  ∃t:Nat,iw P L (D P L) (H3 qs (pre++x++post) f) 3 301 [.ay 1 0 M,w,aa pre.length]=some (aa t,H3 qs (pre++x++post) f,3)/\t<1000000000/\dv x/dv vs<=t/\t<=dv x/dv vs+1:=by
 have dd:=hl.n2;have oZ:=hl.nb;have hlx:=hl.lx;have r7:below 3 w:=py hw.pu;have En:=hl.Jx;have atX:=hl.u0W;have Nb:=hl.Jy;have AZ:=hl.pos;have eD:=pM hw (i:=n-1) (by have:=hl.lv;omega);rw [hl.dN] at eD;have Bl:=qZ (l:=pre++x++post) (o:=pre.length+n) (by rw [nA];omega);rw [Au (by omega),hl.h0] at Bl;have Bm:=qZ (l:=pre++x++post) (o:=pre.length+(n-1)) (by rw [nA];omega);rw [Au (by omega),hl.h1] at Bm;have pf:(n:Int)-1=((n-1:Nat):Int):=by omega
 have JP:(pre.length:Int)+(n:Int)=((pre.length+n:Nat):Int):=rfl;have pn1:((pre.length+n:Nat):Int)-1=((pre.length+(n-1):Nat):Int):=by omega
 obtain ⟨m,hm⟩:∃m,m=u0*1000000000+u1:=⟨_,rfl⟩;have em:(u0:Int)*1000000000=((u0*1000000000:Nat):Int):=by omega
 have em2:((u0*1000000000:Nat):Int)+(u1:Int)=(m:Int):=by omega
 have eR:=xV m v1;have mg:=xE m AZ;have LL:=hl.first;rw [<-hm] at LL;have ays:m/v1<=m:=wV _ _;have oq:IntKind.wrap .i64 ((m:Int).tdiv (v1:Int))=((m/v1:Nat):Int):=by
  rw [xJ (by omega),<-ybP,wrapN (by omega)]
 have or':(m:Int).tmod (v1:Int)=((m%v1:Nat):Int):=by rw [xr (by omega),<-Int.natCast_emod]
 rw [xy] at eR;generalize m/v1=q0 at*
 generalize m%v1=r0 at*
 have iY:∃ex tm t,D P L zi.body ⟨ew 0 [.ay 1 0 M,w,aa pre.length],H3 qs (pre++x++post) f,3,3⟩=some (ex,⟨tm,H3 qs (pre++x++post) f,3,3⟩)/\(ex= .normal\/ex= .ret)/\aj tm 6=aa (t:Nat)/\t<1000000000/\dv x/dv vs<=t/\t<=dv x/dv vs+1:=by
  simp only [go_sem,ya,yk,zi,H3,hw.len,hl.lv,JP,wrapN (n:=pre.length+n) (by omega),cT 1 0 (show pre.length+n<M by omega),yf,Bl,em,wrapN (n:=u0*1000000000) (by omega),pn1,wrapN (n:=pre.length+(n-1)) (by omega),cT 1 0 (show pre.length+(n-1)<M by omega),Bm,em2,wrapN (n:=m) (by omega),pf,wrapN (n:=n-1) (by omega),eD,eS _ _ _ (show (v1:Int)≠0 by omega),fD _ _ _ (show (v1:Int)≠0 by omega),oq,or'];generalize kO:D P L (.loop [0,1,2,7,9,10] Ao) _=qq;obtain ⟨ex,s,rfl,tm,ct,t,rfl,pQ,rfl,g1,g2,g3⟩:=b9 kO (anu (P:=P) (L:=L) (qs:=qs) (f:=f) hw hl hM JO q0) ⟨q0,r0,by
   rw [K4 (by simp only [go_sem,ya,yI,lW,mD,lR,lO,r7,vc]) (by simp only [go_sem,ya,yd,yI,aE hw.pu])]
   simp only [go_sem,ya],by omega,by omega,LL,rfl⟩
  rcases pQ with ⟨rfl,h9⟩ | ⟨rfl,h6⟩
  ·simp only [go_sem,yI,H3,K4,lW,lR,lO,h9,and_self];exact ⟨_,_,t,rfl,.inr rfl,by simp only [go_sem],g1,g2,g3⟩
  ·simp only [go_sem];exact ⟨_,_,t,rfl,.inr rfl,h6,g1,g2,g3⟩
 obtain ⟨ex,tm,t,g1,g2,g3,g4,g5,g6⟩:=iY;exact ⟨t,G5 h g1 g2 (by show gW _ [RV.t 6]=_;rw [IM,H0,g3]),g4,g5,g6⟩
end
def atY {t v bo:Int} (ht:0<=t/\t<1000000000) (hv:0<=v/\v<1000000000) (hb:0<=bo/\bo<1000000000):0<=t*v/\t*v<=999999998000000001/\0<=t*v+bo/\t*v+bo<=999999999000000000:=by
 have h1:=tz ht.1 hv.1;have h2:=yco (show t<=999999999 by omega) (show v<=999999999 by omega) hv.1 (by decide);omega
def atZ {x p:Int} (hx:0<=x/\x<1000000000) (hp:0<=p/\p<=999999999000000000):
  (x-p.tmod 1000000000<0->0<=x-p.tmod 1000000000+1000000000/\x-p.tmod 1000000000+1000000000<1000000000/\0<=p.tdiv 1000000000+1/\p.tdiv 1000000000+1<1000000000/\x-p.tmod 1000000000+1000000000+p=x+1000000000*(p.tdiv 1000000000+1))/\
  (¬x-p.tmod 1000000000<0->x-p.tmod 1000000000<1000000000/\0<=p.tdiv 1000000000/\p.tdiv 1000000000<1000000000/\x-p.tmod 1000000000+p=x+1000000000*p.tdiv 1000000000):=by grind
def Qt {l:List Int} (h:dg l) {i:Nat} {z:Int} (hz:0<=z/\z<1000000000):dg (l.set i z):=LD h hz
def anv {b p z q v bo zL x X Y S:Int} (h2:z+(q*v+bo)=x+b*zL) (h3:Y+q*X=S+p*bo):(Y+p*(z-x))+q*(X+p*v)=S+p*b*zL:=by grind
section
variable {P:aF} {L:Lib}
def anw {w:AV} {x vs pre post qs:List Int} {f:Int} (hw:a8 w vs) {n M m:Nat} (lv:vs.length=n) (hM:M=pre.length+(n+1)+post.length) (JO:M<=50000000000) (gv:dg vs) {t:Int} (ht:0<=t/\t<1000000000):
  ∀k s,(∃(i:Nat) (bo:Int) (y:List Int),aT [8,9,10,11,12,13,14,15,16] s=⟨[(8,.ay 0 0 1),(9,w),(10,aa n),(11,.ay 1 0 M),(12,.ay 2 0 m),(13,aa pre.length),(14,aa t),(15,aa bo),(16,aa i)],H3 qs (pre++y++post) f,3,0⟩/\i+k=n/\y.length=n+1/\dg y/\(0<=bo/\bo<1000000000)/\
    sv y+t*sv (vs.take i)=sv x+1000000000^i*bo)->
   ∃ex s',D P L (.loop [8,9,10,11,12,13,14,15,16] DK) s=some (ex,s')/\∃tm bo y,s'=⟨tm,H3 qs (pre++y++post) f,3,0⟩/\ex= .exit 4/\aj tm 8= .ay 0 0 1/\aj tm 9=w/\aj tm 10=aa n/\aj tm 11= .ay 1 0 M/\aj tm 12= .ay 2 0 m/\aj tm 13=aa pre.length/\aj tm 14=aa t/\aj tm 15=aa bo/\y.length=n+1/\dg y/\(0<=bo/\bo<1000000000)/\
    sv y+t*sv vs=sv x+1000000000^n*bo:=by
 intro dq sq;generalize bt:aT [8,9,10,11,12,13,14,15,16] sq=s0;revert bt s0 sq dq;apply dU;rintro k s ⟨i,bo,y,rfl,hk,ly,gy,je,aG⟩;by_cases hi:i<n
 ·left
  have qh:=gX gv i;have pg:=gX gy i;have ev:=pM hw (i:=i) (by omega);have ey:=qZ (l:=pre++y++post) (o:=pre.length+i) (by rw [nA];omega);rw [Au (by omega)] at ey;have di:=Lw (l:=vs) i;obtain ⟨a,ha⟩:∃a,a=vs.getD i 0:=⟨_,rfl⟩;obtain ⟨d,hd⟩:∃d,d=y.getD i 0:=⟨_,rfl⟩;rw [<-ha] at qh ev di;rw [<-hd] at pg ey;obtain ⟨p1,p2,p3,p4⟩:=atY ht qh je;obtain ⟨s1,s2⟩:=atZ pg ⟨p3,p4⟩;have eH:(i:Int)+(pre.length:Int)=((pre.length+i:Nat):Int):=by omega
  have aO:=fun (hp:Hp) (ct:Nat) (z:Int)=>Bu (hp:=hp) (ct:=ct) (id:=1) (v:=z) (ex:=false) (l:=pre++y++post) (o:=pre.length+i) (by rw [nA];omega)
  have nH:=fun z=>LM (pre:=pre) (x:=y) (post:=post) (i:=i) z (by omega)
  have aU:=fun z=>DR (l:=y) (i:=i) (x:=z) (by omega)
  rw [<-hd] at aU;obtain ⟨pr,nO⟩:∃pr,pr=t*a+bo:=⟨_,rfl⟩;obtain ⟨dm,eR⟩:∃dm,pr.tmod 1000000000=dm:=⟨_,rfl⟩;obtain ⟨dq,C2⟩:∃dq,pr.tdiv 1000000000=dq:=⟨_,rfl⟩;have ayt:0<=dm/\dm<1000000000:=by rw [<-eR,xr (by omega)];omega
  have ayu:0<=dq/\dq<1000000000:=by rw [<-C2,xJ (by omega)];omega
  rw [<-nO,eR,C2] at s1 s2;have key:∀z zL,z+(t*a+bo)=d+1000000000*zL->sv (y.set i z)+t*sv (vs.take (i+1))=sv x+1000000000^(i+1)*zL:=fun z zL h=>by
   rw [aU,di,tP];exact anv h aG
  rw [<-nO] at key;by_cases eL:d-dm<0
  ·obtain ⟨q1,q2,q3,q4,q5⟩:=s1 eL;have kk:=key _ _ q5;obtain ⟨dr,ik⟩:∃dr,d-dm=dr:=⟨_,rfl⟩;rw [ik] at eL kk q1 q2
   simp only [go_sem,ya,yk,DK,H3,show (i:Int)<(n:Int) by omega,ev,wrap64 (n:=t*a) (by omega) (by omega),<-nO,wrap64 (n:=pr) (by omega) (by omega),eH,wrapN (n:=pre.length+i) (by omega),cT 1 0 (show pre.length+i<M by omega),yf,ey,fD _ _ _ (show (1000000000:Int)≠0 by decide),eS _ _ _ (show (1000000000:Int)≠0 by decide),eR,C2,ik,wrap64 (n:=dr) (by omega) (by omega),wrap64 (n:=dq) (by omega) (by omega),eL,wrap64 (n:=dr+1000000000) (by omega) (by omega),wrap64 (n:=dq+1) (by omega) (by omega),aO,nH];refine ⟨_,k-1,rfl,by omega,i+1,dq+1,y.set i (dr+1000000000),?_,by omega,by simp [ly],Qt gy ⟨q1,q2⟩,⟨q3,q4⟩,kk⟩;rw [wrap64 (by omega) (by omega)];simp only [go_sem,ya,yd,az,aE hw.pu,aJ _ hw.pu]<;>rfl
  ·obtain ⟨q2,q3,q4,q5⟩:=s2 eL;have kk:=key _ _ q5;obtain ⟨dr,ik⟩:∃dr,d-dm=dr:=⟨_,rfl⟩;rw [ik] at eL kk q2
   simp only [go_sem,ya,yk,DK,H3,show (i:Int)<(n:Int) by omega,ev,wrap64 (n:=t*a) (by omega) (by omega),<-nO,wrap64 (n:=pr) (by omega) (by omega),eH,wrapN (n:=pre.length+i) (by omega),cT 1 0 (show pre.length+i<M by omega),yf,ey,fD _ _ _ (show (1000000000:Int)≠0 by decide),eS _ _ _ (show (1000000000:Int)≠0 by decide),eR,C2,ik,wrap64 (n:=dr) (by omega) (by omega),wrap64 (n:=dq) (by omega) (by omega),eL,aO,nH];refine ⟨_,k-1,rfl,by omega,i+1,dq,y.set i dr,?_,by omega,by simp [ly],Qt gy ⟨by omega,q2⟩,⟨q3,q4⟩,kk⟩;rw [wrap64 (by omega) (by omega)];simp only [go_sem,ya,yd,az,aE hw.pu,aJ _ hw.pu]<;>rfl
 ·right
  have:i=n:=by omega
  subst this;rw [yM (by omega)] at aG;simp only [go_sem,ya,DK,H3,show ¬(i:Int)<(i:Int) by omega];exact ⟨_,_,rfl,by simp,_,bo,y,rfl,rfl,by simp only [go_sem,ya],by simp only [go_sem,ya],by simp only [go_sem,ya],by simp only [go_sem,ya],by simp only [go_sem,ya],by simp only [go_sem,ya],by simp only [go_sem,ya],by simp only [go_sem,ya],ly,gy,je,aG⟩
def anx {b p z v c c' x X Y S:Int} (h2:z+b*c'=x+v+c) (h3:Y+p*c=S+X):(Y+p*(z-x))+p*b*c'=S+(X+p*v):=by grind
def anz {w:AV} {y0 vs pre post qs:List Int} {f:Int} (hw:a8 w vs) {n M m:Nat} (lv:vs.length=n) (hM:M=pre.length+(n+1)+post.length) (JO:M<=50000000000) (gv:dg vs) {t top:Int}:
  ∀k s,(∃(i:Nat) (c:Int) (y:List Int),aT [8,9,10,11,12,13,14,19,20] s=⟨[(8,.ay 0 0 1),(9,w),(10,aa n),(11,.ay 1 0 M),(12,.ay 2 0 m),(13,aa pre.length),(14,aa t),(19,aa c),(20,aa i)],H3 qs (pre++y++post) f,3,0⟩/\i+k=n/\y.length=n+1/\dg (y.take n)/\y.getD n 0=top/\(0<=c/\c<=1)/\
    sv y+1000000000^i*c=sv y0+sv (vs.take i))->
   ∃ex s',D P L (.loop [8,9,10,11,12,13,14,19,20] Hz) s=some (ex,s')/\∃tm c y,s'=⟨tm,H3 qs (pre++y++post) f,3,0⟩/\ex= .exit 6/\aj tm 8= .ay 0 0 1/\aj tm 9=w/\aj tm 10=aa n/\aj tm 11= .ay 1 0 M/\aj tm 12= .ay 2 0 m/\aj tm 13=aa pre.length/\aj tm 14=aa t/\aj tm 19=aa c/\y.length=n+1/\dg (y.take n)/\y.getD n 0=top/\(0<=c/\c<=1)/\
    sv y+1000000000^n*c=sv y0+sv vs:=by
 intro dq sq;generalize bt:aT [8,9,10,11,12,13,14,19,20] sq=s0;revert bt s0 sq dq;apply dU;rintro k s ⟨i,c,y,rfl,hk,ly,gy,nI,hc,aG⟩;by_cases hi:i<n
 ·left
  have qh:=gX gv i;have pg:=gX gy i;have e0:(y.take n).getD i 0=y.getD i 0:=by
   simp [xx,hi]
  rw [e0] at pg;have ev:=pM hw (i:=i) (by omega);have ey:=qZ (l:=pre++y++post) (o:=pre.length+i) (by rw [nA];omega);rw [Au (by omega)] at ey;have di:=Lw (l:=vs) i;obtain ⟨a,ha⟩:∃a,a=vs.getD i 0:=⟨_,rfl⟩;obtain ⟨d,hd⟩:∃d,d=y.getD i 0:=⟨_,rfl⟩;rw [<-ha] at qh ev di;rw [<-hd] at pg ey;have eH:(i:Int)+(pre.length:Int)=((pre.length+i:Nat):Int):=by omega
  have aU:=fun z=>DR (l:=y) (i:=i) (x:=z) (by omega)
  rw [<-hd] at aU;have mg:(d+a+c).tmod 1000000000=(d+a+c)%1000000000:=xr (by omega);have hdiv:(d+a+c).tdiv 1000000000=(d+a+c)/1000000000:=xJ (by omega);obtain ⟨z,hz⟩:∃z,z=(d+a+c)%1000000000:=⟨_,rfl⟩;obtain ⟨c',gC⟩:∃z,z=(d+a+c)/1000000000:=⟨_,rfl⟩;have Tc:z+1000000000*c'=d+a+c:=by omega
  rw [<-hz] at mg;rw [<-gC] at hdiv;have aO:=fun (hp:Hp) (ct:Nat)=>Bu (hp:=hp) (ct:=ct) (id:=1) (v:=z) (ex:=false) (l:=pre++y++post) (o:=pre.length+i) (by rw [nA];omega)
  have nH:=LM (pre:=pre) (x:=y) (post:=post) (i:=i) z (by omega)
  simp only [go_sem,ya,yk,Hz,H3,show (i:Int)<(n:Int) by omega,ev,eH,wrapN (n:=pre.length+i) (by omega),cT 1 0 (show pre.length+i<M by omega),yf,ey,wrap64 (n:=d+a) (by omega) (by omega),wrap64 (n:=d+a+c) (by omega) (by omega),fD _ _ _ (show (1000000000:Int)≠0 by decide),eS _ _ _ (show (1000000000:Int)≠0 by decide),mg,hdiv,wrap64 (n:=c') (by omega) (by omega),aO,nH];refine ⟨_,k-1,rfl,by omega,i+1,c',y.set i z,?_,by omega,by simp [ly],?_,by rw [ZX (by omega)];exact nI,⟨by omega,by omega⟩,?_⟩
  ·rw [wrap64 (by omega) (by omega)];simp only [go_sem,ya,yd,az,aE hw.pu,aJ _ hw.pu]<;>rfl
  ·rw [yax];exact Qt gy ⟨by omega,by omega⟩
  ·rw [aU,di,tP];exact anx Tc aG
 ·right
  have:i=n:=by omega
  subst this;rw [yM (show vs.length<=i by omega)] at aG;simp only [go_sem,ya,Hz,H3,show ¬(i:Int)<(i:Int) by omega];exact ⟨_,_,rfl,by simp,_,c,y,rfl,rfl,by simp only [go_sem,ya],by simp only [go_sem,ya],by simp only [go_sem,ya],by simp only [go_sem,ya],by simp only [go_sem,ya],by simp only [go_sem,ya],by simp only [go_sem,ya],by simp only [go_sem,ya],ly,gy,nI,hc,aG⟩
def anA {A V t:Nat} {y:List Int} {n:Nat} (hV:0<V) (ly:y.length=n+1) (gy:dg (y.take n)) (h:sv y=(A:Int)-t*V) (h1:A/V<=t) (h2:t<=A/V+1):
  (¬y.getD n 0<0->t=A/V/\sv y=((A%V:Nat):Int))/\(y.getD n 0<0->t=A/V+1/\sv y+V=((A%V:Nat):Int)):=by
 have eR:=xV A V;have hm:=xE A hV;have di:=Lw (l:=y) n;rw [yM (by omega),zb gy] at di;have AY:=jA gy;have hp:(0:Int)<1000000000^n:=yda (by decide);generalize y.getD n 0=top at*
 generalize A/V=Q at*
 have hq:t=Q\/t=Q+1:=by omega
 constructor
 ·intro h0;have h3:0<=(1000000000:Int)^n*top:=tz (tc hp) (by omega);rcases hq with rfl | rfl
  ·grind
  ·grind
 ·intro h0;have h3:(1000000000:Int)^n*top<=-(1000000000^n):=by
   have:=uf (show top<=-1 by omega) (tc hp)
   grind
  rcases hq with rfl | rfl
  ·grind
  ·grind
def Yx {y:List Int} {n:Nat} (ly:y.length=n+1) (gy:dg (y.take n)) (h0:0<=sv y) (h1:sv y<1000000000^n):y.getD n 0=0/\dg y/\sv y=dv y:=by
 have di:=Lw (l:=y) n;rw [yM (by omega),zb gy] at di;have AY:=jA gy;rw [yO,xF (by omega)] at AY;have hp:(0:Int)<1000000000^n:=yda (by decide);have q8:((1000000000^n:Nat):Int)=(1000000000:Int)^n:=by simp
 have ayf:(dv (y.take n):Int)<1000000000^n:=by omega
 have ht:y.getD n 0=0:=by
  generalize y.getD n 0=top at*
  rcases Int.lt_trichotomy top 0 with h | h | h
  ·have:=uf (show top<=-1 by omega) (tc hp)
   grind
  ·grind
  ·have:=uf (show 1<=top by omega) (tc hp)
   grind
 have hg:dg y:=by
  have e:y=y.take n++[0]:=by
   have h1:y=y.take n++y.drop n:=(wa n y).symm;have h2:y.drop n=[0]:=by
    rw [yP (by omega),y9 (by omega)]
    grind
   grind
  rw [e];exact gG.2 ⟨gy,jM.2 ⟨by decide,by decide⟩⟩
 exact ⟨ht,hg,zb hg⟩
end
def anB {l:List Int} {i:Nat} (h:i<l.length):dv (l.drop i)=(l.getD i 0).toNat+1000000000*dv (l.drop (i+1)):=by
 rw [yP h]
 have:l[i]=l.getD i 0:=by simp_all
 rw [this];rfl
def P3 (l:List Int) (i:Nat) (h:i<=l.length):dv l=dv (l.take i)+1000000000^i*dv (l.drop i):=by
 conv=>lhs;rw [<-wa i l]
 rw [lM,yO,xF h]
def anC {sx sy sV:Int} {p:Int} {bo t:Int} {yn z:Int} {szy:Int} (h1:sy+t*sV=sx+p*bo) (h2:szy=sy+p*(z-yn)) (h3:z=yn-bo):szy=sx-t*sV:=by grind
section
variable {P:aF} {L:Lib}
def anD (pV:Has P L 301 zi) {w:AV} {vs:List Int} {f:Int} (hw:a8 w vs) (gv:dg vs) {n M m:Nat} (lv:vs.length=n) (dd:2<=n) (hnM:n<M) (JO:M<=20000000000) (hm:m=M-n) (dN:0<vs.getD (n-1) 0) {U0:Nat}:
  ∀k st,(∃(j:Nat) (us qs:List Int),aT [8,9,10,11,12,13] st=⟨[(8,.ay 0 0 1),(9,w),(10,aa n),(11,.ay 1 0 M),(12,.ay 2 0 m),(13,aa ((j:Int)-1))],H3 qs us f,3,0⟩/\j=k/\j<=m/\us.length=M/\qs.length=m/\dg us/\dg qs/\(∀i,i<j->qs.getD i 0=0)/\
    dv us+dv qs*dv vs=U0/\dv (us.drop j)<dv vs)->
   ∃ex st',D P L (.loop [8,9,10,11,12,13] HA) st=some (ex,st')/\∃tm us qs,st'=⟨tm,H3 qs us f,3,0⟩/\ex= .exit 2/\aj tm 8= .ay 0 0 1/\aj tm 10=aa n/\aj tm 11= .ay 1 0 M/\aj tm 12= .ay 2 0 m/\us.length=M/\qs.length=m/\dg us/\dg qs/\
    dv us+dv qs*dv vs=U0/\dv us<dv vs:=by
 intro dq sq;generalize bt:aT [8,9,10,11,12,13] sq=s0;revert bt s0 sq dq;apply dU;rintro k st ⟨j,us,qs,rfl,rfl,hj,lu,lq,gu,gq,hz,aG,nI⟩
 cases j with
 | zero=>
  right
  simp only [go_sem,ya,HA,H3,show ¬(0:Int)<=((0:Nat):Int)-1 by omega];exact ⟨_,_,rfl,by simp,_,us,qs,rfl,rfl,by simp only [go_sem,ya],by simp only [go_sem,ya],by simp only [go_sem,ya],by simp only [go_sem,ya],lu,lq,gu,gq,aG,by simpa using nI⟩
 | succ j=>
  left
  obtain ⟨pre,eH⟩:∃p,p=us.take j:=⟨_,rfl⟩;obtain ⟨x,hx⟩:∃p,p=(us.drop j).take (n+1):=⟨_,rfl⟩;obtain ⟨post,fR⟩:∃p,p=us.drop (j+(n+1)):=⟨_,rfl⟩;have lp:pre.length=j:=by rw [eH,yO];omega
  have lx:x.length=n+1:=by rw [hx,yO,xO];omega
  have lpo:M=pre.length+(n+1)+post.length:=by rw [lp,fR,xO];omega
  have jO:us=pre++x++post:=by
   rw [eH,hx,fR,<-ub,xt,wa,wa]
  have gpo:dg post:=by
   have:=gu;rw [jO] at this;exact (gG.1 this).2
  have gpx:=by have:=gu;rw [jO] at this;exact (gG.1 this).1
  have gx:dg x:=(gG.1 gpx).2;have Su:dg pre:=(gG.1 gpx).1;have hA:=anB (l:=us) (i:=j) (by omega);have hgj:=gX gu j;have Uq:us.drop j=x++post:=by rw [fR,hx,<-ub,wa]
  have zM:dv (us.drop j)=dv x+1000000000^(n+1)*dv post:=by rw [Uq,lM,lx]
  have JA:=jA gv;rw [lv] at JA;have aR:dv (us.drop j)<1000000000*dv vs:=by omega
  have hp0:dv post=0:=by
   rcases xi (dv post) with e | e
   ·exact e
   ·have h1:=yS (1000000000^(n+1)) e;rw [yk,y7] at h1;rw [y7] at zM;omega
  rw [hp0,xD,yW] at zM;have JQ:=fun (l:List Int) (hl:dg l) (i:Nat)=>gX hl i
  obtain ⟨v1,eD⟩:∃v:Nat,vs.getD (n-1) 0=v:=⟨(vs.getD (n-1) 0).toNat,by have:=JQ vs gv (n-1);omega⟩;obtain ⟨v2,pc⟩:∃v:Nat,vs.getD (n-2) 0=v:=⟨(vs.getD (n-2) 0).toNat,by have:=JQ vs gv (n-2);omega⟩;obtain ⟨u0,Bl⟩:∃v:Nat,x.getD n 0=v:=⟨(x.getD n 0).toNat,by have:=JQ x gx n;omega⟩;obtain ⟨u1,Bm⟩:∃v:Nat,x.getD (n-1) 0=v:=⟨(x.getD (n-1) 0).toNat,by have:=JQ x gx (n-1);omega⟩;obtain ⟨u2,r5⟩:∃v:Nat,x.getD (n-2) 0=v:=⟨(x.getD (n-2) 0).toNat,by have:=JQ x gx (n-2);omega⟩;have hl:fP x vs n v1 v2 u0 u1 u2:=⟨dd,by omega,lx,lv,gx,gv,eD,pc,Bl,Bm,r5,by omega,by rw [<-zM];exact aR⟩
  have Nc:=hl.digit;have qc:0<dv vs:=by omega
  have mg:=xE (dv x) qc;obtain ⟨t,e1,ht1,TC,ht3⟩:=ar3 (P:=P) (L:=L) pV hw hl (pre:=pre) (post:=post) (qs:=qs) (f:=f) (M:=M) (by omega) (by omega);rw [<-jO,lp] at e1;have Us:dv us=dv pre+1000000000^j*dv x:=by
   have:=P3 us j (by omega)
   rw [zM,<-eH] at this;exact this
  have Sv:∀y,dv (pre++y++post)=dv pre+1000000000^j*dv y:=fun y=>by
   rw [xt,lM,lM,hp0,xD,yW,lp]
  have iX:=Xs (b:=0) Us aG;have r7:below 3 w:=py hw.pu;have aU:=DR (l:=qs) (i:=j) (x:=((dv x/dv vs:Nat):Int)) (by omega);have gq':dg (qs.set j ((dv x/dv vs:Nat):Int)):=LD gq ⟨yai _,ta.2 Nc⟩;rw [hz j (by omega),Int.sub_zero,zb gq,zb gq'] at aU;have aU:dv (qs.set j ((dv x/dv vs:Nat):Int))=dv qs+1000000000^j*(dv x/dv vs):=by
   have q8:((1000000000^j*(dv x/dv vs):Nat):Int)=(1000000000:Int)^j*((dv x/dv vs:Nat):Int):=by rw [wN];simp
   rw [<-q8] at aU;exact tY (by rw [yaX,yaX,aU,ybY])
  have fin:∀(s':St) (x':List Int),aT [8,9,10,11,12,13] s'=⟨[(8,.ay 0 0 1),(9,w),(10,aa n),(11,.ay 1 0 M),(12,.ay 2 0 m),(13,aa ((j:Int)-1))],H3 (qs.set j ((dv x/dv vs:Nat):Int)) (pre++x'++post) f,3,0⟩->x'.length=n+1->dg x'->sv x'=((dv x%dv vs:Nat):Int)->
    ∃(j':Nat) (us qs:List Int),aT [8,9,10,11,12,13] s'=⟨[(8,.ay 0 0 1),(9,w),(10,aa n),(11,.ay 1 0 M),(12,.ay 2 0 m),(13,aa ((j':Int)-1))],H3 qs us f,3,0⟩/\j'=j/\j'<=m/\us.length=M/\qs.length=m/\dg us/\dg qs/\(∀i,i<j'->qs.getD i 0=0)/\dv us+dv qs*dv vs=U0/\dv (us.drop j')<dv vs:=fun s' x' hc Ur On JD=>by
   have acA:dv x'=dv x%dv vs:=by rw [zb On] at JD;exact tY JD
   refine ⟨j,_,_,hc,rfl,by omega,by rw [nA,Ur];omega,by simp [lq],gG.2 ⟨gG.2 ⟨Su,On⟩,gpo⟩,gq',fun i hi=>by rw [ZX (by omega)];exact hz i (by omega),?_,?_⟩
   ·rw [Sv,acA,aU];exact iX
   ·rw [xt,List.drop_left' lp,lM,hp0,xD,yW,acA];exact mg
  have acB:=fun (z:Int) (hp:Hp) (ct:Nat)=>Bu (hp:=hp) (ct:=ct) (id:=2) (v:=z) (ex:=true) (l:=qs) (o:=j) (by omega)
  have svx:=zb gx;have svv:=zb gv;simp only [H3] at e1;simp only [go_sem,ya,HA,H3,show ((j+1:Nat):Int)-1=(j:Int) by omega,show (0:Int)<=(j:Int) by omega,aa0,e1];generalize kO:D P L (.loop [8,9,10,11,12,13,14,15,16] DK) _=qq;obtain ⟨ex,s,rfl,tm,bo,y,rfl,rfl,t8,t9,t10,t11,t12,t13,t14,t15,ly,gy,je,hv⟩:=b9 kO (anw (P:=P) (L:=L) (x:=x) (pre:=pre) (post:=post) (qs:=qs) (f:=f) (m:=m) (M:=M) hw lv lpo (by omega) gv (t:=t) (by omega) n) ⟨0,0,x,by
   rw [jO,lp]
   simp only [go_sem,ya,yd,az,aE hw.pu,aJ _ hw.pu]<;>rfl,by omega,lx,gx,by omega,by simp [sv]⟩
  rw [lp] at t13;have hyn:=gX gy n;have UR:=qZ (l:=pre++y++post) (o:=pre.length+n) (by rw [nA];omega);rw [Au (by omega),lp] at UR;obtain ⟨z,US⟩:∃z,z=y.getD n 0-bo:=⟨_,rfl⟩;have D7:=fun (hp:Hp) (ct:Nat)=>Bu (hp:=hp) (ct:=ct) (id:=1) (v:=z) (ex:=false) (l:=pre++y++post) (o:=j+n) (by rw [nA];omega)
  have nH:=LM (pre:=pre) (x:=y) (post:=post) (i:=n) z (by omega);rw [lp] at nH;rw [nH] at D7;have mS:=DR (l:=y) (i:=n) (x:=z) (by omega);have Mx:=anC hv mS US;have Bk:(y.set n z).length=n+1:=by simp [ly]
  have C0:dg ((y.set n z).take n):=by
   have:(y.set n z).take n=y.take n:=by rw [yax,yav (by simp;omega)]
   rw [this];exact BM gy n
  rw [svx,svv] at Mx;obtain ⟨s0,s1⟩:=anA qc Bk C0 Mx TC ht3;have eg:(y.set n z).getD n 0=z:=aiN (by omega);rw [eg] at s0 s1;have UT:=qZ (l:=pre++y.set n z++post) (o:=pre.length+n) (by rw [nA];omega);rw [Au (by omega),lp,eg] at UT;generalize y.set n z=y1 at*
  have hpn:((10^9:Int))=1000000000:=by decide
  by_cases eL:z<0
  ·obtain ⟨f1,f2⟩:=s1 eL
   simp only [go_sem,ya,yd,yk,az,aE hw.pu,aJ _ hw.pu,t8,t9,t10,t11,t12,t13,t14,t15,show (j:Int)+(n:Int)=((j+n:Nat):Int) from rfl,wrapN (n:=j+n) (by omega),cT 1 0 (show j+n<M by omega),yf,UR,<-US,wrap64 (n:=z) (by omega) (by omega),D7,UT,eL];generalize Cv:D P L (.loop [8,9,10,11,12,13,14,19,20] Hz) _=Ul;obtain ⟨ex,s,rfl,mP,c,y2,rfl,rfl,t8,t9,t10,t11,t12,t13,t14,t19,Un,Ol,aa5,hc,cz⟩:=b9 Cv (anz (P:=P) (L:=L) (y0:=y1) (pre:=pre) (post:=post) (qs:=qs) (f:=f) (m:=m) (M:=M) (t:=(t:Int)-1) (top:=z) hw lv lpo (by omega) gv n) ⟨0,0,y1,by
    rw [lp,wrap64 (n:=(t:Int)-1) (by omega) (by omega)]
    simp only [go_sem,ya,yd,az,aE hw.pu,aJ _ hw.pu]<;>rfl,by omega,Bk,C0,eg,by omega,by simp [sv]⟩
   rw [lp] at t13;have acC:=qZ (l:=pre++y2++post) (o:=pre.length+n) (by rw [nA];omega);rw [Au (by omega),lp,aa5] at acC;have Na:=fun (hp:Hp) (ct:Nat)=>Bu (hp:=hp) (ct:=ct) (id:=1) (v:=z+c) (ex:=false) (l:=pre++y2++post) (o:=j+n) (by rw [nA];omega)
   have Me:=LM (pre:=pre) (x:=y2) (post:=post) (i:=n) (z+c) (by omega);rw [lp] at Me;rw [Me] at Na;have zC:=DR (l:=y2) (i:=n) (x:=z+c) (by omega);rw [aa5,show z+c-z=c by omega,cz,svv,f2] at zC;have JB:(y2.set n (z+c)).length=n+1:=by simp [Un]
   have Om:dg ((y2.set n (z+c)).take n):=by
    have:(y2.set n (z+c)).take n=y2.take n:=by rw [yax,yav (by simp;omega)]
    rw [this];exact Ol
   have UU:((dv x%dv vs:Nat):Int)<1000000000^n:=by
    have q8:((1000000000^n:Nat):Int)=(1000000000:Int)^n:=by simp
    rw [<-q8];omega
   obtain ⟨g1,g2,g3⟩:=Yx JB Om (by rw [zC];omega) (by rw [zC];exact UU)
   generalize y2.set n (z+c)=y3 at*
   have ft:(t:Int)-1=((dv x/dv vs:Nat):Int):=by rw [f1];omega
   simp only [go_sem,ya,yd,yk,az,aE hw.pu,aJ _ hw.pu,t8,t9,t10,t11,t12,t13,t14,t19,show (j:Int)+(n:Int)=((j+n:Nat):Int) from rfl,wrapN (n:=j+n) (by omega),cT 1 0 (show j+n<M by omega),yf,acC,wrap64 (n:=z+c) (by omega) (by omega),Na,cT 2 0 (show j<m by omega),acB];rw [ft];refine ⟨_,j,rfl,by omega,fin _ y3 ?_ JB g2 zC⟩;rw [wrap64 (by omega) (by omega)];simp only [go_sem,ya,yd,az,aE hw.pu,aJ _ hw.pu]<;>rfl
  ·obtain ⟨f1,f2⟩:=s0 eL;have UU:((dv x%dv vs:Nat):Int)<1000000000^n:=by
    have q8:((1000000000^n:Nat):Int)=(1000000000:Int)^n:=by simp
    rw [<-q8];omega
   obtain ⟨g1,g2,g3⟩:=Yx Bk C0 (by rw [f2];omega) (by rw [f2];exact UU)
   simp only [go_sem,ya,yd,yk,az,aE hw.pu,aJ _ hw.pu,t8,t9,t10,t11,t12,t13,t14,t15,show (j:Int)+(n:Int)=((j+n:Nat):Int) from rfl,wrapN (n:=j+n) (by omega),cT 1 0 (show j+n<M by omega),yf,UR,<-US,wrap64 (n:=z) (by omega) (by omega),D7,UT,eL,cT 2 0 (show j<m by omega),acB];rw [f1];refine ⟨_,j,rfl,by omega,fin _ y1 ?_ Bk g2 f2⟩;rw [wrap64 (by omega) (by omega)];simp only [go_sem,ya,yd,az,aE hw.pu,aJ _ hw.pu]<;>rfl
def aqi (h:Has P L 292 zh) {n:Nat} (hn:n<1000000000):ah P L 292 [aa n,aa 9] (.str (iD 9 n)):=by
 have key:=jZ (P:=P) (L:=L) (live:=[0,1,5]) (a:=ns)
  (I:=fun k st=>∃(m:Nat) (s:List Nat),st=⟨[(0,aa m),(1,aa 9),(5,.str s)],[],0,0⟩/\s.length+k=9/\m<10^k/\iD 9 n=iD k m++s)
  (Q:=fun ex st=>∃tm ct,st=⟨tm,[],ct,0⟩/\ex= .exit 0/\aj tm 5= .str (iD 9 n)) ?_
 ·unfold ah;rw [aC h];simp only [go_sem,zh];generalize hq:D P L (.loop [0,1,5] ns) _=q;obtain ⟨ex,st,rfl,tm,ct,rfl,rfl,h2⟩:=b9 hq (key 9) ⟨n,[],by simp only [go_sem,ya,az]<;>rfl,rfl,by omega,by simp⟩
  simp only [go_sem,az,h2]
 ·rintro k st ⟨m,s,rfl,hk,hm,hs⟩
  cases k with
  | zero=>
   right
   have qt:m=0:=by simpa using hm
   subst qt;simp only [go_sem,ya,ns,show ¬(0:Int)<((0:Nat):Int) by omega,show ¬((s.length:Nat):Int)<9 by omega];refine ⟨_,_,rfl,by simp,_,_,rfl,rfl,?_⟩;rw [hs];rfl
  | succ k=>
   left
   have hr:((m:Int)).tmod 10=((m%10:Nat):Int):=by rw [xr (by omega)];rfl
   have hq:((m:Int)).tdiv 10=((m/10:Nat):Int):=by rw [xJ (by omega)];rfl
   have hd:=WB (r:=m%10) (by omega);have Je:m<10000000000:=yu hm (by simpa using yV (show 0<10 by decide) (show k+1<=10 by omega));have fin:∃s',D P L ns ⟨[(0,aa m),(1,aa 9),(5,.str s)],[],0,0⟩=some (.normal,s')/\aT [0,1,5] s'=⟨[(0,aa (m/10:Nat)),(1,aa 9),(5,.str ([48+m%10]++s))],[],0,0⟩:=by
    by_cases hc:(0:Int)<m
    ·simp only [go_sem,ya,yd,ns,hc,fD _ _ _ (show (10:Int)≠0 by decide),eS _ _ _ (show (10:Int)≠0 by decide),hr,hq,wrapN (n:=m%10+1) (by omega),wrap64 (n:=((m/10:Nat):Int)) (by omega) (by omega),ef,dA,show ((m%10:Nat):Int)+1=((m%10+1:Nat):Int) from rfl,hd,gh (a:=[48+m%10]) (b:=s) (by simp;omega)];exact ⟨_,rfl,by simp only [go_sem,ya,az]⟩
    ·simp only [go_sem,ya,yd,ns,hc,show ((s.length:Nat):Int)<9 by omega,fD _ _ _ (show (10:Int)≠0 by decide),eS _ _ _ (show (10:Int)≠0 by decide),hr,hq,wrapN (n:=m%10+1) (by omega),wrap64 (n:=((m/10:Nat):Int)) (by omega) (by omega),ef,dA,show ((m%10:Nat):Int)+1=((m%10+1:Nat):Int) from rfl,hd,gh (a:=[48+m%10]) (b:=s) (by simp;omega)];exact ⟨_,rfl,by simp only [go_sem,ya,az]⟩
   obtain ⟨s',f1,f2⟩:=fin;exact ⟨s',k,f1,by omega,m/10,_,f2,by simp;omega,by rw [y7] at hm;omega,by rw [hs];simp [iD]⟩
end
def last_pos {l:List Int} (hd:dg l) (hn:nz l) (h:0<l.length):0<l.getD (l.length-1) 0:=by
 rcases snoc l with rfl | ⟨m,a,rfl⟩
 ·grind
 ·have e:(m++[a]).getD ((m++[a]).length-1) 0=a:=by simp_all
  have ha:=jM.1 (gG.1 hd).2;by_cases h0:a=0
  ·subst h0
   have:=KA m
   have e:=congrArg List.length hn;rw [Gw] at e
   grind
  ·omega
section
variable {P:aF} {L:Lib}
def aqj (nG:Has P L 292 zh) {neg:Bool} {w:AV} {l:List Int} (hw:a8 w l) (hd:dg l) (hn:nz l) (hl:l.length<=20000000000):
  ∀k s,(∃(j:Nat) (t:List Nat),aT [1,3,4] s=⟨[(1,.ptr 0 0),(3,.str t),(4,aa ((j:Int)-1))],[(0,.cells true true true 2 [.bool neg,w])],1,0⟩/\j=k/\j<l.length/\0<dv (l.drop j)/\t=ap (dv (l.drop j))/\t.length<=9*(l.length-j))->
   ∃ex s',D P L (.loop [1,3,4] Hx) s=some (ex,s')/\∃tm,s'=⟨tm,[(0,.cells true true true 2 [.bool neg,w])],1,0⟩/\ex= .exit 0/\aj tm 1= .ptr 0 0/\aj tm 3= .str (ap (dv l))/\(ap (dv l)).length<=180000000000:=by
 intro dq sq;generalize bt:aT [1,3,4] sq=s0;revert bt s0 sq dq;apply dU;rintro k s ⟨j,t,rfl,rfl,hj,AZ,ht,UL⟩
 cases j with
 | zero=>
  right
  rw [yo] at ht;simp only [go_sem,ya,Hx,show ¬(0:Int)<=((0:Nat):Int)-1 by omega];exact ⟨_,_,rfl,by simp,_,rfl,rfl,by simp only [go_sem,ya],by rw [<-ht];simp only [go_sem,ya],by rw [<-ht];omega⟩
 | succ i=>
  left
  have hi:i<l.length:=by omega
  obtain ⟨x,hx⟩:∃x,x=l.getD i 0:=⟨_,rfl⟩;have e1:=pM hw hi;have gx:=gX hd i;rw [<-hx] at e1 gx;obtain ⟨m,rfl⟩:∃m:Nat,x=m:=⟨x.toNat,by omega⟩;have e2:=aqi nG (n:=m) (by omega);unfold ah at e2;have hlp:=PY 9 m;have ik:dv (l.drop i)=dv (l.drop (i+1))*10^9+m:=by
   have:l.drop i=(m:Int)::l.drop (i+1):=by
    rw [yP hi,hx];simp [xx,xW hi]
   rw [this];simp only [dv,wo];omega
  have at0:ap (dv (l.drop i))=t++iD 9 m:=by
   rw [ik,KW 9 _ m AZ (by omega),ht]
  simp only [go_sem,ya,Hx,show ((i+1:Nat):Int)-1=(i:Int) by omega,show (0:Int)<=(i:Int) by omega,bl,yf,cC,e1,e2,gh (a:=t) (b:=iD 9 m) (by omega)];refine ⟨_,i,rfl,by omega,i,t++iD 9 m,?_,rfl,by omega,by omega,at0.symm,by simp;omega⟩;rw [wrap64 (by omega) (by omega)];simp only [go_sem,ya,yd,az]<;>rfl
def Nq (h:Has P L 282 Iy) (nG:Has P L 292 zh) {v:AV} {n:Int} {K:Nat} (hK:K<=18000000000) (hv:iM v n) (hn:n.natAbs<1000000000^K):ah P L 282 [v] (.str (aP n))/\(aP n).length<=180000000001:=by
 obtain ⟨w,l,rfl,hw,hd,hz,ph⟩:=hv;have hl:=xg (gY hd hz (by rw [ph];exact hn)) hK
 by_cases h0:l=[]
 ·subst h0;have rO:n=0:=by simp [dv] at ph;omega
  subst rO;refine ⟨?_,by decide⟩;unfold ah;rw [aC h];simp only [go_sem,ya,yd,Iy,aM,hw.len,hw.pu,hw.one,bl,yf,cC,yK,show ((0:Nat):Int)=(0:Int) from rfl,yx];rfl
 ·have AZ:0<l.length:=vQ.2 h0;obtain ⟨x,hx⟩:∃x,x=l.getD (l.length-1) 0:=⟨_,rfl⟩;have e1:=pM hw (show l.length-1<l.length by omega);have gx:=gX hd (l.length-1);have gp:=last_pos hd hz AZ;rw [<-hx] at e1 gx gp;obtain ⟨m,rfl⟩:∃m:Nat,x=m:=⟨x.toNat,by omega⟩;have e2:=Sl nG (n:=m) (by omega);have ik:dv (l.drop (l.length-1))=m:=by
   rw [yP (show l.length-1<l.length by omega),y9 (by omega)]
   have:l[l.length-1]=(m:Int):=by rw [hx];simp [xx,xW (show l.length-1<l.length by omega)]
   simp [dv,this]
  have h9:(ap m).length<=9:=qH (k:=8) (by omega);have fin:∀neg:Bool,bE P L (D P L) 282 [.agg [.bool neg,w]]=some (.str ((if neg=true then [45] else [])++ap (dv l)))/\(ap (dv l)).length<=180000000000:=fun neg=>by
   rw [aC h]
   simp only [go_sem,ya,yd,Iy,aM,hw.len,hw.pu,hw.one,bl,yf,cC,show ¬(l.length:Int)=0 by omega,show (l.length:Int)-1=((l.length-1:Nat):Int) by omega,wrapN (n:=l.length-1) (by omega),e1,e2];generalize hq:D P L (.loop [1,3,4] Hx) _=q;obtain ⟨ex,s,rfl,tm,rfl,rfl,t1,t3,hlen⟩:=b9 hq (aqj (P:=P) (L:=L) nG (neg:=neg) hw hd hz (by omega) (l.length-1)) ⟨l.length-1,ap m,by
    rw [show (l.length:Int)-2=((l.length-1:Nat):Int)-1 by omega,wrap64 (by omega) (by omega)]
    simp only [go_sem,ya,yd,az]<;>rfl,rfl,by omega,by rw [ik];omega,by rw [ik],by omega⟩
   refine ⟨?_,hlen⟩
   cases neg with
   | true=>
    simp only [go_sem,ya,az,t1,t3,bl,yf,gh (a:=[45]) (b:=ap (dv l)) (by simp;omega),xA]
   | false=>
    simp only [go_sem,ya,az,t1,t3,bl,yf];rfl
  obtain ⟨f1,f2⟩:=fin (decide (n<0));rw [ph] at f1 f2;simp only [um] at f1;rw [nd] at f1;refine ⟨f1,?_⟩;rw [<-nd]
  split<;>simp<;>omega
structure Rb (P:aF) (L:Lib):Prop where
 at1:Has P L 262 It
 zk:Has P L 272 Ix
 acD:Has P L 274 MR
 acE:Has P L 275 MS
 acF:Has P L 277 AL
 at2:Has P L 280 nD
 acG:Has P L 281 MU
 Nr:Has P L 282 Iy
 acH:Has P L 288 MX
 I0:Has P L 289 rh
 zm:Has P L 290 Ej
 Sm:Has P L 291 IA
 nG:Has P L 292 zh
 kH:Has P L 293 AM
 gO:Has P L 294 AN
 No:Has P L 295 IB
 nL:Has P L 296 ri
 acI:Has P L 298 MY
 oM:Has P L 299 AO
 cD:Has P L 300 lD
 mi:Has P L 302 rk
structure Ras (P:aF) (L:Lib):Prop extends Rb P L where
 acJ:Has P L 264 Iu
 at3:Has P L 268 Iw
 at4:Has P L 271 Sa
 at5:Has P L 276 oI
 I1:Has P L 278 MT
 at6:Has P L 279 Ei
 Np:Has P L 297 IC
structure Ra (P:aF) (L:Lib):Prop extends Ras P L where
 acK:Has P L 267 Iv
def anE {v w:AV} {a vs:List Int} {f:Int} (hv:a8 v a) (hw:a8 w vs) {n:Nat} (la:a.length<=9000000000) {A:Nat}:
  ∀k st,(∃us:List Int,aT [0,8,9,10,11] st=⟨[(0,v),(8,.ay 0 0 1),(9,w),(10,aa n),(11,.ay 1 0 us.length)],[(1,.cells true true false 1 (us.map aa)),(0,.cells false true true 1 [aa f])],2,0⟩/\us.length+k=a.length+1/\dg us/\dv us=A)->
   ∃ex st',D P L (.loop [0,8,9,10,11] Hy) st=some (ex,st')/\∃tm us,st'=⟨tm,[(1,.cells true true false 1 (us.map aa)),(0,.cells false true true 1 [aa f])],2,0⟩/\ex= .exit 0/\aj tm 8= .ay 0 0 1/\aj tm 9=w/\aj tm 10=aa n/\aj tm 11= .ay 1 0 (a.length+1)/\us.length=a.length+1/\dg us/\dv us=A:=by
 intro dq sq;generalize bt:aT [0,8,9,10,11] sq=s0;revert bt s0 sq dq;apply dU;rintro k st ⟨us,rfl,hk,gu,aG⟩;have ea:((a.length:Nat):Int)+1=((a.length+1:Nat):Int):=rfl;by_cases hi:us.length<a.length+1
 ·left
  simp only [go_sem,ya,yd,yp,yk,Hy,hv.len,ea,wrapN (n:=a.length+1) (by omega),show ((us.length:Nat):Int)<((a.length+1:Nat):Int) by omega]
  rw [kh (ex:=false) (pu:=true) (cs:=us.map aa) (by simp only [go_sem,ya]) (by simp) (by omega) (by omega) (by decide) (by simp only [go_sem])];refine ⟨_,k-1,rfl,by omega,us++[0],?_,by simp;omega,gG.2 ⟨gu,jM.2 (by decide)⟩,by rw [lM];simp [dv,aG]⟩;rw [xC,yR];simp only [go_sem,ya,yd,az,aE hv.pu,aJ _ hv.pu,aE hw.pu,aJ _ hw.pu]<;>rfl
 ·right
  have hl:us.length=a.length+1:=by omega
  rw [hl]
  simp only [go_sem,ya,Hy,hv.len,ea,wrapN (n:=a.length+1) (by omega),show ¬((a.length+1:Nat):Int)<((a.length+1:Nat):Int) by omega];exact ⟨_,_,rfl,by simp,_,us,rfl,rfl,by simp only [go_sem,ya],by simp only [go_sem,ya],by simp only [go_sem,ya],by simp only [go_sem,ya],hl,gu,aG⟩
end
def ZY:∀l:List Int,bL (l.map aa)=true
 | []=>rfl
 | a::r=>by rw [xm,Xo,ZY r];rfl
def ZZ:∀l:List Int,aD (l.map aa)=true
 | []=>rfl
 | a::r=>by rw [xm,aD,ZZ r];rfl
def anF {hp:Hp} {ct:Nat} {e:Bool} {us:List Int} {o:Obj} (h:us.length<=100000000000):
  Cq ((1,.cells true true true 1 [])::(0,o)::hp) ct 1 8 (.ay 1 0 0) (lP ((1,.cells true true true 1 [])::(0,o)::hp) 1 (.aA e us.length (us.map aa)))=some (.ay ct 0 us.length,(ct,.cells true true false 1 (us.map aa))::db ((1,.cells true true true 1 [])::(0,o)::hp) 1,ct+1):=by
 have h1:lP ((1,.cells true true true 1 [])::(0,o)::hp) 1 (.aA e us.length (us.map aa))=some (us.length,us.map aa):=by
  simp [lP]
 rw [h1,kh (cs:=[]) (pu:=true) (ex:=true) rfl (by simp) (by omega) (by omega) (by decide) (ZY us),ZZ,yf];rfl
def aqk {l:List Int} (hd:dg l) (hn:nz l) (h:0<l.length):1000000000^(l.length-1)<=dv l:=L6 hn hd (fun e=>by subst e;simp at h)
def ak9 {n top f V:Nat} (hf:f=1000000000/(top+1)) (ht0:0<top) (ht:top<1000000000) (h1:V<1000000000^(n-1)*(top+1)) (hn:0<n):0<f/\f<1000000000/\V*f<1000000000^n:=by
 have h2:f*(top+1)<=1000000000:=by rw [hf];exact Nat.div_mul_le_self _ _
 have h3:0<f:=by rw [hf];exact Nat.div_pos (by omega) (by omega)
 refine ⟨h3,?_,?_⟩
 ·have:=yS f (show 2<=top+1 by omega)
  omega
 ·have e1:=xS h1 h3;have e2:=yS (1000000000^(n-1)) h2;rw [<-y7,show (n-1).succ=n by omega] at e2
  grind
section
variable {P:aF} {L:Lib}
def aql (h:Has P L 289 rh) (kH:Has P L 293 AM) (oM:Has P L 299 AO) (cD:Has P L 300 lD) (pV:Has P L 301 zi) {v w:AV} {a b:List Int} (hv:a8 v a) (hw:a8 w b) (ha:dg a) (hb:dg b) (na:nz a) (nb:nz b) (la:a.length<=8000000000) (lb:2<=b.length) (ec:ah P L 296 [v,w] (aa (dG (dv a) (dv b)))) (hc:dv b<=dv a):
  ∃q r lq lr,ah P L 289 [v,w] (.au [q,r])/\a8 q lq/\a8 r lr/\dg lq/\nz lq/\dg lr/\nz lr/\dv lq=dv a/dv b/\dv lr=dv a%dv b:=by
 have dR:¬dG (dv a) (dv b)<0:=by unfold dG;rw [yB (by omega)];split<;>decide
 have ar4:=aqk hb nb (by omega);have hba:b.length<=a.length:=by
  have:=jA ha
  have h1:1000000000^(b.length-1)<1000000000^a.length:=by omega
  have:=(yaz (show 1<1000000000 by decide)).1 h1
  omega
 obtain ⟨n,hn⟩:∃n,n=b.length:=⟨_,rfl⟩;have at7:=gX hb (n-1);have lX:=last_pos hb nb (by omega);rw [<-hn] at lX;obtain ⟨top,nI⟩:∃v:Nat,b.getD (n-1) 0=v:=⟨(b.getD (n-1) 0).toNat,by omega⟩;have acL:=pM hw (i:=n-1) (by omega);rw [nI] at at7 lX acL;have hbt:=ol (l:=b) (n-1);rw [show n-1+1=n by omega,yM (by omega),nI,wo] at hbt;have ar5:=jA (BM hb (n-1));rw [yO,xF (by omega)] at ar5;obtain ⟨f,hf⟩:∃f,f=1000000000/(top+1):=⟨_,rfl⟩;obtain ⟨C8,hfB,hfV⟩:=ak9 (n:=n) (V:=dv b) hf (by omega) (by omega) (by rw [xB,yk];omega) (by omega);have hIf:a8 (.aA true 1 [aa f]) [(f:Int)]:=iQ true [(f:Int)];have gf:dg [(f:Int)]:=jM.2 (by omega);have vf:dv [(f:Int)]=f:=by simp [dv]
 obtain ⟨v',vs,e1,dX,hsv,C1,JE,r8⟩:=SU kH cD hw hIf hb gf (by omega) (by simp);obtain ⟨u',Bv,e2,jf,CY,E5,nus,JR⟩:=SU kH cD hv hIf ha gf (by omega) (by simp);rw [vf] at r8 JR;have qc:0<dv b:=by have:=yaG (n:=b.length-1) (show 0<1000000000 by decide);omega
 have zN:vs.length=n:=by
  have h1:vs.length<=n:=gY C1 JE (by rw [r8];exact hfV)
  have h2:dv b<=dv vs:=by rw [r8];exact Nat.le_mul_of_pos_right _ C8
  have h3:=jA C1;have h4:1000000000^(n-1)<1000000000^vs.length:=by rw [hn];omega
  have:=(yaz (show 1<1000000000 by decide)).1 h4
  omega
 have Oo:Bv.length<=a.length+1:=by
  refine gY E5 nus ?_;rw [JR,y7];exact uQ (jA ha) hfB
 have acM:0<Bv.length:=by
  rcases xi Bv.length with e | e
  ·have h1:0<dv a*f:=vK (by omega) C8;rw [yH e] at JR;simp only [dv] at JR;omega
  ·exact e
 have dN:0<vs.getD (n-1) 0:=by
  have:=last_pos C1 JE (by omega)
  rwa [zN] at this
 obtain ⟨m,hm⟩:∃m,m=a.length+1-n:=⟨_,rfl⟩;have cE:∀ct:Nat,zj ct 1 8 [.int .i64 0] (some m) (some m)=some (.ay ct 0 m,.cells true true true 1 ((yy m (0:Int)).map aa)):=fun ct=>by
  rw [DQ (sz:=1) (by omega) (by omega) (by rfl) (by rfl),Pe];rfl
 obtain ⟨e,rfl⟩:∃e,u'= .aA e Bv.length (Bv.map aa):=by
  rcases jf with ⟨rfl,h0⟩ | ⟨e,rfl⟩
  ·rw [List.map_eq_nil_iff] at h0;rw [h0] at acM;simp at acM
  ·exact ⟨e,by rw [xo]⟩
 have Ry:∀us:List Int,us.length=a.length+1->dv us=dv a*f->dv (us.drop m)<dv vs:=fun us hl hd=>by
  have e1:=P3 us m (by omega);have e2:=jA ha;have e3:=xS e2 C8;have e4:1000000000^a.length=1000000000^m*1000000000^(n-1):=by rw [<-xL];congr 1;omega
  rw [<-hd,e4,xp] at e3;have e5:1000000000^m*dv (us.drop m)<1000000000^m*(1000000000^(n-1)*f):=by omega
  refine yu (Nat.lt_of_mul_lt_mul_left e5) ?_;rw [r8,hn];exact yQ _ ar4
 have iY:∃us qs,(us.length=a.length+1/\qs.length=m/\dg us/\dg qs/\dv us+dv qs*dv vs=dv a*f/\dv us<dv vs)/\
   ∃q1 r1 lr,a8 q1 (dI qs)/\a8 r1 lr/\dg lr/\nz lr/\dv lr=dv (us.take n)/f/\ah P L 289 [v,w] (.au [q1,r1]):=by
  unfold ah at ec e1 e2;unfold ah;rw [aC h];have IU:IntKind.wrap .i64 ((1000000000:Int).tdiv ((top+1:Nat):Int))=(f:Int):=by
   rw [xJ (by decide),show (1000000000:Int)/((top+1:Nat):Int)=((1000000000/(top+1):Nat):Int) from rfl,<-hf,wrap64 (by omega) (by omega)]
  simp only [go_sem,ya,yd,yI,yp,yk,rh,hv.ai,hw.len,hw.ai,ec,dR,show ¬(n:Int)=1 by omega,<-hn,show (n:Int)-1=((n-1:Nat):Int) by omega,wrapN (n:=n-1) (by omega),acL,show ((top:Nat):Int)+1=((top+1:Nat):Int) from rfl,wrapN (n:=top+1) (by omega),eS _ _ _ (show ((top+1:Nat):Int)≠0 by omega),IU,e1,hsv,dX.len,zN,e2,CY,anF (us:=Bv) (e:=e) (by omega)];generalize bt:D P L (.loop [0,8,9,10,11] Hy) _=q0;obtain ⟨ex,st,rfl,tm,us,rfl,rfl,t8,t9,t10,t11,lu,gu,vu⟩:=b9 bt (anE (P:=P) (L:=L) (f:=(f:Int)) (n:=n) (A:=dv a*f) hv dX (by omega) (a.length+1-Bv.length)) ⟨Bv,by
   simp only [go_sem,ya,yd,az,aE hv.pu,aJ _ hv.pu,aE dX.pu,aJ _ dX.pu]<;>rfl,by omega,E5,JR⟩
  have em:((a.length+1:Nat):Int)-(n:Int)=(m:Int):=by omega
  have em1:(m:Int)-1=((m-1:Nat):Int):=by omega
  simp only [go_sem,ya,yd,az,aE dX.pu,aJ _ dX.pu,t8,t9,t10,t11,em,wrapN (n:=m) (by omega),cE,em1,wrapN (n:=m-1) (by omega)];generalize eQ:D P L (.loop [8,9,10,11,12,13] HA) _=q1;obtain ⟨ex,st,rfl,mP,Bw,qs,rfl,rfl,t8,t10,t11,t12,lu1,JI,gu1,gq1,aG,aR⟩:=b9 eQ (anD (P:=P) (L:=L) pV (f:=(f:Int)) dX C1 zN (by omega) (show n<a.length+1 by omega) (by omega) (by omega) dN (U0:=dv a*f) m) ⟨m,us,yy m 0,by
   rw [show ((m-1:Nat):Int)=(m:Int)-1 by omega]
   simp only [go_sem,ya,yd,az,aE dX.pu,aJ _ dX.pu]<;>rfl,rfl,yA _,lu,by simp,gu,Yb m,fun i _=>WJ m i,by rw [Ya,Nat.zero_mul,yW,vu],Ry us lu vu⟩
  have lF:∀(hp:Hp) tm (y:X),ak hp 1=some (.cells true true false 1 (Bw.map aa))->cB tm (a.length+1) (some y)=some n->fg hp (.sl 1) (.ay 1 0 (a.length+1)) tm none (some y)=some (.ay 1 0 n):=fun hp tm y h1 h2=>Yj h1 h2 (by omega) (by omega)
  obtain ⟨e',JG⟩:∃e',∀hp:Hp,lE 0 n (some (false,1,Bw.map aa,hp))=some (.aA e' n ((Bw.take n).map aa),hp):=by
   refine ⟨false&&yJ 0 1&&yr n (Bw.map aa).length,fun hp=>?_⟩;simp only [lE,yf,yk,slice,yo,<-List.map_take];rw [yv (by simp;omega)];rfl
  have ltk:(Bw.take n).length=n:=by rw [yO];omega
  have il:=iQ e' (Bw.take n);rw [ltk] at il;obtain ⟨r0,f1,lJ,aua⟩:=AQ cD il (by omega);obtain ⟨r1,lr,f2,cg,ayv,ar6,dr,nr,vr⟩:=acz oM cD lJ (Ab (BM gu1 n)) (by have:=KA (Bw.take n);omega) C8 hfB;have JF:=iQ true qs;rw [JI] at JF;obtain ⟨q1,f3,eQ,aub⟩:=AQ cD JF (by omega);rw [sD] at vr;unfold ah at f1 f2 f3;refine ⟨Bw,qs,⟨lu1,JI,gu1,gq1,aG,aR⟩,q1,r1,lr,eQ,cg,dr,nr,vr,?_⟩;have nX:jj 1 0 (AV.ay 0 0 1)=some (.ptr 0 0):=cT 0 0 (show 0<1 by omega)
  simp only [go_sem,ya,yd,az,t8,t10,t11,t12,lF,dA,JG,f1,aua,lJ.ai,nX,f2,ar6,fun hp=>nf (hp:=hp) (k:=m) (sz:=1) (cs:=qs.map aa) true (by simp [JI]) (by decide),f3,aub];rcases eQ with ⟨rfl,_⟩ | ⟨_,rfl⟩<;>rcases cg with ⟨rfl,_⟩ | ⟨_,rfl⟩<;>rfl
 obtain ⟨us,qs,⟨lu,lq,gu,gq,aG,aR⟩,q1,r1,lr,eQ,cg,dr,nr,vr,e⟩:=iY;rw [r8] at aG aR;have IU:dv qs=dv a/dv b:=by
  rw [<-Nat.mul_div_mul_right _ _ C8,<-aG,tx,xy,yaP (vK qc C8),xP aR,yW]
 have Ot:dv us=(dv a%dv b)*f:=by
  rw [<-Nat.mul_mod_mul_right,<-aG,tx,xy (dv qs),Nat.mul_add_mod,yL aR]
 have jO:=P3 us n (by omega);have fB:dv (us.drop n)=0:=by
  rcases xi (dv (us.drop n)) with h0 | h0
  ·exact h0
  ·have:=yS (1000000000^n) h0
   omega
 rw [fB,xD,yW] at jO;rw [<-jO,Ot,Nat.mul_div_cancel _ C8] at vr;exact ⟨q1,r1,_,lr,e,eQ,cg,Ab gq,Dx _,dr,nr,by rw [sD,IU],vr⟩
def aa6 (h:Has P L 289 rh) (kH:Has P L 293 AM) (nL:Has P L 296 ri) (oM:Has P L 299 AO) (cD:Has P L 300 lD) (pV:Has P L 301 zi) {v w:AV} {a b:List Int} (hv:a8 v a) (hw:a8 w b) (ha:dg a) (hb:dg b) (na:nz a) (nb:nz b) (la:a.length<=8000000000) (lb:b.length<=8000000000) (h0:0<dv b):
  ∃q r lq lr,ah P L 289 [v,w] (.au [q,r])/\a8 q lq/\a8 r lr/\dg lq/\nz lq/\dg lr/\nz lr/\dv lq=dv a/dv b/\dv lr=dv a%dv b:=by
 by_cases hl:b.length<=1
 ·exact atU h nL oM cD hv hw ha hb na nb (by omega) hl h0
 have ec:=SS nL hv hw ha hb na nb (by omega) (by omega);by_cases hc:dv a<dv b
 ·unfold ah at ec;have dR:dG (dv a) (dv b)= -1:=by unfold dG;rw [yN hc]
  rw [dR] at ec;refine ⟨.ae,v,[],a,?_,qG,hv,rfl,rfl,ha,na,?_,?_⟩
  ·unfold ah;rw [aC h];simp only [go_sem,ya,rh,hv.ai,hw.ai,ec,show (-1:Int)<0 by decide];rcases hv with ⟨rfl,_⟩ | ⟨e,rfl⟩<;>rfl
  ·rw [xP hc];rfl
  ·rw [yL hc]
 ·exact aql h kH oM cD pV hv hw ha hb na nb la (by omega) ec (by omega)
def aa7 (h:Has P L 275 MS) (I0:Has P L 289 rh) (kH:Has P L 293 AM) (nL:Has P L 296 ri) (oM:Has P L 299 AO) (cD:Has P L 300 lD) (pV:Has P L 301 zi) {v w:AV} {a b:List Int} (hv:a8 v a) (hw:a8 w b) (ha:dg a) (hb:dg b) (na:nz a) (nb:nz b) (la:a.length<=8000000000) (lb:b.length<=8000000000):
  ∃r l,ah P L 275 [v,w] r/\a8 r l/\dg l/\nz l/\dv l=wD (dv a) (dv b):=by
 have key:=jZ (P:=P) (L:=L) (live:=[0,1]) (a:=Hw)
  (I:=fun k st=>∃x y lx ly,st=⟨[(0,x),(1,y)],[],0,0⟩/\a8 x lx/\a8 y ly/\dg lx/\nz lx/\dg ly/\nz ly/\lx.length<=8000000000/\ly.length<=8000000000/\dv ly=k/\wD (dv lx) (dv ly)=wD (dv a) (dv b))
  (Q:=fun ex st=>∃tm ct,st=⟨tm,[],ct,0⟩/\ex= .exit 0/\∃x lx,aj tm 0=x/\a8 x lx/\dg lx/\nz lx/\dv lx=wD (dv a) (dv b)) ?_
 ·unfold ah;rw [aC h];simp only [go_sem,MS];generalize hq:D P L (.loop [0,1] Hw) _=q;obtain ⟨ex,st,rfl,tm,ct,rfl,rfl,x,lx,h2,hx,dx,nx,vx⟩:=b9 hq (key (dv b)) ⟨v,w,a,b,by simp only [go_sem,ya,az,aE hv.pu,aJ _ hv.pu,aE hw.pu,aJ _ hw.pu]<;>rfl,hv,hw,ha,na,hb,nb,la,lb,rfl,rfl⟩
  refine ⟨x,lx,?_,hx,dx,nx,vx⟩;simp only [go_sem,az,h2,hx.dQ,aE hx.pu,aJ _ hx.pu]
 ·rintro k st ⟨x,y,lx,ly,rfl,hx,hy,dx,nx,dy,ny,llx,lly,rfl,hg⟩;by_cases h0:ly=[]
  ·right
   subst h0;simp only [go_sem,ya,Hw,hy.len,yK,show ¬(0:Int)<((0:Nat):Int) by omega];refine ⟨_,_,rfl,by simp,_,_,rfl,rfl,x,lx,by simp only [go_sem,ya],hx,dx,nx,?_⟩;rw [<-hg];simp [dv]
  ·left
   have hp:0<dv ly:=by
    rcases xi (dv ly) with e | e
    ·exact absurd (Qg ny dy e) h0
    ·exact e
   have hl:0<ly.length:=vQ.2 h0;obtain ⟨q,r,lq,lr,e1,hq,hr,dq,nq,dr,nr,vq,vr⟩:=aa6 I0 kH nL oM cD pV hx hy dx dy nx ny llx lly hp;have aR:dv lr<dv ly:=by rw [vr];exact xE _ hp
   have hB:=jA dy;simp only [go_sem,ya,Hw,hx.ai,hy.len,hy.ai,show (0:Int)<ly.length by omega,e1,hq.bM,hr.bM];refine ⟨_,dv lr,rfl,aR,y,r,ly,lr,?_,hy,hr,dy,ny,dr,nr,by omega,xg (gY dr nr (Nat.lt_trans aR hB)) lly,rfl,?_⟩
   ·simp only [go_sem,ya,az,aE hy.pu,aJ _ hy.pu,aE hr.pu,aJ _ hr.pu]<;>rfl
   ·rw [<-hg,vr,tH (dv ly),<-Nat.gcd_rec,tH]
def aqm (zm:Has P L 290 Ej) {neg:Bool} {N:Nat} (hN:(ap N).length<=180000000000):
  ∀k s,(∃(i m:Nat) (out:List Int),m=k/\out.length=i/\dg out/\dv out+1000000000^i*m=N/\(ap m).length+9*i<=180000000000/\
    ((i=0/\aT [0,2,3,4] s=⟨[(0,.str (ap m)),(2,.ptr 0 0),(3,.bool neg),(4,.ae)],[(0,.cells true true true 2 [.bool false,.ae])],1,0⟩)\/
    (0<i/\aT [0,2,3,4] s=⟨[(0,.str (ap m)),(2,.ptr 0 0),(3,.bool neg),(4,.ay 1 0 i)],[(1,.cells true true false 1 (out.map aa)),(0,.cells true true true 2 [.bool false,.ae])],2,0⟩)))->
   ∃ex s',D P L (.loop [0,2,3,4] sQ) s=some (ex,s')/\∃tm i m out,ex= .exit 0/\m<1000000000/\out.length=i/\dg out/\dv out+1000000000^i*m=N/\i<20000000000/\aj tm 0= .str (ap m)/\aj tm 2= .ptr 0 0/\aj tm 3= .bool neg/\
    ((i=0/\aj tm 4= .ae/\s'=⟨tm,[(0,.cells true true true 2 [.bool false,.ae])],1,0⟩)\/(0<i/\aj tm 4= .ay 1 0 i/\s'=⟨tm,[(1,.cells true true false 1 (out.map aa)),(0,.cells true true true 2 [.bool false,.ae])],2,0⟩)):=by
 intro dq sq;generalize bt:aT [0,2,3,4] sq=s0;revert bt s0 sq dq;apply dU;rintro k s ⟨i,m,out,rfl,hlen,hd,aG,hl,hs⟩;by_cases hm:1000000000<=m
 ·left
  obtain ⟨q,hq⟩:∃q,q=m/1000000000:=⟨_,rfl⟩;obtain ⟨r,hr⟩:∃r,r=m%1000000000:=⟨_,rfl⟩;have lF:=akK hm;rw [<-hq,<-hr] at lF;have mQ:=PY 9 r;have hqp:=qI q;have hlm:(ap m).length=(ap q).length+9:=by rw [lF,yR,mQ]
  have c1:ib (ap m) (some (ap q).length) (some (ap m).length)=some (.str (iD 9 r)):=by
   rw [kZ (by omega) (yA _),xK,lF,tv]
  have c2:ib (ap m) (some 0) (some (ap q).length)=some (.str (ap q)):=by
   rw [kZ (by omega) (by omega),yo,lF,tu]
  have e1:=IP zm (s:=iD 9 r) (v:=r) (by omega) (by rw [Yg 9 r 0 (by omega)];simp)
  unfold ah at e1;have pU:dg (out++[(r:Int)]):=gG.2 ⟨hd,jM.2 (by omega)⟩;have Mf:dv (out++[(r:Int)])+1000000000^(i+1)*q=N:=by
   rw [lM,hlen,<-aG,y7];have e:=uL m 1000000000;rw [<-hr,<-hq] at e;rw [<-e];simp only [dv,wo,xD,yW,xB,xp];omega
  have Ms:((ap m).length:Int)-9=((ap q).length:Int):=by omega
  rcases hs with ⟨h0,rfl⟩ | ⟨h0,rfl⟩
  ·subst h0;have iZ:out=[]:=yH hlen;subst iZ
   simp only [go_sem,ya,yd,xQ,yI,yp,yk,sQ,show (9:Int)<((ap m).length:Int) by omega,Ms,wrapN (n:=(ap q).length) (by omega),ef,eF,dA,c1,c2,e1,kW];refine ⟨_,q,rfl,by omega,1,q,[]++[(r:Int)],rfl,rfl,pU,Mf,by omega,.inr ⟨by omega,?_⟩⟩;rfl
  ·simp only [go_sem,ya,yd,yp,yk,sQ,show (9:Int)<((ap m).length:Int) by omega,Ms,wrapN (n:=(ap q).length) (by omega),ef,eF,dA,c1,e1]
   rw [kh (ex:=false) (pu:=true) (cs:=out.map aa) (by simp only [go_sem,ya]) (by rw [xo,hlen,yk]) (by omega) (by omega) (by decide) (by simp only [go_sem])]
   simp only [go_sem,ya,yd,ef,eF,dA,Ms,wrapN (n:=(ap q).length) (by omega),c2];refine ⟨_,q,rfl,by omega,i+1,q,out++[(r:Int)],rfl,by simp [hlen],pU,Mf,by omega,.inr ⟨by omega,?_⟩⟩;rw [xC];simp only [go_sem,ya,yd,az]<;>rfl
 ·right
  have h9:(ap m).length<=9:=qH (k:=8) (by omega);have hp0:=qI m;rcases hs with ⟨h0,rfl⟩ | ⟨h0,rfl⟩
  ·simp only [go_sem,sQ,show ¬(9:Int)<((ap m).length:Int) by omega];exact ⟨_,_,rfl,by simp,_,i,m,out,rfl,by omega,hlen,hd,aG,by omega,by simp only [go_sem,ya],by simp only [go_sem,ya],by simp only [go_sem,ya],.inl ⟨h0,by simp only [go_sem,ya],rfl⟩⟩
  ·simp only [go_sem,sQ,show ¬(9:Int)<((ap m).length:Int) by omega];exact ⟨_,_,rfl,by simp,_,i,m,out,rfl,by omega,hlen,hd,aG,by omega,by simp only [go_sem,ya],by simp only [go_sem,ya],by simp only [go_sem,ya],.inr ⟨h0,by simp only [go_sem,ya],rfl⟩⟩
def acN (h:Rb P L) {n:Int} (hn:(ap n.natAbs).length<=180000000000):∃r,ah P L 288 [.str (aP n)] r/\iM r n:=by
 obtain ⟨u,hu⟩:∃u,u=ap n.natAbs:=⟨_,rfl⟩;obtain ⟨b,t,hb,mq,hb2⟩:=Dp n.natAbs;have hs:aP n=(if n<0 then [45] else [])++u:=by rw [hu,nd]
 have Bh:0<u.length:=by rw [hu];exact qI _
 have p8:u[0]=b:=by
  have:u=b::t:=by rw [hu,hb]
  simp [this]
 have key:∀(s:St),aT [0,2,3,4] s=⟨[(0,.str u),(2,.ptr 0 0),(3,.bool (decide (n<0))),(4,.ae)],[(0,.cells true true true 2 [.bool false,.ae])],1,0⟩->
   ∃ex s',D P L (.loop [0,2,3,4] sQ) s=some (ex,s')/\∃tm i m out,ex= .exit 0/\m<1000000000/\out.length=i/\dg out/\dv out+1000000000^i*m=n.natAbs/\i<20000000000/\aj tm 0= .str (ap m)/\aj tm 2= .ptr 0 0/\aj tm 3= .bool (decide (n<0))/\
    ((i=0/\aj tm 4= .ae/\s'=⟨tm,[(0,.cells true true true 2 [.bool false,.ae])],1,0⟩)\/(0<i/\aj tm 4= .ay 1 0 i/\s'=⟨tm,[(1,.cells true true false 1 (out.map aa)),(0,.cells true true true 2 [.bool false,.ae])],2,0⟩)):=fun s hc=>
  aqm (P:=P) (L:=L) h.zm (neg:=decide (n<0)) hn n.natAbs s ⟨0,n.natAbs,[],rfl,rfl,rfl,by simp [dv],by omega,.inl ⟨rfl,by rw [hc,hu]⟩⟩
 have fin:∀(i m:Nat) (out:List Int),m<1000000000->out.length=i->dg out->dv out+1000000000^i*m=n.natAbs->i<20000000000->∃w l,bE P L (D P L) 294 [.bool (decide (n<0)),.aA false (i+1) ((out++[(m:Int)]).map aa)]=some (.agg [.bool (decide (n<0)),w])/\a8 w l/\dg l/\nz l/\dv l=n.natAbs:=fun i m out h1 h2 h3 h4 h5=>by
  have hv:=iQ false (out++[(m:Int)]);have hd:dg (out++[(m:Int)]):=gG.2 ⟨h3,jM.2 (by omega)⟩;have aG:dv (out++[(m:Int)])=n.natAbs:=by rw [lM,h2];simp [dv];exact h4
  obtain ⟨r,e,hr⟩:=nJ h.gO h.cD (decide (n<0)) hv hd (by simp;omega);have r9:bT (decide (n<0)) (dv (out++[(m:Int)]))=n:=by
   rw [aG];unfold bT;by_cases h0:n<0
   ·simp only [h0,yx,xA];omega
   ·simp only [h0,yE,yD,xk];omega
  rw [r9] at hr;obtain ⟨w,l,rfl,hw,gP,iI,cz⟩:=hr;simp only [yR,List.length_singleton,h2] at e;exact ⟨w,l,e,hw,gP,iI,cz⟩
 unfold ah;rw [hs];by_cases h0:n<0
 ·rw [yN h0,aC h.acH];have kK:ib (45::u) (some 1) (some (u.length+1))=some (.str u):=by rw [kZ (s:=45::u) (l:=1) (h:=u.length+1) (by omega) (by simp)];simp
  simp only [h0,yx] at key fin ⊢;simp only [go_sem,ya,yd,MX,aM,show (0:Int)<((u.length+1:Nat):Int) by omega,yX,xY,Cs,yx,ef,eF,dA,kK];generalize hq:D P L (.loop [0,2,3,4] sQ) _=q;obtain ⟨ex,s,rfl,tm,i,m,out,rfl,hm,hlen,hd,aG,hi,t0,t2,t3,Cd⟩:=b9 hq key (by simp only [go_sem,ya,yd,az]<;>rfl)
  have e1:=IP h.zm (s:=ap m) (v:=m) (by have:=qH (k:=8) (n:=m) (by omega);omega) (sB m);have cI:i<20000000000:=hi;obtain ⟨w,l,e2,hw,gP,iI,cz⟩:=fin i m out hm hlen hd aG cI;refine ⟨_,?_,w,l,rfl,hw,gP,iI,cz⟩;unfold ah at e1;rcases Cd with ⟨kQ,t4,rfl⟩ | ⟨kQ,t4,rfl⟩
  ·subst kQ;have iZ:out=[]:=yH hlen;subst iZ;have il:∀hp:Hp,lE 0 1 (some (false,1,[AV.int .i64 (m:Int)],hp))=some (.aA false 1 [AV.int .i64 (m:Int)],hp):=fun hp=>rfl
   simp only [xY,xm,vA,yf] at e2;simp only [go_sem,ya,yd,xQ,yI,yp,yk,az,t0,t2,t3,t4,e1,kW,il,e2,bc,hw.pu,hw.one,eI];rcases hw with ⟨rfl,_⟩ | ⟨e,rfl⟩<;>simp only [h0,yx]<;>rfl
  ·simp only [go_sem,ya,yd,yp,yk,az,t0,t2,t3,t4,e1]
   rw [kh (ex:=false) (pu:=true) (cs:=out.map aa) (by simp only [go_sem,ya]) (by rw [xo,hlen,yk]) (by omega) (by omega) (by decide) (by simp only [go_sem])];have il:∀hp:Hp,lE 0 (i+1) (some (false,1,out.map aa++[AV.int .i64 (m:Int)],hp))=some (.aA false (i+1) (out.map aa++[AV.int .i64 (m:Int)]),hp):=fun hp=>nf false (by simp [hlen]) (by decide)
   simp only [xC,xm,vA] at e2;simp only [go_sem,ya,yd,il,e2,bc,hw.pu,hw.one,eI,vR];rcases hw with ⟨rfl,_⟩ | ⟨e,rfl⟩<;>simp only [h0,yx]<;>rfl
 ·rw [yB h0,aC h.acH,xY];simp only [h0,yE] at key fin ⊢;simp only [go_sem,ya,yd,MX,aM,show (0:Int)<(u.length:Int) by omega,pH Bh,p8,show ¬((b:Nat):Int)=45 by omega];generalize hq:D P L (.loop [0,2,3,4] sQ) _=q;obtain ⟨ex,s,rfl,tm,i,m,out,rfl,hm,hlen,hd,aG,hi,t0,t2,t3,Cd⟩:=b9 hq key (by simp only [go_sem,ya,yd,az]<;>rfl)
  have e1:=IP h.zm (s:=ap m) (v:=m) (by have:=qH (k:=8) (n:=m) (by omega);omega) (sB m);have cI:i<20000000000:=hi;obtain ⟨w,l,e2,hw,gP,iI,cz⟩:=fin i m out hm hlen hd aG cI;refine ⟨_,?_,w,l,rfl,hw,gP,iI,cz⟩;rcases Cd with ⟨kQ,t4,rfl⟩ | ⟨kQ,t4,rfl⟩
  ·subst kQ;have iZ:out=[]:=yH hlen;subst iZ;have il:∀hp:Hp,lE 0 1 (some (false,1,[AV.int .i64 (m:Int)],hp))=some (.aA false 1 [AV.int .i64 (m:Int)],hp):=fun hp=>rfl
   simp only [xY,xm,vA,yf] at e2;simp only [go_sem,ya,yd,xQ,yI,yp,yk,az,t0,t2,t3,t4,e1,kW,il,e2,bc,hw.pu,hw.one,eI];rcases hw with ⟨rfl,_⟩ | ⟨e,rfl⟩<;>simp only [h0,yE]<;>rfl
  ·simp only [go_sem,ya,yd,yp,yk,az,t0,t2,t3,t4,e1]
   rw [kh (ex:=false) (pu:=true) (cs:=out.map aa) (by simp only [go_sem,ya]) (by rw [xo,hlen,yk]) (by omega) (by omega) (by decide) (by simp only [go_sem])];have il:∀hp:Hp,lE 0 (i+1) (some (false,1,out.map aa++[AV.int .i64 (m:Int)],hp))=some (.aA false (i+1) (out.map aa++[AV.int .i64 (m:Int)]),hp):=fun hp=>nf false (by simp [hlen]) (by decide)
   simp only [xC,xm,vA] at e2;simp only [go_sem,ya,yd,il,e2,bc,hw.pu,hw.one,eI,vR];rcases hw with ⟨rfl,_⟩ | ⟨e,rfl⟩<;>simp only [h0,yE]<;>rfl
end
def BC (n:Int) (r:List Nat):bG (aP n++r)=(aP n).length+bG r:=by
 rw [<-nd]
 split
 ·simp only [yX,xY,bG,yz];rw [yB (by decide),Gr r (sA _)];omega
 ·rw [xY];exact Gr r (sA _)
def P4:∀{a b:List Nat},cN a b=true->a=b
 | [],[],_=>rfl
 | [],_::_,h=>by simp [cN] at h
 | _::_,[],h=>by simp [cN] at h
 | x::a,y::b,h=>by
  simp only [cN,yg] at h;rw [yj h.1,P4 h.2]
def aa8 {n:Int} {d:Nat} (h:n≠0):cN (TT n d) [48]=false:=by
 cases hb:cN (TT n d) [48] with
 | false=>rfl
 | true=>
  have e:=P4 hb;unfold TT at e;by_cases h0:n<0
  ·rw [jJ h0] at e;simp at e
  ·obtain ⟨m,rfl⟩:∃m:Nat,n=m:=⟨n.toNat,by omega⟩;rw [j8] at e;obtain ⟨b,r,bX,_,_⟩:=Dp m;rw [bX] at e;simp only [yX,vW,List.append_eq_nil_iff] at e;have hv:=sB m;rw [bX,e.1,e.2.1] at hv
   have:(some 0:Option Nat)=some m:=hv
   grind
section
variable {P:aF} {L:Lib}
def aqn (h:Rb P L):∃r,ah P L 281 [aa 1] r/\iM r 1:=by
 obtain ⟨r,e,hr⟩:=nJ h.gO h.cD false (iQ false [(1:Int)]) (by decide) (by decide);obtain ⟨w,l,rfl,hw,hd,hz,hv⟩:=hr;refine ⟨_,?_,w,l,rfl,hw,hd,hz,hv⟩;simp only [xm,vA,yz,yK,yf] at e;have il:∀hp:Hp,lE 0 1 (some (false,1,[AV.int .i64 1],hp))=some (.aA false 1 [AV.int .i64 1],hp):=fun hp=>rfl
 unfold ah at e ⊢;rw [aC h.acG];simp only [go_sem,ya,yd,xQ,yI,yp,yk,MU,aM,Int.reduceLT,yE,LH,az,qP,Int.reduceEq,yU,yT,yx,fD _ _ _ (show (1000000000:Int)≠0 by decide),eS _ _ _ (show (1000000000:Int)≠0 by decide),show Int.tmod 1 1000000000=1 from rfl,show Int.tdiv 1 1000000000=0 from rfl,show IntKind.wrap .i64 0=0 from rfl,kW,il,e,hw.pu,hw.one,bc,eI];rcases hw with ⟨rfl,_⟩ | ⟨e,rfl⟩<;>rfl
def acO (h:Rb P L) {n:Int} {d:Nat} (hn:(ap n.natAbs).length<=144000000000) (hd:(ap d).length<=144000000000):
  ∃x y,ah P L 274 [.str (TT n d)] (.au [x,y])/\iM x n/\iM y d:=by
 obtain ⟨x,e1,hx⟩:=acN h (n:=n) (by omega);have hli:(aP n).length<=(ap n.natAbs).length+1:=by rw [<-nd];split<;>simp
 by_cases h1:d=1
 ·subst h1;obtain ⟨y,e2,hy⟩:=aqn h;have hT:TT n 1=aP n:=by unfold TT;simp
  have hs:=BC n [];rw [xX] at hs;have e3:=Cr h.zk (s:=aP n) (by omega);rw [hs] at e3;refine ⟨x,y,?_,hx,hy⟩;obtain ⟨xw,xl,rfl,dY,_,_,_⟩:=hx;obtain ⟨yw,yl,rfl,dZ,_,_,_⟩:=hy;rw [hT];unfold ah at e1 e2 e3 ⊢;rw [aC h.acD];simp only [go_sem,ya,yd,MR,aM,e3,bG,yW,yx,e1,e2,bc,dY.pu,dY.one,dZ.pu,dZ.one,eI];rcases dY with ⟨rfl,_⟩ | ⟨e,rfl⟩<;>rcases dZ with ⟨rfl,_⟩ | ⟨e',rfl⟩<;>rfl
 ·obtain ⟨y,e2,hy⟩:=acN h (n:=(d:Int)) (by simp;omega);rw [j8] at e2;obtain ⟨s,JH⟩:∃s,s=TT n d:=⟨_,rfl⟩;have hT:s=aP n++47::ap d:=by rw [JH];unfold TT;rw [yB h1]
  have hs:bG s=(aP n).length:=by rw [hT,BC];rfl
  have hlen:s.length=(aP n).length+(ap d).length+1:=by rw [hT];simp;omega
  have e3:=Cr h.zk (s:=s) (by omega);rw [hs] at e3;have c1:ib s (some 0) (some (aP n).length)=some (.str (aP n)):=by
   rw [kZ (by omega) (by omega),yo,hT,tu]
  have c2:ib s (some ((aP n).length+1)) (some s.length)=some (.str (ap d)):=by
   rw [kZ (by omega) (yA _),xK,hT,show aP n++47::ap d=(aP n++[47])++ap d by simp,show (aP n).length+1=(aP n++[47]).length by simp,tv]
  refine ⟨x,y,?_,hx,hy⟩;obtain ⟨xw,xl,rfl,dY,_,_,_⟩:=hx;obtain ⟨yw,yl,rfl,dZ,_,_,_⟩:=hy;rw [<-JH];unfold ah at e1 e2 e3 ⊢;rw [aC h.acD]
  simp only [go_sem,ya,yd,MR,aM,e3,show ¬((aP n).length:Int)=(s.length:Int) by omega,ef,eF,dA,c1,wrapN (n:=(aP n).length+1) (by omega),show ((aP n).length:Int)+1=(((aP n).length+1:Nat):Int) from rfl,c2,e1,e2,bc,dY.pu,dY.one,dZ.pu,dZ.one,eI];rcases dY with ⟨rfl,_⟩ | ⟨e,rfl⟩<;>rcases dZ with ⟨rfl,_⟩ | ⟨e',rfl⟩<;>rfl
end
def LO {n:Int} {d:Nat} (h:n<0):TT n d=45::TT (-n) d:=by
 have e:aP (-n)=ap n.natAbs:=by
  rw [<-nd,yB (show ¬-n<0 by omega),xY,show (-n).natAbs=n.natAbs by omega]
 unfold TT;rw [jJ h,e];rfl
def anG {n:Int} {d:Nat} (h:¬n<0):∃b u,TT n d=b::u/\48<=b:=by
 obtain ⟨b,r,hb,h1,_⟩:=Dp n.natAbs;refine ⟨b,r++(if d=1 then [] else 47::ap d),?_,h1⟩;unfold TT;rw [<-nd,yB h,xY,hb];rfl
def pL (a b:AV) (r:List AV):fV 2 true (a::b::r)=some (.agg [a,b]):=rfl
def anH (k:Nat):2^k<=1000000000^k:=vn (by decide) k
def Bd.r {k:Nat} {z:Int} (h:Bd k z):z.natAbs<1000000000^k:=yu h (anH k)
def H5 (r:Rat):RT r=TT r.num r.den:=rfl
def Zj {n d:Int} (hd:0<d):RT (wi n d)=oJ n d:=by
 obtain ⟨h1,h2⟩:=Gn (a:=n) hd;rw [anj hd,H5,h1]
 congr 1
 exact tY (show ((wi n d).den:Int)=((cW n d).toNat:Int) by rw [h2];have:=GO (a:=n) hd;unfold cW at this ⊢;omega)
structure Rm (P:aF) (L:Lib):Prop extends Rb P L where
 auc:Has P L 263 dc
 Ns:Has P L 273 Cn
 aud:Has P L 284 Sb
 aue:Has P L 285 MV
 auf:Has P L 286 MW
 Et:Has P L 287 Iz
 pV:Has P L 301 zi
structure Rp (P:aF) (L:Lib):Prop extends Ras P L,Rm P L
structure Rn (P:aF) (L:Lib):Prop extends Ra P L,Rp P L
section
variable {P:aF} {L:Lib}
def RB (h:Rm P L) {v w:AV} {a b:List Int} (hv:a8 v a) (hw:a8 w b) (ha:dg a) (hb:dg b) (na:nz a) (nb:nz b) (la:a.length<=8000000000) (lb:b.length<=8000000000) (h0:0<dv b):
  ∃q r lq lr,ah P L 289 [v,w] (.au [q,r])/\a8 q lq/\a8 r lr/\dg lq/\nz lq/\dg lr/\nz lr/\dv lq=dv a/dv b/\dv lr=dv a%dv b:=
 aa6 h.I0 h.kH h.nL h.oM h.cD h.pV hv hw ha hb na nb la lb h0
def aqo (h:Rm P L) {x y:AV} {a b:List Int} {n d:Int} {K:Nat} (hK:K<=8000000000) (hx:a8 x a) (ha:dg a) (na:nz a) (va:dv a=n.natAbs) (hy:a8 y b) (hb:dg b) (nb:nz b) (vb:dv b=d.natAbs) (kn:Bd K n) (kd:Bd K d) (hd:0<d) {tm:Env} (t2:aj tm 2= .ptr 0 0) (t3:aj tm 3= .ptr 1 0):
  eX [.t 4] (D P L (av (av nD.body)) ⟨tm,[(1,.cells true true true 2 [.bool (decide (d<0)),y]),(0,.cells true true true 2 [.bool (decide (n<0)),x])],2,0⟩)=some (.str (RT (wi n d))):=by
 rw [Zj hd];have la:=xg (gY ha na (by rw [va];exact kn.r)) hK
 have lb:=xg (gY hb nb (by rw [vb];exact kd.r)) hK
 obtain ⟨g,lg,e1,hg,UW,ng,vg⟩:=aa7 h.acE h.I0 h.kH h.nL h.oM h.cD h.pV hx hy ha hb na nb la lb;rw [va,vb,show wD n.natAbs d.natAbs=wT n d from rfl] at vg;have Jl:=G3 (a:=n) hd;have aug:wT n d<=d.natAbs:=Int.gcd_le_natAbs_right n (by omega);have lg1:lg.length<=8000000000:=xg (gY UW ng (by rw [vg];exact we aug kd.r)) hK
 obtain ⟨p,p',lp,lp',e2,hp,an,dp,np,dp',np',vp,vp'⟩:=RB h hx hg ha UW na ng la lg1 (by omega);obtain ⟨q,q',lq,lq',e3,hq,bH,dq,nq,dq',nq',vq,vq'⟩:=RB h hy hg hb UW nb ng lb lg1 (by omega);rw [va,vg] at vp;rw [vb,vg] at vq;have hrn:(cU n d).natAbs=n.natAbs/wT n d:=by unfold cU;rw [uJ (Int.gcd_dvd_left n d)];rfl
 have fY:(cW n d).natAbs=d.natAbs/wT n d:=by unfold cW;rw [uJ (Int.gcd_dvd_right n d)];rfl
 have hdp:=GO (a:=n) hd;rw [<-hrn] at vp;rw [<-fY] at vq;have ayw:=ZI n d;have r9:bT (decide (n<0)) (dv lp)=cU n d:=by
  rw [vp];unfold bT;by_cases h0:n<0
  ·have:¬0<=cU n d:=fun h1=>by have:=tz (tc Jl) h1;omega
   simp only [h0,yx,xA];omega
  ·have:¬cU n d<0:=fun h1=>by have:=Int.mul_neg_of_pos_of_neg Jl h1;omega
   simp only [h0,yE,yD,xk];omega
 have kn':Bd K (cU n d):=kn.le (PW n d);have Ta:Bd K (cW n d):=kd.le (PX n d);have lp1:lp.length<=8000000000:=xg (gY dp np (by rw [vp];exact kn'.r)) hK
 have JI:lq.length<=8000000000:=xg (gY dq nq (by rw [vq];exact Ta.r)) hK
 obtain ⟨s,e4,hs⟩:=nJ h.gO h.cD (decide (n<0)) hp dp (by omega);rw [r9] at hs;obtain ⟨e5,l5⟩:=Nq (K:=K) h.Nr h.nG (by omega) hs kn'.r;obtain ⟨u,e6,hu⟩:=nJ h.gO h.cD false hq dq (by omega);have zG:bT false (dv lq)=cW n d:=by rw [vq];unfold bT;simp only [yD,xk];omega
 rw [zG] at hu;obtain ⟨e7,l7⟩:=Nq (K:=K) h.Nr h.nG (by omega) hu Ta.r;obtain ⟨sw,sl,rfl,fO,_,_,_⟩:=hs;obtain ⟨uw,ul,rfl,huw,_,_,_⟩:=hu;have ayg:0<lq.length:=by
  rcases xi lq.length with e | e
  ·rw [yH e] at vq;simp [dv] at vq;omega
  ·exact e
 by_cases Ox:lq.length=1
 ·obtain ⟨z,rfl⟩:∃z,lq=[z]:=by
   cases lq with
   | nil=>simp at Ox
   | cons z r=>cases r with
    | nil=>exact ⟨z,rfl⟩
    | cons y r=>simp at Ox
  have JS:z=cW n d:=by simp [dv] at vq;omega
  have e8:=hq.br (i:=0) (by simp);simp only [uT] at e8;by_cases h1:cW n d=1
  ·have hT:oJ n d=aP (cU n d):=by unfold oJ;rw [yN h1]
   rw [hT];simp only [go_sem,ya,nD,av,t2,t3,hx.ai,hy.ai,bl,yf,cC,show ¬d<0 by omega,yE,e1,hg.ai,hg.shut,e2,hp.ai,hp.bM,an.bM,e3,hq.len,hq.bM,bH.bM,e4,fO.ai,bA,bc,e5,yz,yK,show ((1:Nat):Int)=(1:Int) from rfl,yx,e8,JS,h1]
  ·have hT:oJ n d=(aP (cU n d)++[47])++aP (cW n d):=by unfold oJ;rw [yB h1]
   rw [hT]
   simp only [go_sem,ya,nD,av,t2,t3,hx.ai,hy.ai,bl,yf,cC,show ¬d<0 by omega,yE,e1,hg.ai,hg.shut,e2,hp.ai,hp.bM,an.bM,e3,hq.len,hq.ai,hq.bM,bH.bM,e4,fO.ai,bA,bc,e5,yz,yK,show ((1:Nat):Int)=(1:Int) from rfl,yx,e8,JS,h1,gh (a:=aP (cU n d)) (b:=[47]) (by simp;omega),e6,huw.ai,e7,gh (a:=aP (cU n d)++[47]) (b:=aP (cW n d)) (by simp;omega)]
 ·have h1:¬cW n d=1:=fun h1=>Ox (by
   have h2:lq.length<=1:=Zi dq nq (by rw [vq,h1];decide)
   omega)
  have hT:oJ n d=(aP (cU n d)++[47])++aP (cW n d):=by unfold oJ;rw [yB h1]
  rw [hT]
  simp only [go_sem,ya,nD,av,t2,t3,hx.ai,hy.ai,bl,yf,cC,show ¬d<0 by omega,yE,e1,hg.ai,hg.shut,e2,hp.ai,hp.bM,an.bM,e3,hq.len,hq.ai,hq.bM,bH.bM,e4,fO.ai,bA,bc,e5,show ¬(lq.length:Int)=1 by omega,gh (a:=aP (cU n d)) (b:=[47]) (by simp;omega),e6,huw.ai,e7,gh (a:=aP (cU n d)++[47]) (b:=aP (cW n d)) (by simp;omega)]
def af4 (n d:Int):wi (-n) (-d)=wi n d:=by rw [Rat.divInt_neg',yae]
def aa9 (h:Rm P L) {v w:AV} {n d:Int} {K:Nat} (hK:K<=8000000000) (hv:iM v n) (hw:iM w d) (kn:Bd K n) (kd:Bd K d) (hd:d≠0):ah P L 280 [v,w] (.str (RT (wi n d))):=by
 have fin:∀{x y:AV} {a b:List Int} {n' d':Int},a8 x a->dg a->nz a->dv a=n'.natAbs->a8 y b->dg b->nz b->dv b=d'.natAbs->Bd K n'->Bd K d'->0<d'->wi n' d'=wi n d->∀tm,aj tm 2= .ptr 0 0->aj tm 3= .ptr 1 0->
   D P L (.seq (a7 nD.body) (a7 (av nD.body))) ⟨[(0,v),(1,w)],[],0,0⟩=some (.normal,⟨tm,[(1,.cells true true true 2 [.bool (decide (d'<0)),y]),(0,.cells true true true 2 [.bool (decide (n'<0)),x])],2,0⟩)->ah P L 280 [v,w] (.str (RT (wi n d))):=fun {x y a b n' d'} hx ha na va hy hb nb vb kn kd hd hq tm t2 t3 e=>by
  unfold ah;rw [aC h.at2];show eX [.t 4] (D P L (.seq (a7 nD.body) (.seq (a7 (av nD.body)) (av (av nD.body)))) ⟨[(0,v),(1,w)],[],0,0⟩)=_
  rw [BI,e,fe,<-hq];exact aqo h hK hx ha na va hy hb nb vb kn kd hd t2 t3
 have dX:=hv;have UB:=hw;obtain ⟨x,a,rfl,hx,ha,na,va⟩:=hv;obtain ⟨y,b,rfl,hy,hb,nb,vb⟩:=hw;by_cases h0:d<0
 ·obtain ⟨r,e1,hr⟩:=acb (K:=K) h.acI h.gO h.cD (by omega) dX kn.r;obtain ⟨s,e2,hs⟩:=acb (K:=K) h.acI h.gO h.cD (by omega) UB kd.r;obtain ⟨x',a',rfl,sd,CM,na',va'⟩:=hr;obtain ⟨y',b',rfl,se,bX,nb',vb'⟩:=hs;simp only [h0,yx] at e2
  refine fin sd CM na' va' se bX nb' vb' kn.neg kd.neg (by omega) (af4 n d) _ ?_ ?_ (by
   simp only [go_sem,ya,yd,nD,a7,av,aM,hx.pu,hx.ai,hx.one,hy.pu,hy.ai,hy.one,sd.pu,sd.one,se.pu,se.one,bl,yf,h0,yx,pL,bA,e1,e2,bc,eI]<;>rfl)<;>simp only [go_sem,ya]
 ·refine fin hx ha na va hy hb nb vb kn kd (by omega) rfl _ ?_ ?_ (by simp only [go_sem,ya,yd,nD,a7,av,aM,hx.pu,hx.one,hy.pu,hy.one,bl,yf,h0,yE]<;>rfl)<;>simp only [go_sem,ya]
end
def ar7 (z:Int) (m:Nat) (h:z.natAbs=m):(z.tdiv 1000000000).natAbs=m/1000000000/\(if z.tmod 1000000000<0 then 0-z.tmod 1000000000 else z.tmod 1000000000)=((m%1000000000:Nat):Int)/\(z<0->z.tdiv 1000000000<=0)/\(0<=z->0<=z.tdiv 1000000000):=by
 rcases Int.lt_or_le z 0 with h0 | h0
 ·obtain ⟨n,rfl⟩:∃n:Nat,z= -(n:Int):=⟨z.natAbs,by omega⟩;rw [Int.neg_tdiv,Int.neg_tmod,xJ (by omega),xr (by omega)]
  grind
 ·grind
section
variable {P:aF} {L:Lib}
def aqp {neg:Bool} {N:Nat} (hN:N<=9223372036854775808):
  ∀k s,(∃(i:Nat) (z:Int) (out:List Int),z.natAbs=k/\out.length=i/\dg out/\dv out+1000000000^i*z.natAbs=N/\(neg=true->z<=0)/\(neg=false->0<=z)/\i<=3/\
    ((i=0/\aT [0,2,3,4] s=⟨[(0,aa z),(2,.ptr 0 0),(3,.ae),(4,.bool neg)],[(0,.cells true true true 2 [.bool false,.ae])],1,0⟩)\/
    (0<i/\aT [0,2,3,4] s=⟨[(0,aa z),(2,.ptr 0 0),(3,.ay 1 0 i),(4,.bool neg)],[(1,.cells true true false 1 (out.map aa)),(0,.cells true true true 2 [.bool false,.ae])],2,0⟩)))->
   ∃ex s',D P L (.loop [0,2,3,4] qP) s=some (ex,s')/\∃tm i out,ex= .exit 0/\out.length=i/\i<=3/\dg out/\dv out=N/\aj tm 2= .ptr 0 0/\aj tm 4= .bool neg/\
    ((i=0/\aj tm 3= .ae/\s'=⟨tm,[(0,.cells true true true 2 [.bool false,.ae])],1,0⟩)\/(0<i/\aj tm 3= .ay 1 0 i/\s'=⟨tm,[(1,.cells true true false 1 (out.map aa)),(0,.cells true true true 2 [.bool false,.ae])],2,0⟩)):=by
 intro dq sq;generalize bt:aT [0,2,3,4] sq=s0;revert bt s0 sq dq;apply dU;rintro k s ⟨i,z,out,rfl,hlen,hd,aG,fa,rO,hi3,hs⟩;by_cases hz:z=0
 ·right
  subst hz;have hv:dv out=N:=by simpa using aG
  rcases hs with ⟨h0,rfl⟩ | ⟨h0,rfl⟩
  ·simp only [go_sem,qP,yx,yT];exact ⟨_,_,rfl,by simp,_,i,out,rfl,hlen,hi3,hd,hv,by simp only [go_sem,ya],by simp only [go_sem,ya],.inl ⟨h0,by simp only [go_sem,ya],rfl⟩⟩
  ·simp only [go_sem,qP,yx,yT];exact ⟨_,_,rfl,by simp,_,i,out,rfl,hlen,hi3,hd,hv,by simp only [go_sem,ya],by simp only [go_sem,ya],.inr ⟨h0,by simp only [go_sem,ya],rfl⟩⟩
 ·left
  obtain ⟨m,hm⟩:∃m,z.natAbs=m:=⟨_,rfl⟩;have qt:0<m:=by omega
  rw [hm] at aG;have UX:i<3:=by
   rcases Nat.lt_or_ge i 3 with h | h
   ·exact h
   ·have e3:i=3:=by omega
    subst e3
    have:=yS (1000000000^3) qt
    omega
  have hmN:m<=9223372036854775808:=by
   have:=Nat.le_mul_of_pos_left m (yaG (n:=i) (show 0<1000000000 by decide))
   omega
  obtain ⟨d1,d2,d3,d4⟩:=ar7 z m hm;have eR:=uL m 1000000000;have pU:dg (out++[((m%1000000000:Nat):Int)]):=gG.2 ⟨hd,jM.2 (by omega)⟩;have Mf:dv (out++[((m%1000000000:Nat):Int)])+1000000000^(i+1)*(m/1000000000)=N:=by
   rw [lM,hlen,<-aG,y7,xp];have e:1000000000^i*m=1000000000^i*(m%1000000000)+1000000000^i*(1000000000*(m/1000000000)):=by rw [<-xB,eR]
   rw [e];simp only [dv,wo,xD,yW];omega
  have rZ:IntKind.wrap .i64 (z.tdiv 1000000000)=z.tdiv 1000000000:=wrap64 (by omega) (by omega);have lH: -9223372036854775808<=z.tmod 1000000000/\z.tmod 1000000000<1000000000:=by
   have h1:(z.tmod 1000000000).natAbs<1000000000:=by
    split at d2<;>omega
   omega
  have zc:(neg=true->z.tdiv 1000000000<=0)/\(neg=false->0<=z.tdiv 1000000000):=⟨fun h=>d3 (by have:=fa h;omega),fun h=>d4 (rO h)⟩;have aR:(z.tdiv 1000000000).natAbs<m:=by rw [d1];omega
  obtain ⟨z',fo⟩:∃z',z.tdiv 1000000000=z':=⟨_,rfl⟩;rw [fo] at d1 d3 d4 rZ zc aR;have cz:dv (out++[((m%1000000000:Nat):Int)])+1000000000^(i+1)*z'.natAbs=N:=by rw [d1];exact Mf
  generalize m%1000000000=r at*
  by_cases eL:z.tmod 1000000000<0
  ·rw [yN eL] at d2;rcases hs with ⟨h0,rfl⟩ | ⟨h0,rfl⟩
   ·subst h0;have iZ:out=[]:=yH hlen;subst iZ
    simp only [go_sem,ya,yd,xQ,yI,yp,yk,qP,yE,hz,yU,fD _ _ _ (show (1000000000:Int)≠0 by decide),eS _ _ _ (show (1000000000:Int)≠0 by decide),eL,d2,wrapN (n:=r) (by omega),kW,fo,rZ];refine ⟨_,z'.natAbs,rfl,by omega,1,z',[]++[(r:Int)],rfl,rfl,pU,cz,zc.1,zc.2,by omega,.inr ⟨by omega,?_⟩⟩;simp only [go_sem,ya,yd,az]<;>rfl
   ·simp only [go_sem,ya,yd,yp,yk,qP,yE,hz,yU,fD _ _ _ (show (1000000000:Int)≠0 by decide),eL,d2,wrapN (n:=r) (by omega)]
    rw [kh (ex:=false) (pu:=true) (cs:=out.map aa) (by simp only [go_sem,ya]) (by rw [xo,hlen,yk]) (by omega) (by omega) (by decide) (by simp only [go_sem])];simp only [go_sem,ya,yd,eS _ _ _ (show (1000000000:Int)≠0 by decide),fo,rZ];refine ⟨_,z'.natAbs,rfl,by omega,i+1,z',out++[(r:Int)],rfl,by simp [hlen],pU,cz,zc.1,zc.2,by omega,.inr ⟨by omega,?_⟩⟩;rw [xC];simp only [go_sem,ya,yd,az]<;>rfl
  ·rw [yB eL] at d2;rcases hs with ⟨h0,rfl⟩ | ⟨h0,rfl⟩
   ·subst h0;have iZ:out=[]:=yH hlen;subst iZ;simp only [go_sem,ya,yd,xQ,yI,yp,yk,qP,yE,hz,yU,fD _ _ _ (show (1000000000:Int)≠0 by decide),eS _ _ _ (show (1000000000:Int)≠0 by decide),d2,show ¬((r:Nat):Int)<0 by omega,kW,fo,rZ];refine ⟨_,z'.natAbs,rfl,by omega,1,z',[]++[(r:Int)],rfl,rfl,pU,cz,zc.1,zc.2,by omega,.inr ⟨by omega,?_⟩⟩;simp only [go_sem,ya,yd,az]<;>rfl
   ·simp only [go_sem,ya,yd,yp,yk,qP,yE,hz,yU,fD _ _ _ (show (1000000000:Int)≠0 by decide),d2,show ¬((r:Nat):Int)<0 by omega]
    rw [kh (ex:=false) (pu:=true) (cs:=out.map aa) (by simp only [go_sem,ya]) (by rw [xo,hlen,yk]) (by omega) (by omega) (by decide) (by simp only [go_sem])];simp only [go_sem,ya,yd,eS _ _ _ (show (1000000000:Int)≠0 by decide),fo,rZ];refine ⟨_,z'.natAbs,rfl,by omega,i+1,z',out++[(r:Int)],rfl,by simp [hlen],pU,cz,zc.1,zc.2,by omega,.inr ⟨by omega,?_⟩⟩;rw [xC];simp only [go_sem,ya,yd,az]<;>rfl
def Zk {n:Int} (h: -9223372036854775808<=n/\n<9223372036854775808):n.natAbs<=9223372036854775808:=by omega
def Zl (n:Int):bT (decide (n<0)) n.natAbs=n:=by
 unfold bT
 grind
def ar8 (h:Rm P L) {n:Int} (hn: -9223372036854775808<=n/\n<9223372036854775808):∃r,ah P L 281 [aa n] r/\iM r n:=by
 have key:=fun s=>aqp (P:=P) (L:=L) (neg:=decide (n<0)) (Zk hn) n.natAbs s
 unfold ah;rw [aC h.acG];simp only [go_sem,ya,yd,MU,aM];generalize hq:D P L (.loop [0,2,3,4] qP) _=q;obtain ⟨ex,s,rfl,tm,i,out,rfl,hlen,hi,hd,aG,t2,t4,Cd⟩:=b9 hq key (by
  refine ⟨0,n,[],rfl,rfl,rfl,by simp [dv],fun h=>by simp at h;omega,fun h=>by simp at h;omega,by omega,.inl ⟨rfl,?_⟩⟩
  simp only [go_sem,ya,yd,az]<;>rfl)
 rcases Cd with ⟨kQ,t3,rfl⟩ | ⟨kQ,t3,rfl⟩
 ·subst kQ;have iZ:out=[]:=yH hlen;subst iZ;obtain ⟨r,e,hr⟩:=nJ h.gO h.cD (decide (n<0)) (show a8 .ae [] from qG) hd (by simp);rw [aG,Zl] at hr;have bC:=hr;obtain ⟨w,l,rfl,hw,_,_,_⟩:=bC;refine ⟨_,?_,hr⟩;simp only [go_sem,ya,yd,az,t2,t3,t4,e,hw.pu,hw.one,bc,eI];rcases hw with ⟨rfl,_⟩ | ⟨e,rfl⟩<;>rfl
 ·have hI:=iQ false out;rw [hlen] at hI;obtain ⟨r,e,hr⟩:=nJ h.gO h.cD (decide (n<0)) hI hd (by omega);rw [aG,Zl] at hr;have bC:=hr;obtain ⟨w,l,rfl,hw,_,_,_⟩:=bC;refine ⟨_,?_,hr⟩
  simp only [go_sem,ya,yd,az,t2,t3,t4,fun hp=>nf (hp:=hp) (k:=i) (sz:=1) (cs:=out.map aa) false (by simp [hlen]) (by decide),e,hw.pu,hw.one,bc,eI];rcases hw with ⟨rfl,_⟩ | ⟨e,rfl⟩<;>rfl
def Z0 (n:Int):RT (n:Rat)=aP n:=by unfold RT;simp
def Mg (h:Rm P L) (rC:Has P L 265 Eh) {n:Int} (hn: -9223372036854775808<=n/\n<9223372036854775808):ah P L 265 [aa n] (.str (RT (n:Rat))):=by
 obtain ⟨r,e,hr⟩:=ar8 h hn;obtain ⟨e2,_⟩:=Nq (K:=8) h.Nr h.nG (by omega) hr (by have:=Zk hn;omega);rw [Z0];obtain ⟨w,l,rfl,hw,_,_,_⟩:=hr;unfold ah at e e2 ⊢;rw [aC rC];simp only [go_sem,ya,Eh,e,hw.ai,bc,bA,e2]
def mE {K:Nat} {a:Rat} (h:Hq K a):(RT a).length<=2*K+3:=by
 have h1:=GG h.1;have h2:=GG h.2;rw [j8] at h2;unfold RT
 grind
def Lx {K:Nat} {z:Int} (h:Bd K z):(ap z.natAbs).length<=K+1:=by
 have:=GG (z:=(z.natAbs:Int)) (k:=K) (by unfold Bd at h ⊢;omega)
 rwa [j8] at this
def H6 (h:Rm P L) {a:Rat} {K:Nat} (ka:Hq K a) (hK:K<=8000000000):∃x y,ah P L 274 [.str (RT a)] (.au [x,y])/\iM x a.num/\iM y (a.den:Int):=by
 have h1:=Lx ka.1;have h2:=Lx ka.2
 exact acO h.toRb (n:=a.num) (d:=a.den) (by omega) (by simpa using (by omega:(ap ((a.den:Int)).natAbs).length<=144000000000))
def aba (h:Rm P L) {n:Int} {d:Nat} (hl:(TT n d).length<=100000000000) (h00:n=0->d=1):ah P L 262 [.str (TT n d)] (aa (bQ n)):=by
 unfold ah;rw [aC h.at1];by_cases h0:n<0
 ·have fb:=aa8 (n:=n) (d:=d) (by omega);rw [LO h0] at fb ⊢;simp only [go_sem,ya,It,lc,fb,show (0:Int)<(((TT (-n) d).length+1:Nat):Int) by omega,Cs,yx];unfold bQ;rw [yN h0]
 ·by_cases h1:n=0
  ·subst h1
   have:=h00 rfl
   subst this;rw [show TT 0 1=[48] by decide];simp only [go_sem,ya,It,lc,show cN [48] [48]=true from rfl];rfl
  ·have fb:=aa8 (n:=n) (d:=d) h1;obtain ⟨b,u,hb,mq⟩:=anG (d:=d) h0;rw [hb] at fb ⊢;simp only [go_sem,ya,It,lc,fb,show (0:Int)<((u.length+1:Nat):Int) by omega,show mG 0 (.str (b::u))=some (.int .u8 (b:Nat)) from rfl,show ¬((b:Nat):Int)=45 by omega];unfold bQ;rw [yB h0,yB h1]
def afw {a:Rat} (h:a.num=0):a.den=1:=by simp_all
def abb (h:Rm P L) {a:Rat} {K:Nat} (ka:Hq K a) (hK:K<=8000000000):ah P L 262 [.str (RT a)] (aa (bQ a.num)):=
 aba h (by have:=mE ka;rw [H5] at this;omega) afw
def ar9 (h:Rp P L) {a:Rat} {K:Nat} (ka:Hq K a) (hK:K<=8000000000):ah P L 268 [.str (RT a)] (.str (RT (-a))):=by
 have e:=abb h.toRm ka hK;have hl:=mE ka;have en:(-a).num= -a.num:=rfl;have ed:(-a).den=a.den:=rfl;rw [H5] at hl e ⊢;rw [H5,en,ed];generalize a.num=n at*
 generalize a.den=d at*
 unfold ah at e ⊢;rw [aC h.at3];by_cases h0:n<0
 ·have es:bQ n= -1:=by unfold bQ;rw [yN h0]
  rw [es,LO h0] at e;rw [LO h0] at hl ⊢;have hc:ib (45::TT (-n) d) (some 1) (some ((TT (-n) d).length+1))=some (.str (TT (-n) d)):=by rw [kZ (s:=45::TT (-n) d) (l:=1) (h:=(TT (-n) d).length+1) (by omega) (by simp)];simp
  simp only [go_sem,ya,Iw,e,show (-1:Int)<0 by decide,ef,eF,dA,hc]
 ·by_cases h1:n=0
  ·subst h1;have es:bQ 0=0:=rfl;rw [es] at e;simp only [go_sem,ya,Iw,e,show ¬(0:Int)<0 by decide,yx,Int.neg_zero]
  ·have es:bQ n=1:=by unfold bQ;rw [yB h0,yB h1]
   rw [es] at e
   have:TT (-n) d=45::TT n d:=by rw [LO (by omega),yae]
   rw [this]
   simp only [go_sem,ya,Iw,e,show ¬(1:Int)<0 by decide,show ¬(1:Int)=0 by decide,gh (a:=[45]) (b:=TT n d) (by simp;omega),yX,xY]
end
def Zm (n:Int) (d:Nat):QK true n d= .au [aa n,aa d,.bool true]:=rfl
def H7 {a b:Int} (ha:a.natAbs<1000000000) (hb:b.natAbs<1000000000):(a*b).natAbs<1000000000000000000:=by
 rw [Int.natAbs_mul];exact yu (uQ ha hb) (by decide)
section
variable {P:aF} {L:Lib}
def Mh (h:Rm P L) {a b:Int} (ha: -4000000000000000000<=a/\a<=4000000000000000000) (hb:0<b/\b<=4000000000000000000):ah P L 277 [aa a,aa b] (.str (RT (wi a b))):=by
 rw [Zj hb.1];exact as3 h.acF h.Sm h.nG ha hb
def Mi (h:Rp P L) {a:Rat} {K:Nat} (ka:Hq K a) (hK:K<=8000000000):∃q:Bool,ah P L 276 [.str (RT a)] (QK q a.num a.den)/\(q=true->a.num.natAbs<1000000000/\a.den<1000000000):=
 as4 h.at5 h.zk h.zm (n:=a.num) (d:=a.den) (by have:=mE ka;rw [H5] at this;omega)
def abc (h:Rn P L) {a b:Rat} {K M:Nat} (ka:Hq K a) (kb:Hq M b) (hK:K+M<=8000000000):ah P L 267 [.str (RT a),.str (RT b)] (.str (RT (a*b))):=by
 obtain ⟨q1,e1,b1⟩:=Mi h.toRp ka (by omega);obtain ⟨q2,e2,b2⟩:=Mi h.toRp kb (by omega);have auh:=De a b;by_cases hq:(q1=true/\q2=true)
 ·obtain ⟨rfl,rfl⟩:=hq;obtain ⟨b11,b12⟩:=b1 rfl;obtain ⟨b21,b22⟩:=b2 rfl;have p1:=H7 b11 b21;have p2:=H7 (a:=(a.den:Int)) (b:=(b.den:Int)) (by omega) (by omega);have e3:=Mh h.toRm (a:=a.num*b.num) (b:=(a.den:Int)*b.den) (by omega) (by omega);rw [<-mul_eq] at e3;rw [Zm] at e1 e2;unfold ah at e1 e2 e3 ⊢;rw [aC h.acK]
  simp only [go_sem,ya,Iv,e1,e2,wrap64 (n:=a.num*b.num) (by omega) (by omega),wrap64 (n:=(a.den:Int)*(b.den:Int)) (by omega) (by omega),e3]
 ·have bH:∃n1 d1 n2 d2,bE P L (D P L) 276 [.str (RT a)]=some (.au [aa n1,aa d1,.bool q1])/\bE P L (D P L) 276 [.str (RT b)]=some (.au [aa n2,aa d2,.bool q2]):=by
   cases q1<;>cases q2<;>exact ⟨_,_,_,_,e1,e2⟩
  obtain ⟨n1,d1,n2,d2,e1,e2⟩:=bH;obtain ⟨x,y,e3,hx,hy⟩:=H6 h.toRm ka (by omega);obtain ⟨z,w,e4,hz,hw⟩:=H6 h.toRm kb (by omega);have Eu:max K M<=8000000000:=by omega
  obtain ⟨r,e5,hr⟩:=IZ (K:=max K M) h.I1 h.kH h.gO h.cD Eu hx hz (ka.1.mono (by omega)).r (kb.1.mono (by omega)).r;obtain ⟨s,e6,hs⟩:=IZ (K:=max K M) h.I1 h.kH h.gO h.cD Eu hy hw (ka.2.mono (by omega)).r (kb.2.mono (by omega)).r;have e7:=aa9 h.toRm hK hr hs (ka.1.mul kb.1) (ka.2.mul kb.2) (by omega);rw [<-mul_eq] at e7;obtain ⟨xw,xl,rfl,dY,_,_,_⟩:=hx;obtain ⟨yw,yl,rfl,dZ,_,_,_⟩:=hy;obtain ⟨zw,zl,rfl,n8,_,_,_⟩:=hz;obtain ⟨ww,wl,rfl,n9,_,_,_⟩:=hw;obtain ⟨dW,rl,rfl,nQ,_,_,_⟩:=hr;obtain ⟨sw,sl,rfl,fO,_,_,_⟩:=hs;have hb:¬(q1=true/\q2=true):=hq;unfold ah at e3 e4 e5 e6 e7 ⊢;rw [aC h.acK]
  cases q1 with
  | false=>
   simp only [go_sem,ya,yd,Iv,aM,e1,e2,e3,e4,dY.pu,dY.ai,dY.one,dZ.pu,dZ.ai,dZ.one,n8.pu,n8.ai,n8.one,n9.pu,n9.ai,n9.one,nQ.ai,fO.ai,bA,bc,su,eI,pL,e5,e6,e7]
  | true=>
   cases q2 with
   | true=>exact absurd ⟨rfl,rfl⟩ hb
   | false=>
    simp only [go_sem,ya,yd,Iv,aM,e1,e2,e3,e4,dY.pu,dY.ai,dY.one,dZ.pu,dZ.ai,dZ.one,n8.pu,n8.ai,n8.one,n9.pu,n9.ai,n9.one,nQ.ai,fO.ai,bA,bc,su,eI,pL,e5,e6,e7]
def D2 (h:Rp P L) {a b:Rat} {K M:Nat} (ka:Hq K a) (kb:Hq M b) (hK:K+M+1<=8000000000):ah P L 264 [.str (RT a),.str (RT b)] (.str (RT (a+b))):=by
 obtain ⟨q1,e1,b1⟩:=Mi h ka (by omega);obtain ⟨q2,e2,b2⟩:=Mi h kb (by omega);have auh:=De a b;by_cases hq:(q1=true/\q2=true)
 ·obtain ⟨rfl,rfl⟩:=hq;obtain ⟨b11,b12⟩:=b1 rfl;obtain ⟨b21,b22⟩:=b2 rfl;have p1:=H7 (a:=a.num) (b:=(b.den:Int)) (by omega) (by omega);have p2:=H7 (a:=b.num) (b:=(a.den:Int)) (by omega) (by omega);have p3:=H7 (a:=(a.den:Int)) (b:=(b.den:Int)) (by omega) (by omega);have e3:=Mh h.toRm (a:=a.num*b.den+b.num*a.den) (b:=(a.den:Int)*b.den) (by omega) (by omega);rw [<-add_eq] at e3;rw [Zm] at e1 e2;unfold ah at e1 e2 e3 ⊢;rw [aC h.acJ]
  simp only [go_sem,ya,Iu,e1,e2,wrap64 (n:=a.num*(b.den:Int)) (by omega) (by omega),wrap64 (n:=b.num*(a.den:Int)) (by omega) (by omega),wrap64 (n:=a.num*(b.den:Int)+b.num*(a.den:Int)) (by omega) (by omega),wrap64 (n:=(a.den:Int)*(b.den:Int)) (by omega) (by omega),e3]
 ·have bH:∃n1 d1 n2 d2,bE P L (D P L) 276 [.str (RT a)]=some (.au [aa n1,aa d1,.bool q1])/\bE P L (D P L) 276 [.str (RT b)]=some (.au [aa n2,aa d2,.bool q2]):=by
   cases q1<;>cases q2<;>exact ⟨_,_,_,_,e1,e2⟩
  obtain ⟨n1,d1,n2,d2,e1,e2⟩:=bH;obtain ⟨x,y,e3,hx,hy⟩:=H6 h.toRm ka (by omega);obtain ⟨z,w,e4,hz,hw⟩:=H6 h.toRm kb (by omega);have Eu:max K M<=8000000000:=by omega
  obtain ⟨r,e5,hr⟩:=IZ (K:=max K M) h.I1 h.kH h.gO h.cD Eu hx hw (ka.1.mono (by omega)).r (kb.2.mono (by omega)).r;obtain ⟨r2,UY,fp⟩:=IZ (K:=max K M) h.I1 h.kH h.gO h.cD Eu hz hy (kb.1.mono (by omega)).r (ka.2.mono (by omega)).r;obtain ⟨s,e6,hs⟩:=IZ (K:=max K M) h.I1 h.kH h.gO h.cD Eu hy hw (ka.2.mono (by omega)).r (kb.2.mono (by omega)).r;have k1:Bd (K+M) (a.num*b.den):=ka.1.mul kb.2;have k2:Bd (K+M) (b.num*a.den):=(kb.1.mul ka.2).mono (by omega);obtain ⟨t,e8,ht⟩:=atT (K:=K+M) h.at6 h.No h.nL h.Np h.mi h.gO h.cD (by omega) hr fp k1.r k2.r;have e7:=aa9 h.toRm hK ht hs (k1.SE k2) ((ka.2.mul kb.2).mono (by omega)) (by omega);rw [<-add_eq] at e7;obtain ⟨xw,xl,rfl,dY,_,_,_⟩:=hx;obtain ⟨yw,yl,rfl,dZ,_,_,_⟩:=hy;obtain ⟨zw,zl,rfl,n8,_,_,_⟩:=hz;obtain ⟨ww,wl,rfl,n9,_,_,_⟩:=hw;obtain ⟨dW,rl,rfl,nQ,_,_,_⟩:=hr
  obtain ⟨rw2,rl2,rfl,acP,_,_,_⟩:=fp;obtain ⟨tw,tl,rfl,htw,_,_,_⟩:=ht;obtain ⟨sw,sl,rfl,fO,_,_,_⟩:=hs;have hb:¬(q1=true/\q2=true):=hq;unfold ah at e3 e4 e5 UY e6 e7 e8 ⊢;rw [aC h.acJ]
  cases q1 with
  | false=>
   simp only [go_sem,ya,yd,Iu,aM,e1,e2,e3,e4,dY.pu,dY.ai,dY.one,dZ.pu,dZ.ai,dZ.one,n8.pu,n8.ai,n8.one,n9.pu,n9.ai,n9.one,nQ.ai,acP.ai,htw.ai,fO.ai,bA,bc,su,eI,pL,e5,UY,e8,e6,e7]
  | true=>
   cases q2 with
   | true=>exact absurd ⟨rfl,rfl⟩ hb
   | false=>
    simp only [go_sem,ya,yd,Iu,aM,e1,e2,e3,e4,dY.pu,dY.ai,dY.one,dZ.pu,dZ.ai,dZ.one,n8.pu,n8.ai,n8.one,n9.pu,n9.ai,n9.one,nQ.ai,acP.ai,htw.ai,fO.ai,bA,bc,su,eI,pL,e5,UY,e8,e6,e7]
def abd (h:Rp P L) {a b:Rat} {K M:Nat} (ka:Hq K a) (kb:Hq M b) (hK:K+M+1<=8000000000):ah P L 271 [.str (RT a),.str (RT b)] (.str (RT (a-b))):=by
 have e1:=ar9 h kb (by omega);have e2:=D2 h ka kb.neg hK;rw [<-Rat.sub_eq_add_neg] at e2;unfold ah at e1 e2 ⊢;rw [aC h.at4];simp only [go_sem,ya,Sa,e1,e2]
end
def Xy {P:aF} {L:Lib} (a b c d:VC) (s:St):D P L (.seq a (.seq b (.seq c d))) s=mI P L (D P L (.seq a (.seq b c)) s) d:=by
 have e:=BI (P:=P) (L:=L) b c d;rw [iz,iz]
 cases D P L a s with
 | none=>rfl
 | some q=>
  obtain ⟨ex,st⟩:=q
  cases ex with
  | normal=>rw [fe,fe];exact e st
  | ret=>rfl
  | exit id=>rfl
def oB {a b:List Nat} (h:a≠b):cN a b=false:=by
 cases hb:cN a b with
 | false=>rfl
 | true=>exact absurd (P4 hb) h
def P5:∀a:List Nat,cN a a=true
 | []=>rfl
 | x::a=>by simp [cN,P5 a]
def Z1 {a b:List Nat} (h:a=b):cN a b=true:=h▸P5 a
def aiO {s:List Nat} {i:Nat} (h:i<s.length):cX (s.drop i)=(yF 48 s[i]&&yF s[i] 57&&cX (s.drop (i+1))):=by
 rw [yP h];rfl
section
variable {P:aF} {L:Lib}
def aui (h:Has P L 287 Iz) {s:List Nat} (hl:s.length<9223372036854775808):ah P L 287 [.str s] (.bool (cX s)):=by
 have key:=jZ (P:=P) (L:=L) (live:=[0,3]) (a:=BX)
  (I:=fun k st=>∃i:Nat,st=⟨[(0,.str s),(3,aa i)],[],0,0⟩/\i+k=s.length/\cX (s.drop i)=cX s)
  (Q:=fun ex st=>∃tm ct,st=⟨tm,[],ct,0⟩/\((ex= .ret/\aj tm 2= .bool false/\cX s=false)\/(ex= .exit 0/\cX s=true))) ?_
 ·unfold ah;rw [aC h];simp only [go_sem,Iz];generalize hq:D P L (.loop [0,3] BX) _=q;obtain ⟨ex,st,rfl,tm,ct,rfl,h2⟩:=b9 hq (key s.length) ⟨0,by simp only [go_sem,ya,az]<;>rfl,by omega,by simp⟩
  rcases h2 with ⟨rfl,h2,h3⟩ | ⟨rfl,h3⟩
  ·simp only [go_sem,h2,h3]
  ·simp only [go_sem,az,h3]
 ·rintro k st ⟨i,rfl,hk,hs⟩;by_cases hi:i<s.length
  ·rw [aiO hi] at hs;by_cases h1:s[i]<48
   ·right
    have e:yF 48 s[i]=false:=by
     cases hb:yF 48 s[i] with
     | false=>rfl
     | true=>have:=yq hb;omega
    rw [e,wB,wB] at hs;simp only [go_sem,ya,BX,show (i:Int)<s.length by omega,pH hi,show ((s[i]:Nat):Int)<48 by omega,yx];exact ⟨_,_,rfl,by simp,_,_,rfl,.inl ⟨rfl,by simp only [go_sem],hs.symm⟩⟩
   ·by_cases h2:57<s[i]
    ·right
     have e:yF s[i] 57=false:=by
      cases hb:yF s[i] 57 with
      | false=>rfl
      | true=>have:=yq hb;omega
     rw [e,Bool.and_false,wB] at hs;simp only [go_sem,ya,BX,show (i:Int)<s.length by omega,pH hi,show ¬((s[i]:Nat):Int)<48 by omega,yE,show (57:Int)<((s[i]:Nat):Int) by omega];exact ⟨_,_,rfl,by simp,_,_,rfl,.inl ⟨rfl,by simp only [go_sem],hs.symm⟩⟩
    ·left
     rw [yv (show 48<=s[i] by omega),yv (show s[i]<=57 by omega),wF,wF] at hs;simp only [go_sem,ya,BX,show (i:Int)<s.length by omega,pH hi,show ¬((s[i]:Nat):Int)<48 by omega,yE,show ¬(57:Int)<((s[i]:Nat):Int) by omega];refine ⟨_,k-1,rfl,by omega,i+1,?_,by omega,hs⟩;rw [wrap64 (by omega) (by omega)];simp only [go_sem,ya,az]<;>rfl
  ·right
   simp only [go_sem,ya,BX,show ¬(i:Int)<s.length by omega];refine ⟨_,_,rfl,by simp,_,_,rfl,.inr ⟨rfl,?_⟩⟩;rw [<-hs,y9 (by omega)];rfl
def Nt (h:Has P L 273 Cn) (Et:Has P L 287 Iz) {s:List Nat} (hl:s.length<9223372036854775808):ah P L 273 [.str s] (.bool (dn s)):=by
 have e:=aui Et hl;unfold ah at e ⊢;rw [aC h]
 match s,hl,e with
 | [],_,_=>
  simp only [go_sem,ya,Cn,yK,show ((0:Nat):Int)=0 from rfl,yx];rfl
 | [b],_,e=>
  have:dn [b]=cX [b]:=by simp [dn]
  rw [this];simp only [go_sem,ya,Cn,yz,yK,yf,show ¬((1:Nat):Int)=0 by decide,show ¬(1:Int)<((1:Nat):Int) by decide,yE,e]
 | b::c::r,hl,e=>
  have hd:dn (b::c::r)=(cX (b::c::r)&& !(yr b 48)):=by simp [dn]
  rw [hd];have zD:r.length+2<9223372036854775808:=by simpa using hl
  by_cases hb:b=48
  ·subst hb;simp only [go_sem,ya,Cn,yz,show ¬((r.length+1+1:Nat):Int)=0 by omega,yE,show (1:Int)<((r.length+1+1:Nat):Int) by omega,show mG 0 (.str (48::c::r))=some (.int .u8 48) from rfl,yx]
   simp
  ·have:yr b 48=false:=bW hb
   rw [this,yU,vR];simp only [go_sem,ya,Cn,yz,show ¬((r.length+1+1:Nat):Int)=0 by omega,yE,show (1:Int)<((r.length+1+1:Nat):Int) by omega,show mG 0 (.str (b::c::r))=some (.int .u8 (b:Nat)) from rfl,show ¬((b:Nat):Int)=48 by omega,e]
def Yy {s:List Nat} {k:Nat} (h:k<=s.length):ib s (some 0) (some k)=some (.str (s.take k)):=by
 rw [kZ (by omega) h,yo]
def K5 {s:List Nat} {k:Nat} (h:k<=s.length):ib s (some k) (some s.length)=some (.str (s.drop k)):=by
 rw [kZ h (yA _),xK]
def aqq (h:Rm P L) {t:List Nat} {k:Nat} (hk:k=bG t) (hl:t.length<9223372036854775808) (hp:dn (t.take k)=true) {tm:Env} (t3:aj tm 3= .str t) (t4:aj tm 4=aa k):
  eX [.t 2] (D P L (av (av (av (av (av dc.body))))) ⟨tm,[],0,0⟩)=some (aa (
   if k<t.length/\(dn (t.drop (k+1))=false\/t.drop (k+1)=[48]\/t.drop (k+1)=[49]) then 1
   else if 600<k\/600<t.length-k-1 then 4
   else if k<t.length/\wD (eY (t.take k)) (eY (t.drop (k+1)))≠1 then 1
   else 0)):=by
 have UN:k<=t.length:=by rw [hk];exact GF t
 have e3:=Nt h.Ns h.Et (s:=t.drop (k+1)) (by rw [xO];omega);unfold ah at e3;have Bx:(k:Int)+1=((k+1:Nat):Int):=rfl;by_cases hs:k<t.length
 ·have c2:=K5 (s:=t) (k:=k+1) (by omega);have jO:=Vz t (by omega);rw [<-hk] at jO;have Fb:(t.drop (k+1)).length=t.length-k-1:=by rw [xO];omega
  have hlp:(t.take k).length=k:=by rw [yO];omega
  generalize hqe:t.drop (k+1)=q at*
  generalize hpe:t.take k=p at*
  cases hd:dn q with
  | false=>
   rw [yN ⟨hs,.inl rfl⟩];rw [hd] at e3
   simp only [go_sem,ya,dc,av,t3,t4,show (k:Int)<(t.length:Int) by omega,yx,Bx,wrapN (n:=k+1) (by omega),ef,eF,dA,c2,e3,yU]
  | true=>
   rw [hd] at e3;by_cases jv:q=[48]
   ·rw [yN ⟨hs,.inr (.inl jv)⟩]
    simp only [go_sem,ya,dc,av,t3,t4,show (k:Int)<(t.length:Int) by omega,yx,Bx,wrapN (n:=k+1) (by omega),ef,eF,dA,c2,e3,yT,lc,Z1 jv]
   ·by_cases n5:q=[49]
    ·rw [yN ⟨hs,.inr (.inr n5)⟩]
     simp only [go_sem,ya,dc,av,t3,t4,show (k:Int)<(t.length:Int) by omega,yx,Bx,wrapN (n:=k+1) (by omega),ef,eF,dA,c2,e3,yT,lc,oB jv,Z1 n5]
    ·rw [yB (by simp only [hs,tT,ybi,ycH];exact fun e=>e.elim jv n5)]
     by_cases CG:600<k
     ·rw [yN (.inl CG)]
      simp only [go_sem,ya,dc,av,t3,t4,show (k:Int)<(t.length:Int) by omega,yx,Bx,wrapN (n:=k+1) (by omega),ef,eF,dA,c2,e3,yT,lc,oB jv,oB n5,show (600:Int)<(k:Int) by omega]
     ·by_cases auj:600<t.length-k-1
      ·rw [yN (.inr auj)]
       simp only [go_sem,ya,dc,av,t3,t4,show (k:Int)<(t.length:Int) by omega,yx,Bx,wrapN (n:=k+1) (by omega),ef,eF,dA,c2,e3,yT,lc,oB jv,oB n5,show ¬(600:Int)<(k:Int) by omega,yE,show (t.length:Int)-(k:Int)=((t.length-k:Nat):Int) by omega,wrapN (n:=t.length-k) (by omega),show ((t.length-k:Nat):Int)-1=((t.length-k-1:Nat):Int) by omega,wrapN (n:=t.length-k-1) (by omega),show (600:Int)<((t.length-k-1:Nat):Int) by omega]
      ·rw [yB (by omega)];have qu:=Dq _ rfl hp;have n7:=Dq _ rfl hd;have fB:eY q≠0:=fun e=>jv (by rw [<-n7,e];rfl)
       have jW:eY q≠1:=fun e=>n5 (by rw [<-n7,e];rfl)
       generalize eY p=n at*
       generalize eY q=d at*
       have hT:TT (n:Int) d=t:=by
        unfold TT;rw [j8,yB jW,qu,n7];exact jO.symm
       obtain ⟨x,y,e4,hx,hy⟩:=acO h.toRb (n:=(n:Int)) (d:=d) (by rw [xq,qu];omega) (by rw [n7];omega);rw [hT] at e4;obtain ⟨xw,xl,rfl,dY,dx,nx,vx⟩:=hx;obtain ⟨yw,yl,rfl,dZ,dy,ny,vy⟩:=hy;rw [xq] at vx vy;have oZ:n<10^p.length:=by rw [<-qu];exact G4 n
       have hdb:d<10^q.length:=by rw [<-n7];exact G4 d
       obtain ⟨K,hK⟩:∃K:Nat,K=600:=⟨_,rfl⟩;have Oj:∀{m j:Nat},m<10^j->j<=K->m<1000000000^K:=fun {m j} h1 h2=>
        yu h1 (xg (yV (by decide) h2) (vn (by decide) K))
       have lxl:=gY dx nx (by rw [vx];exact Oj oZ (by omega))
       have lyl:=gY dy ny (by rw [vy];exact Oj hdb (by omega))
       obtain ⟨g,lg,e5,hg,dgg,ngg,vg⟩:=aa7 h.acE h.I0 h.kH h.nL h.oM h.cD h.pV dY dZ dx dy nx ny (by omega) (by omega);rw [vx,vy] at vg;have Jl:0<wD n d:=Nat.gcd_pos_of_pos_right _ (by omega);unfold ah at e4 e5;by_cases SX:lg.length=1
       ·obtain ⟨z,rfl⟩:∃z,lg=[z]:=by
         cases lg with
         | nil=>simp at SX
         | cons z r=>cases r with
          | nil=>exact ⟨z,rfl⟩
          | cons y r=>simp at SX
        have gz:=jM.1 dgg;have JS:z=(wD n d:Nat):=by simp [dv] at vg;omega
        have e8:=hg.br (i:=0) (by simp);simp only [uT] at e8;by_cases ic:wD n d=1
        ·rw [yB (by simp [ic])]
         simp only [go_sem,ya,yd,dc,av,t3,t4,show (k:Int)<(t.length:Int) by omega,yx,Bx,wrapN (n:=k+1) (by omega),ef,eF,dA,c2,e3,yT,lc,oB jv,oB n5,show ¬(600:Int)<(k:Int) by omega,yE,show (t.length:Int)-(k:Int)=((t.length-k:Nat):Int) by omega,wrapN (n:=t.length-k) (by omega),show ((t.length-k:Nat):Int)-1=((t.length-k-1:Nat):Int) by omega,wrapN (n:=t.length-k-1) (by omega),show ¬(600:Int)<((t.length-k-1:Nat):Int) by omega,e4,aM,dY.pu,dY.ai,dY.one,dZ.pu,dZ.ai,dZ.one,eI,bl,yf,cC,e5,hg.len,hg.shut,yz,yK,show ((1:Nat):Int)=(1:Int) from rfl,yT,e8,JS,ic]
        ·rw [yN ⟨hs,ic⟩]
         simp only [go_sem,ya,yd,dc,av,t3,t4,show (k:Int)<(t.length:Int) by omega,yx,Bx,wrapN (n:=k+1) (by omega),ef,eF,dA,c2,e3,yT,lc,oB jv,oB n5,show ¬(600:Int)<(k:Int) by omega,yE,show (t.length:Int)-(k:Int)=((t.length-k:Nat):Int) by omega,wrapN (n:=t.length-k) (by omega),show ((t.length-k:Nat):Int)-1=((t.length-k-1:Nat):Int) by omega,wrapN (n:=t.length-k-1) (by omega),show ¬(600:Int)<((t.length-k-1:Nat):Int) by omega,e4,aM,dY.pu,dY.ai,dY.one,dZ.pu,dZ.ai,dZ.one,eI,bl,yf,cC,e5,hg.len,hg.shut,yz,yK,show ((1:Nat):Int)=(1:Int) from rfl,yT,e8,JS,show ¬((wD n d:Nat):Int)=1 by omega,yU]
       ·have ic:wD n d≠1:=fun e=>SX (by
         have h1:lg.length<=1:=Zi dgg ngg (by omega);have h2:0<lg.length:=by
          rcases xi lg.length with h0 | h0
          ·rw [yH h0] at vg;simp [dv] at vg;omega
          ·exact h0
         omega)
        rw [yN ⟨hs,ic⟩]
        simp only [go_sem,ya,yd,dc,av,t3,t4,show (k:Int)<(t.length:Int) by omega,yx,Bx,wrapN (n:=k+1) (by omega),ef,eF,dA,c2,e3,yT,lc,oB jv,oB n5,show ¬(600:Int)<(k:Int) by omega,yE,show (t.length:Int)-(k:Int)=((t.length-k:Nat):Int) by omega,wrapN (n:=t.length-k) (by omega),show ((t.length-k:Nat):Int)-1=((t.length-k-1:Nat):Int) by omega,wrapN (n:=t.length-k-1) (by omega),show ¬(600:Int)<((t.length-k-1:Nat):Int) by omega,e4,aM,dY.pu,dY.ai,dY.one,dZ.pu,dZ.ai,dZ.one,eI,bl,yf,cC,e5,hg.len,hg.shut,show ¬(lg.length:Int)=1 by omega,yU]
 ·have hkt:k=t.length:=by omega
  rw [yB (by omega)];by_cases CG:600<k
  ·rw [yN (.inl CG)];simp only [go_sem,ya,dc,av,t3,t4,show ¬(k:Int)<(t.length:Int) by omega,yE,show (600:Int)<(k:Int) by omega,yx]
  ·rw [yB (by omega),yB (by omega)]
   simp only [go_sem,ya,dc,av,t3,t4,show ¬(k:Int)<(t.length:Int) by omega,yE,show ¬(600:Int)<(k:Int) by omega,show (t.length:Int)-(k:Int)=((t.length-k:Nat):Int) by omega,wrapN (n:=t.length-k) (by omega),show ((t.length-k:Nat):Int)-1= -1 by omega,show IntKind.wrap .i64 (-1)= -1 by rfl,show ¬(600:Int)<(-1:Int) by omega]
def Z2 (h:Rm P L) {b:Nat} {r:List Nat} {t:List Nat} {neg:Bool} (eL:decide (((b:Nat):Int)=45)=neg) (hl:t.length<9223372036854775808) {tm:Env} (t0:aj tm 0= .str (b::r)) (t3:aj tm 3= .str t):
  eX [.t 2] (D P L (av (av (av dc.body))) ⟨tm,[],0,0⟩)=some (aa (mh neg t)):=by
 obtain ⟨k,hk⟩:∃k,k=bG t:=⟨_,rfl⟩;have UN:k<=t.length:=by rw [hk];exact GF t
 have e1:=Cr h.zk (s:=t) (by omega);have e2:=Nt h.Ns h.Et (s:=t.take k) (by rw [yO];omega);have e3:=Nt h.Ns h.Et (s:=t.drop (k+1)) (by rw [xO];omega);unfold mh;rw [<-hk] at e1 ⊢;have c1:=Yy UN;have hI:mG 0 (.str (b::r))=some (.int .u8 (b:Nat)):=rfl;unfold ah at e1 e2 e3;generalize hp:t.take k=p at*
 generalize hq:t.drop (k+1)=q at*
 cases hd:dn p with
 | false=>
  rw [yN (.inl rfl)];rw [hd] at e2;simp only [go_sem,ya,dc,av,t3,e1,ef,eF,dA,c1,e2,yU]
 | true=>
  rw [hd] at e2;by_cases hz:neg=true/\p=[48]
  ·rw [yN (.inr hz)];obtain ⟨z1,z2⟩:=hz;rw [z1] at eL;have hb:=of_decide_eq_true eL;subst z2;simp only [go_sem,ya,dc,av,t0,t3,e1,ef,eF,dA,c1,e2,yT,hI,hb,yx,lc,show cN [48] [48]=true from rfl]
  ·rw [yB (by simp only [ybi,ycH];exact hz)]
   have fin:∀tm',aj tm' 3= .str t->aj tm' 4=aa k->D P L (.seq (a7 (av (av (av dc.body)))) (a7 (av (av (av (av dc.body)))))) ⟨tm,[],0,0⟩=some (.normal,⟨tm',[],0,0⟩)->eX [.t 2] (D P L (av (av (av dc.body))) ⟨tm,[],0,0⟩)=some (aa (
     if k<t.length/\(dn q=false\/q=[48]\/q=[49]) then 1
     else if 600<k\/600<t.length-k-1 then 4
     else if k<t.length/\wD (eY p) (eY q)≠1 then 1
     else 0)):=fun tm' f3 f4 e=>by
    show eX [.t 2] (D P L (.seq (a7 (av (av (av dc.body)))) (.seq (a7 (av (av (av (av dc.body))))) (av (av (av (av (av dc.body))))))) ⟨tm,[],0,0⟩)=_
    rw [BI,e,fe,<-hp,<-hq];exact aqq h hk hl (by rw [hp];exact hd) f3 f4
   by_cases hb:((b:Nat):Int)=45
   ·have auk:p≠[48]:=fun e=>hz ⟨by rw [<-eL];exact xj hb,e⟩
    refine fin _ ?_ ?_ (by simp only [go_sem,ya,dc,a7,av,t0,t3,e1,ef,eF,dA,c1,e2,yT,hI,hb,yx,lc,oB auk]<;>rfl)<;>simp only [go_sem,ya,t3]
   ·refine fin _ ?_ ?_ (by simp only [go_sem,ya,dc,a7,av,t0,t3,e1,ef,eF,dA,c1,e2,yT,hI,hb,yE]<;>rfl)<;>simp only [go_sem,ya,t3]
def acQ (h:Rm P L) {s:List Nat} (hl:s.length<9223372036854775808):ah P L 263 [.str s] (aa (bZ s)):=by
 unfold ah;rw [aC h.auc]
 cases s with
 | nil=>
  have e1:=Cr h.zk (s:=[]) (by simp);have e2:=Nt h.Ns h.Et (s:=[]) (by simp);unfold ah at e1 e2;have hc:ib [] (some 0) (some 0)=some (.str []):=rfl;simp only [go_sem,ya,dc,yK,show ¬(0:Int)<((0:Nat):Int) by decide,yE,e1,bG,ef,eF,dA,hc,e2,show dn []=false from rfl,yU];rfl
 | cons b t=>
  have zD:t.length+1<9223372036854775808:=by simpa using hl
  have hI:mG 0 (.str (b::t))=some (.int .u8 (b:Nat)):=rfl;by_cases hb:b=45
  ·subst hb;have fin:∀tm',aj tm' 0= .str (45::t)->aj tm' 3= .str t->D P L (.seq (a7 dc.body) (.seq (a7 (av dc.body)) (a7 (av (av dc.body))))) ⟨[(0,.str (45::t))],[],0,0⟩=some (.normal,⟨tm',[],0,0⟩)->eX [.t 2] (D P L dc.body ⟨[(0,.str (45::t))],[],0,0⟩)=some (aa (bZ (45::t))):=fun tm' f0 f3 e=>by
    show eX [.t 2] (D P L (.seq (a7 dc.body) (.seq (a7 (av dc.body)) (.seq (a7 (av (av dc.body))) (av (av (av dc.body)))))) ⟨[(0,.str (45::t))],[],0,0⟩)=_
    rw [Xy,e,fe]
    exact Z2 h (b:=45) rfl (by omega) f0 f3
   have hc:ib (45::t) (some 1) (some (t.length+1))=some (.str t):=by
    have:=K5 (s:=45::t) (k:=1) (by simp)
    simpa using this
   refine fin _ ?_ ?_ (by simp only [go_sem,ya,dc,a7,av,yz,show (0:Int)<((t.length+1:Nat):Int) by omega,yx,Cs,ef,eF,dA,hc]<;>rfl)<;>simp only [go_sem,ya]
  ·have fin:∀tm',aj tm' 0= .str (b::t)->aj tm' 3= .str (b::t)->D P L (.seq (a7 dc.body) (.seq (a7 (av dc.body)) (a7 (av (av dc.body))))) ⟨[(0,.str (b::t))],[],0,0⟩=some (.normal,⟨tm',[],0,0⟩)->eX [.t 2] (D P L dc.body ⟨[(0,.str (b::t))],[],0,0⟩)=some (aa (bZ (b::t))):=fun tm' f0 f3 e=>by
    show eX [.t 2] (D P L (.seq (a7 dc.body) (.seq (a7 (av dc.body)) (.seq (a7 (av (av dc.body))) (av (av (av dc.body)))))) ⟨[(0,.str (b::t))],[],0,0⟩)=_
    rw [Xy,e,fe]
    have:=Z2 h (b:=b) (neg:=false) (yY (by omega)) (by simpa using hl) f0 f3
    rw [this];simp only [bZ,yB hb]
   refine fin _ ?_ ?_ (by simp only [go_sem,ya,dc,a7,av,yz,show (0:Int)<((t.length+1:Nat):Int) by omega,yx,hI,show ¬((b:Nat):Int)=45 by omega]<;>rfl)<;>simp only [go_sem,ya]
end
def zQ (v:AV) (l:List (List Nat)):Prop:=cP v (l.map AV.str)
section
variable {v:AV} {l:List (List Nat)}
def zQ.len (h:zQ v l) {hp:Hp}:jk hp 1 v=some (.int .i64 (l.length:Nat)):=by
 have:=cP.len (hp:=hp) h
 grind
def zQ.pu (h:zQ v l):aW v=true:=cP.pu h
def zQ.br (h:zQ v l) {i:Nat} (hi:i<l.length):jj 1 i v=some (.aH (.str l[i]::(l.map AV.str).drop (i+1))):=by
 have:=cP.br h (i:=i) (by simpa using hi)
 grind
def anI (e:Bool) (l:List (List Nat)):zQ (.aA e l.length (l.map AV.str)) l:=by
 have:=Dy e (l.map AV.str)
 rwa [xo] at this
end
section
variable {P:aF} {L:Lib}
def anJ (h:Rm P L) {a:Rat} {K:Nat} (ka:Hq K a) (hK:K<=4000000000):bE P L (D P L) 284 [.str (RT a)]=some (.str (aP a.num))/\bE P L (D P L) 285 [.str (aP a.num)]=some (.str (ap a.num.natAbs))/\bE P L (D P L) 286 [.str (RT a)]=some (.str (ap a.den)):=by
 have hl:=mE ka;have e0:=Cr h.zk (s:=RT a) (by omega);have lF:bG (RT a)=(aP a.num).length/\(RT a).take (aP a.num).length=aP a.num:=by
  unfold RT;by_cases hd:a.den=1
  ·rw [yN hd,xX]
   have:=BC a.num []
   rw [xX] at this;exact ⟨by rw [this];simp [bG],xK⟩
  ·rw [yB hd];exact ⟨by rw [BC];simp [bG],tu⟩
 obtain ⟨dR,oW⟩:=lF;rw [dR] at e0;have hlen:(aP a.num).length<=(RT a).length:=by unfold RT;simp
 have e1:bE P L (D P L) 284 [.str (RT a)]=some (.str (aP a.num)):=by
  rw [aC h.aud]
  have:=Yy (s:=RT a) hlen
  simp only [go_sem,ya,Sb,e0,ef,eF,dA,this,oW]
 have hT:aP a.num=TT a.num 1:=by unfold TT;simp
 have e2:bE P L (D P L) 285 [.str (aP a.num)]=some (.str (ap a.num.natAbs)):=by
  have e:=aba h (n:=a.num) (d:=1) (by rw [<-hT];omega) (fun _=>rfl);rw [<-hT] at e;rw [aC h.aue];by_cases h0:a.num<0
  ·have es:bQ a.num= -1:=by unfold bQ;rw [yN h0]
   rw [es] at e;rw [jJ h0] at e ⊢;have hc:=K5 (s:=45::ap a.num.natAbs) (k:=1) (by simp);simp only [List.drop_succ_cons,yo,yz] at hc;simp only [go_sem,ya,MV,e,show (-1:Int)<0 by decide,ef,eF,dA,hc]
  ·have es:¬bQ a.num<0:=by unfold bQ;rw [yB h0];split<;>decide
   have hi:aP a.num=ap a.num.natAbs:=by
    obtain ⟨m,hm⟩:∃m:Nat,a.num=m:=⟨a.num.toNat,by omega⟩;rw [hm,j8,xq]
   simp only [go_sem,ya,MV,e,es];rw [hi]
 have e3:bE P L (D P L) 286 [.str (RT a)]=some (.str (ap a.den)):=by
  rw [aC h.auf];by_cases hd:a.den=1
  ·have hR:(RT a).length=(aP a.num).length:=by unfold RT;rw [yN hd];simp
   rw [hd,show ap 1=[49] by decide];simp only [go_sem,ya,MW,e0,show ((aP a.num).length:Int)=((RT a).length:Int) by omega,yx]
  ·have hR:RT a=(aP a.num++[47])++ap a.den:=by unfold RT;rw [yB hd];simp
   have hRl:(RT a).length=(aP a.num).length+1+(ap a.den).length:=by rw [hR];simp;omega
   have hc:=K5 (s:=RT a) (k:=(aP a.num).length+1) (by omega);have ik:(RT a).drop ((aP a.num).length+1)=ap a.den:=by
    rw [hR,show (aP a.num).length+1=(aP a.num++[47]).length by simp,tv]
   rw [ik] at hc
   simp only [go_sem,ya,MW,e0,show ¬((aP a.num).length:Int)=((RT a).length:Int) by omega,show ((aP a.num).length:Int)+1=(((aP a.num).length+1:Nat):Int) from rfl,wrapN (n:=(aP a.num).length+1) (by omega),ef,eF,dA,hc]
 exact ⟨e1,e2,e3⟩
def aiP {l:List (List Nat)} {i:Nat} (h:i<l.length):cp ((l.drop i).map bZ)=if bZ l[i]=0 then cp ((l.drop (i+1)).map bZ) else bZ l[i]:=by
 rw [yP h];rfl
def asa (h:Rm P L) (I2:Has P L 261 Is) {v:AV} {l:List (List Nat)} (hv:zQ v l) (hl:l.length<=1000000) (hs:∀s,s∈l->s.length<9223372036854775808):ah P L 261 [v] (aa (cp (l.map bZ))):=by
 have key:=jZ (P:=P) (L:=L) (live:=[0,3]) (a:=DI)
  (I:=fun k st=>∃i:Nat,st=⟨[(0,v),(3,aa i)],[],0,0⟩/\i+k=l.length/\cp ((l.drop i).map bZ)=cp (l.map bZ))
  (Q:=fun ex st=>∃tm ct,st=⟨tm,[],ct,0⟩/\((ex= .ret/\aj tm 2=aa (cp (l.map bZ)))\/(ex= .exit 0/\cp (l.map bZ)=0))) ?_
 ·unfold ah;rw [aC I2];simp only [go_sem,Is];generalize hq:D P L (.loop [0,3] DI) _=q;obtain ⟨ex,st,rfl,tm,ct,rfl,h2⟩:=b9 hq (key l.length) ⟨0,by simp only [go_sem,ya,az,aE hv.pu,aJ _ hv.pu]<;>rfl,by omega,by simp⟩
  rcases h2 with ⟨rfl,h2⟩ | ⟨rfl,h3⟩
  ·simp only [go_sem,h2]
  ·simp only [go_sem,az,h3]
 ·rintro k st ⟨i,rfl,hk,hd⟩;by_cases hi:i<l.length
  ·rw [aiP hi] at hd;have e1:=acQ h (hs l[i] (List.getElem_mem hi));have ev:=hv.br hi;unfold ah at e1;by_cases h1:bZ l[i]=0
   ·left
    rw [yN h1] at hd;rw [h1] at e1;simp only [go_sem,ya,DI,hv.len,show (i:Int)<l.length by omega,ev,e1,yx,yT];refine ⟨_,k-1,rfl,by omega,i+1,?_,by omega,hd⟩;rw [wrap64 (by omega) (by omega)];simp only [go_sem,ya,az,aE hv.pu,aJ _ hv.pu]<;>rfl
   ·right
    rw [yB h1] at hd;simp only [go_sem,ya,DI,hv.len,show (i:Int)<l.length by omega,ev,e1,h1,yE,yU];refine ⟨_,_,rfl,by simp,_,_,rfl,.inl ⟨rfl,?_⟩⟩;rw [<-hd];simp only [go_sem]
  ·right
   simp only [go_sem,ya,DI,hv.len,show ¬(i:Int)<l.length by omega];refine ⟨_,_,rfl,by simp,_,_,rfl,.inr ⟨rfl,?_⟩⟩;rw [<-hd,y9 (by omega)];rfl
def asb (h:Rm P L) (I2:Has P L 261 Is) {v:AV} {l:List (List Nat)} (hv:zQ v l) (hl:l.length<=1000000) (hs:∀s,s∈l->s.length<=1000000000):ah P L 261 [v] (aa (cp (l.map bZ))):=asa h I2 hv hl (fun s h=>by have:=hs s h;omega)
end
section
open Go (IntKind)
open Classical in
noncomputable def bm (s:List Nat):Rat:=if h:bZ s=0 then Classical.choose (aqb h) else 0
def sE {s:List Nat} (h:bZ s=0):s=RT (bm s)/\(ap (bm s).num.natAbs).length<=600/\(ap (bm s).den).length<=600:=by
 unfold bm
 grind
def Dr {z:Int} {k M:Nat} (h:(ap z.natAbs).length<=k) (hM:4*k<=M):Bd M z:=by
 have h1:=G4 z.natAbs;have h2:=G6 (ap z.natAbs).length;have h3:(2:Nat)^(4*(ap z.natAbs).length)<=2^M:=yV (by decide) (by omega);exact yu h1 (xg h2 h3)
def G7 {s:List Nat} (h:bZ s=0) {M:Nat} (hM:2400<=M):Hq M (bm s):=by
 obtain ⟨_,h1,h2⟩:=sE h
 exact ⟨Dr h1 (by omega),Dr (z:=((bm s).den:Int)) (by rw [xq];exact h2) (by omega)⟩
noncomputable def acR (s:List Nat) (least:Int):Int:=if bZ s=0 then (if bQ (bm s).num<least then 3 else 0) else bZ s
abbrev zR (x y:List Nat):AV:= .agg [.str x,.str y]
instance (k:Nat) (z:Int):Decidable (Bd k z):=inferInstanceAs (Decidable (z.natAbs<2^k))
def gJ:Rat:=⟨1,2,by decide,by decide⟩
def aul:RT gJ=[49,47,50]:=by decide
def acS:Hq 2 0:=⟨by decide,by decide⟩
def Cz:Hq 2 1:=⟨by decide,by decide⟩
def acT:Hq 2 gJ:=⟨by decide,by decide⟩
section
variable {P:aF} {L:Lib}
def acU (h:Rp P L) (Nv:Has P L 315 MZ) {a b:Rat} {K M:Nat} (ka:Hq K a) (kb:Hq M b) (hK:K+M+1<=8000000000):ah P L 315 [.str (RT a),.str (RT b)] (aa (bQ (a-b).num)):=by
 have e1:=abd h ka kb hK;have e2:=abb h.toRm (ka.sub kb) hK;unfold ah at e1 e2 ⊢;rw [aC Nv];simp only [go_sem,ya,MZ,e1,e2]
def acV (h:Rn P L) (Nw:Has P L 319 M0) {a:Rat} {K:Nat} (ka:Hq K a) (hK:K+2<=8000000000):ah P L 319 [.str (RT a)] (.str (RT (a*gJ))):=by
 have e1:=abc h ka acT hK;rw [aul] at e1;unfold ah at e1 ⊢;rw [aC Nw];simp only [go_sem,ya,M0,e1]
end
end
def OE (v:AV) (a b:Rat):Prop:=∃s1 w1 s2 w2 s3 w3 s4 w4,v= .agg [aa s1,w1,aa s2,w2,aa s3,w3,aa s4,w4]/\cS s1 w1 a.num/\cS s2 w2 (a.den:Int)/\cS s3 w3 b.num/\cS s4 w4 (b.den:Int)
section
variable {s1 s2 s3 s4:Int} {w1 w2 w3 w4:AV} {l1 l2 l3 l4:List Nat}
def abe (h1:bB w1 l1) (h2:bB w2 l2) (h3:bB w3 l3) (h4:bB w4 l4) (hp:Hp) (ct id:Nat) (a b c d e f g h:AV):ij hp ct id 0 8 [.int .i64 s1,w1,.int .i64 s2,w2,.int .i64 s3,w3,.int .i64 s4,w4] (some (.cells true true true 8 [a,b,c,d,e,f,g,h]))=some (.au [],aU hp id (.cells true true true 8 [.int .i64 s1,w1,.int .i64 s2,w2,.int .i64 s3,w3,.int .i64 s4,w4]),ct):=by
 rw [sY (by rfl) (by simp) (by simp [bL,h1.one,h2.one,h3.one,h4.one,G2])];simp [aD,h1.pu,h2.pu,h3.pu,h4.pu,over,DP]
def abf (h1:bB w1 l1) (h2:bB w2 l2) (h3:bB w3 l3) (h4:bB w4 l4) (hp:Hp):result hp (.agg [aa s1,w1,aa s2,w2,aa s3,w3,aa s4,w4])=some (.agg [aa s1,w1,aa s2,w2,aa s3,w3,aa s4,w4]):=by
 rcases h1 with ⟨rfl,_⟩ | ⟨e,rfl⟩<;>rcases h2 with ⟨rfl,_⟩ | ⟨e',rfl⟩<;>rcases h3 with ⟨rfl,_⟩ | ⟨e,rfl⟩<;>rcases h4 with ⟨rfl,_⟩ | ⟨e',rfl⟩<;>rfl
def anK {tm:Env} {a b c d x y z w:AV} {x' y' z' w':AV} {r:List (Nat×Nat×X)} (h1:bn a=true) (h2:bn b=true) (h3:bn c=true) (h4:bn d=true):jm tm [x',y',z',w',x,y,z,w] 0 4 [a,b,c,d] r=fill tm [a,b,c,d,x,y,z,w] r:=by
 rw [ni (by rfl) (by simp) (by simp [bL,h1,h2,h3,h4])];rfl
def anL {tm:Env} {a b c d x y z w:AV} {x' y' z' w':AV} {r:List (Nat×Nat×X)} (h1:bn a=true) (h2:bn b=true) (h3:bn c=true) (h4:bn d=true):jm tm [x,y,z,w,x',y',z',w'] 4 4 [a,b,c,d] r=fill tm [x,y,z,w,a,b,c,d] r:=by
 rw [ni (by rfl) (by simp) (by simp [bL,h1,h2,h3,h4])];rfl
def asc (a b c d e f g h:AV):fV 8 true [a,b,c,d,e,f,g,h]=some (.agg [a,b,c,d,e,f,g,h]):=rfl
def B2 (a b c d:AV) (r:List AV):fV 4 true (a::b::c::d::r)=some (.agg [a,b,c,d]):=rfl
def anM (a b c d e f g h:AV):vL 4 [a,b,c,d,e,f,g,h]=[e,f,g,h]:=rfl
end
structure Sp (P:aF) (L:Lib):Prop extends Ck P L where
 CW:Has P L 31 EN
 qd:Has P L 33 EO
 UI:Has P L 53 TN
 UJ:Has P L 54 TO
 h60:Has P L 60 c60
 h61:Has P L 61 c61
 Tj:Has P L 63 c63
 h64:Has P L 64 c64
 h65:Has P L 65 c65
 h68:Has P L 68 c68
 h75:Has P L 75 c75
 ayx:Has P L 112 abK
 ayy:Has P L 113 abL
 ayz:Has P L 114 abM
section
variable {P:aF} {L:Lib}
def m53 (h:Sp P L) {x y:List Nat} (hx:x.length<=1000000000) (hy:y.length<=1000000000):ah P L 53 [zR x y] (aa (cp [bZ x,bZ y])):=by
 have e1:=OC h.toCk hx;have e2:=OC h.toCk hy;have e3:=E0 h.qd (iQ true [bZ x,bZ y]) (by simp);simp only [yz,yK,yf,yd,xm,vA] at e3;unfold ah at e1 e2 ⊢;rw [aC h.UI];simp only [go_sem,ya,yd,yI,yp,yk,TN,aM,bl,yf,cC,e1,e2,e3]
def acW (h:Sp P L) {s:List Nat} (h0:bZ s=0):∃r,ah P L 62 [.str s] r/\bO r (bm s):=by
 obtain ⟨hR,_⟩:=sE h0;have kr:=G7 h0 (yA 2400);have hl:=mE kr;obtain ⟨r,e,hr⟩:=UM h.toTx (a:=bm s) (by omega)
 grind
def aiQ (a:List Nat):cN a a=true:=Lt rfl
def m54 (h:Sp P L) {x y:List Nat} (hx:bZ x=0) (hy:bZ y=0):∃r,ah P L 54 [zR x y] r/\OE r (bm x) (bm y):=by
 obtain ⟨p,e1,hp⟩:=acW h hx;obtain ⟨q,e2,hq⟩:=acW h hy;obtain ⟨s1,w1,s2,w2,rfl,h1,h2⟩:=hp;obtain ⟨s3,w3,s4,w4,rfl,h3,h4⟩:=hq;obtain ⟨l1,u1⟩:=h1.aB;obtain ⟨l2,u2⟩:=h2.aB;obtain ⟨l3,u3⟩:=h3.aB;obtain ⟨l4,u4⟩:=h4.aB;refine ⟨_,?_,s1,w1,s2,w2,s3,w3,s4,w4,rfl,h1,h2,h3,h4⟩;unfold ah at e1 e2 ⊢;rw [aC h.UJ];simp only [go_sem,ya,yd,TO,aM,bl,yf,cC,e1,e2,bc,u1.one,u2.one,u3.one,u4.one,anK,anL,abe u1 u2 u3 u4,de,df,yo,asc,abf u1 u2 u3 u4]
end
structure F4 (c1 c2 c3 c4:AV):Prop where
 ai:∀(n:Nat) (hp:Hp),freeze (n+20) hp (.agg [c1,c2,c3,c4])=some (.agg [c1,c2,c3,c4],hp)
 dQ:∀hp:Hp,result hp (.agg [c1,c2,c3,c4])=some (.agg [c1,c2,c3,c4])
 st:∀(hp:Hp) (ct id:Nat) (a b c d:AV),ij hp ct id 0 4 [c1,c2,c3,c4] (some (.cells true true true 4 [a,b,c,d]))=some (.au [],aU hp id (.cells true true true 4 [c1,c2,c3,c4]),ct)
 bx:∀ct:Nat,AP ct 4 [c1,c2,c3,c4]=some (.ptr ct 0,.cells true true true 4 [c1,c2,c3,c4])
 o1:bn c1=true
 o2:bn c2=true
 o3:bn c3=true
 o4:bn c4=true
 pu:aW (.agg [c1,c2,c3,c4])=true
 z1:∀(n:Nat) (hp:Hp),freeze (n+1) hp c1=some (c1,hp)
 z2:∀(n:Nat) (hp:Hp),freeze (n+1) hp c2=some (c2,hp)
 z3:∀(n:Nat) (hp:Hp),freeze (n+1) hp c3=some (c3,hp)
 z4:∀(n:Nat) (hp:Hp),freeze (n+1) hp c4=some (c4,hp)
structure F8 (c1 c2 c3 c4 c5 c6 c7 c8:AV):Prop where
 ai:∀(n:Nat) (hp:Hp),freeze (n+20) hp (.agg [c1,c2,c3,c4,c5,c6,c7,c8])=some (.agg [c1,c2,c3,c4,c5,c6,c7,c8],hp)
 dQ:∀hp:Hp,result hp (.agg [c1,c2,c3,c4,c5,c6,c7,c8])=some (.agg [c1,c2,c3,c4,c5,c6,c7,c8])
 st:∀(hp:Hp) (ct id:Nat) (a b c d e f g h:AV),ij hp ct id 0 8 [c1,c2,c3,c4,c5,c6,c7,c8] (some (.cells true true true 8 [a,b,c,d,e,f,g,h]))=some (.au [],aU hp id (.cells true true true 8 [c1,c2,c3,c4,c5,c6,c7,c8]),ct)
 bx:∀ct:Nat,AP ct 8 [c1,c2,c3,c4,c5,c6,c7,c8]=some (.ptr ct 0,.cells true true true 8 [c1,c2,c3,c4,c5,c6,c7,c8])
def bO.gen {v:AV} {a:Rat} (h:bO v a):∃c1 c2 c3 c4,v= .agg [c1,c2,c3,c4]/\F4 c1 c2 c3 c4:=by
 obtain ⟨s1,w1,s2,w2,rfl,h1,h2⟩:=h;obtain ⟨l1,u1⟩:=h1.aB;obtain ⟨l2,u2⟩:=h2.aB;refine ⟨_,_,_,_,rfl,fun n hp=>?_,jB u1 u2,fun hp ct id a b c d=>jn u1 u2 hp ct id a b c d,fun ct=>by simp only [go_sem,yd,aM,u1.pu,u1.one,u2.pu,u2.one],rfl,u1.one,rfl,u2.one,by simp [aW,aD,u1.pu,u2.pu],fun _ _=>rfl,fun n _=>u1.ai n,fun _ _=>rfl,fun n _=>u2.ai n⟩;exact bA _ _ (by simp only [go_sem,u1.ai,u2.ai])
def OE.gen {v:AV} {a b:Rat} (h:OE v a b):∃c1 c2 c3 c4 c5 c6 c7 c8,v= .agg [c1,c2,c3,c4,c5,c6,c7,c8]/\F8 c1 c2 c3 c4 c5 c6 c7 c8:=by
 obtain ⟨s1,w1,s2,w2,s3,w3,s4,w4,rfl,h1,h2,h3,h4⟩:=h;obtain ⟨l1,u1⟩:=h1.aB;obtain ⟨l2,u2⟩:=h2.aB;obtain ⟨l3,u3⟩:=h3.aB;obtain ⟨l4,u4⟩:=h4.aB;refine ⟨_,_,_,_,_,_,_,_,rfl,fun n hp=>?_,abf u1 u2 u3 u4,fun hp ct id a b c d e f g h=>abe u1 u2 u3 u4 hp ct id a b c d e f g h,fun ct=>by simp only [go_sem,yd,aM,u1.pu,u1.one,u2.pu,u2.one,u3.pu,u3.one,u4.pu,u4.one]⟩;exact bA _ _ (by simp only [go_sem,u1.ai,u2.ai,u3.ai,u4.ai])
def Qu {a b:Int}:cp [a,b]=0↔a=0/\b=0:=by
 simp only [cp]
 grind
def QL:List AV->List Rat->Prop
 | [],[]=>True
 | a::b::c::d::r,x::l=>bO (.agg [a,b,c,d]) x/\QL r l
 | _,_=>False
def QL.inv {cs:List AV} {x:Rat} {l:List Rat} (h:QL cs (x::l)):∃a b c d r,cs=a::b::c::d::r/\bO (.agg [a,b,c,d]) x/\QL r l:=by
 match cs,h with
 | a::b::c::d::r,h=>exact ⟨a,b,c,d,r,rfl,h.1,h.2⟩
def QL.I3 {cs:List AV} (h:QL cs []):cs=[]:=by
 match cs,h with
 | [],_=>rfl
 | [_],h=>exact h.elim
 | [_,_],h=>exact h.elim
 | [_,_,_],h=>exact h.elim
 | _::_::_::_::_,h=>exact h.elim
def QL.len:∀{l:List Rat} {cs:List AV},QL cs l->cs.length=l.length*4
 | [],_,h=>by rw [h.I3];rfl
 | x::l,cs,h=>by
  obtain ⟨a,b,c,d,r,rfl,_,h2⟩:=h.inv
  have:=h2.len
  grind
def F4.OF {c1 c2 c3 c4:AV} (g:F4 c1 c2 c3 c4):aW c1=true/\aW c2=true/\aW c3=true/\aW c4=true:=by
 have:=g.pu
 simpa only [aW,aD,vR,yg] using this
def bO.f4 {a b c d:AV} {x:Rat} (h:bO (.agg [a,b,c,d]) x):F4 a b c d:=by
 obtain ⟨_,_,_,_,e,g⟩:=h.gen
 grind
def QL.pu:∀{l:List Rat} {cs:List AV},QL cs l->aD cs=true
 | [],_,h=>by rw [h.I3];rfl
 | x::l,cs,h=>by
  obtain ⟨a,b,c,d,r,rfl,h1,h2⟩:=h.inv;obtain ⟨p1,p2,p3,p4⟩:=h1.f4.OF;simp only [aD,p1,p2,p3,p4,h2.pu,wM]
def QL.one:∀{l:List Rat} {cs:List AV},QL cs l->bL cs=true
 | [],_,h=>by rw [h.I3];rfl
 | x::l,cs,h=>by
  obtain ⟨a,b,c,d,r,rfl,h1,h2⟩:=h.inv;have g:=h1.f4;simp only [bL,g.o1,g.o2,g.o3,g.o4,h2.one,wM]
def QL.cQ:∀{l m:List Rat} {cs ds:List AV},QL cs l->QL ds m->QL (cs++ds) (l++m)
 | [],m,cs,ds,h,k=>by rw [h.I3];exact k
 | x::l,m,cs,ds,h,k=>by
  obtain ⟨a,b,c,d,r,rfl,h1,h2⟩:=h.inv;exact ⟨h1,h2.cQ k⟩
def QL.snoc {l:List Rat} {x:Rat} {cs:List AV} {a b c d:AV} (h:QL cs l) (k:bO (.agg [a,b,c,d]) x):QL (cs++[a,b,c,d]) (l++[x]):=h.cQ ⟨k,trivial⟩
def QL.get:∀{l:List Rat} {cs:List AV} {i:Nat},QL cs l->∀(hi:i<l.length),∃a b c d r,cs.drop (i*4)=a::b::c::d::r/\bO (.agg [a,b,c,d]) l[i]
 | [],_,i,_,hi=>absurd hi (tn i)
 | x::l,cs,0,h,hi=>by
  obtain ⟨a,b,c,d,r,rfl,h1,_⟩:=h.inv
  grind
 | x::l,cs,i+1,h,hi=>by
  obtain ⟨a,b,c,d,r,rfl,_,h2⟩:=h.inv;obtain ⟨a',b',c',d',r',e,k⟩:=h2.get (i:=i) (by simpa using hi)
  grind
def A0 (v:AV) (l:List Rat):Prop:=(v= .ae/\l=[])\/∃e cs,v= .aA e l.length cs/\QL cs l
section
variable {v:AV} {l:List Rat} {hp:Hp}
def A0.len (h:A0 v l) {hp:Hp}:jk hp 1 v=some (.int .i64 (l.length:Nat)):=by
 rcases h with ⟨rfl,rfl⟩ | ⟨e,cs,rfl,h⟩<;>rfl
def A0.pu (h:A0 v l):aW v=true:=by
 rcases h with ⟨rfl,rfl⟩ | ⟨e,cs,rfl,h⟩<;>rfl
def A0.br (h:A0 v l) {i:Nat} (hi:i<l.length):∃a b c d r,jj 4 i v=some (.aH (a::b::c::d::r))/\bO (.agg [a,b,c,d]) l[i]:=by
 rcases h with ⟨rfl,rfl⟩ | ⟨e,cs,rfl,h⟩
 ·grind
 ·obtain ⟨a,b,c,d,r,e1,e2⟩:=h.get hi;refine ⟨a,b,c,d,r,?_,e2⟩;rw [Qj e _ hi,e1]
def ala {cs:List AV} (e:Bool) (h:QL cs l):A0 (.aA e l.length cs) l:= .inr ⟨e,cs,rfl,h⟩
end
def aqr {tm:Env} {a b c d x0 x1 x2 x3:AV} {r:List (Nat×Nat×X)} (h1:bn a=true) (h2:bn b=true) (h3:bn c=true) (h4:bn d=true):jm tm [x0,x1,x2,x3] 0 4 [a,b,c,d] r=fill tm [a,b,c,d] r:=by
 rw [ni (by rfl) (by simp) (by simp [bL,h1,h2,h3,h4])];rfl
def abg (dW pu ex:Bool) (a b c d:AV):Ue 0 1 4 (some (.cells dW pu ex 4 [a,b,c,d]))=some (1,[a,b,c,d]):=rfl
def aum (hp:Hp) (cs:List AV):iW hp 4 true (.aH cs)=fV 4 true cs:=rfl
def oN (s:Rat) (l:List Rat):Rat:=l.foldl (·+·) s
def aiR {s:Rat} {l:List Rat} {i:Nat} (h:i<l.length):oN s (l.take (i+1))=oN s (l.take i)+l[i]:=by
 rw [wK h];simp only [oN,List.foldl_append,List.foldl_cons,List.foldl_nil]
def QV {K:Nat}:∀{l:List Rat} {s:Rat} {M:Nat},Hq M s->(∀x,x∈l->Hq K x)->Hq (M+l.length*(K+1)) (oN s l)
 | [],s,M,hs,_=>by simpa [oN] using hs
 | x::l,s,M,hs,hl=>by
  have:=QV (l:=l) (hs.add (hl x vH)) (fun y hy=>hl y (wS _ hy))
  refine Hq.mono (m:=M+(x::l).length*(K+1)) this ?_;simp only [yz,wh];omega
def anN {K M:Nat} {l:List Rat} {s:Rat} (hs:Hq M s) (hl:∀x,x∈l->Hq K x) (i:Nat):Hq (M+l.length*(K+1)) (oN s (l.take i)):=
 (QV hs (fun x hx=>hl x (List.mem_of_mem_take hx))).mono (by rw [yO];have:=yQ (K+1) (Nat.min_le_right i l.length);omega)
section
variable {P:aF} {L:Lib}
def acX (oO:Has P L 150 AJ) {v:AV} {z:Int} (hv:ck v z) (h1: -9223372036854775808<z) (h2:z<9223372036854775808):ah P L 150 [v] (.au [aa z,.bool true]):=by
 obtain ⟨s,w,rfl,hn⟩:=hv;rcases hn with ⟨rfl,rfl,_,_⟩ | ⟨e,l,rfl,g,n,hb,hs,h3⟩
 ·unfold ah;rw [aC oO];simp only [go_sem,ya,yd,AJ,aM,bl,yf,cC,gl,dP];rfl
 ·omega
def GR {a:Rat} {K:Nat} (h:Hq K a) (hK:1<=K):Hq K ((a.floor:Int):Rat):=by
 refine ⟨?_,?_⟩
 ·exact h.1.le (by
   rw [wX,uO]
   exact yay _ _)
 ·rw [wY];exact wO (by omega)
def aiS (n:Int) {s:Int} (hs:0<s):((n:Rat)-(s:Rat)*(((n:Rat)/(s:Rat)).floor:Int))=((n%s:Int):Rat):=by
 have h1:(n:Rat)/(s:Rat)=wi n s:=(Rat.divInt_eq_div n s).symm;have h2:((n:Rat)/(s:Rat)).floor=n/s:=by
  rw [h1];obtain ⟨p1,p2⟩:=Gn (a:=n) hs;have hg:=G3 (a:=n) hs;rw [uO,p1,p2];have e1:=ZI n s;have e2:=ZJ n s;show cU n s/cW n s=n/s
  have e3:=Int.mul_ediv_mul_of_pos (cU n s) (cW n s) hg
  grind
 rw [h2,Int.emod_def]
 grind
def acY (h:Fr' P L) (Ev:Has P L 103 Ig) (oO:Has P L 150 AJ) {v:AV} {a:Rat} {s:Int} {K:Nat} (hv:bO v a) (ka:Hq K a) (UZ:100<=K) (hK:K<=1000000000) (ml:0<s) (hs:s<1000000):
  ∃f,ah P L 103 [v,aa s] (.au [aa (a.floor%s),f])/\bO f (a-(a.floor:Int)):=by
 obtain ⟨p,e1,hp⟩:=SF h hv ka (by omega);obtain ⟨w,e2,hw⟩:=Er h hp;obtain ⟨n,e3,hn⟩:=E8 h (z:=s) (by omega) (by omega);have kf:=GR ka (by omega);have Th:s.natAbs<2^64:=by omega
 have ks:Hq K (s:Rat):=⟨by rw [wX];exact yu Th (yV (by decide) (by omega)),by rw [wY];exact wO (by omega)⟩
 have aun:(s:Rat)≠0:=fun e=>by
  have:=congrArg Rat.num e
  have:s=0:=this
  omega
 obtain ⟨d,e4,hd⟩:=m70 h hw hn aun kf ks (by omega);have kd:=kf.div ks;obtain ⟨g,e5,hg⟩:=SF h hd kd (by omega);obtain ⟨gw,e6,hgw⟩:=Er h hg;have kg:=GR kd (by omega);obtain ⟨mu,e7,hmu⟩:=zO h hn hgw (ks.mono (show K<=K+K by omega)) kg (by omega);obtain ⟨r,e8,hr⟩:=JJ h hw hmu (kf.mono (show K<=K+(K+K) by omega)) (ks.mul kg) (by omega);rw [aiS _ ml] at hr;obtain ⟨f,e9,hf⟩:=JJ h hv hw ka kf (by omega);have mg:=Int.emod_nonneg a.floor (show s≠0 by omega);have ayh:=Int.emod_lt_of_pos a.floor ml;refine ⟨f,?_,hf⟩;obtain ⟨v1,v2,v3,v4,rfl,gv⟩:=hv.gen;obtain ⟨w1,w2,w3,w4,rfl,gw'⟩:=hw.gen;obtain ⟨n1,n2,n3,n4,rfl,gn⟩:=hn.gen;obtain ⟨d1,d2,d3,d4,rfl,gd⟩:=hd.gen;obtain ⟨x1,x2,x3,x4,rfl,gx⟩:=hgw.gen;obtain ⟨y1,y2,y3,y4,rfl,gy⟩:=hmu.gen;obtain ⟨f1,f2,f3,f4,rfl,gf⟩:=hf.gen;obtain ⟨ps,pw,rfl,an⟩:=hp;obtain ⟨gs,gw2,rfl,C7⟩:=hg;obtain ⟨lp,up⟩:=an.aB;obtain ⟨lg,ug⟩:=C7.aB
 obtain ⟨r1,r2,r3,r4,Bc,cg,fp⟩:=hr;subst Bc;obtain ⟨l1,u1⟩:=cg.aB;obtain ⟨l2,u2⟩:=fp.aB;rw [wX] at cg;have Gg:=acX (P:=P) (L:=L) oO ⟨r1,r2,rfl,cg⟩ (by omega) (by omega);unfold ah at e1 e2 e3 e4 e5 e6 e7 e8 e9 Gg ⊢;rw [aC Ev];simp only [go_sem,ya,yd,Ig,gv.bx,gv.ai,gw'.ai,gn.ai,gd.ai,gx.ai,gy.ai,bA,up.ai,ug.ai,u1.ai,aM,bl,yf,B2,pL,e1,e2,e3,e4,e5,e6,e7,e8,e9,Gg,bc,gw'.st,jn u1 u2,gf.st,de,df,yo];have auo:∀i:Int,DA [aa i,AV.agg [f1,f2,f3,f4]]=some []:=fun i=>by
  simp only [DA,gf.pu,DP,yt]
 have il:∀(hp:Hp) (i:Int),sF deep hp [aa i,AV.agg [f1,f2,f3,f4]]=some ([aa i,AV.agg [f1,f2,f3,f4]],hp):=fun hp i=>by
  have e1:qM deep hp (aa i)=some (aa i,hp):=rfl;have e2:qM deep hp (.agg [f1,f2,f3,f4])=some (.agg [f1,f2,f3,f4],hp):=gf.ai 980 hp;simp only [sF,e1,e2]
 simp only [result,auo,il]
end
def aiT {n:Int} {d:Nat} (hd:0<d):n/(d:Int)=if n<0/\0<n.natAbs%d then -((n.natAbs/d:Nat)+1:Int) else bT (decide (n<0)) (n.natAbs/d):=by
 have eR:=xV n.natAbs d;have hm:=xE n.natAbs hd;generalize n.natAbs/d=q at*
 generalize hr:n.natAbs%d=r at*
 by_cases h0:n<0
 ·have hn:n= -((d*q+r:Nat):Int):=by omega
  by_cases h1:0<r
  ·rw [yN ⟨h0,h1⟩];rw [hn]
   refine (Int.ediv_emod_unique (a:= -((d*q+r:Nat):Int)) (b:=(d:Int)) (r:=(d:Int)-r) (q:= -((q:Int)+1)) (by omega)).2 ⟨?_,by omega,by omega⟩ |>.1
   grind
  ·have:r=0:=by omega
   subst this;rw [yB (by omega)];unfold bT;rw [yN (by simpa using h0),hn,yW,wN,<-ycY,Int.mul_ediv_cancel_left _ (by omega)]
 ·rw [yB (by omega)];unfold bT;rw [yB (by simpa using h0)];have hn:n=((d*q+r:Nat):Int):=by omega
  rw [hn];rw [<-ybP,yaP hd,xP hm,yW]
section
variable {P:aF} {L:Lib}
def acZ (h:Rm P L) (CA:Has P L 338 Ek) {a:Rat} {K:Nat} (ka:Hq K a) (hK:K<=8000000000):ah P L 338 [.str (RT a)] (.bool (decide (a.den=1))):=by
 have hl:=mE ka;have e0:=Cr h.zk (s:=RT a) (by omega);unfold ah at e0 ⊢;rw [aC CA];by_cases hd:a.den=1
 ·have hs:bG (RT a)=(RT a).length:=by
   unfold RT;rw [yN hd]
   have:=BC a.num []
   rw [this];simp [bG]
  rw [hs] at e0;simp only [go_sem,ya,Ek,e0,hd,yx]
 ·have hs:bG (RT a)<(RT a).length:=by
   unfold RT;rw [yB hd,BC];simp [bG]
  rw [yY hd];simp only [go_sem,ya,Ek,e0,show ¬((bG (RT a):Nat):Int)=((RT a).length:Int) by omega,yE]
def aup (h:Rm P L) (CB:Has P L 339 Co) {v w:AV} {n d:Int} {K:Nat} (hK:K<=7000000000) (hv:iM v n) (hw:iM w d) (kn:Bd K n) (kd:Bd K d) (hd:0<d):∃r,ah P L 339 [v,w] r/\iM r (n/d):=by
 obtain ⟨x,a,rfl,hx,ha,na,va⟩:=hv;obtain ⟨y,b,rfl,hy,hb,nb,vb⟩:=hw;have la:=xg (gY ha na (by rw [va];exact kn.r)) hK
 have lb:=xg (gY hb nb (by rw [vb];exact kd.r)) hK
 obtain ⟨q,r,lq,lr,e1,hq,hr,dq,nq,dr,nr,vq,vr⟩:=RB h hx hy ha hb na nb (by omega) (by omega) (by omega);rw [va,vb] at vq vr;have Fb:lq.length<=7000000000:=xg (gY dq nq (by rw [vq];exact we (wV _ _) kn.r)) hK
 have nS:=aiT (n:=n) (d:=d.natAbs) (by omega);rw [show ((d.natAbs:Nat):Int)=d by omega] at nS;have lJ:(0<n.natAbs%d.natAbs)↔0<lr.length:=by
  rw [<-vr];constructor
  ·intro h1;rcases xi lr.length with h0 | h0
   ·rw [yH h0] at h1;simp [dv] at h1
   ·exact h0
  ·intro h1;rcases xi (dv lr) with h0 | h0
   ·have:=Qg nr dr h0;subst this;simp at h1
   ·exact h0
 by_cases hc:n<0/\0<lr.length
 ·obtain ⟨c1,c2⟩:=hc;rw [yN ⟨c1,lJ.2 c2⟩] at nS;have eV:a8 (.aA true 1 [aa 1]) [(1:Int)]:=iQ true [(1:Int)];obtain ⟨z,out,e2,hz,hdo,hvo,aY⟩:=acx h.No h.mi hq eV dq (jM.2 (by decide)) (by omega) (by simp);simp only [yz,yK] at aY;obtain ⟨s,e3,hs⟩:=nJ h.gO h.cD (decide (n<0)) hz hdo (by omega);have aG:bT (decide (n<0)) (dv out)=n/d:=by
   rw [hvo,vq,nS];unfold bT;rw [yN (by simpa using c1)];simp [dv]
  rw [aG] at hs;refine ⟨s,?_,hs⟩;obtain ⟨sw,sl,rfl,fO,_,_,_⟩:=hs;unfold ah at e1 e2 e3 ⊢;rw [aC CB];simp only [c1,yx] at e3 ⊢;simp only [go_sem,ya,yd,yI,yp,yk,Co,aM,hx.pu,hx.ai,hx.one,hy.pu,hy.ai,hy.one,bl,yf,cC,e1,hq.ai,hq.bM,hr.len,hr.bM,show (0:Int)<(lr.length:Int) by omega,yx,e2,hz.ai,e3,fO.pu,fO.one,bc,eI];rcases fO with ⟨rfl,_⟩ | ⟨e,rfl⟩<;>rfl
 ·rw [yB (fun e=>hc ⟨e.1,lJ.1 e.2⟩)] at nS;obtain ⟨s,e3,hs⟩:=nJ h.gO h.cD (decide (n<0)) hq dq (by omega);rw [vq,<-nS] at hs;refine ⟨s,?_,hs⟩;obtain ⟨sw,sl,rfl,fO,_,_,_⟩:=hs;unfold ah at e1 e3 ⊢;rw [aC CB];by_cases h0:n<0
  ·have jt:lr.length=0:=by
    rcases xi lr.length with h1 | h1
    ·exact h1
    ·exact absurd ⟨h0,h1⟩ hc
   simp only [h0,yx] at e3 ⊢;simp only [go_sem,ya,yd,Co,aM,hx.pu,hx.ai,hx.one,hy.pu,hy.ai,hy.one,bl,yf,cC,e1,hq.ai,hq.bM,hr.len,hr.bM,jt,show ¬(0:Int)<((0:Nat):Int) by omega,e3,fO.pu,fO.one,bc,eI];rcases fO with ⟨rfl,_⟩ | ⟨e,rfl⟩<;>rfl
  ·simp only [h0,yE] at e3 ⊢;simp only [go_sem,ya,yd,Co,aM,hx.pu,hx.ai,hx.one,hy.pu,hy.ai,hy.one,bl,yf,cC,e1,hq.ai,hq.bM,hr.bM,e3,fO.pu,fO.one,bc,eI];rcases fO with ⟨rfl,_⟩ | ⟨e,rfl⟩<;>rfl
def ac0 (h:Rm P L) (Nx:Has P L 336 ID) (CA:Has P L 338 Ek) (CB:Has P L 339 Co) {a:Rat} {K:Nat} (ka:Hq K a) (hK:K<=7000000000):ah P L 336 [.str (RT a)] (.str (RT (a.floor:Rat))):=by
 have e0:=acZ h CA ka (by omega);unfold ah at e0 ⊢;rw [aC Nx];by_cases hd:a.den=1
 ·rw [xj hd] at e0;have hf:(a.floor:Rat)=a:=by
   rw [uO,hd];simp only [Int.natCast_one,Int.ediv_one];exact (Lr a hd).symm
  rw [hf];simp only [go_sem,ya,ID,e0]
 ·rw [yY hd] at e0;obtain ⟨x,y,e1,hx,hy⟩:=H6 h ka (by omega);obtain ⟨r,e2,hr⟩:=aup h CB (K:=K) hK hx hy ka.1 ka.2 (KZ a);rw [<-uO] at hr;have kf:Bd K a.floor:=ka.1.le (by
   rw [uO]
   exact yay _ _)
  obtain ⟨e3,_⟩:=Nq (K:=K) h.Nr h.nG (by omega) hr kf.r;rw [Z0];obtain ⟨xw,xl,rfl,dY,_,_,_⟩:=hx;obtain ⟨yw,yl,rfl,dZ,_,_,_⟩:=hy;obtain ⟨dW,rl,rfl,nQ,_,_,_⟩:=hr;simp only [go_sem,ya,yd,ID,e0,aM,e1,dY.pu,dY.ai,dY.one,dZ.pu,dZ.ai,dZ.one,nQ.ai,bA,bc,su,eI,pL,e2,e3]
end
def iN (x:Rat):Rat:=x-(x.floor:Int)
def Mj {x:Rat} {K:Nat} (h:Hq K x) (hK:1<=K):Hq (2*K+1) (iN x):=(h.sub (GR h hK)).mono (by omega)
def alb {tm:Env} {a:AV} {r:List (Nat×Nat×X)} {x0 x1 x2 x3 x4 x5 x6 x7 x8 x9:AV} (h1:bn a=true):jm tm [x0,x1,x2,x3,x4,x5,x6,x7,x8,x9] 0 1 [a] r=fill tm [a,x1,x2,x3,x4,x5,x6,x7,x8,x9] r:=by
 rw [ni (by rfl) (by simp) (by simp [bL,h1])];rfl
def alc {tm:Env} {a:AV} {r:List (Nat×Nat×X)} {x0 x1 x2 x3 x4 x5 x6 x7 x8 x9:AV} (h1:bn a=true):jm tm [x0,x1,x2,x3,x4,x5,x6,x7,x8,x9] 1 1 [a] r=fill tm [x0,a,x2,x3,x4,x5,x6,x7,x8,x9] r:=by
 rw [ni (by rfl) (by simp) (by simp [bL,h1])];rfl
def ald {tm:Env} {a b c d:AV} {r:List (Nat×Nat×X)} {x0 x1 x2 x3 x4 x5 x6 x7 x8 x9:AV} (h1:bn a=true) (h2:bn b=true) (h3:bn c=true) (h4:bn d=true):jm tm [x0,x1,x2,x3,x4,x5,x6,x7,x8,x9] 2 4 [a,b,c,d] r=fill tm [x0,x1,a,b,c,d,x6,x7,x8,x9] r:=by
 rw [ni (by rfl) (by simp) (by simp [bL,h1,h2,h3,h4])];rfl
def ale {tm:Env} {a b c d:AV} {r:List (Nat×Nat×X)} {x0 x1 x2 x3 x4 x5 x6 x7 x8 x9:AV} (h1:bn a=true) (h2:bn b=true) (h3:bn c=true) (h4:bn d=true):jm tm [x0,x1,x2,x3,x4,x5,x6,x7,x8,x9] 6 4 [a,b,c,d] r=fill tm [x0,x1,x2,x3,x4,x5,a,b,c,d] r:=by
 rw [ni (by rfl) (by simp) (by simp [bL,h1,h2,h3,h4])];rfl
def D3 (v:AV) (i j:Int) (f g:Rat):Prop:=∃c1 c2 c3 c4 d1 d2 d3 d4,v= .agg [aa i,aa j,c1,c2,c3,c4,d1,d2,d3,d4]/\bO (.agg [c1,c2,c3,c4]) f/\bO (.agg [d1,d2,d3,d4]) g
section
variable {P:aF} {L:Lib}
def m55 (h:Fr' P L) (JM:Has P L 55 N2) (Ev:Has P L 103 Ig) (oO:Has P L 150 AJ) {v:AV} {x y:Rat} {s:Int} {K:Nat} (hv:OE v x y) (kx:Hq K x) (ky:Hq K y) (UZ:100<=K) (hK:K<=1000000000) (ml:0<s) (hs:s<1000000):
  ∃r,ah P L 55 [v,aa s] r/\D3 r (x.floor%s) (y.floor%s) (iN x) (iN y):=by
 obtain ⟨s1,w1,s2,w2,s3,w3,s4,w4,rfl,h1,h2,h3,h4⟩:=hv;obtain ⟨f,e1,hf⟩:=acY h Ev oO (v:= .agg [aa s1,w1,aa s2,w2]) (a:=x) ⟨s1,w1,s2,w2,rfl,h1,h2⟩ kx UZ hK ml hs;obtain ⟨g,e2,hg⟩:=acY h Ev oO (v:= .agg [aa s3,w3,aa s4,w4]) (a:=y) ⟨s3,w3,s4,w4,rfl,h3,h4⟩ ky UZ hK ml hs;have rJ:=hf;have C7:=hg;obtain ⟨c1,c2,c3,c4,rfl,gf⟩:=hf.gen;obtain ⟨d1,d2,d3,d4,rfl,gg⟩:=hg.gen;obtain ⟨l1,u1⟩:=h1.aB;obtain ⟨l2,u2⟩:=h2.aB;obtain ⟨l3,u3⟩:=h3.aB;obtain ⟨l4,u4⟩:=h4.aB;refine ⟨_,?_,c1,c2,c3,c4,d1,d2,d3,d4,rfl,rJ,C7⟩;have p1:=gf.pu;have p2:=gg.pu;simp only [aW,aD,vR,yg] at p1 p2;obtain ⟨U1,U2,U3,U4⟩:=p1;obtain ⟨U5,U6,U7,U8⟩:=p2
 have aO:∀(hp:Hp) (ct id:Nat) (i j:Int) (x0 x1 x2 x3 x4 x5 x6 x7 x8 x9:AV),ij hp ct id 0 10 [aa i,aa j,c1,c2,c3,c4,d1,d2,d3,d4] (some (.cells true true true 10 [x0,x1,x2,x3,x4,x5,x6,x7,x8,x9]))=some (.au [],aU hp id (.cells true true true 10 [aa i,aa j,c1,c2,c3,c4,d1,d2,d3,d4]),ct):=fun hp ct id i j x0 x1 x2 x3 x4 x5 x6 x7 x8 x9=>by
  rw [sY (by rfl) (by simp) (by simp [bL,G2,gf.o1,gf.o2,gf.o3,gf.o4,gg.o1,gg.o2,gg.o3,gg.o4])];simp [aD,DP,U1,U2,U3,U4,U5,U6,U7,U8,over]
 have pQ:∀(hp:Hp) (i j:Int),result hp (.agg [aa i,aa j,c1,c2,c3,c4,d1,d2,d3,d4])=some (.agg [aa i,aa j,c1,c2,c3,c4,d1,d2,d3,d4]):=fun hp i j=>by
  have e:freeze (980+20) hp (.agg [aa i,aa j,c1,c2,c3,c4,d1,d2,d3,d4])=some (.agg [aa i,aa j,c1,c2,c3,c4,d1,d2,d3,d4],hp):=
   bA _ _ (by simp only [go_sem,yd,gf.z1,gf.z2,gf.z3,gf.z4,gg.z1,gg.z2,gg.z3,gg.z4])
  show (match freeze (980+20) hp (.agg [aa i,aa j,c1,c2,c3,c4,d1,d2,d3,d4]) with | some (v',_)=>some v' | none=>none)=_
  rw [e]
 unfold ah at e1 e2 ⊢;rw [aC JM];simp only [go_sem,ya,yd,N2,aM,bA,u1.pu,u1.ai,u1.one,u2.pu,u2.ai,u2.one,u3.pu,u3.ai,u3.one,u4.pu,u4.ai,u4.one,bl,yf,anM,B2,e1,e2,gf.st,gg.st,alb,alc,ald,ale,gf.o1,gf.o2,gf.o3,gf.o4,gg.o1,gg.o2,gg.o3,gg.o4,aO,de,df,yo];exact pQ _ _ _
end
end VE
