import Derived.Test.YtpdlhopnhojpjaaGreatDoorTal
import Derived.Test.YtpdlhopnhojpjaaGreatDoorTaf
import Derived.Test.YtpdlhopnhojpjaaGreatDoorTaj
import Derived.Test.YtpdlhopnhojpjaaGreatDoorTak
import Derived.Test.YtpdlhopnhojpjaaGreatDoorTag
set_option linter.all false
set_option maxRecDepth 100000
open Bool renaming and_eq_true→yi,and_self→wm,false_and→wE,false_eq_true→yN,false_or→vL,not_false→yU,not_true→yR,true_and→wK,true_or→tU
open Go renaming DataW→xI,Field→uX,FloatKind→ug,IntKind→xc,MemPlace→wO,Program→xa,TypeId→yH,Value→yj,World→ym
open Int renaming le_of_lt→tB,mul_add→yce,mul_le_mul→ybw,mul_le_mul_of_nonneg_left→uf,mul_nonneg→tZ,natAbs_natCast→vD,natCast_add→ybk,natCast_mul→vA,natCast_nonneg→tQ,neg_neg→ybO,ofNat_eq_natCast→yaE,ofNat_lt→uQ,pow_pos→ycf,pow_succ→tA,tdiv_eq_ediv_of_nonneg→wG,tmod_eq_emod_of_nonneg→wF,toNat_natCast→wq,toNat_of_nonneg→yaK
open Int.ofNat renaming inj→yaL
open List renaming append_assoc→xm,append_nil→xT,drop→vh,drop_drop→vS,drop_eq_getElem_cons→yP,drop_eq_nil_of_le→xe,drop_zero→yL,eq_nil_of_length_eq_zero→yF,flatMap_def→ybf,getD_eq_getElem?_getD→yM,getElem?_eq_getElem→y9,length_append→yG,length_cons→yy,length_drop→we,length_map→yk,length_nil→yO,length_take→yI,mapM_cons→uv,map_append→xg,map_cons→xd,map_nil→vN,map_set→tT,mem_cons→wJ,mem_map→wA,replicate→yf,set_eq_of_length_le→yaf,set_eq_take_append_cons_drop→vX,take_append_drop→xZ,take_length→xJ,take_of_length_le→yC,take_set→yah
open Nat renaming add_mul→wS,add_zero→y7,beq→yz,ble→yK,blt→yQ,div_add_mod→wg,div_lt_iff_lt_mul→wv,eq_of_beq_eq_true→yt,eq_zero_or_pos→xB,gcd→wW,le_of_ble_eq_true→yB,le_of_lt_succ→yac,le_refl→yq,le_trans→xv,lt_of_lt_of_le→yV,min_eq_left→xt,mod_lt→xH,mul_add→xK,mul_assoc→xx,mul_comm→xO,mul_le_mul→xU,mul_le_mul_left→y8,mul_one→yh,mul_zero→xM,pow_add→wZ,pow_le_pow_left→ue,pow_le_pow_right→xh,pow_mul→tK,pow_succ→xi,reduceAdd→yd,reduceEqDiff→ya,reduceLT→yJ,reduceLeDiff→yp,reduceMul→xj,zero_add→yg
open Option renaming bind_eq_bind→vK,bind_some→xX,map_eq_some_iff→wP,pure_def→vd
open Option.some renaming injEq→ye
open Prod.mk renaming injEq→yr
namespace VE
open Go (IntKind)
def amV:∀(cs:List AV) (l:List Nat),sS cs=some l->cs=l.map uc/\lo 18446744073709551616 l:=by
 intro cs
 induction cs with
 | nil=>
  intro l h;simp only [sS,ye] at h;subst h;exact ⟨rfl,fun _ h=>by cases h⟩
 | cons c cs ih=>
  intro l h;unfold sS at h
  split at h
  ·grind
  ·rename_i d r pO;cases pO
   cases hb:yQ d 18446744073709551616 with
   | false=>rw [hb] at h;cases h
   | true=>
    rw [hb] at h
    cases hw:sS cs with
    | none=>rw [hw] at h;cases h
    | some l'=>
     rw [hw] at h;cases h;obtain ⟨k1,k2⟩:=ih l' hw;refine ⟨by rw [k1];rfl,fun x hx=>?_⟩
     rcases wJ.1 hx with rfl | hx
     ·simp_all
     ·exact k2 x hx
  ·cases h
def aaw:∀{l:List Nat},Ce l=true->im l
 | [],h=>by cases h
 | [a],h=>by
  have h0:a≠0:=fun e=>by subst e;cases h
  exact Fq h0 []
 | a::b::r,h=>by
  have h1:eB (b::r)=b::r:=aaw (l:=b::r) h;show eB (a::(b::r))=_
  simp only [eB] at h1 ⊢;rw [h1]
section
variable {P:aM} {L:Lib}
def asE (h:Has P L 99 EL) (Wr:L.pure 135=some Kz) {s:Int} (hs:Ca s=true):bK P L (D P L) 99 [.agg [aa s,.ab]]=some (.str (aY s)):=by
 have e1:bK P L (D P L) 135 [aa s]=some (.str (aY s)):=by
  rw [jL Wr];show (bif Ca s then some (AV.str (aY s)) else none)=_
  rw [hs];rfl
 rw [aI h];simp only [go_sem,ya,yd,EL,bc,b7,yg,dt,iA,eN,e1]
end
section
open Go
variable {O:bl}
def aos (hO:eU O) (hN:Nu O.prog O.aS) (Wr:O.aS.pure 135=some Kz) (Ep:O.aS.pure 138=some Bw) (AW:O.aS.pure 139=some BP) (HM:Has O.prog O.aS 99 EL) {fn:Func} {c:Code} (ml:O.P.funcs[O.ae 99]? =some fn) (jH:fn.body=some c) (QF:fn.ntmps=69)
  (Wo:Qp 5 c) (ht:TQ O.P c):∀ax r,OE ax=some r->fc O 99 ax r:=by
 intro ax r h;unfold OE at h
 split at h
 ·rename_i s
  cases hs:Ca s with
  | false=>rw [hs] at h;cases h
  | true=>
   rw [hs] at h;cases h;obtain ⟨k,hk⟩:=aeu (asE (P:=O.prog) (L:=O.aS) HM Wr hs);exact sound hO hk
 ·rename_i s e n cs
  cases hw:sS cs with
  | none=>rw [hw] at h;cases h
  | some l=>
   rw [hw] at h;simp only at h
   cases hb:(yz l.length n&&(yK n 4000000000&&(Ce l&&yK 9223372036854775808 (zn l)))) with
   | false=>rw [hb] at h;cases h
   | true=>
    rw [hb] at h;simp only [yi] at hb;obtain ⟨h1,h2,h3,h4⟩:=hb;obtain ⟨rfl,bj⟩:=amV cs l hw;have h1:=yt h1;subst h1;have h2:=yB h2;have h4:=yB h4;have h3:=aaw h3;rw [TO] at h4 h;have aU:=nj bj;have key:=fun (s z:Int) (hz:z.natAbs=bv 18446744073709551616 l) (hs:s=if z<0 then -1 else 1)=>
     aqy hO hN Ep AW HM.code ml jH QF Wo ht (s:=s) (z:=z) (e:=e) (l:=l) (.inr ⟨e,l,rfl,bj,h3,hz.symm,hs,by omega⟩) (by omega) h2 (by omega)
    split at h
    ·cases h
     have:=key 1 (bv 18446744073709551616 l:Nat) (by simp) (by rw [yo (by omega)])
     exact this
    ·cases h
     have:=key (-1) (-(bv 18446744073709551616 l:Nat):Int) (by simp) (by rw [yA (by omega)])
     rw [nV (by omega)] at this
     grind
    ·cases h
 ·cases h
end
section
open Go
def UA (L:Lib) (n:Nat) (sp:List AV->Option AV):Lib:=⟨fun i=>bif yz i n then some sp else L.pure i,L.heap⟩
def aot {O:bl} (hO:eU O) {n:Nat} {sp:List AV->Option AV} (h:∀ax r,sp ax=some r->fc O n ax r):eU (O.Af (UA O.aS n sp)) where
 hint:=hO.hint
 mixed:=hO.mixed
 prog:=hO.prog
 aS i QQ ax r hi hs:=by
  show fc O i ax r
  simp only [UA] at hi
  cases hb:yz i n with
  | true=>
   simp_all
  | false=>
   rw [hb] at hi;exact hO.aS i QQ ax r hi hs
 GA i QQ hp ct ax v ah aK hi hs:=aaf (hO.GA i QQ hp ct ax v ah aK hi hs)
end
section
open Go
section
variable {H:Type} {enc:yH×yj->H} {P:xa} {w:ym} {base:Nat} {sp:Nat->Bool} {held:Bool}
def mapM_mem {α β:Type} {f:α->Option β}:∀{l:List α} {r:List β},l.mapM f=some r->∀y,y∈r->∃x,f x=some y
 | [],r,h,y,hy=>by simp only [List.mapM_nil,vd,ye] at h;subst h;cases hy
 | x::l,r,h,y,hy=>by
  rw [uv] at h
  cases h1:f x with
  | none=>simp [h1] at h
  | some z=>
   cases h2:l.mapM f with
   | none=>simp [h1,h2] at h
   | some zs=>
    simp only [h1,h2,xX,vK,vd,ye] at h;subst h;rcases wJ.1 hy with rfl | hy
    ·exact ⟨x,h1⟩
    ·exact mapM_mem h2 y hy
def Rd (enc:yH×yj->H) (P:xa) (w:ym) (base:Nat) (sp:Nat->Bool) (held:Bool) (t:yH) (d:xI H):Prop:=∃bt cs ps,DataW.trod enc P w base sp held bt t cs=some (d,ps)
def avJ {t:yH} {k:xc} {d:xI H} {n:Nat} (ht:P.underlying t=some (.int k)) (h:Rd enc P w base sp held t d):∃z,cY P (n+1) t d=[.int k z]/\(Lit.int k z).wf=true:=by
 obtain ⟨bt,cs,ps,h⟩:=h
 cases bt with
 | zero=>simp [DataW.trod] at h
 | succ bt=>
  unfold DataW.trod at h
  split at h
  all_goals first
   | (rename_i hu;rw [ht] at hu;cases hu;done)
   | skip
  ·rename_i k1 k2 z hu;rw [ht] at hu;injection hu with hu
   injection hu with hu
   subst hu
   split at h
   ·rename_i hk;simp only [ye,yr] at h;obtain ⟨rfl,rfl⟩:=h;exact ⟨z,by simp only [cY,ht],hk.2⟩
   ·cases h
  all_goals (cases h;done)
def aqC {t e:yH} {d:xI H} {n:Nat} (ht:P.underlying t=some (.slice e)) (h:Rd enc P w base sp held t d):
  cY P (n+1) t d=[.ab]\/∃(x:Bool) (j9:List (xI H)),cY P (n+1) t d=[.aE x j9.length (j9.flatMap fun y=>cY P n e y)]/\∀y,y∈j9->Rd enc P w base sp held e y:=by
 obtain ⟨bt,cs,ps,h⟩:=h
 cases bt with
 | zero=>simp [DataW.trod] at h
 | succ bt=>
  unfold DataW.trod at h
  split at h
  all_goals first
   | (rename_i hu;rw [ht] at hu;cases hu;done)
   | skip
  ·simp only [ye,yr] at h;obtain ⟨rfl,rfl⟩:=h;exact .inl (by simp only [cY,ht])
  ·rename_i e' a len cap hu;rw [ht] at hu;injection hu with hu
   injection hu with hu
   subst hu;simp only at h
   split at h
   case isFalse=>cases h
   cases h1:(List.range len).mapM fun i=>(w.cells? base (a.add (i*P.cellsOf e)) (P.cellsOf e)).bind (DataW.trod enc P w base sp held bt e) with
   | none=>rw [h1] at h;simp at h
   | some j9=>
    rw [h1] at h;simp only [xX] at h;obtain ⟨rest,_,h⟩:=wP.1 h;simp only [yr] at h;obtain ⟨rfl,rfl⟩:=h;refine .inr ⟨(rest.map (·.1)).isEmpty,j9.map (·.1),by simp only [cY,ht,yk],?_⟩;intro y hy;obtain ⟨p,hp,rfl⟩:=wA.1 hy;obtain ⟨i,hi⟩:=mapM_mem h1 p hp;obtain ⟨dL,_,fo⟩:=Option.bind_eq_some_iff.1 hi;exact ⟨bt,dL,p.2,fo⟩
  all_goals (cases h;done)
def aou {t:yH} {fs:Array uX} {d:xI H} {n:Nat} (ht:P.underlying t=some (.struct fs)) (h:Rd enc P w base sp held t d):
  ∃ds:List (xI H),ds.length=fs.toList.length/\cY P (n+1) t d=(fs.toList.zip ds).flatMap (fun x=>cY P n x.1.type x.2)/\∀i (h1:i<fs.toList.length) (h2:i<ds.length),Rd enc P w base sp held fs.toList[i].type ds[i]:=by
 obtain ⟨bt,cs,ps,h⟩:=h
 cases bt with
 | zero=>simp [DataW.trod] at h
 | succ bt=>
  unfold DataW.trod at h
  split at h
  all_goals first
   | (rename_i hu;rw [ht] at hu;cases hu;done)
   | (cases h;done)
   | skip
  rename_i cs x1 Mr fs' hu;rw [ht] at hu;injection hu with hu
  injection hu with hu
  subst hu
  split at h
  case isFalse=>cases h
  obtain ⟨xs,h1,h⟩:=wP.1 h;simp only [yr] at h;obtain ⟨rfl,rfl⟩:=h;refine ⟨xs.map (·.1),by simp [NO h1],by simp only [cY,ht],?_⟩;have key:∀{r:List uX} {xs:List (xI H×List wO)},r.mapM (fun f=>DataW.trod enc P w base sp held bt f.type ((cs.drop f.offset).take (P.cellsOf f.type)))=some xs->
    ∀i (h1:i<r.length) (h2:i<(xs.map (·.1)).length),Rd enc P w base sp held r[i].type (xs.map (·.1))[i]:=by
   intro r
   induction r with
   | nil=>intro xs h i h1;exact absurd h1 (Nat.not_lt_zero i)
   | cons f r ih=>
    intro xs h i h1 h2;rw [uv] at h
    cases g1:DataW.trod enc P w base sp held bt f.type ((cs.drop f.offset).take (P.cellsOf f.type)) with
    | none=>simp [g1] at h
    | some x=>
     cases g2:r.mapM (fun f=>DataW.trod enc P w base sp held bt f.type ((cs.drop f.offset).take (P.cellsOf f.type))) with
     | none=>simp [g1,g2] at h
     | some ys=>
      simp only [g1,g2,xX,vK,vd,ye] at h;subst h
      cases i with
      | zero=>exact ⟨bt,_,x.2,g1⟩
      | succ i=>exact ih g2 i (by simpa using h1) (by simpa using h2)
  exact key h1
def aqD {t e:yH} {k:Nat} {d:xI H} {n:Nat} (ht:P.underlying t=some (.array k e)) (h:Rd enc P w base sp held t d):
  ∃ds:List (xI H),ds.length=k/\cY P (n+1) t d=ds.flatMap (fun x=>cY P n e x)/\∀y,y∈ds->Rd enc P w base sp held e y:=by
 obtain ⟨bt,cs,ps,h⟩:=h
 cases bt with
 | zero=>simp [DataW.trod] at h
 | succ bt=>
  unfold DataW.trod at h
  split at h
  all_goals first
   | (rename_i hu;rw [ht] at hu;cases hu;done)
   | (cases h;done)
   | skip
  rename_i cs x1 Mr k' e' hu;rw [ht] at hu;injection hu with hu
  injection hu with sd Bf
  subst sd;subst Bf
  split at h
  case isFalse=>cases h
  obtain ⟨xs,h1,h⟩:=wP.1 h;simp only [yr] at h;obtain ⟨rfl,rfl⟩:=h;refine ⟨xs.map (·.1),by simp [NO h1],by simp only [cY,ht],fun y hy=>?_⟩;obtain ⟨p,hp,rfl⟩:=wA.1 hy;obtain ⟨i,hi⟩:=mapM_mem h1 p hp;exact ⟨bt,_,p.2,hi⟩
end
end
section
open Go
inductive Ty
 | int (k:xc)
 | dD (k:ug)
 | bool
 | str
 | sl (e:Ty)
 | nil
 | cat (a b:Ty)
 | ar (n:Nat) (e:Ty)
def nN:Ty->List AV->Prop
 | .int k,l=>∃z,l=[.int k z]/\(Lit.int k z).wf=true
 | .dD k,l=>∃b,l=[.dD k b]
 | .bool,l=>∃b,l=[.bool b]
 | .str,l=>∃s:List Nat,l=[.str s]/\s.length<9223372036854775808/\∀c,c∈s->c<256
 | .sl e,l=>l=[.ab]\/∃(x:Bool) (ps:List (List AV)),l=[.aE x ps.length ps.flatten]/\∀p,p∈ps->nN e p
 | .nil,l=>l=[]
 | .cat a b,l=>∃x y,l=x++y/\nN a x/\nN b y
 | .ar n e,l=>∃ps:List (List AV),ps.length=n/\l=ps.flatten/\∀p,p∈ps->nN e p
def og:List (Option Ty)->Option Ty
 | []=>some .nil
 | some a::r=>match og r with
  | some b=>some (.cat a b)
  | none=>none
 | none::_=>none
def gV (P:xa):Nat->yH->Option Ty
 | 0,_=>none
 | n+1,t=>
  match P.underlying t with
  | some .bool=>some .bool
  | some (.int k)=>some (.int k)
  | some (.float k)=>some (.dD k)
  | some .string=>some .str
  | some (.slice e)=>(gV P n e).map .sl
  | some (.struct fs)=>og (fs.toList.map fun f=>gV P n f.type)
  | some (.array k e)=>(gV P n e).map (.ar k)
  | _=>none
section
variable {H:Type} {enc:yH×yj->H} {P:xa} {w:ym} {base:Nat} {sp:Nat->Bool} {held:Bool}
def avK {t:yH} {k:ug} {d:xI H} {n:Nat} (ht:P.underlying t=some (.float k)) (h:Rd enc P w base sp held t d):∃b,cY P (n+1) t d=[.dD k b]:=by
 obtain ⟨bt,cs,ps,h⟩:=h
 cases bt with
 | zero=>simp [DataW.trod] at h
 | succ bt=>
  unfold DataW.trod at h
  split at h
  all_goals first
   | (rename_i hu;rw [ht] at hu;cases hu;done)
   | skip
  ·rename_i k1 k2 z hu;rw [ht] at hu;injection hu with hu
   injection hu with hu
   subst hu
   split at h
   ·simp only [ye,yr] at h;obtain ⟨rfl,rfl⟩:=h;exact ⟨z,by simp only [cY,ht]⟩
   ·cases h
  all_goals (cases h;done)
def asF {t:yH} {d:xI H} {n:Nat} (ht:P.underlying t=some .bool) (h:Rd enc P w base sp held t d):∃b,cY P (n+1) t d=[.bool b]:=by
 obtain ⟨bt,cs,ps,h⟩:=h
 cases bt with
 | zero=>simp [DataW.trod] at h
 | succ bt=>
  unfold DataW.trod at h
  split at h
  all_goals first
   | (rename_i hu;rw [ht] at hu;cases hu;done)
   | skip
  ·simp only [ye,yr] at h;obtain ⟨rfl,rfl⟩:=h;rename_i b _;exact ⟨b,by simp only [cY,ht]⟩
  all_goals (cases h;done)
def avL {t:yH} {d:xI H} {n:Nat} (ht:P.underlying t=some .string) (h:Rd enc P w base sp held t d):
  ∃s:List Nat,cY P (n+1) t d=[.str s]/\s.length<9223372036854775808/\∀c,c∈s->c<256:=by
 obtain ⟨bt,cs,ps,h⟩:=h
 cases bt with
 | zero=>simp [DataW.trod] at h
 | succ bt=>
  unfold DataW.trod at h
  split at h
  all_goals first
   | (rename_i hu;rw [ht] at hu;cases hu;done)
   | skip
  ·rename_i s hu
   split at h
   ·rename_i hs;simp only [ye,yr] at h;obtain ⟨rfl,rfl⟩:=h;refine ⟨_,by simp only [cY,ht];rfl,?_,fun c hc=>?_⟩
    ·simp only [yk,Array.length_toList];have h1:s.size<=9223372036854775807:=hs;have h2:s.data.size=s.size:=rfl;omega
    ·obtain ⟨b,_,rfl⟩:=wA.1 hc;exact b.toNat_lt
   ·cases h
  all_goals (cases h;done)
def ZH {n:Nat} (ih:∀{t:yH} {T:Ty} {d:xI H},gV P n t=some T->Rd enc P w base sp held t d->nN T (cY P n t d)):
  ∀(fs:List uX) (ds:List (xI H)) (T:Ty),og (fs.map fun f=>gV P n f.type)=some T->ds.length=fs.length->(∀i (h1:i<fs.length) (h2:i<ds.length),Rd enc P w base sp held fs[i].type ds[i])->
   nN T ((fs.zip ds).flatMap fun x=>cY P n x.1.type x.2)
 | [],ds,T,hT,_,_=>by
  simp only [vN,og,ye] at hT;subst hT;simp [nN]
 | f::fs,[],T,_,hl,_=>by simp at hl
 | f::fs,d::ds,T,hT,hl,hr=>by
  simp only [xd] at hT
  cases h1:gV P n f.type with
  | none=>simp [h1,og] at hT
  | some a=>
   cases h2:og (fs.map fun f=>gV P n f.type) with
   | none=>simp [h1,h2,og] at hT
   | some b=>
    simp only [h1,h2,og,ye] at hT;subst hT;simp only [List.zip_cons_cons,List.flatMap_cons];exact ⟨_,_,rfl,ih h1 (hr 0 (by simp) (by simp)),ZH ih fs ds b h2 (by simpa using hl) (fun i h1 h2=>hr (i+1) (by simpa using h1) (by simpa using h2))⟩
def aeH:∀(n:Nat) {t:yH} {T:Ty} {d:xI H},gV P n t=some T->Rd enc P w base sp held t d->nN T (cY P n t d)
 | 0,t,T,d,hT,_=>by simp [gV] at hT
 | n+1,t,T,d,hT,hr=>by
  have ih:=@aeH n
  cases hu:P.underlying t with
  | none=>simp [gV,hu] at hT
  | some u=>
   cases u with
   | slice e=>
    simp only [gV,hu] at hT;obtain ⟨E,hE,rfl⟩:=wP.1 hT
    rcases aqC (n:=n) hu hr with h | ⟨x,j9,h,hm⟩
    ·exact .inl h
    ·refine .inr ⟨x,j9.map (cY P n e),by rw [h,yk,ybf],fun p hp=>?_⟩;obtain ⟨y,hy,rfl⟩:=wA.1 hp;exact ih hE (hm y hy)
   | struct fs=>
    simp only [gV,hu] at hT;obtain ⟨ds,e1,e2,e3⟩:=aou (n:=n) hu hr;rw [e2];exact ZH ih fs.toList ds T hT e1 e3
   | array k e=>
    simp only [gV,hu] at hT;obtain ⟨E,hE,rfl⟩:=wP.1 hT;obtain ⟨ds,e1,e2,e3⟩:=aqD (n:=n) hu hr;refine ⟨ds.map (cY P n e),by simp [e1],by rw [e2,ybf],fun p hp=>?_⟩;obtain ⟨y,hy,rfl⟩:=wA.1 hp;exact ih hE (e3 y hy)
   | int k=>
    simp only [gV,hu,ye] at hT;subst hT;exact avJ hu hr
   | float k=>
    simp only [gV,hu,ye] at hT;subst hT;exact avK hu hr
   | bool=>
    simp only [gV,hu,ye] at hT;subst hT;exact asF hu hr
   | string=>
    simp only [gV,hu,ye] at hT;subst hT;exact avL hu hr
   | _=>simp [gV,hu] at hT
def G1:Ty->List AV->AV
 | .nil,l | .cat _ _,l | .ar _ _,l=> .agg l
 | _,l=>l.headD .undef
def aov:∀{l:List (Option Ty)} {T:Ty},og l=some T->∀x,G1 T x= .agg x
 | [],T,h=>by simp only [og,ye] at h;subst h;exact fun _=>rfl
 | none::r,T,h=>by simp [og] at h
 | some a::r,T,h=>by
  cases h1:og r with
  | none=>simp [og,h1] at h
  | some b=>
   simp only [og,h1,ye] at h;subst h;exact fun _=>rfl
def axI {n:Nat} {t:yH} {T:Ty} {d:xI H} (hT:gV P n t=some T):mD P n t d=G1 T (cY P n t d):=by
 cases n with
 | zero=>simp [gV] at hT
 | succ n=>
  cases hu:P.underlying t with
  | none=>simp [gV,hu] at hT
  | some u=>
   cases u with
   | slice e=>
    simp only [gV,hu] at hT;obtain ⟨E,hE,rfl⟩:=wP.1 hT;simp only [mD,hu,G1]
   | struct fs=>
    simp only [gV,hu] at hT;rw [aov hT];simp only [mD,hu]
   | array k e=>
    simp only [gV,hu] at hT;obtain ⟨E,hE,rfl⟩:=wP.1 hT;simp only [mD,hu,G1]
   | _=>
    simp only [gV,hu,ye,reduceCtorEq] at hT<;>
    (subst hT
     simp only [mD,hu,G1])
def KM:List Ty->List (List AV)->List AV
 | T::Ts,l::ls=>G1 T l::KM Ts ls
 | _,_=>[]
def abA {n:Nat}:∀{ts:List yH} {Ts:List Ty} {vs:List yj} {ds:List (xI H)} {ps:List wO},(ts.map (gV P n))=Ts.map some->DataW.TrodAll enc P w base sp held ts vs ds ps->
  ∃ls,cF nN Ts ls/\Av P n ts ds=KM Ts ls/\ds.length=ts.length
 | [],[],[],[],ps,_,_=>⟨[],trivial,rfl,rfl⟩
 | t::ts,T::Ts,v::vs,d::ds,ps,hT,⟨p,q,⟨bt,h1⟩,h2,_⟩=>by
  simp only [xd,List.cons.injEq] at hT;obtain ⟨ls,k1,k2,k3⟩:=abA hT.2 h2;exact ⟨cY P n t d::ls,⟨aeH n hT.1 ⟨bt,_,_,h1⟩,k1⟩,by simp only [Av,KM,k2,axI hT.1],by simp [k3]⟩
 | [],_::_,_,_,_,h,_=>by simp at h
 | _::_,[],_,_,_,h,_=>by simp at h
 | [],[],_::_,_,_,_,h=>by simp [DataW.TrodAll] at h
 | [],[],[],_::_,_,_,h=>by simp [DataW.TrodAll] at h
 | _::_,_,[],_,_,_,h=>by simp [DataW.TrodAll] at h
 | _::_,_,_::_,[],_,_,h=>by simp [DataW.TrodAll] at h
def avM {α β:Type} {p:α->β->Prop} {a:α}:∀{l:List β},cF p [a] l->∃x,l=[x]/\p a x
 | [x],h=>⟨x,rfl,h.1⟩
 | [],h=>h.elim
 | _::_::_,h=>h.2.elim
def avN {α β:Type} {p:α->β->Prop} {a b:α}:∀{l:List β},cF p [a,b] l->∃x y,l=[x,y]/\p a x/\p b y
 | x::l,h=>let ⟨y,h1,h2⟩:=avM h.2;⟨x,y,by rw [h1],h.1,h2⟩
 | [],h=>h.elim
def avO {α β:Type} {p:α->β->Prop} {a b c:α}:∀{l:List β},cF p [a,b,c] l->∃x y z,l=[x,y,z]/\p a x/\p b y/\p c z
 | x::l,h=>let ⟨y,z,h1,h2,h3⟩:=avN h.2;⟨x,y,z,by rw [h1],h.1,h2,h3⟩
 | [],h=>h.elim
end
end
def JI (n:Nat):10^n<=2^(4*n):=by
 rw [tK];exact ue (by decide) n
def aow {b:Nat} {r:List Nat} (h:dw (b::r)=true):48<=b/\b<=57:=by
 simp only [dw,yi] at h
 simp_all
section
variable {P:aM} {L:Lib}
def aeI (h:Tx P L) {ds:List Nat} {N:Nat} (hD:cV ds 0=some N) (hl:ds.length<=4000000000) {neg:Bool} {o1 o2:AV}:
  ∀m st,(∃(pre rest:List Nat) (a:Nat) (s:Int) (w:AV),aG [0,2,3,4] st=⟨[(0,.str rest),(2,.ptr 0 0),(3,.bool neg),(4,.ptr 1 0)],[(1,.cells true true true 2 [aa s,w]),(0,.cells true true true 2 [o1,o2])],2,0⟩/\ds=pre++rest/\cV pre 0=some a/\dF s w a/\rest.length=m)->
   ∃ex st',D P L (.loop [0,2,3,4] FQ) st=some (ex,st')/\∃tm s w,st'=⟨tm,[(1,.cells true true true 2 [aa s,w]),(0,.cells true true true 2 [o1,o2])],2,0⟩/\ex= .exit 0/\af tm 2= .ptr 0 0/\af tm 3= .bool neg/\af tm 4= .ptr 1 0/\dF s w N:=by
 intro dq sq;generalize bh:aG [0,2,3,4] sq=s0;revert bh s0 sq dq;apply dj;rintro m st ⟨pre,rest,a,s,w,rfl,EY,fC,hn,rfl⟩;obtain ⟨l1,u1⟩:=hn.aQ;have nm:=hD;rw [EY,Jl,fC] at nm;have nm:cV rest a=some N:=nm;have hlen:pre.length+rest.length<=4000000000:=by rw [EY,yG] at hl;exact hl
 by_cases h0:rest.length=0
 ·right
  have hr:rest=[]:=yF h0;subst hr
  have:a=N:=by simpa [cV] using nm
  subst this;simp only [go_sem,FQ,yO,show ¬(0:Int)<((0:Nat):Int) by omega];exact ⟨_,_,rfl,by simp,_,s,w,rfl,rfl,by simp only [go_sem,ya],by simp only [go_sem,ya],by simp only [go_sem,ya],hn⟩
 ·left
  obtain ⟨n,mi⟩:∃n,n=min 18 rest.length:=⟨_,rfl⟩;have ahs:(if (rest.length:Int)<18 then (rest.length:Int) else 18)=(n:Int):=by split<;>omega
  have iI:rest.take n++rest.drop n=rest:=xZ n rest;obtain ⟨a',ED⟩:∃a',cV (rest.take n) a=some a':=by
   rw [<-iI,Jl] at nm
   cases hq:cV (rest.take n) a with
   | none=>rw [hq] at nm;cases nm
   | some a'=>exact ⟨a',rfl⟩
  obtain ⟨v,hv⟩:∃v,cV (rest.take n) 0=some v:=by
   have:∀(l:List Nat) (x y b:Nat),cV l x=some y->∃z,cV l b=some z:=by
    intro l
    induction l with
    | nil=>intro x y b _;exact ⟨b,rfl⟩
    | cons c l ih=>
     intro x y b hh;simp only [cV] at hh ⊢
     cases hb:(yK 48 c&&yK c 57) with
     | false=>rw [hb] at hh;cases hh
     | true=>rw [hb] at hh;exact ih _ _ _ hh
   exact this _ _ _ 0 ED
  have aiz:=aqw (a:=a) hv;have X5:(rest.take n).length=n:=by rw [yI];omega
  rw [X5,ED,ye] at aiz;have Ws:=TP hv;rw [X5] at Ws;have aEw:v<1000000000000000000:=yV Ws (xh (n:=10) (by decide) (show n<=18 by omega));have e1:=asB (P:=P) h.Wk (f:=D P L) (s:=rest.take n) (by omega) (by omega) hv;obtain ⟨t1,t2⟩:=En h.toNu (z:=10) (by decide) (by decide);obtain ⟨t3,t4⟩:=En h.toNu (z:=(v:Int)) (by omega) (by omega);obtain ⟨p,e2,hp⟩:=azF h.toNu h.Wm t2 (K:=4) (k:=n) (by unfold Bd;decide) (by omega) (by omega)
  have halt:=TP fC;have ba:Bd (4*pre.length) (a:Int):=yV halt (JI _);have bp:Bd (4*n+1) ((10:Int)^n):=Bd.pow (k:=4) (by unfold Bd;decide) n
  obtain ⟨q,e3,hq⟩:=Cx h.toNu (v:= .agg [aa s,w]) ⟨s,w,rfl,hn⟩ hp (K:=4*pre.length+4*n+1) (ba.mono (by omega)) (bp.mono (by omega)) (by omega);have bv':Bd (4*n) (v:Int):=yV Ws (JI _);obtain ⟨r,e4,hr⟩:=LA h.toNu hq t4 (K:=4*pre.length+4*n+1) ((ba.mul bp).mono (by omega)) (bv'.mono (by omega)) (by omega);have aR:(a:Int)*10^n+(v:Int)=(a':Int):=by
   rw [aiz]
   simp
  rw [aR] at hr;obtain ⟨s2,w2,rfl,h2⟩:=hp;obtain ⟨s3,w3,rfl,h3⟩:=hq;obtain ⟨s4,w4,rfl,h4⟩:=hr;obtain ⟨l2,u2⟩:=h2.aQ;obtain ⟨l3,u3⟩:=h3.aQ;obtain ⟨l4,u4⟩:=h4.aQ;have un:=z7;have c1:iW rest (some 0) (some n)=some (.str (rest.take n)):=by rw [my (by omega) (by omega),yL]
  have c2:iW rest (some n) (some rest.length)=some (.str (rest.drop n)):=by rw [my (by omega) (by omega),xJ]
  simp only [go_sem,ya,FQ,show (0:Int)<(rest.length:Nat) by omega,aey,abm,ahs,fb,fB,dS,c1,c2,e1,cz,t1,t3,cy,u1.an,u2.an,u3.an,un.an,e2,e3,e4,bO,cz,yL,eC u4];refine ⟨_,(rest.drop n).length,rfl,by rw [we];omega,pre++rest.take n,rest.drop n,a',s4,w4,by simp only [go_sem,ya,yd,aw],by rw [xm,iI];exact EY,by rw [Jl,fC];exact ED,h4,rfl⟩
def SK {b:Nat} {r:List Nat} (h:48<=b):ic [45] (b::r)=false:=by
 show (yz 45 b&&true)=false
 rw [iO (by omega)];rfl
def LC (h:Tx P L) {z:Int} (hz:(aY z).length<=4000000000):∃r,aj P L 110 [.str (aY z)] r/\cP r z:=by
 have hN:=Dm z.natAbs;have un:=z7;have r8:(aD z.natAbs).length<=4000000000:=by
  by_cases h0:z<0
  ·rw [nV h0] at hz;simp at hz;omega
  ·rw [<-oT,yo h0] at hz;simpa using hz
 have ba:Bd (4*(aD z.natAbs).length) (z.natAbs:Int):=yV (TP hN) (JI _);by_cases h0:z<0
 ·have hs:aY z=45::aD z.natAbs:=nV h0;have e1:bK P L (D P L) 152 [.str (45::aD z.natAbs),.str [45]]=some (.bool true):=by rw [jL h.ait];rfl
  have e2:bK P L (D P L) 153 [.str (45::aD z.natAbs),.str [45]]=some (.str (aD z.natAbs)):=by rw [jL h.Wj];rfl
  have jB:∃s w r,aj P L 110 [.str (aY z)] r/\dF s w (z.natAbs:Int)/\aj P L 147 [.agg [aa s,w]] r/\cP r (-(z.natAbs:Int)):=by
   rw [hs];unfold aj;rw [aI h.aiv];simp only [go_sem,ya,yd,PQ,bc,e1,e2,un.pu,un.one,eC un];generalize hq:D P L (.loop [0,2,3,4] FQ) _=q;obtain ⟨ex,st,rfl,tm,s,w,rfl,rfl,t2,t3,t4,h5⟩:=bD hq (aeI (P:=P) (L:=L) h hN r8 (neg:=true) (o1:= .int .i64 0) (o2:= .ab) (aD z.natAbs).length) ⟨[],aD z.natAbs,0,0,.ab,by simp only [go_sem,ya,yd,aw]<;>rfl,rfl,rfl,.inl ⟨rfl,rfl,by decide,by decide⟩,rfl⟩
   obtain ⟨l5,u5⟩:=h5.aQ;obtain ⟨r,e3,hr⟩:=G0 h.toNu (v:= .agg [aa s,w]) ⟨s,w,rfl,h5⟩ (K:=4*(aD z.natAbs).length) ba (by omega);have bk:=hr;obtain ⟨s6,w6,rfl,h6⟩:=hr;obtain ⟨l6,u6⟩:=h6.aQ;refine ⟨s,w,_,?_,h5,e3,bk⟩;simp only [go_sem,ya,yd,aw,t2,t3,t4,cz,cy,u5.an,e3,bO,eS,eT,cz,yL,oe u6,eC u6]
  obtain ⟨s,w,r,g1,_,_,g2⟩:=jB;rw [show -((z.natAbs:Nat):Int)=z by omega] at g2;exact ⟨r,g1,g2⟩
 ·have hs:aY z=aD z.natAbs:=by rw [<-oT,yo h0];rfl
  obtain ⟨b,r0,hb,nI,rq⟩:=Fw z.natAbs;have e1:bK P L (D P L) 152 [.str (aD z.natAbs),.str [45]]=some (.bool false):=by
   rw [jL h.ait,hb];show some (AV.bool (ic [45] (b::r0)))=_
   rw [SK nI]
  have e2:bK P L (D P L) 153 [.str (aD z.natAbs),.str [45]]=some (.str (aD z.natAbs)):=by
   rw [jL h.Wj,hb];show some (AV.str (bif ic [45] (b::r0) then _ else _))=_
   rw [SK nI];rfl
  have jB:∃s w,aj P L 110 [.str (aY z)] (.agg [aa s,w])/\dF s w (z.natAbs:Int):=by
   rw [hs];unfold aj;rw [aI h.aiv];simp only [go_sem,ya,yd,PQ,bc,e1,e2,un.pu,un.one,eC un];generalize hq:D P L (.loop [0,2,3,4] FQ) _=q;obtain ⟨ex,st,rfl,tm,s,w,rfl,rfl,t2,t3,t4,h5⟩:=bD hq (aeI (P:=P) (L:=L) h hN r8 (neg:=false) (o1:= .int .i64 0) (o2:= .ab) (aD z.natAbs).length) ⟨[],aD z.natAbs,0,0,.ab,by simp only [go_sem,ya,yd,aw]<;>rfl,rfl,rfl,.inl ⟨rfl,rfl,by decide,by decide⟩,rfl⟩
   obtain ⟨l5,u5⟩:=h5.aQ;refine ⟨s,w,?_,h5⟩;simp only [go_sem,ya,yd,aw,t2,t3,t4,cz,eS,eT,cz,yL,oe u5,eC u5]
  obtain ⟨s,w,g1,g2⟩:=jB;rw [show ((z.natAbs:Nat):Int)=z by omega] at g2;exact ⟨_,g1,s,w,rfl,g2⟩
def Jc (b:Nat) (r:List Nat) (c:Nat):ic [c] (b::r)=yz c b:=by
 show (yz c b&&true)=_
 grind
def Y5:∀(l r:List Nat) (k:Nat),(∀x,x∈l->x≠47)->nd [47] (l++47::r) k=some (k+l.length)
 | [],r,k,_=>by
  show (bif ic [47] (47::r) then some k else _)=_
  rw [Jc];rfl
 | b::l,r,k,h=>by
  show (bif ic [47] (b::(l++47::r)) then some k else nd [47] (l++47::r) (k+1))=_
  rw [Jc,iO (fun e=>h b (by simp) e.symm),yW,Y5 l r (k+1) (fun x hx=>h x (by simp [hx])),yy]
  grind
def index_none:∀(l:List Nat) (k:Nat),(∀x,x∈l->x≠47)->nd [47] l k=none
 | [],k,_=>rfl
 | b::l,k,h=>by
  show (bif ic [47] (b::l) then some k else nd [47] l (k+1))=_
  rw [Jc,iO (fun e=>h b (by simp) e.symm),yW,index_none l (k+1) (fun x hx=>h x (by simp [hx]))]
def abB:∀{l:List Nat},dw l=true->∀x,x∈l->48<=x/\x<=57
 | [],_,x,hx=>by simp at hx
 | b::l,h,x,hx=>by
  have h1:=aow h;simp only [dw,yi] at h;rcases wJ.1 hx with rfl | hx
  ·grind
  ·exact abB h.2 x hx
def alx (z:Int):∀x,x∈aY z->x≠47:=fun x hx=>by
 rw [<-oT] at hx;rcases List.mem_append.1 hx with h | h
 ·grind
 ·have:=abB (Ja _) x h;omega
def m62 (h:Tx P L) {a:Rat} (hl:(RT a).length<4000000000):∃r,aj P L 62 [.str (RT a)] r/\dh r a:=by
 have Hf:=alx a.num;unfold RT at hl ⊢;by_cases hd:a.den=1
 ·rw [yA hd,xT] at hl ⊢;obtain ⟨p,e1,hp⟩:=LC h (z:=a.num) (by omega);obtain ⟨r,e2,hr⟩:=Wi h.toFr' hp;rw [<-TN a hd] at hr;have bk:=hr;obtain ⟨s1,w1,rfl,h1⟩:=hp;obtain ⟨s2,w2,s3,w3,rfl,h2,h3⟩:=hr;obtain ⟨l1,u1⟩:=h1.aQ;obtain ⟨l2,u2⟩:=h2.aQ;obtain ⟨l3,u3⟩:=h3.aQ;have e0:bK P L (D P L) 109 [.str (aY a.num),.str [47]]=some (.az [.str (aY a.num),.str [],.bool false]):=by
   rw [jL h.Wl];show (bif yQ (aY a.num).length 4294967281 then (match nd [47] (aY a.num) 0 with | some i=>_ | none=>some (AV.az [.str (aY a.num),.str [],.bool false])) else none)=_
   rw [lY (by omega),index_none _ _ Hf];rfl
  refine ⟨_,?_,bk⟩;unfold aj;rw [aI h.Rz];simp only [go_sem,ya,yd,QS,bc,e0,e1,bO,u1.an,cy,e2,mE u2 u3,eS,eT,yL,fP,mF u2 u3]
 ·rw [yo hd] at hl ⊢;simp only [yG,yy] at hl;obtain ⟨p,e1,hp⟩:=LC h (z:=a.num) (by omega);obtain ⟨q,e2,hq⟩:=LC h (z:=(a.den:Int)) (by rw [mw];omega);rw [mw] at e2;obtain ⟨s1,w1,rfl,h1⟩:=hp;obtain ⟨s2,w2,rfl,h2⟩:=hq;obtain ⟨l1,u1⟩:=h1.aQ;obtain ⟨l2,u2⟩:=h2.aQ;have e0:bK P L (D P L) 109 [.str (aY a.num++47::aD a.den),.str [47]]=some (.az [.str (aY a.num),.str (aD a.den),.bool true]):=by
   rw [jL h.Wl];show (bif yQ (aY a.num++47::aD a.den).length 4294967281 then (match nd [47] (aY a.num++47::aD a.den) 0 with | some i=>some (AV.az [.str ((aY a.num++47::aD a.den).take i),.str ((aY a.num++47::aD a.den).drop (i+1)),.bool true]) | none=>_) else none)=_
   rw [lY (by simp;omega),Y5 _ _ _ Hf];simp only [yg,yD,List.take_left];rw [show (aY a.num).length+1=(aY a.num++[47]).length by simp,show aY a.num++47::aD a.den=(aY a.num++[47])++aD a.den by simp,List.drop_left]
  refine ⟨.agg [aa s1,w1,aa s2,w2],?_,s1,w1,s2,w2,rfl,h1,h2⟩;unfold aj;rw [aI h.Rz];simp only [go_sem,ya,yd,QS,bc,e0,e1,e2,bO,u1.one,u2.one,FI,FJ,mE u1 u2,eS,eT,yL,fP,mF u1 u2]
end
def dZ (p:List Nat):Bool:=dw p&&(match p with | []=>false | b::r=> !(yz b 48)||r.isEmpty)
def gn (p:List Nat):Nat:=(cV p 0).getD 0
def AX (neg:Bool) (t:List Nat):Int:=
 if dZ (t.take (bY t))=false\/(neg=true/\t.take (bY t)=[48]) then 1
 else if bY t<t.length/\(dZ (t.drop (bY t+1))=false\/t.drop (bY t+1)=[48]\/t.drop (bY t+1)=[49]) then 1
 else if 600<bY t\/600<t.length-bY t-1 then 4
 else if bY t<t.length/\wW (gn (t.take (bY t))) (gn (t.drop (bY t+1)))≠1 then 1
 else 0
def bJ:List Nat->Int
 | []=>AX false []
 | b::t=>if b=45 then AX true t else AX false (b::t)
def abC:∀{p:List Nat} (a:Nat),dw p=true->∃n,cV p a=some n
 | [],a,_=>⟨a,rfl⟩
 | b::r,a,h=>by
  have h':=h;simp only [dw,yi] at h';obtain ⟨n,hn⟩:=abC (p:=r) (10*a+(b-48)) h'.2;exact ⟨n,by simp only [cV,h'.1.1,h'.1.2,wm,yD];exact hn⟩
def Fx:∀(k:Nat) {p:List Nat},p.length=k->dZ p=true->aD (gn p)=p:=by
 intro k
 induction k with
 | zero=>intro p hl h;rw [yF hl] at h;simp [dZ] at h
 | succ k ih=>
  intro p hl h;rcases snoc p with rfl | ⟨m,a,rfl⟩
  ·grind
  ·simp only [dZ,yi,Np] at h;obtain ⟨⟨h1,h2⟩,h3⟩:=h;simp only [dw,yi] at h2;have ha1:=yB h2.1.1;have ha2:=yB h2.1.2;obtain ⟨n,hn⟩:=abC 0 h1;have hv:gn (m++[a])=10*n+(a-48):=by
    unfold gn;rw [Jl,hn];simp only [xX,cV,h2.1.1,h2.1.2,wm,yD,Option.getD_some]
   cases m with
   | nil=>
    have:n=0:=by simpa [cV] using hn.symm
    rw [hv,qc (by omega)]
    simp;omega
   | cons b r=>
    have hd:dZ (b::r)=true:=by
     simp only [dZ,h1,wK]
     cases r with
     | nil=>simp
     | cons c r=>simp at h3 ⊢;exact h3
    have hm:=ih (p:=b::r) (by simpa using hl) hd;have hnv:gn (b::r)=n:=by unfold gn;rw [hn];rfl
    rw [hnv] at hm;have pL:n≠0:=fun e=>by
     rw [qc (by omega)] at hm
     simp_all
    rw [hv,rJ (by omega),show (10*n+(a-48))/10=n by omega,show 48+(10*n+(a-48))%10=a by omega,hm]
def YH (t:List Nat):bY t<t.length->t=t.take (bY t)++47::t.drop (bY t+1):=by
 induction t with
 | nil=>simp
 | cons b r ih=>
  intro h;simp only [bY] at h ⊢
  grind
def aax {n:Int} {d:Nat} (hd:0<d) (hg:wW n.natAbs d=1):∃r:Rat,r.num=n/\r.den=d:=⟨⟨n,d,by omega,hg⟩,rfl,rfl⟩
def avP {s:List Nat} (h:bJ s=0):∃r:Rat,s=RT r/\(aD r.num.natAbs).length<=600/\(aD r.den).length<=600:=by
 have key:∀(neg:Bool) (t:List Nat),AX neg t=0->∃r:Rat,(if neg=true then [45] else [])++t=RT r/\(aD r.num.natAbs).length<=600/\(aD r.den).length<=600:=by
  intro neg t h;unfold AX at h
  split at h
  ·grind
  rename_i h1
  split at h
  ·grind
  rename_i h2
  split at h
  ·grind
  rename_i h3
  split at h
  ·grind
  rename_i h4;have hle:=I9 t;have hp:dZ (t.take (bY t))=true:=by
   cases hb:dZ (t.take (bY t)) with
   | true=>rfl
   | false=>exact absurd (.inl hb) h1
  have so:=Fx _ rfl hp;generalize hn:gn (t.take (bY t))=n at*
  have axJ:neg=true->n≠0:=fun hh e=>by
   subst e;exact h1 (.inr ⟨hh,by rw [<-so];rfl⟩)
  have hint:(if neg=true then [45] else [])++aD n=aY (if neg=true then -(n:Int) else n):=by
   cases neg with
   | true=>
    have:=axJ rfl
    simp only [xE];rw [nV (by omega)]
    simp
   | false=>simp [mw]
  have Wt:(if neg=true then -(n:Int) else n).natAbs=n:=by split<;>omega
  have hln:(aD n).length<=600:=by rw [so,yI];omega
  by_cases hs:bY t<t.length
  ·have hq:dZ (t.drop (bY t+1))=true:=by
    cases hb:dZ (t.drop (bY t+1)) with
    | true=>rfl
    | false=>exact absurd ⟨hs,.inl hb⟩ h2
   have pW:=Fx _ rfl hq;have hg:wW n (gn (t.drop (bY t+1)))=1:=by
    grind
   have kV:=YH t hs;have ML:(t.drop (bY t+1)).length<=600:=by rw [we];omega
   rw [<-pW] at kV ML;have jc:gn (t.drop (bY t+1))≠0:=fun e=>by
    rw [e] at pW;exact h2 ⟨hs,.inr (.inl (by rw [<-pW];rfl))⟩
   have gW:gn (t.drop (bY t+1))≠1:=fun e=>by
    rw [e] at pW;exact h2 ⟨hs,.inr (.inr (by rw [<-pW];rfl))⟩
   generalize gn (t.drop (bY t+1))=d at*
   obtain ⟨r,cO,nH⟩:=aax (n:=if neg=true then -(n:Int) else n) (d:=d) (by omega) (by rw [Wt];exact hg)
   refine ⟨r,?_,by rw [cO,Wt];exact hln,by rw [nH];exact ML⟩
   unfold RT;rw [cO,nH,yo gW,<-hint,xm]
   congr 1
   rw [so];exact kV
  ·have ht:t.take (bY t)=t:=yC (by omega);rw [ht] at so;obtain ⟨r,cO,nH⟩:=aax (n:=if neg=true then -(n:Int) else n) (d:=1) (by omega) (Nat.gcd_one_right _);refine ⟨r,?_,by rw [cO,Wt];exact hln,by rw [nH];decide⟩
   unfold RT;rw [cO,nH,yA rfl,<-hint,xT,so]
 cases s with
 | nil=>exact absurd h (by decide)
 | cons b t=>
  simp only [bJ] at h
  split at h
  ·rename_i hb;subst hb;exact key true t h
  ·exact key false (b::t) h
namespace Nd
structure Ord (n:Nat) (l:List Int):Prop where
 len:l.length=n
 q9:∀a,a<n->0<=l.getD a 0/\l.getD a 0<n
 inj:∀a b,a<n->b<n->l.getD a 0=l.getD b 0->a=b
end Nd
namespace Nd
open Go (IntKind)
section
variable {P:aM} {L:Lib}
abbrev aj (P:aM) (L:Lib) (f:Nat) (ax:List AV) (r:AV):Prop:=bK P L (D P L) f ax=some r
def stS {hp:Hp} {ct id o:Nat} {v:Int} {ex:Bool} {l:List Int} (h:o<l.length):gP hp ct id o 1 [.int .i64 v] (some (.cells true true ex 1 (l.map aa)))=some (.az [],aT hp id (.cells true true ex 1 ((l.set o v).map aa)),ct):=by
 rw [od (by rfl) (by simp;omega) (by rfl)]
 have:over o [AV.int .i64 v] (l.map aa)=(l.set o v).map aa:=by
  simp only [over,yy,yO,yg];rw [tT,vX,yA (by simpa using h)]
  simp
 rw [this];rfl
def ot (h:Has P L 124 GH) (b:Bool) (n:Int):aj P L 124 [.bool b,aa n] (aa (if b=true then n else 0)):=by
 unfold aj;rw [aI h]
 cases b with
 | true=>simp only [go_sem,ya,GH,xE]
 | false=>simp only [go_sem,ya,GH];rfl
def Wu (h:Has P L 125 PS) {v:AV} {l:List Int} (hv:bq v l) (hl:l.length<=1000000):aj P L 125 [v] (aa (bH l)):=by
 unfold aj;rw [aI h];simp only [go_sem,ya,PS,hv.len];have key:=N8 (P:=P) (L:=L) (live:=[5,6,7]) (a:=OP)
  (I:=fun k s=>∃tm ct i,s=⟨tm,[],ct,0⟩/\af tm 5=v/\af tm 6=aa l.length/\af tm 7=aa (i:Nat)/\i+k=l.length/\bH (l.drop i)=bH l)
  (Q:=fun ex s=>∃tm,s=⟨tm,[],0,0⟩/\((ex= .ret/\af tm 2=aa (bH l))\/(ex= .exit 0/\bH l=0))) ?_ l.length
 ·generalize hq:D P L (.loop [5,6,7] OP) _=q;obtain ⟨ex,s,rfl,tm,rfl,h2⟩:=bD hq key ⟨_,_,0,rfl,rfl,rfl,rfl,by omega,rfl⟩;rcases h2 with ⟨rfl,h2⟩ | ⟨rfl,h2⟩
  ·simp only [go_sem,h2]
  ·rw [h2];simp only [go_sem]
 ·rintro k s ⟨tm,ct,i,rfl,h5,h6,h7,hk,hf⟩;rw [R0 (by simp only [go_sem,h5,h6,h7,hv.pu])];simp only [go_sem,ya,h5,h6,h7,OP];by_cases hi:i<l.length
  ·have cB:(i:Int)<l.length:=by omega
   rw [R8 hi] at hf;by_cases hz:l[i]=0
   ·left
    simp only [go_sem,ya,cB,hv.bi hi,hz];refine ⟨_,k-1,rfl,by omega,_,_,i+1,rfl,?_⟩;rw [wrap64 (by omega) (by omega)];rw [yA hz] at hf;simp only [go_sem,ya];exact ⟨trivial,trivial,rfl,by omega,hf⟩
   ·right
    simp only [go_sem,ya,cB,hv.bi hi,hz];rw [yo hz] at hf;refine ⟨_,_,rfl,by simp,_,rfl,.inl ⟨rfl,?_⟩⟩;simp only [go_sem,hf]
  ·right
   have cB:¬(i:Int)<l.length:=by omega
   simp only [go_sem,cB];refine ⟨_,_,rfl,by simp,_,rfl,.inr ⟨rfl,?_⟩⟩;rw [<-hf,xe (by omega)];rfl
end
end Nd
def abD (i:Nat):GF i [48,49,50,51,52,53,54,55,56,57]=(yK 48 i&&yK i 57):=by
 by_cases h:48<=i/\i<=57
 ·obtain ⟨h1,h2⟩:=h;obtain ⟨k,rfl⟩:∃k,i=48+k:=⟨i-48,by omega⟩;rcases (show k=0\/k=1\/k=2\/k=3\/k=4\/k=5\/k=6\/k=7\/k=8\/k=9 by omega) with rfl | rfl | rfl | rfl | rfl | rfl | rfl | rfl | rfl | rfl<;>rfl
 ·have e:(yK 48 i&&yK i 57)=false:=by
   cases h1:yK 48 i with
   | false=>rfl
   | true=>
    cases h2:yK i 57 with
    | false=>rfl
    | true=>exact absurd ⟨yB h1,yB h2⟩ h
  rw [e];have ne:∀c,48<=c->c<=57->yz c i=false:=fun c h1 h2=>iO (by omega)
  simp only [GF,ne 48 (by decide) (by decide),ne 49 (by decide) (by decide),ne 50 (by decide) (by decide),ne 51 (by decide) (by decide),ne 52 (by decide) (by decide),ne 53 (by decide) (by decide),ne 54 (by decide) (by decide),ne 55 (by decide) (by decide),ne 56 (by decide) (by decide),ne 57 (by decide) (by decide),yW]
def SL:∀l:List Nat,lV [48,49,50,51,52,53,54,55,56,57] l=[]↔dw l=true
 | []=>by simp [lV,dw]
 | b::r=>by
  simp only [lV,dw,abD]
  cases hb:(yK 48 b&&yK b 57) with
  | true=>simp only [yD,wK];exact SL r
  | false=>simp
def Oc:∀l:List Nat,dw l.reverse=dw l
 | []=>rfl
 | b::r=>by rw [List.reverse_cons,Np,Oc r];simp [dw,Bool.and_comm]
def YL:∀l:List Nat,dw l=false->dw (lV [48,49,50,51,52,53,54,55,56,57] l)=false
 | [],h=>by simp [dw] at h
 | b::r,h=>by
  simp only [lV,abD]
  cases hb:(yK 48 b&&yK b 57) with
  | true=>
   simp only [dw,hb,wK] at h;exact YL r h
  | false=>simp only [yW];exact h
def aqE (p:List Nat):de (lV [48,49,50,51,52,53,54,55,56,57] (lV [48,49,50,51,52,53,54,55,56,57] p.reverse).reverse) []=dw p:=by
 cases hd:dw p with
 | true=>
  have h1:=(SL p.reverse).2 (by rw [Oc];exact hd)
  rw [h1];rfl
 | false=>
  have h1:=YL p.reverse (by rw [Oc];exact hd)
  have h2:dw (lV [48,49,50,51,52,53,54,55,56,57] p.reverse).reverse=false:=by rw [Oc];exact h1
  cases hq:lV [48,49,50,51,52,53,54,55,56,57] (lV [48,49,50,51,52,53,54,55,56,57] p.reverse).reverse with
  | nil=>have:=(SL _).1 hq;rw [h2] at this;exact absurd this (by decide)
  | cons b r=>rfl
def YM:∀(t:List Nat) (k:Nat),nd [47] t k=if bY t<t.length then some (k+bY t) else none
 | [],k=>by simp [nd,ic,bY]
 | b::r,k=>by
  by_cases hb:b=47
  ·subst hb;have e:bY (47::r)=0:=by simp [bY]
   rw [e,yA (by simp)];rfl
  ·have e:bY (b::r)=bY r+1:=by simp [bY,hb]
   have hp:ic [47] (b::r)=false:=by rw [Jc];exact iO (fun e=>hb e.symm)
   rw [e,nd,hp,yW,YM r (k+1)]
   grind
def BR (a b:List Nat):binOp .neq (.str a) (.str b)=some (.bool (!(de a b))):=rfl
structure Ck (P:aM) (L:Lib):Prop extends Tx P L where
 azG:L.pure 128=some NA
 azH:L.pure 162=some trimS
 h86:Has P L 86 fJ
 qV:Has P L 124 GH
 Wv:Has P L 125 PS
 azI:Has P L 129 GI
section
variable {P:aM} {L:Lib}
def ot (h:Has P L 124 GH) (b:Bool) (n:Int):aj P L 124 [.bool b,aa n] (aa (if b=true then n else 0)):=Nd.ot h b n
def aiA (h:Ck P L) {p:List Nat} (hl:p.length<=4000000000):aj P L 129 [.str p] (.bool (dZ p)):=by
 have e1:bK P L (D P L) 162 [.str p,.str [48,49,50,51,52,53,54,55,56,57]]=some (.str (lV [48,49,50,51,52,53,54,55,56,57] (lV [48,49,50,51,52,53,54,55,56,57] p.reverse).reverse)):=by
  rw [jL h.azH];show (bif FP [48,49,50,51,52,53,54,55,56,57]&&(yQ p.length 4294967281&&yQ 10 4294967281) then _ else none)=_
  rw [lY (by omega)];rfl
 have e2:=aqE p;unfold aj;rw [aI h.azI]
 match p,e1,e2 with
 | [],_,_=>
  simp only [go_sem,ya,GI,BR,show de [] []=true from rfl,yR];rfl
 | b::r,e1,e2=>
  have hI:n7 0 (.str (b::r))=some (.int .u8 (b:Nat)):=rfl;have h0:de (b::r) []=false:=rfl;have hd:dZ (b::r)=(dw (b::r)&&(!(yz b 48)||r.isEmpty)):=rfl;rw [hd]
  cases oL:dw (b::r) with
  | false=>
   rw [oL] at e2;simp only [go_sem,ya,GI,BR,h0,yU,e1,mz,e2,wE]
  | true=>
   rw [oL] at e2;by_cases hb:b=48
   ·subst hb;have e3:de (48::r) [48]=r.isEmpty:=by
     cases r with
     | nil=>rfl
     | cons c r=>rfl
    have Xc:n7 0 (.str (48::r))=some (.int .u8 48):=rfl;simp only [go_sem,ya,GI,BR,h0,yU,e1,mz,e2,Xc,yu,yR,e3];rfl
   ·have:yz b 48=false:=iO hb
    rw [this];simp only [go_sem,ya,GI,BR,h0,yU,e1,mz,e2,hI,show ¬((b:Nat):Int)=48 by omega,yv,yU];rfl
def azJ (h:Ck P L) (s:List Nat):bK P L (D P L) 128 [.str s,.str [45]]=some (if s.head? =some 45 then .az [.str s.tail,.bool true] else .az [.str s,.bool false]):=by
 rw [jL h.azG];show some (bif ic [45] s then AV.az [.str (s.drop 1),.bool true] else .az [.str s,.bool false])=_
 cases s with
 | nil=>rfl
 | cons b r=>
  by_cases hb:b=45
  ·subst hb;rfl
  ·have:ic [45] (b::r)=false:=by rw [Jc];exact iO (fun e=>hb e.symm)
   grind
def azK (h:Ck P L) {t:List Nat} (hl:t.length<=4000000000):bK P L (D P L) 109 [.str t,.str [47]]=some (.az [.str (t.take (bY t)),.str (t.drop (bY t+1)),.bool (decide (bY t<t.length))]):=by
 rw [jL h.Wl];show (bif yQ t.length 4294967281 then (match nd [47] t 0 with | some i=>some (AV.az [.str (t.take i),.str (t.drop (i+1)),.bool true]) | none=>some (AV.az [.str t,.str [],.bool false])) else none)=_
 rw [lY (by omega),YM];by_cases hs:bY t<t.length
 ·grind
 ·rw [yo hs,xb hs,yC (by omega),xe (by omega)];rfl
def amW {P:aM} {L:Lib} (a b c d:VC) (s:St):D P L (.seq a (.seq b (.seq c d))) s=kj P L (D P L (.seq a (.seq b c)) s) d:=by
 have e:=Dp (P:=P) (L:=L) b c d;rw [kZ,kZ]
 cases D P L a s with
 | none=>rfl
 | some q=>
  obtain ⟨ex,st⟩:=q
  cases ex with
  | normal=>rw [fN,fN];exact e st
  | ret=>rfl
  | exit id=>rfl
def aox {P:aM} {L:Lib} (a b c d f:VC) (s:St):D P L (.seq a (.seq b (.seq c (.seq d f)))) s=kj P L (D P L (.seq a (.seq b (.seq c d))) s) f:=by
 have e:=amW (P:=P) (L:=L) b c d f;rw [kZ,kZ]
 cases D P L a s with
 | none=>rfl
 | some q=>
  obtain ⟨ex,st⟩:=q
  cases ex with
  | normal=>rw [fN,fN];exact e st
  | ret=>rfl
  | exit id=>rfl
def OF {a b:List Nat} (h:a=b):de a b=true:=by
 subst h
 induction a with
 | nil=>rfl
 | cons x a ih=>simp [de,ih]
def TR {a b:List Nat} (h:a≠b):de a b=false:=by
 cases hb:de a b with
 | false=>rfl
 | true=>
  exact absurd (by
   clear h;revert b
   induction a with
   | nil=>intro b hb;cases b with | nil=>rfl | cons y b=>simp [de] at hb
   | cons x a ih=>
    intro b hb
    cases b with
    | nil=>simp [de] at hb
    | cons y b=>
     simp only [de,yi] at hb
     rw [yt hb.1,ih hb.2]) h
def axK (h:Ck P L) {p q:List Nat} {ok found:Bool} (lp:p.length<=1000000000) (lq:q.length<=1000000000) (jK:ok=true->dZ p=true/\(found=true->dZ q=true)) {tm:Env} (t5:af tm 5= .str p) (t6:af tm 6= .str q) (t7:af tm 7= .bool found) (t8:af tm 8= .bool ok):
  gJ [.t 2] (D P L (aB (aB (aB (aB (aB fJ.body))))) ⟨tm,[],0,0⟩)=some (aa (
   if ok=false then 1
   else if 600<p.length\/600<q.length then 4
   else if found=true/\wW (gn p) (gn q)≠1 then 1
   else 0)):=by
 have w1:=ot h.qV (!ok) 1;have RE:∀a b:Int,aj P L 125 [.aE true 2 [aa a,aa b]] (aa (bH [a,b])):=fun a b=>Nd.Wu h.Wv (kP true [a,b]) (by simp)
 cases ok with
 | false=>
  have f1:=RE 1 0;have f2:=RE 1 4;have w2:=ot h.qV false 4;have w3:=ot h.qV true 4;simp only [yU,xE,yN,xn] at w1 w2 w3;rw [show bH [1,0]=1 by decide] at f1;rw [show bH [1,4]=1 by decide] at f2;unfold aj at w1 w2 w3 f1 f2;by_cases h1:600<p.length
  ·simp only [go_sem,ya,yd,yJ,yp,yh,fJ,aB,show ¬(1:Int)=0 by decide,yU,t5,t8,yU,w1,show (600:Int)<(p.length:Int) by omega,yu,w3,f2,yv]
   simp
  ·by_cases h2:600<q.length
   ·simp only [go_sem,ya,yd,yJ,yp,yh,fJ,aB,show ¬(1:Int)=0 by decide,yU,t5,t6,t8,yU,w1,show ¬(600:Int)<(p.length:Int) by omega,show (600:Int)<(q.length:Int) by omega,yu,yv,w3,f2]
    simp
   ·simp only [go_sem,ya,yd,yJ,yp,yh,fJ,aB,show ¬(1:Int)=0 by decide,yU,t5,t6,t8,yU,w1,show ¬(600:Int)<(p.length:Int) by omega,show ¬(600:Int)<(q.length:Int) by omega,yv,w2,f1]
    simp
 | true=>
  obtain ⟨hp,hq⟩:=jK rfl;have f1:=RE 0 0;have f2:=RE 0 4;have w2:=ot h.qV false 4;have w3:=ot h.qV true 4;have w4:=ot h.qV false 1;have w5:=ot h.qV true 1;simp only [yR,xE,yN,xn] at w1 w2 w3 w4 w5;rw [show bH [0,0]=0 by decide] at f1;rw [show bH [0,4]=4 by decide] at f2;unfold aj at w1 w2 w3 w4 w5 f1 f2;rw [yo (by decide)];by_cases h1:600<p.length
  ·rw [yA (.inl h1)];simp only [go_sem,ya,yd,yJ,yp,yh,fJ,aB,show ¬(4:Int)=0 by decide,yU,t5,t8,yR,w1,show (600:Int)<(p.length:Int) by omega,yu,w3,f2,yv]
  ·by_cases h2:600<q.length
   ·rw [yA (.inr h2)];simp only [go_sem,ya,yd,yJ,yp,yh,fJ,aB,show ¬(4:Int)=0 by decide,yU,t5,t6,t8,yR,w1,show ¬(600:Int)<(p.length:Int) by omega,show (600:Int)<(q.length:Int) by omega,yu,yv,w3,f2]
   ·rw [yo (by omega)]
    cases found with
    | false=>
     rw [yo (by simp)];simp only [go_sem,ya,yd,yJ,yp,yh,fJ,aB,t5,t6,t7,t8,yR,w1,show ¬(600:Int)<(p.length:Int) by omega,show ¬(600:Int)<(q.length:Int) by omega,yu,yv,w2,f1]
    | true=>
     have so:=Fx _ rfl hp;have pW:=Fx _ rfl (hq rfl);generalize gn p=n at*
     generalize gn q=d at*
     subst so;subst pW;obtain ⟨M,hM⟩:∃M:Nat,M=2400:=⟨_,rfl⟩;have bd:∀{m:Nat},(aD m).length<=600->Bd M (m:Int):=fun {m} hm=>by
      have h1:=JF m;have h2:=JI (aD m).length;have h3:(2:Nat)^(4*(aD m).length)<=2^M:=xh (by decide) (by omega);unfold Bd;rw [vD];exact yV h1 (xv h2 h3)
     obtain ⟨x,e1,hx⟩:=LC h.toTx (z:=(n:Int)) (by rw [mw];omega);obtain ⟨y,e2,hy⟩:=LC h.toTx (z:=(d:Int)) (by rw [mw];omega);rw [mw] at e1 e2;have kn:=bd (m:=n) (by omega);have kd:=bd (m:=d) (by omega);obtain ⟨g,e3,hg⟩:=air h.toNu hx hy kn kd (by omega);obtain ⟨e4,WZ⟩:=En h.toNu (z:=1) (by decide) (by decide);have kg:Bd M ((Int.gcd (n:Int) (d:Int):Nat):Int):=by
      rcases xB d with h0 | h0
      ·subst h0;simpa using kn
      ·exact kd.le (by have:=Nat.gcd_le_right n h0;simpa using this)
     have e5:=azt h.toNu hg WZ (K:=M) kg (by unfold Bd;exact Nat.one_lt_two_pow (by omega)) (by omega)
     have azL:Int.gcd (n:Int) (d:Int)=wW n d:=rfl;rw [azL] at e5;obtain ⟨xs,xw,rfl,sr⟩:=hx;obtain ⟨ys,yw,rfl,E3⟩:=hy;obtain ⟨gs,gw,rfl,X6⟩:=hg;obtain ⟨l1,u1⟩:=sr.aQ;obtain ⟨l2,u2⟩:=E3.aQ;obtain ⟨l3,u3⟩:=X6.aQ;by_cases iZ:wW n d=1
     ·rw [yo (by simp [iZ])];have hs:cJ (((wW n d:Nat):Int)-1)=0:=by rw [iZ];rfl
      rw [hs] at e5;simp only [go_sem,ya,yd,yJ,yp,yh,fJ,aB,t5,t6,t7,t8,yR,w1,show ¬(600:Int)<((aD n).length:Int) by omega,show ¬(600:Int)<((aD d).length:Int) by omega,yu,yv,w2,f1,e1,e2,u1.an,u2.an,u3.an,bO,cy,e3,e4,e5]
     ·rw [yA ⟨rfl,iZ⟩];obtain ⟨c,hc,mj⟩:∃c,cJ (((wW n d:Nat):Int)-1)=c/\c≠0:=⟨_,rfl,fun e=>iZ (by
       unfold cJ at e
       split at e
       ·exact absurd e (by decide)
       ·split at e
        ·omega
        ·exact absurd e (by decide))⟩
      rw [hc] at e5;simp only [go_sem,ya,yd,yJ,yp,yh,fJ,aB,yU,t5,t6,t7,t8,yR,w1,show ¬(600:Int)<((aD n).length:Int) by omega,show ¬(600:Int)<((aD d).length:Int) by omega,yu,yv,w2,f1,e1,e2,u1.an,u2.an,u3.an,bO,cy,e3,e4,e5,mj,yU,w5]
def X7 (h:Ck P L) {s:List Nat} (hl:s.length<=1000000000):aj P L 86 [.str s] (aa (bJ s)):=by
 have key:∀(neg:Bool) (t:List Nat),t.length<=1000000000->bK P L (D P L) 128 [.str s,.str [45]]=some (.az [.str t,.bool neg])->aj P L 86 [.str s] (aa (AX neg t)):=by
  intro neg t hl e0;have e1:=azK h (t:=t) (by omega);obtain ⟨k,hk⟩:∃k,k=bY t:=⟨_,rfl⟩;have X8:k<=t.length:=by rw [hk];exact I9 t
  have e2:=aiA h (p:=t.take k) (by rw [yI];omega);have e3:=aiA h (p:=t.drop (k+1)) (by rw [we];omega);have lp:(t.take k).length=k:=by rw [yI];omega
  have lq:(t.drop (k+1)).length=t.length-k-1:=by rw [we];omega
  unfold AX;rw [<-hk] at e1 ⊢;generalize hp:t.take k=p at*
  generalize hq:t.drop (k+1)=q at*
  obtain ⟨C5,zo⟩:∃ok:Bool,ok=(dZ p&&(!neg|| !(de p [48]))):=⟨_,rfl⟩;obtain ⟨ok,jK⟩:∃ok:Bool,ok=(C5&&(!(decide (k<t.length))||(dZ q&&(!(de q [48])&& !(de q [49]))))):=⟨_,rfl⟩
  have GW:(if dZ p=false\/(neg=true/\p=[48]) then 1
    else if k<t.length/\(dZ q=false\/q=[48]\/q=[49]) then 1
    else if 600<k\/600<t.length-k-1 then 4
    else if k<t.length/\wW (gn p) (gn q)≠1 then 1 else 0:Int)=(if ok=false then 1
    else if 600<p.length\/600<q.length then 4
    else if decide (k<t.length)=true/\wW (gn p) (gn q)≠1 then 1
    else 0):=by
   rw [lp,lq];have a1:(dZ p=false\/(neg=true/\p=[48]))↔C5=false:=by
    rw [zo];cases dZ p<;>cases neg<;>simp
    by_cases e:p=[48]
    ·simp [e,OF]
    ·simp [e,TR e]
   have a2:ok=false↔(C5=false\/(k<t.length/\(dZ q=false\/q=[48]\/q=[49]))):=by
    rw [jK];by_cases hs:k<t.length
    ·simp only [hs,yu,yR,vL,tE];cases C5<;>cases dZ q<;>simp
     by_cases e:q=[48]
     ·simp [e,OF]
     ·by_cases e':q=[49]
      ·simp [e',OF]
      ·simp [e,e',TR e,TR e']
    ·simp [hs]
   by_cases h1:C5=false
   ·rw [yA (a1.2 h1),yA (a2.2 (.inl h1))]
   ·rw [yo (fun e=>h1 (a1.1 e))];by_cases h2:k<t.length/\(dZ q=false\/q=[48]\/q=[49])
    ·rw [yA h2,yA (a2.2 (.inr h2))]
    ·rw [yo h2,yo (fun e=>(a2.1 e).elim h1 h2)];simp only [wz]
  rw [GW];have azM:ok=true->dZ p=true/\(decide (k<t.length)=true->dZ q=true):=fun e=>by
   rw [jK,yi] at e;obtain ⟨e1,e2⟩:=e;rw [zo,yi] at e1;refine ⟨e1.1,fun hs=>?_⟩;rw [hs,yR,vL,yi] at e2;exact e2.1
  have tail:∀tm,af tm 5= .str p->af tm 6= .str q->af tm 7= .bool (decide (k<t.length))->af tm 8= .bool ok->gJ [.t 2] (D P L (aB (aB (aB (aB (aB fJ.body))))) ⟨tm,[],0,0⟩)=_:=fun tm t5 t6 t7 t8=>
   axK h (by omega) (by omega) azM t5 t6 t7 t8
  have mid:∀tm,af tm 5= .str p->af tm 6= .str q->af tm 7= .bool (decide (k<t.length))->af tm 8= .bool C5->
    ∃tm',D P L (bw (aB (aB (aB (aB fJ.body))))) ⟨tm,[],0,0⟩=some (.normal,⟨tm',[],0,0⟩)/\af tm' 5= .str p/\af tm' 6= .str q/\af tm' 7= .bool (decide (k<t.length))/\af tm' 8= .bool ok:=fun tm t5 t6 t7 t8=>by
   unfold aj at e3;by_cases hs:k<t.length
   ·rw [xq hs] at t7 jK ⊢;simp only [yR,vL] at jK
    cases C5 with
    | false=>
     rw [wE] at jK;subst jK;refine ⟨_,by simp only [go_sem,ya,fJ,bw,aB,t7,t8]<;>rfl,?_⟩
     simp only [go_sem,ya,t5,t6,t7,tE]
    | true=>
     rw [wK] at jK
     cases hd:dZ q with
     | false=>
      rw [hd] at e3 jK;rw [wE] at jK;subst jK;refine ⟨_,by simp only [go_sem,ya,fJ,bw,aB,t6,t7,t8,e3]<;>rfl,?_⟩
      simp only [go_sem,ya,t5,t6,t7,tE]
     | true=>
      rw [hd] at e3 jK;rw [wK] at jK
      cases jX:de q [48] with
      | true=>
       rw [jX,yR,wE] at jK;subst jK;refine ⟨_,by simp only [go_sem,ya,fJ,bw,aB,t6,t7,t8,e3,BR,jX,yR]<;>rfl,?_⟩
       simp only [go_sem,ya,t5,t6,t7,tE]
      | false=>
       rw [jX,yU,wK] at jK;subst jK;refine ⟨_,by simp only [go_sem,ya,fJ,bw,aB,t6,t7,t8,e3,BR,jX,yU]<;>rfl,?_⟩
       simp only [go_sem,ya,t5,t6,t7,tE]
   ·rw [xb hs] at t7 jK ⊢;simp only [yU,tU,Bool.and_true] at jK;subst jK;refine ⟨_,by simp only [go_sem,fJ,bw,aB,t7]<;>rfl,?_⟩
    simp only [go_sem,ya,t5,t6,t7,t8,tE]
  have fin:∀tm,af tm 5= .str p->af tm 6= .str q->af tm 7= .bool (decide (k<t.length))->af tm 8= .bool C5->
    D P L (.seq (bw fJ.body) (.seq (bw (aB fJ.body)) (.seq (bw (aB (aB fJ.body))) (bw (aB (aB (aB fJ.body))))))) ⟨[(0,.str s)],[],0,0⟩=some (.normal,⟨tm,[],0,0⟩)->aj P L 86 [.str s] _:=fun tm t5 t6 t7 t8 e=>by
   obtain ⟨tm',e',f5,f6,f7,f8⟩:=mid tm t5 t6 t7 t8;unfold aj;rw [aI h.h86];show gJ [.t 2] (D P L (.seq (bw fJ.body) (.seq (bw (aB fJ.body)) (.seq (bw (aB (aB fJ.body))) (.seq (bw (aB (aB (aB fJ.body)))) (.seq (bw (aB (aB (aB (aB fJ.body))))) (aB (aB (aB (aB (aB fJ.body)))))))))) ⟨[(0,.str s)],[],0,0⟩)=_
   rw [aox,e,fN,kZ,e',fN];exact tail tm' f5 f6 f7 f8
  unfold aj at e2
  cases hd:dZ p with
  | false=>
   rw [hd] at e2 zo;rw [wE] at zo;subst zo;refine fin _ ?_ ?_ ?_ ?_ (by simp only [go_sem,ya,fJ,bw,aB,e0,e1,e2]<;>rfl)<;>simp only [go_sem,ya]
  | true=>
   rw [hd] at e2 zo
   cases neg with
   | false=>
    simp only [yU,tU] at zo;subst zo;refine fin _ ?_ ?_ ?_ ?_ (by simp only [go_sem,ya,fJ,bw,aB,e0,e1,e2,yU]<;>rfl)<;>simp only [go_sem,ya]
   | true=>
    simp only [yR,vL] at zo;subst zo;refine fin _ ?_ ?_ ?_ ?_ (by simp only [go_sem,ya,fJ,bw,aB,e0,e1,e2,yR,BR]<;>rfl)<;>simp only [go_sem,ya]
 unfold bJ;have e0:=azJ h s
 cases s with
 | nil=>exact key false [] (by simp) e0
 | cons b r=>
  by_cases hb:b=45
  ·subst hb;exact key true r (by simp at hl;omega) e0
  ·simp only [hb,xn];rw [yo (by simpa using hb)] at e0;exact key false (b::r) hl e0
end
def LN (z:Int):Bool:=decide (600<(aD z.natAbs).length)
def LG (r:Rat):Bool:=LN r.num||LN (r.den:Int)
def amX {m B k:Nat} (hB:B<=3*k) (hk:0<k) (h:m<2^B):(aD m).length<=k:=by
 obtain ⟨j,rfl⟩:∃j,k=j+1:=⟨k-1,by omega⟩;refine sG (yV h (xv (xh (by decide) hB) ?_));rw [tK];exact ue (by decide) _
def TS:∀f n:Nat,eX f n<=f
 | 0,_=>yq _
 | f+1,n=>by
  unfold eX
  cases yz n 0 with
  | true=>exact Nat.zero_le _
  | false=>have:=TS f (n/2);simp only [yW];omega
def avQ {P:aM} {L:Lib} {f:cG} (h:L.pure 175=some JR) {x:Nat} (hx:x<18446744073709551616):bK P L f 175 [uc x]=some (aa (eX 64 x:Nat)):=by
 rw [jL h];show (bif yQ x 18446744073709551616 then _ else none)=_
 rw [lY hx];rfl
def asG {V n top low:Nat} (hn:0<n) (h0:0<top) (ht:top<18446744073709551616) (hV:V=low+18446744073709551616^(n-1)*top) (hl:low<18446744073709551616^(n-1)):V<2^(64*(n-1)+eX 64 top):=by
 obtain ⟨l1,l2,l3⟩:=Tg h0 ht;have hle:=TS 64 top;have h1:top<2^eX 64 top:=by
  have e:(18446744073709551616:Nat)=2^eX 64 top*2^(64-eX 64 top):=by rw [<-wZ,show eX 64 top+(64-eX 64 top)=64 by omega]
  rw [e] at l3;exact Nat.lt_of_mul_lt_mul_right l3
 have h3:=y8 (18446744073709551616^(n-1)) (show top+1<=2^eX 64 top from h1);rw [wZ,tK]
 grind
section
variable {P:aM} {L:Lib}
def aqF (K:Nat):2^K<=18446744073709551616^(K/64+1):=by
 rw [show (18446744073709551616:Nat)=2^64 from rfl,<-tK];exact xh (by decide) (by omega)
def axL (h:Tx P L) {v:AV} {z:Int} {K:Nat} (hv:cP v z) (hz:Bd K z) (hK:K<=4000000000):∃B:Nat,aj P L 172 [v] (aa B)/\z.natAbs<2^B/\B<=K+64:=by
 obtain ⟨s,w,rfl,hn⟩:=hv;obtain ⟨l,u⟩:=hn.aQ;obtain ⟨r,e1,hr⟩:=AU h.toNu hn;obtain ⟨ws,hw,g,nz',hb⟩:=hr;have hl:ws.length<=K/64+1:=pz nz' hb (yV hz (aqF K));unfold aj at e1 ⊢;by_cases h0:ws=[]
 ·subst h0;have mR:z.natAbs=0:=by rw [<-hb];rfl
  refine ⟨0,?_,by rw [mR];decide,by omega⟩
  rw [aI h.aiu];simp only [go_sem,ya,yd,P0,bc,cz,cy,u.pu,u.an,u.one,e1,hw.len,yO,show ((0:Nat):Int)=0 from rfl,yu]
 ·have hp:0<ws.length:=List.length_pos_iff.2 h0;have Cd:=N7 nz' h0;have EU:=iy (show 0<18446744073709551616 by decide) g (ws.length-1);have ei:=hw.bi (i:=ws.length-1) (by omega);have eI:=jP (b:=18446744073709551616) (l:=ws) (ws.length-1);have LD:=nj (BQ g (ws.length-1));rw [yI,xt (by omega)] at LD;rw [show ws.length-1+1=ws.length by omega,yC (yq _)] at eI;generalize ws.getD (ws.length-1) 0=top at*
  have e2:=avQ (P:=P) (f:=D P L) h.azz EU;have hle:=TS 64 top;have agY:=asG hp (Nat.pos_of_ne_zero Cd) EU eI LD;rw [hb] at agY;refine ⟨64*(ws.length-1)+eX 64 top,?_,agY,by omega⟩;rw [aI h.aiu]
  simp only [go_sem,ya,yd,P0,bc,cz,cy,u.pu,u.an,u.one,e1,hw.len,show ¬(ws.length:Int)=0 by omega,show (ws.length:Int)-1=((ws.length-1:Nat):Int) by omega,wrapN (n:=ws.length-1) (by omega),show (64:Int)*((ws.length-1:Nat):Int)=((64*(ws.length-1):Nat):Int) by omega,wrapN (n:=64*(ws.length-1)) (by omega),ei,e2,show ((64*(ws.length-1):Nat):Int)+((eX 64 top:Nat):Int)=((64*(ws.length-1)+eX 64 top:Nat):Int) from rfl,wrapN (n:=64*(ws.length-1)+eX 64 top) (by omega)]
def azN (h:Tx P L) {v:AV} {z:Int} {K:Nat} (hv:cP v z) (hz:Bd K z) (hK:K<=4000000000):∃B:Nat,aj P L 172 [v] (aa B)/\z.natAbs<2^B/\B<=300000000000:=by
 obtain ⟨B,h1,h2,h3⟩:=axL h hv hz hK;exact ⟨B,h1,h2,by omega⟩
def aoy (z:Int):(if ic [45] (aY z)=true then (aY z).drop 1 else aY z)=aD z.natAbs:=by
 by_cases h:z<0
 ·rw [nV h];rfl
 ·obtain ⟨m,rfl⟩:∃m:Nat,z=m:=⟨z.toNat,by omega⟩;rw [mw];obtain ⟨b,r,hb,h1,_⟩:=Fw m;rw [vD,hb,SK h1];rfl
def aiB (h:Tx P L) {v:AV} {z:Int} {K:Nat} (hv:cP v z) (hz:Bd K z) (hK:K<=4000000000):aj P L 151 [v] (.bool (LN z)):=by
 obtain ⟨B,e1,hB,hBb⟩:=azN h hv hz hK;have e2:=X0 h hv hz hK;obtain ⟨s,w,rfl,hn⟩:=hv;obtain ⟨l,u⟩:=hn.aQ;have e3:bK P L (D P L) 153 [.str (aY z),.str [45]]=some (.str (aD z.natAbs)):=by
  rw [jL h.Wj,<-aoy];show some (AV.str (bif ic [45] (aY z) then (aY z).drop 1 else aY z))=_
  cases ic [45] (aY z)<;>rfl
 unfold aj at e1 e2 ⊢;rw [aI h.azA];unfold LN;by_cases h1:1800<B
 ·simp only [go_sem,ya,yd,PV,bc,cz,cy,u.pu,u.an,u.one,e1,show (1800:Int)<(B:Int) by omega,yu,e2,e3];by_cases h2:600<(aD z.natAbs).length
  ·rw [xq h2,xq (by omega)]
  ·rw [xb h2,xb (by omega)]
 ·have h2:=amX (k:=600) (by omega) (by decide) hB;rw [xb (by omega)];simp only [go_sem,ya,yd,PV,bc,cz,cy,u.pu,u.an,u.one,e1,show ¬(1800:Int)<(B:Int) by omega,yv]
def azO (h:Tx P L) {v:AV} {a:Rat} {K:Nat} (hv:dh v a) (ka:Hq K a) (hK:K<=4000000000):aj P L 107 [v] (.bool (LG a)):=by
 obtain ⟨s1,w1,s2,w2,rfl,h1,h2⟩:=hv;have e1:=aiB h ⟨s1,w1,rfl,h1⟩ ka.1 hK;have e2:=aiB h ⟨s2,w2,rfl,h2⟩ ka.2 hK;obtain ⟨l1,u1⟩:=h1.aQ;obtain ⟨l2,u2⟩:=h2.aQ;unfold aj at e1 e2 ⊢;rw [aI h.azB];unfold LG
 cases hb:LN a.num with
 | true=>
  rw [hb] at e1;simp only [go_sem,ya,yd,PP,bc,b7,yg,cz,cy,u1.pu,u1.an,u1.one,u2.pu,u2.one,e1];rfl
 | false=>
  rw [hb] at e1;simp only [go_sem,ya,yd,PP,bc,b7,yg,show vh 2 [aa s1,w1,aa s2,w2]=[aa s2,w2] from rfl,cz,cy,u1.pu,u1.an,u1.one,u2.pu,u2.an,u2.one,e1,e2];rfl
end
def aoz (p s:Nat):p*(s%1000000000)+p*1000000000*(s/1000000000)=p*s:=by
 rw [xx,<-xK,Nat.mod_add_div]
def Jm {l:List Int} {i:Nat} (h:l.length<=i):l.getD i 0=0:=by simp_all
def aqG {a b out:List Int} {i c:Nat} {x y:Int} (hx:x=a.getD i 0) (hy:y=b.getD i 0) (h1:0<=x) (h2:0<=y) (hl:out.length=i) (hv:dv out+1000000000^i*c=dv (a.take i)+dv (b.take i)):
  dv (out++[(((x.toNat+y.toNat+c)%1000000000:Nat):Int)])+1000000000^(i+1)*((x.toNat+y.toNat+c)/1000000000)=dv (a.take (i+1))+dv (b.take (i+1)):=by
 rw [qu,qu,nU,hl,<-hx,<-hy];simp only [dv,wq,xM,y7,xi]
 have:=aoz (1000000000^i) (x.toNat+y.toNat+c)
 grind
section
variable {P:aM} {L:Lib}
def avR (ow:Has P L 302 zd) {v w:AV} {a b:List Int} (hv:bq v a) (hw:bq w b) (ha:dg a) (hb:dg b) {N:Nat} (la:a.length<=N) (lb:b.length<=N) (lN:N<=20000000000):
  ∀k s,(∃(i c:Nat) (out:List Int),2*(N-i)+c=k/\out.length=i/\c<=1/\dg out/\dv out+1000000000^i*c=dv (a.take i)+dv (b.take i)/\i<=N+1/\(i<=N\/c=0)/\
    ((i=0/\aG [0,1,5,6,7] s=⟨[(0,v),(1,w),(5,.ab),(6,aa c),(7,aa i)],[],0,0⟩)\/
    (0<i/\aG [0,1,5,6,7] s=⟨[(0,v),(1,w),(5,.ak 0 0 i),(6,aa c),(7,aa i)],[(0,.cells true true false 1 (out.map aa))],1,0⟩)))->
   ∃ex s',D P L (.loop [0,1,5,6,7] qD) s=some (ex,s')/\∃tm out,ex= .exit 0/\dg out/\dv out=dv a+dv b/\out.length<=N+1/\((out=[]/\af tm 5= .ab/\s'=⟨tm,[],0,0⟩)\/(0<out.length/\af tm 5= .ak 0 0 out.length/\s'=⟨tm,[(0,.cells true true false 1 (out.map aa))],1,0⟩)):=by
 intro dq sq;generalize bh:aG [0,1,5,6,7] sq=s0;revert bh s0 sq dq;apply dj;rintro k s ⟨i,c,out,hk,hlen,hc,oL,aR,hi,zB,hs⟩;have e1:=V3 ow hv i;have e2:=V3 ow hw i;unfold aj at e1 e2;have ga:=iQ ha i;have gb:=iQ hb i;by_cases zN:i<a.length\/i<b.length\/0<c
 ·left
  obtain ⟨x,hx⟩:∃x,x=a.getD i 0:=⟨_,rfl⟩;obtain ⟨y,hy⟩:∃y,y=b.getD i 0:=⟨_,rfl⟩;rw [<-hx] at e1 ga;rw [<-hy] at e2 gb;have lZ:=aqG (c:=c) hx hy ga.1 gb.1 hlen aR;obtain ⟨s0,A4⟩:∃s0,s0=x.toNat+y.toNat+c:=⟨_,rfl⟩;rw [<-A4] at lZ;have Cz:x+y+(c:Int)=(s0:Int):=by omega
  have hs9:s0<2000000000:=by omega
  have hr:((s0:Nat):Int).tmod 1000000000=((s0%1000000000:Nat):Int):=by rw [wF (by omega)];rfl
  have hq:((s0:Nat):Int).tdiv 1000000000=((s0/1000000000:Nat):Int):=by rw [wG (by omega)];rfl
  have fV:s0/1000000000<=1:=by omega
  have axM:2*(N-(i+1))+s0/1000000000<k:=by
   by_cases hm:i<N
   ·omega
   ·have:c=1:=by omega
    have Bh:x=0:=by rw [hx];exact Jm (by omega)
    have kH:y=0:=by rw [hy];exact Jm (by omega)
    subst Bh;subst kH
    have:s0=1:=by rw [A4,this];rfl
    subst this;omega
  have G2:dg (out++[((s0%1000000000:Nat):Int)]):=iM.2 ⟨oL,mA.2 (by omega)⟩;have U8:(out++[((s0%1000000000:Nat):Int)]).length=i+1:=by simp [hlen]
  have azP:i+1<=N\/s0/1000000000=0:=by
   by_cases hm:i<N
   ·exact .inl hm
   ·right
    have:c=1:=by omega
    have Bh:x=0:=by rw [hx];exact Jm (by omega)
    have kH:y=0:=by rw [hy];exact Jm (by omega)
    subst Bh;subst kH
    have:s0=1:=by rw [A4,this];rfl
    subst this;rfl
  have fin:∃s',D P L qD s=some (.normal,s')/\aG [0,1,5,6,7] s'=⟨[(0,v),(1,w),(5,.ak 0 0 (i+1)),(6,aa (s0/1000000000:Nat)),(7,aa (i+1:Nat))],[(0,.cells true true false 1 ((out++[((s0%1000000000:Nat):Int)]).map aa))],1,0⟩:=by
   have three:((i:Int)<a.length)\/(¬(i:Int)<a.length/\(i:Int)<b.length)\/(¬(i:Int)<a.length/\¬(i:Int)<b.length/\(0:Int)<c):=by omega
   rcases three with t1 | ⟨t1,t2⟩ | ⟨t1,t2,t3⟩
   ·rcases hs with ⟨h0,rfl⟩ | ⟨h0,rfl⟩
    ·subst h0;have nC:out=[]:=yF hlen;subst nC
     simp only [go_sem,ya,yd,xj,yJ,yp,yh,qD,hv.len,hv.an,hw.an,t1,e1,e2,wrap64 (n:=x+y) (by omega) (by omega),Cz,wrap64 (n:=(s0:Int)) (by omega) (by omega),jt _ _ _ (show (1000000000:Int)≠0 by decide),hZ _ _ _ (show (1000000000:Int)≠0 by decide),hr,hq,wrap64 (n:=((s0/1000000000:Nat):Int)) (by omega) (by omega),fY];refine ⟨_,rfl,?_⟩;rw [wrap64 (by omega) (by omega)];simp only [go_sem,ya,yd,aw,aq hv.pu,au _ hv.pu,aq hw.pu,au _ hw.pu]<;>rfl
    ·simp only [go_sem,ya,yd,yp,yh,qD,hv.len,hv.an,hw.an,t1,e1,e2,wrap64 (n:=x+y) (by omega) (by omega),Cz,wrap64 (n:=(s0:Int)) (by omega) (by omega),jt _ _ _ (show (1000000000:Int)≠0 by decide),hr]
     rw [fA (ex:=false) (pu:=true) (cs:=out.map aa) (by simp only [go_sem,ya]) (by rw [yk,hlen,yh]) (by omega) (by omega) (by decide) (by simp only [go_sem])]
     simp only [go_sem,ya,yd,hZ _ _ _ (show (1000000000:Int)≠0 by decide),hq,wrap64 (n:=((s0/1000000000:Nat):Int)) (by omega) (by omega)];refine ⟨_,rfl,?_⟩;rw [wrap64 (by omega) (by omega),xg];simp only [go_sem,ya,yd,aw,aq hv.pu,au _ hv.pu,aq hw.pu,au _ hw.pu]<;>rfl
   ·rcases hs with ⟨h0,rfl⟩ | ⟨h0,rfl⟩
    ·subst h0;have nC:out=[]:=yF hlen;subst nC
     simp only [go_sem,ya,yd,xj,yJ,yp,yh,qD,hv.len,hv.an,hw.len,hw.an,t1,t2,e1,e2,wrap64 (n:=x+y) (by omega) (by omega),Cz,wrap64 (n:=(s0:Int)) (by omega) (by omega),jt _ _ _ (show (1000000000:Int)≠0 by decide),hZ _ _ _ (show (1000000000:Int)≠0 by decide),hr,hq,wrap64 (n:=((s0/1000000000:Nat):Int)) (by omega) (by omega),fY];refine ⟨_,rfl,?_⟩;rw [wrap64 (by omega) (by omega)];simp only [go_sem,ya,yd,aw,aq hv.pu,au _ hv.pu,aq hw.pu,au _ hw.pu]<;>rfl
    ·simp only [go_sem,ya,yd,yp,yh,qD,hv.len,hv.an,hw.len,hw.an,t1,t2,e1,e2,wrap64 (n:=x+y) (by omega) (by omega),Cz,wrap64 (n:=(s0:Int)) (by omega) (by omega),jt _ _ _ (show (1000000000:Int)≠0 by decide),hr]
     rw [fA (ex:=false) (pu:=true) (cs:=out.map aa) (by simp only [go_sem,ya]) (by rw [yk,hlen,yh]) (by omega) (by omega) (by decide) (by simp only [go_sem])]
     simp only [go_sem,ya,yd,hZ _ _ _ (show (1000000000:Int)≠0 by decide),hq,wrap64 (n:=((s0/1000000000:Nat):Int)) (by omega) (by omega)];refine ⟨_,rfl,?_⟩;rw [wrap64 (by omega) (by omega),xg];simp only [go_sem,ya,yd,aw,aq hv.pu,au _ hv.pu,aq hw.pu,au _ hw.pu]<;>rfl
   ·rcases hs with ⟨h0,rfl⟩ | ⟨h0,rfl⟩
    ·subst h0;have nC:out=[]:=yF hlen;subst nC
     simp only [go_sem,ya,yd,xj,yJ,yp,yh,qD,hv.len,hv.an,hw.len,hw.an,t1,t2,t3,e1,e2,wrap64 (n:=x+y) (by omega) (by omega),Cz,wrap64 (n:=(s0:Int)) (by omega) (by omega),jt _ _ _ (show (1000000000:Int)≠0 by decide),hZ _ _ _ (show (1000000000:Int)≠0 by decide),hr,hq,wrap64 (n:=((s0/1000000000:Nat):Int)) (by omega) (by omega),fY];refine ⟨_,rfl,?_⟩;rw [wrap64 (by omega) (by omega)];simp only [go_sem,ya,yd,aw,aq hv.pu,au _ hv.pu,aq hw.pu,au _ hw.pu]<;>rfl
    ·simp only [go_sem,ya,yd,yp,yh,qD,hv.len,hv.an,hw.len,hw.an,t1,t2,t3,e1,e2,wrap64 (n:=x+y) (by omega) (by omega),Cz,wrap64 (n:=(s0:Int)) (by omega) (by omega),jt _ _ _ (show (1000000000:Int)≠0 by decide),hr]
     rw [fA (ex:=false) (pu:=true) (cs:=out.map aa) (by simp only [go_sem,ya]) (by rw [yk,hlen,yh]) (by omega) (by omega) (by decide) (by simp only [go_sem])]
     simp only [go_sem,ya,yd,hZ _ _ _ (show (1000000000:Int)≠0 by decide),hq,wrap64 (n:=((s0/1000000000:Nat):Int)) (by omega) (by omega)];refine ⟨_,rfl,?_⟩;rw [wrap64 (by omega) (by omega),xg];simp only [go_sem,ya,yd,aw,aq hv.pu,au _ hv.pu,aq hw.pu,au _ hw.pu]<;>rfl
  obtain ⟨s',f1,f2⟩:=fin;exact ⟨s',_,f1,axM,i+1,s0/1000000000,_,rfl,U8,fV,G2,lZ,by omega,azP,.inr ⟨by omega,f2⟩⟩
 ·right
  have mj:c=0:=by omega
  subst mj;rw [xM,y7,yC (by omega),yC (by omega)] at aR;rcases hs with ⟨h0,rfl⟩ | ⟨h0,rfl⟩
  ·simp only [go_sem,ya,qD,hv.len,hw.len,show ¬(i:Int)<a.length by omega,show ¬(i:Int)<b.length by omega,show ¬(0:Int)<((0:Nat):Int) by omega];exact ⟨_,_,rfl,by simp,_,out,rfl,oL,aR,by omega,.inl ⟨yF (by omega),by simp only [go_sem,ya],rfl⟩⟩
  ·simp only [go_sem,ya,qD,hv.len,hw.len,show ¬(i:Int)<a.length by omega,show ¬(i:Int)<b.length by omega,show ¬(0:Int)<((0:Nat):Int) by omega];exact ⟨_,_,rfl,by simp,_,out,rfl,oL,aR,by omega,.inr ⟨by omega,by rw [hlen];simp only [go_sem,ya],rfl⟩⟩
def azQ (h:Has P L 295 Ll) (ow:Has P L 302 zd) {v w:AV} {a b:List Int} (hv:bq v a) (hw:bq w b) (ha:dg a) (hb:dg b) (la:a.length<=20000000000) (lb:b.length<=20000000000):
  ∃r out,aj P L 295 [v,w] r/\bq (shut r) out/\dg out/\dv out=dv a+dv b/\out.length<=max a.length b.length+1:=by
 have jB:∃out,aj P L 295 [v,w] (if out=[] then .ab else .bV false 1 out.length (out.map aa))/\dg out/\dv out=dv a+dv b/\out.length<=max a.length b.length+1:=by
  unfold aj;rw [aI h];simp only [go_sem,Ll];generalize hq:D P L (.loop [0,1,5,6,7] qD) _=q;obtain ⟨ex,s,rfl,tm,out,rfl,hd,aR,hl,hs⟩:=bD hq (avR (P:=P) (L:=L) ow hv hw ha hb (N:=max a.length b.length) (by omega) (by omega) (by omega) (2*(max a.length b.length))) ⟨0,0,[],by omega,rfl,by omega,rfl,by simp [dv],by omega,.inr rfl,.inl ⟨rfl,by simp only [go_sem,ya,aw,aq hv.pu,au _ hv.pu,aq hw.pu,au _ hw.pu]<;>rfl⟩⟩
  refine ⟨out,?_,hd,aR,hl⟩;rcases hs with ⟨h0,h5,rfl⟩ | ⟨h0,h5,rfl⟩
  ·rw [yA h0];simp only [go_sem,aw,h5]
  ·rw [yo (by intro e;subst e;simp at h0)];simp only [go_sem,yd,aw,h5];exact p9 (ej _ _ _) (by simp) (by decide)
 obtain ⟨out,g1,g2,g3,g4⟩:=jB;refine ⟨_,out,g1,?_,g2,g3,g4⟩
 split
 ·rename_i e;subst e;exact rI
 ·exact kP false out
def Ww (h:Has P L 296 zc) {v w:AV} {a b:List Int} (hv:bq v a) (hw:bq w b) (ha:dg a) (hb:dg b) (na:nz a) (nb:nz b) (la:a.length<=20000000000) (lb:b.length<=20000000000):
  aj P L 296 [v,w] (aa (dY (dv a) (dv b))):=by
 unfold aj;rw [aI h];by_cases hlen:a.length=b.length
 ·have key:=fk (P:=P) (L:=L) (live:=[0,1,5]) (a:=DL)
   (I:=fun k st=>∃j:Nat,st=⟨[(0,v),(1,w),(5,aa ((j:Int)-1))],[],0,0⟩/\j<=a.length/\j=k/\a.drop j=b.drop j)
   (Q:=fun ex st=>∃tm ct,st=⟨tm,[],ct,0⟩/\((ex= .ret/\af tm 4=aa (dY (dv a) (dv b)))\/(ex= .exit 0/\a=b))) ?_
  ·simp only [go_sem,ya,zc,hv.len,hw.len,show (a.length:Int)=b.length by omega];generalize hq:D P L (.loop [0,1,5] DL) _=q;obtain ⟨ex,st,rfl,tm,ct,rfl,h2⟩:=bD hq (key a.length) ⟨a.length,by
    rw [wrap64 (by omega) (by omega)];rw [hlen]
    simp only [go_sem,ya,aw,aq hv.pu,au _ hv.pu,aq hw.pu,au _ hw.pu]<;>rfl,yq _,rfl,by rw [xe (yq _),xe (by omega)]⟩
   rcases h2 with ⟨rfl,h2⟩ | ⟨rfl,h2⟩
   ·simp only [go_sem,h2]
   ·simp only [go_sem,aw];subst h2;simp [dY]
  ·rintro k st ⟨j,rfl,hj,rfl,he⟩
   cases j with
   | zero=>
    right
    simp only [go_sem,ya,DL,show ¬(0:Int)<=((0:Nat):Int)-1 by omega];exact ⟨_,_,rfl,by simp,_,_,rfl,.inr ⟨rfl,by simpa using he⟩⟩
   | succ i=>
    have h1:i<a.length:=by omega
    have h2:i<b.length:=by omega
    have Hk:=acE ha hb h1 h2 he;have aU:=acE hb ha h2 h1 he.symm;by_cases c1:a[i]<b[i]
    ·right
     simp only [go_sem,ya,DL,show ((i+1:Nat):Int)-1=(i:Int) by omega,show (0:Int)<=(i:Int) by omega,hv.bi h1,hw.bi h2,c1];refine ⟨_,_,rfl,by simp,_,_,rfl,.inl ⟨rfl,?_⟩⟩;simp only [go_sem];unfold dY;rw [yA (Hk c1)]
    ·by_cases c2:b[i]<a[i]
     ·right
      simp only [go_sem,ya,DL,show ((i+1:Nat):Int)-1=(i:Int) by omega,show (0:Int)<=(i:Int) by omega,hv.bi h1,hw.bi h2,c1,c2];refine ⟨_,_,rfl,by simp,_,_,rfl,.inl ⟨rfl,?_⟩⟩;simp only [go_sem];unfold dY;rw [yo (by omega),yA (by omega)]
     ·left
      simp only [go_sem,ya,DL,show ((i+1:Nat):Int)-1=(i:Int) by omega,show (0:Int)<=(i:Int) by omega,hv.bi h1,hw.bi h2,c1,c2];refine ⟨_,i,rfl,by omega,i,?_,by omega,rfl,?_⟩
      ·rw [wrap64 (by omega) (by omega)];simp only [go_sem,ya,aw,aq hv.pu,au _ hv.pu,aq hw.pu,au _ hw.pu]<;>rfl
      ·rw [yP h1,yP h2,he,show a[i]=b[i] by omega]
 ·by_cases c1:a.length<b.length
  ·have:=Um ha nb hb c1
   simp only [go_sem,ya,zc,hv.len,hw.len,show ¬(a.length:Int)=b.length by omega,show (a.length:Int)<b.length by omega];unfold dY;rw [yA this]
  ·have:=Um hb na ha (show b.length<a.length by omega)
   simp only [go_sem,ya,zc,hv.len,hw.len,show ¬(a.length:Int)=b.length by omega,show ¬(a.length:Int)<b.length by omega];unfold dY;rw [yo (by omega),yA this]
def aqH {a b out:List Int} {i c:Nat} {x y z:Int} {c':Nat} (hx:x=a.getD i 0) (hy:y=b.getD i 0) (h1:0<=x) (h2:0<=y) (h3:0<=z) (hz:z=x-y-c+1000000000*c') (hl:out.length=i) (hv:dv out+dv (b.take i)=dv (a.take i)+1000000000^i*c):
  dv (out++[z])+dv (b.take (i+1))=dv (a.take (i+1))+1000000000^(i+1)*c':=by
 rw [qu,qu,nU,hl,<-hx,<-hy];simp only [dv,xM,y7,xi];have e:z.toNat+y.toNat+c=x.toNat+1000000000*c':=by omega
 grind
def avS (ow:Has P L 302 zd) {v w:AV} {a b:List Int} (hv:bq v a) (hw:bq w b) (ha:dg a) (hb:dg b) (la:a.length<=20000000000) (hle:dv b<=dv a) (E1:b.length<=a.length):
  ∀k s,(∃(i c:Nat) (out:List Int),i+k=a.length/\out.length=i/\c<=1/\dg out/\dv out+dv (b.take i)=dv (a.take i)+1000000000^i*c/\
    ((i=0/\aG [0,1,5,6,7] s=⟨[(0,v),(1,w),(5,.ab),(6,aa c),(7,aa i)],[],0,0⟩)\/
    (0<i/\aG [0,1,5,6,7] s=⟨[(0,v),(1,w),(5,.ak 0 0 i),(6,aa c),(7,aa i)],[(0,.cells true true false 1 (out.map aa))],1,0⟩)))->
   ∃ex s',D P L (.loop [0,1,5,6,7] sO) s=some (ex,s')/\∃tm out,ex= .exit 0/\dg out/\dv out+dv b=dv a/\out.length<=20000000000/\((out=[]/\af tm 5= .ab/\s'=⟨tm,[],0,0⟩)\/(0<out.length/\af tm 5= .ak 0 0 out.length/\s'=⟨tm,[(0,.cells true true false 1 (out.map aa))],1,0⟩)):=by
 intro dq sq;generalize bh:aG [0,1,5,6,7] sq=s0;revert bh s0 sq dq;apply dj;rintro k s ⟨i,c,out,hk,hlen,hc,oL,aR,hs⟩;have e2:=V3 ow hw i;unfold aj at e2;have ga:=iQ ha i;have gb:=iQ hb i;by_cases zN:i<a.length
 ·left
  obtain ⟨x,hx⟩:∃x,x=a.getD i 0:=⟨_,rfl⟩;obtain ⟨y,hy⟩:∃y,y=b.getD i 0:=⟨_,rfl⟩;have sr:a[i]=x:=by rw [hx];simp [yM,y9 zN]
  have e1:=hv.bi zN;rw [sr] at e1;rw [<-hx] at ga;rw [<-hy] at e2 gb;obtain ⟨z,c',hz,fV,mR,jE,nk⟩:∃(z:Int) (c':Nat),z=x-y-c+1000000000*c'/\c'<=1/\0<=z/\z<1000000000/\((x-y-c<0/\c'=1)\/(¬x-y-c<0/\c'=0)):=by
   by_cases h:x-y-c<0
   ·exact ⟨x-y-c+1000000000,1,by omega,by omega,by omega,by omega,.inl ⟨h,rfl⟩⟩
   ·exact ⟨x-y-c,0,by omega,by omega,by omega,by omega,.inr ⟨h,rfl⟩⟩
  have lZ:=aqH hx hy ga.1 gb.1 mR hz hlen aR;have G2:dg (out++[z]):=iM.2 ⟨oL,mA.2 ⟨mR,jE⟩⟩;have U8:(out++[z]).length=i+1:=by simp [hlen]
  have fin:∃s',D P L sO s=some (.normal,s')/\aG [0,1,5,6,7] s'=⟨[(0,v),(1,w),(5,.ak 0 0 (i+1)),(6,aa c'),(7,aa (i+1:Nat))],[(0,.cells true true false 1 ((out++[z]).map aa))],1,0⟩:=by
   rcases nk with ⟨ji,rfl⟩ | ⟨ji,rfl⟩
   ·have eF:x-y-c+1000000000=z:=by omega
    rcases hs with ⟨h0,rfl⟩ | ⟨h0,rfl⟩
    ·subst h0;have nC:out=[]:=yF hlen;subst nC
     simp only [go_sem,ya,yd,xj,yJ,yp,yh,sO,hv.len,hw.an,show ((0:Nat):Int)<a.length by omega,e1,e2,wrap64 (n:=x-y) (by omega) (by omega),wrap64 (n:=x-y-(c:Int)) (by omega) (by omega),ji,eF,wrap64 (n:=z) (by omega) (by omega),fY];refine ⟨_,rfl,?_⟩;rw [wrap64 (by omega) (by omega)];simp only [go_sem,ya,yd,aw,aq hv.pu,au _ hv.pu,aq hw.pu,au _ hw.pu]<;>rfl
    ·simp only [go_sem,ya,yd,yp,yh,sO,hv.len,hw.an,show (i:Int)<a.length by omega,e1,e2,wrap64 (n:=x-y) (by omega) (by omega),wrap64 (n:=x-y-(c:Int)) (by omega) (by omega),ji,eF,wrap64 (n:=z) (by omega) (by omega)]
     rw [fA (ex:=false) (pu:=true) (cs:=out.map aa) (by simp only [go_sem,ya]) (by rw [yk,hlen,yh]) (by omega) (by omega) (by decide) (by simp only [go_sem])];simp only [go_sem,ya,yd];refine ⟨_,rfl,?_⟩;rw [wrap64 (by omega) (by omega),xg];simp only [go_sem,ya,yd,aw,aq hv.pu,au _ hv.pu,aq hw.pu,au _ hw.pu]<;>rfl
   ·have eF:x-y-c=z:=by omega
    have ji:¬z<0:=by omega
    rcases hs with ⟨h0,rfl⟩ | ⟨h0,rfl⟩
    ·subst h0;have nC:out=[]:=yF hlen;subst nC
     simp only [go_sem,ya,yd,xj,yJ,yp,yh,sO,hv.len,hw.an,show ((0:Nat):Int)<a.length by omega,e1,e2,wrap64 (n:=x-y) (by omega) (by omega),eF,wrap64 (n:=z) (by omega) (by omega),ji,fY];refine ⟨_,rfl,?_⟩;rw [wrap64 (by omega) (by omega)];simp only [go_sem,ya,yd,aw,aq hv.pu,au _ hv.pu,aq hw.pu,au _ hw.pu]<;>rfl
    ·simp only [go_sem,ya,yd,yp,yh,sO,hv.len,hw.an,show (i:Int)<a.length by omega,e1,e2,wrap64 (n:=x-y) (by omega) (by omega),eF,wrap64 (n:=z) (by omega) (by omega),ji]
     rw [fA (ex:=false) (pu:=true) (cs:=out.map aa) (by simp only [go_sem,ya]) (by rw [yk,hlen,yh]) (by omega) (by omega) (by decide) (by simp only [go_sem])];simp only [go_sem,ya,yd];refine ⟨_,rfl,?_⟩;rw [wrap64 (by omega) (by omega),xg];simp only [go_sem,ya,yd,aw,aq hv.pu,au _ hv.pu,aq hw.pu,au _ hw.pu]<;>rfl
  obtain ⟨s',f1,f2⟩:=fin;exact ⟨s',k-1,f1,by omega,i+1,c',_,by omega,U8,fV,G2,lZ,.inr ⟨by omega,f2⟩⟩
 ·right
  have agZ:dv out+dv b=dv a:=by
   rw [yC (by omega),yC (by omega)] at aR;have aU:=kh oL;rw [hlen] at aU;rcases (show c=0\/c=1 by omega) with rfl | rfl
   ·omega
   ·omega
  rcases hs with ⟨h0,rfl⟩ | ⟨h0,rfl⟩
  ·simp only [go_sem,ya,sO,hv.len,show ¬(i:Int)<a.length by omega];exact ⟨_,_,rfl,by simp,_,out,rfl,oL,agZ,by omega,.inl ⟨yF (by omega),by simp only [go_sem,ya],rfl⟩⟩
  ·simp only [go_sem,ya,sO,hv.len,show ¬(i:Int)<a.length by omega];exact ⟨_,_,rfl,by simp,_,out,rfl,oL,agZ,by omega,.inr ⟨by omega,by rw [hlen];simp only [go_sem,ya],rfl⟩⟩
def aiC (h:Has P L 297 Lm) (ow:Has P L 302 zd) (dd:Has P L 300 mJ) {v w:AV} {a b:List Int} (hv:bq v a) (hw:bq w b) (ha:dg a) (hb:dg b) (na:nz a) (nb:nz b) (la:a.length<=20000000000) (hle:dv b<=dv a):
  ∃r out,aj P L 297 [v,w] r/\bq r out/\shut r=r/\dg out/\nz out/\dv out+dv b=dv a:=by
 have E1:b.length<=a.length:=by
  by_cases h:a.length<b.length
  ·have:=Um ha nb hb h;omega
  ·omega
 unfold aj;rw [aI h];simp only [go_sem,Lm];generalize hq:D P L (.loop [0,1,5,6,7] sO) _=q;obtain ⟨ex,s,rfl,tm,out,rfl,hd,aR,hl,hs⟩:=bD hq (avS (P:=P) (L:=L) ow hv hw ha hb la hle E1 a.length) ⟨0,0,[],by omega,rfl,by omega,rfl,by simp [dv],.inl ⟨rfl,by simp only [go_sem,ya,aw,aq hv.pu,au _ hv.pu,aq hw.pu,au _ hw.pu]<;>rfl⟩⟩
 have jm:=kP false out;rcases hs with ⟨h0,h5,rfl⟩ | ⟨h0,h5,rfl⟩
 ·subst h0;obtain ⟨r,e1,hr,iq⟩:=Cu dd (v:= .ab) (l:=[]) rI (by simp);refine ⟨r,eA [],?_,hr,iq,rfl,rfl,by rw [zZ];exact aR⟩
  simp only [go_sem,aw,h5,e1,iq,hr.fm]
 ·obtain ⟨r,e1,hr,iq⟩:=Cu dd jm hl;refine ⟨r,eA out,?_,hr,iq,BH hd,FH out,by rw [zZ];exact aR⟩
  have jI:∀hp:Hp,kw 0 out.length (some (false,1,out.map aa,hp))=some (.aE false out.length (out.map aa),hp):=fun hp=>lP false (by simp) (by decide)
  simp only [go_sem,yd,aw,h5,jI,e1,iq,hr.fm]
end
def C6 {hp:Hp} {ct id o:Nat} {v:Int} {ex:Bool} {l:List Int} (h:o<l.length):gP hp ct id o 1 [.int .i64 v] (some (.cells true true ex 1 (l.map aa)))=some (.az [],aT hp id (.cells true true ex 1 ((l.set o v).map aa)),ct):=by
 rw [od (by rfl) (by simp;omega) (by rfl)]
 have:over o [AV.int .i64 v] (l.map aa)=(l.set o v).map aa:=by
  simp only [over,yy,yO,yg];rw [tT,vX,yA (by simpa using h)]
  simp
 rw [this];rfl
def sY {l:List Int} {o:Nat} (h:o<l.length):vh o (l.map aa)=AV.int .i64 (l.getD o 0)::vh (o+1) (l.map aa):=by
 rw [yP (by simpa using h)]
 grind
def rR {v:AV} {l:List Int} (hv:bq v l) {i:Nat} (h:i<l.length):kX 1 i v=some (.aO (.int .i64 (l.getD i 0)::(l.map aa).drop (i+1))):=by
 rw [hv.bi h]
 grind
def aqI {o x y c:Int} (ho:0<=o/\o<1000000000) (hx:0<=x/\x<1000000000) (hy:0<=y/\y<1000000000) (hc:0<=c/\c<1000000000):
  (0<=x*y/\x*y<=999999998000000001)/\0<=o+x*y+c/\o+x*y+c<1000000000000000000:=by
 have h1:=tZ hx.1 hy.1;have h2:=ybw (show x<=999999999 by omega) (show y<=999999999 by omega) hy.1 (by decide);omega
section
variable {P:aM} {L:Lib}
def avT {v w:AV} {a b:List Int} (hv:bq v a) (hw:bq w b) (ha:dg a) (hb:dg b) (la:a.length<=20000000000) (lb:b.length<=20000000000) {n i:Nat} (hn:n=a.length+b.length) (hi:i<a.length) {out0:List Int}:
  ∀k s,(∃(j:Nat) (c:Int) (out:List Int),aG [0,1,5,6,7,8] s=⟨[(0,v),(1,w),(5,.ak 0 0 n),(6,aa i),(7,aa c),(8,aa j)],[(0,.cells true true true 1 (out.map aa))],1,0⟩/\j+k=b.length/\out.length=n/\dg out/\(0<=c/\c<1000000000)/\
    dv out+1000000000^i*1000000000^j*c.toNat=dv out0+1000000000^i*((a.getD i 0).toNat*dv (b.take j))/\(∀m,i+b.length<=m->out.getD m 0=out0.getD m 0))->
   ∃ex s',D P L (.loop [0,1,5,6,7,8] Kd) s=some (ex,s')/\∃tm c out,s'=⟨tm,[(0,.cells true true true 1 (out.map aa))],1,0⟩/\ex= .exit 2/\af tm 0=v/\af tm 1=w/\af tm 5= .ak 0 0 n/\af tm 6=aa i/\af tm 7=aa c/\out.length=n/\dg out/\(0<=c/\c<1000000000)/\
    dv out+1000000000^i*1000000000^b.length*c.toNat=dv out0+1000000000^i*((a.getD i 0).toNat*dv b)/\(∀m,i+b.length<=m->out.getD m 0=out0.getD m 0):=by
 intro dq sq;generalize bh:aG [0,1,5,6,7,8] sq=s0;revert bh s0 sq dq;apply dj;rintro k s ⟨j,c,out,rfl,hk,hlen,hd,hc,aR,hX⟩;by_cases hj:j<b.length
 ·left
  obtain ⟨x,hx⟩:∃x,x=a.getD i 0:=⟨_,rfl⟩;obtain ⟨y,hy⟩:∃y,y=b.getD j 0:=⟨_,rfl⟩;obtain ⟨o,ho⟩:∃o,o=out.getD (i+j) 0:=⟨_,rfl⟩;have gx:=iQ ha i;have gy:=iQ hb j;have oJ:=iQ hd (i+j);rw [<-hx] at gx;rw [<-hy] at gy;rw [<-ho] at oJ;obtain ⟨p1,p2,p3⟩:=aqI oJ gx gy hc;obtain ⟨t,ht⟩:∃t:Nat,o+x*y+c=t:=⟨(o+x*y+c).toNat,by omega⟩;have hr:((t:Nat):Int).tmod 1000000000=((t%1000000000:Nat):Int):=by rw [wF (by omega)];rfl
  have hq:((t:Nat):Int).tdiv 1000000000=((t/1000000000:Nat):Int):=by rw [wG (by omega)];rfl
  have e1:=rR hv hi;have e2:=rR hw hj;rw [<-hx] at e1;rw [<-hy] at e2;have e3:=sY (l:=out) (o:=i+j) (by omega);rw [<-ho] at e3;have Bb:t=o.toNat+x.toNat*y.toNat+c.toNat:=by
   have:((x.toNat*y.toNat:Nat):Int)=x*y:=by rw [vA,yaK gx.1,yaK gy.1]
   omega
  have aT:=Un (l:=out) (j:=i+j) (x:=((t%1000000000:Nat):Int)) (by omega);rw [<-ho,wq,wZ] at aT;have lZ:=apE (Y:=dv (b.take j)) Bb aT (by rw [hx];exact aR)
  simp only [go_sem,ya,yh,Kd,hw.len,show (j:Int)<b.length by omega,wrapN (n:=i+j) (by omega),show (i:Int)+(j:Int)=((i+j:Nat):Int) from rfl,bA 0 0 (show i+j<n by omega),yg,e3,e1,e2,wrap64 (n:=x*y) (by omega) (by omega),wrap64 (n:=o+x*y) (by omega) (by omega),ht,wrapN (n:=t) (by omega),jt _ _ _ (show (1000000000:Int)≠0 by decide),hZ _ _ _ (show (1000000000:Int)≠0 by decide),hr,hq,wrapN (n:=t/1000000000) (by omega),C6 (l:=out) (o:=i+j) (by omega)];refine ⟨_,k-1,rfl,by omega,j+1,((t/1000000000:Nat):Int),out.set (i+j) ((t%1000000000:Nat):Int),?_,by omega,by simp [hlen],OS hd (by omega),by omega,?_,fun m hm=>?_⟩
  ·rw [wrap64 (by omega) (by omega)];simp only [go_sem,ya,yd,aw,aq hv.pu,au _ hv.pu,aq hw.pu,au _ hw.pu]<;>rfl
  ·rw [wq,qu,xi,<-hx,<-hy];exact lZ
  ·rw [abd (by omega)];exact hX m hm
 ·right
  have:j=b.length:=by omega
  subst this;rw [xJ] at aR;simp only [go_sem,ya,Kd,hw.len,show ¬(b.length:Int)<b.length by omega];exact ⟨_,_,rfl,by simp,_,c,out,rfl,rfl,by simp only [go_sem,ya],by simp only [go_sem,ya],by simp only [go_sem,ya],by simp only [go_sem,ya],by simp only [go_sem,ya],hlen,hd,hc,aR,hX⟩
end
def Sn (n:Nat):(yf n [AV.int .i64 0]).flatten=(yf n (0:Int)).map aa:=by simp_all
def asH (b:Bool):Lr true (some b)=some (.bool (!b)):=by cases b<;>rfl
def ZI (n m:Nat):(yf n (0:Int)).getD m 0=0:=by grind
section
variable {P:aM} {L:Lib}
def avU {v w:AV} {a b:List Int} (hv:bq v a) (hw:bq w b) (ha:dg a) (hb:dg b) (la:a.length<=20000000000) (lb:b.length<=20000000000) {n:Nat} (hn:n=a.length+b.length):
  ∀k s,(∃(i:Nat) (out:List Int),aG [0,1,5,6] s=⟨[(0,v),(1,w),(5,.ak 0 0 n),(6,aa i)],[(0,.cells true true true 1 (out.map aa))],1,0⟩/\i+k=a.length/\out.length=n/\dg out/\dv out=dv (a.take i)*dv b/\(∀m,i+b.length<=m->out.getD m 0=0))->
   ∃ex s',D P L (.loop [0,1,5,6] Ke) s=some (ex,s')/\∃tm out,s'=⟨tm,[(0,.cells true true true 1 (out.map aa))],1,0⟩/\ex= .exit 0/\af tm 5= .ak 0 0 n/\out.length=n/\dg out/\dv out=dv a*dv b:=by
 intro dq sq;generalize bh:aG [0,1,5,6] sq=s0;revert bh s0 sq dq;apply dj;rintro k s ⟨i,out,rfl,hk,hlen,hd,aR,hX⟩;by_cases hi:i<a.length
 ·left
  simp only [go_sem,ya,Ke,hv.len,show (i:Int)<a.length by omega];generalize hq:D P L (.loop [0,1,5,6,7,8] Kd) _=q;obtain ⟨ex,s,rfl,tm,c,zj,rfl,rfl,t0,t1,t5,t6,t7,U5,gW,hc,U6,Lu⟩:=bD hq (avT (P:=P) (L:=L) hv hw ha hb la lb hn hi (out0:=out) b.length) ⟨0,0,out,by simp only [go_sem,ya,yd,aw,aq hv.pu,au _ hv.pu,aq hw.pu,au _ hw.pu]<;>rfl,by omega,hlen,hd,by omega,by simp [dv],fun m _=>rfl⟩
  have hz:zj.getD (i+b.length) 0=0:=by rw [Lu _ (yq _),hX _ (yq _)]
  have e3:=sY (l:=zj) (o:=i+b.length) (by omega);rw [hz] at e3;have aT:=Un (l:=zj) (j:=i+b.length) (x:=c) (by omega);rw [hz,wZ] at aT
  simp only [go_sem,ya,yh,aw,t0,t1,t5,t6,t7,hw.len,aq hv.pu,au _ hv.pu,aq hw.pu,au _ hw.pu,wrapN (n:=i+b.length) (by omega),show (i:Int)+(b.length:Int)=((i+b.length:Nat):Int) from rfl,bA 0 0 (show i+b.length<n by omega),yg,e3,Int.zero_add,wrap64 (n:=c) (by omega) (by omega),C6 (l:=zj) (o:=i+b.length) (by omega)];refine ⟨_,k-1,rfl,by omega,i+1,zj.set (i+b.length) c,?_,by omega,by simp [U5],OS gW hc,?_,fun m hm=>?_⟩
  ·rw [wrap64 (by omega) (by omega)];simp only [go_sem,ya,yd,aw,aq hv.pu,au _ hv.pu,aq hw.pu,au _ hw.pu]<;>rfl
  ·rw [qu,wS,<-aR,xx];simp only [Int.toNat_zero,xM,y7] at aT;rw [aT];exact U6
  ·rw [abd (by omega),Lu m (by omega),hX m (by omega)]
 ·right
  have:i=a.length:=by omega
  subst this;rw [xJ] at aR;simp only [go_sem,ya,Ke,hv.len,show ¬(a.length:Int)<a.length by omega];exact ⟨_,_,rfl,by simp,_,out,rfl,rfl,by simp only [go_sem,ya],hlen,hd,aR⟩
def Wx (h:Has P L 293 Cm) (dd:Has P L 300 mJ) {v w:AV} {a b:List Int} (hv:bq v a) (hw:bq w b) (ha:dg a) (hb:dg b) (la:a.length<=8000000000) (lb:b.length<=8000000000):
  ∃r out,aj P L 293 [v,w] r/\bq r out/\shut r=r/\dg out/\nz out/\dv out=dv a*dv b:=by
 obtain ⟨n,hn⟩:∃n,n=a.length+b.length:=⟨_,rfl⟩;have cg:∀ct:Nat,om ct 1 8 [.int .i64 0] (some n) (some n)=some (.ak ct 0 n,.cells true true true 1 ((yf n (0:Int)).map aa)):=fun ct=>by
  rw [sQ (sz:=1) (by omega) (by omega) (by rfl) (by rfl),Sn];rfl
 unfold aj;rw [aI h]
 simp only [go_sem,ya,yd,Cm,hv.len,hw.len,wrapN (n:=n) (by omega),show (a.length:Int)+(b.length:Int)=((a.length+b.length:Nat):Int) from rfl,<-hn,cg];generalize hq:D P L (.loop [0,1,5,6] Ke) _=q;obtain ⟨ex,s,rfl,tm,out,rfl,rfl,t5,hlen,hd,aR⟩:=bD hq (avU (P:=P) (L:=L) hv hw ha hb (by omega) (by omega) hn a.length) ⟨0,yf n 0,by simp only [go_sem,ya,yd,aw,aq hv.pu,au _ hv.pu,aq hw.pu,au _ hw.pu]<;>rfl,by omega,by simp,abf n,by rw [abe];simp [dv],fun m _=>ZI n m⟩
 have jm:=kP true out;rw [hlen] at jm;obtain ⟨r,e1,hr,iq⟩:=Cu dd jm (by omega);refine ⟨r,eA out,?_,hr,iq,BH hd,FH out,by rw [zZ];exact aR⟩
 have jI:∀hp:Hp,kw 0 n (some (true,1,out.map aa,hp))=some (.aE true n (out.map aa),hp):=fun hp=>lP true (by simp [hlen]) (by decide)
 simp only [go_sem,yd,aw,t5,jI,e1,iq,hr.fm]
def LF (h:Has P L 278 P3) (me:Has P L 293 Cm) (jS:Has P L 294 Cn) (dd:Has P L 300 mJ) {v w:AV} {n m:Int} {K:Nat} (hK:K<=8000000000) (hv:lK v n) (hw:lK w m) (hn:n.natAbs<1000000000^K) (hm:m.natAbs<1000000000^K):
  ∃r,aj P L 278 [v,w] r/\lK r (n*m):=by
 obtain ⟨x,a,rfl,hx,ha,na,va⟩:=hv;obtain ⟨y,b,rfl,hy,hb,nb,vb⟩:=hw;have la:=xv (jQ ha na (by rw [va];exact hn)) hK
 have lb:=xv (jQ hb nb (by rw [vb];exact hm)) hK
 obtain ⟨z,out,e1,hz,iq,hd,CX,aR⟩:=Wx me dd hx hy ha hb la lb;have lo:out.length<=20000000000:=by
  refine jQ hd CX ?_;rw [aR];have h1:=kh ha;have h2:=kh hb;have h3:dv a*dv b<1000000000^a.length*1000000000^b.length:=Nat.mul_lt_mul'' h1 h2;rw [<-wZ] at h3;have hk:∀K,a.length+b.length<=K->dv a*dv b<1000000000^K:=fun K h=>yV h3 (xh (by decide) h)
  exact hk 20000000000 (by omega)
 obtain ⟨r,e2,hr⟩:=AS jS dd (!(decide (n<0)==decide (m<0))) hz hd lo;have e:cM (!(decide (n<0)==decide (m<0))) (dv out)=n*m:=by
  rw [aR,va,vb];have hnm:((n.natAbs*m.natAbs:Nat):Int)=(n.natAbs:Int)*m.natAbs:=vA _ _;unfold cM;by_cases h0:n<0<;>by_cases h1:m<0<;>simp only [h0,h1,yu,yv,yam,yR,yN,xn,hnm]
  ·rw [show (n.natAbs:Int)= -n by omega,show (m.natAbs:Int)= -m by omega,Int.neg_mul_neg]
  ·rw [show (true==false)=false from rfl,yU,yA rfl,show (n.natAbs:Int)= -n by omega,show (m.natAbs:Int)=m by omega,Int.neg_mul,ybO]
  ·rw [show (false==true)=false from rfl,yU,yA rfl,show (n.natAbs:Int)=n by omega,show (m.natAbs:Int)= -m by omega,Int.mul_neg,ybO]
  ·rw [show (n.natAbs:Int)=n by omega,show (m.natAbs:Int)=m by omega]
 rw [e] at hr;obtain ⟨w2,l2,rfl,iJ,gE,fU,AT⟩:=hr;refine ⟨_,?_,w2,l2,rfl,iJ,gE,fU,AT⟩;unfold aj at e1 e2 ⊢;rw [aI h];simp only [go_sem,ya,yd,P3,bc,hx.pu,hx.an,hx.one,hy.pu,hy.an,hy.one,hz.an,hz.shut,iJ.pu,iJ.one,b7,yg,dt,e1,qK,asH,e2,ie,bO];rcases iJ with ⟨rfl,_⟩ | ⟨e,rfl⟩<;>rfl
end
def asI (i:Nat) (q:List Int) (x:Int):(yf (i+1) (0:Int)++q).set i x=yf i 0++x::q:=by
 rw [List.replicate_succ',xm,List.set_append_right _ _ (by simp)]
 simp
section
variable {P:aM} {L:Lib}
def avV {v:AV} {a:List Int} (hv:bq v a) (ha:dg a) (la:a.length<=20000000000) {d:Nat} (h0:0<d) (h1:d<1000000000):
  ∀k s,(∃(j r:Nat) (q:List Int),aG [0,1,6,7,8] s=⟨[(0,v),(1,aa d),(6,.ak 0 0 a.length),(7,aa r),(8,aa ((j:Int)-1))],[(0,.cells true true true 1 ((yf j (0:Int)++q).map aa))],1,0⟩/\j=k/\j+q.length=a.length/\r<d/\dg q/\dv (a.drop j)=d*dv q+r)->
   ∃ex s',D P L (.loop [0,1,6,7,8] Kf) s=some (ex,s')/\∃tm r q,s'=⟨tm,[(0,.cells true true true 1 (q.map aa))],1,0⟩/\ex= .exit 0/\af tm 6= .ak 0 0 a.length/\af tm 7=aa (r:Nat)/\q.length=a.length/\r<d/\dg q/\dv a=d*dv q+r:=by
 intro dq sq;generalize bh:aG [0,1,6,7,8] sq=s0;revert bh s0 sq dq;apply dj;rintro k s ⟨j,r,q,rfl,rfl,hl,hr,hd,aR⟩
 cases j with
 | zero=>
  right
  simp only [go_sem,ya,Kf,show ¬(0:Int)<=((0:Nat):Int)-1 by omega];exact ⟨_,_,rfl,by simp,_,r,q,rfl,rfl,by simp only [go_sem,ya],by simp only [go_sem,ya],by omega,hr,hd,aR⟩
 | succ i=>
  left
  have hi:i<a.length:=by omega
  obtain ⟨x,hx⟩:∃x,x=a.getD i 0:=⟨_,rfl⟩;have e1:=rR hv hi;have gx:=iQ ha i;rw [<-hx] at e1 gx;obtain ⟨t,ht⟩:∃t:Nat,t=r*1000000000+x.toNat:=⟨_,rfl⟩;have Bb:(r:Int)*1000000000+x=(t:Int):=by omega
  have lH:t<d*1000000000:=by
   omega
  have fK:t/d<1000000000:=(wv h0).2 (by rw [xO];exact lH)
  have cO:t%d<d:=xH _ h0;have e2:((t:Nat):Int).tdiv d=((t/d:Nat):Int):=by rw [wG (by omega)];rfl
  have e3:((t:Nat):Int).tmod d=((t%d:Nat):Int):=by rw [wF (by omega)];rfl
  have Mv:(yf (i+1) (0:Int)++q).length=a.length:=by simp;omega
  have aJ:=fun (hp:Hp) (ct id:Nat) (ex:Bool)=>C6 (hp:=hp) (ct:=ct) (id:=id) (ex:=ex) (v:=((t/d:Nat):Int)) (l:=yf (i+1) (0:Int)++q) (o:=i) (by rw [Mv];exact hi)
  simp only [asI] at aJ
  simp only [go_sem,ya,yh,Kf,show ((i+1:Nat):Int)-1=(i:Int) by omega,show (0:Int)<=(i:Int) by omega,wrap64 (n:=(r:Int)*1000000000) (by omega) (by omega),e1,Bb,wrapN (n:=t) (by omega),hZ _ _ _ (show (d:Int)≠0 by omega),jt _ _ _ (show (d:Int)≠0 by omega),e2,e3,wrapN (n:=t/d) (by omega),bA 0 0 (show i<a.length from hi),yg,aJ]
  refine ⟨_,i,rfl,by omega,i,t%d,((t/d:Nat):Int)::q,?_,rfl,by simp;omega,cO,(iM (a:=[((t/d:Nat):Int)]) (b:=q)).2 ⟨mA.2 ⟨tQ _,uQ.2 fK⟩,hd⟩,?_⟩
  ·rw [wrap64 (by omega) (by omega)];simp only [go_sem,ya,yd,aw,aq hv.pu,au _ hv.pu]<;>rfl
  ·have jG:a.drop i=x::a.drop (i+1):=by
    rw [yP hi,hx];simp [yM,y9 hi]
   rw [jG];simp only [dv,aR,wq];have e:=wg t d;rw [xK,xK d,Nat.mul_left_comm 1000000000 d];omega
def aiD (h:Has P L 299 Co) (dd:Has P L 300 mJ) {v:AV} {a:List Int} (hv:bq v a) (ha:dg a) (la:a.length<=20000000000) {d:Nat} (h0:0<d) (h1:d<1000000000):
  ∃r q,aj P L 299 [v,aa d] (.az [r,aa (dv a%d:Nat)])/\bq r q/\shut r=r/\bZ r=r/\dg q/\nz q/\dv q=dv a/d:=by
 obtain ⟨n,hn⟩:∃n,n=a.length:=⟨_,rfl⟩;have cg:∀ct:Nat,om ct 1 8 [.int .i64 0] (some n) (some n)=some (.ak ct 0 n,.cells true true true 1 ((yf n (0:Int)).map aa)):=fun ct=>by
  rw [sQ (sz:=1) (by omega) (by omega) (by rfl) (by rfl),Sn];rfl
 unfold aj;rw [aI h];simp only [go_sem,ya,yd,Co,hv.len,<-hn,cg];generalize hq:D P L (.loop [0,1,6,7,8] Kf) _=q;obtain ⟨ex,s,rfl,tm,r,qs,rfl,rfl,t6,t7,hlen,hr,hd,aR⟩:=bD hq (avV (P:=P) (L:=L) hv ha la h0 h1 a.length) ⟨a.length,0,[],by
  rw [wrap64 (by omega) (by omega),xT,<-hn]
  simp only [go_sem,ya,yd,aw,aq hv.pu,au _ hv.pu]<;>rfl,rfl,by simp,h0,rfl,by rw [xe (yq _)];simp [dv]⟩
 have jm:=kP true qs;rw [hlen] at jm;obtain ⟨w,e1,hw,iq⟩:=Cu dd jm (by omega);have gF:dv a/d=dv qs/\dv a%d=r:=(Nat.div_mod_unique h0).2 ⟨by omega,hr⟩;refine ⟨w,eA qs,?_,hw,iq,hw.bZ,BH hd,FH qs,by rw [zZ,gF.1]⟩;have jI:∀hp:Hp,kw 0 a.length (some (true,1,qs.map aa,hp))=some (.aE true a.length (qs.map aa),hp):=fun hp=>lP true (by simp [hlen]) (by decide)
 rw [gF.2];simp only [go_sem,ya,yd,aw,t6,t7,jI,e1,iq];rcases hw with ⟨rfl,_⟩ | ⟨e,rfl⟩<;>rfl
def azR (h:Has P L 279 GM) (Wy:Has P L 295 Ll) (pD:Has P L 296 zc) (Qs:Has P L 297 Lm) (ow:Has P L 302 zd) (jS:Has P L 294 Cn) (dd:Has P L 300 mJ) {v w:AV} {n m:Int} {K:Nat} (hK:K<=8000000000) (hv:lK v n) (hw:lK w m) (hn:n.natAbs<1000000000^K) (hm:m.natAbs<1000000000^K):
  ∃r,aj P L 279 [v,w] r/\lK r (n+m):=by
 obtain ⟨x,a,rfl,hx,ha,na,va⟩:=hv;obtain ⟨y,b,rfl,hy,hb,nb,vb⟩:=hw;have la:=xv (jQ ha na (by rw [va];exact hn)) hK
 have lb:=xv (jQ hb nb (by rw [vb];exact hm)) hK
 by_cases hs:(decide (n<0)==decide (m<0))=true
 ·obtain ⟨z,out,e1,hz,hd,aR,hl⟩:=azQ Wy ow hx hy ha hb (by omega) (by omega);have lo:out.length<=20000000000:=by omega
  obtain ⟨r,e2,hr⟩:=AS jS dd (decide (n<0)) hz hd lo;have e:cM (decide (n<0)) (dv out)=n+m:=by
   have Bo:(n<0)=(m<0):=by simpa using eq_of_beq hs
   rw [aR,va,vb];unfold cM;by_cases h0:n<0
   ·have h1:m<0:=Bo▸h0;simp only [h0,yu,xE];omega
   ·have h1:¬m<0:=Bo▸h0;simp only [h0,yv,yN,xn];omega
  rw [e] at hr;obtain ⟨w2,l2,rfl,iJ,gE,fU,AT⟩:=hr;refine ⟨_,?_,w2,l2,rfl,iJ,gE,fU,AT⟩;unfold aj at e1 e2 ⊢;rw [aI h];simp only [go_sem,ya,yd,GM,bc,hx.pu,hx.an,hx.one,hy.pu,hy.an,hy.one,hz.an,iJ.pu,iJ.one,b7,yg,dt,e1,qK,eN,hs,e2,ie,bO];rcases iJ with ⟨rfl,_⟩ | ⟨e,rfl⟩<;>rfl
 ·have hs:(decide (n<0)==decide (m<0))=false:=by simpa using hs
  have Bo:¬((n<0)=(m<0)):=fun e=>by simp [e] at hs
  have ec:=Ww pD hx hy ha hb na nb (by omega) (by omega);by_cases hc:dv a<dv b
  ·have eK:dY (dv a) (dv b)= -1:=by unfold dY;rw [yA hc]
   rw [eK] at ec;obtain ⟨z,out,e1,hz,iq,hd,CX,aR⟩:=aiC Qs ow dd hy hx hb ha nb na (by omega) (by omega);have lo:out.length<=20000000000:=by
    refine jQ hd CX ?_
    have:=kh hb
    have hk:∀K,b.length<=K->dv out<1000000000^K:=fun K h=>yV (show dv out<1000000000^b.length by omega) (xh (by decide) h)
    exact hk 20000000000 (by omega)
   obtain ⟨r,e2,hr⟩:=AS jS dd (decide (m<0)) hz hd lo;have e:cM (decide (m<0)) (dv out)=n+m:=by
    rw [va,vb] at aR;unfold cM;by_cases h0:m<0
    ·have h1:¬n<0:=fun h1=>Bo (by simp [h0,h1])
     simp only [h0,yu,xE];omega
    ·have h1:n<0:=by
      by_cases h1:n<0
      ·exact h1
      ·exact absurd (by simp [h0,h1]) Bo
     simp only [h0,yv,yN,xn];omega
   rw [e] at hr;obtain ⟨w2,l2,rfl,iJ,gE,fU,AT⟩:=hr;refine ⟨_,?_,w2,l2,rfl,iJ,gE,fU,AT⟩;unfold aj at e1 e2 ec ⊢;rw [aI h];simp only [go_sem,ya,yd,GM,bc,hx.pu,hx.an,hx.one,hy.pu,hy.an,hy.one,hz.an,hz.shut,iJ.pu,iJ.one,b7,yg,dt,e1,qK,eN,hs,ec,show ¬(0:Int)<=-1 by decide,e2,ie,bO];rcases iJ with ⟨rfl,_⟩ | ⟨e,rfl⟩<;>rfl
  ·have eK:(0:Int)<=dY (dv a) (dv b):=by unfold dY;rw [yo hc];split<;>decide
   obtain ⟨z,out,e1,hz,iq,hd,CX,aR⟩:=aiC Qs ow dd hx hy ha hb na nb (by omega) (by omega);have lo:out.length<=20000000000:=by
    refine jQ hd CX ?_
    have:=kh ha
    have hk:∀K,a.length<=K->dv out<1000000000^K:=fun K h=>yV (show dv out<1000000000^a.length by omega) (xh (by decide) h)
    exact hk 20000000000 (by omega)
   obtain ⟨r,e2,hr⟩:=AS jS dd (decide (n<0)) hz hd lo;have e:cM (decide (n<0)) (dv out)=n+m:=by
    rw [va,vb] at aR;unfold cM;by_cases h0:n<0
    ·have h1:¬m<0:=fun h1=>Bo (by simp [h0,h1])
     simp only [h0,yu,xE];omega
    ·have h1:m<0:=by
      by_cases h1:m<0
      ·exact h1
      ·exact absurd (by simp [h0,h1]) Bo
     simp only [h0,yv,yN,xn];omega
   rw [e] at hr;obtain ⟨w2,l2,rfl,iJ,gE,fU,AT⟩:=hr;refine ⟨_,?_,w2,l2,rfl,iJ,gE,fU,AT⟩;unfold aj at e1 e2 ec ⊢;rw [aI h];simp only [go_sem,ya,yd,GM,bc,hx.pu,hx.an,hx.one,hy.pu,hy.an,hy.one,hz.an,hz.shut,iJ.pu,iJ.one,b7,yg,dt,e1,qK,eN,hs,ec,eK,e2,ie,bO];rcases iJ with ⟨rfl,_⟩ | ⟨e,rfl⟩<;>rfl
def acQ {l:List Int} (hd:dg l) (hn:nz l) (h:dv l<1000000000):l.length<=1:=jQ hd hn (by simpa using h)
def azS (h:Has P L 289 zb) (pD:Has P L 296 zc) (qW:Has P L 299 Co) (dd:Has P L 300 mJ) {v w:AV} {a b:List Int} (hv:bq v a) (hw:bq w b) (ha:dg a) (hb:dg b) (na:nz a) (nb:nz b) (la:a.length<=20000000000) (lb:b.length<=1) (h0:0<dv b):
  ∃q r lq lr,aj P L 289 [v,w] (.az [q,r])/\bq q lq/\bq r lr/\dg lq/\nz lq/\dg lr/\nz lr/\dv lq=dv a/dv b/\dv lr=dv a%dv b:=by
 have ec:=Ww pD hv hw ha hb na nb la (by omega);by_cases hc:dv a<dv b
 ·have eK:dY (dv a) (dv b)= -1:=by unfold dY;rw [yA hc]
  rw [eK] at ec;refine ⟨.ab,v,[],a,?_,rI,hv,rfl,rfl,ha,na,?_,?_⟩
  ·unfold aj;rw [aI h];simp only [go_sem,ya,zb,hv.an,hw.an,ec,show (-1:Int)<0 by decide];rcases hv with ⟨rfl,_⟩ | ⟨e,rfl⟩<;>rfl
  ·rw [Nat.div_eq_of_lt hc];rfl
  ·rw [Nat.mod_eq_of_lt hc]
 ·have eK:¬dY (dv a) (dv b)<0:=by unfold dY;rw [yo hc];split<;>decide
  have mP:b.length=1:=by
   rcases xB b.length with e | e
   ·rw [yF e] at h0;simp [dv] at h0
   ·omega
  obtain ⟨x,rfl⟩:∃x,b=[x]:=by
   cases b with
   | nil=>simp at mP
   | cons x r=>cases r with
    | nil=>exact ⟨x,rfl⟩
    | cons y r=>simp at mP
  have gx:=mA.1 hb;obtain ⟨d,hd⟩:∃d:Nat,x=d:=⟨x.toNat,by omega⟩;subst hd;have hdd:dv [((d:Nat):Int)]=d:=by simp [dv]
  rw [hdd] at h0 hc eK ec ⊢;obtain ⟨q,lq,e1,hq,lL,azT,dq,nq,vq⟩:=aiD qW dd hv ha la h0 (by omega);have agW:dv a%d<d:=xH _ h0;generalize dv a%d=m at*
  obtain ⟨r,e2,hr,QK⟩:=Cu dd (kP true [(m:Int)]) (by simp);refine ⟨q,r,lq,eA [(m:Int)],?_,hq,hr,dq,nq,BH (mA.2 (by omega)),FH _,vq,by rw [zZ];simp [dv]⟩;have e3:=hw.bi (i:=0) (by simp);simp only [yy,yO,yg,xd,vN,List.getElem_cons_zero] at e2 e3;unfold aj;rw [aI h];simp only [go_sem,ya,yd,yJ,yp,yh,zb,hv.an,hw.len,hw.an,ec,eK,yy,yO,show ((1:Nat):Int)=(1:Int) from rfl,yu,e3,e1,azT,e2,QK];rcases hq with ⟨rfl,_⟩ | ⟨e,rfl⟩<;>rcases hr with ⟨rfl,_⟩ | ⟨e',rfl⟩<;>rfl
end
def sv:List Int->Int
 | []=>0
 | a::r=>a+1000000000*sv r
def aay:∀(a b:List Int),sv (a++b)=sv a+1000000000^a.length*sv b
 | [],b=>by simp [sv]
 | x::a,b=>by
  simp only [List.cons_append,sv,aay a b,yy,tA,yce]
  grind
def avW (x:Int):sv [x]=x:=by simp [sv]
def Ge:∀{l:List Int} {i:Nat} {x:Int},i<l.length->sv (l.set i x)=sv l+1000000000^i*(x-l.getD i 0)
 | [],i,x,h=>by simp at h
 | a::l,0,x,_=>by simp [sv];omega
 | a::l,i+1,x,h=>by
  have ih:=Ge (l:=l) (i:=i) (x:=x) (by simpa using h);simp only [List.set_cons_succ,sv,List.getD_cons_succ,ih,tA,yce]
  grind
def OG {l:List Int} (i:Nat):sv (l.take (i+1))=sv (l.take i)+1000000000^i*l.getD i 0:=by
 by_cases h:i<l.length
 ·rw [List.take_succ_eq_append_getElem h,aay,yI,xt (by omega),avW]
  grind
 ·rw [yC (by omega),yC (by omega),Jm (by omega),Int.mul_zero,Int.add_zero]
def AH:∀{l:List Int},dg l->sv l=dv l
 | [],_=>rfl
 | a::l,h=>by
  obtain ⟨h1,h2⟩:=iM.1 (show dg ([a]++l) from h);have h1:=mA.1 h1;simp only [sv,dv,AH h2,ybk,vA];omega
section
variable {pre x post:List Int} {i:Nat}
def pn:(pre++x++post).length=pre.length+x.length+post.length:=by grind
def B1 (h:i<x.length):(pre++x++post).getD (pre.length+i) 0=x.getD i 0:=by grind
def O0 (a:Int) (h:i<x.length):(pre++x++post).set (pre.length+i) a=pre++x.set i a++post:=by simp_all
end
def aeJ {l:List Int} {i m:Nat} {x:Int} (h:i≠m):(l.set i x).getD m 0=l.getD m 0:=by simp_all
def aoA {l:List Int} {i:Nat} {x:Int} (h:i<l.length):(l.set i x).getD i 0=x:=by simp_all
abbrev H3 (q u:List Int) (f:Int):Hp:=[(2,.cells true true true 1 (q.map aa)),(1,.cells true true false 1 (u.map aa)),(0,.cells false true true 1 [aa f])]
def Od {live:List Nat} {tm:Env} {ct:Nat} {a b c:List AV} (ht:rP 3 (bP tm live)) (hl:(et (bP tm live)).length<100000):
  aG live ⟨tm,[(2,.cells true true true 1 a),(1,.cells true true false 1 b),(0,.cells false true true 1 c)],ct,3⟩=⟨bP tm live,[(2,.cells true true true 1 a),(1,.cells true true false 1 b),(0,.cells false true true 1 c)],3,3⟩:=
 Y4 ht ⟨by omega,.inl rfl,by omega,.inl rfl,by omega,.inl rfl,trivial⟩ (by
  have:jN 3 [(2,Obj.cells true true true 1 a),(1,Obj.cells true true false 1 b),(0,Obj.cells false true true 1 c)]=[]:=rfl
  rw [this,yO,y7];exact hl)
structure gQ (x vs:List Int) (n v1 v2 u0 u1 u2:Nat):Prop where
 n2:2<=n
 nb:n<=20000000000
 lx:x.length=n+1
 lv:vs.length=n
 gx:dg x
 gv:dg vs
 fp:vs.getD (n-1) 0=(v1:Int)
 dM:vs.getD (n-2) 0=(v2:Int)
 h0:x.getD n 0=(u0:Int)
 h1:x.getD (n-1) 0=(u1:Int)
 h2:x.getD (n-2) 0=(u2:Int)
 pos:0<v1
 lt:dv x<1000000000*dv vs
section
variable {x vs:List Int} {n v1 v2 u0 u1 u2:Nat}
def gQ.My (h:gQ x vs n v1 v2 u0 u1 u2):v1<1000000000:=by have:=iQ h.gv (n-1);rw [h.fp] at this;omega
def gQ.EQ (h:gQ x vs n v1 v2 u0 u1 u2):v2<1000000000:=by have:=iQ h.gv (n-2);rw [h.dM] at this;omega
def gQ.u0W (h:gQ x vs n v1 v2 u0 u1 u2):u0<1000000000:=by have:=iQ h.gx n;rw [h.h0] at this;omega
def gQ.Mz (h:gQ x vs n v1 v2 u0 u1 u2):u1<1000000000:=by have:=iQ h.gx (n-1);rw [h.h1] at this;omega
def gQ.MA (h:gQ x vs n v1 v2 u0 u1 u2):u2<1000000000:=by have:=iQ h.gx (n-2);rw [h.h2] at this;omega
def gQ.parts (h:gQ x vs n v1 v2 u0 u1 u2):∃p vr ur,dv vs=(v1*1000000000+v2)*p+vr/\vr<p/\dv x=((u0*1000000000+u1)*1000000000+u2)*p+ur/\ur<p:=by
 obtain ⟨m,hm⟩:∃m,n=m+2:=⟨n-2,by have:=h.n2;omega⟩;subst hm;have e1:=qu (l:=vs) (m+1);have e2:=qu (l:=vs) m;have f0:=qu (l:=x) (m+2);have f1:=qu (l:=x) (m+1);have f2:=qu (l:=x) m;have fp:vs.getD (m+1) 0=(v1:Int):=h.fp;have dM:vs.getD m 0=(v2:Int):=h.dM;have h0:x.getD (m+2) 0=(u0:Int):=h.h0;have h1:x.getD (m+1) 0=(u1:Int):=h.h1;have h2:x.getD m 0=(u2:Int):=h.h2
 rw [yC (by have:=h.lv;omega),fp,e2,dM] at e1
 rw [yC (by have:=h.lx;omega),h0,f1,h1,f2,h2] at f0;simp only [wq] at e1 f0;have g1:=kh (Dt h.gv m)
 rw [yI,xt (by have:=h.lv;omega)] at g1;have g2:=kh (Dt h.gx m)
 rw [yI,xt (by have:=h.lx;omega)] at g2;refine ⟨1000000000^m,_,_,?_,g1,?_,g2⟩
 ·rw [e1,xi,axC]
 ·rw [f0,show 1000000000^(m+2)=1000000000^m*1000000000*1000000000 by rw [xi,xi],xi,axD]
def gQ.down (h:gQ x vs n v1 v2 u0 u1 u2) {t r:Nat} (ht:t*v1+r=u0*1000000000+u1) (hr:r*1000000000+u2<t*v2):dv x/dv vs<=t-1:=by
 obtain ⟨p,vr,ur,h1,h2,h3,h4⟩:=h.parts;exact Zu h1 h3 h4 ht hr
def gQ.stop (h:gQ x vs n v1 v2 u0 u1 u2) {t r:Nat} (lH:t<1000000000) (ht:t*v1+r=u0*1000000000+u1) (hr:1000000000<=r\/t*v2<=r*1000000000+u2):t<=dv x/dv vs+1:=by
 obtain ⟨p,vr,ur,h1,h2,h3,h4⟩:=h.parts;exact aaj (by decide) h1 h2 h3 h.pos h.EQ lH ht hr
def gQ.first (h:gQ x vs n v1 v2 u0 u1 u2):dv x/dv vs<=(u0*1000000000+u1)/v1:=by
 obtain ⟨p,vr,ur,h1,h2,h3,h4⟩:=h.parts;exact R9 h1 h3 h4 h.MA h.pos
def gQ.top (h:gQ x vs n v1 v2 u0 u1 u2):u0<=v1:=by
 obtain ⟨p,vr,ur,h1,h2,h3,h4⟩:=h.parts;exact aak h1 h3 h2 h.EQ h.lt
def gQ.digit (h:gQ x vs n v1 v2 u0 u1 u2):dv x/dv vs<1000000000:=by
 refine (wv ?_).2 h.lt;rcases xB (dv vs) with h0 | h0
 ·have:=h.lt;rw [h0] at this;simp at this
 ·exact h0
def gQ.small (h:gQ x vs n v1 v2 u0 u1 u2) {t r:Nat} (ht:t*v1+r=u0*1000000000+u1) (hb:1000000000<=t):r<1000000000:=by
 have h1:=h.top;have h2:=h.Mz;have h3:=Nat.mul_le_mul_right v1 hb
 grind
end
def azU {r u:Nat} (hr:r<1000000000) (hu:u<1000000000):r*1000000000<9223372036854775808/\r*1000000000+u<9223372036854775808:=by omega
section
variable {P:aM} {L:Lib}
def asJ {w:AV} {x vs pre post qs:List Int} {f:Int} (hw:bq w vs) {n v1 v2 u0 u1 u2 M:Nat} (hl:gQ x vs n v1 v2 u0 u1 u2) (hM:M=pre.length+x.length+post.length) (MO:M<=50000000000):
  ∀k s,(∃t r:Nat,aG [0,1,2,7,9,10] s=⟨[(0,.ak 1 0 M),(1,w),(2,aa pre.length),(7,aa n),(9,aa t),(10,aa r)],H3 qs (pre++x++post) f,3,3⟩/\t*v1+r=u0*1000000000+u1/\r<1000000000/\dv x/dv vs<=t/\t=k)->
   ∃ex s',D P L (.loop [0,1,2,7,9,10] BY) s=some (ex,s')/\∃tm ct t,s'=⟨tm,H3 qs (pre++x++post) f,ct,3⟩/\((ex= .exit 0/\af tm 9=aa (t:Nat))\/(ex= .ret/\af tm 6=aa (t:Nat)))/\ct=3/\t<1000000000/\dv x/dv vs<=t/\t<=dv x/dv vs+1:=by
 intro dq sq;generalize bh:aG [0,1,2,7,9,10] sq=s0;revert bh s0 sq dq;apply dj;rintro k s ⟨t,r,rfl,ht,hr,hQ,rfl⟩;have dE:=hl.n2;have rn:=hl.nb;have hlx:=hl.lx;have GY:=hl.My;have V4:=hl.EQ;have ah9:=hl.MA;have azV:=hl.u0W;have Qj:=hl.Mz;have zp:=hl.pos;have ru:=rR hw (i:=n-2) (by have:=hl.lv;omega);have fq:=rR hw (i:=n-1) (by have:=hl.lv;omega);rw [hl.dM] at ru;rw [hl.fp] at fq;have zO:=sY (l:=pre++x++post) (o:=pre.length+(n-2)) (by rw [pn];omega);rw [B1 (by omega),hl.h2] at zO;have Bi:(n:Int)-2=((n-2:Nat):Int):=by omega
 have rz:(n:Int)-1=((n-1:Nat):Int):=by omega
 have MP:(pre.length:Int)+(n:Int)=((pre.length+n:Nat):Int):=rfl;have X9:((pre.length+n:Nat):Int)-2=((pre.length+(n-2):Nat):Int):=by omega
 have aEi:t<=1000000000000000000:=by
  have:=y8 t zp
  omega
 have aEj:t*1<=t*v1:=y8 t zp;obtain ⟨Ya,Yb⟩:=azU hr ah9;by_cases zN:1000000000<=t\/r*1000000000+u2<t*v2
 ·have ht0:0<t:=by
   rcases xB t with h0 | h0
   ·subst h0;omega
   ·exact h0
  have h1:(t-1)*v1+(r+v1)=u0*1000000000+u1:=by
   obtain ⟨p,rfl⟩:∃p,t=p+1:=⟨t-1,by omega⟩;rw [wS,Nat.one_mul] at ht;rw [Nat.add_sub_cancel];omega
  have ER:dv x/dv vs<=t-1:=by
   rcases zN with h | h
   ·have:=hl.digit;generalize dv x/dv vs=q at*;omega
   ·exact hl.down ht h
  have RF:((t:Nat):Int)-1=((t-1:Nat):Int):=by omega
  have stop:1000000000<=r+v1->t-1<1000000000/\t-1<=dv x/dv vs+1:=fun hb=>by
   have aU:t-1<1000000000:=by
    by_cases zA:1000000000<=t-1
    ·have:=hl.small h1 zA;omega
    ·omega
   exact ⟨aU,hl.stop aU h1 (.inl hb)⟩
  by_cases hb:1000000000<=t
  ·by_cases nH:1000000000<=r+v1
   ·right
    obtain ⟨s1,s2⟩:=stop nH
    simp only [go_sem,ya,BY,H3,show (1000000000:Int)<=(t:Int) by omega,RF,wrapN (n:=t-1) (by omega),rz,wrapN (n:=n-1) (by omega),fq,show (r:Int)+(v1:Int)=((r+v1:Nat):Int) from rfl,wrapN (n:=r+v1) (by omega),show (1000000000:Int)<=((r+v1:Nat):Int) by omega];exact ⟨_,_,rfl,by simp,_,_,t-1,rfl,.inr ⟨rfl,by simp only [go_sem]⟩,rfl,s1,ER,s2⟩
   ·left
    simp only [go_sem,ya,BY,H3,show (1000000000:Int)<=(t:Int) by omega,RF,wrapN (n:=t-1) (by omega),rz,wrapN (n:=n-1) (by omega),fq,show (r:Int)+(v1:Int)=((r+v1:Nat):Int) from rfl,wrapN (n:=r+v1) (by omega),show ¬(1000000000:Int)<=((r+v1:Nat):Int) by omega];refine ⟨_,t-1,rfl,by omega,t-1,r+v1,?_,h1,by omega,ER,rfl⟩;rw [Od (by simp only [go_sem,ya,yJ,nh,n5,mW,mV,rF hw.pu,vG]) (by simp only [go_sem,ya,yd,yJ,aq hw.pu])];simp only [go_sem,ya]
  ·have rm:=xU (show t<=999999999 by omega) (show v2<=999999999 by omega);have Wz:r*1000000000+u2<t*v2:=zN.resolve_left hb;obtain ⟨m,hm⟩:∃m,t*v2=m:=⟨_,rfl⟩;have em:(t:Int)*(v2:Int)=(m:Int):=by rw [<-hm,vA]
   rw [hm] at Wz rm;have HH:(r:Int)*1000000000=((r*1000000000:Nat):Int):=by omega
   have CT:((r*1000000000:Nat):Int)+(u2:Int)=((r*1000000000+u2:Nat):Int):=rfl;by_cases nH:1000000000<=r+v1
   ·right
    obtain ⟨s1,s2⟩:=stop nH
    simp only [go_sem,ya,yh,BY,H3,show ¬(1000000000:Int)<=(t:Int) by omega,Bi,wrapN (n:=n-2) (by omega),ru,em,wrapN (n:=m) (by omega),HH,wrapN Ya,MP,wrapN (n:=pre.length+n) (by omega),X9,wrapN (n:=pre.length+(n-2)) (by omega),bA 1 0 (show pre.length+(n-2)<M by omega),yg,zO,CT,wrapN Yb,show ((r*1000000000+u2:Nat):Int)<(m:Int) from uQ.2 Wz,RF,wrapN (n:=t-1) (by omega),rz,wrapN (n:=n-1) (by omega),fq,show (r:Int)+(v1:Int)=((r+v1:Nat):Int) from rfl,wrapN (n:=r+v1) (by omega),show (1000000000:Int)<=((r+v1:Nat):Int) by omega];exact ⟨_,_,rfl,by simp,_,_,t-1,rfl,.inr ⟨rfl,by simp only [go_sem]⟩,rfl,s1,ER,s2⟩
   ·left
    simp only [go_sem,ya,yh,BY,H3,show ¬(1000000000:Int)<=(t:Int) by omega,Bi,wrapN (n:=n-2) (by omega),ru,em,wrapN (n:=m) (by omega),HH,wrapN Ya,MP,wrapN (n:=pre.length+n) (by omega),X9,wrapN (n:=pre.length+(n-2)) (by omega),bA 1 0 (show pre.length+(n-2)<M by omega),yg,zO,CT,wrapN Yb,show ((r*1000000000+u2:Nat):Int)<(m:Int) from uQ.2 Wz,RF,wrapN (n:=t-1) (by omega),rz,wrapN (n:=n-1) (by omega),fq,show (r:Int)+(v1:Int)=((r+v1:Nat):Int) from rfl,wrapN (n:=r+v1) (by omega),show ¬(1000000000:Int)<=((r+v1:Nat):Int) by omega];refine ⟨_,t-1,rfl,by omega,t-1,r+v1,?_,h1,by omega,ER,rfl⟩;rw [Od (by simp only [go_sem,ya,yJ,nh,n5,mW,mV,rF hw.pu,vG]) (by simp only [go_sem,ya,yd,yJ,aq hw.pu])];simp only [go_sem,ya]
 ·right
  have lH:t<1000000000:=Nat.lt_of_not_le fun e=>zN (.inl e)
  have rm:=xU (show t<=999999999 from yac lH) (show v2<=999999999 from yac V4);have WA:t*v2<=r*1000000000+u2:=Nat.le_of_not_lt fun e=>zN (.inr e)
  have axN:=hl.stop lH ht (.inr WA);obtain ⟨m,hm⟩:∃m,t*v2=m:=⟨_,rfl⟩;have em:(t:Int)*(v2:Int)=(m:Int):=by rw [<-hm,vA]
  rw [hm] at WA rm;have HH:(r:Int)*1000000000=((r*1000000000:Nat):Int):=by omega
  have CT:((r*1000000000:Nat):Int)+(u2:Int)=((r*1000000000+u2:Nat):Int):=rfl
  simp only [go_sem,ya,yh,BY,H3,show ¬(1000000000:Int)<=(t:Int) by omega,Bi,wrapN (n:=n-2) (by omega),ru,em,wrapN (n:=m) (by omega),HH,wrapN Ya,MP,wrapN (n:=pre.length+n) (by omega),X9,wrapN (n:=pre.length+(n-2)) (by omega),bA 1 0 (show pre.length+(n-2)<M by omega),yg,zO,CT,wrapN Yb,show ¬((r*1000000000+u2:Nat):Int)<(m:Int) from fun e=>Nat.not_lt_of_le WA (uQ.1 e)];exact ⟨_,_,rfl,by simp,_,_,t,rfl,.inl ⟨rfl,by simp only [go_sem,ya]⟩,rfl,lH,hQ,axN⟩
def axO (h:Has P L 301 AO) {w:AV} {x vs pre post qs:List Int} {f:Int} (hw:bq w vs) {n v1 v2 u0 u1 u2 M:Nat} (hl:gQ x vs n v1 v2 u0 u1 u2) (hM:M=pre.length+x.length+post.length) (MO:M<=50000000000):
  ∃t:Nat,ix P L (D P L) (H3 qs (pre++x++post) f) 3 301 [.ak 1 0 M,w,aa pre.length]=some (aa t,H3 qs (pre++x++post) f,3)/\t<1000000000/\dv x/dv vs<=t/\t<=dv x/dv vs+1:=by
 have dE:=hl.n2;have rn:=hl.nb;have hlx:=hl.lx;have zP:below 3 w:=rF hw.pu;have GY:=hl.My;have azV:=hl.u0W;have Qj:=hl.Mz;have zp:=hl.pos;have fq:=rR hw (i:=n-1) (by have:=hl.lv;omega);rw [hl.fp] at fq;have CV:=sY (l:=pre++x++post) (o:=pre.length+n) (by rw [pn];omega);rw [B1 (by omega),hl.h0] at CV;have CW:=sY (l:=pre++x++post) (o:=pre.length+(n-1)) (by rw [pn];omega);rw [B1 (by omega),hl.h1] at CW;have rz:(n:Int)-1=((n-1:Nat):Int):=by omega
 have MP:(pre.length:Int)+(n:Int)=((pre.length+n:Nat):Int):=rfl;have pn1:((pre.length+n:Nat):Int)-1=((pre.length+(n-1):Nat):Int):=by omega
 obtain ⟨m,hm⟩:∃m,m=u0*1000000000+u1:=⟨_,rfl⟩;have em:(u0:Int)*1000000000=((u0*1000000000:Nat):Int):=by omega
 have em2:((u0*1000000000:Nat):Int)+(u1:Int)=(m:Int):=by omega
 have gF:=wg m v1;have zm:=xH m zp;have OZ:=hl.first;rw [<-hm] at OZ;have aEx:m/v1<=m:=Nat.div_le_self _ _;have oq:IntKind.wrap .i64 ((m:Int).tdiv (v1:Int))=((m/v1:Nat):Int):=by
  rw [wG (by omega),<-Int.natCast_ediv,wrapN (by omega)]
 have or':(m:Int).tmod (v1:Int)=((m%v1:Nat):Int):=by rw [wF (by omega),<-Int.natCast_emod]
 rw [xO] at gF;generalize m/v1=q0 at*
 generalize m%v1=r0 at*
 have jB:∃ex tm t,D P L AO.body ⟨dN 0 [.ak 1 0 M,w,aa pre.length],H3 qs (pre++x++post) f,3,3⟩=some (ex,⟨tm,H3 qs (pre++x++post) f,3,3⟩)/\(ex= .normal\/ex= .ret)/\af tm 6=aa (t:Nat)/\t<1000000000/\dv x/dv vs<=t/\t<=dv x/dv vs+1:=by
  simp only [go_sem,ya,yh,AO,H3,hw.len,hl.lv,MP,wrapN (n:=pre.length+n) (by omega),bA 1 0 (show pre.length+n<M by omega),yg,CV,em,wrapN (n:=u0*1000000000) (by omega),pn1,wrapN (n:=pre.length+(n-1)) (by omega),bA 1 0 (show pre.length+(n-1)<M by omega),CW,em2,wrapN (n:=m) (by omega),rz,wrapN (n:=n-1) (by omega),fq,hZ _ _ _ (show (v1:Int)≠0 by omega),jt _ _ _ (show (v1:Int)≠0 by omega),oq,or'];generalize nL:D P L (.loop [0,1,2,7,9,10] BY) _=qq;obtain ⟨ex,s,rfl,tm,ct,t,rfl,GS,rfl,g1,g2,g3⟩:=bD nL (asJ (P:=P) (L:=L) (qs:=qs) (f:=f) hw hl hM MO q0) ⟨q0,r0,by
   rw [Od (by simp only [go_sem,ya,yJ,nh,n5,mW,mV,zP,vG]) (by simp only [go_sem,ya,yd,yJ,aq hw.pu])]
   simp only [go_sem,ya],by omega,by omega,OZ,rfl⟩
  rcases GS with ⟨rfl,h9⟩ | ⟨rfl,h6⟩
  ·simp only [go_sem,yJ,H3,Od,nh,mW,mV,h9,and_self];exact ⟨_,_,t,rfl,.inr rfl,by simp only [go_sem],g1,g2,g3⟩
  ·simp only [go_sem];exact ⟨_,_,t,rfl,.inr rfl,h6,g1,g2,g3⟩
 obtain ⟨ex,tm,t,g1,g2,g3,g4,g5,g6⟩:=jB;exact ⟨t,JG h g1 g2 (by show jr _ [RV.t 6]=_;rw [VW,U4,g3]),g4,g5,g6⟩
end
def azW {t v bo:Int} (ht:0<=t/\t<1000000000) (hv:0<=v/\v<1000000000) (hb:0<=bo/\bo<1000000000):0<=t*v/\t*v<=999999998000000001/\0<=t*v+bo/\t*v+bo<=999999999000000000:=by
 have h1:=tZ ht.1 hv.1;have h2:=ybw (show t<=999999999 by omega) (show v<=999999999 by omega) hv.1 (by decide);omega
def azX {x p:Int} (hx:0<=x/\x<1000000000) (hp:0<=p/\p<=999999999000000000):
  (x-p.tmod 1000000000<0->0<=x-p.tmod 1000000000+1000000000/\x-p.tmod 1000000000+1000000000<1000000000/\0<=p.tdiv 1000000000+1/\p.tdiv 1000000000+1<1000000000/\x-p.tmod 1000000000+1000000000+p=x+1000000000*(p.tdiv 1000000000+1))/\
  (¬x-p.tmod 1000000000<0->x-p.tmod 1000000000<1000000000/\0<=p.tdiv 1000000000/\p.tdiv 1000000000<1000000000/\x-p.tmod 1000000000+p=x+1000000000*p.tdiv 1000000000):=by grind
def TU {l:List Int} (h:dg l) {i:Nat} {z:Int} (hz:0<=z/\z<1000000000):dg (l.set i z):=OS h hz
def asK {b p z q v bo Bj x X Y S:Int} (h2:z+(q*v+bo)=x+b*Bj) (h3:Y+q*X=S+p*bo):(Y+p*(z-x))+q*(X+p*v)=S+p*b*Bj:=by grind
section
variable {P:aM} {L:Lib}
def asL {w:AV} {x vs pre post qs:List Int} {f:Int} (hw:bq w vs) {n M m:Nat} (lv:vs.length=n) (hM:M=pre.length+(n+1)+post.length) (MO:M<=50000000000) (gv:dg vs) {t:Int} (ht:0<=t/\t<1000000000):
  ∀k s,(∃(i:Nat) (bo:Int) (y:List Int),aG [8,9,10,11,12,13,14,15,16] s=⟨[(8,.ak 0 0 1),(9,w),(10,aa n),(11,.ak 1 0 M),(12,.ak 2 0 m),(13,aa pre.length),(14,aa t),(15,aa bo),(16,aa i)],H3 qs (pre++y++post) f,3,0⟩/\i+k=n/\y.length=n+1/\dg y/\(0<=bo/\bo<1000000000)/\
    sv y+t*sv (vs.take i)=sv x+1000000000^i*bo)->
   ∃ex s',D P L (.loop [8,9,10,11,12,13,14,15,16] FY) s=some (ex,s')/\∃tm bo y,s'=⟨tm,H3 qs (pre++y++post) f,3,0⟩/\ex= .exit 4/\af tm 8= .ak 0 0 1/\af tm 9=w/\af tm 10=aa n/\af tm 11= .ak 1 0 M/\af tm 12= .ak 2 0 m/\af tm 13=aa pre.length/\af tm 14=aa t/\af tm 15=aa bo/\y.length=n+1/\dg y/\(0<=bo/\bo<1000000000)/\
    sv y+t*sv vs=sv x+1000000000^n*bo:=by
 intro dq sq;generalize bh:aG [8,9,10,11,12,13,14,15,16] sq=s0;revert bh s0 sq dq;apply dj;rintro k s ⟨i,bo,y,rfl,hk,ly,gy,jH,aR⟩;by_cases hi:i<n
 ·left
  have sn:=iQ gv i;have rA:=iQ gy i;have ev:=rR hw (i:=i) (by omega);have ey:=sY (l:=pre++y++post) (o:=pre.length+i) (by rw [pn];omega);rw [B1 (by omega)] at ey;have eI:=OG (l:=vs) i;obtain ⟨a,ha⟩:∃a,a=vs.getD i 0:=⟨_,rfl⟩;obtain ⟨d,hd⟩:∃d,d=y.getD i 0:=⟨_,rfl⟩;rw [<-ha] at sn ev eI;rw [<-hd] at rA ey;obtain ⟨p1,p2,p3,p4⟩:=azW ht sn jH;obtain ⟨s1,s2⟩:=azX rA ⟨p3,p4⟩;have fC:(i:Int)+(pre.length:Int)=((pre.length+i:Nat):Int):=by omega
  have aJ:=fun (hp:Hp) (ct:Nat) (z:Int)=>C6 (hp:=hp) (ct:=ct) (id:=1) (v:=z) (ex:=false) (l:=pre++y++post) (o:=pre.length+i) (by rw [pn];omega)
  have px:=fun z=>O0 (pre:=pre) (x:=y) (post:=post) (i:=i) z (by omega)
  have aT:=fun z=>Ge (l:=y) (i:=i) (x:=z) (by omega)
  rw [<-hd] at aT;obtain ⟨pr,gD⟩:∃pr,pr=t*a+bo:=⟨_,rfl⟩;obtain ⟨dm,gF⟩:∃dm,pr.tmod 1000000000=dm:=⟨_,rfl⟩;obtain ⟨dq,EW⟩:∃dq,pr.tdiv 1000000000=dq:=⟨_,rfl⟩;have aEy:0<=dm/\dm<1000000000:=by rw [<-gF,wF (by omega)];omega
  have aEz:0<=dq/\dq<1000000000:=by rw [<-EW,wG (by omega)];omega
  rw [<-gD,gF,EW] at s1 s2;have key:∀z Bj,z+(t*a+bo)=d+1000000000*Bj->sv (y.set i z)+t*sv (vs.take (i+1))=sv x+1000000000^(i+1)*Bj:=fun z Bj h=>by
   rw [aT,eI,tA];exact asK h aR
  rw [<-gD] at key;by_cases ji:d-dm<0
  ·obtain ⟨q1,q2,q3,q4,q5⟩:=s1 ji;have kk:=key _ _ q5;obtain ⟨dr,jG⟩:∃dr,d-dm=dr:=⟨_,rfl⟩;rw [jG] at ji kk q1 q2
   simp only [go_sem,ya,yh,FY,H3,show (i:Int)<(n:Int) by omega,ev,wrap64 (n:=t*a) (by omega) (by omega),<-gD,wrap64 (n:=pr) (by omega) (by omega),fC,wrapN (n:=pre.length+i) (by omega),bA 1 0 (show pre.length+i<M by omega),yg,ey,jt _ _ _ (show (1000000000:Int)≠0 by decide),hZ _ _ _ (show (1000000000:Int)≠0 by decide),gF,EW,jG,wrap64 (n:=dr) (by omega) (by omega),wrap64 (n:=dq) (by omega) (by omega),ji,wrap64 (n:=dr+1000000000) (by omega) (by omega),wrap64 (n:=dq+1) (by omega) (by omega),aJ,px];refine ⟨_,k-1,rfl,by omega,i+1,dq+1,y.set i (dr+1000000000),?_,by omega,by simp [ly],TU gy ⟨q1,q2⟩,⟨q3,q4⟩,kk⟩;rw [wrap64 (by omega) (by omega)];simp only [go_sem,ya,yd,aw,aq hw.pu,au _ hw.pu]<;>rfl
  ·obtain ⟨q2,q3,q4,q5⟩:=s2 ji;have kk:=key _ _ q5;obtain ⟨dr,jG⟩:∃dr,d-dm=dr:=⟨_,rfl⟩;rw [jG] at ji kk q2
   simp only [go_sem,ya,yh,FY,H3,show (i:Int)<(n:Int) by omega,ev,wrap64 (n:=t*a) (by omega) (by omega),<-gD,wrap64 (n:=pr) (by omega) (by omega),fC,wrapN (n:=pre.length+i) (by omega),bA 1 0 (show pre.length+i<M by omega),yg,ey,jt _ _ _ (show (1000000000:Int)≠0 by decide),hZ _ _ _ (show (1000000000:Int)≠0 by decide),gF,EW,jG,wrap64 (n:=dr) (by omega) (by omega),wrap64 (n:=dq) (by omega) (by omega),ji,aJ,px];refine ⟨_,k-1,rfl,by omega,i+1,dq,y.set i dr,?_,by omega,by simp [ly],TU gy ⟨by omega,q2⟩,⟨q3,q4⟩,kk⟩;rw [wrap64 (by omega) (by omega)];simp only [go_sem,ya,yd,aw,aq hw.pu,au _ hw.pu]<;>rfl
 ·right
  have:i=n:=by omega
  subst this;rw [yC (by omega)] at aR;simp only [go_sem,ya,FY,H3,show ¬(i:Int)<(i:Int) by omega];exact ⟨_,_,rfl,by simp,_,bo,y,rfl,rfl,by simp only [go_sem,ya],by simp only [go_sem,ya],by simp only [go_sem,ya],by simp only [go_sem,ya],by simp only [go_sem,ya],by simp only [go_sem,ya],by simp only [go_sem,ya],by simp only [go_sem,ya],ly,gy,jH,aR⟩
def asM {b p z v c c' x X Y S:Int} (h2:z+b*c'=x+v+c) (h3:Y+p*c=S+X):(Y+p*(z-x))+p*b*c'=S+(X+p*v):=by grind
def asN {w:AV} {y0 vs pre post qs:List Int} {f:Int} (hw:bq w vs) {n M m:Nat} (lv:vs.length=n) (hM:M=pre.length+(n+1)+post.length) (MO:M<=50000000000) (gv:dg vs) {t top:Int}:
  ∀k s,(∃(i:Nat) (c:Int) (y:List Int),aG [8,9,10,11,12,13,14,19,20] s=⟨[(8,.ak 0 0 1),(9,w),(10,aa n),(11,.ak 1 0 M),(12,.ak 2 0 m),(13,aa pre.length),(14,aa t),(19,aa c),(20,aa i)],H3 qs (pre++y++post) f,3,0⟩/\i+k=n/\y.length=n+1/\dg (y.take n)/\y.getD n 0=top/\(0<=c/\c<=1)/\
    sv y+1000000000^i*c=sv y0+sv (vs.take i))->
   ∃ex s',D P L (.loop [8,9,10,11,12,13,14,19,20] J9) s=some (ex,s')/\∃tm c y,s'=⟨tm,H3 qs (pre++y++post) f,3,0⟩/\ex= .exit 6/\af tm 8= .ak 0 0 1/\af tm 9=w/\af tm 10=aa n/\af tm 11= .ak 1 0 M/\af tm 12= .ak 2 0 m/\af tm 13=aa pre.length/\af tm 14=aa t/\af tm 19=aa c/\y.length=n+1/\dg (y.take n)/\y.getD n 0=top/\(0<=c/\c<=1)/\
    sv y+1000000000^n*c=sv y0+sv vs:=by
 intro dq sq;generalize bh:aG [8,9,10,11,12,13,14,19,20] sq=s0;revert bh s0 sq dq;apply dj;rintro k s ⟨i,c,y,rfl,hk,ly,gy,py,hc,aR⟩;by_cases hi:i<n
 ·left
  have sn:=iQ gv i;have rA:=iQ gy i;have e0:(y.take n).getD i 0=y.getD i 0:=by
   simp [yM,hi]
  rw [e0] at rA;have ev:=rR hw (i:=i) (by omega);have ey:=sY (l:=pre++y++post) (o:=pre.length+i) (by rw [pn];omega);rw [B1 (by omega)] at ey;have eI:=OG (l:=vs) i;obtain ⟨a,ha⟩:∃a,a=vs.getD i 0:=⟨_,rfl⟩;obtain ⟨d,hd⟩:∃d,d=y.getD i 0:=⟨_,rfl⟩;rw [<-ha] at sn ev eI;rw [<-hd] at rA ey;have fC:(i:Int)+(pre.length:Int)=((pre.length+i:Nat):Int):=by omega
  have aT:=fun z=>Ge (l:=y) (i:=i) (x:=z) (by omega)
  rw [<-hd] at aT;have zm:(d+a+c).tmod 1000000000=(d+a+c)%1000000000:=wF (by omega);have hdiv:(d+a+c).tdiv 1000000000=(d+a+c)/1000000000:=wG (by omega);obtain ⟨z,hz⟩:∃z,z=(d+a+c)%1000000000:=⟨_,rfl⟩;obtain ⟨c',fV⟩:∃z,z=(d+a+c)/1000000000:=⟨_,rfl⟩;have WX:z+1000000000*c'=d+a+c:=by omega
  rw [<-hz] at zm;rw [<-fV] at hdiv;have aJ:=fun (hp:Hp) (ct:Nat)=>C6 (hp:=hp) (ct:=ct) (id:=1) (v:=z) (ex:=false) (l:=pre++y++post) (o:=pre.length+i) (by rw [pn];omega)
  have px:=O0 (pre:=pre) (x:=y) (post:=post) (i:=i) z (by omega)
  simp only [go_sem,ya,yh,J9,H3,show (i:Int)<(n:Int) by omega,ev,fC,wrapN (n:=pre.length+i) (by omega),bA 1 0 (show pre.length+i<M by omega),yg,ey,wrap64 (n:=d+a) (by omega) (by omega),wrap64 (n:=d+a+c) (by omega) (by omega),jt _ _ _ (show (1000000000:Int)≠0 by decide),hZ _ _ _ (show (1000000000:Int)≠0 by decide),zm,hdiv,wrap64 (n:=c') (by omega) (by omega),aJ,px];refine ⟨_,k-1,rfl,by omega,i+1,c',y.set i z,?_,by omega,by simp [ly],?_,by rw [aeJ (by omega)];exact py,⟨by omega,by omega⟩,?_⟩
  ·rw [wrap64 (by omega) (by omega)];simp only [go_sem,ya,yd,aw,aq hw.pu,au _ hw.pu]<;>rfl
  ·rw [yah];exact TU gy ⟨by omega,by omega⟩
  ·rw [aT,eI,tA];exact asM WX aR
 ·right
  have:i=n:=by omega
  subst this;rw [yC (show vs.length<=i by omega)] at aR;simp only [go_sem,ya,J9,H3,show ¬(i:Int)<(i:Int) by omega];exact ⟨_,_,rfl,by simp,_,c,y,rfl,rfl,by simp only [go_sem,ya],by simp only [go_sem,ya],by simp only [go_sem,ya],by simp only [go_sem,ya],by simp only [go_sem,ya],by simp only [go_sem,ya],by simp only [go_sem,ya],by simp only [go_sem,ya],ly,gy,py,hc,aR⟩
def asP {A V t:Nat} {y:List Int} {n:Nat} (hV:0<V) (ly:y.length=n+1) (gy:dg (y.take n)) (h:sv y=(A:Int)-t*V) (h1:A/V<=t) (h2:t<=A/V+1):
  (¬y.getD n 0<0->t=A/V/\sv y=((A%V:Nat):Int))/\(y.getD n 0<0->t=A/V+1/\sv y+V=((A%V:Nat):Int)):=by
 have gF:=wg A V;have hm:=xH A hV;have eI:=OG (l:=y) n;rw [yC (by omega),AH gy] at eI;have LD:=kh gy;have hp:(0:Int)<1000000000^n:=ycf (by decide);generalize y.getD n 0=top at*
 generalize A/V=Q at*
 have hq:t=Q\/t=Q+1:=by omega
 constructor
 ·intro h0;have h3:0<=(1000000000:Int)^n*top:=tZ (tB hp) (by omega);rcases hq with rfl | rfl
  ·grind
  ·grind
 ·intro h0;have h3:(1000000000:Int)^n*top<=-(1000000000^n):=by
   have:=uf (show top<=-1 by omega) (tB hp)
   grind
  rcases hq with rfl | rfl
  ·grind
  ·grind
def abE {y:List Int} {n:Nat} (ly:y.length=n+1) (gy:dg (y.take n)) (h0:0<=sv y) (h1:sv y<1000000000^n):y.getD n 0=0/\dg y/\sv y=dv y:=by
 have eI:=OG (l:=y) n;rw [yC (by omega),AH gy] at eI;have LD:=kh gy;rw [yI,xt (by omega)] at LD;have hp:(0:Int)<1000000000^n:=ycf (by decide);have Gv:((1000000000^n:Nat):Int)=(1000000000:Int)^n:=by simp
 have aEk:(dv (y.take n):Int)<1000000000^n:=by omega
 have ht:y.getD n 0=0:=by
  generalize y.getD n 0=top at*
  rcases Int.lt_trichotomy top 0 with h | h | h
  ·have:=uf (show top<=-1 by omega) (tB hp)
   grind
  ·grind
  ·have:=uf (show 1<=top by omega) (tB hp)
   grind
 have hg:dg y:=by
  have e:y=y.take n++[0]:=by
   have h1:y=y.take n++y.drop n:=(xZ n y).symm;have h2:y.drop n=[0]:=by
    rw [yP (by omega),xe (by omega)]
    grind
   grind
  rw [e];exact iM.2 ⟨gy,mA.2 ⟨by decide,by decide⟩⟩
 exact ⟨ht,hg,AH hg⟩
end
def asQ {l:List Int} {i:Nat} (h:i<l.length):dv (l.drop i)=(l.getD i 0).toNat+1000000000*dv (l.drop (i+1)):=by
 rw [yP h]
 have:l[i]=l.getD i 0:=by simp_all
 rw [this];rfl
def Ti (l:List Int) (i:Nat) (h:i<=l.length):dv l=dv (l.take i)+1000000000^i*dv (l.drop i):=by
 conv=>lhs;rw [<-xZ i l]
 rw [nU,yI,xt h]
def asR {sx sy sV:Int} {p:Int} {bo t:Int} {yn z:Int} {szy:Int} (h1:sy+t*sV=sx+p*bo) (h2:szy=sy+p*(z-yn)) (h3:z=yn-bo):szy=sx-t*sV:=by grind
section
variable {P:aM} {L:Lib}
def asS (rV:Has P L 301 AO) {w:AV} {vs:List Int} {f:Int} (hw:bq w vs) (gv:dg vs) {n M m:Nat} (lv:vs.length=n) (dE:2<=n) (hnM:n<M) (MO:M<=20000000000) (hm:m=M-n) (fp:0<vs.getD (n-1) 0) {U0:Nat}:
  ∀k st,(∃(j:Nat) (us qs:List Int),aG [8,9,10,11,12,13] st=⟨[(8,.ak 0 0 1),(9,w),(10,aa n),(11,.ak 1 0 M),(12,.ak 2 0 m),(13,aa ((j:Int)-1))],H3 qs us f,3,0⟩/\j=k/\j<=m/\us.length=M/\qs.length=m/\dg us/\dg qs/\(∀i,i<j->qs.getD i 0=0)/\
    dv us+dv qs*dv vs=U0/\dv (us.drop j)<dv vs)->
   ∃ex st',D P L (.loop [8,9,10,11,12,13] Ka) st=some (ex,st')/\∃tm us qs,st'=⟨tm,H3 qs us f,3,0⟩/\ex= .exit 2/\af tm 8= .ak 0 0 1/\af tm 10=aa n/\af tm 11= .ak 1 0 M/\af tm 12= .ak 2 0 m/\us.length=M/\qs.length=m/\dg us/\dg qs/\
    dv us+dv qs*dv vs=U0/\dv us<dv vs:=by
 intro dq sq;generalize bh:aG [8,9,10,11,12,13] sq=s0;revert bh s0 sq dq;apply dj;rintro k st ⟨j,us,qs,rfl,rfl,hj,lu,lq,gu,gq,hz,aR,py⟩
 cases j with
 | zero=>
  right
  simp only [go_sem,ya,Ka,H3,show ¬(0:Int)<=((0:Nat):Int)-1 by omega];exact ⟨_,_,rfl,by simp,_,us,qs,rfl,rfl,by simp only [go_sem,ya],by simp only [go_sem,ya],by simp only [go_sem,ya],by simp only [go_sem,ya],lu,lq,gu,gq,aR,by simpa using py⟩
 | succ j=>
  left
  obtain ⟨pre,fC⟩:∃p,p=us.take j:=⟨_,rfl⟩;obtain ⟨x,hx⟩:∃p,p=(us.drop j).take (n+1):=⟨_,rfl⟩;obtain ⟨post,gU⟩:∃p,p=us.drop (j+(n+1)):=⟨_,rfl⟩;have lp:pre.length=j:=by rw [fC,yI];omega
  have lx:x.length=n+1:=by rw [hx,yI,we];omega
  have lpo:M=pre.length+(n+1)+post.length:=by rw [lp,gU,we];omega
  have kV:us=pre++x++post:=by
   rw [fC,hx,gU,<-vS,xm,xZ,xZ]
  have gpo:dg post:=by
   have:=gu;rw [kV] at this;exact (iM.1 this).2
  have gpx:=by have:=gu;rw [kV] at this;exact (iM.1 this).1
  have gx:dg x:=(iM.1 gpx).2;have V7:dg pre:=(iM.1 gpx).1;have hA:=asQ (l:=us) (i:=j) (by omega);have ME:=iQ gu j;have XK:us.drop j=x++post:=by rw [gU,hx,<-vS,xZ]
  have Bl:dv (us.drop j)=dv x+1000000000^(n+1)*dv post:=by rw [XK,nU,lx]
  have MB:=kh gv;rw [lv] at MB;have aU:dv (us.drop j)<1000000000*dv vs:=by omega
  have hp0:dv post=0:=by
   rcases xB (dv post) with e | e
   ·exact e
   ·have h1:=y8 (1000000000^(n+1)) e;rw [yh,xi] at h1;rw [xi] at Bl;omega
  rw [hp0,xM,y7] at Bl;have MQ:=fun (l:List Int) (hl:dg l) (i:Nat)=>iQ hl i
  obtain ⟨v1,fq⟩:∃v:Nat,vs.getD (n-1) 0=v:=⟨(vs.getD (n-1) 0).toNat,by have:=MQ vs gv (n-1);omega⟩;obtain ⟨v2,ru⟩:∃v:Nat,vs.getD (n-2) 0=v:=⟨(vs.getD (n-2) 0).toNat,by have:=MQ vs gv (n-2);omega⟩;obtain ⟨u0,CV⟩:∃v:Nat,x.getD n 0=v:=⟨(x.getD n 0).toNat,by have:=MQ x gx n;omega⟩;obtain ⟨u1,CW⟩:∃v:Nat,x.getD (n-1) 0=v:=⟨(x.getD (n-1) 0).toNat,by have:=MQ x gx (n-1);omega⟩;obtain ⟨u2,zO⟩:∃v:Nat,x.getD (n-2) 0=v:=⟨(x.getD (n-2) 0).toNat,by have:=MQ x gx (n-2);omega⟩;have hl:gQ x vs n v1 v2 u0 u1 u2:=⟨dE,by omega,lx,lv,gx,gv,fq,ru,CV,CW,zO,by omega,by rw [<-Bl];exact aU⟩
  have Qk:=hl.digit;have sj:0<dv vs:=by omega
  have zm:=xH (dv x) sj;obtain ⟨t,e1,ht1,Xe,ht3⟩:=axO (P:=P) (L:=L) rV hw hl (pre:=pre) (post:=post) (qs:=qs) (f:=f) (M:=M) (by omega) (by omega);rw [<-kV,lp] at e1;have XM:dv us=dv pre+1000000000^j*dv x:=by
   have:=Ti us j (by omega)
   rw [Bl,<-fC] at this;exact this
  have V8:∀y,dv (pre++y++post)=dv pre+1000000000^j*dv y:=fun y=>by
   rw [xm,nU,nU,hp0,xM,y7,lp]
  have jA:=aat (b:=0) XM aR;have zP:below 3 w:=rF hw.pu;have aT:=Ge (l:=qs) (i:=j) (x:=((dv x/dv vs:Nat):Int)) (by omega);have gq':dg (qs.set j ((dv x/dv vs:Nat):Int)):=OS gq ⟨tQ _,uQ.2 Qk⟩;rw [hz j (by omega),Int.sub_zero,AH gq,AH gq'] at aT;have aT:dv (qs.set j ((dv x/dv vs:Nat):Int))=dv qs+1000000000^j*(dv x/dv vs):=by
   have Gv:((1000000000^j*(dv x/dv vs):Nat):Int)=(1000000000:Int)^j*((dv x/dv vs:Nat):Int):=by rw [vA];simp
   rw [<-Gv] at aT;exact yaL (by rw [yaE,yaE,aT,ybk])
  have fin:∀(s':St) (x':List Int),aG [8,9,10,11,12,13] s'=⟨[(8,.ak 0 0 1),(9,w),(10,aa n),(11,.ak 1 0 M),(12,.ak 2 0 m),(13,aa ((j:Int)-1))],H3 (qs.set j ((dv x/dv vs:Nat):Int)) (pre++x'++post) f,3,0⟩->x'.length=n+1->dg x'->sv x'=((dv x%dv vs:Nat):Int)->
    ∃(j':Nat) (us qs:List Int),aG [8,9,10,11,12,13] s'=⟨[(8,.ak 0 0 1),(9,w),(10,aa n),(11,.ak 1 0 M),(12,.ak 2 0 m),(13,aa ((j':Int)-1))],H3 qs us f,3,0⟩/\j'=j/\j'<=m/\us.length=M/\qs.length=m/\dg us/\dg qs/\(∀i,i<j'->qs.getD i 0=0)/\dv us+dv qs*dv vs=U0/\dv (us.drop j')<dv vs:=fun s' x' hc XL Ro MF=>by
   have aiE:dv x'=dv x%dv vs:=by rw [AH Ro] at MF;exact yaL MF
   refine ⟨j,_,_,hc,rfl,by omega,by rw [pn,XL];omega,by simp [lq],iM.2 ⟨iM.2 ⟨V7,Ro⟩,gpo⟩,gq',fun i hi=>by rw [aeJ (by omega)];exact hz i (by omega),?_,?_⟩
   ·rw [V8,aiE,aT];exact jA
   ·rw [xm,List.drop_left' lp,nU,hp0,xM,y7,aiE];exact zm
  have aiF:=fun (z:Int) (hp:Hp) (ct:Nat)=>C6 (hp:=hp) (ct:=ct) (id:=2) (v:=z) (ex:=true) (l:=qs) (o:=j) (by omega)
  have svx:=AH gx;have svv:=AH gv;simp only [H3] at e1;simp only [go_sem,ya,Ka,H3,show ((j+1:Nat):Int)-1=(j:Int) by omega,show (0:Int)<=(j:Int) by omega,agV,e1];generalize nL:D P L (.loop [8,9,10,11,12,13,14,15,16] FY) _=qq;obtain ⟨ex,s,rfl,tm,bo,y,rfl,rfl,t8,t9,t10,t11,t12,t13,t14,t15,ly,gy,jH,hv⟩:=bD nL (asL (P:=P) (L:=L) (x:=x) (pre:=pre) (post:=post) (qs:=qs) (f:=f) (m:=m) (M:=M) hw lv lpo (by omega) gv (t:=t) (by omega) n) ⟨0,0,x,by
   rw [kV,lp]
   simp only [go_sem,ya,yd,aw,aq hw.pu,au _ hw.pu]<;>rfl,by omega,lx,gx,by omega,by simp [sv]⟩
  rw [lp] at t13;have hyn:=iQ gy n;have Yc:=sY (l:=pre++y++post) (o:=pre.length+n) (by rw [pn];omega);rw [B1 (by omega),lp] at Yc;obtain ⟨z,E4⟩:∃z,z=y.getD n 0-bo:=⟨_,rfl⟩;have GB:=fun (hp:Hp) (ct:Nat)=>C6 (hp:=hp) (ct:=ct) (id:=1) (v:=z) (ex:=false) (l:=pre++y++post) (o:=j+n) (by rw [pn];omega)
  have px:=O0 (pre:=pre) (x:=y) (post:=post) (i:=n) z (by omega);rw [lp] at px;rw [px] at GB;have oD:=Ge (l:=y) (i:=n) (x:=z) (by omega);have PM:=asR hv oD E4;have CU:(y.set n z).length=n+1:=by simp [ly]
  have ES:dg ((y.set n z).take n):=by
   have:(y.set n z).take n=y.take n:=by rw [yah,yaf (by simp;omega)]
   rw [this];exact Dt gy n
  rw [svx,svv] at PM;obtain ⟨s0,s1⟩:=asP sj CU ES PM Xe ht3;have eg:(y.set n z).getD n 0=z:=aoA (by omega);rw [eg] at s0 s1;have Yd:=sY (l:=pre++y.set n z++post) (o:=pre.length+n) (by rw [pn];omega);rw [B1 (by omega),lp,eg] at Yd;generalize y.set n z=y1 at*
  have ss:((10^9:Int))=1000000000:=by decide
  by_cases ji:z<0
  ·obtain ⟨f1,f2⟩:=s1 ji
   simp only [go_sem,ya,yd,yh,aw,aq hw.pu,au _ hw.pu,t8,t9,t10,t11,t12,t13,t14,t15,show (j:Int)+(n:Int)=((j+n:Nat):Int) from rfl,wrapN (n:=j+n) (by omega),bA 1 0 (show j+n<M by omega),yg,Yc,<-E4,wrap64 (n:=z) (by omega) (by omega),GB,Yd,ji];generalize Em:D P L (.loop [8,9,10,11,12,13,14,19,20] J9) _=XF;obtain ⟨ex,s,rfl,rX,c,y2,rfl,rfl,t8,t9,t10,t11,t12,t13,t14,t19,XH,Rj,ag0,hc,dM⟩:=bD Em (asN (P:=P) (L:=L) (y0:=y1) (pre:=pre) (post:=post) (qs:=qs) (f:=f) (m:=m) (M:=M) (t:=(t:Int)-1) (top:=z) hw lv lpo (by omega) gv n) ⟨0,0,y1,by
    rw [lp,wrap64 (n:=(t:Int)-1) (by omega) (by omega)]
    simp only [go_sem,ya,yd,aw,aq hw.pu,au _ hw.pu]<;>rfl,by omega,CU,ES,eg,by omega,by simp [sv]⟩
   rw [lp] at t13;have aiG:=sY (l:=pre++y2++post) (o:=pre.length+n) (by rw [pn];omega);rw [B1 (by omega),lp,ag0] at aiG;have Qi:=fun (hp:Hp) (ct:Nat)=>C6 (hp:=hp) (ct:=ct) (id:=1) (v:=z+c) (ex:=false) (l:=pre++y2++post) (o:=j+n) (by rw [pn];omega)
   have Pw:=O0 (pre:=pre) (x:=y2) (post:=post) (i:=n) (z+c) (by omega);rw [lp] at Pw;rw [Pw] at Qi;have A8:=Ge (l:=y2) (i:=n) (x:=z+c) (by omega);rw [ag0,show z+c-z=c by omega,dM,svv,f2] at A8;have MC:(y2.set n (z+c)).length=n+1:=by simp [XH]
   have Rk:dg ((y2.set n (z+c)).take n):=by
    have:(y2.set n (z+c)).take n=y2.take n:=by rw [yah,yaf (by simp;omega)]
    rw [this];exact Rj
   have Ye:((dv x%dv vs:Nat):Int)<1000000000^n:=by
    have Gv:((1000000000^n:Nat):Int)=(1000000000:Int)^n:=by simp
    rw [<-Gv];omega
   obtain ⟨g1,g2,g3⟩:=abE MC Rk (by rw [A8];omega) (by rw [A8];exact Ye)
   generalize y2.set n (z+c)=y3 at*
   have ft:(t:Int)-1=((dv x/dv vs:Nat):Int):=by rw [f1];omega
   simp only [go_sem,ya,yd,yh,aw,aq hw.pu,au _ hw.pu,t8,t9,t10,t11,t12,t13,t14,t19,show (j:Int)+(n:Int)=((j+n:Nat):Int) from rfl,wrapN (n:=j+n) (by omega),bA 1 0 (show j+n<M by omega),yg,aiG,wrap64 (n:=z+c) (by omega) (by omega),Qi,bA 2 0 (show j<m by omega),aiF];rw [ft];refine ⟨_,j,rfl,by omega,fin _ y3 ?_ MC g2 A8⟩;rw [wrap64 (by omega) (by omega)];simp only [go_sem,ya,yd,aw,aq hw.pu,au _ hw.pu]<;>rfl
  ·obtain ⟨f1,f2⟩:=s0 ji;have Ye:((dv x%dv vs:Nat):Int)<1000000000^n:=by
    have Gv:((1000000000^n:Nat):Int)=(1000000000:Int)^n:=by simp
    rw [<-Gv];omega
   obtain ⟨g1,g2,g3⟩:=abE CU ES (by rw [f2];omega) (by rw [f2];exact Ye)
   simp only [go_sem,ya,yd,yh,aw,aq hw.pu,au _ hw.pu,t8,t9,t10,t11,t12,t13,t14,t15,show (j:Int)+(n:Int)=((j+n:Nat):Int) from rfl,wrapN (n:=j+n) (by omega),bA 1 0 (show j+n<M by omega),yg,Yc,<-E4,wrap64 (n:=z) (by omega) (by omega),GB,Yd,ji,bA 2 0 (show j<m by omega),aiF];rw [f1];refine ⟨_,j,rfl,by omega,fin _ y1 ?_ CU g2 f2⟩;rw [wrap64 (by omega) (by omega)];simp only [go_sem,ya,yd,aw,aq hw.pu,au _ hw.pu]<;>rfl
end
end VE
