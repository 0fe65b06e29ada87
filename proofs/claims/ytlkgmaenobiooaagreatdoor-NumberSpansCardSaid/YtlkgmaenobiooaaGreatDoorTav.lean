import Derived.Test.YtlkgmaenobiooaaGreatDoorTat
import Derived.Test.YtlkgmaenobiooaaGreatDoorTai
import Derived.Test.YtlkgmaenobiooaaGreatDoorTaq
import Derived.Test.YtlkgmaenobiooaaGreatDoorTar
import Derived.Test.YtlkgmaenobiooaaGreatDoorTas
set_option linter.all false
set_option maxRecDepth 100000
open Bool renaming and_eq_true→yg,and_self→we,false_and→wg,false_eq_true→yE,false_or→uD,not_false→yH,not_true→yI,true_and→xV,true_or→tA
open Go renaming DataW→xv,Field→uJ,FloatKind→vL,IntKind→yV,MemPlace→wh,Program→xe,TypeId→yt,Value→yf,World→yh
open Int renaming natAbs_natCast→yQ,natCast_mul→xE,neg_neg→ybG,tdiv_eq_ediv_of_nonneg→xX,tmod_eq_emod_of_nonneg→wc,toNat_natCast→xC,toNat_of_nonneg→yaq
open List renaming append_assoc→xD,append_nil→wG,drop→wK,drop_eq_getElem_cons→yX,drop_eq_nil_of_le→xn,drop_zero→ye,eq_nil_of_length_eq_zero→yN,flatMap_def→yaM,length_append→yU,length_cons→yx,length_drop→wm,length_map→xq,length_nil→yJ,length_take→yR,mapM_cons→vQ,map_append→xR,map_cons→xi,mem_cons→wb,mem_map→ua,replicate→yF,take_length→xW,take_of_length_le→yK
open List.cons renaming injEq→vU
open Nat renaming add_zero→yW,beq→yu,ble→yG,blt→yL,eq_of_beq_eq_true→yo,gcd→wu,le_of_ble_eq_true→yv,le_refl→yA,le_trans→yS,lt_of_lt_of_le→yO,mul_assoc→xo,mul_one→yj,mul_zero→xG,pow_add→xO,pow_le_pow_left→tf,pow_le_pow_right→xx,pow_mul→tg,pow_succ→xh,reduceAdd→yb,reduceEqDiff→ya,reduceLT→yr,reduceLeDiff→yi,reduceMul→xT,zero_add→yd
open Option renaming bind_eq_bind→wW,bind_some→xJ,map_eq_some_iff→wo,pure_def→wD
open Option.some renaming injEq→yc
open Prod.mk renaming injEq→yq
namespace VE
section
open Go (IntKind)
def arG:∀(cs:List AV) (l:List Nat),su cs=some l->cs=l.map uc/\lo 18446744073709551616 l:=by
 intro cs
 induction cs with
 | nil=>
  intro l h;simp only [su,yc] at h;subst h;exact ⟨rfl,fun _ h=>by cases h⟩
 | cons c cs ih=>
  intro l h;unfold su at h
  split at h
  ·grind
  ·rename_i d r oV;cases oV
   cases hb:yL d 18446744073709551616 with
   | false=>rw [hb] at h;cases h
   | true=>
    rw [hb] at h
    cases hw:su cs with
    | none=>rw [hw] at h;cases h
    | some l'=>
     rw [hw] at h;cases h;obtain ⟨k1,k2⟩:=ih l' hw;refine ⟨by rw [k1];rfl,fun x hx=>?_⟩
     rcases wb.1 hx with rfl | hx
     ·simp_all
     ·exact k2 x hx
  ·cases h
def afO:∀{l:List Nat},Ct l=true->gB l
 | [],h=>by cases h
 | [a],h=>by
  have h0:a≠0:=fun e=>by subst e;cases h
  exact F2 h0 []
 | a::b::r,h=>by
  have h1:ez (b::r)=b::r:=afO (l:=b::r) h;show ez (a::(b::r))=_
  simp only [ez] at h1 ⊢;rw [h1]
section
variable {P:aJ} {L:Lib}
def axu (h:Has P L 99 Fv) (abG:L.pure 135=some LA) {s:Int} (hs:Co s=true):bZ P L (D P L) 99 [.agg [ab s,.aa]]=some (.str (aV s)):=by
 have e1:bZ P L (D P L) 135 [ab s]=some (.str (aV s)):=by
  rw [jt abG];show (bif Co s then some (AV.str (aV s)) else none)=_
  rw [hs];rfl
 rw [ax h];simp only [go_sem,ya,yb,Fv,az,aP,yd,bj,gX,cY,e1]
end
section
open Go
variable {O:bw}
def Kj (hO:ep O) (hN:Nu O.prog O.aE) (abG:O.aE.pure 135=some LA) (E4:O.aE.pure 138=some BH) (AM:O.aE.pure 139=some BW) (IP:Has O.prog O.aE 99 Fv) {fn:Func} {c:Code} (gR:O.P.funcs[O.aj 99]? =some fn) (jn:fn.body=some c) (SG:fn.ntmps=69)
  (abD:Sh 5 c) (ht:VJ O.P c):∀av r,BY av=some r->dF O 99 av r:=by
 intro av r h;unfold BY at h
 split at h
 ·rename_i s
  cases hs:Co s with
  | false=>rw [hs] at h;cases h
  | true=>
   rw [hs] at h;cases h;obtain ⟨k,hk⟩:=GN (axu (P:=O.prog) (L:=O.aE) IP abG hs);exact sound hO hk
 ·rename_i s e n cs
  cases hw:su cs with
  | none=>rw [hw] at h;cases h
  | some l=>
   rw [hw] at h;simp only at h
   cases hb:(yu l.length n&&(yG n 4000000000&&(Ct l&&yG 9223372036854775808 (sQ l)))) with
   | false=>rw [hb] at h;cases h
   | true=>
    rw [hb] at h;simp only [yg] at hb;obtain ⟨h1,h2,h3,h4⟩:=hb;obtain ⟨rfl,a8⟩:=arG cs l hw;have h1:=yo h1;subst h1;have h2:=yv h2;have h4:=yv h4;have h3:=afO h3;rw [VH] at h4 h;have aZ:=mG a8;have key:=fun (s z:Int) (hz:z.natAbs=bv 18446744073709551616 l) (hs:s=if z<0 then -1 else 1)=>
     avn hO hN E4 AM IP.code gR jn SG abD ht (s:=s) (z:=z) (e:=e) (l:=l) (.inr ⟨e,l,rfl,a8,h3,hz.symm,hs,by omega⟩) (by omega) h2 (by omega)
    split at h
    ·cases h
     have:=key 1 (bv 18446744073709551616 l:Nat) (by simp) (by rw [yp (by omega)])
     exact this
    ·cases h
     have:=key (-1) (-(bv 18446744073709551616 l:Nat):Int) (by simp) (by rw [yz (by omega)])
     rw [jZ (by omega)] at this
     grind
    ·cases h
 ·cases h
end
end
section
open Go
def Ei (L:Lib) (n:Nat) (sp:List AV->Option AV):Lib:=⟨fun i=>bif yu i n then some sp else L.pure i,L.heap⟩
def Kk {O:bw} (hO:ep O) {n:Nat} {sp:List AV->Option AV} (h:∀av r,sp av=some r->dF O n av r):ep (O.oh (Ei O.aE n sp)) where
 hint:=hO.hint
 mixed:=hO.mixed
 prog:=hO.prog
 aE i SU av r hi hs:=by
  show dF O i av r
  simp only [Ei] at hi
  cases hb:yu i n with
  | true=>
   simp_all
  | false=>
   rw [hb] at hi;exact hO.aE i SU av r hi hs
 Ha i SU hp ct av v aw a6 hi hs:=afy (hO.Ha i SU hp ct av v aw a6 hi hs)
end
section
open Go
section
variable {H:Type} {enc:yt×yf->H} {P:xe} {w:yh} {base:Nat} {sp:Nat->Bool} {held:Bool}
def mapM_mem {α β:Type} {f:α->Option β}:∀{l:List α} {r:List β},l.mapM f=some r->∀y,y∈r->∃x,f x=some y
 | [],r,h,y,hy=>by simp only [List.mapM_nil,wD,yc] at h;subst h;cases hy
 | x::l,r,h,y,hy=>by
  rw [vQ] at h
  cases h1:f x with
  | none=>simp [h1] at h
  | some z=>
   cases h2:l.mapM f with
   | none=>simp [h1,h2] at h
   | some zs=>
    simp only [h1,h2,xJ,wW,wD,yc] at h;subst h;rcases wb.1 hy with rfl | hy
    ·exact ⟨x,h1⟩
    ·exact mapM_mem h2 y hy
def Rd (enc:yt×yf->H) (P:xe) (w:yh) (base:Nat) (sp:Nat->Bool) (held:Bool) (t:yt) (d:xv H):Prop:=∃bk cs ps,DataW.trod enc P w base sp held bk t cs=some (d,ps)
def aBe {t:yt} {k:yV} {d:xv H} {n:Nat} (ht:P.underlying t=some (.int k)) (h:Rd enc P w base sp held t d):∃z,df P (n+1) t d=[.int k z]/\(Lit.int k z).wf=true:=by
 obtain ⟨bk,cs,ps,h⟩:=h
 cases bk with
 | zero=>simp [DataW.trod] at h
 | succ bk=>
  unfold DataW.trod at h
  split at h
  all_goals first
   | (rename_i hu;rw [ht] at hu;cases hu;done)
   | skip
  ·rename_i k1 k2 z hu;rw [ht] at hu;injection hu with hu
   injection hu with hu
   subst hu
   split at h
   ·rename_i hk;simp only [yc,yq] at h;obtain ⟨rfl,rfl⟩:=h;exact ⟨z,by simp only [df,ht],hk.2⟩
   ·cases h
  all_goals (cases h;done)
def avq {t e:yt} {d:xv H} {n:Nat} (ht:P.underlying t=some (.slice e)) (h:Rd enc P w base sp held t d):
  df P (n+1) t d=[.aa]\/∃(x:Bool) (jN:List (xv H)),df P (n+1) t d=[.ap x jN.length (jN.flatMap fun y=>df P n e y)]/\∀y,y∈jN->Rd enc P w base sp held e y:=by
 obtain ⟨bk,cs,ps,h⟩:=h
 cases bk with
 | zero=>simp [DataW.trod] at h
 | succ bk=>
  unfold DataW.trod at h
  split at h
  all_goals first
   | (rename_i hu;rw [ht] at hu;cases hu;done)
   | skip
  ·simp only [yc,yq] at h;obtain ⟨rfl,rfl⟩:=h;exact .inl (by simp only [df,ht])
  ·rename_i e' a len cap hu;rw [ht] at hu;injection hu with hu
   injection hu with hu
   subst hu;simp only at h
   split at h
   case isFalse=>cases h
   cases h1:(List.range len).mapM fun i=>(w.cells? base (a.add (i*P.cellsOf e)) (P.cellsOf e)).bind (DataW.trod enc P w base sp held bk e) with
   | none=>rw [h1] at h;simp at h
   | some jN=>
    rw [h1] at h;simp only [xJ] at h;obtain ⟨rest,_,h⟩:=wo.1 h;simp only [yq] at h;obtain ⟨rfl,rfl⟩:=h;refine .inr ⟨(rest.map (·.1)).isEmpty,jN.map (·.1),by simp only [df,ht,xq],?_⟩;intro y hy;obtain ⟨p,hp,rfl⟩:=ua.1 hy;obtain ⟨i,hi⟩:=mapM_mem h1 p hp;obtain ⟨eG,_,C9⟩:=Option.bind_eq_some_iff.1 hi;exact ⟨bk,eG,p.2,C9⟩
  all_goals (cases h;done)
def atj {t:yt} {fs:Array uJ} {d:xv H} {n:Nat} (ht:P.underlying t=some (.struct fs)) (h:Rd enc P w base sp held t d):
  ∃ds:List (xv H),ds.length=fs.toList.length/\df P (n+1) t d=(fs.toList.zip ds).flatMap (fun x=>df P n x.1.type x.2)/\∀i (h1:i<fs.toList.length) (h2:i<ds.length),Rd enc P w base sp held fs.toList[i].type ds[i]:=by
 obtain ⟨bk,cs,ps,h⟩:=h
 cases bk with
 | zero=>simp [DataW.trod] at h
 | succ bk=>
  unfold DataW.trod at h
  split at h
  all_goals first
   | (rename_i hu;rw [ht] at hu;cases hu;done)
   | (cases h;done)
   | skip
  rename_i cs x1 Nz fs' hu;rw [ht] at hu;injection hu with hu
  injection hu with hu
  subst hu
  split at h
  case isFalse=>cases h
  obtain ⟨xs,h1,h⟩:=wo.1 h;simp only [yq] at h;obtain ⟨rfl,rfl⟩:=h;refine ⟨xs.map (·.1),by simp [Ow h1],by simp only [df,ht],?_⟩;have key:∀{r:List uJ} {xs:List (xv H×List wh)},r.mapM (fun f=>DataW.trod enc P w base sp held bk f.type ((cs.drop f.offset).take (P.cellsOf f.type)))=some xs->
    ∀i (h1:i<r.length) (h2:i<(xs.map (·.1)).length),Rd enc P w base sp held r[i].type (xs.map (·.1))[i]:=by
   intro r
   induction r with
   | nil=>intro xs h i h1;exact absurd h1 (Nat.not_lt_zero i)
   | cons f r ih=>
    intro xs h i h1 h2;rw [vQ] at h
    cases g1:DataW.trod enc P w base sp held bk f.type ((cs.drop f.offset).take (P.cellsOf f.type)) with
    | none=>simp [g1] at h
    | some x=>
     cases g2:r.mapM (fun f=>DataW.trod enc P w base sp held bk f.type ((cs.drop f.offset).take (P.cellsOf f.type))) with
     | none=>simp [g1,g2] at h
     | some ys=>
      simp only [g1,g2,xJ,wW,wD,yc] at h;subst h
      cases i with
      | zero=>exact ⟨bk,_,x.2,g1⟩
      | succ i=>exact ih g2 i (by simpa using h1) (by simpa using h2)
  exact key h1
def avr {t e:yt} {k:Nat} {d:xv H} {n:Nat} (ht:P.underlying t=some (.array k e)) (h:Rd enc P w base sp held t d):
  ∃ds:List (xv H),ds.length=k/\df P (n+1) t d=ds.flatMap (fun x=>df P n e x)/\∀y,y∈ds->Rd enc P w base sp held e y:=by
 obtain ⟨bk,cs,ps,h⟩:=h
 cases bk with
 | zero=>simp [DataW.trod] at h
 | succ bk=>
  unfold DataW.trod at h
  split at h
  all_goals first
   | (rename_i hu;rw [ht] at hu;cases hu;done)
   | (cases h;done)
   | skip
  rename_i cs x1 Nz k' e' hu;rw [ht] at hu;injection hu with hu
  injection hu with rM Bn
  subst rM;subst Bn
  split at h
  case isFalse=>cases h
  obtain ⟨xs,h1,h⟩:=wo.1 h;simp only [yq] at h;obtain ⟨rfl,rfl⟩:=h;refine ⟨xs.map (·.1),by simp [Ow h1],by simp only [df,ht],fun y hy=>?_⟩;obtain ⟨p,hp,rfl⟩:=ua.1 hy;obtain ⟨i,hi⟩:=mapM_mem h1 p hp;exact ⟨bk,_,p.2,hi⟩
end
end
section
open Go
inductive Ty
 | int (k:yV)
 | b5 (k:vL)
 | bool
 | str
 | sl (e:Ty)
 | nil
 | cat (a b:Ty)
 | ar (n:Nat) (e:Ty)
def iU:Ty->List AV->Prop
 | .int k,l=>∃z,l=[.int k z]/\(Lit.int k z).wf=true
 | .b5 k,l=>∃b,l=[.b5 k b]
 | .bool,l=>∃b,l=[.bool b]
 | .str,l=>∃s:List Nat,l=[.str s]/\s.length<9223372036854775808/\∀c,c∈s->c<256
 | .sl e,l=>l=[.aa]\/∃(x:Bool) (ps:List (List AV)),l=[.ap x ps.length ps.flatten]/\∀p,p∈ps->iU e p
 | .nil,l=>l=[]
 | .cat a b,l=>∃x y,l=x++y/\iU a x/\iU b y
 | .ar n e,l=>∃ps:List (List AV),ps.length=n/\l=ps.flatten/\∀p,p∈ps->iU e p
def nG:List (Option Ty)->Option Ty
 | []=>some .nil
 | some a::r=>match nG r with
  | some b=>some (.cat a b)
  | none=>none
 | none::_=>none
def gk (P:xe):Nat->yt->Option Ty
 | 0,_=>none
 | n+1,t=>
  match P.underlying t with
  | some .bool=>some .bool
  | some (.int k)=>some (.int k)
  | some (.float k)=>some (.b5 k)
  | some .string=>some .str
  | some (.slice e)=>(gk P n e).map .sl
  | some (.struct fs)=>nG (fs.toList.map fun f=>gk P n f.type)
  | some (.array k e)=>(gk P n e).map (.ar k)
  | _=>none
section
variable {H:Type} {enc:yt×yf->H} {P:xe} {w:yh} {base:Nat} {sp:Nat->Bool} {held:Bool}
def aBf {t:yt} {k:vL} {d:xv H} {n:Nat} (ht:P.underlying t=some (.float k)) (h:Rd enc P w base sp held t d):∃b,df P (n+1) t d=[.b5 k b]:=by
 obtain ⟨bk,cs,ps,h⟩:=h
 cases bk with
 | zero=>simp [DataW.trod] at h
 | succ bk=>
  unfold DataW.trod at h
  split at h
  all_goals first
   | (rename_i hu;rw [ht] at hu;cases hu;done)
   | skip
  ·rename_i k1 k2 z hu;rw [ht] at hu;injection hu with hu
   injection hu with hu
   subst hu
   split at h
   ·simp only [yc,yq] at h;obtain ⟨rfl,rfl⟩:=h;exact ⟨z,by simp only [df,ht]⟩
   ·cases h
  all_goals (cases h;done)
def axv {t:yt} {d:xv H} {n:Nat} (ht:P.underlying t=some .bool) (h:Rd enc P w base sp held t d):∃b,df P (n+1) t d=[.bool b]:=by
 obtain ⟨bk,cs,ps,h⟩:=h
 cases bk with
 | zero=>simp [DataW.trod] at h
 | succ bk=>
  unfold DataW.trod at h
  split at h
  all_goals first
   | (rename_i hu;rw [ht] at hu;cases hu;done)
   | skip
  ·simp only [yc,yq] at h;obtain ⟨rfl,rfl⟩:=h;rename_i b _;exact ⟨b,by simp only [df,ht]⟩
  all_goals (cases h;done)
def aBg {t:yt} {d:xv H} {n:Nat} (ht:P.underlying t=some .string) (h:Rd enc P w base sp held t d):
  ∃s:List Nat,df P (n+1) t d=[.str s]/\s.length<9223372036854775808/\∀c,c∈s->c<256:=by
 obtain ⟨bk,cs,ps,h⟩:=h
 cases bk with
 | zero=>simp [DataW.trod] at h
 | succ bk=>
  unfold DataW.trod at h
  split at h
  all_goals first
   | (rename_i hu;rw [ht] at hu;cases hu;done)
   | skip
  ·rename_i s hu
   split at h
   ·rename_i hs;simp only [yc,yq] at h;obtain ⟨rfl,rfl⟩:=h;refine ⟨_,by simp only [df,ht];rfl,?_,fun c hc=>?_⟩
    ·simp only [xq,Array.length_toList];have h1:s.size<=9223372036854775807:=hs;have h2:s.data.size=s.size:=rfl;omega
    ·obtain ⟨b,_,rfl⟩:=ua.1 hc;exact b.toNat_lt
   ·cases h
  all_goals (cases h;done)
def ae6 {n:Nat} (ih:∀{t:yt} {T:Ty} {d:xv H},gk P n t=some T->Rd enc P w base sp held t d->iU T (df P n t d)):
  ∀(fs:List uJ) (ds:List (xv H)) (T:Ty),nG (fs.map fun f=>gk P n f.type)=some T->ds.length=fs.length->(∀i (h1:i<fs.length) (h2:i<ds.length),Rd enc P w base sp held fs[i].type ds[i])->
   iU T ((fs.zip ds).flatMap fun x=>df P n x.1.type x.2)
 | [],ds,T,hT,_,_=>by
  simp only [List.map_nil,nG,yc] at hT;subst hT;simp [iU]
 | f::fs,[],T,_,hl,_=>by simp at hl
 | f::fs,d::ds,T,hT,hl,hr=>by
  simp only [xi] at hT
  cases h1:gk P n f.type with
  | none=>simp [h1,nG] at hT
  | some a=>
   cases h2:nG (fs.map fun f=>gk P n f.type) with
   | none=>simp [h1,h2,nG] at hT
   | some b=>
    simp only [h1,h2,nG,yc] at hT;subst hT;simp only [List.zip_cons_cons,List.flatMap_cons];exact ⟨_,_,rfl,ih h1 (hr 0 (by simp) (by simp)),ae6 ih fs ds b h2 (by simpa using hl) (fun i h1 h2=>hr (i+1) (by simpa using h1) (by simpa using h2))⟩
def ak1:∀(n:Nat) {t:yt} {T:Ty} {d:xv H},gk P n t=some T->Rd enc P w base sp held t d->iU T (df P n t d)
 | 0,t,T,d,hT,_=>by simp [gk] at hT
 | n+1,t,T,d,hT,hr=>by
  have ih:=@ak1 n
  cases hu:P.underlying t with
  | none=>simp [gk,hu] at hT
  | some u=>
   cases u with
   | slice e=>
    simp only [gk,hu] at hT;obtain ⟨E,hE,rfl⟩:=wo.1 hT
    rcases avq (n:=n) hu hr with h | ⟨x,jN,h,hm⟩
    ·exact .inl h
    ·refine .inr ⟨x,jN.map (df P n e),by rw [h,xq,yaM],fun p hp=>?_⟩;obtain ⟨y,hy,rfl⟩:=ua.1 hp;exact ih hE (hm y hy)
   | struct fs=>
    simp only [gk,hu] at hT;obtain ⟨ds,e1,e2,e3⟩:=atj (n:=n) hu hr;rw [e2];exact ae6 ih fs.toList ds T hT e1 e3
   | array k e=>
    simp only [gk,hu] at hT;obtain ⟨E,hE,rfl⟩:=wo.1 hT;obtain ⟨ds,e1,e2,e3⟩:=avr (n:=n) hu hr;refine ⟨ds.map (df P n e),by simp [e1],by rw [e2,yaM],fun p hp=>?_⟩;obtain ⟨y,hy,rfl⟩:=ua.1 hp;exact ih hE (e3 y hy)
   | int k=>
    simp only [gk,hu,yc] at hT;subst hT;exact aBe hu hr
   | float k=>
    simp only [gk,hu,yc] at hT;subst hT;exact aBf hu hr
   | bool=>
    simp only [gk,hu,yc] at hT;subst hT;exact axv hu hr
   | string=>
    simp only [gk,hu,yc] at hT;subst hT;exact aBg hu hr
   | _=>simp [gk,hu] at hT
def H8:Ty->List AV->AV
 | .nil,l | .cat _ _,l | .ar _ _,l=> .agg l
 | _,l=>l.headD .undef
def atk:∀{l:List (Option Ty)} {T:Ty},nG l=some T->∀x,H8 T x= .agg x
 | [],T,h=>by simp only [nG,yc] at h;subst h;exact fun _=>rfl
 | none::r,T,h=>by simp [nG] at h
 | some a::r,T,h=>by
  cases h1:nG r with
  | none=>simp [nG,h1] at h
  | some b=>
   simp only [nG,h1,yc] at h;subst h;exact fun _=>rfl
def aCR {n:Nat} {t:yt} {T:Ty} {d:xv H} (hT:gk P n t=some T):lS P n t d=H8 T (df P n t d):=by
 cases n with
 | zero=>simp [gk] at hT
 | succ n=>
  cases hu:P.underlying t with
  | none=>simp [gk,hu] at hT
  | some u=>
   cases u with
   | slice e=>
    simp only [gk,hu] at hT;obtain ⟨E,hE,rfl⟩:=wo.1 hT;simp only [lS,hu,H8]
   | struct fs=>
    simp only [gk,hu] at hT;rw [atk hT];simp only [lS,hu]
   | array k e=>
    simp only [gk,hu] at hT;obtain ⟨E,hE,rfl⟩:=wo.1 hT;simp only [lS,hu,H8]
   | _=>
    simp only [gk,hu,yc,reduceCtorEq] at hT<;>
    (subst hT
     simp only [lS,hu,H8])
def oz:List Ty->List (List AV)->List AV
 | T::Ts,l::ls=>H8 T l::oz Ts ls
 | _,_=>[]
def Gd {n:Nat}:∀{ts:List yt} {Ts:List Ty} {vs:List yf} {ds:List (xv H)} {ps:List wh},(ts.map (gk P n))=Ts.map some->DataW.TrodAll enc P w base sp held ts vs ds ps->
  ∃ls,hJ iU Ts ls/\ot P n ts ds=oz Ts ls/\ds.length=ts.length
 | [],[],[],[],ps,_,_=>⟨[],trivial,rfl,rfl⟩
 | t::ts,T::Ts,v::vs,d::ds,ps,hT,⟨p,q,⟨bk,h1⟩,h2,_⟩=>by
  simp only [xi,vU] at hT;obtain ⟨ls,k1,k2,k3⟩:=Gd hT.2 h2;exact ⟨df P n t d::ls,⟨ak1 n hT.1 ⟨bk,_,_,h1⟩,k1⟩,by simp only [ot,oz,k2,aCR hT.1],by simp [k3]⟩
 | [],_::_,_,_,_,h,_=>by simp at h
 | _::_,[],_,_,_,h,_=>by simp at h
 | [],[],_::_,_,_,_,h=>by simp [DataW.TrodAll] at h
 | [],[],[],_::_,_,_,h=>by simp [DataW.TrodAll] at h
 | _::_,_,[],_,_,_,h=>by simp [DataW.TrodAll] at h
 | _::_,_,_::_,[],_,_,h=>by simp [DataW.TrodAll] at h
def aBh {α β:Type} {p:α->β->Prop} {a:α}:∀{l:List β},hJ p [a] l->∃x,l=[x]/\p a x
 | [x],h=>⟨x,rfl,h.1⟩
 | [],h=>h.elim
 | _::_::_,h=>h.2.elim
def ak2 {α β:Type} {p:α->β->Prop} {a b:α}:∀{l:List β},hJ p [a,b] l->∃x y,l=[x,y]/\p a x/\p b y
 | x::l,h=>let ⟨y,h1,h2⟩:=aBh h.2;⟨x,y,by rw [h1],h.1,h2⟩
 | [],h=>h.elim
def PC {α β:Type} {p:α->β->Prop} {a b c:α}:∀{l:List β},hJ p [a,b,c] l->∃x y z,l=[x,y,z]/\p a x/\p b y/\p c z
 | x::l,h=>let ⟨y,z,h1,h2,h3⟩:=ak2 h.2;⟨x,y,z,by rw [h1],h.1,h2,h3⟩
 | [],h=>h.elim
end
end
section
open Go (IntKind)
abbrev Ae:Ty:= .cat .str (.cat .str .nil)
def BN {l:List AV} (h:iU Ae l):∃x y:List Nat,l=[.str x,.str y]/\x.length<9223372036854775808/\y.length<9223372036854775808:=by
 obtain ⟨_,_,rfl,⟨x,rfl,hx,_⟩,_,_,rfl,⟨y,rfl,hy,_⟩,rfl⟩:=h;exact ⟨x,y,rfl,hx,hy⟩
end
section
open Go (IntKind)
def KI (n:Nat):10^n<=2^(4*n):=by
 rw [tg];exact tf (by decide) n
def UQ {b:Nat} {r:List Nat} (h:dG (b::r)=true):48<=b/\b<=57:=by
 simp only [dG,yg] at h
 simp_all
section
variable {P:aJ} {L:Lib}
def ak3 (h:Tx P L) {ds:List Nat} {N:Nat} (hD:cW ds 0=some N) (hl:ds.length<=4000000000) {neg:Bool} {o1 o2:AV}:
  ∀m st,(∃(pre rest:List Nat) (a:Nat) (s:Int) (w:AV),bS [0,2,3,4] st=⟨[(0,.str rest),(2,.ptr 0 0),(3,.bool neg),(4,.ptr 1 0)],[(1,.cells true true true 2 [ab s,w]),(0,.cells true true true 2 [o1,o2])],2,0⟩/\ds=pre++rest/\cW pre 0=some a/\cx s w a/\rest.length=m)->
   ∃ex st',D P L (.loop [0,2,3,4] Gw) st=some (ex,st')/\∃tm s w,st'=⟨tm,[(1,.cells true true true 2 [ab s,w]),(0,.cells true true true 2 [o1,o2])],2,0⟩/\ex= .exit 0/\ak tm 2= .ptr 0 0/\ak tm 3= .bool neg/\ak tm 4= .ptr 1 0/\cx s w N:=by
 refine cR (I:=fun m st=>∃(pre rest:List Nat) (a:Nat) (s:Int) (w:AV),st=⟨[(0,.str rest),(2,.ptr 0 0),(3,.bool neg),(4,.ptr 1 0)],[(1,.cells true true true 2 [ab s,w]),(0,.cells true true true 2 [o1,o2])],2,0⟩/\ds=pre++rest/\cW pre 0=some a/\cx s w a/\rest.length=m)
  (Q:=fun ex st'=>∃tm s w,st'=⟨tm,[(1,.cells true true true 2 [ab s,w]),(0,.cells true true true 2 [o1,o2])],2,0⟩/\ex= .exit 0/\ak tm 2= .ptr 0 0/\ak tm 3= .bool neg/\ak tm 4= .ptr 1 0/\cx s w N) ?_
 rintro m st ⟨pre,rest,a,s,w,rfl,mY,fj,hn,rfl⟩;obtain ⟨l1,u1⟩:=hn.aK;have mI:=hD;rw [mY,Kr,fj] at mI;have mI:cW rest a=some N:=mI;have hlen:pre.length+rest.length<=4000000000:=by rw [mY,yU] at hl;exact hl
 by_cases h0:rest.length=0
 ·right
  have hr:rest=[]:=yN h0;subst hr
  have:a=N:=by simpa [cW] using mI
  subst this;simp only [go_sem,Gw,yJ,show ¬(0:Int)<((0:Nat):Int) by omega];exact ⟨_,_,rfl,by simp,_,s,w,rfl,rfl,by simp only [go_sem,ya],by simp only [go_sem,ya],by simp only [go_sem,ya],hn⟩
 ·left
  obtain ⟨n,De⟩:∃n,n=min 18 rest.length:=⟨_,rfl⟩;have al8:(if (rest.length:Int)<18 then (rest.length:Int) else 18)=(n:Int):=by split<;>omega
  have jm:rest.take n++rest.drop n=rest:=List.take_append_drop n rest;obtain ⟨a',Fp⟩:∃a',cW (rest.take n) a=some a':=by
   rw [<-jm,Kr] at mI
   cases hq:cW (rest.take n) a with
   | none=>rw [hq] at mI;cases mI
   | some a'=>exact ⟨a',rfl⟩
  obtain ⟨v,hv⟩:∃v,cW (rest.take n) 0=some v:=by
   have:∀(l:List Nat) (x y b:Nat),cW l x=some y->∃z,cW l b=some z:=by
    intro l
    induction l with
    | nil=>intro x y b _;exact ⟨b,rfl⟩
    | cons c l ih=>
     intro x y b hh;simp only [cW] at hh ⊢
     cases hb:(yG 48 c&&yG c 57) with
     | false=>rw [hb] at hh;cases hh
     | true=>rw [hb] at hh;exact ih _ _ _ hh
   exact this _ _ _ 0 Fp
  have anG:=avl (a:=a) hv;have htl:(rest.take n).length=n:=by rw [yR];omega
  rw [htl,Fp,yc] at anG;have abH:=VI hv;rw [htl] at abH;have aKT:v<1000000000000000000:=yO abH (xx (n:=10) (by decide) (show n<=18 by omega));have e1:=axr (P:=P) h.abz (f:=D P L) (s:=rest.take n) (by omega) (by omega) hv;obtain ⟨t1,t2⟩:=rH h.toNu (z:=10) (by decide) (by decide);obtain ⟨t3,t4⟩:=rH h.toNu (z:=(v:Int)) (by omega) (by omega);obtain ⟨p,e2,hp⟩:=abB h.toNu h.MM t2 (K:=4) (k:=n) (by unfold Bd;decide) (by omega) (by omega)
  have halt:=VI fj;have ba:Bd (4*pre.length) (a:Int):=yO halt (KI _);have bp:Bd (4*n+1) ((10:Int)^n):=Bd.pow (k:=4) (by unfold Bd;decide) n
  obtain ⟨q,e3,hq⟩:=oL h.toNu (v:= .agg [ab s,w]) ⟨s,w,rfl,hn⟩ hp (K:=4*pre.length+4*n+1) (ba.mono (by omega)) (bp.mono (by omega)) (by omega);have bv':Bd (4*n) (v:Int):=yO abH (KI _);obtain ⟨r,e4,hr⟩:=E3 h.toNu hq t4 (K:=4*pre.length+4*n+1) ((ba.mul bp).mono (by omega)) (bv'.mono (by omega)) (by omega);have aM:(a:Int)*10^n+(v:Int)=(a':Int):=by
   rw [anG]
   simp
  rw [aM] at hr;obtain ⟨s2,w2,rfl,h2⟩:=hp;obtain ⟨s3,w3,rfl,h3⟩:=hq;obtain ⟨s4,w4,rfl,h4⟩:=hr;obtain ⟨l2,u2⟩:=h2.aK;obtain ⟨l3,u3⟩:=h3.aK;obtain ⟨l4,u4⟩:=h4.aK;have un:=od;have c1:iw rest (some 0) (some n)=some (.str (rest.take n)):=by rw [lQ (by omega) (by omega),ye]
  have c2:iw rest (some n) (some rest.length)=some (.str (rest.drop n)):=by rw [lQ (by omega) (by omega),xW]
  simp only [go_sem,ya,Gw,show (0:Int)<(rest.length:Nat) by omega,V2,Vg,al8,eR,eZ,dO,c1,c2,e1,bL,t1,t3,aU,u1.ao,u2.ao,u3.ao,un.ao,e2,e3,e4,bq,bL,ye,cJ u4];refine ⟨_,(rest.drop n).length,rfl,by rw [wm];omega,pre++rest.take n,rest.drop n,a',s4,w4,by simp only [go_sem,ya,yb,aH],by rw [xD,jm];exact mY,by rw [Kr,fj];exact Fp,h4,rfl⟩
def UR {b:Nat} {r:List Nat} (h:48<=b):gK [45] (b::r)=false:=by
 show (yu 45 b&&true)=false
 rw [ig (by omega)];rfl
def MO (h:Tx P L) {z:Int} (hz:(aV z).length<=4000000000):∃r,ai P L 110 [.str (aV z)] r/\cu r z:=by
 have hN:=zJ z.natAbs;have un:=od;have Bf:(au z.natAbs).length<=4000000000:=by
  by_cases h0:z<0
  ·rw [jZ h0] at hz;simp at hz;omega
  ·rw [<-oc,yp h0] at hz;simpa using hz
 have ba:Bd (4*(au z.natAbs).length) (z.natAbs:Int):=yO (VI hN) (KI _);by_cases h0:z<0
 ·have hs:aV z=45::au z.natAbs:=jZ h0;have e1:bZ P L (D P L) 152 [.str (45::au z.natAbs),.str [45]]=some (.bool true):=by rw [jt h.anA];rfl
  have e2:bZ P L (D P L) 153 [.str (45::au z.natAbs),.str [45]]=some (.str (au z.natAbs)):=by rw [jt h.aby];rfl
  have iz:∃s w r,ai P L 110 [.str (aV z)] r/\cx s w (z.natAbs:Int)/\ai P L 147 [.agg [ab s,w]] r/\cu r (-(z.natAbs:Int)):=by
   rw [hs];unfold ai;rw [ax h.anC];simp only [go_sem,ya,yb,Qh,az,e1,e2,un.pu,un.one,cJ un];generalize hq:D P L (.loop [0,2,3,4] Gw) _=q;obtain ⟨ex,st,rfl,tm,s,w,rfl,rfl,t2,t3,t4,h5⟩:=cG hq (ak3 (P:=P) (L:=L) h hN Bf (neg:=true) (o1:= .int .i64 0) (o2:= .aa) (au z.natAbs).length) ⟨[],au z.natAbs,0,0,.aa,by simp only [go_sem,ya,yb,aH]<;>rfl,rfl,rfl,.inl ⟨rfl,rfl,by decide,by decide⟩,rfl⟩
   obtain ⟨l5,u5⟩:=h5.aK;obtain ⟨r,e3,hr⟩:=H6 h.toNu (v:= .agg [ab s,w]) ⟨s,w,rfl,h5⟩ (K:=4*(au z.natAbs).length) ba (by omega);have cM:=hr;obtain ⟨s6,w6,rfl,h6⟩:=hr;obtain ⟨l6,u6⟩:=h6.aK;refine ⟨s,w,_,?_,h5,e3,cM⟩;simp only [go_sem,ya,yb,aH,t2,t3,t4,bL,aU,u5.ao,e3,bq,di,dj,bL,ye,kC u6,cJ u6]
  obtain ⟨s,w,r,g1,_,_,g2⟩:=iz;rw [show -((z.natAbs:Nat):Int)=z by omega] at g2;exact ⟨r,g1,g2⟩
 ·have hs:aV z=au z.natAbs:=by rw [<-oc,yp h0];rfl
  obtain ⟨b,r0,hb,kQ,hb2⟩:=F6 z.natAbs;have e1:bZ P L (D P L) 152 [.str (au z.natAbs),.str [45]]=some (.bool false):=by
   rw [jt h.anA,hb];show some (AV.bool (gK [45] (b::r0)))=_
   rw [UR kQ]
  have e2:bZ P L (D P L) 153 [.str (au z.natAbs),.str [45]]=some (.str (au z.natAbs)):=by
   rw [jt h.aby,hb];show some (AV.str (bif gK [45] (b::r0) then _ else _))=_
   rw [UR kQ];rfl
  have iz:∃s w,ai P L 110 [.str (aV z)] (.agg [ab s,w])/\cx s w (z.natAbs:Int):=by
   rw [hs];unfold ai;rw [ax h.anC];simp only [go_sem,ya,yb,Qh,az,e1,e2,un.pu,un.one,cJ un];generalize hq:D P L (.loop [0,2,3,4] Gw) _=q;obtain ⟨ex,st,rfl,tm,s,w,rfl,rfl,t2,t3,t4,h5⟩:=cG hq (ak3 (P:=P) (L:=L) h hN Bf (neg:=false) (o1:= .int .i64 0) (o2:= .aa) (au z.natAbs).length) ⟨[],au z.natAbs,0,0,.aa,by simp only [go_sem,ya,yb,aH]<;>rfl,rfl,rfl,.inl ⟨rfl,rfl,by decide,by decide⟩,rfl⟩
   obtain ⟨l5,u5⟩:=h5.aK;refine ⟨s,w,?_,h5⟩;simp only [go_sem,ya,yb,aH,t2,t3,t4,bL,di,dj,bL,ye,kC u5,cJ u5]
  obtain ⟨s,w,g1,g2⟩:=iz;rw [show ((z.natAbs:Nat):Int)=z by omega] at g2;exact ⟨_,g1,s,w,rfl,g2⟩
def Kl (b:Nat) (r:List Nat) (c:Nat):gK [c] (b::r)=yu c b:=by
 show (yu c b&&true)=_
 grind
def aeu:∀(l r:List Nat) (k:Nat),(∀x,x∈l->x≠47)->mB [47] (l++47::r) k=some (k+l.length)
 | [],r,k,_=>by
  show (bif gK [47] (47::r) then some k else _)=_
  rw [Kl];rfl
 | b::l,r,k,h=>by
  show (bif gK [47] (b::(l++47::r)) then some k else mB [47] (l++47::r) (k+1))=_
  rw [Kl,ig (fun e=>h b (by simp) e.symm),yM,aeu l r (k+1) (fun x hx=>h x (by simp [hx])),yx]
  grind
def index_none:∀(l:List Nat) (k:Nat),(∀x,x∈l->x≠47)->mB [47] l k=none
 | [],k,_=>rfl
 | b::l,k,h=>by
  show (bif gK [47] (b::l) then some k else mB [47] l (k+1))=_
  rw [Kl,ig (fun e=>h b (by simp) e.symm),yM,index_none l (k+1) (fun x hx=>h x (by simp [hx]))]
def agG:∀{l:List Nat},dG l=true->∀x,x∈l->48<=x/\x<=57
 | [],_,x,hx=>by simp at hx
 | b::l,h,x,hx=>by
  have h1:=UQ h;simp only [dG,yg] at h;rcases wb.1 hx with rfl | hx
  ·grind
  ·exact agG h.2 x hx
def aqc (z:Int):∀x,x∈aV z->x≠47:=fun x hx=>by
 rw [<-oc] at hx;rcases List.mem_append.1 hx with h | h
 ·grind
 ·have:=agG (zI _) x h;omega
def m62 (h:Tx P L) {a:Rat} (hl:(RT a).length<4000000000):∃r,ai P L 62 [.str (RT a)] r/\b9 r a:=by
 have Iu:=aqc a.num;unfold RT at hl ⊢;by_cases hd:a.den=1
 ·rw [yz hd,wG] at hl ⊢;obtain ⟨p,e1,hp⟩:=MO h (z:=a.num) (by omega);obtain ⟨r,e2,hr⟩:=Sg h.toFr' hp;rw [<-Pf a hd] at hr;have cM:=hr;obtain ⟨s1,w1,rfl,h1⟩:=hp;obtain ⟨s2,w2,s3,w3,rfl,h2,h3⟩:=hr;obtain ⟨l1,u1⟩:=h1.aK;obtain ⟨l2,u2⟩:=h2.aK;obtain ⟨l3,u3⟩:=h3.aK;have e0:bZ P L (D P L) 109 [.str (aV a.num),.str [47]]=some (.af [.str (aV a.num),.str [],.bool false]):=by
   rw [jt h.abA];show (bif yL (aV a.num).length 4294967281 then (match mB [47] (aV a.num) 0 with | some i=>_ | none=>some (AV.af [.str (aV a.num),.str [],.bool false])) else none)=_
   rw [lk (by omega),index_none _ _ Iu];rfl
  refine ⟨_,?_,cM⟩;unfold ai;rw [ax h.Tt];simp only [go_sem,ya,yb,IC,az,e0,e1,bq,u1.ao,aU,e2,jP u2 u3,di,dj,ye,gg,lU u2 u3]
 ·rw [yp hd] at hl ⊢;simp only [yU,yx] at hl;obtain ⟨p,e1,hp⟩:=MO h (z:=a.num) (by omega);obtain ⟨q,e2,hq⟩:=MO h (z:=(a.den:Int)) (by rw [jY];omega);rw [jY] at e2;obtain ⟨s1,w1,rfl,h1⟩:=hp;obtain ⟨s2,w2,rfl,h2⟩:=hq;obtain ⟨l1,u1⟩:=h1.aK;obtain ⟨l2,u2⟩:=h2.aK;have e0:bZ P L (D P L) 109 [.str (aV a.num++47::au a.den),.str [47]]=some (.af [.str (aV a.num),.str (au a.den),.bool true]):=by
   rw [jt h.abA];show (bif yL (aV a.num++47::au a.den).length 4294967281 then (match mB [47] (aV a.num++47::au a.den) 0 with | some i=>some (AV.af [.str ((aV a.num++47::au a.den).take i),.str ((aV a.num++47::au a.den).drop (i+1)),.bool true]) | none=>_) else none)=_
   rw [lk (by simp;omega),aeu _ _ _ Iu];simp only [yd,yB,List.take_left];rw [show (aV a.num).length+1=(aV a.num++[47]).length by simp,show aV a.num++47::au a.den=(aV a.num++[47])++au a.den by simp,List.drop_left]
  refine ⟨.agg [ab s1,w1,ab s2,w2],?_,s1,w1,s2,w2,rfl,h1,h2⟩;unfold ai;rw [ax h.Tt];simp only [go_sem,ya,yb,IC,az,e0,e1,e2,bq,u1.one,u2.one,pC,pD,jP u1 u2,di,dj,ye,gg,lU u1 u2]
end
end
section
open Go (IntKind)
def dQ (p:List Nat):Bool:=dG p&&(match p with | []=>false | b::r=> !(yu b 48)||r.isEmpty)
def fw (p:List Nat):Nat:=(cW p 0).getD 0
def mP (neg:Bool) (t:List Nat):Int:=
 if dQ (t.take (bX t))=false\/(neg=true/\t.take (bX t)=[48]) then 1
 else if bX t<t.length/\(dQ (t.drop (bX t+1))=false\/t.drop (bX t+1)=[48]\/t.drop (bX t+1)=[49]) then 1
 else if 600<bX t\/600<t.length-bX t-1 then 4
 else if bX t<t.length/\wu (fw (t.take (bX t))) (fw (t.drop (bX t+1)))≠1 then 1
 else 0
def bE:List Nat->Int
 | []=>mP false []
 | b::t=>if b=45 then mP true t else mP false (b::t)
def agH:∀{p:List Nat} (a:Nat),dG p=true->∃n,cW p a=some n
 | [],a,_=>⟨a,rfl⟩
 | b::r,a,h=>by
  have h':=h;simp only [dG,yg] at h';obtain ⟨n,hn⟩:=agH (p:=r) (10*a+(b-48)) h'.2;exact ⟨n,by simp only [cW,h'.1.1,h'.1.2,we,yB];exact hn⟩
def F7:∀(k:Nat) {p:List Nat},p.length=k->dQ p=true->au (fw p)=p:=by
 intro k
 induction k with
 | zero=>intro p hl h;rw [yN hl] at h;simp [dQ] at h
 | succ k ih=>
  intro p hl h;rcases snoc p with rfl | ⟨m,a,rfl⟩
  ·grind
  ·simp only [dQ,yg,N9] at h;obtain ⟨⟨h1,h2⟩,h3⟩:=h;simp only [dG,yg] at h2;have ha1:=yv h2.1.1;have ha2:=yv h2.1.2;obtain ⟨n,hn⟩:=agH 0 h1;have hv:fw (m++[a])=10*n+(a-48):=by
    unfold fw;rw [Kr,hn];simp only [xJ,cW,h2.1.1,h2.1.2,we,yB,Option.getD_some]
   cases m with
   | nil=>
    have:n=0:=by simpa [cW] using hn.symm
    rw [hv,n9 (by omega)]
    simp;omega
   | cons b r=>
    have hd:dQ (b::r)=true:=by
     simp only [dQ,h1,xV]
     cases r with
     | nil=>simp
     | cons c r=>simp at h3 ⊢;exact h3
    have hm:=ih (p:=b::r) (by simpa using hl) hd;have hnv:fw (b::r)=n:=by unfold fw;rw [hn];rfl
    rw [hnv] at hm;have Dd:n≠0:=fun e=>by
     rw [n9 (by omega)] at hm
     simp_all
    rw [hv,po (by omega),show (10*n+(a-48))/10=n by omega,show 48+(10*n+(a-48))%10=a by omega,hm]
def ad2 (t:List Nat):bX t<t.length->t=t.take (bX t)++47::t.drop (bX t+1):=by
 induction t with
 | nil=>simp
 | cons b r ih=>
  intro h;simp only [bX] at h ⊢
  grind
def afP {n:Int} {d:Nat} (hd:0<d) (hg:wu n.natAbs d=1):∃r:Rat,r.num=n/\r.den=d:=⟨⟨n,d,by omega,hg⟩,rfl,rfl⟩
def aBi {s:List Nat} (h:bE s=0):∃r:Rat,s=RT r/\(au r.num.natAbs).length<=600/\(au r.den).length<=600:=by
 have key:∀(neg:Bool) (t:List Nat),mP neg t=0->∃r:Rat,(if neg=true then [45] else [])++t=RT r/\(au r.num.natAbs).length<=600/\(au r.den).length<=600:=by
  intro neg t h;unfold mP at h
  split at h
  ·grind
  rename_i h1
  split at h
  ·grind
  rename_i h2
  split at h
  ·grind
  rename_i h3
  split at h
  ·grind
  rename_i h4;have hle:=Kh t;have hp:dQ (t.take (bX t))=true:=by
   cases hb:dQ (t.take (bX t)) with
   | true=>rfl
   | false=>exact absurd (.inl hb) h1
  have rS:=F7 _ rfl hp;generalize hn:fw (t.take (bX t))=n at*
  have aCS:neg=true->n≠0:=fun hh e=>by
   subst e;exact h1 (.inr ⟨hh,by rw [<-rS];rfl⟩)
  have hint:(if neg=true then [45] else [])++au n=aV (if neg=true then -(n:Int) else n):=by
   cases neg with
   | true=>
    have:=aCS rfl
    simp only [xm];rw [jZ (by omega)]
    simp
   | false=>simp [jY]
  have abI:(if neg=true then -(n:Int) else n).natAbs=n:=by split<;>omega
  have hln:(au n).length<=600:=by rw [rS,yR];omega
  by_cases hs:bX t<t.length
  ·have hq:dQ (t.drop (bX t+1))=true:=by
    cases hb:dQ (t.drop (bX t+1)) with
    | true=>rfl
    | false=>exact absurd ⟨hs,.inl hb⟩ h2
   have pf:=F7 _ rfl hq;have hg:wu n (fw (t.drop (bX t+1)))=1:=by
    grind
   have j9:=ad2 t hs;have IQ:(t.drop (bX t+1)).length<=600:=by rw [wm];omega
   rw [<-pf] at j9 IQ;have gS:fw (t.drop (bX t+1))≠0:=fun e=>by
    rw [e] at pf;exact h2 ⟨hs,.inr (.inl (by rw [<-pf];rfl))⟩
   have kP:fw (t.drop (bX t+1))≠1:=fun e=>by
    rw [e] at pf;exact h2 ⟨hs,.inr (.inr (by rw [<-pf];rfl))⟩
   generalize fw (t.drop (bX t+1))=d at*
   obtain ⟨r,eJ,lH⟩:=afP (n:=if neg=true then -(n:Int) else n) (d:=d) (by omega) (by rw [abI];exact hg)
   refine ⟨r,?_,by rw [eJ,abI];exact hln,by rw [lH];exact IQ⟩
   unfold RT;rw [eJ,lH,yp kP,<-hint,xD]
   congr 1
   rw [rS];exact j9
  ·have ht:t.take (bX t)=t:=yK (by omega);rw [ht] at rS;obtain ⟨r,eJ,lH⟩:=afP (n:=if neg=true then -(n:Int) else n) (d:=1) (by omega) (Nat.gcd_one_right _);refine ⟨r,?_,by rw [eJ,abI];exact hln,by rw [lH];decide⟩
   unfold RT;rw [eJ,lH,yz rfl,<-hint,wG,rS]
 cases s with
 | nil=>exact absurd h (by decide)
 | cons b t=>
  simp only [bE] at h
  split at h
  ·rename_i hb;subst hb;exact key true t h
  ·exact key false (b::t) h
end
section
namespace Nd
structure Ord (n:Nat) (l:List Int):Prop where
 len:l.length=n
 qB:∀a,a<n->0<=l.getD a 0/\l.getD a 0<n
 inj:∀a b,a<n->b<n->l.getD a 0=l.getD b 0->a=b
end Nd
end
section
namespace Nd
open Go (IntKind)
section
variable {P:aJ} {L:Lib}
abbrev ai (P:aJ) (L:Lib) (f:Nat) (av:List AV) (r:AV):Prop:=bZ P L (D P L) f av=some r
def nL (h:Has P L 124 EC) (b:Bool) (n:Int):ai P L 124 [.bool b,ab n] (ab (if b=true then n else 0)):=by
 unfold ai;rw [ax h]
 cases b with
 | true=>simp only [go_sem,ya,EC,xm]
 | false=>simp only [go_sem,ya,EC];rfl
def aEp (h:Has P L 206 Au) (nM:Has P L 124 EC) (n lo hi:Int):ai P L 206 [ab n,ab lo,ab hi] (ab (if n<lo\/hi<n then 3 else 0)):=by
 unfold ai;rw [ax h];by_cases h1:n<lo
 ·simp only [go_sem,ya,Au,h1,true_or,xm,nL nM]
 ·by_cases h2:hi<n
  ·simp only [go_sem,ya,Au,h1,h2,or_true,xm,nL nM]
  ·simp only [go_sem,ya,Au,h1,h2,or_self,y9,nL nM];rfl
def AN (h:Has P L 125 Qj) {v:AV} {l:List Int} (hv:bB v l) (hl:l.length<=1000000):ai P L 125 [v] (ab (cX l)):=by
 unfold ai;rw [ax h];simp only [go_sem,ya,Qj,hv.len];have key:=Vf (P:=P) (L:=L) (live:=[5,6,7]) (a:=Pu)
  (I:=fun k s=>∃tm ct i,s=⟨tm,[],ct,0⟩/\ak tm 5=v/\ak tm 6=ab l.length/\ak tm 7=ab (i:Nat)/\i+k=l.length/\cX (l.drop i)=cX l)
  (Q:=fun ex s=>∃tm,s=⟨tm,[],0,0⟩/\((ex= .ret/\ak tm 2=ab (cX l))\/(ex= .exit 0/\cX l=0))) ?_ l.length
 ·generalize hq:D P L (.loop [5,6,7] Pu) _=q;obtain ⟨ex,s,rfl,tm,rfl,h2⟩:=cG hq key ⟨_,_,0,rfl,rfl,rfl,rfl,by omega,rfl⟩;rcases h2 with ⟨rfl,h2⟩ | ⟨rfl,h2⟩
  ·simp only [go_sem,h2]
  ·rw [h2];simp only [go_sem]
 ·rintro k s ⟨tm,ct,i,rfl,h5,h6,h7,hk,hf⟩;rw [ad7 (by simp only [go_sem,h5,h6,h7,hv.pu])];simp only [go_sem,ya,h5,h6,h7,Pu];by_cases hi:i<l.length
  ·have fy:(i:Int)<l.length:=by omega
   rw [aep hi] at hf;by_cases hz:l[i]=0
   ·left
    simp only [go_sem,ya,fy,hv.bz hi,hz];refine ⟨_,k-1,rfl,by omega,_,_,i+1,rfl,?_⟩;rw [wrap64 (by omega) (by omega)];rw [yz hz] at hf;simp only [go_sem,ya];exact ⟨trivial,trivial,rfl,by omega,hf⟩
   ·right
    simp only [go_sem,ya,fy,hv.bz hi,hz];rw [yp hz] at hf;refine ⟨_,_,rfl,by simp,_,rfl,.inl ⟨rfl,?_⟩⟩;simp only [go_sem,hf]
  ·right
   have fy:¬(i:Int)<l.length:=by omega
   simp only [go_sem,fy];refine ⟨_,_,rfl,by simp,_,rfl,.inr ⟨rfl,?_⟩⟩;rw [<-hf,xn (by omega)];rfl
end
end Nd
end
section
open Go (IntKind)
def agI (i:Nat):Hd i [48,49,50,51,52,53,54,55,56,57]=(yG 48 i&&yG i 57):=by
 by_cases h:48<=i/\i<=57
 ·obtain ⟨h1,h2⟩:=h;obtain ⟨k,rfl⟩:∃k,i=48+k:=⟨i-48,by omega⟩;rcases (show k=0\/k=1\/k=2\/k=3\/k=4\/k=5\/k=6\/k=7\/k=8\/k=9 by omega) with rfl | rfl | rfl | rfl | rfl | rfl | rfl | rfl | rfl | rfl<;>rfl
 ·have e:(yG 48 i&&yG i 57)=false:=by
   cases h1:yG 48 i with
   | false=>rfl
   | true=>
    cases h2:yG i 57 with
    | false=>rfl
    | true=>exact absurd ⟨yv h1,yv h2⟩ h
  rw [e];have ne:∀c,48<=c->c<=57->yu c i=false:=fun c h1 h2=>ig (by omega)
  simp only [Hd,ne 48 (by decide) (by decide),ne 49 (by decide) (by decide),ne 50 (by decide) (by decide),ne 51 (by decide) (by decide),ne 52 (by decide) (by decide),ne 53 (by decide) (by decide),ne 54 (by decide) (by decide),ne 55 (by decide) (by decide),ne 56 (by decide) (by decide),ne 57 (by decide) (by decide),yM]
def US:∀l:List Nat,li [48,49,50,51,52,53,54,55,56,57] l=[]↔dG l=true
 | []=>by simp [li,dG]
 | b::r=>by
  simp only [li,dG,agI]
  cases hb:(yG 48 b&&yG b 57) with
  | true=>simp only [yB,xV];exact US r
  | false=>simp
def OS:∀l:List Nat,dG l.reverse=dG l
 | []=>rfl
 | b::r=>by rw [List.reverse_cons,N9,OS r];simp [dG,Bool.and_comm]
def ad8:∀l:List Nat,dG l=false->dG (li [48,49,50,51,52,53,54,55,56,57] l)=false
 | [],h=>by simp [dG] at h
 | b::r,h=>by
  simp only [li,agI]
  cases hb:(yG 48 b&&yG b 57) with
  | true=>
   simp only [dG,hb,xV] at h;exact ad8 r h
  | false=>simp only [yM];exact h
def avt (p:List Nat):bQ (li [48,49,50,51,52,53,54,55,56,57] (li [48,49,50,51,52,53,54,55,56,57] p.reverse).reverse) []=dG p:=by
 cases hd:dG p with
 | true=>
  have h1:=(US p.reverse).2 (by rw [OS];exact hd)
  rw [h1];rfl
 | false=>
  have h1:=ad8 p.reverse (by rw [OS];exact hd)
  have h2:dG (li [48,49,50,51,52,53,54,55,56,57] p.reverse).reverse=false:=by rw [OS];exact h1
  cases hq:li [48,49,50,51,52,53,54,55,56,57] (li [48,49,50,51,52,53,54,55,56,57] p.reverse).reverse with
  | nil=>have:=(US _).1 hq;rw [h2] at this;exact absurd this (by decide)
  | cons b r=>rfl
def ad9:∀(t:List Nat) (k:Nat),mB [47] t k=if bX t<t.length then some (k+bX t) else none
 | [],k=>by simp [mB,gK,bX]
 | b::r,k=>by
  by_cases hb:b=47
  ·subst hb;have e:bX (47::r)=0:=by simp [bX]
   rw [e,yz (by simp)];rfl
  ·have e:bX (b::r)=bX r+1:=by simp [bX,hb]
   have hp:gK [47] (b::r)=false:=by rw [Kl];exact ig (fun e=>hb e.symm)
   rw [e,mB,hp,yM,ad9 r (k+1)]
   grind
def D0 (a b:List Nat):binOp .neq (.str a) (.str b)=some (.bool (!(bQ a b))):=rfl
structure Ck (P:aJ) (L:Lib):Prop extends Tx P L where
 aEq:L.pure 128=some Oh
 aEr:L.pure 162=some trimS
 h86:Has P L 86 dV
 nM:Has P L 124 EC
 AO:Has P L 125 Qj
 aEs:Has P L 129 He
section
variable {P:aJ} {L:Lib}
def nL (h:Has P L 124 EC) (b:Bool) (n:Int):ai P L 124 [.bool b,ab n] (ab (if b=true then n else 0)):=Nd.nL h b n
def anH (h:Ck P L) {p:List Nat} (hl:p.length<=4000000000):ai P L 129 [.str p] (.bool (dQ p)):=by
 have e1:bZ P L (D P L) 162 [.str p,.str [48,49,50,51,52,53,54,55,56,57]]=some (.str (li [48,49,50,51,52,53,54,55,56,57] (li [48,49,50,51,52,53,54,55,56,57] p.reverse).reverse)):=by
  rw [jt h.aEr];show (bif Gv [48,49,50,51,52,53,54,55,56,57]&&(yL p.length 4294967281&&yL 10 4294967281) then _ else none)=_
  rw [lk (by omega)];rfl
 have e2:=avt p;unfold ai;rw [ax h.aEs]
 match p,e1,e2 with
 | [],_,_=>
  simp only [go_sem,ya,He,D0,show bQ [] []=true from rfl,yI];rfl
 | b::r,e1,e2=>
  have hI:nC 0 (.str (b::r))=some (.int .u8 (b:Nat)):=rfl;have h0:bQ (b::r) []=false:=rfl;have hd:dQ (b::r)=(dG (b::r)&&(!(yu b 48)||r.isEmpty)):=rfl;rw [hd]
  cases lL:dG (b::r) with
  | false=>
   rw [lL] at e2;simp only [go_sem,ya,He,D0,h0,yH,e1,iZ,e2,wg]
  | true=>
   rw [lL] at e2;by_cases hb:b=48
   ·subst hb;have e3:bQ (48::r) [48]=r.isEmpty:=by
     cases r with
     | nil=>rfl
     | cons c r=>rfl
    have hI':nC 0 (.str (48::r))=some (.int .u8 48):=rfl;simp only [go_sem,ya,He,D0,h0,yH,e1,iZ,e2,hI',ym,yI,e3];rfl
   ·have:yu b 48=false:=ig hb
    rw [this];simp only [go_sem,ya,He,D0,h0,yH,e1,iZ,e2,hI,show ¬((b:Nat):Int)=48 by omega,yk,yH];rfl
def aEt (h:Ck P L) (s:List Nat):bZ P L (D P L) 128 [.str s,.str [45]]=some (if s.head? =some 45 then .af [.str s.tail,.bool true] else .af [.str s,.bool false]):=by
 rw [jt h.aEq];show some (bif gK [45] s then AV.af [.str (s.drop 1),.bool true] else .af [.str s,.bool false])=_
 cases s with
 | nil=>rfl
 | cons b r=>
  by_cases hb:b=45
  ·subst hb;rfl
  ·have:gK [45] (b::r)=false:=by rw [Kl];exact ig (fun e=>hb e.symm)
   grind
def aEu (h:Ck P L) {t:List Nat} (hl:t.length<=4000000000):bZ P L (D P L) 109 [.str t,.str [47]]=some (.af [.str (t.take (bX t)),.str (t.drop (bX t+1)),.bool (decide (bX t<t.length))]):=by
 rw [jt h.abA];show (bif yL t.length 4294967281 then (match mB [47] t 0 with | some i=>some (AV.af [.str (t.take i),.str (t.drop (i+1)),.bool true]) | none=>some (AV.af [.str t,.str [],.bool false])) else none)=_
 rw [lk (by omega),ad9];by_cases hs:bX t<t.length
 ·grind
 ·rw [yp hs,yC hs,yK (by omega),xn (by omega)];rfl
def arH {P:aJ} {L:Lib} (a b c d:VC) (s:St):D P L (.seq a (.seq b (.seq c d))) s=nF P L (D P L (.seq a (.seq b c)) s) d:=by
 have e:=DS (P:=P) (L:=L) b c d;rw [kA,kA]
 cases D P L a s with
 | none=>rfl
 | some q=>
  obtain ⟨ex,st⟩:=q
  cases ex with
  | normal=>rw [fY,fY];exact e st
  | ret=>rfl
  | exit id=>rfl
def atl {P:aJ} {L:Lib} (a b c d f:VC) (s:St):D P L (.seq a (.seq b (.seq c (.seq d f)))) s=nF P L (D P L (.seq a (.seq b (.seq c d))) s) f:=by
 have e:=arH (P:=P) (L:=L) b c d f;rw [kA,kA]
 cases D P L a s with
 | none=>rfl
 | some q=>
  obtain ⟨ex,st⟩:=q
  cases ex with
  | normal=>rw [fY,fY];exact e st
  | ret=>rfl
  | exit id=>rfl
def VK {a b:List Nat} (h:a=b):bQ a b=true:=by
 subst h
 induction a with
 | nil=>rfl
 | cons x a ih=>simp [bQ,ih]
def Pg {a b:List Nat} (h:a≠b):bQ a b=false:=by
 cases hb:bQ a b with
 | false=>rfl
 | true=>
  exact absurd (by
   clear h;revert b
   induction a with
   | nil=>intro b hb;cases b with | nil=>rfl | cons y b=>simp [bQ] at hb
   | cons x a ih=>
    intro b hb
    cases b with
    | nil=>simp [bQ] at hb
    | cons y b=>
     simp only [bQ,yg] at hb
     rw [yo hb.1,ih hb.2]) h
def aCT (h:Ck P L) {p q:List Nat} {ok found:Bool} (lp:p.length<=1000000000) (lq:q.length<=1000000000) (js:ok=true->dQ p=true/\(found=true->dQ q=true)) {tm:Env} (t5:ak tm 5= .str p) (t6:ak tm 6= .str q) (t7:ak tm 7= .bool found) (t8:ak tm 8= .bool ok):
  fV [.t 2] (D P L (aD (aD (aD (aD (aD dV.body))))) ⟨tm,[],0,0⟩)=some (ab (
   if ok=false then 1
   else if 600<p.length\/600<q.length then 4
   else if found=true/\wu (fw p) (fw q)≠1 then 1
   else 0)):=by
 have w1:=nL h.nM (!ok) 1;have Tz:∀a b:Int,ai P L 125 [.ap true 2 [ab a,ab b]] (ab (cX [a,b])):=fun a b=>Nd.AN h.AO (gG true [a,b]) (by simp)
 cases ok with
 | false=>
  have f1:=Tz 1 0;have f2:=Tz 1 4;have w2:=nL h.nM false 4;have w3:=nL h.nM true 4;simp only [yH,xm,yE,y9] at w1 w2 w3;rw [show cX [1,0]=1 by decide] at f1;rw [show cX [1,4]=1 by decide] at f2;unfold ai at w1 w2 w3 f1 f2;by_cases h1:600<p.length
  ·simp only [go_sem,ya,yb,yr,yi,yj,dV,aD,show ¬(1:Int)=0 by decide,yH,t5,t8,yH,w1,show (600:Int)<(p.length:Int) by omega,ym,w3,f2,yk]
   simp
  ·by_cases h2:600<q.length
   ·simp only [go_sem,ya,yb,yr,yi,yj,dV,aD,show ¬(1:Int)=0 by decide,yH,t5,t6,t8,yH,w1,show ¬(600:Int)<(p.length:Int) by omega,show (600:Int)<(q.length:Int) by omega,ym,yk,w3,f2]
    simp
   ·simp only [go_sem,ya,yb,yr,yi,yj,dV,aD,show ¬(1:Int)=0 by decide,yH,t5,t6,t8,yH,w1,show ¬(600:Int)<(p.length:Int) by omega,show ¬(600:Int)<(q.length:Int) by omega,yk,w2,f1]
    simp
 | true=>
  obtain ⟨hp,hq⟩:=js rfl;have f1:=Tz 0 0;have f2:=Tz 0 4;have w2:=nL h.nM false 4;have w3:=nL h.nM true 4;have w4:=nL h.nM false 1;have w5:=nL h.nM true 1;simp only [yI,xm,yE,y9] at w1 w2 w3 w4 w5;rw [show cX [0,0]=0 by decide] at f1;rw [show cX [0,4]=4 by decide] at f2;unfold ai at w1 w2 w3 w4 w5 f1 f2;rw [yp (by decide)];by_cases h1:600<p.length
  ·rw [yz (.inl h1)];simp only [go_sem,ya,yb,yr,yi,yj,dV,aD,show ¬(4:Int)=0 by decide,yH,t5,t8,yI,w1,show (600:Int)<(p.length:Int) by omega,ym,w3,f2,yk]
  ·by_cases h2:600<q.length
   ·rw [yz (.inr h2)];simp only [go_sem,ya,yb,yr,yi,yj,dV,aD,show ¬(4:Int)=0 by decide,yH,t5,t6,t8,yI,w1,show ¬(600:Int)<(p.length:Int) by omega,show (600:Int)<(q.length:Int) by omega,ym,yk,w3,f2]
   ·rw [yp (by omega)]
    cases found with
    | false=>
     rw [yp (by simp)];simp only [go_sem,ya,yb,yr,yi,yj,dV,aD,t5,t6,t7,t8,yI,w1,show ¬(600:Int)<(p.length:Int) by omega,show ¬(600:Int)<(q.length:Int) by omega,ym,yk,w2,f1]
    | true=>
     have rS:=F7 _ rfl hp;have pf:=F7 _ rfl (hq rfl);generalize fw p=n at*
     generalize fw q=d at*
     subst rS;subst pf;obtain ⟨M,hM⟩:∃M:Nat,M=2400:=⟨_,rfl⟩;have bd:∀{m:Nat},(au m).length<=600->Bd M (m:Int):=fun {m} hm=>by
      have h1:=KH m;have h2:=KI (au m).length;have h3:(2:Nat)^(4*(au m).length)<=2^M:=xx (by decide) (by omega);unfold Bd;rw [yQ];exact yO h1 (yS h2 h3)
     obtain ⟨x,e1,hx⟩:=MO h.toTx (z:=(n:Int)) (by rw [jY];omega);obtain ⟨y,e2,hy⟩:=MO h.toTx (z:=(d:Int)) (by rw [jY];omega);rw [jY] at e1 e2;have kn:=bd (m:=n) (by omega);have kd:=bd (m:=d) (by omega);obtain ⟨g,e3,hg⟩:=anz h.toNu hx hy kn kd (by omega);obtain ⟨e4,Na⟩:=rH h.toNu (z:=1) (by decide) (by decide);have kg:Bd M ((Int.gcd (n:Int) (d:Int):Nat):Int):=by
      rcases Nat.eq_zero_or_pos d with h0 | h0
      ·subst h0;simpa using kn
      ·exact kd.le (by have:=Nat.gcd_le_right n h0;simpa using this)
     have e5:=MI h.toNu hg Na (K:=M) kg (by unfold Bd;exact Nat.one_lt_two_pow (by omega)) (by omega)
     have aEv:Int.gcd (n:Int) (d:Int)=wu n d:=rfl;rw [aEv] at e5;obtain ⟨xs,xw,rfl,zD⟩:=hx;obtain ⟨ys,yw,rfl,NR⟩:=hy;obtain ⟨gs,gw,rfl,rT⟩:=hg;obtain ⟨l1,u1⟩:=zD.aK;obtain ⟨l2,u2⟩:=NR.aK;obtain ⟨l3,u3⟩:=rT.aK;by_cases iC:wu n d=1
     ·rw [yp (by simp [iC])];have hs:bG (((wu n d:Nat):Int)-1)=0:=by rw [iC];rfl
      rw [hs] at e5;simp only [go_sem,ya,yb,yr,yi,yj,dV,aD,t5,t6,t7,t8,yI,w1,show ¬(600:Int)<((au n).length:Int) by omega,show ¬(600:Int)<((au d).length:Int) by omega,ym,yk,w2,f1,e1,e2,u1.ao,u2.ao,u3.ao,bq,aU,e3,e4,e5]
     ·rw [yz ⟨rfl,iC⟩];obtain ⟨c,hc,lJ⟩:∃c,bG (((wu n d:Nat):Int)-1)=c/\c≠0:=⟨_,rfl,fun e=>iC (by
       unfold bG at e
       split at e
       ·exact absurd e (by decide)
       ·split at e
        ·omega
        ·exact absurd e (by decide))⟩
      rw [hc] at e5;simp only [go_sem,ya,yb,yr,yi,yj,dV,aD,yH,t5,t6,t7,t8,yI,w1,show ¬(600:Int)<((au n).length:Int) by omega,show ¬(600:Int)<((au d).length:Int) by omega,ym,yk,w2,f1,e1,e2,u1.ao,u2.ao,u3.ao,bq,aU,e3,e4,e5,lJ,yH,w5]
def m86 (h:Ck P L) {s:List Nat} (hl:s.length<=1000000000):ai P L 86 [.str s] (ab (bE s)):=by
 have key:∀(neg:Bool) (t:List Nat),t.length<=1000000000->bZ P L (D P L) 128 [.str s,.str [45]]=some (.af [.str t,.bool neg])->ai P L 86 [.str s] (ab (mP neg t)):=by
  intro neg t hl e0;have e1:=aEu h (t:=t) (by omega);obtain ⟨k,hk⟩:∃k,k=bX t:=⟨_,rfl⟩;have hkl:k<=t.length:=by rw [hk];exact Kh t
  have e2:=anH h (p:=t.take k) (by rw [yR];omega);have e3:=anH h (p:=t.drop (k+1)) (by rw [wm];omega);have lp:(t.take k).length=k:=by rw [yR];omega
  have lq:(t.drop (k+1)).length=t.length-k-1:=by rw [wm];omega
  unfold mP;rw [<-hk] at e1 ⊢;generalize hp:t.take k=p at*
  generalize hq:t.drop (k+1)=q at*
  obtain ⟨Dx,sR⟩:∃ok:Bool,ok=(dQ p&&(!neg|| !(bQ p [48]))):=⟨_,rfl⟩;obtain ⟨ok,js⟩:∃ok:Bool,ok=(Dx&&(!(decide (k<t.length))||(dQ q&&(!(bQ q [48])&& !(bQ q [49]))))):=⟨_,rfl⟩
  have R8:(if dQ p=false\/(neg=true/\p=[48]) then 1
    else if k<t.length/\(dQ q=false\/q=[48]\/q=[49]) then 1
    else if 600<k\/600<t.length-k-1 then 4
    else if k<t.length/\wu (fw p) (fw q)≠1 then 1 else 0:Int)=(if ok=false then 1
    else if 600<p.length\/600<q.length then 4
    else if decide (k<t.length)=true/\wu (fw p) (fw q)≠1 then 1
    else 0):=by
   rw [lp,lq];have a1:(dQ p=false\/(neg=true/\p=[48]))↔Dx=false:=by
    rw [sR];cases dQ p<;>cases neg<;>simp
    by_cases e:p=[48]
    ·simp [e,VK]
    ·simp [e,Pg e]
   have a2:ok=false↔(Dx=false\/(k<t.length/\(dQ q=false\/q=[48]\/q=[49]))):=by
    rw [js];by_cases hs:k<t.length
    ·simp only [hs,ym,yI,uD,uU];cases Dx<;>cases dQ q<;>simp
     by_cases e:q=[48]
     ·simp [e,VK]
     ·by_cases e':q=[49]
      ·simp [e',VK]
      ·simp [e,e',Pg e,Pg e']
    ·simp [hs]
   by_cases h1:Dx=false
   ·rw [yz (a1.2 h1),yz (a2.2 (.inl h1))]
   ·rw [yp (fun e=>h1 (a1.1 e))];by_cases h2:k<t.length/\(dQ q=false\/q=[48]\/q=[49])
    ·rw [yz h2,yz (a2.2 (.inr h2))]
    ·rw [yp h2,yp (fun e=>(a2.1 e).elim h1 h2)];simp only [xt]
  rw [R8];have aEw:ok=true->dQ p=true/\(decide (k<t.length)=true->dQ q=true):=fun e=>by
   rw [js,yg] at e;obtain ⟨e1,e2⟩:=e;rw [sR,yg] at e1;refine ⟨e1.1,fun hs=>?_⟩;rw [hs,yI,uD,yg] at e2;exact e2.1
  have tail:∀tm,ak tm 5= .str p->ak tm 6= .str q->ak tm 7= .bool (decide (k<t.length))->ak tm 8= .bool ok->fV [.t 2] (D P L (aD (aD (aD (aD (aD dV.body))))) ⟨tm,[],0,0⟩)=_:=fun tm t5 t6 t7 t8=>
   aCT h (by omega) (by omega) aEw t5 t6 t7 t8
  have mid:∀tm,ak tm 5= .str p->ak tm 6= .str q->ak tm 7= .bool (decide (k<t.length))->ak tm 8= .bool Dx->
    ∃cE,D P L (bC (aD (aD (aD (aD dV.body))))) ⟨tm,[],0,0⟩=some (.normal,⟨cE,[],0,0⟩)/\ak cE 5= .str p/\ak cE 6= .str q/\ak cE 7= .bool (decide (k<t.length))/\ak cE 8= .bool ok:=fun tm t5 t6 t7 t8=>by
   unfold ai at e3;by_cases hs:k<t.length
   ·rw [yD hs] at t7 js ⊢;simp only [yI,uD] at js
    cases Dx with
    | false=>
     rw [wg] at js;subst js;refine ⟨_,by simp only [go_sem,ya,dV,bC,aD,t7,t8]<;>rfl,?_⟩
     simp only [go_sem,ya,t5,t6,t7,uU]
    | true=>
     rw [xV] at js
     cases hd:dQ q with
     | false=>
      rw [hd] at e3 js;rw [wg] at js;subst js;refine ⟨_,by simp only [go_sem,ya,dV,bC,aD,t6,t7,t8,e3]<;>rfl,?_⟩
      simp only [go_sem,ya,t5,t6,t7,uU]
     | true=>
      rw [hd] at e3 js;rw [xV] at js
      cases jK:bQ q [48] with
      | true=>
       rw [jK,yI,wg] at js;subst js;refine ⟨_,by simp only [go_sem,ya,dV,bC,aD,t6,t7,t8,e3,D0,jK,yI]<;>rfl,?_⟩
       simp only [go_sem,ya,t5,t6,t7,uU]
      | false=>
       rw [jK,yH,xV] at js;subst js;refine ⟨_,by simp only [go_sem,ya,dV,bC,aD,t6,t7,t8,e3,D0,jK,yH]<;>rfl,?_⟩
       simp only [go_sem,ya,t5,t6,t7,uU]
   ·rw [yC hs] at t7 js ⊢;simp only [yH,tA,Bool.and_true] at js;subst js;refine ⟨_,by simp only [go_sem,dV,bC,aD,t7]<;>rfl,?_⟩
    simp only [go_sem,ya,t5,t6,t7,t8,uU]
  have fin:∀tm,ak tm 5= .str p->ak tm 6= .str q->ak tm 7= .bool (decide (k<t.length))->ak tm 8= .bool Dx->
    D P L (.seq (bC dV.body) (.seq (bC (aD dV.body)) (.seq (bC (aD (aD dV.body))) (bC (aD (aD (aD dV.body))))))) ⟨[(0,.str s)],[],0,0⟩=some (.normal,⟨tm,[],0,0⟩)->ai P L 86 [.str s] _:=fun tm t5 t6 t7 t8 e=>by
   obtain ⟨cE,e',f5,f6,f7,f8⟩:=mid tm t5 t6 t7 t8;unfold ai;rw [ax h.h86];show fV [.t 2] (D P L (.seq (bC dV.body) (.seq (bC (aD dV.body)) (.seq (bC (aD (aD dV.body))) (.seq (bC (aD (aD (aD dV.body)))) (.seq (bC (aD (aD (aD (aD dV.body))))) (aD (aD (aD (aD (aD dV.body)))))))))) ⟨[(0,.str s)],[],0,0⟩)=_
   rw [atl,e,fY,kA,e',fY];exact tail cE f5 f6 f7 f8
  unfold ai at e2
  cases hd:dQ p with
  | false=>
   rw [hd] at e2 sR;rw [wg] at sR;subst sR;refine fin _ ?_ ?_ ?_ ?_ (by simp only [go_sem,ya,dV,bC,aD,e0,e1,e2]<;>rfl)<;>simp only [go_sem,ya]
  | true=>
   rw [hd] at e2 sR
   cases neg with
   | false=>
    simp only [yH,tA] at sR;subst sR;refine fin _ ?_ ?_ ?_ ?_ (by simp only [go_sem,ya,dV,bC,aD,e0,e1,e2,yH]<;>rfl)<;>simp only [go_sem,ya]
   | true=>
    simp only [yI,uD] at sR;subst sR;refine fin _ ?_ ?_ ?_ ?_ (by simp only [go_sem,ya,dV,bC,aD,e0,e1,e2,yI,D0]<;>rfl)<;>simp only [go_sem,ya]
 unfold bE;have e0:=aEt h s
 cases s with
 | nil=>exact key false [] (by simp) e0
 | cons b r=>
  by_cases hb:b=45
  ·subst hb;exact key true r (by simp at hl;omega) e0
  ·simp only [hb,y9];rw [yp (by simpa using hb)] at e0;exact key false (b::r) hl e0
end
end
section
open Go (IntKind)
def LN (z:Int):Bool:=decide (600<(au z.natAbs).length)
def LG (r:Rat):Bool:=LN r.num||LN (r.den:Int)
def Uv {m B k:Nat} (hB:B<=3*k) (hk:0<k) (h:m<2^B):(au m).length<=k:=by
 obtain ⟨j,rfl⟩:∃j,k=j+1:=⟨k-1,by omega⟩;refine se (yO h (yS (xx (by decide) hB) ?_));rw [tg];exact tf (by decide) _
def VL:∀f n:Nat,eU f n<=f
 | 0,_=>yA _
 | f+1,n=>by
  unfold eU
  cases yu n 0 with
  | true=>exact Nat.zero_le _
  | false=>have:=VL f (n/2);simp only [yM];omega
def aBj {P:aJ} {L:Lib} {f:cN} (h:L.pure 175=some KQ) {x:Nat} (hx:x<18446744073709551616):bZ P L f 175 [uc x]=some (ab (eU 64 x:Nat)):=by
 rw [jt h];show (bif yL x 18446744073709551616 then _ else none)=_
 rw [lk hx];rfl
def axw {V n top low:Nat} (hn:0<n) (h0:0<top) (ht:top<18446744073709551616) (hV:V=low+18446744073709551616^(n-1)*top) (hl:low<18446744073709551616^(n-1)):V<2^(64*(n-1)+eU 64 top):=by
 obtain ⟨l1,l2,l3⟩:=Vj h0 ht;have hle:=VL 64 top;have h1:top<2^eU 64 top:=by
  have e:(18446744073709551616:Nat)=2^eU 64 top*2^(64-eU 64 top):=by rw [<-xO,show eU 64 top+(64-eU 64 top)=64 by omega]
  rw [e] at l3;exact Nat.lt_of_mul_lt_mul_right l3
 have h3:=Nat.mul_le_mul_left (18446744073709551616^(n-1)) (show top+1<=2^eU 64 top from h1);rw [xO,tg]
 grind
section
variable {P:aJ} {L:Lib}
def avu (K:Nat):2^K<=18446744073709551616^(K/64+1):=by
 rw [show (18446744073709551616:Nat)=2^64 from rfl,<-tg];exact xx (by decide) (by omega)
def alM (h:Tx P L) {v:AV} {z:Int} {K:Nat} (hv:cu v z) (hz:Bd K z) (hK:K<=4000000000):∃B:Nat,ai P L 172 [v] (ab B)/\z.natAbs<2^B/\B<=K+64:=by
 obtain ⟨s,w,rfl,hn⟩:=hv;obtain ⟨l,u⟩:=hn.aK;obtain ⟨r,e1,hr⟩:=AL h.toNu hn;obtain ⟨ws,hw,g,nz',hb⟩:=hr;have hl:ws.length<=K/64+1:=oK nz' hb (yO hz (avu K));unfold ai at e1 ⊢;by_cases h0:ws=[]
 ·subst h0;have mo:z.natAbs=0:=by rw [<-hb];rfl
  refine ⟨0,?_,by rw [mo];decide,by omega⟩
  rw [ax h.anB];simp only [go_sem,ya,yb,Qq,az,bL,aU,u.pu,u.ao,u.one,e1,hw.len,yJ,show ((0:Nat):Int)=0 from rfl,ym]
 ·have hp:0<ws.length:=List.length_pos_iff.2 h0;have Cr:=OM nz' h0;have FD:=gI (show 0<18446744073709551616 by decide) g (ws.length-1);have ei:=hw.bz (i:=ws.length-1) (by omega);have eX:=jw (b:=18446744073709551616) (l:=ws) (ws.length-1);have MP:=mG (BX g (ws.length-1));rw [yR,Nat.min_eq_left (by omega)] at MP;rw [show ws.length-1+1=ws.length by omega,yK (yA _)] at eX;generalize ws.getD (ws.length-1) 0=top at*
  have e2:=aBj (P:=P) (f:=D P L) h.aEj FD;have hle:=VL 64 top;have alN:=axw hp (Nat.pos_of_ne_zero Cr) FD eX MP;rw [hb] at alN;refine ⟨64*(ws.length-1)+eU 64 top,?_,alN,by omega⟩;rw [ax h.anB]
  simp only [go_sem,ya,yb,Qq,az,bL,aU,u.pu,u.ao,u.one,e1,hw.len,show ¬(ws.length:Int)=0 by omega,show (ws.length:Int)-1=((ws.length-1:Nat):Int) by omega,wrapN (n:=ws.length-1) (by omega),show (64:Int)*((ws.length-1:Nat):Int)=((64*(ws.length-1):Nat):Int) by omega,wrapN (n:=64*(ws.length-1)) (by omega),ei,e2,show ((64*(ws.length-1):Nat):Int)+((eU 64 top:Nat):Int)=((64*(ws.length-1)+eU 64 top:Nat):Int) from rfl,wrapN (n:=64*(ws.length-1)+eU 64 top) (by omega)]
def aEx (h:Tx P L) {v:AV} {z:Int} {K:Nat} (hv:cu v z) (hz:Bd K z) (hK:K<=4000000000):∃B:Nat,ai P L 172 [v] (ab B)/\z.natAbs<2^B/\B<=300000000000:=by
 obtain ⟨B,h1,h2,h3⟩:=alM h hv hz hK;exact ⟨B,h1,h2,by omega⟩
def atm (z:Int):(if gK [45] (aV z)=true then (aV z).drop 1 else aV z)=au z.natAbs:=by
 by_cases h:z<0
 ·rw [jZ h];rfl
 ·obtain ⟨m,rfl⟩:∃m:Nat,z=m:=⟨z.toNat,by omega⟩;rw [jY];obtain ⟨b,r,hb,h1,_⟩:=F6 m;rw [yQ,hb,UR h1];rfl
def anI (h:Tx P L) {v:AV} {z:Int} {K:Nat} (hv:cu v z) (hz:Bd K z) (hK:K<=4000000000):ai P L 151 [v] (.bool (LN z)):=by
 obtain ⟨B,e1,hB,hBb⟩:=aEx h hv hz hK;have e2:=m99 h hv hz hK;obtain ⟨s,w,rfl,hn⟩:=hv;obtain ⟨l,u⟩:=hn.aK;have e3:bZ P L (D P L) 153 [.str (aV z),.str [45]]=some (.str (au z.natAbs)):=by
  rw [jt h.aby,<-atm];show some (AV.str (bif gK [45] (aV z) then (aV z).drop 1 else aV z))=_
  cases gK [45] (aV z)<;>rfl
 unfold ai at e1 e2 ⊢;rw [ax h.aEk];unfold LN;by_cases h1:1800<B
 ·simp only [go_sem,ya,yb,Qm,az,bL,aU,u.pu,u.ao,u.one,e1,show (1800:Int)<(B:Int) by omega,ym,e2,e3];by_cases h2:600<(au z.natAbs).length
  ·rw [yD h2,yD (by omega)]
  ·rw [yC h2,yC (by omega)]
 ·have h2:=Uv (k:=600) (by omega) (by decide) hB;rw [yC (by omega)];simp only [go_sem,ya,yb,Qm,az,bL,aU,u.pu,u.ao,u.one,e1,show ¬(1800:Int)<(B:Int) by omega,yk]
def anJ (h:Tx P L) {v:AV} {a:Rat} {K:Nat} (hv:b9 v a) (ka:Hq K a) (hK:K<=4000000000):ai P L 107 [v] (.bool (LG a)):=by
 obtain ⟨s1,w1,s2,w2,rfl,h1,h2⟩:=hv;have e1:=anI h ⟨s1,w1,rfl,h1⟩ ka.1 hK;have e2:=anI h ⟨s2,w2,rfl,h2⟩ ka.2 hK;obtain ⟨l1,u1⟩:=h1.aK;obtain ⟨l2,u2⟩:=h2.aK;unfold ai at e1 e2 ⊢;rw [ax h.aEl];unfold LG
 cases hb:LN a.num with
 | true=>
  rw [hb] at e1;simp only [go_sem,ya,yb,Qg,az,aP,yd,bL,aU,u1.pu,u1.ao,u1.one,u2.pu,u2.one,e1];rfl
 | false=>
  rw [hb] at e1;simp only [go_sem,ya,yb,Qg,az,aP,yd,show wK 2 [ab s1,w1,ab s2,w2]=[ab s2,w2] from rfl,bL,aU,u1.pu,u1.ao,u1.one,u2.pu,u2.ao,u2.one,e1,e2];rfl
end
end
section
open Go (IntKind)
def atn (p s:Nat):p*(s%1000000000)+p*1000000000*(s/1000000000)=p*s:=by
 rw [xo,<-Nat.mul_add,Nat.mod_add_div]
def Kt {l:List Int} {i:Nat} (h:l.length<=i):l.getD i 0=0:=by simp_all
def avv {a b out:List Int} {i c:Nat} {x y:Int} (hx:x=a.getD i 0) (hy:y=b.getD i 0) (h1:0<=x) (h2:0<=y) (hl:out.length=i) (hv:dv out+1000000000^i*c=dv (a.take i)+dv (b.take i)):
  dv (out++[(((x.toNat+y.toNat+c)%1000000000:Nat):Int)])+1000000000^(i+1)*((x.toNat+y.toNat+c)/1000000000)=dv (a.take (i+1))+dv (b.take (i+1)):=by
 rw [px,px,nk,hl,<-hx,<-hy];simp only [dv,xC,xG,yW,xh]
 have:=atn (1000000000^i) (x.toNat+y.toNat+c)
 grind
section
variable {P:aJ} {L:Lib}
def aBk (mQ:Has P L 302 sJ) {v w:AV} {a b:List Int} (hv:bB v a) (hw:bB w b) (ha:dg a) (hb:dg b) {N:Nat} (la:a.length<=N) (lb:b.length<=N) (lN:N<=20000000000):
  ∀k s,(∃(i c:Nat) (out:List Int),2*(N-i)+c=k/\out.length=i/\c<=1/\dg out/\dv out+1000000000^i*c=dv (a.take i)+dv (b.take i)/\i<=N+1/\(i<=N\/c=0)/\
    ((i=0/\bS [0,1,5,6,7] s=⟨[(0,v),(1,w),(5,.aa),(6,ab c),(7,ab i)],[],0,0⟩)\/
    (0<i/\bS [0,1,5,6,7] s=⟨[(0,v),(1,w),(5,.ay 0 0 i),(6,ab c),(7,ab i)],[(0,.cells true true false 1 (out.map ab))],1,0⟩)))->
   ∃ex s',D P L (.loop [0,1,5,6,7] pJ) s=some (ex,s')/\∃tm out,ex= .exit 0/\dg out/\dv out=dv a+dv b/\out.length<=N+1/\((out=[]/\ak tm 5= .aa/\s'=⟨tm,[],0,0⟩)\/(0<out.length/\ak tm 5= .ay 0 0 out.length/\s'=⟨tm,[(0,.cells true true false 1 (out.map ab))],1,0⟩)):=by
 refine cR (I:=fun k s=>∃(i c:Nat) (out:List Int),2*(N-i)+c=k/\out.length=i/\c<=1/\dg out/\dv out+1000000000^i*c=dv (a.take i)+dv (b.take i)/\i<=N+1/\(i<=N\/c=0)/\
    ((i=0/\s=⟨[(0,v),(1,w),(5,.aa),(6,ab c),(7,ab i)],[],0,0⟩)\/
    (0<i/\s=⟨[(0,v),(1,w),(5,.ay 0 0 i),(6,ab c),(7,ab i)],[(0,.cells true true false 1 (out.map ab))],1,0⟩)))
  (Q:=fun ex s'=>∃tm out,ex= .exit 0/\dg out/\dv out=dv a+dv b/\out.length<=N+1/\((out=[]/\ak tm 5= .aa/\s'=⟨tm,[],0,0⟩)\/(0<out.length/\ak tm 5= .ay 0 0 out.length/\s'=⟨tm,[(0,.cells true true false 1 (out.map ab))],1,0⟩))) ?_
 rintro k s ⟨i,c,out,hk,hlen,hc,lL,aM,hi,It,hs⟩;have e1:=abm mQ hv i;have e2:=abm mQ hw i;unfold ai at e1 e2;have ga:=ij ha i;have gb:=ij hb i;by_cases zu:i<a.length\/i<b.length\/0<c
 ·left
  obtain ⟨x,hx⟩:∃x,x=a.getD i 0:=⟨_,rfl⟩;obtain ⟨y,hy⟩:∃y,y=b.getD i 0:=⟨_,rfl⟩;rw [<-hx] at e1 ga;rw [<-hy] at e2 gb;have ll:=avv (c:=c) hx hy ga.1 gb.1 hlen aM;obtain ⟨s0,A9⟩:∃s0,s0=x.toNat+y.toNat+c:=⟨_,rfl⟩;rw [<-A9] at ll;have CY:x+y+(c:Int)=(s0:Int):=by omega
  have hs9:s0<2000000000:=by omega
  have hr:((s0:Nat):Int).tmod 1000000000=((s0%1000000000:Nat):Int):=by rw [wc (by omega)];rfl
  have hq:((s0:Nat):Int).tdiv 1000000000=((s0/1000000000:Nat):Int):=by rw [xX (by omega)];rfl
  have qP:s0/1000000000<=1:=by omega
  have aCU:2*(N-(i+1))+s0/1000000000<k:=by
   by_cases hm:i<N
   ·omega
   ·have:c=1:=by omega
    have Bq:x=0:=by rw [hx];exact Kt (by omega)
    have gD:y=0:=by rw [hy];exact Kt (by omega)
    subst Bq;subst gD
    have:s0=1:=by rw [A9,this];rfl
    subst this;omega
  have H9:dg (out++[((s0%1000000000:Nat):Int)]):=ie.2 ⟨lL,kZ.2 (by omega)⟩;have WD:(out++[((s0%1000000000:Nat):Int)]).length=i+1:=by simp [hlen]
  have aEy:i+1<=N\/s0/1000000000=0:=by
   by_cases hm:i<N
   ·exact .inl hm
   ·right
    have:c=1:=by omega
    have Bq:x=0:=by rw [hx];exact Kt (by omega)
    have gD:y=0:=by rw [hy];exact Kt (by omega)
    subst Bq;subst gD
    have:s0=1:=by rw [A9,this];rfl
    subst this;rfl
  have fin:∃s',D P L pJ s=some (.normal,s')/\bS [0,1,5,6,7] s'=⟨[(0,v),(1,w),(5,.ay 0 0 (i+1)),(6,ab (s0/1000000000:Nat)),(7,ab (i+1:Nat))],[(0,.cells true true false 1 ((out++[((s0%1000000000:Nat):Int)]).map ab))],1,0⟩:=by
   have three:((i:Int)<a.length)\/(¬(i:Int)<a.length/\(i:Int)<b.length)\/(¬(i:Int)<a.length/\¬(i:Int)<b.length/\(0:Int)<c):=by omega
   rcases three with t1 | ⟨t1,t2⟩ | ⟨t1,t2,t3⟩
   ·rcases hs with ⟨h0,rfl⟩ | ⟨h0,rfl⟩
    ·subst h0;have mR:out=[]:=yN hlen;subst mR
     simp only [go_sem,ya,yb,xT,yr,yi,yj,pJ,hv.len,hv.ao,hw.ao,t1,e1,e2,wrap64 (n:=x+y) (by omega) (by omega),CY,wrap64 (n:=(s0:Int)) (by omega) (by omega),gF _ _ _ (show (1000000000:Int)≠0 by decide),fq _ _ _ (show (1000000000:Int)≠0 by decide),hr,hq,wrap64 (n:=((s0/1000000000:Nat):Int)) (by omega) (by omega),nl];refine ⟨_,rfl,?_⟩;rw [wrap64 (by omega) (by omega)];simp only [go_sem,ya,yb,aH,aR hv.pu,aW _ hv.pu,aR hw.pu,aW _ hw.pu]<;>rfl
    ·simp only [go_sem,ya,yb,yi,yj,pJ,hv.len,hv.ao,hw.ao,t1,e1,e2,wrap64 (n:=x+y) (by omega) (by omega),CY,wrap64 (n:=(s0:Int)) (by omega) (by omega),gF _ _ _ (show (1000000000:Int)≠0 by decide),hr]
     rw [my (ex:=false) (pu:=true) (cs:=out.map ab) (by simp only [go_sem,ya]) (by rw [xq,hlen,yj]) (by omega) (by omega) (by decide) (by simp only [go_sem])]
     simp only [go_sem,ya,yb,fq _ _ _ (show (1000000000:Int)≠0 by decide),hq,wrap64 (n:=((s0/1000000000:Nat):Int)) (by omega) (by omega)];refine ⟨_,rfl,?_⟩;rw [wrap64 (by omega) (by omega),xR];simp only [go_sem,ya,yb,aH,aR hv.pu,aW _ hv.pu,aR hw.pu,aW _ hw.pu]<;>rfl
   ·rcases hs with ⟨h0,rfl⟩ | ⟨h0,rfl⟩
    ·subst h0;have mR:out=[]:=yN hlen;subst mR
     simp only [go_sem,ya,yb,xT,yr,yi,yj,pJ,hv.len,hv.ao,hw.len,hw.ao,t1,t2,e1,e2,wrap64 (n:=x+y) (by omega) (by omega),CY,wrap64 (n:=(s0:Int)) (by omega) (by omega),gF _ _ _ (show (1000000000:Int)≠0 by decide),fq _ _ _ (show (1000000000:Int)≠0 by decide),hr,hq,wrap64 (n:=((s0/1000000000:Nat):Int)) (by omega) (by omega),nl];refine ⟨_,rfl,?_⟩;rw [wrap64 (by omega) (by omega)];simp only [go_sem,ya,yb,aH,aR hv.pu,aW _ hv.pu,aR hw.pu,aW _ hw.pu]<;>rfl
    ·simp only [go_sem,ya,yb,yi,yj,pJ,hv.len,hv.ao,hw.len,hw.ao,t1,t2,e1,e2,wrap64 (n:=x+y) (by omega) (by omega),CY,wrap64 (n:=(s0:Int)) (by omega) (by omega),gF _ _ _ (show (1000000000:Int)≠0 by decide),hr]
     rw [my (ex:=false) (pu:=true) (cs:=out.map ab) (by simp only [go_sem,ya]) (by rw [xq,hlen,yj]) (by omega) (by omega) (by decide) (by simp only [go_sem])]
     simp only [go_sem,ya,yb,fq _ _ _ (show (1000000000:Int)≠0 by decide),hq,wrap64 (n:=((s0/1000000000:Nat):Int)) (by omega) (by omega)];refine ⟨_,rfl,?_⟩;rw [wrap64 (by omega) (by omega),xR];simp only [go_sem,ya,yb,aH,aR hv.pu,aW _ hv.pu,aR hw.pu,aW _ hw.pu]<;>rfl
   ·rcases hs with ⟨h0,rfl⟩ | ⟨h0,rfl⟩
    ·subst h0;have mR:out=[]:=yN hlen;subst mR
     simp only [go_sem,ya,yb,xT,yr,yi,yj,pJ,hv.len,hv.ao,hw.len,hw.ao,t1,t2,t3,e1,e2,wrap64 (n:=x+y) (by omega) (by omega),CY,wrap64 (n:=(s0:Int)) (by omega) (by omega),gF _ _ _ (show (1000000000:Int)≠0 by decide),fq _ _ _ (show (1000000000:Int)≠0 by decide),hr,hq,wrap64 (n:=((s0/1000000000:Nat):Int)) (by omega) (by omega),nl];refine ⟨_,rfl,?_⟩;rw [wrap64 (by omega) (by omega)];simp only [go_sem,ya,yb,aH,aR hv.pu,aW _ hv.pu,aR hw.pu,aW _ hw.pu]<;>rfl
    ·simp only [go_sem,ya,yb,yi,yj,pJ,hv.len,hv.ao,hw.len,hw.ao,t1,t2,t3,e1,e2,wrap64 (n:=x+y) (by omega) (by omega),CY,wrap64 (n:=(s0:Int)) (by omega) (by omega),gF _ _ _ (show (1000000000:Int)≠0 by decide),hr]
     rw [my (ex:=false) (pu:=true) (cs:=out.map ab) (by simp only [go_sem,ya]) (by rw [xq,hlen,yj]) (by omega) (by omega) (by decide) (by simp only [go_sem])]
     simp only [go_sem,ya,yb,fq _ _ _ (show (1000000000:Int)≠0 by decide),hq,wrap64 (n:=((s0/1000000000:Nat):Int)) (by omega) (by omega)];refine ⟨_,rfl,?_⟩;rw [wrap64 (by omega) (by omega),xR];simp only [go_sem,ya,yb,aH,aR hv.pu,aW _ hv.pu,aR hw.pu,aW _ hw.pu]<;>rfl
  obtain ⟨s',f1,f2⟩:=fin;exact ⟨s',_,f1,aCU,i+1,s0/1000000000,_,rfl,WD,qP,H9,ll,by omega,aEy,.inr ⟨by omega,f2⟩⟩
 ·right
  have lJ:c=0:=by omega
  subst lJ;rw [xG,yW,yK (by omega),yK (by omega)] at aM;rcases hs with ⟨h0,rfl⟩ | ⟨h0,rfl⟩
  ·simp only [go_sem,ya,pJ,hv.len,hw.len,show ¬(i:Int)<a.length by omega,show ¬(i:Int)<b.length by omega,show ¬(0:Int)<((0:Nat):Int) by omega];exact ⟨_,_,rfl,by simp,_,out,rfl,lL,aM,by omega,.inl ⟨yN (by omega),by simp only [go_sem,ya],rfl⟩⟩
  ·simp only [go_sem,ya,pJ,hv.len,hw.len,show ¬(i:Int)<a.length by omega,show ¬(i:Int)<b.length by omega,show ¬(0:Int)<((0:Nat):Int) by omega];exact ⟨_,_,rfl,by simp,_,out,rfl,lL,aM,by omega,.inr ⟨by omega,by rw [hlen];simp only [go_sem,ya],rfl⟩⟩
def anK (h:Has P L 295 L7) (mQ:Has P L 302 sJ) {v w:AV} {a b:List Int} (hv:bB v a) (hw:bB w b) (ha:dg a) (hb:dg b) (la:a.length<=20000000000) (lb:b.length<=20000000000):
  ∃r out,ai P L 295 [v,w] r/\bB (shut r) out/\dg out/\dv out=dv a+dv b/\out.length<=max a.length b.length+1:=by
 have iz:∃out,ai P L 295 [v,w] (if out=[] then .aa else .bV false 1 out.length (out.map ab))/\dg out/\dv out=dv a+dv b/\out.length<=max a.length b.length+1:=by
  unfold ai;rw [ax h];simp only [go_sem,L7];generalize hq:D P L (.loop [0,1,5,6,7] pJ) _=q;obtain ⟨ex,s,rfl,tm,out,rfl,hd,aM,hl,hs⟩:=cG hq (aBk (P:=P) (L:=L) mQ hv hw ha hb (N:=max a.length b.length) (by omega) (by omega) (by omega) (2*(max a.length b.length))) ⟨0,0,[],by omega,rfl,by omega,rfl,by simp [dv],by omega,.inr rfl,.inl ⟨rfl,by simp only [go_sem,ya,aH,aR hv.pu,aW _ hv.pu,aR hw.pu,aW _ hw.pu]<;>rfl⟩⟩
  refine ⟨out,?_,hd,aM,hl⟩;rcases hs with ⟨h0,h5,rfl⟩ | ⟨h0,h5,rfl⟩
  ·rw [yz h0];simp only [go_sem,aH,h5]
  ·rw [yp (by intro e;subst e;simp at h0)];simp only [go_sem,yb,aH,h5];exact Ur (ON _ _ _) (by simp) (by decide)
 obtain ⟨out,g1,g2,g3,g4⟩:=iz;refine ⟨_,out,g1,?_,g2,g3,g4⟩
 split
 ·rename_i e;subst e;exact DR
 ·exact gG false out
end
end
section
open Go (IntKind)
section
variable {P:aJ} {L:Lib}
def abJ (h:Has P L 296 sI) {v w:AV} {a b:List Int} (hv:bB v a) (hw:bB w b) (ha:dg a) (hb:dg b) (na:nz a) (nb:nz b) (la:a.length<=20000000000) (lb:b.length<=20000000000):
  ai P L 296 [v,w] (ab (ef (dv a) (dv b))):=by
 unfold ai;rw [ax h];by_cases hlen:a.length=b.length
 ·have key:=cR (P:=P) (L:=L) (live:=[0,1,5]) (a:=Ea)
   (I:=fun k st=>∃j:Nat,st=⟨[(0,v),(1,w),(5,ab ((j:Int)-1))],[],0,0⟩/\j<=a.length/\j=k/\a.drop j=b.drop j)
   (Q:=fun ex st=>∃tm ct,st=⟨tm,[],ct,0⟩/\((ex= .ret/\ak tm 4=ab (ef (dv a) (dv b)))\/(ex= .exit 0/\a=b))) ?_
  ·simp only [go_sem,ya,sI,hv.len,hw.len,show (a.length:Int)=b.length by omega];generalize hq:D P L (.loop [0,1,5] Ea) _=q;obtain ⟨ex,st,rfl,tm,ct,rfl,h2⟩:=cG hq (key a.length) ⟨a.length,by
    rw [wrap64 (by omega) (by omega)];rw [hlen]
    simp only [go_sem,ya,aH,aR hv.pu,aW _ hv.pu,aR hw.pu,aW _ hw.pu]<;>rfl,yA _,rfl,by rw [xn (yA _),xn (by omega)]⟩
   rcases h2 with ⟨rfl,h2⟩ | ⟨rfl,h2⟩
   ·simp only [go_sem,h2]
   ·simp only [go_sem,aH];subst h2;simp [ef]
  ·rintro k st ⟨j,rfl,hj,rfl,he⟩
   cases j with
   | zero=>
    right
    simp only [go_sem,ya,Ea,show ¬(0:Int)<=((0:Nat):Int)-1 by omega];exact ⟨_,_,rfl,by simp,_,_,rfl,.inr ⟨rfl,by simpa using he⟩⟩
   | succ i=>
    have h1:i<a.length:=by omega
    have h2:i<b.length:=by omega
    have Ix:=ajG ha hb h1 h2 he;have aZ:=ajG hb ha h2 h1 he.symm;by_cases c1:a[i]<b[i]
    ·right
     simp only [go_sem,ya,Ea,show ((i+1:Nat):Int)-1=(i:Int) by omega,show (0:Int)<=(i:Int) by omega,hv.bz h1,hw.bz h2,c1];refine ⟨_,_,rfl,by simp,_,_,rfl,.inl ⟨rfl,?_⟩⟩;simp only [go_sem];unfold ef;rw [yz (Ix c1)]
    ·by_cases c2:b[i]<a[i]
     ·right
      simp only [go_sem,ya,Ea,show ((i+1:Nat):Int)-1=(i:Int) by omega,show (0:Int)<=(i:Int) by omega,hv.bz h1,hw.bz h2,c1,c2];refine ⟨_,_,rfl,by simp,_,_,rfl,.inl ⟨rfl,?_⟩⟩;simp only [go_sem];unfold ef;rw [yp (by omega),yz (by omega)]
     ·left
      simp only [go_sem,ya,Ea,show ((i+1:Nat):Int)-1=(i:Int) by omega,show (0:Int)<=(i:Int) by omega,hv.bz h1,hw.bz h2,c1,c2];refine ⟨_,i,rfl,by omega,i,?_,by omega,rfl,?_⟩
      ·rw [wrap64 (by omega) (by omega)];simp only [go_sem,ya,aH,aR hv.pu,aW _ hv.pu,aR hw.pu,aW _ hw.pu]<;>rfl
      ·rw [yX h1,yX h2,he,show a[i]=b[i] by omega]
 ·by_cases c1:a.length<b.length
  ·have:=VX ha nb hb c1
   simp only [go_sem,ya,sI,hv.len,hw.len,show ¬(a.length:Int)=b.length by omega,show (a.length:Int)<b.length by omega];unfold ef;rw [yz this]
  ·have:=VX hb na ha (show b.length<a.length by omega)
   simp only [go_sem,ya,sI,hv.len,hw.len,show ¬(a.length:Int)=b.length by omega,show ¬(a.length:Int)<b.length by omega];unfold ef;rw [yp (by omega),yz this]
def avw {a b out:List Int} {i c:Nat} {x y z:Int} {c':Nat} (hx:x=a.getD i 0) (hy:y=b.getD i 0) (h1:0<=x) (h2:0<=y) (h3:0<=z) (hz:z=x-y-c+1000000000*c') (hl:out.length=i) (hv:dv out+dv (b.take i)=dv (a.take i)+1000000000^i*c):
  dv (out++[z])+dv (b.take (i+1))=dv (a.take (i+1))+1000000000^(i+1)*c':=by
 rw [px,px,nk,hl,<-hx,<-hy];simp only [dv,xG,yW,xh];have e:z.toNat+y.toNat+c=x.toNat+1000000000*c':=by omega
 grind
end
end
section
open Go (IntKind)
section
variable {P:aJ} {L:Lib}
def aBl (mQ:Has P L 302 sJ) {v w:AV} {a b:List Int} (hv:bB v a) (hw:bB w b) (ha:dg a) (hb:dg b) (la:a.length<=20000000000) (hle:dv b<=dv a) (FH:b.length<=a.length):
  ∀k s,(∃(i c:Nat) (out:List Int),i+k=a.length/\out.length=i/\c<=1/\dg out/\dv out+dv (b.take i)=dv (a.take i)+1000000000^i*c/\
    ((i=0/\bS [0,1,5,6,7] s=⟨[(0,v),(1,w),(5,.aa),(6,ab c),(7,ab i)],[],0,0⟩)\/
    (0<i/\bS [0,1,5,6,7] s=⟨[(0,v),(1,w),(5,.ay 0 0 i),(6,ab c),(7,ab i)],[(0,.cells true true false 1 (out.map ab))],1,0⟩)))->
   ∃ex s',D P L (.loop [0,1,5,6,7] ss) s=some (ex,s')/\∃tm out,ex= .exit 0/\dg out/\dv out+dv b=dv a/\out.length<=20000000000/\((out=[]/\ak tm 5= .aa/\s'=⟨tm,[],0,0⟩)\/(0<out.length/\ak tm 5= .ay 0 0 out.length/\s'=⟨tm,[(0,.cells true true false 1 (out.map ab))],1,0⟩)):=by
 refine cR (I:=fun k s=>∃(i c:Nat) (out:List Int),i+k=a.length/\out.length=i/\c<=1/\dg out/\dv out+dv (b.take i)=dv (a.take i)+1000000000^i*c/\
    ((i=0/\s=⟨[(0,v),(1,w),(5,.aa),(6,ab c),(7,ab i)],[],0,0⟩)\/
    (0<i/\s=⟨[(0,v),(1,w),(5,.ay 0 0 i),(6,ab c),(7,ab i)],[(0,.cells true true false 1 (out.map ab))],1,0⟩)))
  (Q:=fun ex s'=>∃tm out,ex= .exit 0/\dg out/\dv out+dv b=dv a/\out.length<=20000000000/\((out=[]/\ak tm 5= .aa/\s'=⟨tm,[],0,0⟩)\/(0<out.length/\ak tm 5= .ay 0 0 out.length/\s'=⟨tm,[(0,.cells true true false 1 (out.map ab))],1,0⟩))) ?_
 rintro k s ⟨i,c,out,hk,hlen,hc,lL,aM,hs⟩;have e2:=abm mQ hw i;unfold ai at e2;have ga:=ij ha i;have gb:=ij hb i;by_cases zu:i<a.length
 ·left
  obtain ⟨x,hx⟩:∃x,x=a.getD i 0:=⟨_,rfl⟩;obtain ⟨y,hy⟩:∃y,y=b.getD i 0:=⟨_,rfl⟩;have zD:a[i]=x:=by rw [hx];simp [List.getD_eq_getElem?_getD,List.getElem?_eq_getElem zu]
  have e1:=hv.bz zu;rw [zD] at e1;rw [<-hx] at ga;rw [<-hy] at e2 gb;obtain ⟨z,c',hz,qP,mo,mT,LI⟩:∃(z:Int) (c':Nat),z=x-y-c+1000000000*c'/\c'<=1/\0<=z/\z<1000000000/\((x-y-c<0/\c'=1)\/(¬x-y-c<0/\c'=0)):=by
   by_cases h:x-y-c<0
   ·exact ⟨x-y-c+1000000000,1,by omega,by omega,by omega,by omega,.inl ⟨h,rfl⟩⟩
   ·exact ⟨x-y-c,0,by omega,by omega,by omega,by omega,.inr ⟨h,rfl⟩⟩
  have ll:=avw hx hy ga.1 gb.1 mo hz hlen aM;have H9:dg (out++[z]):=ie.2 ⟨lL,kZ.2 ⟨mo,mT⟩⟩;have WD:(out++[z]).length=i+1:=by simp [hlen]
  have fin:∃s',D P L ss s=some (.normal,s')/\bS [0,1,5,6,7] s'=⟨[(0,v),(1,w),(5,.ay 0 0 (i+1)),(6,ab c'),(7,ab (i+1:Nat))],[(0,.cells true true false 1 ((out++[z]).map ab))],1,0⟩:=by
   rcases LI with ⟨hO,rfl⟩ | ⟨hO,rfl⟩
   ·have mg:x-y-c+1000000000=z:=by omega
    rcases hs with ⟨h0,rfl⟩ | ⟨h0,rfl⟩
    ·subst h0;have mR:out=[]:=yN hlen;subst mR
     simp only [go_sem,ya,yb,xT,yr,yi,yj,ss,hv.len,hw.ao,show ((0:Nat):Int)<a.length by omega,e1,e2,wrap64 (n:=x-y) (by omega) (by omega),wrap64 (n:=x-y-(c:Int)) (by omega) (by omega),hO,mg,wrap64 (n:=z) (by omega) (by omega),nl];refine ⟨_,rfl,?_⟩;rw [wrap64 (by omega) (by omega)];simp only [go_sem,ya,yb,aH,aR hv.pu,aW _ hv.pu,aR hw.pu,aW _ hw.pu]<;>rfl
    ·simp only [go_sem,ya,yb,yi,yj,ss,hv.len,hw.ao,show (i:Int)<a.length by omega,e1,e2,wrap64 (n:=x-y) (by omega) (by omega),wrap64 (n:=x-y-(c:Int)) (by omega) (by omega),hO,mg,wrap64 (n:=z) (by omega) (by omega)]
     rw [my (ex:=false) (pu:=true) (cs:=out.map ab) (by simp only [go_sem,ya]) (by rw [xq,hlen,yj]) (by omega) (by omega) (by decide) (by simp only [go_sem])];simp only [go_sem,ya,yb];refine ⟨_,rfl,?_⟩;rw [wrap64 (by omega) (by omega),xR];simp only [go_sem,ya,yb,aH,aR hv.pu,aW _ hv.pu,aR hw.pu,aW _ hw.pu]<;>rfl
   ·have mg:x-y-c=z:=by omega
    have hO:¬z<0:=by omega
    rcases hs with ⟨h0,rfl⟩ | ⟨h0,rfl⟩
    ·subst h0;have mR:out=[]:=yN hlen;subst mR
     simp only [go_sem,ya,yb,xT,yr,yi,yj,ss,hv.len,hw.ao,show ((0:Nat):Int)<a.length by omega,e1,e2,wrap64 (n:=x-y) (by omega) (by omega),mg,wrap64 (n:=z) (by omega) (by omega),hO,nl];refine ⟨_,rfl,?_⟩;rw [wrap64 (by omega) (by omega)];simp only [go_sem,ya,yb,aH,aR hv.pu,aW _ hv.pu,aR hw.pu,aW _ hw.pu]<;>rfl
    ·simp only [go_sem,ya,yb,yi,yj,ss,hv.len,hw.ao,show (i:Int)<a.length by omega,e1,e2,wrap64 (n:=x-y) (by omega) (by omega),mg,wrap64 (n:=z) (by omega) (by omega),hO]
     rw [my (ex:=false) (pu:=true) (cs:=out.map ab) (by simp only [go_sem,ya]) (by rw [xq,hlen,yj]) (by omega) (by omega) (by decide) (by simp only [go_sem])];simp only [go_sem,ya,yb];refine ⟨_,rfl,?_⟩;rw [wrap64 (by omega) (by omega),xR];simp only [go_sem,ya,yb,aH,aR hv.pu,aW _ hv.pu,aR hw.pu,aW _ hw.pu]<;>rfl
  obtain ⟨s',f1,f2⟩:=fin;exact ⟨s',k-1,f1,by omega,i+1,c',_,by omega,WD,qP,H9,ll,.inr ⟨by omega,f2⟩⟩
 ·right
  have alO:dv out+dv b=dv a:=by
   rw [yK (by omega),yK (by omega)] at aM;have aZ:=jO lL;rw [hlen] at aZ;rcases (show c=0\/c=1 by omega) with rfl | rfl
   ·omega
   ·omega
  rcases hs with ⟨h0,rfl⟩ | ⟨h0,rfl⟩
  ·simp only [go_sem,ya,ss,hv.len,show ¬(i:Int)<a.length by omega];exact ⟨_,_,rfl,by simp,_,out,rfl,lL,alO,by omega,.inl ⟨yN (by omega),by simp only [go_sem,ya],rfl⟩⟩
  ·simp only [go_sem,ya,ss,hv.len,show ¬(i:Int)<a.length by omega];exact ⟨_,_,rfl,by simp,_,out,rfl,lL,alO,by omega,.inr ⟨by omega,by rw [hlen];simp only [go_sem,ya],rfl⟩⟩
def anL (h:Has P L 297 L8) (mQ:Has P L 302 sJ) (cZ:Has P L 300 ma) {v w:AV} {a b:List Int} (hv:bB v a) (hw:bB w b) (ha:dg a) (hb:dg b) (na:nz a) (nb:nz b) (la:a.length<=20000000000) (hle:dv b<=dv a):
  ∃r out,ai P L 297 [v,w] r/\bB r out/\shut r=r/\dg out/\nz out/\dv out+dv b=dv a:=by
 have FH:b.length<=a.length:=by
  by_cases h:a.length<b.length
  ·have:=VX ha nb hb h;omega
  ·omega
 unfold ai;rw [ax h];simp only [go_sem,L8];generalize hq:D P L (.loop [0,1,5,6,7] ss) _=q;obtain ⟨ex,s,rfl,tm,out,rfl,hd,aM,hl,hs⟩:=cG hq (aBl (P:=P) (L:=L) mQ hv hw ha hb la hle FH a.length) ⟨0,0,[],by omega,rfl,by omega,rfl,by simp [dv],.inl ⟨rfl,by simp only [go_sem,ya,aH,aR hv.pu,aW _ hv.pu,aR hw.pu,aW _ hw.pu]<;>rfl⟩⟩
 have lG:=gG false out;rcases hs with ⟨h0,h5,rfl⟩ | ⟨h0,h5,rfl⟩
 ·subst h0;obtain ⟨r,e1,hr,eV⟩:=CU cZ (v:= .aa) (l:=[]) DR (by simp);refine ⟨r,et [],?_,hr,eV,rfl,rfl,by rw [zL];exact aM⟩
  simp only [go_sem,aH,h5,e1,eV,hr.dU]
 ·obtain ⟨r,e1,hr,eV⟩:=CU cZ lG hl;refine ⟨r,et out,?_,hr,eV,BP hd,Gp out,by rw [zL];exact aM⟩
  have jo:∀hp:Hp,jR 0 out.length (some (false,1,out.map ab,hp))=some (.ap false out.length (out.map ab),hp):=fun hp=>q8 false (by simp) (by decide)
  simp only [go_sem,yb,aH,h5,jo,e1,eV,hr.dU]
end
end
section
open Go (IntKind)
def Dy {hp:Hp} {ct id o:Nat} {v:Int} {ex:Bool} {l:List Int} (h:o<l.length):gC hp ct id o 1 [.int .i64 v] (some (.cells true true ex 1 (l.map ab)))=some (.af [],bf hp id (.cells true true ex 1 ((l.set o v).map ab)),ct):=by
 rw [rq (by rfl) (by simp;omega) (by rfl)]
 have:over o [AV.int .i64 v] (l.map ab)=(l.set o v).map ab:=by
  simp only [over,yx,yJ,yd];rw [List.map_set,List.set_eq_take_append_cons_drop,yz (by simpa using h)]
  simp
 rw [this];rfl
def sC {l:List Int} {o:Nat} (h:o<l.length):wK o (l.map ab)=AV.int .i64 (l.getD o 0)::wK (o+1) (l.map ab):=by
 rw [yX (by simpa using h)]
 grind
def rz {v:AV} {l:List Int} (hv:bB v l) {i:Nat} (h:i<l.length):kw 1 i v=some (.cz (.int .i64 (l.getD i 0)::(l.map ab).drop (i+1))):=by
 rw [hv.bz h]
 grind
def avx {o x y c:Int} (ho:0<=o/\o<1000000000) (hx:0<=x/\x<1000000000) (hy:0<=y/\y<1000000000) (hc:0<=c/\c<1000000000):
  (0<=x*y/\x*y<=999999998000000001)/\0<=o+x*y+c/\o+x*y+c<1000000000000000000:=by
 have h1:=Int.mul_nonneg hx.1 hy.1;have h2:=Int.mul_le_mul (show x<=999999999 by omega) (show y<=999999999 by omega) hy.1 (by decide);omega
section
variable {P:aJ} {L:Lib}
def aBm {v w:AV} {a b:List Int} (hv:bB v a) (hw:bB w b) (ha:dg a) (hb:dg b) (la:a.length<=20000000000) (lb:b.length<=20000000000) {n i:Nat} (hn:n=a.length+b.length) (hi:i<a.length) {out0:List Int}:
  ∀k s,(∃(j:Nat) (c:Int) (out:List Int),bS [0,1,5,6,7,8] s=⟨[(0,v),(1,w),(5,.ay 0 0 n),(6,ab i),(7,ab c),(8,ab j)],[(0,.cells true true true 1 (out.map ab))],1,0⟩/\j+k=b.length/\out.length=n/\dg out/\(0<=c/\c<1000000000)/\
    dv out+1000000000^i*1000000000^j*c.toNat=dv out0+1000000000^i*((a.getD i 0).toNat*dv (b.take j))/\(∀m,i+b.length<=m->out.getD m 0=out0.getD m 0))->
   ∃ex s',D P L (.loop [0,1,5,6,7,8] La) s=some (ex,s')/\∃tm c out,s'=⟨tm,[(0,.cells true true true 1 (out.map ab))],1,0⟩/\ex= .exit 2/\ak tm 0=v/\ak tm 1=w/\ak tm 5= .ay 0 0 n/\ak tm 6=ab i/\ak tm 7=ab c/\out.length=n/\dg out/\(0<=c/\c<1000000000)/\
    dv out+1000000000^i*1000000000^b.length*c.toNat=dv out0+1000000000^i*((a.getD i 0).toNat*dv b)/\(∀m,i+b.length<=m->out.getD m 0=out0.getD m 0):=by
 refine cR (I:=fun k s=>∃(j:Nat) (c:Int) (out:List Int),s=⟨[(0,v),(1,w),(5,.ay 0 0 n),(6,ab i),(7,ab c),(8,ab j)],[(0,.cells true true true 1 (out.map ab))],1,0⟩/\j+k=b.length/\out.length=n/\dg out/\(0<=c/\c<1000000000)/\
    dv out+1000000000^i*1000000000^j*c.toNat=dv out0+1000000000^i*((a.getD i 0).toNat*dv (b.take j))/\(∀m,i+b.length<=m->out.getD m 0=out0.getD m 0))
  (Q:=fun ex s'=>∃tm c out,s'=⟨tm,[(0,.cells true true true 1 (out.map ab))],1,0⟩/\ex= .exit 2/\ak tm 0=v/\ak tm 1=w/\ak tm 5= .ay 0 0 n/\ak tm 6=ab i/\ak tm 7=ab c/\out.length=n/\dg out/\(0<=c/\c<1000000000)/\
    dv out+1000000000^i*1000000000^b.length*c.toNat=dv out0+1000000000^i*((a.getD i 0).toNat*dv b)/\(∀m,i+b.length<=m->out.getD m 0=out0.getD m 0)) ?_
 rintro k s ⟨j,c,out,rfl,hk,hlen,hd,hc,aM,fB⟩;by_cases hj:j<b.length
 ·left
  obtain ⟨x,hx⟩:∃x,x=a.getD i 0:=⟨_,rfl⟩;obtain ⟨y,hy⟩:∃y,y=b.getD j 0:=⟨_,rfl⟩;obtain ⟨o,ho⟩:∃o,o=out.getD (i+j) 0:=⟨_,rfl⟩;have gx:=ij ha i;have gy:=ij hb j;have nX:=ij hd (i+j);rw [<-hx] at gx;rw [<-hy] at gy;rw [<-ho] at nX;obtain ⟨p1,p2,p3⟩:=avx nX gx gy hc;obtain ⟨t,ht⟩:∃t:Nat,o+x*y+c=t:=⟨(o+x*y+c).toNat,by omega⟩;have hr:((t:Nat):Int).tmod 1000000000=((t%1000000000:Nat):Int):=by rw [wc (by omega)];rfl
  have hq:((t:Nat):Int).tdiv 1000000000=((t/1000000000:Nat):Int):=by rw [xX (by omega)];rfl
  have e1:=rz hv hi;have e2:=rz hw hj;rw [<-hx] at e1;rw [<-hy] at e2;have e3:=sC (l:=out) (o:=i+j) (by omega);rw [<-ho] at e3;have lK:t=o.toNat+x.toNat*y.toNat+c.toNat:=by
   have:((x.toNat*y.toNat:Nat):Int)=x*y:=by rw [xE,yaq gx.1,yaq gy.1]
   omega
  have bf:=VY (l:=out) (j:=i+j) (x:=((t%1000000000:Nat):Int)) (by omega);rw [<-ho,xC,xO] at bf;have ll:=aun (Y:=dv (b.take j)) lK bf (by rw [hx];exact aM)
  simp only [go_sem,ya,yj,La,hw.len,show (j:Int)<b.length by omega,wrapN (n:=i+j) (by omega),show (i:Int)+(j:Int)=((i+j:Nat):Int) from rfl,dD 0 0 (show i+j<n by omega),yd,e3,e1,e2,wrap64 (n:=x*y) (by omega) (by omega),wrap64 (n:=o+x*y) (by omega) (by omega),ht,wrapN (n:=t) (by omega),gF _ _ _ (show (1000000000:Int)≠0 by decide),fq _ _ _ (show (1000000000:Int)≠0 by decide),hr,hq,wrapN (n:=t/1000000000) (by omega),Dy (l:=out) (o:=i+j) (by omega)];refine ⟨_,k-1,rfl,by omega,j+1,((t/1000000000:Nat):Int),out.set (i+j) ((t%1000000000:Nat):Int),?_,by omega,by simp [hlen],Pw hd (by omega),by omega,?_,fun m hm=>?_⟩
  ·rw [wrap64 (by omega) (by omega)];simp only [go_sem,ya,yb,aH,aR hv.pu,aW _ hv.pu,aR hw.pu,aW _ hw.pu]<;>rfl
  ·rw [xC,px,xh,<-hx,<-hy];exact ll
  ·rw [agp (by omega)];exact fB m hm
 ·right
  have:j=b.length:=by omega
  subst this;rw [xW] at aM;simp only [go_sem,ya,La,hw.len,show ¬(b.length:Int)<b.length by omega];exact ⟨_,_,rfl,by simp,_,c,out,rfl,rfl,by simp only [go_sem,ya],by simp only [go_sem,ya],by simp only [go_sem,ya],by simp only [go_sem,ya],by simp only [go_sem,ya],hlen,hd,hc,aM,fB⟩
end
end
section
open Go (IntKind)
def Uw (n:Nat):(yF n [AV.int .i64 0]).flatten=(yF n (0:Int)).map ab:=by simp_all
def VM (b:Bool):Mz true (some b)=some (.bool (!b)):=by cases b<;>rfl
def ae7 (n m:Nat):(yF n (0:Int)).getD m 0=0:=by grind
section
variable {P:aJ} {L:Lib}
def aBn {v w:AV} {a b:List Int} (hv:bB v a) (hw:bB w b) (ha:dg a) (hb:dg b) (la:a.length<=20000000000) (lb:b.length<=20000000000) {n:Nat} (hn:n=a.length+b.length):
  ∀k s,(∃(i:Nat) (out:List Int),bS [0,1,5,6] s=⟨[(0,v),(1,w),(5,.ay 0 0 n),(6,ab i)],[(0,.cells true true true 1 (out.map ab))],1,0⟩/\i+k=a.length/\out.length=n/\dg out/\dv out=dv (a.take i)*dv b/\(∀m,i+b.length<=m->out.getD m 0=0))->
   ∃ex s',D P L (.loop [0,1,5,6] Lb) s=some (ex,s')/\∃tm out,s'=⟨tm,[(0,.cells true true true 1 (out.map ab))],1,0⟩/\ex= .exit 0/\ak tm 5= .ay 0 0 n/\out.length=n/\dg out/\dv out=dv a*dv b:=by
 refine cR (I:=fun k s=>∃(i:Nat) (out:List Int),s=⟨[(0,v),(1,w),(5,.ay 0 0 n),(6,ab i)],[(0,.cells true true true 1 (out.map ab))],1,0⟩/\i+k=a.length/\out.length=n/\dg out/\dv out=dv (a.take i)*dv b/\(∀m,i+b.length<=m->out.getD m 0=0))
  (Q:=fun ex s'=>∃tm out,s'=⟨tm,[(0,.cells true true true 1 (out.map ab))],1,0⟩/\ex= .exit 0/\ak tm 5= .ay 0 0 n/\out.length=n/\dg out/\dv out=dv a*dv b) ?_
 rintro k s ⟨i,out,rfl,hk,hlen,hd,aM,fB⟩;by_cases hi:i<a.length
 ·left
  simp only [go_sem,ya,Lb,hv.len,show (i:Int)<a.length by omega];generalize hq:D P L (.loop [0,1,5,6,7,8] La) _=q;obtain ⟨ex,s,rfl,tm,c,sO,rfl,rfl,t0,t1,t5,t6,t7,WA,kP,hc,WB,MC⟩:=cG hq (aBm (P:=P) (L:=L) hv hw ha hb la lb hn hi (out0:=out) b.length) ⟨0,0,out,by simp only [go_sem,ya,yb,aH,aR hv.pu,aW _ hv.pu,aR hw.pu,aW _ hw.pu]<;>rfl,by omega,hlen,hd,by omega,by simp [dv],fun m _=>rfl⟩
  have hz:sO.getD (i+b.length) 0=0:=by rw [MC _ (yA _),fB _ (yA _)]
  have e3:=sC (l:=sO) (o:=i+b.length) (by omega);rw [hz] at e3;have bf:=VY (l:=sO) (j:=i+b.length) (x:=c) (by omega);rw [hz,xO] at bf
  simp only [go_sem,ya,yj,aH,t0,t1,t5,t6,t7,hw.len,aR hv.pu,aW _ hv.pu,aR hw.pu,aW _ hw.pu,wrapN (n:=i+b.length) (by omega),show (i:Int)+(b.length:Int)=((i+b.length:Nat):Int) from rfl,dD 0 0 (show i+b.length<n by omega),yd,e3,Int.zero_add,wrap64 (n:=c) (by omega) (by omega),Dy (l:=sO) (o:=i+b.length) (by omega)];refine ⟨_,k-1,rfl,by omega,i+1,sO.set (i+b.length) c,?_,by omega,by simp [WA],Pw kP hc,?_,fun m hm=>?_⟩
  ·rw [wrap64 (by omega) (by omega)];simp only [go_sem,ya,yb,aH,aR hv.pu,aW _ hv.pu,aR hw.pu,aW _ hw.pu]<;>rfl
  ·rw [px,Nat.add_mul,<-aM,xo];simp only [Int.toNat_zero,xG,yW] at bf;rw [bf];exact WB
  ·rw [agp (by omega),MC m (by omega),fB m (by omega)]
 ·right
  have:i=a.length:=by omega
  subst this;rw [xW] at aM;simp only [go_sem,ya,Lb,hv.len,show ¬(a.length:Int)<a.length by omega];exact ⟨_,_,rfl,by simp,_,out,rfl,rfl,by simp only [go_sem,ya],hlen,hd,aM⟩
def abK (h:Has P L 293 CE) (cZ:Has P L 300 ma) {v w:AV} {a b:List Int} (hv:bB v a) (hw:bB w b) (ha:dg a) (hb:dg b) (la:a.length<=8000000000) (lb:b.length<=8000000000):
  ∃r out,ai P L 293 [v,w] r/\bB r out/\shut r=r/\dg out/\nz out/\dv out=dv a*dv b:=by
 obtain ⟨n,hn⟩:∃n,n=a.length+b.length:=⟨_,rfl⟩;have cV:∀ct:Nat,AH ct 1 8 [.int .i64 0] (some n) (some n)=some (.ay ct 0 n,.cells true true true 1 ((yF n (0:Int)).map ab)):=fun ct=>by
  rw [Lh (sz:=1) (by omega) (by omega) (by rfl) (by rfl),Uw];rfl
 unfold ai;rw [ax h]
 simp only [go_sem,ya,yb,CE,hv.len,hw.len,wrapN (n:=n) (by omega),show (a.length:Int)+(b.length:Int)=((a.length+b.length:Nat):Int) from rfl,<-hn,cV];generalize hq:D P L (.loop [0,1,5,6] Lb) _=q;obtain ⟨ex,s,rfl,tm,out,rfl,rfl,t5,hlen,hd,aM⟩:=cG hq (aBn (P:=P) (L:=L) hv hw ha hb (by omega) (by omega) hn a.length) ⟨0,yF n 0,by simp only [go_sem,ya,yb,aH,aR hv.pu,aW _ hv.pu,aR hw.pu,aW _ hw.pu]<;>rfl,by omega,by simp,agr n,by rw [agq];simp [dv],fun m _=>ae7 n m⟩
 have lG:=gG true out;rw [hlen] at lG;obtain ⟨r,e1,hr,eV⟩:=CU cZ lG (by omega);refine ⟨r,et out,?_,hr,eV,BP hd,Gp out,by rw [zL];exact aM⟩
 have jo:∀hp:Hp,jR 0 n (some (true,1,out.map ab,hp))=some (.ap true n (out.map ab),hp):=fun hp=>q8 true (by simp [hlen]) (by decide)
 simp only [go_sem,yb,aH,t5,jo,e1,eV,hr.dU]
def MQ (h:Has P L 278 QA) (lC:Has P L 293 CE) (iL:Has P L 294 CF) (cZ:Has P L 300 ma) {v w:AV} {n m:Int} {K:Nat} (hK:K<=8000000000) (hv:jq v n) (hw:jq w m) (hn:n.natAbs<1000000000^K) (hm:m.natAbs<1000000000^K):
  ∃r,ai P L 278 [v,w] r/\jq r (n*m):=by
 obtain ⟨x,a,rfl,hx,ha,na,va⟩:=hv;obtain ⟨y,b,rfl,hy,hb,nb,vb⟩:=hw;have la:=yS (ik ha na (by rw [va];exact hn)) hK
 have lb:=yS (ik hb nb (by rw [vb];exact hm)) hK
 obtain ⟨z,out,e1,hz,eV,hd,Dt,aM⟩:=abK lC cZ hx hy ha hb la lb;have lo:out.length<=20000000000:=by
  refine ik hd Dt ?_;rw [aM];have h1:=jO ha;have h2:=jO hb;have h3:dv a*dv b<1000000000^a.length*1000000000^b.length:=Nat.mul_lt_mul'' h1 h2;rw [<-xO] at h3;have hk:∀K,a.length+b.length<=K->dv a*dv b<1000000000^K:=fun K h=>yO h3 (xx (by decide) h)
  exact hk 20000000000 (by omega)
 obtain ⟨r,e2,hr⟩:=rG iL cZ (!(decide (n<0)==decide (m<0))) hz hd lo;have e:cD (!(decide (n<0)==decide (m<0))) (dv out)=n*m:=by
  rw [aM,va,vb];have hnm:((n.natAbs*m.natAbs:Nat):Int)=(n.natAbs:Int)*m.natAbs:=xE _ _;unfold cD;by_cases h0:n<0<;>by_cases h1:m<0<;>simp only [h0,h1,ym,yk,tQ,yI,yE,y9,hnm]
  ·rw [show (n.natAbs:Int)= -n by omega,show (m.natAbs:Int)= -m by omega,Int.neg_mul_neg]
  ·rw [show (true==false)=false from rfl,yH,yz rfl,show (n.natAbs:Int)= -n by omega,show (m.natAbs:Int)=m by omega,Int.neg_mul,ybG]
  ·rw [show (false==true)=false from rfl,yH,yz rfl,show (n.natAbs:Int)=n by omega,show (m.natAbs:Int)= -m by omega,Int.mul_neg,ybG]
  ·rw [show (n.natAbs:Int)=n by omega,show (m.natAbs:Int)=m by omega]
 rw [e] at hr;obtain ⟨w2,l2,rfl,ia,hZ,jV,AK⟩:=hr;refine ⟨_,?_,w2,l2,rfl,ia,hZ,jV,AK⟩;unfold ai at e1 e2 ⊢;rw [ax h];simp only [go_sem,ya,yb,QA,az,hx.pu,hx.ao,hx.one,hy.pu,hy.ao,hy.one,hz.ao,hz.shut,ia.pu,ia.one,aP,yd,bj,e1,pR,VM,e2,bP,bq];rcases ia with ⟨rfl,_⟩ | ⟨e,rfl⟩<;>rfl
end
end
end VE
