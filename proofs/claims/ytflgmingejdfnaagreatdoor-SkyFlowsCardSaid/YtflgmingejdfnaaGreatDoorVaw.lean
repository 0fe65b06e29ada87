import Derived.Test.YtflgmingejdfnaaGreatDoorVau
import Derived.Test.YtflgmingejdfnaaGreatDoorVal
import Derived.Test.YtflgmingejdfnaaGreatDoorVao
import Derived.Test.YtflgmingejdfnaaGreatDoorVap
import Derived.Test.YtflgmingejdfnaaGreatDoorVaq
import Derived.Test.YtflgmingejdfnaaGreatDoorVak
set_option linter.all false
set_option maxRecDepth 100000
open Bool renaming and_eq_true→yf,and_self→ve,false_and→xA,false_eq_true→yC,false_or→vD,not_false→yI,not_true→yK,true_and→xt,true_or→yay
open Go renaming DataW→xp,Field→uv,FloatKind→vU,IntKind→yU,MemPlace→xT,Program→y5,TypeId→yx,Value→ye,World→yh
open Int renaming natAbs_natCast→xW
open List renaming append_assoc→xu,append_nil→xO,drop_eq_nil_of_le→xj,drop_zero→yj,eq_nil_of_length_eq_zero→yN,flatMap_def→yaB,length_append→yQ,length_cons→yv,length_drop→wu,length_map→xx,length_nil→yF,length_take→yT,mapM_cons→vM,map_cons→y9,mem_cons→wo,mem_cons_of_mem→wk,mem_cons_self→wJ,mem_map→vS,take_of_length_le→yL
open List.cons renaming injEq→tL
open Nat renaming beq→yr,ble→yE,blt→yG,eq_of_beq_eq_true→yo,gcd→wi,le_of_ble_eq_true→yt,le_refl→yD,le_trans→xi,lt_of_lt_of_le→yH,mul_one→yi,pow_add→wP,pow_le_pow_left→ue,pow_le_pow_right→xn,pow_mul→uN,reduceAdd→yb,reduceEqDiff→ya,reduceLT→yy,reduceLeDiff→yg,zero_add→yd
open Option renaming bind_eq_bind→wY,bind_some→xG,map_eq_some_iff→xV,pure_def→wv
open Option.some renaming injEq→yc
open Prod.mk renaming injEq→yk
namespace VE
section
open Go (IntKind)
def ai8:∀(cs:List AV) (l:List Nat),re cs=some l->cs=l.map uc/\lo 18446744073709551616 l:=by
 intro cs
 induction cs with
 | nil=>
  intro l h;simp only [re,yc] at h;subst h;exact ⟨rfl,fun _ h=>by cases h⟩
 | cons c cs ih=>
  intro l h;unfold re at h
  split at h
  ·grind
  ·rename_i d r nY;cases nY
   cases hb:yG d 18446744073709551616 with
   | false=>rw [hb] at h;cases h
   | true=>
    rw [hb] at h
    cases hw:re cs with
    | none=>rw [hw] at h;cases h
    | some l'=>
     rw [hw] at h;cases h;obtain ⟨k1,k2⟩:=ih l' hw;refine ⟨by rw [k1];rfl,fun x hx=>?_⟩
     rcases wo.1 hx with rfl | hx
     ·simp_all
     ·exact k2 x hx
  ·cases h
def Y8:∀{l:List Nat},A8 l=true->fX l
 | [],h=>by cases h
 | [a],h=>by
  have h0:a≠0:=fun e=>by subst e;cases h
  exact DL h0 []
 | a::b::r,h=>by
  have h1:eb (b::r)=b::r:=Y8 (l:=b::r) h;show eb (a::(b::r))=_
  simp only [eb] at h1 ⊢;rw [h1]
section
variable {P:aK} {L:Lib}
def apj (h:Has P L 99 Dh) (TC:L.pure 135=some Iy) {s:Int} (hs:A2 s=true):bR P L (D P L) 99 [.agg [aa s,.ab]]=some (.str (aW s)):=by
 have e1:bR P L (D P L) 135 [aa s]=some (.str (aW s)):=by
  rw [iS TC];show (bif A2 s then some (AV.str (aW s)) else none)=_
  rw [hs];rfl
 rw [av h];simp only [go_sem,ya,yb,Dh,aH,bg,yd,bY,gC,dw,e1]
end
section
open Go
variable {O:bw}
def akP (hO:eH O) (hN:Nu O.prog O.aU) (TC:O.aU.pure 135=some Iy) (C2:O.aU.pure 138=some At) (zL:O.aU.pure 139=some AL) (FL:Has O.prog O.aU 99 Dh) {fn:Func} {c:Code} (lf:O.P.funcs[O.ah 99]? =some fn) (iO:fn.body=some c) (Of:fn.ntmps=69)
  (Tz:NR 5 c) (ht:Re O.P c):∀vals r,L2 vals=some r->eN O 99 vals r:=by
 intro vals r h;unfold L2 at h
 split at h
 ·rename_i s
  cases hs:A2 s with
  | false=>rw [hs] at h;cases h
  | true=>
   rw [hs] at h;cases h;obtain ⟨k,hk⟩:=acD (apj (P:=O.prog) (L:=O.aU) FL TC hs);exact sound hO hk
 ·rename_i s e n cs
  cases hw:re cs with
  | none=>rw [hw] at h;cases h
  | some l=>
   rw [hw] at h;simp only at h
   cases hb:(yr l.length n&&(yE n 4000000000&&(A8 l&&yE 9223372036854775808 (rK l)))) with
   | false=>rw [hb] at h;cases h
   | true=>
    rw [hb] at h;simp only [yf] at hb;obtain ⟨h1,h2,h3,h4⟩:=hb;obtain ⟨rfl,bn⟩:=ai8 cs l hw;have h1:=yo h1;subst h1;have h2:=yt h2;have h4:=yt h4;have h3:=Y8 h3;rw [Ra] at h4 h;have bi:=mi bn;have key:=fun (s z:Int) (hz:z.natAbs=bv 18446744073709551616 l) (hs:s=if z<0 then -1 else 1)=>
     am3 hO hN C2 zL FL.code lf iO Of Tz ht (s:=s) (z:=z) (e:=e) (l:=l) (.inr ⟨e,l,rfl,bn,h3,hz.symm,hs,by omega⟩) (by omega) h2 (by omega)
    split at h
    ·cases h
     have:=key 1 (bv 18446744073709551616 l:Nat) (by simp) (by rw [yz (by omega)])
     exact this
    ·cases h
     have:=key (-1) (-(bv 18446744073709551616 l:Nat):Int) (by simp) (by rw [yJ (by omega)])
     rw [jL (by omega)] at this
     grind
    ·cases h
 ·cases h
end
end
section
open Go
def RR (L:Lib) (n:Nat) (sp:List AV->Option AV):Lib:=⟨fun i=>bif yr i n then some sp else L.pure i,L.heap⟩
def akQ {O:bw} (hO:eH O) {n:Nat} {sp:List AV->Option AV} (h:∀vals r,sp vals=some r->eN O n vals r):eH (O.sP (RR O.aU n sp)) where
 hint:=hO.hint
 mixed:=hO.mixed
 prog:=hO.prog
 aU i OL vals r hi hs:=by
  show eN O i vals r
  simp only [RR] at hi
  cases hb:yr i n with
  | true=>
   simp_all
  | false=>
   rw [hb] at hi;exact hO.aU i OL vals r hi hs
 EH i OL hp ct vals v ao bh hi hs:=YP (hO.EH i OL hp ct vals v ao bh hi hs)
end
section
open Go
section
variable {H:Type} {enc:yx×ye->H} {P:y5} {w:yh} {base:Nat} {sp:Nat->Bool} {held:Bool}
def mapM_mem {α β:Type} {f:α->Option β}:∀{l:List α} {r:List β},l.mapM f=some r->∀y,y∈r->∃x,f x=some y
 | [],r,h,y,hy=>by simp only [List.mapM_nil,wv,yc] at h;subst h;cases hy
 | x::l,r,h,y,hy=>by
  rw [vM] at h
  cases h1:f x with
  | none=>simp [h1] at h
  | some z=>
   cases h2:l.mapM f with
   | none=>simp [h1,h2] at h
   | some zs=>
    simp only [h1,h2,xG,wY,wv,yc] at h;subst h;rcases wo.1 hy with rfl | hy
    ·exact ⟨x,h1⟩
    ·exact mapM_mem h2 y hy
def Rd (enc:yx×ye->H) (P:y5) (w:yh) (base:Nat) (sp:Nat->Bool) (held:Bool) (t:yx) (d:xp H):Prop:=∃bB cs ps,DataW.trod enc P w base sp held bB t cs=some (d,ps)
def arQ {t:yx} {k:yU} {d:xp H} {n:Nat} (ht:P.underlying t=some (.int k)) (h:Rd enc P w base sp held t d):∃z,cW P (n+1) t d=[.int k z]/\(Lit.int k z).wf=true:=by
 obtain ⟨bB,cs,ps,h⟩:=h
 cases bB with
 | zero=>simp [DataW.trod] at h
 | succ bB=>
  unfold DataW.trod at h
  split at h
  all_goals first
   | (rename_i hu;rw [ht] at hu;cases hu;done)
   | skip
  ·rename_i k1 k2 z hu;rw [ht] at hu;injection hu with hu
   injection hu with hu
   subst hu
   split at h
   ·rename_i hk;simp only [yc,yk] at h;obtain ⟨rfl,rfl⟩:=h;exact ⟨z,by simp only [cW,ht],hk.2⟩
   ·cases h
  all_goals (cases h;done)
def am7 {t e:yx} {d:xp H} {n:Nat} (ht:P.underlying t=some (.slice e)) (h:Rd enc P w base sp held t d):
  cW P (n+1) t d=[.ab]\/∃(x:Bool) (jw:List (xp H)),cW P (n+1) t d=[.aE x jw.length (jw.flatMap fun y=>cW P n e y)]/\∀y,y∈jw->Rd enc P w base sp held e y:=by
 obtain ⟨bB,cs,ps,h⟩:=h
 cases bB with
 | zero=>simp [DataW.trod] at h
 | succ bB=>
  unfold DataW.trod at h
  split at h
  all_goals first
   | (rename_i hu;rw [ht] at hu;cases hu;done)
   | skip
  ·simp only [yc,yk] at h;obtain ⟨rfl,rfl⟩:=h;exact .inl (by simp only [cW,ht])
  ·rename_i e' a len cap hu;rw [ht] at hu;injection hu with hu
   injection hu with hu
   subst hu;simp only at h
   split at h
   case isFalse=>cases h
   cases h1:(List.range len).mapM fun i=>(w.cells? base (a.add (i*P.cellsOf e)) (P.cellsOf e)).bind (DataW.trod enc P w base sp held bB e) with
   | none=>rw [h1] at h;simp at h
   | some jw=>
    rw [h1] at h;simp only [xG] at h;obtain ⟨rest,_,h⟩:=xV.1 h;simp only [yk] at h;obtain ⟨rfl,rfl⟩:=h;refine .inr ⟨(rest.map (·.1)).isEmpty,jw.map (·.1),by simp only [cW,ht,xx],?_⟩;intro y hy;obtain ⟨p,hp,rfl⟩:=vS.1 hy;obtain ⟨i,hi⟩:=mapM_mem h1 p hp;obtain ⟨dK,_,qh⟩:=Option.bind_eq_some_iff.1 hi;exact ⟨bB,dK,p.2,qh⟩
  all_goals (cases h;done)
def akR {t:yx} {fs:Array uv} {d:xp H} {n:Nat} (ht:P.underlying t=some (.struct fs)) (h:Rd enc P w base sp held t d):
  ∃ds:List (xp H),ds.length=fs.toList.length/\cW P (n+1) t d=(fs.toList.zip ds).flatMap (fun x=>cW P n x.1.type x.2)/\∀i (h1:i<fs.toList.length) (h2:i<ds.length),Rd enc P w base sp held fs.toList[i].type ds[i]:=by
 obtain ⟨bB,cs,ps,h⟩:=h
 cases bB with
 | zero=>simp [DataW.trod] at h
 | succ bB=>
  unfold DataW.trod at h
  split at h
  all_goals first
   | (rename_i hu;rw [ht] at hu;cases hu;done)
   | (cases h;done)
   | skip
  rename_i cs x1 J4 fs' hu;rw [ht] at hu;injection hu with hu
  injection hu with hu
  subst hu
  split at h
  case isFalse=>cases h
  obtain ⟨xs,h1,h⟩:=xV.1 h;simp only [yk] at h;obtain ⟨rfl,rfl⟩:=h;refine ⟨xs.map (·.1),by simp [K6 h1],by simp only [cW,ht],?_⟩;have key:∀{r:List uv} {xs:List (xp H×List xT)},r.mapM (fun f=>DataW.trod enc P w base sp held bB f.type ((cs.drop f.offset).take (P.cellsOf f.type)))=some xs->
    ∀i (h1:i<r.length) (h2:i<(xs.map (·.1)).length),Rd enc P w base sp held r[i].type (xs.map (·.1))[i]:=by
   intro r
   induction r with
   | nil=>intro xs h i h1;exact absurd h1 (Nat.not_lt_zero i)
   | cons f r ih=>
    intro xs h i h1 h2;rw [vM] at h
    cases g1:DataW.trod enc P w base sp held bB f.type ((cs.drop f.offset).take (P.cellsOf f.type)) with
    | none=>simp [g1] at h
    | some x=>
     cases g2:r.mapM (fun f=>DataW.trod enc P w base sp held bB f.type ((cs.drop f.offset).take (P.cellsOf f.type))) with
     | none=>simp [g1,g2] at h
     | some ys=>
      simp only [g1,g2,xG,wY,wv,yc] at h;subst h
      cases i with
      | zero=>exact ⟨bB,_,x.2,g1⟩
      | succ i=>exact ih g2 i (by simpa using h1) (by simpa using h2)
  exact key h1
def am8 {t e:yx} {k:Nat} {d:xp H} {n:Nat} (ht:P.underlying t=some (.array k e)) (h:Rd enc P w base sp held t d):
  ∃ds:List (xp H),ds.length=k/\cW P (n+1) t d=ds.flatMap (fun x=>cW P n e x)/\∀y,y∈ds->Rd enc P w base sp held e y:=by
 obtain ⟨bB,cs,ps,h⟩:=h
 cases bB with
 | zero=>simp [DataW.trod] at h
 | succ bB=>
  unfold DataW.trod at h
  split at h
  all_goals first
   | (rename_i hu;rw [ht] at hu;cases hu;done)
   | (cases h;done)
   | skip
  rename_i cs x1 J4 k' e' hu;rw [ht] at hu;injection hu with hu
  injection hu with qv Ae
  subst qv;subst Ae
  split at h
  case isFalse=>cases h
  obtain ⟨xs,h1,h⟩:=xV.1 h;simp only [yk] at h;obtain ⟨rfl,rfl⟩:=h;refine ⟨xs.map (·.1),by simp [K6 h1],by simp only [cW,ht],fun y hy=>?_⟩;obtain ⟨p,hp,rfl⟩:=vS.1 hy;obtain ⟨i,hi⟩:=mapM_mem h1 p hp;exact ⟨bB,_,p.2,hi⟩
end
end
section
open Go
inductive Ty
 | int (k:yU)
 | dB (k:vU)
 | bool
 | str
 | sl (e:Ty)
 | nil
 | cat (a b:Ty)
 | ar (n:Nat) (e:Ty)
def kA:Ty->List AV->Prop
 | .int k,l=>∃z,l=[.int k z]/\(Lit.int k z).wf=true
 | .dB k,l=>∃b,l=[.dB k b]
 | .bool,l=>∃b,l=[.bool b]
 | .str,l=>∃s:List Nat,l=[.str s]/\s.length<9223372036854775808/\∀c,c∈s->c<256
 | .sl e,l=>l=[.ab]\/∃(x:Bool) (ps:List (List AV)),l=[.aE x ps.length ps.flatten]/\∀p,p∈ps->kA e p
 | .nil,l=>l=[]
 | .cat a b,l=>∃x y,l=x++y/\kA a x/\kA b y
 | .ar n e,l=>∃ps:List (List AV),ps.length=n/\l=ps.flatten/\∀p,p∈ps->kA e p
def mV:List (Option Ty)->Option Ty
 | []=>some .nil
 | some a::r=>match mV r with
  | some b=>some (.cat a b)
  | none=>none
 | none::_=>none
def fU (P:y5):Nat->yx->Option Ty
 | 0,_=>none
 | n+1,t=>
  match P.underlying t with
  | some .bool=>some .bool
  | some (.int k)=>some (.int k)
  | some (.float k)=>some (.dB k)
  | some .string=>some .str
  | some (.slice e)=>(fU P n e).map .sl
  | some (.struct fs)=>mV (fs.toList.map fun f=>fU P n f.type)
  | some (.array k e)=>(fU P n e).map (.ar k)
  | _=>none
section
variable {H:Type} {enc:yx×ye->H} {P:y5} {w:yh} {base:Nat} {sp:Nat->Bool} {held:Bool}
def arR {t:yx} {k:vU} {d:xp H} {n:Nat} (ht:P.underlying t=some (.float k)) (h:Rd enc P w base sp held t d):∃b,cW P (n+1) t d=[.dB k b]:=by
 obtain ⟨bB,cs,ps,h⟩:=h
 cases bB with
 | zero=>simp [DataW.trod] at h
 | succ bB=>
  unfold DataW.trod at h
  split at h
  all_goals first
   | (rename_i hu;rw [ht] at hu;cases hu;done)
   | skip
  ·rename_i k1 k2 z hu;rw [ht] at hu;injection hu with hu
   injection hu with hu
   subst hu
   split at h
   ·simp only [yc,yk] at h;obtain ⟨rfl,rfl⟩:=h;exact ⟨z,by simp only [cW,ht]⟩
   ·cases h
  all_goals (cases h;done)
def apk {t:yx} {d:xp H} {n:Nat} (ht:P.underlying t=some .bool) (h:Rd enc P w base sp held t d):∃b,cW P (n+1) t d=[.bool b]:=by
 obtain ⟨bB,cs,ps,h⟩:=h
 cases bB with
 | zero=>simp [DataW.trod] at h
 | succ bB=>
  unfold DataW.trod at h
  split at h
  all_goals first
   | (rename_i hu;rw [ht] at hu;cases hu;done)
   | skip
  ·simp only [yc,yk] at h;obtain ⟨rfl,rfl⟩:=h;rename_i b _;exact ⟨b,by simp only [cW,ht]⟩
  all_goals (cases h;done)
def arS {t:yx} {d:xp H} {n:Nat} (ht:P.underlying t=some .string) (h:Rd enc P w base sp held t d):
  ∃s:List Nat,cW P (n+1) t d=[.str s]/\s.length<9223372036854775808/\∀c,c∈s->c<256:=by
 obtain ⟨bB,cs,ps,h⟩:=h
 cases bB with
 | zero=>simp [DataW.trod] at h
 | succ bB=>
  unfold DataW.trod at h
  split at h
  all_goals first
   | (rename_i hu;rw [ht] at hu;cases hu;done)
   | skip
  ·rename_i s hu
   split at h
   ·rename_i hs;simp only [yc,yk] at h;obtain ⟨rfl,rfl⟩:=h;refine ⟨_,by simp only [cW,ht];rfl,?_,fun c hc=>?_⟩
    ·simp only [xx,Array.length_toList];have h1:s.size<=9223372036854775807:=hs;have h2:s.data.size=s.size:=rfl;omega
    ·obtain ⟨b,_,rfl⟩:=vS.1 hc;exact b.toNat_lt
   ·cases h
  all_goals (cases h;done)
def Yk {n:Nat} (ih:∀{t:yx} {T:Ty} {d:xp H},fU P n t=some T->Rd enc P w base sp held t d->kA T (cW P n t d)):
  ∀(fs:List uv) (ds:List (xp H)) (T:Ty),mV (fs.map fun f=>fU P n f.type)=some T->ds.length=fs.length->(∀i (h1:i<fs.length) (h2:i<ds.length),Rd enc P w base sp held fs[i].type ds[i])->
   kA T ((fs.zip ds).flatMap fun x=>cW P n x.1.type x.2)
 | [],ds,T,hT,_,_=>by
  simp only [List.map_nil,mV,yc] at hT;subst hT;simp [kA]
 | f::fs,[],T,_,hl,_=>by simp at hl
 | f::fs,d::ds,T,hT,hl,hr=>by
  simp only [y9] at hT
  cases h1:fU P n f.type with
  | none=>simp [h1,mV] at hT
  | some a=>
   cases h2:mV (fs.map fun f=>fU P n f.type) with
   | none=>simp [h1,h2,mV] at hT
   | some b=>
    simp only [h1,h2,mV,yc] at hT;subst hT;simp only [List.zip_cons_cons,List.flatMap_cons];exact ⟨_,_,rfl,ih h1 (hr 0 (by simp) (by simp)),Yk ih fs ds b h2 (by simpa using hl) (fun i h1 h2=>hr (i+1) (by simpa using h1) (by simpa using h2))⟩
def ac0:∀(n:Nat) {t:yx} {T:Ty} {d:xp H},fU P n t=some T->Rd enc P w base sp held t d->kA T (cW P n t d)
 | 0,t,T,d,hT,_=>by simp [fU] at hT
 | n+1,t,T,d,hT,hr=>by
  have ih:=@ac0 n
  cases hu:P.underlying t with
  | none=>simp [fU,hu] at hT
  | some u=>
   cases u with
   | slice e=>
    simp only [fU,hu] at hT;obtain ⟨E,hE,rfl⟩:=xV.1 hT
    rcases am7 (n:=n) hu hr with h | ⟨x,jw,h,hm⟩
    ·exact .inl h
    ·refine .inr ⟨x,jw.map (cW P n e),by rw [h,xx,yaB],fun p hp=>?_⟩;obtain ⟨y,hy,rfl⟩:=vS.1 hp;exact ih hE (hm y hy)
   | struct fs=>
    simp only [fU,hu] at hT;obtain ⟨ds,e1,e2,e3⟩:=akR (n:=n) hu hr;rw [e2];exact Yk ih fs.toList ds T hT e1 e3
   | array k e=>
    simp only [fU,hu] at hT;obtain ⟨E,hE,rfl⟩:=xV.1 hT;obtain ⟨ds,e1,e2,e3⟩:=am8 (n:=n) hu hr;refine ⟨ds.map (cW P n e),by simp [e1],by rw [e2,yaB],fun p hp=>?_⟩;obtain ⟨y,hy,rfl⟩:=vS.1 hp;exact ih hE (e3 y hy)
   | int k=>
    simp only [fU,hu,yc] at hT;subst hT;exact arQ hu hr
   | float k=>
    simp only [fU,hu,yc] at hT;subst hT;exact arR hu hr
   | bool=>
    simp only [fU,hu,yc] at hT;subst hT;exact apk hu hr
   | string=>
    simp only [fU,hu,yc] at hT;subst hT;exact arS hu hr
   | _=>simp [fU,hu] at hT
def E5:Ty->List AV->AV
 | .nil,l | .cat _ _,l | .ar _ _,l=> .agg l
 | _,l=>l.headD .undef
def akS:∀{l:List (Option Ty)} {T:Ty},mV l=some T->∀x,E5 T x= .agg x
 | [],T,h=>by simp only [mV,yc] at h;subst h;exact fun _=>rfl
 | none::r,T,h=>by simp [mV] at h
 | some a::r,T,h=>by
  cases h1:mV r with
  | none=>simp [mV,h1] at h
  | some b=>
   simp only [mV,h1,yc] at h;subst h;exact fun _=>rfl
def atp {n:Nat} {t:yx} {T:Ty} {d:xp H} (hT:fU P n t=some T):lA P n t d=E5 T (cW P n t d):=by
 cases n with
 | zero=>simp [fU] at hT
 | succ n=>
  cases hu:P.underlying t with
  | none=>simp [fU,hu] at hT
  | some u=>
   cases u with
   | slice e=>
    simp only [fU,hu] at hT;obtain ⟨E,hE,rfl⟩:=xV.1 hT;simp only [lA,hu,E5]
   | struct fs=>
    simp only [fU,hu] at hT;rw [akS hT];simp only [lA,hu]
   | array k e=>
    simp only [fU,hu] at hT;obtain ⟨E,hE,rfl⟩:=xV.1 hT;simp only [lA,hu,E5]
   | _=>
    simp only [fU,hu,yc,reduceCtorEq] at hT<;>
    (subst hT
     simp only [lA,hu,E5])
def IF:List Ty->List (List AV)->List AV
 | T::Ts,l::ls=>E5 T l::IF Ts ls
 | _,_=>[]
def Z9 {n:Nat}:∀{ts:List yx} {Ts:List Ty} {vs:List ye} {ds:List (xp H)} {ps:List xT},(ts.map (fU P n))=Ts.map some->DataW.TrodAll enc P w base sp held ts vs ds ps->
  ∃ls,jU kA Ts ls/\zc P n ts ds=IF Ts ls/\ds.length=ts.length
 | [],[],[],[],ps,_,_=>⟨[],trivial,rfl,rfl⟩
 | t::ts,T::Ts,v::vs,d::ds,ps,hT,⟨p,q,⟨bB,h1⟩,h2,_⟩=>by
  simp only [y9,tL] at hT;obtain ⟨ls,k1,k2,k3⟩:=Z9 hT.2 h2;exact ⟨cW P n t d::ls,⟨ac0 n hT.1 ⟨bB,_,_,h1⟩,k1⟩,by simp only [zc,IF,k2,atp hT.1],by simp [k3]⟩
 | [],_::_,_,_,_,h,_=>by simp at h
 | _::_,[],_,_,_,h,_=>by simp at h
 | [],[],_::_,_,_,_,h=>by simp [DataW.TrodAll] at h
 | [],[],[],_::_,_,_,h=>by simp [DataW.TrodAll] at h
 | _::_,_,[],_,_,_,h=>by simp [DataW.TrodAll] at h
 | _::_,_,_::_,[],_,_,h=>by simp [DataW.TrodAll] at h
def arT {α β:Type} {p:α->β->Prop} {a:α}:∀{l:List β},jU p [a] l->∃x,l=[x]/\p a x
 | [x],h=>⟨x,rfl,h.1⟩
 | [],h=>h.elim
 | _::_::_,h=>h.2.elim
def arU {α β:Type} {p:α->β->Prop} {a b:α}:∀{l:List β},jU p [a,b] l->∃x y,l=[x,y]/\p a x/\p b y
 | x::l,h=>let ⟨y,h1,h2⟩:=arT h.2;⟨x,y,by rw [h1],h.1,h2⟩
 | [],h=>h.elim
def arV {α β:Type} {p:α->β->Prop} {a b c:α}:∀{l:List β},jU p [a,b,c] l->∃x y z,l=[x,y,z]/\p a x/\p b y/\p c z
 | x::l,h=>let ⟨y,z,h1,h2,h3⟩:=arU h.2;⟨x,y,z,by rw [h1],h.1,h2,h3⟩
 | [],h=>h.elim
end
end
section
open Go (IntKind)
abbrev Ik:Ty:= .cat .str (.cat .str .nil)
abbrev aeD:Ty:= .cat Ik (.cat .str .nil)
abbrev au9:Ty:= .cat aeD (.cat Ik (.cat (.int .i64) .nil))
def La {l:List AV} (h:kA Ik l):∃x y:List Nat,l=[.str x,.str y]/\x.length<9223372036854775808/\y.length<9223372036854775808:=by
 obtain ⟨_,_,rfl,⟨x,rfl,hx,_⟩,_,_,rfl,⟨y,rfl,hy,_⟩,rfl⟩:=h;exact ⟨x,y,rfl,hx,hy⟩
def am9 {l:List AV} (h:kA aeD l):∃x y s:List Nat,l=[.str x,.str y,.str s]/\x.length<9223372036854775808/\y.length<9223372036854775808/\s.length<9223372036854775808:=by
 obtain ⟨_,_,rfl,h1,_,_,rfl,⟨s,rfl,hs,_⟩,rfl⟩:=h;obtain ⟨x,y,rfl,hx,hy⟩:=La h1;exact ⟨x,y,s,rfl,hx,hy,hs⟩
end
section
open Go (IntKind)
abbrev Sl:Ty:= .sl (.int .i64)
abbrev abd:Ty:= .sl Sl
abbrev ac1:Ty:= .cat abd (.cat .str (.cat .str (.cat .str (.cat Ik (.cat Ik .nil)))))
def aaa:∀{ps:List (List AV)},(∀p,p∈ps->kA (.int .i64) p)->∃zs:List Int,zs.length=ps.length/\ps.flatten=zs.map aa
 | [],_=>⟨[],rfl,rfl⟩
 | p::ps,h=>by
  obtain ⟨z,rfl,_⟩:=h p wJ;obtain ⟨zs,h1,h2⟩:=aaa (ps:=ps) (fun q hq=>h q (wk _ hq));exact ⟨z::zs,by simp [h1],by simp [h2]⟩
def ana {l:List AV} (h:kA Sl l):∃(v:AV) (zs:List Int),l=[v]/\bq v zs:=by
 rcases h with rfl | ⟨x,ps,rfl,h⟩
 ·exact ⟨_,[],rfl,qV⟩
 ·obtain ⟨zs,h1,h2⟩:=aaa h;refine ⟨_,zs,rfl,?_⟩;rw [h2,<-h1];exact fN x zs
def aab:∀{ps:List (List AV)},(∀p,p∈ps->kA Sl p)->∃s:List (List Int),s.length=ps.length/\ps.flatten.length=ps.length/\jU bq ps.flatten s
 | [],_=>⟨[],rfl,rfl,trivial⟩
 | p::ps,h=>by
  obtain ⟨v,zs,rfl,hv⟩:=ana (h p wJ);obtain ⟨s,h1,h2,h3⟩:=aab (ps:=ps) (fun q hq=>h q (wk _ hq));exact ⟨zs::s,by simp [h1],by simp [h2],hv,h3⟩
def ai9 {l:List AV} (h:kA abd l):∃(v:AV) (s:List (List Int)),l=[v]/\cK v s:=by
 rcases h with rfl | ⟨x,ps,rfl,h⟩
 ·exact ⟨_,[],rfl,amo⟩
 ·obtain ⟨s,h1,h2,h3⟩:=aab h;refine ⟨_,s,rfl,ps.flatten,?_,h3⟩
  have:=HM x ps.flatten
  rwa [h2] at this
def akT {l:List AV} (h:kA ac1 l):∃(w:AV) (s:List (List Int)) (a b c d e f g:List Nat),l=[w,.str a,.str b,.str c,.str d,.str e,.str f,.str g]/\cK w s/\a.length<9223372036854775808/\b.length<9223372036854775808/\c.length<9223372036854775808/\d.length<9223372036854775808/\e.length<9223372036854775808/\f.length<9223372036854775808/\g.length<9223372036854775808:=by
 obtain ⟨_,_,rfl,h1,_,_,rfl,⟨a,rfl,ha,_⟩,_,_,rfl,⟨b,rfl,hb,_⟩,_,_,rfl,⟨c,rfl,hc,_⟩,_,_,rfl,h2,_,_,rfl,h3,rfl⟩:=h;obtain ⟨w,s,rfl,hw⟩:=ai9 h1;obtain ⟨d,e,rfl,hd,he⟩:=La h2;obtain ⟨f,g,rfl,hf,hg⟩:=La h3;exact ⟨w,s,a,b,c,d,e,f,g,rfl,hw,ha,hb,hc,hd,he,hf,hg⟩
end
section
open Go (IntKind)
def HQ (n:Nat):10^n<=2^(4*n):=by
 rw [uN];exact ue (by decide) n
def Qh {b:Nat} {r:List Nat} (h:dA (b::r)=true):48<=b/\b<=57:=by
 simp only [dA,yf] at h
 simp_all
section
variable {P:aK} {L:Lib}
def ac2 (h:Tx P L) {ds:List Nat} {N:Nat} (hD:cR ds 0=some N) (hl:ds.length<=4000000000) {neg:Bool} {o1 o2:AV}:
  ∀m st,(∃(pre rest:List Nat) (a:Nat) (s:Int) (w:AV),bH [0,2,3,4] st=⟨[(0,.str rest),(2,.ptr 0 0),(3,.bool neg),(4,.ptr 1 0)],[(1,.cells true true true 2 [aa s,w]),(0,.cells true true true 2 [o1,o2])],2,0⟩/\ds=pre++rest/\cR pre 0=some a/\cM s w a/\rest.length=m)->
   ∃ex st',D P L (.loop [0,2,3,4] D8) st=some (ex,st')/\∃tm s w,st'=⟨tm,[(1,.cells true true true 2 [aa s,w]),(0,.cells true true true 2 [o1,o2])],2,0⟩/\ex= .exit 0/\af tm 2= .ptr 0 0/\af tm 3= .bool neg/\af tm 4= .ptr 1 0/\cM s w N:=by
 refine cC (I:=fun m st=>∃(pre rest:List Nat) (a:Nat) (s:Int) (w:AV),st=⟨[(0,.str rest),(2,.ptr 0 0),(3,.bool neg),(4,.ptr 1 0)],[(1,.cells true true true 2 [aa s,w]),(0,.cells true true true 2 [o1,o2])],2,0⟩/\ds=pre++rest/\cR pre 0=some a/\cM s w a/\rest.length=m)
  (Q:=fun ex st'=>∃tm s w,st'=⟨tm,[(1,.cells true true true 2 [aa s,w]),(0,.cells true true true 2 [o1,o2])],2,0⟩/\ex= .exit 0/\af tm 2= .ptr 0 0/\af tm 3= .bool neg/\af tm 4= .ptr 1 0/\cM s w N) ?_
 rintro m st ⟨pre,rest,a,s,w,rfl,Dt,eV,hn,rfl⟩;obtain ⟨l1,u1⟩:=hn.aw;have mq:=hD;rw [Dt,HA,eV] at mq;have mq:cR rest a=some N:=mq;have hlen:pre.length+rest.length<=4000000000:=by rw [Dt,yQ] at hl;exact hl
 by_cases h0:rest.length=0
 ·right
  have hr:rest=[]:=yN h0;subst hr
  have:a=N:=by simpa [cR] using mq
  subst this;simp only [go_sem,D8,yF,show ¬(0:Int)<((0:Nat):Int) by omega];exact ⟨_,_,rfl,by simp,_,s,w,rfl,rfl,by simp only [go_sem,ya],by simp only [go_sem,ya],by simp only [go_sem,ya],hn⟩
 ·left
  obtain ⟨n,BG⟩:∃n,n=min 18 rest.length:=⟨_,rfl⟩;have aeX:(if (rest.length:Int)<18 then (rest.length:Int) else 18)=(n:Int):=by split<;>omega
  have iN:rest.take n++rest.drop n=rest:=List.take_append_drop n rest;obtain ⟨a',Dc⟩:∃a',cR (rest.take n) a=some a':=by
   rw [<-iN,HA] at mq
   cases hq:cR (rest.take n) a with
   | none=>rw [hq] at mq;cases mq
   | some a'=>exact ⟨a',rfl⟩
  obtain ⟨v,hv⟩:∃v,cR (rest.take n) 0=some v:=by
   have:∀(l:List Nat) (x y b:Nat),cR l x=some y->∃z,cR l b=some z:=by
    intro l
    induction l with
    | nil=>intro x y b _;exact ⟨b,rfl⟩
    | cons c l ih=>
     intro x y b hh;simp only [cR] at hh ⊢
     cases hb:(yE 48 c&&yE c 57) with
     | false=>rw [hb] at hh;cases hh
     | true=>rw [hb] at hh;exact ih _ _ _ hh
   exact this _ _ _ 0 Dc
  have afF:=am1 (a:=a) hv;have V7:(rest.take n).length=n:=by rw [yT];omega
  rw [V7,Dc,yc] at afF;have TD:=Rc hv;rw [V7] at TD;have azK:v<1000000000000000000:=yH TD (xn (n:=10) (by decide) (show n<=18 by omega));have e1:=apg (P:=P) h.Tt (f:=D P L) (s:=rest.take n) (by omega) (by omega) hv;obtain ⟨t1,t2⟩:=C0 h.toNu (z:=10) (by decide) (by decide);obtain ⟨t3,t4⟩:=C0 h.toNu (z:=(v:Int)) (by omega) (by omega);obtain ⟨p,e2,hp⟩:=au8 h.toNu h.Tv t2 (K:=4) (k:=n) (by unfold Bd;decide) (by omega) (by omega)
  have halt:=Rc eV;have ba:Bd (4*pre.length) (a:Int):=yH halt (HQ _);have bp:Bd (4*n+1) ((10:Int)^n):=Bd.pow (k:=4) (by unfold Bd;decide) n
  obtain ⟨q,e3,hq⟩:=rJ h.toNu (v:= .agg [aa s,w]) ⟨s,w,rfl,hn⟩ hp (K:=4*pre.length+4*n+1) (ba.mono (by omega)) (bp.mono (by omega)) (by omega);have bv':Bd (4*n) (v:Int):=yH TD (HQ _);obtain ⟨r,e4,hr⟩:=Jk h.toNu hq t4 (K:=4*pre.length+4*n+1) ((ba.mul bp).mono (by omega)) (bv'.mono (by omega)) (by omega);have aT:(a:Int)*10^n+(v:Int)=(a':Int):=by
   rw [afF]
   simp
  rw [aT] at hr;obtain ⟨s2,w2,rfl,h2⟩:=hp;obtain ⟨s3,w3,rfl,h3⟩:=hq;obtain ⟨s4,w4,rfl,h4⟩:=hr;obtain ⟨l2,u2⟩:=h2.aw;obtain ⟨l3,u3⟩:=h3.aw;obtain ⟨l4,u4⟩:=h4.aw;have un:=sJ;have c1:hZ rest (some 0) (some n)=some (.str (rest.take n)):=by rw [ll (by omega) (by omega),yj]
  have c2:hZ rest (some n) (some rest.length)=some (.str (rest.drop n)):=by rw [ll (by omega) (by omega),List.take_length]
  simp only [go_sem,ya,D8,show (0:Int)<(rest.length:Nat) by omega,RG,QG,aeX,eM,eU,dO,c1,c2,e1,bW,t1,t3,bk,u1.ai,u2.ai,u3.ai,un.ai,e2,e3,e4,bE,bW,yj,dQ u4];refine ⟨_,(rest.drop n).length,rfl,by rw [wu];omega,pre++rest.take n,rest.drop n,a',s4,w4,by simp only [go_sem,ya,yb,aD],by rw [xu,iN];exact Dt,by rw [HA,eV];exact Dc,h4,rfl⟩
def Qi {b:Nat} {r:List Nat} (h:48<=b):gB [45] (b::r)=false:=by
 show (yr 45 b&&true)=false
 rw [cE (by omega)];rfl
def Jo (h:Tx P L) {z:Int} (hz:(aW z).length<=4000000000):∃r,ae P L 110 [.str (aW z)] r/\cD r z:=by
 have hN:=qU z.natAbs;have un:=sJ;have zX:(an z.natAbs).length<=4000000000:=by
  by_cases h0:z<0
  ·rw [jL h0] at hz;simp at hz;omega
  ·rw [<-lW,yz h0] at hz;simpa using hz
 have ba:Bd (4*(an z.natAbs).length) (z.natAbs:Int):=yH (Rc hN) (HQ _);by_cases h0:z<0
 ·have hs:aW z=45::an z.natAbs:=jL h0;have e1:bR P L (D P L) 152 [.str (45::an z.natAbs),.str [45]]=some (.bool true):=by rw [iS h.afA];rfl
  have e2:bR P L (D P L) 153 [.str (45::an z.natAbs),.str [45]]=some (.str (an z.natAbs)):=by rw [iS h.Tq];rfl
  have iL:∃s w r,ae P L 110 [.str (aW z)] r/\cM s w (z.natAbs:Int)/\ae P L 147 [.agg [aa s,w]] r/\cD r (-(z.natAbs:Int)):=by
   rw [hs];unfold ae;rw [av h.afC];simp only [go_sem,ya,yb,M7,aH,e1,e2,un.pu,un.one,dQ un];generalize hq:D P L (.loop [0,2,3,4] D8) _=q;obtain ⟨ex,st,rfl,tm,s,w,rfl,rfl,t2,t3,t4,h5⟩:=cd hq (ac2 (P:=P) (L:=L) h hN zX (neg:=true) (o1:= .int .i64 0) (o2:= .ab) (an z.natAbs).length) ⟨[],an z.natAbs,0,0,.ab,by simp only [go_sem,ya,yb,aD]<;>rfl,rfl,rfl,.inl ⟨rfl,rfl,by decide,by decide⟩,rfl⟩
   obtain ⟨l5,u5⟩:=h5.aw;obtain ⟨r,e3,hr⟩:=E4 h.toNu (v:= .agg [aa s,w]) ⟨s,w,rfl,h5⟩ (K:=4*(an z.natAbs).length) ba (by omega);have bX:=hr;obtain ⟨s6,w6,rfl,h6⟩:=hr;obtain ⟨l6,u6⟩:=h6.aw;refine ⟨s,w,_,?_,h5,e3,bX⟩;simp only [go_sem,ya,yb,aD,t2,t3,t4,bW,bk,u5.ai,e3,bE,db,de,bW,yj,ml u6,dQ u6]
  obtain ⟨s,w,r,g1,_,_,g2⟩:=iL;rw [show -((z.natAbs:Nat):Int)=z by omega] at g2;exact ⟨r,g1,g2⟩
 ·have hs:aW z=an z.natAbs:=by rw [<-lW,yz h0];rfl
  obtain ⟨b,r0,hb,jG,hb2⟩:=DQ z.natAbs;have e1:bR P L (D P L) 152 [.str (an z.natAbs),.str [45]]=some (.bool false):=by
   rw [iS h.afA,hb];show some (AV.bool (gB [45] (b::r0)))=_
   rw [Qi jG]
  have e2:bR P L (D P L) 153 [.str (an z.natAbs),.str [45]]=some (.str (an z.natAbs)):=by
   rw [iS h.Tq,hb];show some (AV.str (bif gB [45] (b::r0) then _ else _))=_
   rw [Qi jG];rfl
  have iL:∃s w,ae P L 110 [.str (aW z)] (.agg [aa s,w])/\cM s w (z.natAbs:Int):=by
   rw [hs];unfold ae;rw [av h.afC];simp only [go_sem,ya,yb,M7,aH,e1,e2,un.pu,un.one,dQ un];generalize hq:D P L (.loop [0,2,3,4] D8) _=q;obtain ⟨ex,st,rfl,tm,s,w,rfl,rfl,t2,t3,t4,h5⟩:=cd hq (ac2 (P:=P) (L:=L) h hN zX (neg:=false) (o1:= .int .i64 0) (o2:= .ab) (an z.natAbs).length) ⟨[],an z.natAbs,0,0,.ab,by simp only [go_sem,ya,yb,aD]<;>rfl,rfl,rfl,.inl ⟨rfl,rfl,by decide,by decide⟩,rfl⟩
   obtain ⟨l5,u5⟩:=h5.aw;refine ⟨s,w,?_,h5⟩;simp only [go_sem,ya,yb,aD,t2,t3,t4,bW,db,de,bW,yj,ml u5,dQ u5]
  obtain ⟨s,w,g1,g2⟩:=iL;rw [show ((z.natAbs:Nat):Int)=z by omega] at g2;exact ⟨_,g1,s,w,rfl,g2⟩
def Hn (b:Nat) (r:List Nat) (c:Nat):gB [c] (b::r)=yr c b:=by
 show (yr c b&&true)=_
 grind
def XE:∀(l r:List Nat) (k:Nat),(∀x,x∈l->x≠47)->mc [47] (l++47::r) k=some (k+l.length)
 | [],r,k,_=>by
  show (bif gB [47] (47::r) then some k else _)=_
  rw [Hn];rfl
 | b::l,r,k,h=>by
  show (bif gB [47] (b::(l++47::r)) then some k else mc [47] (l++47::r) (k+1))=_
  rw [Hn,cE (fun e=>h b (by simp) e.symm),yB,XE l r (k+1) (fun x hx=>h x (by simp [hx])),yv]
  grind
def index_none:∀(l:List Nat) (k:Nat),(∀x,x∈l->x≠47)->mc [47] l k=none
 | [],k,_=>rfl
 | b::l,k,h=>by
  show (bif gB [47] (b::l) then some k else mc [47] l (k+1))=_
  rw [Hn,cE (fun e=>h b (by simp) e.symm),yB,index_none l (k+1) (fun x hx=>h x (by simp [hx]))]
def aac:∀{l:List Nat},dA l=true->∀x,x∈l->48<=x/\x<=57
 | [],_,x,hx=>by simp at hx
 | b::l,h,x,hx=>by
  have h1:=Qh h;simp only [dA,yf] at h;rcases wo.1 hx with rfl | hx
  ·grind
  ·exact aac h.2 x hx
def ahF (z:Int):∀x,x∈aW z->x≠47:=fun x hx=>by
 rw [<-lW] at hx;rcases List.mem_append.1 hx with h | h
 ·grind
 ·have:=aac (sG _) x h;omega
def m62 (h:Tx P L) {a:Rat} (hl:(RT a).length<4000000000):∃r,ae P L 62 [.str (RT a)] r/\cB r a:=by
 have Ff:=ahF a.num;unfold RT at hl ⊢;by_cases hd:a.den=1
 ·rw [yJ hd,xO] at hl ⊢;obtain ⟨p,e1,hp⟩:=Jo h (z:=a.num) (by omega);obtain ⟨r,e2,hr⟩:=Jl h.toFr' hp;rw [<-Q9 a hd] at hr;have bX:=hr;obtain ⟨s1,w1,rfl,h1⟩:=hp;obtain ⟨s2,w2,s3,w3,rfl,h2,h3⟩:=hr;obtain ⟨l1,u1⟩:=h1.aw;obtain ⟨l2,u2⟩:=h2.aw;obtain ⟨l3,u3⟩:=h3.aw;have e0:bR P L (D P L) 109 [.str (aW a.num),.str [47]]=some (.aq [.str (aW a.num),.str [],.bool false]):=by
   rw [iS h.Tu];show (bif yG (aW a.num).length 4294967281 then (match mc [47] (aW a.num) 0 with | some i=>_ | none=>some (AV.aq [.str (aW a.num),.str [],.bool false])) else none)=_
   rw [jR (by omega),index_none _ _ Ff];rfl
  refine ⟨_,?_,bX⟩;unfold ae;rw [av h.Pa];simp only [go_sem,ya,yb,OC,aH,e0,e1,bE,u1.ai,bk,e2,kL u2 u3,db,de,yj,gM,lB u2 u3]
 ·rw [yz hd] at hl ⊢;simp only [yQ,yv] at hl;obtain ⟨p,e1,hp⟩:=Jo h (z:=a.num) (by omega);obtain ⟨q,e2,hq⟩:=Jo h (z:=(a.den:Int)) (by rw [jK];omega);rw [jK] at e2;obtain ⟨s1,w1,rfl,h1⟩:=hp;obtain ⟨s2,w2,rfl,h2⟩:=hq;obtain ⟨l1,u1⟩:=h1.aw;obtain ⟨l2,u2⟩:=h2.aw;have e0:bR P L (D P L) 109 [.str (aW a.num++47::an a.den),.str [47]]=some (.aq [.str (aW a.num),.str (an a.den),.bool true]):=by
   rw [iS h.Tu];show (bif yG (aW a.num++47::an a.den).length 4294967281 then (match mc [47] (aW a.num++47::an a.den) 0 with | some i=>some (AV.aq [.str ((aW a.num++47::an a.den).take i),.str ((aW a.num++47::an a.den).drop (i+1)),.bool true]) | none=>_) else none)=_
   rw [jR (by simp;omega),XE _ _ _ Ff];simp only [yd,ym,List.take_left];rw [show (aW a.num).length+1=(aW a.num++[47]).length by simp,show aW a.num++47::an a.den=(aW a.num++[47])++an a.den by simp,List.drop_left]
  refine ⟨.agg [aa s1,w1,aa s2,w2],?_,s1,w1,s2,w2,rfl,h1,h2⟩;unfold ae;rw [av h.Pa];simp only [go_sem,ya,yb,OC,aH,e0,e1,e2,bE,u1.one,u2.one,D2,D3,kL u1 u2,db,de,yj,gM,lB u1 u2]
end
end
section
open Go (IntKind)
def dJ (p:List Nat):Bool:=dA p&&(match p with | []=>false | b::r=> !(yr b 48)||r.isEmpty)
def fw (p:List Nat):Nat:=(cR p 0).getD 0
def mA (neg:Bool) (t:List Nat):Int:=
 if dJ (t.take (bN t))=false\/(neg=true/\t.take (bN t)=[48]) then 1
 else if bN t<t.length/\(dJ (t.drop (bN t+1))=false\/t.drop (bN t+1)=[48]\/t.drop (bN t+1)=[49]) then 1
 else if 600<bN t\/600<t.length-bN t-1 then 4
 else if bN t<t.length/\wi (fw (t.take (bN t))) (fw (t.drop (bN t+1)))≠1 then 1
 else 0
def aX:List Nat->Int
 | []=>mA false []
 | b::t=>if b=45 then mA true t else mA false (b::t)
def aad:∀{p:List Nat} (a:Nat),dA p=true->∃n,cR p a=some n
 | [],a,_=>⟨a,rfl⟩
 | b::r,a,h=>by
  have h':=h;simp only [dA,yf] at h';obtain ⟨n,hn⟩:=aad (p:=r) (10*a+(b-48)) h'.2;exact ⟨n,by simp only [cR,h'.1.1,h'.1.2,ve,ym];exact hn⟩
def DR:∀(k:Nat) {p:List Nat},p.length=k->dJ p=true->an (fw p)=p:=by
 intro k
 induction k with
 | zero=>intro p hl h;rw [yN hl] at h;simp [dJ] at h
 | succ k ih=>
  intro p hl h;rcases snoc p with rfl | ⟨m,a,rfl⟩
  ·grind
  ·simp only [dJ,yf,KH] at h;obtain ⟨⟨h1,h2⟩,h3⟩:=h;simp only [dA,yf] at h2;have ha1:=yt h2.1.1;have ha2:=yt h2.1.2;obtain ⟨n,hn⟩:=aad 0 h1;have hv:fw (m++[a])=10*n+(a-48):=by
    unfold fw;rw [HA,hn];simp only [xG,cR,h2.1.1,h2.1.2,ve,ym,Option.getD_some]
   cases m with
   | nil=>
    have:n=0:=by simpa [cR] using hn.symm
    rw [hv,nt (by omega)]
    simp;omega
   | cons b r=>
    have hd:dJ (b::r)=true:=by
     simp only [dJ,h1,xt]
     cases r with
     | nil=>simp
     | cons c r=>simp at h3 ⊢;exact h3
    have hm:=ih (p:=b::r) (by simpa using hl) hd;have hnv:fw (b::r)=n:=by unfold fw;rw [hn];rfl
    rw [hnv] at hm;have rW:n≠0:=fun e=>by
     rw [nt (by omega)] at hm
     simp_all
    rw [hv,ol (by omega),show (10*n+(a-48))/10=n by omega,show 48+(10*n+(a-48))%10=a by omega,hm]
def W9 (t:List Nat):bN t<t.length->t=t.take (bN t)++47::t.drop (bN t+1):=by
 induction t with
 | nil=>simp
 | cons b r ih=>
  intro h;simp only [bN] at h ⊢
  grind
def Y9 {n:Int} {d:Nat} (hd:0<d) (hg:wi n.natAbs d=1):∃r:Rat,r.num=n/\r.den=d:=⟨⟨n,d,by omega,hg⟩,rfl,rfl⟩
def arW {s:List Nat} (h:aX s=0):∃r:Rat,s=RT r/\(an r.num.natAbs).length<=600/\(an r.den).length<=600:=by
 have key:∀(neg:Bool) (t:List Nat),mA neg t=0->∃r:Rat,(if neg=true then [45] else [])++t=RT r/\(an r.num.natAbs).length<=600/\(an r.den).length<=600:=by
  intro neg t h;unfold mA at h
  split at h
  ·grind
  rename_i h1
  split at h
  ·grind
  rename_i h2
  split at h
  ·grind
  rename_i h3
  split at h
  ·grind
  rename_i h4;have hle:=Hl t;have hp:dJ (t.take (bN t))=true:=by
   cases hb:dJ (t.take (bN t)) with
   | true=>rfl
   | false=>exact absurd (.inl hb) h1
  have qG:=DR _ rfl hp;generalize hn:fw (t.take (bN t))=n at*
  have atq:neg=true->n≠0:=fun hh e=>by
   subst e;exact h1 (.inr ⟨hh,by rw [<-qG];rfl⟩)
  have hint:(if neg=true then [45] else [])++an n=aW (if neg=true then -(n:Int) else n):=by
   cases neg with
   | true=>
    have:=atq rfl
    simp only [y7];rw [jL (by omega)]
    simp
   | false=>simp [jK]
  have TE:(if neg=true then -(n:Int) else n).natAbs=n:=by split<;>omega
  have Ph:(an n).length<=600:=by rw [qG,yT];omega
  by_cases hs:bN t<t.length
  ·have hq:dJ (t.drop (bN t+1))=true:=by
    cases hb:dJ (t.drop (bN t+1)) with
    | true=>rfl
    | false=>exact absurd ⟨hs,.inl hb⟩ h2
   have oe:=DR _ rfl hq;have hg:wi n (fw (t.drop (bN t+1)))=1:=by
    grind
   have jQ:=W9 t hs;have Ko:(t.drop (bN t+1)).length<=600:=by rw [wu];omega
   rw [<-oe] at jQ Ko;have fR:fw (t.drop (bN t+1))≠0:=fun e=>by
    rw [e] at oe;exact h2 ⟨hs,.inr (.inl (by rw [<-oe];rfl))⟩
   have jj:fw (t.drop (bN t+1))≠1:=fun e=>by
    rw [e] at oe;exact h2 ⟨hs,.inr (.inr (by rw [<-oe];rfl))⟩
   generalize fw (t.drop (bN t+1))=d at*
   obtain ⟨r,cw,fh⟩:=Y9 (n:=if neg=true then -(n:Int) else n) (d:=d) (by omega) (by rw [TE];exact hg)
   refine ⟨r,?_,by rw [cw,TE];exact Ph,by rw [fh];exact Ko⟩
   unfold RT;rw [cw,fh,yz jj,<-hint,xu]
   congr 1
   rw [qG];exact jQ
  ·have ht:t.take (bN t)=t:=yL (by omega);rw [ht] at qG;obtain ⟨r,cw,fh⟩:=Y9 (n:=if neg=true then -(n:Int) else n) (d:=1) (by omega) (Nat.gcd_one_right _);refine ⟨r,?_,by rw [cw,TE];exact Ph,by rw [fh];decide⟩
   unfold RT;rw [cw,fh,yJ rfl,<-hint,xO,qG]
 cases s with
 | nil=>exact absurd h (by decide)
 | cons b t=>
  simp only [aX] at h
  split at h
  ·rename_i hb;subst hb;exact key true t h
  ·exact key false (b::t) h
end
section
namespace Nd
structure Ord (n:Nat) (l:List Int):Prop where
 len:l.length=n
 oY:∀a,a<n->0<=l.getD a 0/\l.getD a 0<n
 inj:∀a b,a<n->b<n->l.getD a 0=l.getD b 0->a=b
end Nd
end
section
namespace Nd
open Go (IntKind)
section
variable {P:aK} {L:Lib}
abbrev ae (P:aK) (L:Lib) (f:Nat) (vals:List AV) (r:AV):Prop:=bR P L (D P L) f vals=some r
def zM (h:Has P L 124 EL) (b:Bool) (n:Int):ae P L 124 [.bool b,aa n] (aa (if b=true then n else 0)):=by
 unfold ae;rw [av h]
 cases b with
 | true=>simp only [go_sem,ya,EL,y7]
 | false=>simp only [go_sem,ya,EL];rfl
def ava (h:Has P L 125 Nb) {v:AV} {l:List Int} (hv:bq v l) (hl:l.length<=1000000):ae P L 125 [v] (aa (bm l)):=by
 unfold ae;rw [av h];simp only [go_sem,ya,Nb,hv.len];have key:=Hy (P:=P) (L:=L) (live:=[5,6,7]) (a:=L8)
  (I:=fun k s=>∃tm ct i,s=⟨tm,[],ct,0⟩/\af tm 5=v/\af tm 6=aa l.length/\af tm 7=aa (i:Nat)/\i+k=l.length/\bm (l.drop i)=bm l)
  (Q:=fun ex s=>∃tm,s=⟨tm,[],0,0⟩/\((ex= .ret/\af tm 2=aa (bm l))\/(ex= .exit 0/\bm l=0))) ?_ l.length
 ·generalize hq:D P L (.loop [5,6,7] L8) _=q;obtain ⟨ex,s,rfl,tm,rfl,h2⟩:=cd hq key ⟨_,_,0,rfl,rfl,rfl,rfl,by omega,rfl⟩;rcases h2 with ⟨rfl,h2⟩ | ⟨rfl,h2⟩
  ·simp only [go_sem,h2]
  ·rw [h2];simp only [go_sem]
 ·rintro k s ⟨tm,ct,i,rfl,h5,h6,h7,hk,hf⟩;rw [KE (by simp only [go_sem,h5,h6,h7,hv.pu])];simp only [go_sem,ya,h5,h6,h7,L8];by_cases hi:i<l.length
  ·have cz:(i:Int)<l.length:=by omega
   rw [PB hi] at hf;by_cases hz:l[i]=0
   ·left
    simp only [go_sem,ya,cz,hv.bj hi,hz];refine ⟨_,k-1,rfl,by omega,_,_,i+1,rfl,?_⟩;rw [wrap64 (by omega) (by omega)];rw [yJ hz] at hf;simp only [go_sem,ya];exact ⟨trivial,trivial,rfl,by omega,hf⟩
   ·right
    simp only [go_sem,ya,cz,hv.bj hi,hz];rw [yz hz] at hf;refine ⟨_,_,rfl,by simp,_,rfl,.inl ⟨rfl,?_⟩⟩;simp only [go_sem,hf]
  ·right
   have cz:¬(i:Int)<l.length:=by omega
   simp only [go_sem,cz];refine ⟨_,_,rfl,by simp,_,rfl,.inr ⟨rfl,?_⟩⟩;rw [<-hf,xj (by omega)];rfl
end
end Nd
end
section
open Go (IntKind)
def aae (i:Nat):EK i [48,49,50,51,52,53,54,55,56,57]=(yE 48 i&&yE i 57):=by
 by_cases h:48<=i/\i<=57
 ·obtain ⟨h1,h2⟩:=h;obtain ⟨k,rfl⟩:∃k,i=48+k:=⟨i-48,by omega⟩;rcases (show k=0\/k=1\/k=2\/k=3\/k=4\/k=5\/k=6\/k=7\/k=8\/k=9 by omega) with rfl | rfl | rfl | rfl | rfl | rfl | rfl | rfl | rfl | rfl<;>rfl
 ·have e:(yE 48 i&&yE i 57)=false:=by
   cases h1:yE 48 i with
   | false=>rfl
   | true=>
    cases h2:yE i 57 with
    | false=>rfl
    | true=>exact absurd ⟨yt h1,yt h2⟩ h
  rw [e];have ne:∀c,48<=c->c<=57->yr c i=false:=fun c h1 h2=>cE (by omega)
  simp only [EK,ne 48 (by decide) (by decide),ne 49 (by decide) (by decide),ne 50 (by decide) (by decide),ne 51 (by decide) (by decide),ne 52 (by decide) (by decide),ne 53 (by decide) (by decide),ne 54 (by decide) (by decide),ne 55 (by decide) (by decide),ne 56 (by decide) (by decide),ne 57 (by decide) (by decide),yB]
def Qj:∀l:List Nat,kH [48,49,50,51,52,53,54,55,56,57] l=[]↔dA l=true
 | []=>by simp [kH,dA]
 | b::r=>by
  simp only [kH,dA,aae]
  cases hb:(yE 48 b&&yE b 57) with
  | true=>simp only [ym,xt];exact Qj r
  | false=>simp
def Ly:∀l:List Nat,dA l.reverse=dA l
 | []=>rfl
 | b::r=>by rw [List.reverse_cons,KH,Ly r];simp [dA,Bool.and_comm]
def Xf:∀l:List Nat,dA l=false->dA (kH [48,49,50,51,52,53,54,55,56,57] l)=false
 | [],h=>by simp [dA] at h
 | b::r,h=>by
  simp only [kH,aae]
  cases hb:(yE 48 b&&yE b 57) with
  | true=>
   simp only [dA,hb,xt] at h;exact Xf r h
  | false=>simp only [yB];exact h
def anb (p:List Nat):cI (kH [48,49,50,51,52,53,54,55,56,57] (kH [48,49,50,51,52,53,54,55,56,57] p.reverse).reverse) []=dA p:=by
 cases hd:dA p with
 | true=>
  have h1:=(Qj p.reverse).2 (by rw [Ly];exact hd)
  rw [h1];rfl
 | false=>
  have h1:=Xf p.reverse (by rw [Ly];exact hd)
  have h2:dA (kH [48,49,50,51,52,53,54,55,56,57] p.reverse).reverse=false:=by rw [Ly];exact h1
  cases hq:kH [48,49,50,51,52,53,54,55,56,57] (kH [48,49,50,51,52,53,54,55,56,57] p.reverse).reverse with
  | nil=>have:=(Qj _).1 hq;rw [h2] at this;exact absurd this (by decide)
  | cons b r=>rfl
def Xg:∀(t:List Nat) (k:Nat),mc [47] t k=if bN t<t.length then some (k+bN t) else none
 | [],k=>by simp [mc,gB,bN]
 | b::r,k=>by
  by_cases hb:b=47
  ·subst hb;have e:bN (47::r)=0:=by simp [bN]
   rw [e,yJ (by simp)];rfl
  ·have e:bN (b::r)=bN r+1:=by simp [bN,hb]
   have hp:gB [47] (b::r)=false:=by rw [Hn];exact cE (fun e=>hb e.symm)
   rw [e,mc,hp,yB,Xg r (k+1)]
   grind
def qY (a b:List Nat):binOp .neq (.str a) (.str b)=some (.bool (!(cI a b))):=rfl
structure Ck (P:aK) (L:Lib):Prop extends Tx P L where
 avb:L.pure 128=some KT
 avc:L.pure 162=some trimS
 h86:Has P L 86 fk
 C3:Has P L 124 EL
 avd:Has P L 125 Nb
 ave:Has P L 129 EM
section
variable {P:aK} {L:Lib}
def zM (h:Has P L 124 EL) (b:Bool) (n:Int):ae P L 124 [.bool b,aa n] (aa (if b=true then n else 0)):=Nd.zM h b n
def afG (h:Ck P L) {p:List Nat} (hl:p.length<=4000000000):ae P L 129 [.str p] (.bool (dJ p)):=by
 have e1:bR P L (D P L) 162 [.str p,.str [48,49,50,51,52,53,54,55,56,57]]=some (.str (kH [48,49,50,51,52,53,54,55,56,57] (kH [48,49,50,51,52,53,54,55,56,57] p.reverse).reverse)):=by
  rw [iS h.avc];show (bif D7 [48,49,50,51,52,53,54,55,56,57]&&(yG p.length 4294967281&&yG 10 4294967281) then _ else none)=_
  rw [jR (by omega)];rfl
 have e2:=anb p;unfold ae;rw [av h.ave]
 match p,e1,e2 with
 | [],_,_=>
  simp only [go_sem,ya,EM,qY,show cI [] []=true from rfl,yK];rfl
 | b::r,e1,e2=>
  have hI:mR 0 (.str (b::r))=some (.int .u8 (b:Nat)):=rfl;have h0:cI (b::r) []=false:=rfl;have hd:dJ (b::r)=(dA (b::r)&&(!(yr b 48)||r.isEmpty)):=rfl;rw [hd]
  cases li:dA (b::r) with
  | false=>
   rw [li] at e2;simp only [go_sem,ya,EM,qY,h0,yI,e1,iW,e2,xA]
  | true=>
   rw [li] at e2;by_cases hb:b=48
   ·subst hb;have e3:cI (48::r) [48]=r.isEmpty:=by
     cases r with
     | nil=>rfl
     | cons c r=>rfl
    have UF:mR 0 (.str (48::r))=some (.int .u8 48):=rfl;simp only [go_sem,ya,EM,qY,h0,yI,e1,iW,e2,UF,yq,yK,e3];rfl
   ·have:yr b 48=false:=cE hb
    rw [this];simp only [go_sem,ya,EM,qY,h0,yI,e1,iW,e2,hI,show ¬((b:Nat):Int)=48 by omega,yp,yI];rfl
def avf (h:Ck P L) (s:List Nat):bR P L (D P L) 128 [.str s,.str [45]]=some (if s.head? =some 45 then .aq [.str s.tail,.bool true] else .aq [.str s,.bool false]):=by
 rw [iS h.avb];show some (bif gB [45] s then AV.aq [.str (s.drop 1),.bool true] else .aq [.str s,.bool false])=_
 cases s with
 | nil=>rfl
 | cons b r=>
  by_cases hb:b=45
  ·subst hb;rfl
  ·have:gB [45] (b::r)=false:=by rw [Hn];exact cE (fun e=>hb e.symm)
   grind
def avg (h:Ck P L) {t:List Nat} (hl:t.length<=4000000000):bR P L (D P L) 109 [.str t,.str [47]]=some (.aq [.str (t.take (bN t)),.str (t.drop (bN t+1)),.bool (decide (bN t<t.length))]):=by
 rw [iS h.Tu];show (bif yG t.length 4294967281 then (match mc [47] t 0 with | some i=>some (AV.aq [.str (t.take i),.str (t.drop (i+1)),.bool true]) | none=>some (AV.aq [.str t,.str [],.bool false])) else none)=_
 rw [jR (by omega),Xg];by_cases hs:bN t<t.length
 ·grind
 ·rw [yz hs,yM hs,yL (by omega),xj (by omega)];rfl
def aja {P:aK} {L:Lib} (a b c d:VC) (s:St):D P L (.seq a (.seq b (.seq c d))) s=oK P L (D P L (.seq a (.seq b c)) s) d:=by
 have e:=Ce (P:=P) (L:=L) b c d;rw [jy,jy]
 cases D P L a s with
 | none=>rfl
 | some q=>
  obtain ⟨ex,st⟩:=q
  cases ex with
  | normal=>rw [fM,fM];exact e st
  | ret=>rfl
  | exit id=>rfl
def akU {P:aK} {L:Lib} (a b c d f:VC) (s:St):D P L (.seq a (.seq b (.seq c (.seq d f)))) s=oK P L (D P L (.seq a (.seq b (.seq c d))) s) f:=by
 have e:=aja (P:=P) (L:=L) b c d f;rw [jy,jy]
 cases D P L a s with
 | none=>rfl
 | some q=>
  obtain ⟨ex,st⟩:=q
  cases ex with
  | normal=>rw [fM,fM];exact e st
  | ret=>rfl
  | exit id=>rfl
def L3 {a b:List Nat} (h:a=b):cI a b=true:=by
 subst h
 induction a with
 | nil=>rfl
 | cons x a ih=>simp [cI,ih]
def Rg {a b:List Nat} (h:a≠b):cI a b=false:=by
 cases hb:cI a b with
 | false=>rfl
 | true=>
  exact absurd (by
   clear h;revert b
   induction a with
   | nil=>intro b hb;cases b with | nil=>rfl | cons y b=>simp [cI] at hb
   | cons x a ih=>
    intro b hb
    cases b with
    | nil=>simp [cI] at hb
    | cons y b=>
     simp only [cI,yf] at hb
     rw [yo hb.1,ih hb.2]) h
def atr (h:Ck P L) {p q:List Nat} {ok found:Bool} (lp:p.length<=1000000000) (lq:q.length<=1000000000) (iQ:ok=true->dJ p=true/\(found=true->dJ q=true)) {tm:Env} (t5:af tm 5= .str p) (t6:af tm 6= .str q) (t7:af tm 7= .bool found) (t8:af tm 8= .bool ok):
  gD [.t 2] (D P L (aA (aA (aA (aA (aA fk.body))))) ⟨tm,[],0,0⟩)=some (aa (
   if ok=false then 1
   else if 600<p.length\/600<q.length then 4
   else if found=true/\wi (fw p) (fw q)≠1 then 1
   else 0)):=by
 have w1:=zM h.C3 (!ok) 1;have Pj:∀a b:Int,ae P L 125 [.aE true 2 [aa a,aa b]] (aa (bm [a,b])):=fun a b=>Nd.ava h.avd (fN true [a,b]) (by simp)
 cases ok with
 | false=>
  have f1:=Pj 1 0;have f2:=Pj 1 4;have w2:=zM h.C3 false 4;have w3:=zM h.C3 true 4;simp only [yI,y7,yC,yR] at w1 w2 w3;rw [show bm [1,0]=1 by decide] at f1;rw [show bm [1,4]=1 by decide] at f2;unfold ae at w1 w2 w3 f1 f2;by_cases h1:600<p.length
  ·simp only [go_sem,ya,yb,yy,yg,yi,fk,aA,show ¬(1:Int)=0 by decide,yI,t5,t8,yI,w1,show (600:Int)<(p.length:Int) by omega,yq,w3,f2,yp]
   simp
  ·by_cases h2:600<q.length
   ·simp only [go_sem,ya,yb,yy,yg,yi,fk,aA,show ¬(1:Int)=0 by decide,yI,t5,t6,t8,yI,w1,show ¬(600:Int)<(p.length:Int) by omega,show (600:Int)<(q.length:Int) by omega,yq,yp,w3,f2]
    simp
   ·simp only [go_sem,ya,yb,yy,yg,yi,fk,aA,show ¬(1:Int)=0 by decide,yI,t5,t6,t8,yI,w1,show ¬(600:Int)<(p.length:Int) by omega,show ¬(600:Int)<(q.length:Int) by omega,yp,w2,f1]
    simp
 | true=>
  obtain ⟨hp,hq⟩:=iQ rfl;have f1:=Pj 0 0;have f2:=Pj 0 4;have w2:=zM h.C3 false 4;have w3:=zM h.C3 true 4;have w4:=zM h.C3 false 1;have w5:=zM h.C3 true 1;simp only [yK,y7,yC,yR] at w1 w2 w3 w4 w5;rw [show bm [0,0]=0 by decide] at f1;rw [show bm [0,4]=4 by decide] at f2;unfold ae at w1 w2 w3 w4 w5 f1 f2;rw [yz (by decide)];by_cases h1:600<p.length
  ·rw [yJ (.inl h1)];simp only [go_sem,ya,yb,yy,yg,yi,fk,aA,show ¬(4:Int)=0 by decide,yI,t5,t8,yK,w1,show (600:Int)<(p.length:Int) by omega,yq,w3,f2,yp]
  ·by_cases h2:600<q.length
   ·rw [yJ (.inr h2)];simp only [go_sem,ya,yb,yy,yg,yi,fk,aA,show ¬(4:Int)=0 by decide,yI,t5,t6,t8,yK,w1,show ¬(600:Int)<(p.length:Int) by omega,show (600:Int)<(q.length:Int) by omega,yq,yp,w3,f2]
   ·rw [yz (by omega)]
    cases found with
    | false=>
     rw [yz (by simp)];simp only [go_sem,ya,yb,yy,yg,yi,fk,aA,t5,t6,t7,t8,yK,w1,show ¬(600:Int)<(p.length:Int) by omega,show ¬(600:Int)<(q.length:Int) by omega,yq,yp,w2,f1]
    | true=>
     have qG:=DR _ rfl hp;have oe:=DR _ rfl (hq rfl);generalize fw p=n at*
     generalize fw q=d at*
     subst qG;subst oe;obtain ⟨M,hM⟩:∃M:Nat,M=2400:=⟨_,rfl⟩;have bd:∀{m:Nat},(an m).length<=600->Bd M (m:Int):=fun {m} hm=>by
      have h1:=D0 m;have h2:=HQ (an m).length;have h3:(2:Nat)^(4*(an m).length)<=2^M:=xn (by decide) (by omega);unfold Bd;rw [xW];exact yH h1 (xi h2 h3)
     obtain ⟨x,e1,hx⟩:=Jo h.toTx (z:=(n:Int)) (by rw [jK];omega);obtain ⟨y,e2,hy⟩:=Jo h.toTx (z:=(d:Int)) (by rw [jK];omega);rw [jK] at e1 e2;have kn:=bd (m:=n) (by omega);have kd:=bd (m:=d) (by omega);obtain ⟨g,e3,hg⟩:=afy h.toNu hx hy kn kd (by omega);obtain ⟨e4,BC⟩:=C0 h.toNu (z:=1) (by decide) (by decide);have kg:Bd M ((Int.gcd (n:Int) (d:Int):Nat):Int):=by
      rcases Nat.eq_zero_or_pos d with h0 | h0
      ·subst h0;simpa using kn
      ·exact kd.le (by have:=Nat.gcd_le_right n h0;simpa using this)
     have e5:=afu h.toNu hg BC (K:=M) kg (by unfold Bd;exact Nat.one_lt_two_pow (by omega)) (by omega)
     have avh:Int.gcd (n:Int) (d:Int)=wi n d:=rfl;rw [avh] at e5;obtain ⟨xs,xw,rfl,Dx⟩:=hx;obtain ⟨ys,yw,rfl,sB⟩:=hy;obtain ⟨gs,gw,rfl,Dy⟩:=hg;obtain ⟨l1,u1⟩:=Dx.aw;obtain ⟨l2,u2⟩:=sB.aw;obtain ⟨l3,u3⟩:=Dy.aw;by_cases ib:wi n d=1
     ·rw [yz (by simp [ib])];have hs:bZ (((wi n d:Nat):Int)-1)=0:=by rw [ib];rfl
      rw [hs] at e5;simp only [go_sem,ya,yb,yy,yg,yi,fk,aA,t5,t6,t7,t8,yK,w1,show ¬(600:Int)<((an n).length:Int) by omega,show ¬(600:Int)<((an d).length:Int) by omega,yq,yp,w2,f1,e1,e2,u1.ai,u2.ai,u3.ai,bE,bk,e3,e4,e5]
     ·rw [yJ ⟨rfl,ib⟩];obtain ⟨c,hc,kZ⟩:∃c,bZ (((wi n d:Nat):Int)-1)=c/\c≠0:=⟨_,rfl,fun e=>ib (by
       unfold bZ at e
       split at e
       ·exact absurd e (by decide)
       ·split at e
        ·omega
        ·exact absurd e (by decide))⟩
      rw [hc] at e5;simp only [go_sem,ya,yb,yy,yg,yi,fk,aA,yI,t5,t6,t7,t8,yK,w1,show ¬(600:Int)<((an n).length:Int) by omega,show ¬(600:Int)<((an d).length:Int) by omega,yq,yp,w2,f1,e1,e2,u1.ai,u2.ai,u3.ai,bE,bk,e3,e4,e5,kZ,yI,w5]
def Pk (h:Ck P L) {s:List Nat} (hl:s.length<=1000000000):ae P L 86 [.str s] (aa (aX s)):=by
 have key:∀(neg:Bool) (t:List Nat),t.length<=1000000000->bR P L (D P L) 128 [.str s,.str [45]]=some (.aq [.str t,.bool neg])->ae P L 86 [.str s] (aa (mA neg t)):=by
  intro neg t hl e0;have e1:=avg h (t:=t) (by omega);obtain ⟨k,hk⟩:∃k,k=bN t:=⟨_,rfl⟩;have V8:k<=t.length:=by rw [hk];exact Hl t
  have e2:=afG h (p:=t.take k) (by rw [yT];omega);have e3:=afG h (p:=t.drop (k+1)) (by rw [wu];omega);have lp:(t.take k).length=k:=by rw [yT];omega
  have lq:(t.drop (k+1)).length=t.length-k-1:=by rw [wu];omega
  unfold mA;rw [<-hk] at e1 ⊢;generalize hp:t.take k=p at*
  generalize hq:t.drop (k+1)=q at*
  obtain ⟨BZ,rL⟩:∃ok:Bool,ok=(dJ p&&(!neg|| !(cI p [48]))):=⟨_,rfl⟩;obtain ⟨ok,iQ⟩:∃ok:Bool,ok=(BZ&&(!(decide (k<t.length))||(dJ q&&(!(cI q [48])&& !(cI q [49]))))):=⟨_,rfl⟩
  have NI:(if dJ p=false\/(neg=true/\p=[48]) then 1
    else if k<t.length/\(dJ q=false\/q=[48]\/q=[49]) then 1
    else if 600<k\/600<t.length-k-1 then 4
    else if k<t.length/\wi (fw p) (fw q)≠1 then 1 else 0:Int)=(if ok=false then 1
    else if 600<p.length\/600<q.length then 4
    else if decide (k<t.length)=true/\wi (fw p) (fw q)≠1 then 1
    else 0):=by
   rw [lp,lq];have a1:(dJ p=false\/(neg=true/\p=[48]))↔BZ=false:=by
    rw [rL];cases dJ p<;>cases neg<;>simp
    by_cases e:p=[48]
    ·simp [e,L3]
    ·simp [e,Rg e]
   have a2:ok=false↔(BZ=false\/(k<t.length/\(dJ q=false\/q=[48]\/q=[49]))):=by
    rw [iQ];by_cases hs:k<t.length
    ·simp only [hs,yq,yK,vD,uF];cases BZ<;>cases dJ q<;>simp
     by_cases e:q=[48]
     ·simp [e,L3]
     ·by_cases e':q=[49]
      ·simp [e',L3]
      ·simp [e,e',Rg e,Rg e']
    ·simp [hs]
   by_cases h1:BZ=false
   ·rw [yJ (a1.2 h1),yJ (a2.2 (.inl h1))]
   ·rw [yz (fun e=>h1 (a1.1 e))];by_cases h2:k<t.length/\(dJ q=false\/q=[48]\/q=[49])
    ·rw [yJ h2,yJ (a2.2 (.inr h2))]
    ·rw [yz h2,yz (fun e=>(a2.1 e).elim h1 h2)];simp only [wN]
  rw [NI];have avi:ok=true->dJ p=true/\(decide (k<t.length)=true->dJ q=true):=fun e=>by
   rw [iQ,yf] at e;obtain ⟨e1,e2⟩:=e;rw [rL,yf] at e1;refine ⟨e1.1,fun hs=>?_⟩;rw [hs,yK,vD,yf] at e2;exact e2.1
  have tail:∀tm,af tm 5= .str p->af tm 6= .str q->af tm 7= .bool (decide (k<t.length))->af tm 8= .bool ok->gD [.t 2] (D P L (aA (aA (aA (aA (aA fk.body))))) ⟨tm,[],0,0⟩)=_:=fun tm t5 t6 t7 t8=>
   atr h (by omega) (by omega) avi t5 t6 t7 t8
  have mid:∀tm,af tm 5= .str p->af tm 6= .str q->af tm 7= .bool (decide (k<t.length))->af tm 8= .bool BZ->
    ∃tm',D P L (bK (aA (aA (aA (aA fk.body))))) ⟨tm,[],0,0⟩=some (.normal,⟨tm',[],0,0⟩)/\af tm' 5= .str p/\af tm' 6= .str q/\af tm' 7= .bool (decide (k<t.length))/\af tm' 8= .bool ok:=fun tm t5 t6 t7 t8=>by
   unfold ae at e3;by_cases hs:k<t.length
   ·rw [yV hs] at t7 iQ ⊢;simp only [yK,vD] at iQ
    cases BZ with
    | false=>
     rw [xA] at iQ;subst iQ;refine ⟨_,by simp only [go_sem,ya,fk,bK,aA,t7,t8]<;>rfl,?_⟩
     simp only [go_sem,ya,t5,t6,t7,uF]
    | true=>
     rw [xt] at iQ
     cases hd:dJ q with
     | false=>
      rw [hd] at e3 iQ;rw [xA] at iQ;subst iQ;refine ⟨_,by simp only [go_sem,ya,fk,bK,aA,t6,t7,t8,e3]<;>rfl,?_⟩
      simp only [go_sem,ya,t5,t6,t7,uF]
     | true=>
      rw [hd] at e3 iQ;rw [xt] at iQ
      cases jm:cI q [48] with
      | true=>
       rw [jm,yK,xA] at iQ;subst iQ;refine ⟨_,by simp only [go_sem,ya,fk,bK,aA,t6,t7,t8,e3,qY,jm,yK]<;>rfl,?_⟩
       simp only [go_sem,ya,t5,t6,t7,uF]
      | false=>
       rw [jm,yI,xt] at iQ;subst iQ;refine ⟨_,by simp only [go_sem,ya,fk,bK,aA,t6,t7,t8,e3,qY,jm,yI]<;>rfl,?_⟩
       simp only [go_sem,ya,t5,t6,t7,uF]
   ·rw [yM hs] at t7 iQ ⊢;simp only [yI,yay,Bool.and_true] at iQ;subst iQ;refine ⟨_,by simp only [go_sem,fk,bK,aA,t7]<;>rfl,?_⟩
    simp only [go_sem,ya,t5,t6,t7,t8,uF]
  have fin:∀tm,af tm 5= .str p->af tm 6= .str q->af tm 7= .bool (decide (k<t.length))->af tm 8= .bool BZ->
    D P L (.seq (bK fk.body) (.seq (bK (aA fk.body)) (.seq (bK (aA (aA fk.body))) (bK (aA (aA (aA fk.body))))))) ⟨[(0,.str s)],[],0,0⟩=some (.normal,⟨tm,[],0,0⟩)->ae P L 86 [.str s] _:=fun tm t5 t6 t7 t8 e=>by
   obtain ⟨tm',e',f5,f6,f7,f8⟩:=mid tm t5 t6 t7 t8;unfold ae;rw [av h.h86];show gD [.t 2] (D P L (.seq (bK fk.body) (.seq (bK (aA fk.body)) (.seq (bK (aA (aA fk.body))) (.seq (bK (aA (aA (aA fk.body)))) (.seq (bK (aA (aA (aA (aA fk.body))))) (aA (aA (aA (aA (aA fk.body)))))))))) ⟨[(0,.str s)],[],0,0⟩)=_
   rw [akU,e,fM,jy,e',fM];exact tail tm' f5 f6 f7 f8
  unfold ae at e2
  cases hd:dJ p with
  | false=>
   rw [hd] at e2 rL;rw [xA] at rL;subst rL;refine fin _ ?_ ?_ ?_ ?_ (by simp only [go_sem,ya,fk,bK,aA,e0,e1,e2]<;>rfl)<;>simp only [go_sem,ya]
  | true=>
   rw [hd] at e2 rL
   cases neg with
   | false=>
    simp only [yI,yay] at rL;subst rL;refine fin _ ?_ ?_ ?_ ?_ (by simp only [go_sem,ya,fk,bK,aA,e0,e1,e2,yI]<;>rfl)<;>simp only [go_sem,ya]
   | true=>
    simp only [yK,vD] at rL;subst rL;refine fin _ ?_ ?_ ?_ ?_ (by simp only [go_sem,ya,fk,bK,aA,e0,e1,e2,yK,qY]<;>rfl)<;>simp only [go_sem,ya]
 unfold aX;have e0:=avf h s
 cases s with
 | nil=>exact key false [] (by simp) e0
 | cons b r=>
  by_cases hb:b=45
  ·subst hb;exact key true r (by simp at hl;omega) e0
  ·simp only [hb,yR];rw [yz (by simpa using hb)] at e0;exact key false (b::r) hl e0
end
end
section
open Go (IntKind)
def LN (z:Int):Bool:=decide (600<(an z.natAbs).length)
def LG (r:Rat):Bool:=LN r.num||LN (r.den:Int)
def PV {m B k:Nat} (hB:B<=3*k) (hk:0<k) (h:m<2^B):(an m).length<=k:=by
 obtain ⟨j,rfl⟩:∃j,k=j+1:=⟨k-1,by omega⟩;refine om (yH h (xi (xn (by decide) hB) ?_));rw [uN];exact ue (by decide) _
def Rh:∀f n:Nat,eK f n<=f
 | 0,_=>yD _
 | f+1,n=>by
  unfold eK
  cases yr n 0 with
  | true=>exact Nat.zero_le _
  | false=>have:=Rh f (n/2);simp only [yB];omega
def arX {P:aK} {L:Lib} {f:cJ} (h:L.pure 175=some HV) {x:Nat} (hx:x<18446744073709551616):bR P L f 175 [uc x]=some (aa (eK 64 x:Nat)):=by
 rw [iS h];show (bif yG x 18446744073709551616 then _ else none)=_
 rw [jR hx];rfl
def apl {V n top low:Nat} (hn:0<n) (h0:0<top) (ht:top<18446744073709551616) (hV:V=low+18446744073709551616^(n-1)*top) (hl:low<18446744073709551616^(n-1)):V<2^(64*(n-1)+eK 64 top):=by
 obtain ⟨l1,l2,l3⟩:=QM h0 ht;have hle:=Rh 64 top;have h1:top<2^eK 64 top:=by
  have e:(18446744073709551616:Nat)=2^eK 64 top*2^(64-eK 64 top):=by rw [<-wP,show eK 64 top+(64-eK 64 top)=64 by omega]
  rw [e] at l3;exact Nat.lt_of_mul_lt_mul_right l3
 have h3:=Nat.mul_le_mul_left (18446744073709551616^(n-1)) (show top+1<=2^eK 64 top from h1);rw [wP,uN]
 grind
section
variable {P:aK} {L:Lib}
def anc (K:Nat):2^K<=18446744073709551616^(K/64+1):=by
 rw [show (18446744073709551616:Nat)=2^64 from rfl,<-uN];exact xn (by decide) (by omega)
def ats (h:Tx P L) {v:AV} {z:Int} {K:Nat} (hv:cD v z) (hz:Bd K z) (hK:K<=4000000000):∃B:Nat,ae P L 172 [v] (aa B)/\z.natAbs<2^B/\B<=K+64:=by
 obtain ⟨s,w,rfl,hn⟩:=hv;obtain ⟨l,u⟩:=hn.aw;obtain ⟨r,e1,hr⟩:=zJ h.toNu hn;obtain ⟨ws,hw,g,nz',hb⟩:=hr;have hl:ws.length<=K/64+1:=nM nz' hb (yH hz (anc K));unfold ae at e1 ⊢;by_cases h0:ws=[]
 ·subst h0;have lR:z.natAbs=0:=by rw [<-hb];rfl
  refine ⟨0,?_,by rw [lR];decide,by omega⟩
  rw [av h.afB];simp only [go_sem,ya,yb,Nk,aH,bW,bk,u.pu,u.ai,u.one,e1,hw.len,yF,show ((0:Nat):Int)=0 from rfl,yq]
 ·have hp:0<ws.length:=List.length_pos_iff.2 h0;have A6:=Lt nz' h0;have Dp:=gm (show 0<18446744073709551616 by decide) g (ws.length-1);have ei:=hw.bj (i:=ws.length-1) (by omega);have ep:=iV (b:=18446744073709551616) (l:=ws) (ws.length-1);have Jp:=mi (AM g (ws.length-1));rw [yT,Nat.min_eq_left (by omega)] at Jp;rw [show ws.length-1+1=ws.length by omega,yL (yD _)] at ep;generalize ws.getD (ws.length-1) 0=top at*
  have e2:=arX (P:=P) (f:=D P L) h.au2 Dp;have hle:=Rh 64 top;have aeE:=apl hp (Nat.pos_of_ne_zero A6) Dp ep Jp;rw [hb] at aeE;refine ⟨64*(ws.length-1)+eK 64 top,?_,aeE,by omega⟩;rw [av h.afB]
  simp only [go_sem,ya,yb,Nk,aH,bW,bk,u.pu,u.ai,u.one,e1,hw.len,show ¬(ws.length:Int)=0 by omega,show (ws.length:Int)-1=((ws.length-1:Nat):Int) by omega,wrapN (n:=ws.length-1) (by omega),show (64:Int)*((ws.length-1:Nat):Int)=((64*(ws.length-1):Nat):Int) by omega,wrapN (n:=64*(ws.length-1)) (by omega),ei,e2,show ((64*(ws.length-1):Nat):Int)+((eK 64 top:Nat):Int)=((64*(ws.length-1)+eK 64 top:Nat):Int) from rfl,wrapN (n:=64*(ws.length-1)+eK 64 top) (by omega)]
def avj (h:Tx P L) {v:AV} {z:Int} {K:Nat} (hv:cD v z) (hz:Bd K z) (hK:K<=4000000000):∃B:Nat,ae P L 172 [v] (aa B)/\z.natAbs<2^B/\B<=300000000000:=by
 obtain ⟨B,h1,h2,h3⟩:=ats h hv hz hK;exact ⟨B,h1,h2,by omega⟩
def akV (z:Int):(if gB [45] (aW z)=true then (aW z).drop 1 else aW z)=an z.natAbs:=by
 by_cases h:z<0
 ·rw [jL h];rfl
 ·obtain ⟨m,rfl⟩:∃m:Nat,z=m:=⟨z.toNat,by omega⟩;rw [jK];obtain ⟨b,r,hb,h1,_⟩:=DQ m;rw [xW,hb,Qi h1];rfl
def afH (h:Tx P L) {v:AV} {z:Int} {K:Nat} (hv:cD v z) (hz:Bd K z) (hK:K<=4000000000):ae P L 151 [v] (.bool (LN z)):=by
 obtain ⟨B,e1,hB,hBb⟩:=avj h hv hz hK;have e2:=VM h hv hz hK;obtain ⟨s,w,rfl,hn⟩:=hv;obtain ⟨l,u⟩:=hn.aw;have e3:bR P L (D P L) 153 [.str (aW z),.str [45]]=some (.str (an z.natAbs)):=by
  rw [iS h.Tq,<-akV];show some (AV.str (bif gB [45] (aW z) then (aW z).drop 1 else aW z))=_
  cases gB [45] (aW z)<;>rfl
 unfold ae at e1 e2 ⊢;rw [av h.au3];unfold LN;by_cases h1:1800<B
 ·simp only [go_sem,ya,yb,Ng,aH,bW,bk,u.pu,u.ai,u.one,e1,show (1800:Int)<(B:Int) by omega,yq,e2,e3];by_cases h2:600<(an z.natAbs).length
  ·rw [yV h2,yV (by omega)]
  ·rw [yM h2,yM (by omega)]
 ·have h2:=PV (k:=600) (by omega) (by decide) hB;rw [yM (by omega)];simp only [go_sem,ya,yb,Ng,aH,bW,bk,u.pu,u.ai,u.one,e1,show ¬(1800:Int)<(B:Int) by omega,yp]
def TF (h:Tx P L) {v:AV} {a:Rat} {K:Nat} (hv:cB v a) (ka:Hq K a) (hK:K<=4000000000):ae P L 107 [v] (.bool (LG a)):=by
 obtain ⟨s1,w1,s2,w2,rfl,h1,h2⟩:=hv;have e1:=afH h ⟨s1,w1,rfl,h1⟩ ka.1 hK;have e2:=afH h ⟨s2,w2,rfl,h2⟩ ka.2 hK;obtain ⟨l1,u1⟩:=h1.aw;obtain ⟨l2,u2⟩:=h2.aw;unfold ae at e1 e2 ⊢;rw [av h.au4];unfold LG
 cases hb:LN a.num with
 | true=>
  rw [hb] at e1;simp only [go_sem,ya,yb,M6,aH,bg,yd,bW,bk,u1.pu,u1.ai,u1.one,u2.pu,u2.one,e1];rfl
 | false=>
  rw [hb] at e1;simp only [go_sem,ya,yb,M6,aH,bg,yd,show List.drop 2 [aa s1,w1,aa s2,w2]=[aa s2,w2] from rfl,bW,bk,u1.pu,u1.ai,u1.one,u2.pu,u2.ai,u2.one,e1,e2];rfl
end
end
end VE
