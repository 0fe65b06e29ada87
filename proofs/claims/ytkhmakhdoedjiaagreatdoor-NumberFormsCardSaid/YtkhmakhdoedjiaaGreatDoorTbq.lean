import Derived.Test.YtkhmakhdoedjiaaGreatDoorTbo
import Derived.Test.YtkhmakhdoedjiaaGreatDoorTau
import Derived.Test.YtkhmakhdoedjiaaGreatDoorTbc
import Derived.Test.YtkhmakhdoedjiaaGreatDoorTbe
import Derived.Test.YtkhmakhdoedjiaaGreatDoorTbl
set_option linter.all false
set_option maxRecDepth 100000
open Nat (reduceAdd reduceEqDiff reduceLT reduceLeDiff reduceMul)
section
namespace VE
open Go (IntKind)
theorem zpX:∀(cs:List AV) (l:List Nat),zen cs=some l→cs=l.map uc∧lo 18446744073709551616 l:=by
 intro cs
 induction cs with
 | nil=>
  intro l h;simp only [zen,Option.some.injEq] at h;subst h;exact ⟨rfl,fun _ h=>by cases h⟩
 | cons c cs ih=>
  intro l h;unfold zen at h
  split at h
  ·rename_i heq;cases heq
  ·rename_i d r heq;cases heq
   cases hb:Nat.blt d 18446744073709551616 with
   | false=>rw [hb] at h;cases h
   | true=>
    rw [hb] at h;simp only [cond_true] at h
    cases hw:zen cs with
    | none=>rw [hw] at h;cases h
    | some l'=>
     rw [hw] at h;cases h;obtain ⟨k1,k2⟩:=ih l' hw;refine ⟨by rw [k1];rfl,fun x hx=>?_⟩
     rcases List.mem_cons.1 hx with rfl | hx
     ·exact blt_iff.1 hb
     ·exact k2 x hx
  ·cases h
theorem zl8:∀{l:List Nat},ziN l=true→nzN l
 | [],h=>by cases h
 | [a],h=>by
  have h0:a≠0:=fun e=>by subst e;cases h
  exact zcZ h0 []
 | a::b::r,h=>by
  have h1:zaJ (b::r)=b::r:=zl8 (l:=b::r) h;show zaJ (a::(b::r))=_
  simp only [zaJ] at h1 ⊢;rw [h1]
section
variable {P:zN} {L:Lib}
theorem zAA (h:Has P L 99 c99) (h135:L.pure 135=some znw) {s:Int} (hs:ziz s=true):zk P L (D P L) 99 [.agg [zh s,.nils]]=some (.str (zW s)):=by
 have e1:zk P L (D P L) 135 [zh s]=some (.str (zW s)):=by
  rw [zaA h135];show (bif ziz s then some (AV.str (zW s)) else none)=_
  rw [hs];rfl
 rw [zf h];simp only [go_sem,reduceEqDiff,reduceAdd,c99,zu,zI,Nat.zero_add,zak,zbJ,zal,e1]
end
section
open Go
variable {Λ:Link}
theorem ztC (hΛ:zav Λ) (hN:Nu Λ.prog Λ.lib) (h135:Λ.lib.pure 135=some znw) (h138:Λ.lib.pure 138=some zbs) (h139:Λ.lib.pure 139=some zee) (h99:Has Λ.prog Λ.lib 99 c99) {fn:Func} {c:Code} (hfn:Λ.P.funcs[Λ.fid 99]? =some fn) (hbo:fn.body=some c) (hnt:fn.ntmps=69)
  (hseq:zCP 5 c) (ht:StrTail Λ.P c):∀vals r,zi5 vals=some r→PureC Λ 99 vals r:=by
 intro vals r h;unfold zi5 at h
 split at h
 ·rename_i s
  cases hs:ziz s with
  | false=>rw [hs] at h;cases h
  | true=>
   rw [hs] at h;cases h;obtain ⟨k,hk⟩:=zwA (zAA (P:=Λ.prog) (L:=Λ.lib) h99 h135 hs);exact zzh hΛ hk
 ·rename_i s e n cs
  cases hw:zen cs with
  | none=>rw [hw] at h;cases h
  | some l=>
   rw [hw] at h;simp only at h
   cases hb:(Nat.beq l.length n&&(Nat.ble n 4000000000&&(ziN l&&Nat.ble 9223372036854775808 (zld l)))) with
   | false=>rw [hb] at h;cases h
   | true=>
    rw [hb] at h;simp only [cond_true] at h;simp only [Bool.and_eq_true] at hb;obtain ⟨h1,h2,h3,h4⟩:=hb;obtain ⟨rfl,hlo⟩:=zpX cs l hw;have h1:=Nat.eq_of_beq_eq_true h1;subst h1;have h2:=Nat.le_of_ble_eq_true h2;have h4:=Nat.le_of_ble_eq_true h4;have h3:=zl8 h3;rw [zmD] at h4 h;have hlt:=zd4 hlo;have key:=fun (s z:Int) (hz:z.natAbs=bv 18446744073709551616 l) (hs:s=if z<0 then -1 else 1)=>
     zzr hΛ hN h138 h139 h99.code hfn hbo hnt hseq ht (s:=s) (z:=z) (e:=e) (l:=l) (.inr ⟨e,l,rfl,hlo,h3,hz.symm,hs,by omega⟩) (by omega) h2 (by omega)
    split at h
    ·cases h
     have:=key 1 (bv 18446744073709551616 l:Nat) (by simp) (by rw [if_neg (by omega)])
     exact this
    ·cases h
     have:=key (-1) (-(bv 18446744073709551616 l:Nat):Int) (by simp) (by rw [if_pos (by omega)])
     rw [zby (by omega)] at this;simpa using this
    ·cases h
 ·cases h
end
end VE
end
section
namespace VE
open Go
def zoW (L:Lib) (n:Nat) (sp:List AV→Option AV):Lib:=⟨fun i=>bif Nat.beq i n then some sp else L.pure i,L.heap⟩
theorem ztX {Λ:Link} (hΛ:zav Λ) {n:Nat} {sp:List AV→Option AV} (h:∀vals r,sp vals=some r→PureC Λ n vals r):zav (Λ.withLib (zoW Λ.lib n sp)) where
 hint:=hΛ.hint
 mixed:=hΛ.mixed
 prog:=hΛ.prog
 lib i sp' vals r hi hs:=by
  show PureC Λ i vals r
  simp only [zoW] at hi
  cases hb:Nat.beq i n with
  | true=>
   rw [hb] at hi;cases hi
   have:=Nat.eq_of_beq_eq_true hb
   subst this;exact h vals r hs
  | false=>
   rw [hb] at hi;exact hΛ.lib i sp' vals r hi hs
 libH i sp' hp ct vals v hp' ct' hi hs:=zlo (hΛ.libH i sp' hp ct vals v hp' ct' hi hs)
end VE
end
section
namespace VE
open Go
section
variable {H:Type} {enc:TypeId×Value→H} {P:Program} {w:World} {base:Nat} {sp:Nat→Bool} {held:Bool}
theorem zkH {α β:Type} {f:α→Option β}:∀{l:List α} {r:List β},l.mapM f=some r→∀y,y∈r→∃x,f x=some y
 | [],r,h,y,hy=>by simp only [List.mapM_nil,Option.pure_def,Option.some.injEq] at h;subst h;cases hy
 | x::l,r,h,y,hy=>by
  rw [List.mapM_cons] at h
  cases h1:f x with
  | none=>simp [h1] at h
  | some z=>
   cases h2:l.mapM f with
   | none=>simp [h1,h2] at h
   | some zs=>
    simp only [h1,h2,Option.bind_some,Option.bind_eq_bind,Option.pure_def,Option.some.injEq] at h;subst h;rcases List.mem_cons.1 hy with rfl | hy
    ·exact ⟨x,h1⟩
    ·exact zkH h2 y hy
def Rd (enc:TypeId×Value→H) (P:Program) (w:World) (base:Nat) (sp:Nat→Bool) (held:Bool) (t:TypeId) (d:DataW H):Prop:=∃fuel cs ps,DataW.trod enc P w base sp held fuel t cs=some (d,ps)
theorem zJ1 {t:TypeId} {k:IntKind} {d:DataW H} {n:Nat} (ht:P.underlying t=some (.int k)) (h:Rd enc P w base sp held t d):∃z,avs P (n+1) t d=[.int k z]∧(Lit.int k z).wf=true:=by
 obtain ⟨fuel,cs,ps,h⟩:=h
 cases fuel with
 | zero=>simp [DataW.trod] at h
 | succ fuel=>
  unfold DataW.trod at h
  split at h
  all_goals first
   | (rename_i hu;rw [ht] at hu;cases hu;done)
   | skip
  ·rename_i k1 k2 z hu;rw [ht] at hu;injection hu with hu
   injection hu with hu
   subst hu
   split at h
   ·rename_i hk;simp only [Option.some.injEq,Prod.mk.injEq] at h;obtain ⟨rfl,rfl⟩:=h;exact ⟨z,by simp only [avs,ht],hk.2⟩
   ·cases h
  all_goals (cases h;done)
theorem zw9 {t e:TypeId} {d:DataW H} {n:Nat} (ht:P.underlying t=some (.slice e)) (h:Rd enc P w base sp held t d):
  avs P (n+1) t d=[.nils]∨∃(x:Bool) (elems:List (DataW H)),avs P (n+1) t d=[.vsl x elems.length (elems.flatMap fun y=>avs P n e y)]∧∀y,y∈elems→Rd enc P w base sp held e y:=by
 obtain ⟨fuel,cs,ps,h⟩:=h
 cases fuel with
 | zero=>simp [DataW.trod] at h
 | succ fuel=>
  unfold DataW.trod at h
  split at h
  all_goals first
   | (rename_i hu;rw [ht] at hu;cases hu;done)
   | skip
  ·simp only [Option.some.injEq,Prod.mk.injEq] at h;obtain ⟨rfl,rfl⟩:=h;exact .inl (by simp only [avs,ht])
  ·rename_i e' a len cap hu;rw [ht] at hu;injection hu with hu
   injection hu with hu
   subst hu;simp only at h
   split at h
   case isFalse=>cases h
   cases h1:(List.range len).mapM fun i=>(w.cells? base (a.add (i*P.cellsOf e)) (P.cellsOf e)).bind (DataW.trod enc P w base sp held fuel e) with
   | none=>rw [h1] at h;simp at h
   | some elems=>
    rw [h1] at h;simp only [Option.bind_some] at h;obtain ⟨rest,_,h⟩:=Option.map_eq_some_iff.1 h;simp only [Prod.mk.injEq] at h;obtain ⟨rfl,rfl⟩:=h;refine .inr ⟨(rest.map (·.1)).isEmpty,elems.map (·.1),by simp only [avs,ht,List.length_map],?_⟩;intro y hy;obtain ⟨p,hp,rfl⟩:=List.mem_map.1 hy;obtain ⟨i,hi⟩:=zkH h1 p hp;obtain ⟨cs',_,hcs⟩:=Option.bind_eq_some_iff.1 hi;exact ⟨fuel,cs',p.2,hcs⟩
  all_goals (cases h;done)
theorem zuq {t:TypeId} {fs:Array Field} {d:DataW H} {n:Nat} (ht:P.underlying t=some (.struct fs)) (h:Rd enc P w base sp held t d):
  ∃ds:List (DataW H),ds.length=fs.toList.length∧avs P (n+1) t d=(fs.toList.zip ds).flatMap (fun x=>avs P n x.1.type x.2)∧∀i (h1:i<fs.toList.length) (h2:i<ds.length),Rd enc P w base sp held fs.toList[i].type ds[i]:=by
 obtain ⟨fuel,cs,ps,h⟩:=h
 cases fuel with
 | zero=>simp [DataW.trod] at h
 | succ fuel=>
  unfold DataW.trod at h
  split at h
  all_goals first
   | (rename_i hu;rw [ht] at hu;cases hu;done)
   | (cases h;done)
   | skip
  rename_i cs x1 cs2 fs' hu;rw [ht] at hu;injection hu with hu
  injection hu with hu
  subst hu
  split at h
  case isFalse=>cases h
  obtain ⟨xs,h1,h⟩:=Option.map_eq_some_iff.1 h;simp only [Prod.mk.injEq] at h;obtain ⟨rfl,rfl⟩:=h;refine ⟨xs.map (·.1),by simp [zf1 h1],by simp only [avs,ht],?_⟩;have key:∀{r:List Field} {xs:List (DataW H×List MemPlace)},r.mapM (fun f=>DataW.trod enc P w base sp held fuel f.type ((cs.drop f.offset).take (P.cellsOf f.type)))=some xs→
    ∀i (h1:i<r.length) (h2:i<(xs.map (·.1)).length),Rd enc P w base sp held r[i].type (xs.map (·.1))[i]:=by
   intro r
   induction r with
   | nil=>intro xs h i h1;exact absurd h1 (Nat.not_lt_zero i)
   | cons f r ih=>
    intro xs h i h1 h2;rw [List.mapM_cons] at h
    cases g1:DataW.trod enc P w base sp held fuel f.type ((cs.drop f.offset).take (P.cellsOf f.type)) with
    | none=>simp [g1] at h
    | some x=>
     cases g2:r.mapM (fun f=>DataW.trod enc P w base sp held fuel f.type ((cs.drop f.offset).take (P.cellsOf f.type))) with
     | none=>simp [g1,g2] at h
     | some ys=>
      simp only [g1,g2,Option.bind_some,Option.bind_eq_bind,Option.pure_def,Option.some.injEq] at h;subst h
      cases i with
      | zero=>exact ⟨fuel,_,x.2,g1⟩
      | succ i=>exact ih g2 i (by simpa using h1) (by simpa using h2)
  exact key h1
theorem zxu {t e:TypeId} {k:Nat} {d:DataW H} {n:Nat} (ht:P.underlying t=some (.array k e)) (h:Rd enc P w base sp held t d):
  ∃ds:List (DataW H),ds.length=k∧avs P (n+1) t d=ds.flatMap (fun x=>avs P n e x)∧∀y,y∈ds→Rd enc P w base sp held e y:=by
 obtain ⟨fuel,cs,ps,h⟩:=h
 cases fuel with
 | zero=>simp [DataW.trod] at h
 | succ fuel=>
  unfold DataW.trod at h
  split at h
  all_goals first
   | (rename_i hu;rw [ht] at hu;cases hu;done)
   | (cases h;done)
   | skip
  rename_i cs x1 cs2 k' e' hu;rw [ht] at hu;injection hu with hu
  injection hu with hu1 hu2
  subst hu1;subst hu2
  split at h
  case isFalse=>cases h
  obtain ⟨xs,h1,h⟩:=Option.map_eq_some_iff.1 h;simp only [Prod.mk.injEq] at h;obtain ⟨rfl,rfl⟩:=h;refine ⟨xs.map (·.1),by simp [zf1 h1],by simp only [avs,ht],fun y hy=>?_⟩;obtain ⟨p,hp,rfl⟩:=List.mem_map.1 hy;obtain ⟨i,hi⟩:=zkH h1 p hp;exact ⟨fuel,_,p.2,hi⟩
end
end VE
end
section
namespace VE
open Go
inductive Ty
 | int (k:IntKind)
 | flt (k:FloatKind)
 | bool
 | str
 | sl (e:Ty)
 | nil
 | cat (a b:Ty)
 | ar (n:Nat) (e:Ty)
def Shp:Ty→List AV→Prop
 | .int k,l=>∃z,l=[.int k z]∧(Lit.int k z).wf=true
 | .flt k,l=>∃b,l=[.flt k b]
 | .bool,l=>∃b,l=[.bool b]
 | .str,l=>∃s:List Nat,l=[.str s]∧s.length<9223372036854775808∧∀c,c∈s→c<256
 | .sl e,l=>l=[.nils]∨∃(x:Bool) (ps:List (List AV)),l=[.vsl x ps.length ps.flatten]∧∀p,p∈ps→Shp e p
 | .nil,l=>l=[]
 | .cat a b,l=>∃x y,l=x++y∧Shp a x∧Shp b y
 | .ar n e,l=>∃ps:List (List AV),ps.length=n∧l=ps.flatten∧∀p,p∈ps→Shp e p
def zej:List (Option Ty)→Option Ty
 | []=>some .nil
 | some a::r=>match zej r with
  | some b=>some (.cat a b)
  | none=>none
 | none::_=>none
def zdb (P:Program):Nat→TypeId→Option Ty
 | 0,_=>none
 | n+1,t=>
  match P.underlying t with
  | some .bool=>some .bool
  | some (.int k)=>some (.int k)
  | some (.float k)=>some (.flt k)
  | some .string=>some .str
  | some (.slice e)=>(zdb P n e).map .sl
  | some (.struct fs)=>zej (fs.toList.map fun f=>zdb P n f.type)
  | some (.array k e)=>(zdb P n e).map (.ar k)
  | _=>none
section
variable {H:Type} {enc:TypeId×Value→H} {P:Program} {w:World} {base:Nat} {sp:Nat→Bool} {held:Bool}
theorem zFV {t:TypeId} {k:FloatKind} {d:DataW H} {n:Nat} (ht:P.underlying t=some (.float k)) (h:Rd enc P w base sp held t d):∃b,avs P (n+1) t d=[.flt k b]:=by
 obtain ⟨fuel,cs,ps,h⟩:=h
 cases fuel with
 | zero=>simp [DataW.trod] at h
 | succ fuel=>
  unfold DataW.trod at h
  split at h
  all_goals first
   | (rename_i hu;rw [ht] at hu;cases hu;done)
   | skip
  ·rename_i k1 k2 z hu;rw [ht] at hu;injection hu with hu
   injection hu with hu
   subst hu
   split at h
   ·simp only [Option.some.injEq,Prod.mk.injEq] at h;obtain ⟨rfl,rfl⟩:=h;exact ⟨z,by simp only [avs,ht]⟩
   ·cases h
  all_goals (cases h;done)
theorem zCd {t:TypeId} {d:DataW H} {n:Nat} (ht:P.underlying t=some .bool) (h:Rd enc P w base sp held t d):∃b,avs P (n+1) t d=[.bool b]:=by
 obtain ⟨fuel,cs,ps,h⟩:=h
 cases fuel with
 | zero=>simp [DataW.trod] at h
 | succ fuel=>
  unfold DataW.trod at h
  split at h
  all_goals first
   | (rename_i hu;rw [ht] at hu;cases hu;done)
   | skip
  ·simp only [Option.some.injEq,Prod.mk.injEq] at h;obtain ⟨rfl,rfl⟩:=h;rename_i b _;exact ⟨b,by simp only [avs,ht]⟩
  all_goals (cases h;done)
theorem zFz {t:TypeId} {d:DataW H} {n:Nat} (ht:P.underlying t=some .string) (h:Rd enc P w base sp held t d):
  ∃s:List Nat,avs P (n+1) t d=[.str s]∧s.length<9223372036854775808∧∀c,c∈s→c<256:=by
 obtain ⟨fuel,cs,ps,h⟩:=h
 cases fuel with
 | zero=>simp [DataW.trod] at h
 | succ fuel=>
  unfold DataW.trod at h
  split at h
  all_goals first
   | (rename_i hu;rw [ht] at hu;cases hu;done)
   | skip
  ·rename_i s hu
   split at h
   ·rename_i hs;simp only [Option.some.injEq,Prod.mk.injEq] at h;obtain ⟨rfl,rfl⟩:=h;refine ⟨_,by simp only [avs,ht];rfl,?_,fun c hc=>?_⟩
    ·simp only [List.length_map,Array.length_toList];have h1:s.size≤9223372036854775807:=hs;have h2:s.data.size=s.size:=rfl;omega
    ·obtain ⟨b,_,rfl⟩:=List.mem_map.1 hc;exact b.toNat_lt
   ·cases h
  all_goals (cases h;done)
theorem zkW {n:Nat} (ih:∀{t:TypeId} {T:Ty} {d:DataW H},zdb P n t=some T→Rd enc P w base sp held t d→Shp T (avs P n t d)):
  ∀(fs:List Field) (ds:List (DataW H)) (T:Ty),zej (fs.map fun f=>zdb P n f.type)=some T→ds.length=fs.length→(∀i (h1:i<fs.length) (h2:i<ds.length),Rd enc P w base sp held fs[i].type ds[i])→
   Shp T ((fs.zip ds).flatMap fun x=>avs P n x.1.type x.2)
 | [],ds,T,hT,_,_=>by
  simp only [List.map_nil,zej,Option.some.injEq] at hT;subst hT;simp [Shp]
 | f::fs,[],T,_,hl,_=>by simp at hl
 | f::fs,d::ds,T,hT,hl,hr=>by
  simp only [List.map_cons] at hT
  cases h1:zdb P n f.type with
  | none=>simp [h1,zej] at hT
  | some a=>
   cases h2:zej (fs.map fun f=>zdb P n f.type) with
   | none=>simp [h1,h2,zej] at hT
   | some b=>
    simp only [h1,h2,zej,Option.some.injEq] at hT;subst hT;simp only [List.zip_cons_cons,List.flatMap_cons];exact ⟨_,_,rfl,ih h1 (hr 0 (by simp) (by simp)),zkW ih fs ds b h2 (by simpa using hl) (fun i h1 h2=>hr (i+1) (by simpa using h1) (by simpa using h2))⟩
theorem zyZ:∀(n:Nat) {t:TypeId} {T:Ty} {d:DataW H},zdb P n t=some T→Rd enc P w base sp held t d→Shp T (avs P n t d)
 | 0,t,T,d,hT,_=>by simp [zdb] at hT
 | n+1,t,T,d,hT,hr=>by
  have ih:=@zyZ n
  cases hu:P.underlying t with
  | none=>simp [zdb,hu] at hT
  | some u=>
   cases u with
   | slice e=>
    simp only [zdb,hu] at hT;obtain ⟨E,hE,rfl⟩:=Option.map_eq_some_iff.1 hT
    rcases zw9 (n:=n) hu hr with h | ⟨x,elems,h,hm⟩
    ·exact .inl h
    ·refine .inr ⟨x,elems.map (avs P n e),by rw [h,List.length_map,List.flatMap_def],fun p hp=>?_⟩;obtain ⟨y,hy,rfl⟩:=List.mem_map.1 hp;exact ih hE (hm y hy)
   | struct fs=>
    simp only [zdb,hu] at hT;obtain ⟨ds,e1,e2,e3⟩:=zuq (n:=n) hu hr;rw [e2];exact zkW ih fs.toList ds T hT e1 e3
   | array k e=>
    simp only [zdb,hu] at hT;obtain ⟨E,hE,rfl⟩:=Option.map_eq_some_iff.1 hT;obtain ⟨ds,e1,e2,e3⟩:=zxu (n:=n) hu hr;refine ⟨ds.map (avs P n e),by simp [e1],by rw [e2,List.flatMap_def],fun p hp=>?_⟩;obtain ⟨y,hy,rfl⟩:=List.mem_map.1 hp;exact ih hE (e3 y hy)
   | int k=>
    simp only [zdb,hu,Option.some.injEq] at hT;subst hT;exact zJ1 hu hr
   | float k=>
    simp only [zdb,hu,Option.some.injEq] at hT;subst hT;exact zFV hu hr
   | bool=>
    simp only [zdb,hu,Option.some.injEq] at hT;subst hT;exact zCd hu hr
   | string=>
    simp only [zdb,hu,Option.some.injEq] at hT;subst hT;exact zFz hu hr
   | _=>simp [zdb,hu] at hT
def ztU:Ty→List AV→AV
 | .nil,l | .cat _ _,l | .ar _ _,l=> .agg l
 | _,l=>l.headD .undef
theorem zt0:∀{l:List (Option Ty)} {T:Ty},zej l=some T→∀x,ztU T x= .agg x
 | [],T,h=>by simp only [zej,Option.some.injEq] at h;subst h;exact fun _=>rfl
 | none::r,T,h=>by simp [zej] at h
 | some a::r,T,h=>by
  cases h1:zej r with
  | none=>simp [zej,h1] at h
  | some b=>
   simp only [zej,h1,Option.some.injEq] at h;subst h;exact fun _=>rfl
theorem zMR {n:Nat} {t:TypeId} {T:Ty} {d:DataW H} (hT:zdb P n t=some T):zdx P n t d=ztU T (avs P n t d):=by
 cases n with
 | zero=>simp [zdb] at hT
 | succ n=>
  cases hu:P.underlying t with
  | none=>simp [zdb,hu] at hT
  | some u=>
   cases u with
   | slice e=>
    simp only [zdb,hu] at hT;obtain ⟨E,hE,rfl⟩:=Option.map_eq_some_iff.1 hT;simp only [zdx,hu,ztU]
   | struct fs=>
    simp only [zdb,hu] at hT;rw [zt0 hT];simp only [zdx,hu]
   | array k e=>
    simp only [zdb,hu] at hT;obtain ⟨E,hE,rfl⟩:=Option.map_eq_some_iff.1 hT;simp only [zdx,hu,ztU]
   | _=>
    simp only [zdb,hu,Option.some.injEq,reduceCtorEq] at hT<;>
    (subst hT
     simp only [zdx,hu,ztU])
def zm7:List Ty→List (List AV)→List AV
 | T::Ts,l::ls=>ztU T l::zm7 Ts ls
 | _,_=>[]
theorem args_shp {n:Nat}:∀{ts:List TypeId} {Ts:List Ty} {vs:List Value} {ds:List (DataW H)} {ps:List MemPlace},(ts.map (zdb P n))=Ts.map some→DataW.TrodAll enc P w base sp held ts vs ds ps→
  ∃ls,All2 Shp Ts ls∧argsAV P n ts ds=zm7 Ts ls∧ds.length=ts.length
 | [],[],[],[],ps,_,_=>⟨[],trivial,rfl,rfl⟩
 | t::ts,T::Ts,v::vs,d::ds,ps,hT,⟨p,q,⟨fuel,h1⟩,h2,_⟩=>by
  simp only [List.map_cons,List.cons.injEq] at hT;obtain ⟨ls,k1,k2,k3⟩:=args_shp hT.2 h2;exact ⟨avs P n t d::ls,⟨zyZ n hT.1 ⟨fuel,_,_,h1⟩,k1⟩,by simp only [argsAV,zm7,k2,zMR hT.1],by simp [k3]⟩
 | [],_::_,_,_,_,h,_=>by simp at h
 | _::_,[],_,_,_,h,_=>by simp at h
 | [],[],_::_,_,_,_,h=>by simp [DataW.TrodAll] at h
 | [],[],[],_::_,_,_,h=>by simp [DataW.TrodAll] at h
 | _::_,_,[],_,_,_,h=>by simp [DataW.TrodAll] at h
 | _::_,_,_::_,[],_,_,h=>by simp [DataW.TrodAll] at h
theorem zIq {α β:Type} {p:α→β→Prop} {a:α}:∀{l:List β},All2 p [a] l→∃x,l=[x]∧p a x
 | [x],h=>⟨x,rfl,h.1⟩
 | [],h=>h.elim
 | _::_::_,h=>h.2.elim
theorem zFo {α β:Type} {p:α→β→Prop} {a b:α}:∀{l:List β},All2 p [a,b] l→∃x y,l=[x,y]∧p a x∧p b y
 | x::l,h=>let ⟨y,h1,h2⟩:=zIq h.2;⟨x,y,by rw [h1],h.1,h2⟩
 | [],h=>h.elim
theorem zHD {α β:Type} {p:α→β→Prop} {a b c:α}:∀{l:List β},All2 p [a,b,c] l→∃x y z,l=[x,y,z]∧p a x∧p b y∧p c z
 | x::l,h=>let ⟨y,z,h1,h2,h3⟩:=zFo h.2;⟨x,y,z,by rw [h1],h.1,h2,h3⟩
 | [],h=>h.elim
end
end VE
end
section
namespace VE
open Go (IntKind)
theorem zuY (p s:Nat):p*(s%1000000000)+p*1000000000*(s/1000000000)=p*s:=by
 rw [Nat.mul_assoc,←Nat.mul_add,Nat.mod_add_div]
theorem zfA {l:List Int} {i:Nat} (h:l.length≤i):l.getD i 0=0:=by
 simp [List.getD_eq_getElem?_getD,List.getElem?_eq_none h]
theorem zwT {a b out:List Int} {i c:Nat} {x y:Int} (hx:x=a.getD i 0) (hy:y=b.getD i 0) (h1:0≤x) (h2:0≤y) (hl:out.length=i) (hv:dv out+1000000000^i*c=dv (a.take i)+dv (b.take i)):
  dv (out++[(((x.toNat+y.toNat+c)%1000000000:Nat):Int)])+1000000000^(i+1)*((x.toNat+y.toNat+c)/1000000000)=dv (a.take (i+1))+dv (b.take (i+1)):=by
 rw [zc8,zc8,za6,hl,←hx,←hy];simp only [dv,Int.toNat_natCast,Nat.mul_zero,Nat.add_zero,Nat.pow_succ]
 have:=zuY (1000000000^i) (x.toNat+y.toNat+c)
 rw [Nat.mul_add,Nat.mul_add] at this;omega
section
variable {P:zN} {L:Lib}
theorem zLV (h302:Has P L 302 zpe) {v w:AV} {a b:List Int} (hv:IsI v a) (hw:IsI w b) (ha:dg a) (hb:dg b) {N:Nat} (la:a.length≤N) (lb:b.length≤N) (lN:N≤20000000000):
  ∀k s,(∃(i c:Nat) (out:List Int),2*(N-i)+c=k∧out.length=i∧c≤1∧dg out∧dv out+1000000000^i*c=dv (a.take i)+dv (b.take i)∧i≤N+1∧(i≤N∨c=0)∧
    ((i=0∧zA [0,1,5,6,7] s=⟨[(0,v),(1,w),(5,.nils),(6,zh c),(7,zh i)],[],0,0⟩)∨
    (0<i∧zA [0,1,5,6,7] s=⟨[(0,v),(1,w),(5,.osl 0 0 i),(6,zh c),(7,zh i)],[(0,.cells true true false 1 (out.map zh))],1,0⟩)))→
   ∃ex s',D P L (.loop [0,1,5,6,7] zdv) s=some (ex,s')∧∃tm out,ex= .exit 0∧dg out∧dv out=dv a+dv b∧out.length≤N+1∧((out=[]∧zc tm 5= .nils∧s'=⟨tm,[],0,0⟩)∨(0<out.length∧zc tm 5= .osl 0 0 out.length∧s'=⟨tm,[(0,.cells true true false 1 (out.map zh))],1,0⟩)):=by
 refine zS (I:=fun k s=>∃(i c:Nat) (out:List Int),2*(N-i)+c=k∧out.length=i∧c≤1∧dg out∧dv out+1000000000^i*c=dv (a.take i)+dv (b.take i)∧i≤N+1∧(i≤N∨c=0)∧
    ((i=0∧s=⟨[(0,v),(1,w),(5,.nils),(6,zh c),(7,zh i)],[],0,0⟩)∨
    (0<i∧s=⟨[(0,v),(1,w),(5,.osl 0 0 i),(6,zh c),(7,zh i)],[(0,.cells true true false 1 (out.map zh))],1,0⟩)))
  (Q:=fun ex s'=>∃tm out,ex= .exit 0∧dg out∧dv out=dv a+dv b∧out.length≤N+1∧((out=[]∧zc tm 5= .nils∧s'=⟨tm,[],0,0⟩)∨(0<out.length∧zc tm 5= .osl 0 0 out.length∧s'=⟨tm,[(0,.cells true true false 1 (out.map zh))],1,0⟩))) ?_
 rintro k s ⟨i,c,out,hk,hlen,hc,hdg,hval,hi,hic,hs⟩;have e1:=zNl h302 hv i;have e2:=zNl h302 hw i;unfold zK at e1 e2;have ga:=zbi ha i;have gb:=zbi hb i;by_cases hgo:i<a.length∨i<b.length∨0<c
 ·left
  obtain ⟨x,hx⟩:∃x,x=a.getD i 0:=⟨_,rfl⟩;obtain ⟨y,hy⟩:∃y,y=b.getD i 0:=⟨_,rfl⟩;rw [←hx] at e1 ga;rw [←hy] at e2 gb;have hstep:=zwT (c:=c) hx hy ga.1 gb.1 hlen hval;obtain ⟨s0,hs0⟩:∃s0,s0=x.toNat+y.toNat+c:=⟨_,rfl⟩;rw [←hs0] at hstep;have hsum:x+y+(c:Int)=(s0:Int):=by omega
  have hs9:s0<2000000000:=by omega
  have hr:((s0:Nat):Int).tmod 1000000000=((s0%1000000000:Nat):Int):=by rw [Int.tmod_eq_emod_of_nonneg (by omega)];rfl
  have hq:((s0:Nat):Int).tdiv 1000000000=((s0/1000000000:Nat):Int):=by rw [Int.tdiv_eq_ediv_of_nonneg (by omega)];rfl
  have hc':s0/1000000000≤1:=by omega
  have hmeas:2*(N-(i+1))+s0/1000000000<k:=by
   by_cases hm:i<N
   ·omega
   ·have:c=1:=by omega
    have hx0:x=0:=by rw [hx];exact zfA (by omega)
    have hy0:y=0:=by rw [hy];exact zfA (by omega)
    subst hx0;subst hy0
    have:s0=1:=by rw [hs0,this];rfl
    subst this;omega
  have hdg':dg (out++[((s0%1000000000:Nat):Int)]):=dg_append.2 ⟨hdg,dg_one.2 (by omega)⟩;have hlen':(out++[((s0%1000000000:Nat):Int)]).length=i+1:=by simp [hlen]
  have hic':i+1≤N∨s0/1000000000=0:=by
   by_cases hm:i<N
   ·exact .inl hm
   ·right
    have:c=1:=by omega
    have hx0:x=0:=by rw [hx];exact zfA (by omega)
    have hy0:y=0:=by rw [hy];exact zfA (by omega)
    subst hx0;subst hy0
    have:s0=1:=by rw [hs0,this];rfl
    subst this;rfl
  have fin:∃s',D P L zdv s=some (.normal,s')∧zA [0,1,5,6,7] s'=⟨[(0,v),(1,w),(5,.osl 0 0 (i+1)),(6,zh (s0/1000000000:Nat)),(7,zh (i+1:Nat))],[(0,.cells true true false 1 ((out++[((s0%1000000000:Nat):Int)]).map zh))],1,0⟩:=by
   have three:((i:Int)<a.length)∨(¬(i:Int)<a.length∧(i:Int)<b.length)∨(¬(i:Int)<a.length∧¬(i:Int)<b.length∧(0:Int)<c):=by omega
   rcases three with t1 | ⟨t1,t2⟩ | ⟨t1,t2,t3⟩
   ·rcases hs with ⟨h0,rfl⟩ | ⟨h0,rfl⟩
    ·subst h0;have hnil:out=[]:=List.eq_nil_of_length_eq_zero hlen;subst hnil
     simp only [go_sem,reduceEqDiff,reduceAdd,reduceMul,reduceLT,reduceLeDiff,Nat.mul_one,zdv,hv.len,hv.frz,hw.frz,t1,e1,e2,ze (n:=x+y) (by omega) (by omega),hsum,ze (n:=(s0:Int)) (by omega) (by omega),zaK _ _ _ (show (1000000000:Int)≠0 by decide),zai _ _ _ (show (1000000000:Int)≠0 by decide),hr,hq,ze (n:=((s0/1000000000:Nat):Int)) (by omega) (by omega),zbX];refine ⟨_,rfl,?_⟩;rw [ze (by omega) (by omega)];simp only [go_sem,reduceEqDiff,reduceAdd,za,zb hv.pu,zd _ hv.pu,zb hw.pu,zd _ hw.pu]<;>rfl
    ·simp only [go_sem,reduceEqDiff,reduceAdd,reduceLeDiff,Nat.mul_one,zdv,hv.len,hv.frz,hw.frz,t1,e1,e2,ze (n:=x+y) (by omega) (by omega),hsum,ze (n:=(s0:Int)) (by omega) (by omega),zaK _ _ _ (show (1000000000:Int)≠0 by decide),hr]
     rw [zcc (ex:=false) (pu:=true) (cs:=out.map zh) (by simp only [go_sem,reduceEqDiff]) (by rw [List.length_map,hlen,Nat.mul_one]) (by omega) (by omega) (by decide) (by simp only [go_sem])]
     simp only [go_sem,reduceEqDiff,reduceAdd,zai _ _ _ (show (1000000000:Int)≠0 by decide),hq,ze (n:=((s0/1000000000:Nat):Int)) (by omega) (by omega)];refine ⟨_,rfl,?_⟩;rw [ze (by omega) (by omega),List.map_append];simp only [go_sem,reduceEqDiff,reduceAdd,za,zb hv.pu,zd _ hv.pu,zb hw.pu,zd _ hw.pu]<;>rfl
   ·rcases hs with ⟨h0,rfl⟩ | ⟨h0,rfl⟩
    ·subst h0;have hnil:out=[]:=List.eq_nil_of_length_eq_zero hlen;subst hnil
     simp only [go_sem,reduceEqDiff,reduceAdd,reduceMul,reduceLT,reduceLeDiff,Nat.mul_one,zdv,hv.len,hv.frz,hw.len,hw.frz,t1,t2,e1,e2,ze (n:=x+y) (by omega) (by omega),hsum,ze (n:=(s0:Int)) (by omega) (by omega),zaK _ _ _ (show (1000000000:Int)≠0 by decide),zai _ _ _ (show (1000000000:Int)≠0 by decide),hr,hq,ze (n:=((s0/1000000000:Nat):Int)) (by omega) (by omega),zbX];refine ⟨_,rfl,?_⟩;rw [ze (by omega) (by omega)];simp only [go_sem,reduceEqDiff,reduceAdd,za,zb hv.pu,zd _ hv.pu,zb hw.pu,zd _ hw.pu]<;>rfl
    ·simp only [go_sem,reduceEqDiff,reduceAdd,reduceLeDiff,Nat.mul_one,zdv,hv.len,hv.frz,hw.len,hw.frz,t1,t2,e1,e2,ze (n:=x+y) (by omega) (by omega),hsum,ze (n:=(s0:Int)) (by omega) (by omega),zaK _ _ _ (show (1000000000:Int)≠0 by decide),hr]
     rw [zcc (ex:=false) (pu:=true) (cs:=out.map zh) (by simp only [go_sem,reduceEqDiff]) (by rw [List.length_map,hlen,Nat.mul_one]) (by omega) (by omega) (by decide) (by simp only [go_sem])]
     simp only [go_sem,reduceEqDiff,reduceAdd,zai _ _ _ (show (1000000000:Int)≠0 by decide),hq,ze (n:=((s0/1000000000:Nat):Int)) (by omega) (by omega)];refine ⟨_,rfl,?_⟩;rw [ze (by omega) (by omega),List.map_append];simp only [go_sem,reduceEqDiff,reduceAdd,za,zb hv.pu,zd _ hv.pu,zb hw.pu,zd _ hw.pu]<;>rfl
   ·rcases hs with ⟨h0,rfl⟩ | ⟨h0,rfl⟩
    ·subst h0;have hnil:out=[]:=List.eq_nil_of_length_eq_zero hlen;subst hnil
     simp only [go_sem,reduceEqDiff,reduceAdd,reduceMul,reduceLT,reduceLeDiff,Nat.mul_one,zdv,hv.len,hv.frz,hw.len,hw.frz,t1,t2,t3,e1,e2,ze (n:=x+y) (by omega) (by omega),hsum,ze (n:=(s0:Int)) (by omega) (by omega),zaK _ _ _ (show (1000000000:Int)≠0 by decide),zai _ _ _ (show (1000000000:Int)≠0 by decide),hr,hq,ze (n:=((s0/1000000000:Nat):Int)) (by omega) (by omega),zbX];refine ⟨_,rfl,?_⟩;rw [ze (by omega) (by omega)];simp only [go_sem,reduceEqDiff,reduceAdd,za,zb hv.pu,zd _ hv.pu,zb hw.pu,zd _ hw.pu]<;>rfl
    ·simp only [go_sem,reduceEqDiff,reduceAdd,reduceLeDiff,Nat.mul_one,zdv,hv.len,hv.frz,hw.len,hw.frz,t1,t2,t3,e1,e2,ze (n:=x+y) (by omega) (by omega),hsum,ze (n:=(s0:Int)) (by omega) (by omega),zaK _ _ _ (show (1000000000:Int)≠0 by decide),hr]
     rw [zcc (ex:=false) (pu:=true) (cs:=out.map zh) (by simp only [go_sem,reduceEqDiff]) (by rw [List.length_map,hlen,Nat.mul_one]) (by omega) (by omega) (by decide) (by simp only [go_sem])]
     simp only [go_sem,reduceEqDiff,reduceAdd,zai _ _ _ (show (1000000000:Int)≠0 by decide),hq,ze (n:=((s0/1000000000:Nat):Int)) (by omega) (by omega)];refine ⟨_,rfl,?_⟩;rw [ze (by omega) (by omega),List.map_append];simp only [go_sem,reduceEqDiff,reduceAdd,za,zb hv.pu,zd _ hv.pu,zb hw.pu,zd _ hw.pu]<;>rfl
  obtain ⟨s',f1,f2⟩:=fin;exact ⟨s',_,f1,hmeas,i+1,s0/1000000000,_,rfl,hlen',hc',hdg',hstep,by omega,hic',.inr ⟨by omega,f2⟩⟩
 ·right
  have hc0:c=0:=by omega
  subst hc0;rw [Nat.mul_zero,Nat.add_zero,List.take_of_length_le (by omega),List.take_of_length_le (by omega)] at hval;rcases hs with ⟨h0,rfl⟩ | ⟨h0,rfl⟩
  ·simp only [go_sem,reduceEqDiff,zdv,hv.len,hw.len,show ¬(i:Int)<a.length by omega,show ¬(i:Int)<b.length by omega,show ¬(0:Int)<((0:Nat):Int) by omega];exact ⟨_,_,rfl,by simp,_,out,rfl,hdg,hval,by omega,.inl ⟨List.eq_nil_of_length_eq_zero (by omega),by simp only [go_sem,reduceEqDiff],rfl⟩⟩
  ·simp only [go_sem,reduceEqDiff,zdv,hv.len,hw.len,show ¬(i:Int)<a.length by omega,show ¬(i:Int)<b.length by omega,show ¬(0:Int)<((0:Nat):Int) by omega];exact ⟨_,_,rfl,by simp,_,out,rfl,hdg,hval,by omega,.inr ⟨by omega,by rw [hlen];simp only [go_sem,reduceEqDiff],rfl⟩⟩
theorem zPC (h:Has P L 295 zCj) (h302:Has P L 302 zpe) {v w:AV} {a b:List Int} (hv:IsI v a) (hw:IsI w b) (ha:dg a) (hb:dg b) (la:a.length≤20000000000) (lb:b.length≤20000000000):
  ∃r out,zK P L 295 [v,w] r∧IsI (shut r) out∧dg out∧dv out=dv a+dv b∧out.length≤max a.length b.length+1:=by
 have goal:∃out,zK P L 295 [v,w] (if out=[] then .nils else .fsl false 1 out.length (out.map zh))∧dg out∧dv out=dv a+dv b∧out.length≤max a.length b.length+1:=by
  unfold zK;rw [zf h];simp only [go_sem,zCj];generalize hq:D P L (.loop [0,1,5,6,7] zdv) _=q;obtain ⟨ex,s,rfl,tm,out,rfl,hd,hval,hl,hs⟩:=z8 hq (zLV (P:=P) (L:=L) h302 hv hw ha hb (N:=max a.length b.length) (by omega) (by omega) (by omega) (2*(max a.length b.length))) ⟨0,0,[],by omega,rfl,by omega,rfl,by simp [dv],by omega,.inr rfl,.inl ⟨rfl,by simp only [go_sem,reduceEqDiff,za,zb hv.pu,zd _ hv.pu,zb hw.pu,zd _ hw.pu]<;>rfl⟩⟩
  refine ⟨out,?_,hd,hval,hl⟩;rcases hs with ⟨h0,h5,rfl⟩ | ⟨h0,h5,rfl⟩
  ·rw [if_pos h0];simp only [go_sem,za,h5]
  ·rw [if_neg (by intro e;subst e;simp at h0)];simp only [go_sem,reduceAdd,za,h5];exact zjR (zjC _ _ _) (by simp) (by decide)
 obtain ⟨out,g1,g2,g3,g4⟩:=goal;refine ⟨_,out,g1,?_,g2,g3,g4⟩
 split
 ·rename_i e;subst e;exact zeL
 ·exact zcd false out
end
end VE
end
section
namespace VE
open Go (IntKind)
section
variable {P:zN} {L:Lib}
theorem zMG (h:Has P L 296 zmp) {v w:AV} {a b:List Int} (hv:IsI v a) (hw:IsI w b) (ha:dg a) (hb:dg b) (na:nz a) (nb:nz b) (la:a.length≤20000000000) (lb:b.length≤20000000000):
  zK P L 296 [v,w] (zh (zbS (dv a) (dv b))):=by
 unfold zK;rw [zf h];by_cases hlen:a.length=b.length
 ·have key:=zS (P:=P) (L:=L) (live:=[0,1,5]) (a:=zgH)
   (I:=fun k st=>∃j:Nat,st=⟨[(0,v),(1,w),(5,zh ((j:Int)-1))],[],0,0⟩∧j≤a.length∧j=k∧a.drop j=b.drop j)
   (Q:=fun ex st=>∃tm ct,st=⟨tm,[],ct,0⟩∧((ex= .ret∧zc tm 4=zh (zbS (dv a) (dv b)))∨(ex= .exit 0∧a=b))) ?_
  ·simp only [go_sem,reduceEqDiff,zmp,hv.len,hw.len,show (a.length:Int)=b.length by omega];generalize hq:D P L (.loop [0,1,5] zgH) _=q;obtain ⟨ex,st,rfl,tm,ct,rfl,h2⟩:=z8 hq (key a.length) ⟨a.length,by
    rw [ze (by omega) (by omega)];rw [hlen]
    simp only [go_sem,reduceEqDiff,za,zb hv.pu,zd _ hv.pu,zb hw.pu,zd _ hw.pu]<;>rfl,Nat.le_refl _,rfl,by rw [List.drop_eq_nil_of_le (Nat.le_refl _),List.drop_eq_nil_of_le (by omega)]⟩
   rcases h2 with ⟨rfl,h2⟩ | ⟨rfl,h2⟩
   ·simp only [go_sem,h2]
   ·simp only [go_sem,za];subst h2;simp [zbS]
  ·rintro k st ⟨j,rfl,hj,rfl,he⟩
   cases j with
   | zero=>
    right
    simp only [go_sem,reduceEqDiff,zgH,show ¬(0:Int)≤((0:Nat):Int)-1 by omega];exact ⟨_,_,rfl,by simp,_,_,rfl,.inr ⟨rfl,by simpa using he⟩⟩
   | succ i=>
    have h1:i<a.length:=by omega
    have h2:i<b.length:=by omega
    have hgt:=zq8 ha hb h1 h2 he;have hlt:=zq8 hb ha h2 h1 he.symm;by_cases c1:a[i]<b[i]
    ·right
     simp only [go_sem,reduceEqDiff,zgH,show ((i+1:Nat):Int)-1=(i:Int) by omega,show (0:Int)≤(i:Int) by omega,hv.ixa h1,hw.ixa h2,c1];refine ⟨_,_,rfl,by simp,_,_,rfl,.inl ⟨rfl,?_⟩⟩;simp only [go_sem];unfold zbS;rw [if_pos (hgt c1)]
    ·by_cases c2:b[i]<a[i]
     ·right
      simp only [go_sem,reduceEqDiff,zgH,show ((i+1:Nat):Int)-1=(i:Int) by omega,show (0:Int)≤(i:Int) by omega,hv.ixa h1,hw.ixa h2,c1,c2];refine ⟨_,_,rfl,by simp,_,_,rfl,.inl ⟨rfl,?_⟩⟩;simp only [go_sem]
      have:=hlt c2
      unfold zbS;rw [if_neg (by omega),if_pos (by omega)]
     ·left
      simp only [go_sem,reduceEqDiff,zgH,show ((i+1:Nat):Int)-1=(i:Int) by omega,show (0:Int)≤(i:Int) by omega,hv.ixa h1,hw.ixa h2,c1,c2];refine ⟨_,i,rfl,by omega,i,?_,by omega,rfl,?_⟩
      ·rw [ze (by omega) (by omega)];simp only [go_sem,reduceEqDiff,za,zb hv.pu,zd _ hv.pu,zb hw.pu,zd _ hw.pu]<;>rfl
      ·rw [List.drop_eq_getElem_cons h1,List.drop_eq_getElem_cons h2,he,show a[i]=b[i] by omega]
 ·by_cases c1:a.length<b.length
  ·have:=zyp ha nb hb c1
   simp only [go_sem,reduceEqDiff,zmp,hv.len,hw.len,show ¬(a.length:Int)=b.length by omega,show (a.length:Int)<b.length by omega];unfold zbS;rw [if_pos this]
  ·have:=zyp hb na ha (show b.length<a.length by omega)
   simp only [go_sem,reduceEqDiff,zmp,hv.len,hw.len,show ¬(a.length:Int)=b.length by omega,show ¬(a.length:Int)<b.length by omega];unfold zbS;rw [if_neg (by omega),if_pos this]
end
end VE
end
