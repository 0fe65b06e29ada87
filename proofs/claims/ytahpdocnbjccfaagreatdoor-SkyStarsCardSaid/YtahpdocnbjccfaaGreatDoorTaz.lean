import Derived.Attr
import Derived.Test.YtahpdocnbjccfaaGreatDoorTay
set_option linter.all false
set_option maxRecDepth 100000
section
namespace VE
open Go (IntKind BinOp UnOp)
section
variable {P:zP} {L:Lib}
structure Has (P:zP) (L:Lib) (n:Nat) (F:Fnc):Prop where
 pure:L.pure n=none
 heap:L.heap n=none
 code:P n=some F
noncomputable def zev (P:zP) (L:Lib) (r:Option (Ex×St)) (b:VC):Option (Ex×St):=match r with | some (.normal,s)=>D P L b s | r=>r
def zhA (id:Nat) (r:Option (Ex×St)):Option (Ex×St):=match r with | some (.exit j,s)=>bif Nat.beq j id then some (.normal,s) else some (.exit j,s) | r=>r
noncomputable def zoM (P:zP) (L:Lib) (live:List Nat) (a:VC) (r:Option (Ex×St)):Option (Ex×St):=match r with | some (.normal,s)=>D P L (.loop live a) s | r=>r
def zzl (r:Option St):Option (Ex×St):=match r with | some s=>some (.normal,s) | none=>none
noncomputable def zq6 (P:zP) (L:Lib) (v:AV) (a b:VC) (s:St):Option (Ex×St):=match v with | .bool t=>bif t then D P L a s else D P L b s | _=>none
theorem zEl (s:St):D P L .skip s=some (.normal,s):=by rw [zgp];rfl
theorem zDL (id:Nat) (s:St):D P L (.exit id) s=some (.exit id,s):=by rw [zgp];rfl
theorem zGT (s:St):D P L .ret s=some (.ret,s):=by rw [zgp];rfl
theorem zGo (live:List Nat) (s:St):D P L (.kp live) s=some (.normal,zE live s):=by rw [zgp];rfl
theorem zKa (ts:List Nat) (s:St):D P L (.fz ts) s=zzl (zfC ts s):=by rw [zgp];rfl
theorem zHY (ops:List ROp) (s:St):D P L (.reg ops) s=zzl (zaN P L (D P L) ops s):=by rw [zgp];rfl
theorem zc6 (a b:VC) (s:St):D P L (.seq a b) s=zev P L (D P L a s) b:=by
 rw [zgp,zgp a]
 simp only [zK,zev]
 cases zK P L (D P L) a s with
 | none=>rfl
 | some q=>
  obtain ⟨e,s1⟩:=q
  cases e with
  | normal=>exact (zgp b s1).symm
  | ret=>rfl
  | exit id=>rfl
theorem zEk (x:X) (a b:VC) (s:St):D P L (.cond x a b) s=zq6 P L (zy s.tm x) a b s:=by
 rw [zgp]
 simp only [zK,zq6]
 cases zy s.tm x with
 | bool t=>
  cases t with
  | true=>exact (zgp a s).symm
  | false=>exact (zgp b s).symm
 | _=>rfl
theorem zIi (id:Nat) (a:VC) (s:St):D P L (.blk id a) s=zhA id (D P L a s):=by
 rw [zgp,zgp a]
 simp only [zK,zhA]
 cases zK P L (D P L) a s with
 | none=>rfl
 | some q=>obtain ⟨e,s1⟩:=q;cases e<;>rfl
theorem zmB (live:List Nat) (a:VC) (s:St):D P L (.loop live a) s=zoM P L live a (D P L a (zE live s)):=by
 rw [zgp,zgp a]
 simp only [zK,zoM]
 cases zK P L (D P L) a (zE live s) with
 | none=>rfl
 | some q=>obtain ⟨e,s1⟩:=q;cases e<;>rfl
theorem zaB (s:St) (b:VC):zev P L (some (.normal,s)) b=D P L b s:=rfl
theorem zze (s:St) (b:VC):zev P L (some (.ret,s)) b=some (.ret,s):=rfl
theorem zyB (id:Nat) (s:St) (b:VC):zev P L (some (.exit id,s)) b=some (.exit id,s):=rfl
theorem zqE (live:List Nat) (a:VC) (s:St):zoM P L live a (some (.normal,s))=D P L (.loop live a) s:=rfl
theorem zzr (live:List Nat) (a:VC) (s:St):zoM P L live a (some (.ret,s))=some (.ret,s):=rfl
theorem zAH (live:List Nat) (a:VC) (id:Nat) (s:St):zoM P L live a (some (.exit id,s))=some (.exit id,s):=rfl
theorem zzW (id:Nat) (s:St):zhA id (some (.normal,s))=some (.normal,s):=rfl
theorem zzg (id:Nat) (s:St):zhA id (some (.ret,s))=some (.ret,s):=rfl
theorem zrg (id:Nat) (s:St):zhA id (some (.exit id,s))=some (.normal,s):=by simp only [zhA,Nat.beq_refl,cond_true]
theorem zAQ {id j:Nat} (s:St) (h:j≠id):zhA id (some (.exit j,s))=some (.exit j,s):=by
 have:Nat.beq j id=false:=by
  cases hq:Nat.beq j id with
  | false=>rfl
  | true=>exact absurd (Nat.eq_of_beq_eq_true hq) h
 simp only [zhA,this,cond_false]
theorem zDZ (s:St):zzl (some s)=some (.normal,s):=rfl
theorem zCW:zzl none=none:=rfl
theorem zyR (a b:VC) (s:St):zq6 P L (.bool true) a b s=D P L a s:=rfl
theorem zz8 (a b:VC) (s:St):zq6 P L (.bool false) a b s=D P L b s:=rfl
noncomputable def zvA (P:zP) (L:Lib) (d:Option Nat) (r:List ROp) (tm:Env) (base:Nat) (q:Res):Option St:=
 match q with | some (v,hp,ct)=>zaN P L (D P L) r ⟨put d v tm,hp,ct,base⟩ | none=>none
noncomputable def zgK (P:zP) (L:Lib) (v:AV) (b:Bool) (d:Option Nat) (o:Op) (r:List ROp) (s:St):Option St:=
 match v with
 | .bool c=>bif c==b then zaN P L (D P L) (⟨d,none,o⟩::r) s else zaN P L (D P L) r ⟨put d (.tup []) s.tm,s.hp,s.ct,s.base⟩
 | .tup []=>zaN P L (D P L) r ⟨put d (.tup []) s.tm,s.hp,s.ct,s.base⟩
 | _=>none
theorem zyE (s:St):zaN P L (D P L) [] s=some s:=rfl
theorem zvB (d:Option Nat) (o:Op) (r:List ROp) (tm:Env) (hp:Hp) (ct base:Nat):
  zaN P L (D P L) (⟨d,none,o⟩::r) ⟨tm,hp,ct,base⟩=zvA P L d r tm base (z9 P L (D P L) tm hp ct o):=by
 simp only [zaN,zvA]
 cases z9 P L (D P L) tm hp ct o<;>rfl
theorem zsK (d:Option Nat) (t:Nat) (b:Bool) (o:Op) (r:List ROp) (tm:Env) (hp:Hp) (ct base:Nat):
  zaN P L (D P L) (⟨d,some (t,b),o⟩::r) ⟨tm,hp,ct,base⟩=zgK P L (zd tm t) b d o r ⟨tm,hp,ct,base⟩:=by
 simp only [zaN,zgK]
 cases zd tm t with
 | bool c=>
  simp only
  cases hc:(c==b) with
  | true=>simp only [cond_true]
  | false=>simp only [cond_false]
 | tup vs=>cases vs<;>rfl
 | _=>rfl
theorem zAT (d:Option Nat) (r:List ROp) (tm:Env) (base:Nat) (v:AV) (hp:Hp) (ct:Nat):zvA P L d r tm base (some (v,hp,ct))=zaN P L (D P L) r ⟨put d v tm,hp,ct,base⟩:=rfl
theorem zGm (i:Nat) (v:AV) (tm:Env):put (some i) v tm=(i,v)::tm:=rfl
theorem zH2 (v:AV) (tm:Env):put none v tm=tm:=rfl
theorem zwj (d:Option Nat) (o:Op) (r:List ROp) (s:St):zgK P L (.bool true) true d o r s=zaN P L (D P L) (⟨d,none,o⟩::r) s:=rfl
theorem zwH (d:Option Nat) (o:Op) (r:List ROp) (s:St):zgK P L (.bool false) false d o r s=zaN P L (D P L) (⟨d,none,o⟩::r) s:=rfl
theorem zwZ (d:Option Nat) (o:Op) (r:List ROp) (tm:Env) (hp:Hp) (ct base:Nat):zgK P L (.bool true) false d o r ⟨tm,hp,ct,base⟩=zaN P L (D P L) r ⟨put d (.tup []) tm,hp,ct,base⟩:=rfl
theorem zuS (d:Option Nat) (o:Op) (r:List ROp) (tm:Env) (hp:Hp) (ct base:Nat):zgK P L (.bool false) true d o r ⟨tm,hp,ct,base⟩=zaN P L (D P L) r ⟨put d (.tup []) tm,hp,ct,base⟩:=rfl
theorem zAZ (b:Bool) (d:Option Nat) (o:Op) (r:List ROp) (tm:Env) (hp:Hp) (ct base:Nat):zgK P L (.tup []) b d o r ⟨tm,hp,ct,base⟩=zaN P L (D P L) r ⟨put d (.tup []) tm,hp,ct,base⟩:=rfl
theorem zaP {j i:Nat} (h:j≠i):Nat.beq j i=false:=by
 cases hq:Nat.beq j i with
 | false=>rfl
 | true=>exact absurd (Nat.eq_of_beq_eq_true hq) h
theorem zDj (tm:Env) (i:Nat):zy tm (.t i)=zd tm i:=rfl
theorem zCI (tm:Env) (v:AV):zy tm (.c v)=v:=rfl
theorem zsh (tm:Env):zaI tm []=[]:=rfl
theorem zpz (tm:Env) (x:X) (r:List X):zaI tm (x::r)=zy tm x::zaI tm r:=rfl
theorem zu4 (i:Nat) (v:AV) (r:Env):zd ((i,v)::r) i=v:=by simp only [zd,Nat.beq_refl,cond_true]
theorem zsq {j i:Nat} (v:AV) (r:Env) (h:j≠i):zd ((j,v)::r) i=zd r i:=by simp only [zd,zaP h,cond_false]
theorem zk7 (i:Nat) (o:Obj) (r:Hp):zA ((i,o)::r) i=some o:=by simp only [zA,Nat.beq_refl,cond_true]
theorem ztL {j i:Nat} (o:Obj) (r:Hp) (h:j≠i):zA ((j,o)::r) i=zA r i:=by simp only [zA,zaP h,cond_false]
theorem zwo (i:Nat) (o u:Obj) (r:Hp):zac ((i,o)::r) i u=(i,u)::r:=by simp only [zac,Nat.beq_refl,cond_true]
theorem ztN {j i:Nat} (o u:Obj) (r:Hp) (h:j≠i):zac ((j,o)::r) i u=(j,o)::zac r i u:=by simp only [zac,zaP h,cond_false]
theorem zwV (i:Nat):hdel [] i=[]:=rfl
theorem zx0 (i:Nat) (o:Obj) (r:Hp):hdel ((i,o)::r) i=hdel r i:=by simp only [hdel,Nat.beq_refl,cond_true]
theorem zs6 {j i:Nat} (o:Obj) (r:Hp) (h:j≠i):hdel ((j,o)::r) i=(j,o)::hdel r i:=by simp only [hdel,zaP h,cond_false]
def rd (hp:Hp) (ct:Nat) (q:Option AV):Res:=match q with | some v=>some (v,hp,ct) | none=>none
def mk (hp:Hp) (ct:Nat) (q:Option (AV×Obj)):Res:=match q with | some (v,b)=>some (v,(ct,b)::hp,ct+1) | none=>none
theorem zKg (hp:Hp) (ct:Nat) (v:AV):rd hp ct (some v)=some (v,hp,ct):=rfl
theorem zJE (hp:Hp) (ct:Nat) (v:AV) (b:Obj):mk hp ct (some (v,b))=some (v,(ct,b)::hp,ct+1):=rfl
def zuM (c a b:AV):Option AV:=match c with | .bool t=>some (bif t then a else b) | _=>none
def asO (k:Nat→Option AV) (n:Option Nat):Option AV:=match n with | some i=>k i | none=>none
def zA0 (r:Option (List AV)):Option AV:=match r with | some cs=>some (.agg cs) | none=>none
def zxn (ne:Bool) (r:Option Bool):Option AV:=match r with | some b=>some (.bool (ne !=b)) | none=>none
def zKq:AV→Option AV
 | .ptr id o=>some (.ptr id o)
 | .vptr cs=>some (.vptr cs)
 | .fn f a b=>some (.fn f a b)
 | _=>none
def zvI (i:Nat):AV→Option AV | .tup vs=>vs[i]? | _=>none
section
variable {f:Run} {tm:Env} {hp:Hp} {ct:Nat}
theorem zCD (x:X):z9 P L f tm hp ct (.mov x)=some (zy tm x,hp,ct):=rfl
theorem zAU (c a b:X):z9 P L f tm hp ct (.pick c a b)=rd hp ct (zuM (zy tm c) (zy tm a) (zy tm b)):=by
 rfl
theorem zxt (z:List AV) (ps:List (Nat×Nat×X)):z9 P L f tm hp ct (.mkagg z ps)=rd hp ct (zA0 (fill tm z ps)):=by
 rfl
theorem zHn (sz:Nat) (ag:Bool) (x:X):z9 P L f tm hp ct (.ld sz ag x)=rd hp ct (ze2 hp sz ag (zy tm x)):=rfl
theorem zyQ (x:X):z9 P L f tm hp ct (.nilc x)=rd hp ct (zKq (zy tm x)):=by
 rfl
theorem zFx (op:BinOp) (x y:X):z9 P L f tm hp ct (.bin op x y)=rd hp ct (binOp op (zy tm x) (zy tm y)):=rfl
theorem zF3 (ne:Bool) (k:EqK) (x y:X):z9 P L f tm hp ct (.eq ne k x y)=rd hp ct (zxn ne (zeo k (zy tm x) (zy tm y))):=by
 rfl
theorem zGe (op:UnOp) (x:X):z9 P L f tm hp ct (.un op x)=rd hp ct (unOp op (zy tm x)):=rfl
theorem zGi (k:Conv) (x:X):z9 P L f tm hp ct (.cv k x)=rd hp ct (zji k (zy tm x)):=rfl
theorem zFw (g:Fr) (a b:List X):z9 P L f tm hp ct (.mkf g a b)=some (.fn g (zaI tm a) (zaI tm b),hp,ct):=rfl
theorem zFz (k:Cut) (x:X) (lo hi:Option X):z9 P L f tm hp ct (.sli k x lo hi)=rd hp ct (zbq hp k (zy tm x) tm lo hi):=rfl
theorem zCB (k:Nat) (x:X):z9 P L f tm hp ct (.off k x)=rd hp ct (znP k (zy tm x)):=rfl
theorem zC3 (o sz:Nat) (ag:Bool) (x:X):z9 P L f tm hp ct (.fld o sz ag x)=rd hp ct (zrD o sz ag (zy tm x)):=rfl
theorem zE4 (sz:Nat) (x i:X):z9 P L f tm hp ct (.ixa sz x i)=rd hp ct (asO (fun j=>zdF sz j (zy tm x)) (zaO (zy tm i))):=by
 rfl
theorem zDD (n sz:Nat) (x i:X):z9 P L f tm hp ct (.ixp n sz x i)=rd hp ct (asO (fun j=>zrJ n sz j (zy tm x)) (zaO (zy tm i))):=by
 rfl
theorem zC5 (x i:X):z9 P L f tm hp ct (.ixs x i)=rd hp ct (asO (fun j=>zeD j (zy tm x)) (zaO (zy tm i))):=by
 rfl
theorem zCA (n sz:Nat) (ag:Bool) (x i:X):z9 P L f tm hp ct (.ixv n sz ag x i)=rd hp ct (asO (fun j=>zq5 n sz ag j (zy tm x)) (zaO (zy tm i))):=by
 rfl
theorem zEK (i:Nat) (x:X):z9 P L f tm hp ct (.ext i x)=rd hp ct (zvI i (zy tm x)):=by
 rfl
theorem zEw (k:Nat) (x:X):z9 P L f tm hp ct (.len k x)=rd hp ct (zcp hp k (zy tm x)):=rfl
theorem zE8 (sz:Nat) (x:X):z9 P L f tm hp ct (.box sz x)=mk hp ct (zab tm hp ct (.box sz x)):=rfl
theorem zyz (n sz:Nat) (z:List AV) (ps:List (Nat×Nat×X)):z9 P L f tm hp ct (.mksl n sz z ps)=mk hp ct (zab tm hp ct (.mksl n sz z ps)):=rfl
theorem zFh (sz by':Nat) (z:List AV) (l c:X):z9 P L f tm hp ct (.mks sz by' z l c)=mk hp ct (zab tm hp ct (.mks sz by' z l c)):=rfl
theorem zEA:z9 P L f tm hp ct .mkm=some (.map ct,(ct,.mp true [] [])::hp,ct+1):=rfl
theorem zFk (x:X):z9 P L f tm hp ct (.rng x)=mk hp ct (zab tm hp ct (.rng x)):=rfl
theorem zIh (sz:Nat) (x v:X):z9 P L f tm hp ct (.st sz x v)=zY tm hp ct (.st sz x v):=rfl
theorem zEV (sz by':Nat) (s x:X):z9 P L f tm hp ct (.app sz by' s x)=zY tm hp ct (.app sz by' s x):=rfl
def zq9 (hp:Hp) (ct:Nat) (r:Option AV):Res:=match r with | some v=>some (shut v,hp,ct) | none=>none
def zz3 (hp:Hp) (ct:Nat) (r:Option AV):Res:=match r with | some v=>some (own hp ct v) | none=>none
def zvR (P:zP) (L:Lib) (f:Run) (ct n:Nat) (q:Option (List AV×Hp)):Res:=match q with | some (vals,hp)=>zq9 hp ct (zx P L f n vals) | none=>none
def zwO (P:zP) (L:Lib) (f:Run) (ct n:Nat) (q:Option (List AV×Hp)):Res:=match q with | some (vals,hp)=>zz3 hp ct (zx P L f n vals) | none=>none
def zxH (P:zP) (L:Lib) (f:Run) (hp:Hp) (ct:Nat) (fv:AV) (xs:List AV):Res:=zaD P L f hp ct .pure fv xs
def zvw (P:zP) (L:Lib) (f:Run) (hp:Hp) (ct:Nat) (fv:AV) (xs:List AV):Res:=zaD P L f hp ct .own fv xs
theorem zt6 (g:X) (xs:List X):z9 P L f tm hp ct (.call .pure g xs)=zxH P L f hp ct (zy tm g) (zaI tm xs):=rfl
theorem zxm (g:X) (xs:List X):z9 P L f tm hp ct (.call .own g xs)=zvw P L f hp ct (zy tm g) (zaI tm xs):=rfl
theorem zxf (g:X) (xs:List X):z9 P L f tm hp ct (.call .heap g xs)=zaD P L f hp ct .heap (zy tm g) (zaI tm xs):=rfl
theorem zAG (n:Nat) (first cap xs:List AV):zxH P L f hp ct (.fn (.f n) first cap) xs=zvR P L f ct n (zR zcl hp (first++(xs++cap))):=by
 simp only [zxH,zaD,zvR,zq9]
 cases zR zcl hp (first++(xs++cap)) with
 | none=>rfl
 | some q=>cases zx P L f n q.1<;>rfl
theorem zAS (n:Nat) (first cap xs:List AV):zvw P L f hp ct (.fn (.f n) first cap) xs=zwO P L f ct n (zR zcl hp (first++(xs++cap))):=by
 simp only [zvw,zaD,zwO,zz3]
 cases zR zcl hp (first++(xs++cap)) with
 | none=>rfl
 | some q=>cases zx P L f n q.1<;>rfl
theorem zyN (n:Nat) (vals:List AV):zvR P L f ct n (some (vals,hp))=zq9 hp ct (zx P L f n vals):=rfl
theorem zzJ (n:Nat) (vals:List AV):zwO P L f ct n (some (vals,hp))=zz3 hp ct (zx P L f n vals):=rfl
theorem zAB (v:AV):zq9 hp ct (some v)=some (shut v,hp,ct):=rfl
theorem zEo (v:AV):zz3 hp ct (some v)=some (own hp ct v):=rfl
def zzs (hp:Hp) (r:Option AV):Option AV:=match r with | some v=>zaR hp v | none=>none
def zdl (rs:List RV) (q:Option (Ex×St)):Option AV:=
 match q with
 | some (.normal,s) | some (.ret,s)=>zzs s.hp (zaw s rs)
 | _=>none
theorem zc {n:Nat} {F:Fnc} (h:Has P L n F) (vals:List AV):zx P L f n vals=zdl F.res (f F.body ⟨zak 0 vals,[],0,0⟩):=by
 simp only [zx,h.pure,h.code]
 cases hq:f F.body ⟨zak 0 vals,[],0,0⟩ with
 | none=>rfl
 | some q=>
  obtain ⟨e,s⟩:=q
  cases e with
  | normal=>rfl
  | ret=>rfl
  | exit id=>rfl
theorem zD0 (rs:List RV) (s:St):zdl rs (some (.normal,s))=zzs s.hp (zaw s rs):=rfl
theorem zFb (rs:List RV) (s:St):zdl rs (some (.ret,s))=zzs s.hp (zaw s rs):=rfl
theorem zCS (v:AV):zzs hp (some v)=zaR hp v:=rfl
theorem zCU (r:RV) (s:St):zaw s [r]=zbK s r:=by
 simp only [zaw,zbf]
 cases zbK s r<;>rfl
def zHm (r:Option (List AV)):Option AV:=match r with | some vs=>some (.tup vs) | none=>none
theorem zJ5 (r q:RV) (l:List RV) (s:St):zaw s (r::q::l)=zHm (zbf s (r::q::l)):=by
 simp only [zaw,zbf]
 cases zbK s r<;>cases zbK s q<;>cases zbf s l<;>rfl
def zBO (r:Option AV) (l:Option (List AV)):Option (List AV):=match r,l with | some v,some vs=>some (v::vs) | _,_=>none
theorem zvp (s:St):zbf s []=some []:=rfl
theorem zs2 (r:RV) (l:List RV) (s:St):zbf s (r::l)=zBO (zbK s r) (zbf s l):=rfl
theorem zyG (v:AV) (vs:List AV):zBO (some v) (some vs)=some (v::vs):=rfl
theorem zDM (vs:List AV):zHm (some vs)=some (.tup vs):=rfl
theorem zxO (i:Nat) (s:St):zbK s (.t i)=some (zd s.tm i):=rfl
theorem zId (a:AV):zak 0 [a]=[(0,a)]:=rfl
theorem zHh (a b:AV):zak 0 [a,b]=[(0,a),(1,b)]:=rfl
theorem zHE (a b c:AV):zak 0 [a,b,c]=[(0,a),(1,b),(2,c)]:=rfl
theorem zHi (a b c d:AV):zak 0 [a,b,c,d]=[(0,a),(1,b),(2,c),(3,d)]:=rfl
theorem zGR (a b c d e:AV):zak 0 [a,b,c,d,e]=[(0,a),(1,b),(2,c),(3,d),(4,e)]:=rfl
theorem zpH (k:IntKind) (n:Int):zaR hp (.int k n)=some (.int k n):=rfl
theorem znU (b:Bool):zaR hp (.bool b)=some (.bool b):=rfl
theorem zpO (s:List Nat):zaR hp (.str s)=some (.str s):=rfl
theorem zoy:zaR hp .nils=some .nils:=rfl
theorem zpr (e:Bool) (n:Nat) (cs:List AV):zaR hp (.vsl e n cs)=some (.vsl e n cs):=rfl
theorem zvf (k:IntKind) (n:Int):shut (.int k n)= .int k n:=rfl
theorem zsX (b:Bool):shut (.bool b)= .bool b:=rfl
theorem zvo (s:List Nat):shut (.str s)= .str s:=rfl
theorem zsl:shut .nils= .nils:=rfl
theorem zxL (e:Bool) (n:Nat) (cs:List AV):shut (.vsl e n cs)= .vsl e n cs:=rfl
theorem zxA (e:Bool) (sz n:Nat) (cs:List AV):shut (.fsl e sz n cs)= .vsl e n cs:=rfl
theorem zk (cs:List AV):shut (.agg cs)= .agg cs:=rfl
theorem zys (g:Fr) (a b:List AV):shut (.fn g a b)= .fn g a b:=rfl
theorem zwk (vs:List AV):shut (.tup vs)= .tup (zhk vs):=rfl
theorem zsw:zhk []=[]:=rfl
theorem zpk (v:AV) (r:List AV):zhk (v::r)=shut1 v::zhk r:=rfl
theorem zti (k:IntKind) (n:Int):shut1 (.int k n)= .int k n:=rfl
theorem zqk (b:Bool):shut1 (.bool b)= .bool b:=rfl
theorem zr2 (s:List Nat):shut1 (.str s)= .str s:=rfl
theorem zpl:shut1 .nils= .nils:=rfl
theorem zr8 (e:Bool) (n:Nat) (cs:List AV):shut1 (.vsl e n cs)= .vsl e n cs:=rfl
theorem zts (e:Bool) (sz n:Nat) (cs:List AV):shut1 (.fsl e sz n cs)= .vsl e n cs:=rfl
theorem zbO (cs:List AV):shut1 (.agg cs)= .agg cs:=rfl
def zEZ (n:Nat) (r:List AV) (q:Option (AV×Hp)):Option (List AV×Hp):=match q with | some (v,hp)=>(match zR n hp r with | some (vs,hp2)=>some (v::vs,hp2) | none=>none) | none=>none
def zGq (v:AV) (q:Option (List AV×Hp)):Option (List AV×Hp):=match q with | some (vs,hp)=>some (v::vs,hp) | none=>none
theorem zvr (n:Nat):zR (n+1) hp []=some ([],hp):=rfl
theorem zsG (n:Nat) (v:AV) (r:List AV):zR (n+1) hp (v::r)=zEZ n r (zai n hp v):=by
 simp only [zR,zEZ];cases zai n hp v<;>rfl
theorem zER (n:Nat) (r:List AV) (v:AV):zEZ n r (some (v,hp))=zGq v (zR n hp r):=by
 rfl
theorem zDp (v:AV) (vs:List AV):zGq v (some (vs,hp))=some (v::vs,hp):=rfl
theorem zzd (n:Nat) (k:IntKind) (a:Int):zai (n+1) hp (.int k a)=some (.int k a,hp):=rfl
theorem zxj (n:Nat) (b:Bool):zai (n+1) hp (.bool b)=some (.bool b,hp):=rfl
theorem zzj (n:Nat) (s:List Nat):zai (n+1) hp (.str s)=some (.str s,hp):=rfl
theorem zv4 (n:Nat):zai (n+1) hp .nils=some (.nils,hp):=rfl
theorem zyp (n:Nat) (e:Bool) (k:Nat) (cs:List AV):zai (n+1) hp (.vsl e k cs)=some (.vsl e k cs,hp):=rfl
theorem zxR (n:Nat) (cs:List AV):zai (n+1) hp (.vptr cs)=some (.vptr cs,hp):=rfl
end
end
section
variable {hp:Hp}
theorem zDQ (a b:AV):zuM (.bool true) a b=some a:=rfl
theorem zFi (a b:AV):zuM (.bool false) a b=some b:=rfl
theorem zHg (k:Nat→Option AV) (n:Nat):asO k (some n)=k n:=rfl
theorem zqq (k:IntKind) (n:Nat):zaO (.int k (n:Int))=some n:=rfl
theorem zEm (k:IntKind):zaO (.int k 0)=some 0:=rfl
theorem zCL (k:IntKind):zaO (.int k 1)=some 1:=rfl
theorem zEO (k:IntKind):zaO (.int k 2)=some 2:=rfl
theorem zCZ (k:IntKind):zaO (.int k 3)=some 3:=rfl
theorem zDr (k:IntKind):zaO (.int k 4)=some 4:=rfl
theorem zDF (k:IntKind):zaO (.int k 5)=some 5:=rfl
theorem zFf (k:IntKind):zaO (.int k 6)=some 6:=rfl
theorem zDg (k:IntKind):zaO (.int k 7)=some 7:=rfl
theorem zCE (k:IntKind):zaO (.int k 8)=some 8:=rfl
theorem zEB (k:IntKind):zaO (.int k 9)=some 9:=rfl
theorem zzB (cs:List AV):zA0 (some cs)=some (.agg cs):=rfl
theorem zq2 (k:IntKind) (a b:Int):binOp .add (.int k a) (.int k b)=some (.int k (k.wrap (a+b))):=by simp [binOp,zdP]
theorem zjB (k:IntKind) (a b:Int):binOp .sub (.int k a) (.int k b)=some (.int k (k.wrap (a-b))):=by simp [binOp,zdP]
theorem zrt (k:IntKind) (a b:Int):binOp .mul (.int k a) (.int k b)=some (.int k (k.wrap (a*b))):=by simp [binOp,zdP]
theorem zaA (k:IntKind) (a b:Int) (h:b≠0):binOp .quo (.int k a) (.int k b)=some (.int k (k.wrap (a.tdiv b))):=by simp [binOp,zdP,h]
theorem zaC (k:IntKind) (a b:Int) (h:b≠0):binOp .rem (.int k a) (.int k b)=some (.int k (a.tmod b)):=by simp [binOp,zdP,h]
theorem zzD (k:IntKind) (a b:Int):binOp .eql (.int k a) (.int k b)=some (.bool (decide (a=b))):=by
 simp [binOp,zdP,intCmp,BEq.beq]
theorem zyW (k:IntKind) (a b:Int):binOp .neq (.int k a) (.int k b)=some (.bool (!decide (a=b))):=by
 simp [binOp,zdP,intCmp,bne,BEq.beq]
theorem zAy (k:IntKind) (a b:Int):binOp .lss (.int k a) (.int k b)=some (.bool (decide (a<b))):=by simp [binOp,zdP,intCmp]
theorem zzP (k:IntKind) (a b:Int):binOp .leq (.int k a) (.int k b)=some (.bool (decide (a≤b))):=by simp [binOp,zdP,intCmp]
theorem zzo (k:IntKind) (a b:Int):binOp .gtr (.int k a) (.int k b)=some (.bool (decide (b<a))):=by simp [binOp,zdP,intCmp]
theorem zAm (k:IntKind) (a b:Int):binOp .geq (.int k a) (.int k b)=some (.bool (decide (b≤a))):=by simp [binOp,zdP,intCmp]
theorem zEQ (k:IntKind) (a:Int):unOp .neg (.int k a)=some (.int k (k.wrap (0-a))):=rfl
theorem zDY (b:Bool):unOp .not (.bool b)=some (.bool !b):=rfl
theorem zwQ:zcp hp 1 .nils=some (.int .i64 0):=rfl
theorem zAM (e:Bool) (n:Nat) (cs:List AV):zcp hp 1 (.vsl e n cs)=some (.int .i64 n):=rfl
theorem zyC (id o n:Nat):zcp hp 1 (.osl id o n)=some (.int .i64 n):=rfl
theorem zy3 (s:List Nat):zcp hp 0 (.str s)=some (.int .i64 s.length):=rfl
theorem zqX {sz i n:Nat} (e:Bool) (cs:List AV) (h:i<n):zdF sz i (.vsl e n cs)=some (.vptr (cs.drop (i*sz))):=by
 have hb:Nat.blt i n=true:=Nat.ble_eq_true_of_le h
 simp only [zdF]
 rw [hb]
 rfl
theorem z5 {sz i n:Nat} (id o:Nat) (h:i<n):zdF sz i (.osl id o n)=some (.ptr id (o+i*sz)):=by
 have hb:Nat.blt i n=true:=Nat.ble_eq_true_of_le h
 simp only [zdF]
 rw [hb]
 rfl
theorem zhQ (v:AV) (cs:List AV):ze2 hp 1 false (.vptr (v::cs))=some v:=rfl
def ldC (sz:Nat) (ag:Bool) (o:Nat) (q:Option Obj):Option AV:=match q with | some (.cells _ _ _ _ cs)=>ld1 sz ag (cs.drop o) | _=>none
theorem zE7 (sz:Nat) (ag:Bool) (id o:Nat):ze2 hp sz ag (.ptr id o)=ldC sz ag o (zA hp id):=by
 rfl
theorem zG3 (sz:Nat) (ag:Bool) (o:Nat) (rw pu ex:Bool) (z:Nat) (cs:List AV):ldC sz ag o (some (.cells rw pu ex z cs))=ld1 sz ag (cs.drop o):=rfl
theorem zFW (sz:Nat) (v:AV) (cs:List AV):ld1 sz false (v::cs)=some v:=rfl
theorem zKj (a:AV) (l:List AV):zvI 0 (.tup (a::l))=some a:=rfl
theorem zJ6 (a b:AV) (l:List AV):zvI 1 (.tup (a::b::l))=some b:=rfl
theorem zJv (a b c:AV) (l:List AV):zvI 2 (.tup (a::b::c::l))=some c:=rfl
theorem zJn (a b c d:AV) (l:List AV):zvI 3 (.tup (a::b::c::d::l))=some d:=rfl
end
def zhm:Env→Bool
 | []=>true
 | (_,v)::r=>zD v&&zhm r
mutual
theorem zb:∀{v:AV},zD v=true→zcK v=[]
 | .int _ _,_ | .bool _,_ | .flt _ _,_ | .str _,_ | .nilp,_ | .vptr _,_ | .nils,_ | .vsl _ _ _,_ | .nilf,_ | .nilm,_ | .vmap _ _,_ | .undef,_=>rfl
 | .ptr _ _,h | .osl _ _ _,h | .map _,h | .it _,h | .fsl _ _ _ _,h=>by simp [zD] at h
 | .fn (.y _) _ _,h=>by simp [zD] at h
 | .fn (.f _) first cap,h=>by
  simp only [zD,Bool.and_eq_true] at h
  simp only [zcK,zeg h.1,zeg h.2,List.append_nil]
 | .agg cs,h=>by simp only [zD] at h;simp only [zcK,zeg h]
 | .tup cs,h=>by simp only [zD] at h;simp only [zcK,zeg h]
theorem zeg:∀{vs:List AV},zu vs=true→zcE vs=[]
 | [],_=>rfl
 | v::r,h=>by
  simp only [zu,Bool.and_eq_true] at h
  simp only [zcE,zb h.1,zeg h.2,List.append_nil]
end
mutual
theorem ze (f:Nat→Option Nat):∀{v:AV},zD v=true→ren f v=v
 | .int _ _,_ | .bool _,_ | .flt _ _,_ | .str _,_ | .nilp,_ | .vptr _,_ | .nils,_ | .vsl _ _ _,_ | .nilf,_ | .nilm,_ | .vmap _ _,_ | .undef,_=>rfl
 | .ptr _ _,h | .osl _ _ _,h | .map _,h | .it _,h | .fsl _ _ _ _,h=>by simp [zD] at h
 | .fn (.y _) _ _,h=>by simp [zD] at h
 | .fn (.f _) first cap,h=>by
  simp only [zD,Bool.and_eq_true] at h
  simp only [ren,zeM f h.1,zeM f h.2]
 | .agg cs,h=>by simp only [zD] at h;simp only [ren,zeM f h]
 | .tup cs,h=>by simp only [zD] at h;simp only [ren,zeM f h]
theorem zeM (f:Nat→Option Nat):∀{vs:List AV},zu vs=true→zc3 f vs=vs
 | [],_=>rfl
 | v::r,h=>by
  simp only [zu,Bool.and_eq_true] at h
  simp only [zc3,ze f h.1,zeM f h.2]
end
theorem zjW:∀{tm:Env},zhm tm=true→zcF tm=[]
 | [],_=>rfl
 | (i,v)::r,h=>by
  simp only [zhm,Bool.and_eq_true] at h
  simp only [zcF,zb h.1,zjW h.2,List.append_nil]
theorem zlG (f:Nat→Option Nat):∀{tm:Env},zhm tm=true→zfI f tm=tm
 | [],_=>rfl
 | (i,v)::r,h=>by
  simp only [zhm,Bool.and_eq_true] at h
  simp only [zfI,ze f h.1,zlG f h.2]
theorem zdZ {live:List Nat} {tm:Env} {ct:Nat} (h:zhm (keep tm live)=true):zE live ⟨tm,[],ct,0⟩=⟨keep tm live,[],0,0⟩:=by
 simp only [zE,zjW h,za8,List.append_nil]
 simp only [zfE,zdr,zd8,zlG _ h,List.length_nil,Nat.add_zero]
theorem znA {tm:Env} {ct:Nat}:zE [] ⟨tm,[],ct,0⟩=⟨[],[],0,0⟩:=rfl
theorem zfY {P:zP} {L:Lib} {live:List Nat} {a:VC} (I:Nat→St→Prop) (Q:Ex→St→Prop)
  (step:∀k s,I k s→(∃s' k',D P L a (zE live s)=some (.normal,s')∧k'<k∧I k' s')∨(∃ex s',D P L a (zE live s)=some (ex,s')∧ex≠.normal∧Q ex s')):
  ∀k s,I k s→∃ex s',D P L (.loop live a) s=some (ex,s')∧Q ex s':=by
 intro k
 induction k using Nat.strongRecOn with
 | _ k ih=>
  intro s hI
  rw [zmB]
  rcases step k s hI with ⟨s',k',h1,h2,h3⟩ | ⟨ex,s',h1,h2,h3⟩
  ·rw [h1,zqE];exact ih k' h2 s' h3
  ·rw [h1]
   cases ex with
   | normal=>exact absurd rfl h2
   | ret=>exact ⟨.ret,s',rfl,h3⟩
   | exit id=>exact ⟨.exit id,s',rfl,h3⟩
theorem zM {P:zP} {L:Lib} {live:List Nat} {a:VC} (I:Nat→St→Prop) (Q:Ex→St→Prop)
  (step:∀k s,I k s→(∃s' k',D P L a s=some (.normal,s')∧k'<k∧I k' (zE live s'))∨(∃ex s',D P L a s=some (ex,s')∧ex≠.normal∧Q ex s')):
  ∀k s,I k (zE live s)→∃ex s',D P L (.loop live a) s=some (ex,s')∧Q ex s':=
 zfY (fun k s=>I k (zE live s)) Q (fun k s h=>step k _ h)
theorem zW {P:zP} {L:Lib} {c:VC} {s:St} {q:Option (Ex×St)} {I:St→Prop} {Q:Ex→St→Prop} (hq:D P L c s=q) (key:∀s,I s→∃ex s',D P L c s=some (ex,s')∧Q ex s') (hI:I s):
  ∃ex s',q=some (ex,s')∧Q ex s':=by
 rw [←hq];exact key s hI
theorem zxE (tm:Env):keep tm []=[]:=rfl
theorem zsI (tm:Env) (i:Nat) (r:List Nat):keep tm (i::r)=(i,zd tm i)::keep tm r:=rfl
theorem zsT:zhm []=true:=rfl
theorem zpc (i:Nat) (v:AV) (r:Env):zhm ((i,v)::r)=(zD v&&zhm r):=rfl
theorem zpv (k:IntKind) (n:Int):zD (.int k n)=true:=(rfl)
theorem zAV (b:Bool):zD (.bool b)=true:=(rfl)
theorem zC8 (s:List Nat):zD (.str s)=true:=(rfl)
theorem zyr:zD .nils=true:=(rfl)
theorem zDa (e:Bool) (n:Nat) (cs:List AV):zD (.vsl e n cs)=true:=(rfl)
theorem zzw (cs:List AV):zD (.vptr cs)=true:=(rfl)
theorem zvu:zD .undef=true:=(rfl)
attribute [go_sem] zcl znA zxE zsI zsT zpc zpv zAV zC8 zyr zDa zzw zvu Bool.and_true Bool.true_and
attribute [go_sem] zEl zDL zGT zGo zKa zHY zc6 zEk zIi zaB zze zyB zqE zzr zAH zzW zzg zrg zAQ zDZ zCW zyR zz8
 zyE zvB zsK zAT zGm zH2 zwj zwH zwZ zuS zAZ zDj zCI zsh zpz zu4 zsq zk7 ztL zwo ztN zwV zx0 zs6
 zKg zJE zCD zAU zxt zHn zyQ zFx zF3 zGe zGi zFw zFz zCB zC3 zE4 zDD zC5 zCA zEK zEw zE8 zyz zFh zEA zFk zIh zEV zt6 zxm zxf
 zAG zAS zyN zzJ zAB zEo zD0 zFb zCS zCU zJ5 zvp zs2 zyG zDM zxO zId zHh zHE zHi zGR
 zpH znU zpO zoy zpr zvf zsX zvo zsl zxL zxA zk zys zwk zsw zpk zti zqk zr2 zpl zr8 zts zbO
 zvr zsG zER zDp zzd zxj zzj zv4 zyp zxR
 zDQ zFi zHg zqq zEm zCL zEO zCZ zDr zDF zFf zDg zCE zEB zzB zq2 zjB zrt zzD zyW zAy zzP zzo zAm zEQ zDY zwQ zAM zyC zy3 zhQ zE7 zG3 zFW zKj zJ6 zJv zJn
 List.nil_append List.append_nil List.cons_append decide_true decide_false Bool.not_true Bool.not_false ne_eq not_false_eq_true
end VE
end
section
namespace VE
open Go (IntKind)
abbrev zf (n:Int):AV:= .int .i64 n
def IsL (v:AV) (cs:List AV):Prop:=(v= .nils∧cs=[])∨∃e,v= .vsl e cs.length cs
section
variable {v:AV} {cs:List AV} {hp:Hp}
theorem IsL.len (h:IsL v cs) {hp:Hp}:zcp hp 1 v=some (.int .i64 (cs.length:Nat)):=by
 rcases h with ⟨rfl,rfl⟩ | ⟨e,rfl⟩<;>rfl
theorem IsL.pu (h:IsL v cs):zD v=true:=by
 rcases h with ⟨rfl,rfl⟩ | ⟨e,rfl⟩<;>rfl
theorem IsL.frz (h:IsL v cs) (n:Nat) {hp:Hp}:zai (n+1) hp v=some (v,hp):=by
 rcases h with ⟨rfl,rfl⟩ | ⟨e,rfl⟩<;>rfl
theorem IsL.shut (h:IsL v cs):shut v=v:=by
 rcases h with ⟨rfl,rfl⟩ | ⟨e,rfl⟩<;>rfl
theorem IsL.shut1 (h:IsL v cs):shut1 v=v:=by
 rcases h with ⟨rfl,rfl⟩ | ⟨e,rfl⟩<;>rfl
theorem IsL.res (h:IsL v cs) {hp:Hp}:zaR hp v=some v:=by
 rcases h with ⟨rfl,rfl⟩ | ⟨e,rfl⟩<;>rfl
theorem IsL.ixa (h:IsL v cs) {i:Nat} (hi:i<cs.length):zdF 1 i v=some (.vptr (cs[i]::cs.drop (i+1))):=by
 rcases h with ⟨rfl,rfl⟩ | ⟨e,rfl⟩
 ·exact absurd hi (Nat.not_lt_zero i)
 ·rw [zqX e _ hi,Nat.mul_one,List.drop_eq_getElem_cons hi]
theorem IsL.one (h:IsL v cs):zX v=true:=by
 rcases h with ⟨rfl,rfl⟩ | ⟨e,rfl⟩<;>rfl
theorem IsL.cells (h:IsL v cs):cellsOf v=[v]:=by
 rcases h with ⟨rfl,rfl⟩ | ⟨e,rfl⟩<;>rfl
theorem zmJ (e:Bool) (cs:List AV):IsL (.vsl e cs.length cs) cs:= .inr ⟨e,rfl⟩
theorem zed:IsL .nils []:= .inl ⟨rfl,rfl⟩
end
def IsI (v:AV) (l:List Int):Prop:=IsL v (l.map zf)
section
variable {v:AV} {l:List Int}
theorem IsI.len (h:IsI v l) {hp:Hp}:zcp hp 1 v=some (.int .i64 (l.length:Nat)):=by
 have:=IsL.len (hp:=hp) h
 rwa [List.length_map] at this
theorem IsI.pu (h:IsI v l):zD v=true:=IsL.pu h
theorem IsI.frz (h:IsI v l) (n:Nat) {hp:Hp}:zai (n+1) hp v=some (v,hp):=IsL.frz h n
theorem IsI.shut (h:IsI v l):VE.shut v=v:=IsL.shut h
theorem IsI.shut1 (h:IsI v l):VE.shut1 v=v:=IsL.shut1 h
theorem IsI.res (h:IsI v l) {hp:Hp}:zaR hp v=some v:=IsL.res h
theorem IsI.one (h:IsI v l):zX v=true:=IsL.one h
theorem IsI.cells (h:IsI v l):cellsOf v=[v]:=IsL.cells h
theorem IsI.ixa (h:IsI v l) {i:Nat} (hi:i<l.length):zdF 1 i v=some (.vptr (.int .i64 l[i]::(l.map zf).drop (i+1))):=by
 have:=IsL.ixa h (i:=i) (by simpa using hi)
 rw [this];simp
theorem zaY (e:Bool) (l:List Int):IsI (.vsl e l.length (l.map zf)) l:=by
 have:=zmJ e (l.map zf)
 rwa [List.length_map] at this
end
def All2 {α β:Type} (p:α→β→Prop):List α→List β→Prop
 | [],[]=>True
 | a::r,b::s=>p a b∧All2 p r s
 | _,_=>False
section
variable {α β:Type} {p:α→β→Prop}
theorem All2.len:∀{l:List α} {m:List β},All2 p l m→l.length=m.length
 | [],[],_=>rfl
 | _::_,_::_,h=>by rw [List.length_cons,List.length_cons,h.2.len]
theorem All2.get:∀{l:List α} {m:List β} (_:All2 p l m) {i:Nat} (h1:i<l.length) (h2:i<m.length),p l[i] m[i]
 | a::r,b::s,h,0,_,_=>h.1
 | a::r,b::s,h,i+1,h1,h2=>by
  simp only [List.getElem_cons_succ]
  exact h.2.get (by simpa using h1) (by simpa using h2)
theorem All2.append:∀{l l':List α} {m m':List β},All2 p l m→All2 p l' m'→All2 p (l++l') (m++m')
 | [],_,[],_,_,h=>h
 | _::_,_,_::_,_,h,k=>⟨h.1,h.2.append k⟩
end
def IsS (v:AV) (s:List (List Int)):Prop:=∃rows,IsL v rows∧All2 IsI rows s
section
variable {v:AV} {s:List (List Int)}
theorem IsS.len (h:IsS v s) {hp:Hp}:zcp hp 1 v=some (.int .i64 (s.length:Nat)):=by
 obtain ⟨rows,h1,h2⟩:=h
 rw [←h2.len];exact h1.len
theorem IsS.pu (h:IsS v s):zD v=true:=by obtain ⟨rows,h1,h2⟩:=h;exact h1.pu
theorem IsS.frz (h:IsS v s) (n:Nat) {hp:Hp}:zai (n+1) hp v=some (v,hp):=by obtain ⟨rows,h1,h2⟩:=h;exact h1.frz n
theorem IsS.shut (h:IsS v s):VE.shut v=v:=by obtain ⟨rows,h1,h2⟩:=h;exact h1.shut
theorem IsS.shut1 (h:IsS v s):VE.shut1 v=v:=by obtain ⟨rows,h1,h2⟩:=h;exact h1.shut1
theorem IsS.res (h:IsS v s) {hp:Hp}:zaR hp v=some v:=by obtain ⟨rows,h1,h2⟩:=h;exact h1.res
theorem IsS.one (h:IsS v s):zX v=true:=by obtain ⟨rows,h1,h2⟩:=h;exact h1.one
theorem IsS.cells (h:IsS v s):cellsOf v=[v]:=by obtain ⟨rows,h1,h2⟩:=h;exact h1.cells
theorem IsS.ixa (h:IsS v s) {i:Nat} (hi:i<s.length):∃r rest,IsI r s[i]∧zdF 1 i v=some (.vptr (r::rest)):=by
 obtain ⟨rows,h1,h2⟩:=h
 have hi':i<rows.length:=by rw [h2.len];exact hi
 exact ⟨_,_,h2.get hi' hi,h1.ixa hi'⟩
end
theorem zh {n:Int} (h1: -9223372036854775808≤n) (h2:n<9223372036854775808):IntKind.wrap .i64 n=n:=by
 simp only [IntKind.wrap,IntKind.bits,IntKind.signed,Bool.true_and]
 split<;>rename_i h<;>simp at h<;>omega
theorem zF {n:Nat} (h:n<9223372036854775808):IntKind.wrap .i64 (n:Int)=n:=zh (by omega) (by omega)
end VE
end
