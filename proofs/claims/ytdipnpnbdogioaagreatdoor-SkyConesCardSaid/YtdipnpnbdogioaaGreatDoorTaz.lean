import Derived.Attr
import Derived.Test.YtdipnpnbdogioaaGreatDoorTay
set_option linter.all false
set_option maxRecDepth 100000
section
namespace VE
open Go (IntKind BinOp UnOp)
section
variable {P:zQ} {L:Lib}
structure Has (P:zQ) (L:Lib) (n:Nat) (F:Fnc):Prop where
 pure:L.pure n=none
 heap:L.heap n=none
 code:P n=some F
noncomputable def zeI (P:zQ) (L:Lib) (r:Option (Ex×St)) (b:VC):Option (Ex×St):=match r with | some (.normal,s)=>D P L b s | r=>r
def zhY (id:Nat) (r:Option (Ex×St)):Option (Ex×St):=match r with | some (.exit j,s)=>bif Nat.beq j id then some (.normal,s) else some (.exit j,s) | r=>r
noncomputable def zo4 (P:zQ) (L:Lib) (live:List Nat) (a:VC) (r:Option (Ex×St)):Option (Ex×St):=match r with | some (.normal,s)=>D P L (.loop live a) s | r=>r
def zza (r:Option St):Option (Ex×St):=match r with | some s=>some (.normal,s) | none=>none
noncomputable def zrS (P:zQ) (L:Lib) (v:AV) (a b:VC) (s:St):Option (Ex×St):=match v with | .bool t=>bif t then D P L a s else D P L b s | _=>none
theorem zEM (s:St):D P L .skip s=some (.normal,s):=by rw [zgx];rfl
theorem zEU (id:Nat) (s:St):D P L (.exit id) s=some (.exit id,s):=by rw [zgx];rfl
theorem zGJ (s:St):D P L .ret s=some (.ret,s):=by rw [zgx];rfl
theorem zHy (live:List Nat) (s:St):D P L (.kp live) s=some (.normal,zE live s):=by rw [zgx];rfl
theorem zJM (ts:List Nat) (s:St):D P L (.fz ts) s=zza (zfP ts s):=by rw [zgx];rfl
theorem zHY (ops:List ROp) (s:St):D P L (.reg ops) s=zza (zaM P L (D P L) ops s):=by rw [zgx];rfl
theorem zdh (a b:VC) (s:St):D P L (.seq a b) s=zeI P L (D P L a s) b:=by
 rw [zgx,zgx a];simp only [zJ,zeI]
 cases zJ P L (D P L) a s with
 | none=>rfl
 | some q=>
  obtain ⟨e,s1⟩:=q
  cases e with
  | normal=>exact (zgx b s1).symm
  | ret=>rfl
  | exit id=>rfl
theorem zDG (x:X) (a b:VC) (s:St):D P L (.cond x a b) s=zrS P L (zy s.tm x) a b s:=by
 rw [zgx];simp only [zJ,zrS]
 cases zy s.tm x with
 | bool t=>
  cases t with
  | true=>exact (zgx a s).symm
  | false=>exact (zgx b s).symm
 | _=>rfl
theorem zGF (id:Nat) (a:VC) (s:St):D P L (.blk id a) s=zhY id (D P L a s):=by
 rw [zgx,zgx a];simp only [zJ,zhY]
 cases zJ P L (D P L) a s with
 | none=>rfl
 | some q=>obtain ⟨e,s1⟩:=q;cases e<;>rfl
theorem zna (live:List Nat) (a:VC) (s:St):D P L (.loop live a) s=zo4 P L live a (D P L a (zE live s)):=by
 rw [zgx,zgx a];simp only [zJ,zo4]
 cases zJ P L (D P L) a (zE live s) with
 | none=>rfl
 | some q=>obtain ⟨e,s1⟩:=q;cases e<;>rfl
theorem zas (s:St) (b:VC):zeI P L (some (.normal,s)) b=D P L b s:=rfl
theorem zyF (s:St) (b:VC):zeI P L (some (.ret,s)) b=some (.ret,s):=rfl
theorem zzG (id:Nat) (s:St) (b:VC):zeI P L (some (.exit id,s)) b=some (.exit id,s):=rfl
theorem zqZ (live:List Nat) (a:VC) (s:St):zo4 P L live a (some (.normal,s))=D P L (.loop live a) s:=rfl
theorem zAD (live:List Nat) (a:VC) (s:St):zo4 P L live a (some (.ret,s))=some (.ret,s):=rfl
theorem zzj (live:List Nat) (a:VC) (id:Nat) (s:St):zo4 P L live a (some (.exit id,s))=some (.exit id,s):=rfl
theorem zy1 (id:Nat) (s:St):zhY id (some (.normal,s))=some (.normal,s):=rfl
theorem zAK (id:Nat) (s:St):zhY id (some (.ret,s))=some (.ret,s):=rfl
theorem zqT (id:Nat) (s:St):zhY id (some (.exit id,s))=some (.normal,s):=by simp only [zhY,Nat.beq_refl,cond_true]
theorem zAZ {id j:Nat} (s:St) (h:j≠id):zhY id (some (.exit j,s))=some (.exit j,s):=by
 have:Nat.beq j id=false:=by
  cases hq:Nat.beq j id with
  | false=>rfl
  | true=>exact absurd (Nat.eq_of_beq_eq_true hq) h
 simp only [zhY,this,cond_false]
theorem zFs (s:St):zza (some s)=some (.normal,s):=rfl
theorem zEj:zza none=none:=rfl
theorem zyO (a b:VC) (s:St):zrS P L (.bool true) a b s=D P L a s:=rfl
theorem zy4 (a b:VC) (s:St):zrS P L (.bool false) a b s=D P L b s:=rfl
noncomputable def zvy (P:zQ) (L:Lib) (d:Option Nat) (r:List ROp) (tm:Env) (base:Nat) (q:Res):Option St:=
 match q with | some (v,hp,ct)=>zaM P L (D P L) r ⟨put d v tm,hp,ct,base⟩ | none=>none
noncomputable def zg3 (P:zQ) (L:Lib) (v:AV) (b:Bool) (d:Option Nat) (o:Op) (r:List ROp) (s:St):Option St:=
 match v with
 | .bool c=>bif c==b then zaM P L (D P L) (⟨d,none,o⟩::r) s else zaM P L (D P L) r ⟨put d (.tup []) s.tm,s.hp,s.ct,s.base⟩
 | .tup []=>zaM P L (D P L) r ⟨put d (.tup []) s.tm,s.hp,s.ct,s.base⟩
 | _=>none
theorem zyB (s:St):zaM P L (D P L) [] s=some s:=rfl
theorem zuO (d:Option Nat) (o:Op) (r:List ROp) (tm:Env) (hp:Hp) (ct base:Nat):
  zaM P L (D P L) (⟨d,none,o⟩::r) ⟨tm,hp,ct,base⟩=zvy P L d r tm base (z9 P L (D P L) tm hp ct o):=by
 simp only [zaM,zvy];cases z9 P L (D P L) tm hp ct o<;>rfl
theorem zto (d:Option Nat) (t:Nat) (b:Bool) (o:Op) (r:List ROp) (tm:Env) (hp:Hp) (ct base:Nat):
  zaM P L (D P L) (⟨d,some (t,b),o⟩::r) ⟨tm,hp,ct,base⟩=zg3 P L (zc tm t) b d o r ⟨tm,hp,ct,base⟩:=by
 simp only [zaM,zg3]
 cases zc tm t with
 | bool c=>
  simp only
  cases hc:(c==b) with
  | true=>simp only [cond_true]
  | false=>simp only [cond_false]
 | tup vs=>cases vs<;>rfl
 | _=>rfl
theorem zAF (d:Option Nat) (r:List ROp) (tm:Env) (base:Nat) (v:AV) (hp:Hp) (ct:Nat):zvy P L d r tm base (some (v,hp,ct))=zaM P L (D P L) r ⟨put d v tm,hp,ct,base⟩:=rfl
theorem zGu (i:Nat) (v:AV) (tm:Env):put (some i) v tm=(i,v)::tm:=rfl
theorem zIb (v:AV) (tm:Env):put none v tm=tm:=rfl
theorem zvG (d:Option Nat) (o:Op) (r:List ROp) (s:St):zg3 P L (.bool true) true d o r s=zaM P L (D P L) (⟨d,none,o⟩::r) s:=rfl
theorem zvF (d:Option Nat) (o:Op) (r:List ROp) (s:St):zg3 P L (.bool false) false d o r s=zaM P L (D P L) (⟨d,none,o⟩::r) s:=rfl
theorem zuZ (d:Option Nat) (o:Op) (r:List ROp) (tm:Env) (hp:Hp) (ct base:Nat):zg3 P L (.bool true) false d o r ⟨tm,hp,ct,base⟩=zaM P L (D P L) r ⟨put d (.tup []) tm,hp,ct,base⟩:=rfl
theorem zxM (d:Option Nat) (o:Op) (r:List ROp) (tm:Env) (hp:Hp) (ct base:Nat):zg3 P L (.bool false) true d o r ⟨tm,hp,ct,base⟩=zaM P L (D P L) r ⟨put d (.tup []) tm,hp,ct,base⟩:=rfl
theorem zyK (b:Bool) (d:Option Nat) (o:Op) (r:List ROp) (tm:Env) (hp:Hp) (ct base:Nat):zg3 P L (.tup []) b d o r ⟨tm,hp,ct,base⟩=zaM P L (D P L) r ⟨put d (.tup []) tm,hp,ct,base⟩:=rfl
theorem zaN {j i:Nat} (h:j≠i):Nat.beq j i=false:=by
 cases hq:Nat.beq j i with
 | false=>rfl
 | true=>exact absurd (Nat.eq_of_beq_eq_true hq) h
theorem zCS (tm:Env) (i:Nat):zy tm (.t i)=zc tm i:=rfl
theorem zFz (tm:Env) (v:AV):zy tm (.c v)=v:=rfl
theorem zt0 (tm:Env):zaG tm []=[]:=rfl
theorem zqq (tm:Env) (x:X) (r:List X):zaG tm (x::r)=zy tm x::zaG tm r:=rfl
theorem zuq (i:Nat) (v:AV) (r:Env):zc ((i,v)::r) i=v:=by simp only [zc,Nat.beq_refl,cond_true]
theorem ztO {j i:Nat} (v:AV) (r:Env) (h:j≠i):zc ((j,v)::r) i=zc r i:=by simp only [zc,zaN h,cond_false]
theorem zj8 (i:Nat) (o:Obj) (r:Hp):zA ((i,o)::r) i=some o:=by simp only [zA,Nat.beq_refl,cond_true]
theorem ztR {j i:Nat} (o:Obj) (r:Hp) (h:j≠i):zA ((j,o)::r) i=zA r i:=by simp only [zA,zaN h,cond_false]
theorem zva (i:Nat) (o u:Obj) (r:Hp):zac ((i,o)::r) i u=(i,u)::r:=by simp only [zac,Nat.beq_refl,cond_true]
theorem ztC {j i:Nat} (o u:Obj) (r:Hp) (h:j≠i):zac ((j,o)::r) i u=(j,o)::zac r i u:=by simp only [zac,zaN h,cond_false]
theorem zx3 (i:Nat):hdel [] i=[]:=rfl
theorem zuM (i:Nat) (o:Obj) (r:Hp):hdel ((i,o)::r) i=hdel r i:=by simp only [hdel,Nat.beq_refl,cond_true]
theorem zsZ {j i:Nat} (o:Obj) (r:Hp) (h:j≠i):hdel ((j,o)::r) i=(j,o)::hdel r i:=by simp only [hdel,zaN h,cond_false]
def rd (hp:Hp) (ct:Nat) (q:Option AV):Res:=match q with | some v=>some (v,hp,ct) | none=>none
def mk (hp:Hp) (ct:Nat) (q:Option (AV×Obj)):Res:=match q with | some (v,b)=>some (v,(ct,b)::hp,ct+1) | none=>none
theorem zJZ (hp:Hp) (ct:Nat) (v:AV):rd hp ct (some v)=some (v,hp,ct):=rfl
theorem zJN (hp:Hp) (ct:Nat) (v:AV) (b:Obj):mk hp ct (some (v,b))=some (v,(ct,b)::hp,ct+1):=rfl
def zui (c a b:AV):Option AV:=match c with | .bool t=>some (bif t then a else b) | _=>none
def asO (k:Nat→Option AV) (n:Option Nat):Option AV:=match n with | some i=>k i | none=>none
def zB2 (r:Option (List AV)):Option AV:=match r with | some cs=>some (.agg cs) | none=>none
def zvM (ne:Bool) (r:Option Bool):Option AV:=match r with | some b=>some (.bool (ne !=b)) | none=>none
def zJS:AV→Option AV
 | .ptr id o=>some (.ptr id o)
 | .vptr cs=>some (.vptr cs)
 | .fn f a b=>some (.fn f a b)
 | _=>none
def zxV (i:Nat):AV→Option AV | .tup vs=>vs[i]? | _=>none
section
variable {f:Run} {tm:Env} {hp:Hp} {ct:Nat}
theorem zE0 (x:X):z9 P L f tm hp ct (.mov x)=some (zy tm x,hp,ct):=rfl
theorem zAQ (c a b:X):z9 P L f tm hp ct (.pick c a b)=rd hp ct (zui (zy tm c) (zy tm a) (zy tm b)):=by
 rfl
theorem zvB (z:List AV) (ps:List (Nat×Nat×X)):z9 P L f tm hp ct (.mkagg z ps)=rd hp ct (zB2 (fill tm z ps)):=by
 rfl
theorem zGE (sz:Nat) (ag:Bool) (x:X):z9 P L f tm hp ct (.ld sz ag x)=rd hp ct (ze6 hp sz ag (zy tm x)):=rfl
theorem zAw (x:X):z9 P L f tm hp ct (.nilc x)=rd hp ct (zJS (zy tm x)):=by
 rfl
theorem zEr (op:BinOp) (x y:X):z9 P L f tm hp ct (.bin op x y)=rd hp ct (binOp op (zy tm x) (zy tm y)):=rfl
theorem zHg (ne:Bool) (k:EqK) (x y:X):z9 P L f tm hp ct (.eq ne k x y)=rd hp ct (zvM ne (zex k (zy tm x) (zy tm y))):=by
 rfl
theorem zGC (op:UnOp) (x:X):z9 P L f tm hp ct (.un op x)=rd hp ct (unOp op (zy tm x)):=rfl
theorem zGl (k:Conv) (x:X):z9 P L f tm hp ct (.cv k x)=rd hp ct (zjx k (zy tm x)):=rfl
theorem zEx (g:Fr) (a b:List X):z9 P L f tm hp ct (.mkf g a b)=some (.fn g (zaG tm a) (zaG tm b),hp,ct):=rfl
theorem zDZ (k:Cut) (x:X) (lo hi:Option X):z9 P L f tm hp ct (.sli k x lo hi)=rd hp ct (zbt hp k (zy tm x) tm lo hi):=rfl
theorem zEo (k:Nat) (x:X):z9 P L f tm hp ct (.off k x)=rd hp ct (znR k (zy tm x)):=rfl
theorem zFP (o sz:Nat) (ag:Bool) (x:X):z9 P L f tm hp ct (.fld o sz ag x)=rd hp ct (zq7 o sz ag (zy tm x)):=rfl
theorem zCO (sz:Nat) (x i:X):z9 P L f tm hp ct (.ixa sz x i)=rd hp ct (asO (fun j=>zdG sz j (zy tm x)) (zaL (zy tm i))):=by
 rfl
theorem zCN (n sz:Nat) (x i:X):z9 P L f tm hp ct (.ixp n sz x i)=rd hp ct (asO (fun j=>zr7 n sz j (zy tm x)) (zaL (zy tm i))):=by
 rfl
theorem zCU (x i:X):z9 P L f tm hp ct (.ixs x i)=rd hp ct (asO (fun j=>zeB j (zy tm x)) (zaL (zy tm i))):=by
 rfl
theorem zDg (n sz:Nat) (ag:Bool) (x i:X):z9 P L f tm hp ct (.ixv n sz ag x i)=rd hp ct (asO (fun j=>zqQ n sz ag j (zy tm x)) (zaL (zy tm i))):=by
 rfl
theorem zEY (i:Nat) (x:X):z9 P L f tm hp ct (.ext i x)=rd hp ct (zxV i (zy tm x)):=by
 rfl
theorem zFH (k:Nat) (x:X):z9 P L f tm hp ct (.len k x)=rd hp ct (zcs hp k (zy tm x)):=rfl
theorem zDw (sz:Nat) (x:X):z9 P L f tm hp ct (.box sz x)=mk hp ct (zab tm hp ct (.box sz x)):=rfl
theorem zAc (n sz:Nat) (z:List AV) (ps:List (Nat×Nat×X)):z9 P L f tm hp ct (.mksl n sz z ps)=mk hp ct (zab tm hp ct (.mksl n sz z ps)):=rfl
theorem zEs (sz by':Nat) (z:List AV) (l c:X):z9 P L f tm hp ct (.mks sz by' z l c)=mk hp ct (zab tm hp ct (.mks sz by' z l c)):=rfl
theorem zD4:z9 P L f tm hp ct .mkm=some (.map ct,(ct,.mp true [] [])::hp,ct+1):=rfl
theorem zEW (x:X):z9 P L f tm hp ct (.rng x)=mk hp ct (zab tm hp ct (.rng x)):=rfl
theorem zHX (sz:Nat) (x v:X):z9 P L f tm hp ct (.st sz x v)=zZ tm hp ct (.st sz x v):=rfl
theorem zFI (sz by':Nat) (s x:X):z9 P L f tm hp ct (.app sz by' s x)=zZ tm hp ct (.app sz by' s x):=rfl
def zrH (hp:Hp) (ct:Nat) (r:Option AV):Res:=match r with | some v=>some (shut v,hp,ct) | none=>none
def zyJ (hp:Hp) (ct:Nat) (r:Option AV):Res:=match r with | some v=>some (own hp ct v) | none=>none
def zxL (P:zQ) (L:Lib) (f:Run) (ct n:Nat) (q:Option (List AV×Hp)):Res:=match q with | some (vals,hp)=>zrH hp ct (zp P L f n vals) | none=>none
def zve (P:zQ) (L:Lib) (f:Run) (ct n:Nat) (q:Option (List AV×Hp)):Res:=match q with | some (vals,hp)=>zyJ hp ct (zp P L f n vals) | none=>none
def zxK (P:zQ) (L:Lib) (f:Run) (hp:Hp) (ct:Nat) (fv:AV) (xs:List AV):Res:=zaD P L f hp ct .pure fv xs
def zup (P:zQ) (L:Lib) (f:Run) (hp:Hp) (ct:Nat) (fv:AV) (xs:List AV):Res:=zaD P L f hp ct .own fv xs
theorem zwP (g:X) (xs:List X):z9 P L f tm hp ct (.call .pure g xs)=zxK P L f hp ct (zy tm g) (zaG tm xs):=rfl
theorem zx2 (g:X) (xs:List X):z9 P L f tm hp ct (.call .own g xs)=zup P L f hp ct (zy tm g) (zaG tm xs):=rfl
theorem zwB (g:X) (xs:List X):z9 P L f tm hp ct (.call .heap g xs)=zaD P L f hp ct .heap (zy tm g) (zaG tm xs):=rfl
theorem zzD (n:Nat) (first cap xs:List AV):zxK P L f hp ct (.fn (.f n) first cap) xs=zxL P L f ct n (zT zcw hp (first++(xs++cap))):=by
 simp only [zxK,zaD,zxL,zrH]
 cases zT zcw hp (first++(xs++cap)) with
 | none=>rfl
 | some q=>cases zp P L f n q.1<;>rfl
theorem zzx (n:Nat) (first cap xs:List AV):zup P L f hp ct (.fn (.f n) first cap) xs=zve P L f ct n (zT zcw hp (first++(xs++cap))):=by
 simp only [zup,zaD,zve,zyJ]
 cases zT zcw hp (first++(xs++cap)) with
 | none=>rfl
 | some q=>cases zp P L f n q.1<;>rfl
theorem zAE (n:Nat) (vals:List AV):zxL P L f ct n (some (vals,hp))=zrH hp ct (zp P L f n vals):=rfl
theorem zAe (n:Nat) (vals:List AV):zve P L f ct n (some (vals,hp))=zyJ hp ct (zp P L f n vals):=rfl
theorem zyG (v:AV):zrH hp ct (some v)=some (shut v,hp,ct):=rfl
theorem zFO (v:AV):zyJ hp ct (some v)=some (own hp ct v):=rfl
def zA0 (hp:Hp) (r:Option AV):Option AV:=match r with | some v=>zaP hp v | none=>none
def zdc (rs:List RV) (q:Option (Ex×St)):Option AV:=
 match q with
 | some (.normal,s) | some (.ret,s)=>zA0 s.hp (zax s rs)
 | _=>none
theorem zd {n:Nat} {F:Fnc} (h:Has P L n F) (vals:List AV):zp P L f n vals=zdc F.res (f F.body ⟨zak 0 vals,[],0,0⟩):=by
 simp only [zp,h.pure,h.code]
 cases hq:f F.body ⟨zak 0 vals,[],0,0⟩ with
 | none=>rfl
 | some q=>
  obtain ⟨e,s⟩:=q
  cases e with
  | normal=>rfl
  | ret=>rfl
  | exit id=>rfl
theorem zEN (rs:List RV) (s:St):zdc rs (some (.normal,s))=zA0 s.hp (zax s rs):=rfl
theorem zFR (rs:List RV) (s:St):zdc rs (some (.ret,s))=zA0 s.hp (zax s rs):=rfl
theorem zDj (v:AV):zA0 hp (some v)=zaP hp v:=rfl
theorem zEG (r:RV) (s:St):zax s [r]=zbN s r:=by
 simp only [zax,zbg];cases zbN s r<;>rfl
def zIn (r:Option (List AV)):Option AV:=match r with | some vs=>some (.tup vs) | none=>none
theorem zIV (r q:RV) (l:List RV) (s:St):zax s (r::q::l)=zIn (zbg s (r::q::l)):=by
 simp only [zax,zbg];cases zbN s r<;>cases zbN s q<;>cases zbg s l<;>rfl
def zCK (r:Option AV) (l:Option (List AV)):Option (List AV):=match r,l with | some v,some vs=>some (v::vs) | _,_=>none
theorem zvp (s:St):zbg s []=some []:=rfl
theorem ztW (r:RV) (l:List RV) (s:St):zbg s (r::l)=zCK (zbN s r) (zbg s l):=rfl
theorem zzy (v:AV) (vs:List AV):zCK (some v) (some vs)=some (v::vs):=rfl
theorem zFj (vs:List AV):zIn (some vs)=some (.tup vs):=rfl
theorem zwR (i:Nat) (s:St):zbN s (.t i)=some (zc s.tm i):=rfl
theorem zGx (a:AV):zak 0 [a]=[(0,a)]:=rfl
theorem zHH (a b:AV):zak 0 [a,b]=[(0,a),(1,b)]:=rfl
theorem zGv (a b c:AV):zak 0 [a,b,c]=[(0,a),(1,b),(2,c)]:=rfl
theorem zG2 (a b c d:AV):zak 0 [a,b,c,d]=[(0,a),(1,b),(2,c),(3,d)]:=rfl
theorem zHA (a b c d e:AV):zak 0 [a,b,c,d,e]=[(0,a),(1,b),(2,c),(3,d),(4,e)]:=rfl
theorem zpD (k:IntKind) (n:Int):zaP hp (.int k n)=some (.int k n):=rfl
theorem zoq (b:Bool):zaP hp (.bool b)=some (.bool b):=rfl
theorem zqk (s:List Nat):zaP hp (.str s)=some (.str s):=rfl
theorem zo1:zaP hp .nils=some .nils:=rfl
theorem zqF (e:Bool) (n:Nat) (cs:List AV):zaP hp (.vsl e n cs)=some (.vsl e n cs):=rfl
theorem zuE (k:IntKind) (n:Int):shut (.int k n)= .int k n:=rfl
theorem zti (b:Bool):shut (.bool b)= .bool b:=rfl
theorem zxr (s:List Nat):shut (.str s)= .str s:=rfl
theorem zs8:shut .nils= .nils:=rfl
theorem zxA (e:Bool) (n:Nat) (cs:List AV):shut (.vsl e n cs)= .vsl e n cs:=rfl
theorem zvJ (e:Bool) (sz n:Nat) (cs:List AV):shut (.fsl e sz n cs)= .vsl e n cs:=rfl
theorem zo (cs:List AV):shut (.agg cs)= .agg cs:=rfl
theorem zAJ (g:Fr) (a b:List AV):shut (.fn g a b)= .fn g a b:=rfl
theorem zwi (vs:List AV):shut (.tup vs)= .tup (zhN vs):=rfl
theorem zt3:zhN []=[]:=rfl
theorem zqb (v:AV) (r:List AV):zhN (v::r)=shut1 v::zhN r:=rfl
theorem zse (k:IntKind) (n:Int):shut1 (.int k n)= .int k n:=rfl
theorem zpH (b:Bool):shut1 (.bool b)= .bool b:=rfl
theorem zs5 (s:List Nat):shut1 (.str s)= .str s:=rfl
theorem zqf:shut1 .nils= .nils:=rfl
theorem zss (e:Bool) (n:Nat) (cs:List AV):shut1 (.vsl e n cs)= .vsl e n cs:=rfl
theorem ztm (e:Bool) (sz n:Nat) (cs:List AV):shut1 (.fsl e sz n cs)= .vsl e n cs:=rfl
theorem zcl (cs:List AV):shut1 (.agg cs)= .agg cs:=rfl
def zCW (n:Nat) (r:List AV) (q:Option (AV×Hp)):Option (List AV×Hp):=match q with | some (v,hp)=>(match zT n hp r with | some (vs,hp2)=>some (v::vs,hp2) | none=>none) | none=>none
def zGj (v:AV) (q:Option (List AV×Hp)):Option (List AV×Hp):=match q with | some (vs,hp)=>some (v::vs,hp) | none=>none
theorem zvP (n:Nat):zT (n+1) hp []=some ([],hp):=rfl
theorem zsH (n:Nat) (v:AV) (r:List AV):zT (n+1) hp (v::r)=zCW n r (zah n hp v):=by
 simp only [zT,zCW];cases zah n hp v<;>rfl
theorem zEX (n:Nat) (r:List AV) (v:AV):zCW n r (some (v,hp))=zGj v (zT n hp r):=by
 rfl
theorem zDF (v:AV) (vs:List AV):zGj v (some (vs,hp))=some (v::vs,hp):=rfl
theorem zAj (n:Nat) (k:IntKind) (a:Int):zah (n+1) hp (.int k a)=some (.int k a,hp):=rfl
theorem zxR (n:Nat) (b:Bool):zah (n+1) hp (.bool b)=some (.bool b,hp):=rfl
theorem zyZ (n:Nat) (s:List Nat):zah (n+1) hp (.str s)=some (.str s,hp):=rfl
theorem zuQ (n:Nat):zah (n+1) hp .nils=some (.nils,hp):=rfl
theorem zz4 (n:Nat) (e:Bool) (k:Nat) (cs:List AV):zah (n+1) hp (.vsl e k cs)=some (.vsl e k cs,hp):=rfl
theorem zvL (n:Nat) (cs:List AV):zah (n+1) hp (.vptr cs)=some (.vptr cs,hp):=rfl
end
end
section
variable {hp:Hp}
theorem zET (a b:AV):zui (.bool true) a b=some a:=rfl
theorem zEe (a b:AV):zui (.bool false) a b=some b:=rfl
theorem zHO (k:Nat→Option AV) (n:Nat):asO k (some n)=k n:=rfl
theorem zpq (k:IntKind) (n:Nat):zaL (.int k (n:Int))=some n:=rfl
theorem zE7 (k:IntKind):zaL (.int k 0)=some 0:=rfl
theorem zFQ (k:IntKind):zaL (.int k 1)=some 1:=rfl
theorem zDD (k:IntKind):zaL (.int k 2)=some 2:=rfl
theorem zDT (k:IntKind):zaL (.int k 3)=some 3:=rfl
theorem zC6 (k:IntKind):zaL (.int k 4)=some 4:=rfl
theorem zDI (k:IntKind):zaL (.int k 5)=some 5:=rfl
theorem zDc (k:IntKind):zaL (.int k 6)=some 6:=rfl
theorem zDP (k:IntKind):zaL (.int k 7)=some 7:=rfl
theorem zC2 (k:IntKind):zaL (.int k 8)=some 8:=rfl
theorem zEc (k:IntKind):zaL (.int k 9)=some 9:=rfl
theorem zzT (cs:List AV):zB2 (some cs)=some (.agg cs):=rfl
theorem zrK (k:IntKind) (a b:Int):binOp .add (.int k a) (.int k b)=some (.int k (k.wrap (a+b))):=by simp [binOp,zdW]
theorem zjR (k:IntKind) (a b:Int):binOp .sub (.int k a) (.int k b)=some (.int k (k.wrap (a-b))):=by simp [binOp,zdW]
theorem zq5 (k:IntKind) (a b:Int):binOp .mul (.int k a) (.int k b)=some (.int k (k.wrap (a*b))):=by simp [binOp,zdW]
theorem zaC (k:IntKind) (a b:Int) (h:b≠0):binOp .quo (.int k a) (.int k b)=some (.int k (k.wrap (a.tdiv b))):=by simp [binOp,zdW,h]
theorem zaw (k:IntKind) (a b:Int) (h:b≠0):binOp .rem (.int k a) (.int k b)=some (.int k (a.tmod b)):=by simp [binOp,zdW,h]
theorem zz5 (k:IntKind) (a b:Int):binOp .eql (.int k a) (.int k b)=some (.bool (decide (a=b))):=by
 simp [binOp,zdW,intCmp,BEq.beq]
theorem zzq (k:IntKind) (a b:Int):binOp .neq (.int k a) (.int k b)=some (.bool (!decide (a=b))):=by
 simp [binOp,zdW,intCmp,bne,BEq.beq]
theorem zAb (k:IntKind) (a b:Int):binOp .lss (.int k a) (.int k b)=some (.bool (decide (a<b))):=by simp [binOp,zdW,intCmp]
theorem zAN (k:IntKind) (a b:Int):binOp .leq (.int k a) (.int k b)=some (.bool (decide (a≤b))):=by simp [binOp,zdW,intCmp]
theorem zyA (k:IntKind) (a b:Int):binOp .gtr (.int k a) (.int k b)=some (.bool (decide (b<a))):=by simp [binOp,zdW,intCmp]
theorem zzE (k:IntKind) (a b:Int):binOp .geq (.int k a) (.int k b)=some (.bool (decide (b≤a))):=by simp [binOp,zdW,intCmp]
theorem zE3 (k:IntKind) (a:Int):unOp .neg (.int k a)=some (.int k (k.wrap (0-a))):=rfl
theorem zDN (b:Bool):unOp .not (.bool b)=some (.bool !b):=rfl
theorem zvO:zcs hp 1 .nils=some (.int .i64 0):=rfl
theorem zA5 (e:Bool) (n:Nat) (cs:List AV):zcs hp 1 (.vsl e n cs)=some (.int .i64 n):=rfl
theorem zAI (id o n:Nat):zcs hp 1 (.osl id o n)=some (.int .i64 n):=rfl
theorem zA9 (s:List Nat):zcs hp 0 (.str s)=some (.int .i64 s.length):=rfl
theorem zrT {sz i n:Nat} (e:Bool) (cs:List AV) (h:i<n):zdG sz i (.vsl e n cs)=some (.vptr (cs.drop (i*sz))):=by
 have hb:Nat.blt i n=true:=Nat.ble_eq_true_of_le h;simp only [zdG];rw [hb];rfl
theorem z6 {sz i n:Nat} (id o:Nat) (h:i<n):zdG sz i (.osl id o n)=some (.ptr id (o+i*sz)):=by
 have hb:Nat.blt i n=true:=Nat.ble_eq_true_of_le h;simp only [zdG];rw [hb];rfl
theorem zhE (v:AV) (cs:List AV):ze6 hp 1 false (.vptr (v::cs))=some v:=rfl
def ldC (sz:Nat) (ag:Bool) (o:Nat) (q:Option Obj):Option AV:=match q with | some (.cells _ _ _ _ cs)=>ld1 sz ag (cs.drop o) | _=>none
theorem zDf (sz:Nat) (ag:Bool) (id o:Nat):ze6 hp sz ag (.ptr id o)=ldC sz ag o (zA hp id):=by
 rfl
theorem zHt (sz:Nat) (ag:Bool) (o:Nat) (rw pu ex:Bool) (z:Nat) (cs:List AV):ldC sz ag o (some (.cells rw pu ex z cs))=ld1 sz ag (cs.drop o):=rfl
theorem zHG (sz:Nat) (v:AV) (cs:List AV):ld1 sz false (v::cs)=some v:=rfl
theorem zKk (a:AV) (l:List AV):zxV 0 (.tup (a::l))=some a:=rfl
theorem zIX (a b:AV) (l:List AV):zxV 1 (.tup (a::b::l))=some b:=rfl
theorem zKD (a b c:AV) (l:List AV):zxV 2 (.tup (a::b::c::l))=some c:=rfl
theorem zJ8 (a b c d:AV) (l:List AV):zxV 3 (.tup (a::b::c::d::l))=some d:=rfl
end
def zhM:Env→Bool
 | []=>true
 | (_,v)::r=>zD v&&zhM r
mutual
theorem zb:∀{v:AV},zD v=true→zcS v=[]
 | .int _ _,_ | .bool _,_ | .flt _ _,_ | .str _,_ | .nilp,_ | .vptr _,_ | .nils,_ | .vsl _ _ _,_ | .nilf,_ | .nilm,_ | .vmap _ _,_ | .undef,_=>rfl
 | .ptr _ _,h | .osl _ _ _,h | .map _,h | .it _,h | .fsl _ _ _ _,h=>by simp [zD] at h
 | .fn (.y _) _ _,h=>by simp [zD] at h
 | .fn (.f _) first cap,h=>by
  simp only [zD,Bool.and_eq_true] at h;simp only [zcS,zeg h.1,zeg h.2,List.append_nil]
 | .agg cs,h=>by simp only [zD] at h;simp only [zcS,zeg h]
 | .tup cs,h=>by simp only [zD] at h;simp only [zcS,zeg h]
theorem zeg:∀{vs:List AV},zt vs=true→zcM vs=[]
 | [],_=>rfl
 | v::r,h=>by
  simp only [zt,Bool.and_eq_true] at h;simp only [zcM,zb h.1,zeg h.2,List.append_nil]
end
mutual
theorem ze (f:Nat→Option Nat):∀{v:AV},zD v=true→ren f v=v
 | .int _ _,_ | .bool _,_ | .flt _ _,_ | .str _,_ | .nilp,_ | .vptr _,_ | .nils,_ | .vsl _ _ _,_ | .nilf,_ | .nilm,_ | .vmap _ _,_ | .undef,_=>rfl
 | .ptr _ _,h | .osl _ _ _,h | .map _,h | .it _,h | .fsl _ _ _ _,h=>by simp [zD] at h
 | .fn (.y _) _ _,h=>by simp [zD] at h
 | .fn (.f _) first cap,h=>by
  simp only [zD,Bool.and_eq_true] at h;simp only [ren,ze9 f h.1,ze9 f h.2]
 | .agg cs,h=>by simp only [zD] at h;simp only [ren,ze9 f h]
 | .tup cs,h=>by simp only [zD] at h;simp only [ren,ze9 f h]
theorem ze9 (f:Nat→Option Nat):∀{vs:List AV},zt vs=true→zdd f vs=vs
 | [],_=>rfl
 | v::r,h=>by
  simp only [zt,Bool.and_eq_true] at h;simp only [zdd,ze f h.1,ze9 f h.2]
end
theorem zj4:∀{tm:Env},zhM tm=true→zcP tm=[]
 | [],_=>rfl
 | (i,v)::r,h=>by
  simp only [zhM,Bool.and_eq_true] at h;simp only [zcP,zb h.1,zj4 h.2,List.append_nil]
theorem zl8 (f:Nat→Option Nat):∀{tm:Env},zhM tm=true→zf9 f tm=tm
 | [],_=>rfl
 | (i,v)::r,h=>by
  simp only [zhM,Bool.and_eq_true] at h;simp only [zf9,ze f h.1,zl8 f h.2]
theorem zd4 {live:List Nat} {tm:Env} {ct:Nat} (h:zhM (keep tm live)=true):zE live ⟨tm,[],ct,0⟩=⟨keep tm live,[],0,0⟩:=by
 simp only [zE,zj4 h,zbc,List.append_nil];simp only [zfM,zdz,zej,zl8 _ h,List.length_nil,Nat.add_zero]
theorem zom {tm:Env} {ct:Nat}:zE [] ⟨tm,[],ct,0⟩=⟨[],[],0,0⟩:=rfl
theorem zfS {P:zQ} {L:Lib} {live:List Nat} {a:VC} (I:Nat→St→Prop) (Q:Ex→St→Prop)
  (step:∀k s,I k s→(∃s' k',D P L a (zE live s)=some (.normal,s')∧k'<k∧I k' s')∨(∃ex s',D P L a (zE live s)=some (ex,s')∧ex≠.normal∧Q ex s')):
  ∀k s,I k s→∃ex s',D P L (.loop live a) s=some (ex,s')∧Q ex s':=by
 intro k
 induction k using Nat.strongRecOn with
 | _ k ih=>
  intro s hI;rw [zna];rcases step k s hI with ⟨s',k',h1,h2,h3⟩ | ⟨ex,s',h1,h2,h3⟩
  ·rw [h1,zqZ];exact ih k' h2 s' h3
  ·rw [h1]
   cases ex with
   | normal=>exact absurd rfl h2
   | ret=>exact ⟨.ret,s',rfl,h3⟩
   | exit id=>exact ⟨.exit id,s',rfl,h3⟩
theorem zL {P:zQ} {L:Lib} {live:List Nat} {a:VC} (I:Nat→St→Prop) (Q:Ex→St→Prop)
  (step:∀k s,I k s→(∃s' k',D P L a s=some (.normal,s')∧k'<k∧I k' (zE live s'))∨(∃ex s',D P L a s=some (ex,s')∧ex≠.normal∧Q ex s')):
  ∀k s,I k (zE live s)→∃ex s',D P L (.loop live a) s=some (ex,s')∧Q ex s':=
 zfS (fun k s=>I k (zE live s)) Q (fun k s h=>step k _ h)
theorem zY {P:zQ} {L:Lib} {c:VC} {s:St} {q:Option (Ex×St)} {I:St→Prop} {Q:Ex→St→Prop} (hq:D P L c s=q) (key:∀s,I s→∃ex s',D P L c s=some (ex,s')∧Q ex s') (hI:I s):
  ∃ex s',q=some (ex,s')∧Q ex s':=by
 rw [←hq];exact key s hI
theorem zvq (tm:Env):keep tm []=[]:=rfl
theorem zsq (tm:Env) (i:Nat) (r:List Nat):keep tm (i::r)=(i,zc tm i)::keep tm r:=rfl
theorem zsz:zhM []=true:=rfl
theorem zqG (i:Nat) (v:AV) (r:Env):zhM ((i,v)::r)=(zD v&&zhM r):=rfl
theorem zpG (k:IntKind) (n:Int):zD (.int k n)=true:=(rfl)
theorem zzt (b:Bool):zD (.bool b)=true:=(rfl)
theorem zFh (s:List Nat):zD (.str s)=true:=(rfl)
theorem zy8:zD .nils=true:=(rfl)
theorem zC1 (e:Bool) (n:Nat) (cs:List AV):zD (.vsl e n cs)=true:=(rfl)
theorem zz2 (cs:List AV):zD (.vptr cs)=true:=(rfl)
theorem zwW:zD .undef=true:=(rfl)
attribute [go_sem] zcw zom zvq zsq zsz zqG zpG zzt zFh zy8 zC1 zz2 zwW Bool.and_true Bool.true_and
attribute [go_sem] zEM zEU zGJ zHy zJM zHY zdh zDG zGF zas zyF zzG zqZ zAD zzj zy1 zAK zqT zAZ zFs zEj zyO zy4
 zyB zuO zto zAF zGu zIb zvG zvF zuZ zxM zyK zCS zFz zt0 zqq zuq ztO zj8 ztR zva ztC zx3 zuM zsZ
 zJZ zJN zE0 zAQ zvB zGE zAw zEr zHg zGC zGl zEx zDZ zEo zFP zCO zCN zCU zDg zEY zFH zDw zAc zEs zD4 zEW zHX zFI zwP zx2 zwB
 zzD zzx zAE zAe zyG zFO zEN zFR zDj zEG zIV zvp ztW zzy zFj zwR zGx zHH zGv zG2 zHA
 zpD zoq zqk zo1 zqF zuE zti zxr zs8 zxA zvJ zo zAJ zwi zt3 zqb zse zpH zs5 zqf zss ztm zcl
 zvP zsH zEX zDF zAj zxR zyZ zuQ zz4 zvL
 zET zEe zHO zpq zE7 zFQ zDD zDT zC6 zDI zDc zDP zC2 zEc zzT zrK zjR zq5 zz5 zzq zAb zAN zyA zzE zE3 zDN zvO zA5 zAI zA9 zhE zDf zHt zHG zKk zIX zKD zJ8
 List.nil_append List.append_nil List.cons_append decide_true decide_false Bool.not_true Bool.not_false ne_eq not_false_eq_true
end VE
end
section
namespace VE
open Go (IntKind)
abbrev zh (n:Int):AV:= .int .i64 n
def IsL (v:AV) (cs:List AV):Prop:=(v= .nils∧cs=[])∨∃e,v= .vsl e cs.length cs
section
variable {v:AV} {cs:List AV} {hp:Hp}
theorem IsL.len (h:IsL v cs) {hp:Hp}:zcs hp 1 v=some (.int .i64 (cs.length:Nat)):=by
 rcases h with ⟨rfl,rfl⟩ | ⟨e,rfl⟩<;>rfl
theorem IsL.pu (h:IsL v cs):zD v=true:=by
 rcases h with ⟨rfl,rfl⟩ | ⟨e,rfl⟩<;>rfl
theorem IsL.frz (h:IsL v cs) (n:Nat) {hp:Hp}:zah (n+1) hp v=some (v,hp):=by
 rcases h with ⟨rfl,rfl⟩ | ⟨e,rfl⟩<;>rfl
theorem IsL.shut (h:IsL v cs):shut v=v:=by
 rcases h with ⟨rfl,rfl⟩ | ⟨e,rfl⟩<;>rfl
theorem IsL.shut1 (h:IsL v cs):shut1 v=v:=by
 rcases h with ⟨rfl,rfl⟩ | ⟨e,rfl⟩<;>rfl
theorem IsL.res (h:IsL v cs) {hp:Hp}:zaP hp v=some v:=by
 rcases h with ⟨rfl,rfl⟩ | ⟨e,rfl⟩<;>rfl
theorem IsL.ixa (h:IsL v cs) {i:Nat} (hi:i<cs.length):zdG 1 i v=some (.vptr (cs[i]::cs.drop (i+1))):=by
 rcases h with ⟨rfl,rfl⟩ | ⟨e,rfl⟩
 ·exact absurd hi (Nat.not_lt_zero i)
 ·rw [zrT e _ hi,Nat.mul_one,List.drop_eq_getElem_cons hi]
theorem IsL.one (h:IsL v cs):zX v=true:=by
 rcases h with ⟨rfl,rfl⟩ | ⟨e,rfl⟩<;>rfl
theorem IsL.cells (h:IsL v cs):cellsOf v=[v]:=by
 rcases h with ⟨rfl,rfl⟩ | ⟨e,rfl⟩<;>rfl
theorem znw (e:Bool) (cs:List AV):IsL (.vsl e cs.length cs) cs:= .inr ⟨e,rfl⟩
theorem zen:IsL .nils []:= .inl ⟨rfl,rfl⟩
end
def IsI (v:AV) (l:List Int):Prop:=IsL v (l.map zh)
section
variable {v:AV} {l:List Int}
theorem IsI.len (h:IsI v l) {hp:Hp}:zcs hp 1 v=some (.int .i64 (l.length:Nat)):=by
 have:=IsL.len (hp:=hp) h
 rwa [List.length_map] at this
theorem IsI.pu (h:IsI v l):zD v=true:=IsL.pu h
theorem IsI.frz (h:IsI v l) (n:Nat) {hp:Hp}:zah (n+1) hp v=some (v,hp):=IsL.frz h n
theorem IsI.shut (h:IsI v l):VE.shut v=v:=IsL.shut h
theorem IsI.shut1 (h:IsI v l):VE.shut1 v=v:=IsL.shut1 h
theorem IsI.res (h:IsI v l) {hp:Hp}:zaP hp v=some v:=IsL.res h
theorem IsI.one (h:IsI v l):zX v=true:=IsL.one h
theorem IsI.cells (h:IsI v l):cellsOf v=[v]:=IsL.cells h
theorem IsI.ixa (h:IsI v l) {i:Nat} (hi:i<l.length):zdG 1 i v=some (.vptr (.int .i64 l[i]::(l.map zh).drop (i+1))):=by
 have:=IsL.ixa h (i:=i) (by simpa using hi)
 rw [this];simp
theorem za8 (e:Bool) (l:List Int):IsI (.vsl e l.length (l.map zh)) l:=by
 have:=znw e (l.map zh)
 rwa [List.length_map] at this
end
def All2 {α β:Type} (p:α→β→Prop):List α→List β→Prop
 | [],[]=>True
 | a::r,b::s=>p a b∧All2 p r s
 | _,_=>False
section
variable {α β:Type} {p:α→β→Prop}
theorem All2.len:∀{l:List α} {m:List β},All2 p l m→l.length=m.length
 | [],[],_=>rfl
 | _::_,_::_,h=>by rw [List.length_cons,List.length_cons,h.2.len]
theorem All2.get:∀{l:List α} {m:List β} (_:All2 p l m) {i:Nat} (h1:i<l.length) (h2:i<m.length),p l[i] m[i]
 | a::r,b::s,h,0,_,_=>h.1
 | a::r,b::s,h,i+1,h1,h2=>by
  simp only [List.getElem_cons_succ];exact h.2.get (by simpa using h1) (by simpa using h2)
theorem All2.append:∀{l l':List α} {m m':List β},All2 p l m→All2 p l' m'→All2 p (l++l') (m++m')
 | [],_,[],_,_,h=>h
 | _::_,_,_::_,_,h,k=>⟨h.1,h.2.append k⟩
end
def IsS (v:AV) (s:List (List Int)):Prop:=∃rows,IsL v rows∧All2 IsI rows s
section
variable {v:AV} {s:List (List Int)}
theorem IsS.len (h:IsS v s) {hp:Hp}:zcs hp 1 v=some (.int .i64 (s.length:Nat)):=by
 obtain ⟨rows,h1,h2⟩:=h;rw [←h2.len];exact h1.len
theorem IsS.pu (h:IsS v s):zD v=true:=by obtain ⟨rows,h1,h2⟩:=h;exact h1.pu
theorem IsS.frz (h:IsS v s) (n:Nat) {hp:Hp}:zah (n+1) hp v=some (v,hp):=by obtain ⟨rows,h1,h2⟩:=h;exact h1.frz n
theorem IsS.shut (h:IsS v s):VE.shut v=v:=by obtain ⟨rows,h1,h2⟩:=h;exact h1.shut
theorem IsS.shut1 (h:IsS v s):VE.shut1 v=v:=by obtain ⟨rows,h1,h2⟩:=h;exact h1.shut1
theorem IsS.res (h:IsS v s) {hp:Hp}:zaP hp v=some v:=by obtain ⟨rows,h1,h2⟩:=h;exact h1.res
theorem IsS.one (h:IsS v s):zX v=true:=by obtain ⟨rows,h1,h2⟩:=h;exact h1.one
theorem IsS.cells (h:IsS v s):cellsOf v=[v]:=by obtain ⟨rows,h1,h2⟩:=h;exact h1.cells
theorem IsS.ixa (h:IsS v s) {i:Nat} (hi:i<s.length):∃r rest,IsI r s[i]∧zdG 1 i v=some (.vptr (r::rest)):=by
 obtain ⟨rows,h1,h2⟩:=h;have hi':i<rows.length:=by rw [h2.len];exact hi
 exact ⟨_,_,h2.get hi' hi,h1.ixa hi'⟩
end
theorem zf {n:Int} (h1: -9223372036854775808≤n) (h2:n<9223372036854775808):IntKind.wrap .i64 n=n:=by
 simp only [IntKind.wrap,IntKind.bits,IntKind.signed,Bool.true_and]
 split<;>rename_i h<;>simp at h<;>omega
theorem zF {n:Nat} (h:n<9223372036854775808):IntKind.wrap .i64 (n:Int)=n:=zf (by omega) (by omega)
end VE
end
