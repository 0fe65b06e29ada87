import Derived.Attr
import Derived.Test.YtknmjihnfgolpaaGreatDoorTbe
import Derived.Test.YtknmjihnfgolpaaGreatDoorTas
set_option linter.all false
set_option maxRecDepth 100000
open Nat (reduceEqDiff)
section
namespace VE
open Go (IntKind BinOp UnOp)
section
variable {P:zU} {L:Lib}
structure Has (P:zU) (L:Lib) (n:Nat) (F:Fnc):Prop where
 pure:L.pure n=none
 heap:L.heap n=none
 code:P n=some F
noncomputable def zfp (P:zU) (L:Lib) (r:Option (Ex×St)) (b:VC):Option (Ex×St):=match r with | some (.normal,s)=>D P L b s | r=>r
def zg3 (id:Nat) (r:Option (Ex×St)):Option (Ex×St):=match r with | some (.exit j,s)=>bif Nat.beq j id then some (.normal,s) else some (.exit j,s) | r=>r
noncomputable def zox (P:zU) (L:Lib) (live:List Nat) (a:VC) (r:Option (Ex×St)):Option (Ex×St):=match r with | some (.normal,s)=>D P L (.loop live a) s | r=>r
def zAv (r:Option St):Option (Ex×St):=match r with | some s=>some (.normal,s) | none=>none
noncomputable def ztx (P:zU) (L:Lib) (v:AV) (a b:VC) (s:St):Option (Ex×St):=match v with | .bool t=>bif t then D P L a s else D P L b s | _=>none
theorem zEJ (s:St):D P L .skip s=some (.normal,s):=by rw [zgg];rfl
theorem zJD (id:Nat) (s:St):D P L (.exit id) s=some (.exit id,s):=by rw [zgg];rfl
theorem zNo (s:St):D P L .ret s=some (.ret,s):=by rw [zgg];rfl
theorem zOe (live:List Nat) (s:St):D P L (.kp live) s=some (.normal,zC live s):=by rw [zgg];rfl
theorem zQr (ts:List Nat) (s:St):D P L (.fz ts) s=zAv (zfq ts s):=by rw [zgg];rfl
theorem zNC (ops:List ROp) (s:St):D P L (.reg ops) s=zAv (zaM P L (D P L) ops s):=by rw [zgg];rfl
theorem zd8 (a b:VC) (s:St):D P L (.seq a b) s=zfp P L (D P L a s) b:=by
 rw [zgg,zgg a];simp only [zK,zfp]
 cases zK P L (D P L) a s with
 | none=>rfl
 | some q=>
  obtain ⟨e,s1⟩:=q
  cases e with
  | normal=>exact (zgg b s1).symm
  | ret=>rfl
  | exit id=>rfl
theorem zMI (x:X) (a b:VC) (s:St):D P L (.cond x a b) s=ztx P L (zq s.tm x) a b s:=by
 rw [zgg];simp only [zK,ztx]
 cases zq s.tm x with
 | bool t=>
  cases t with
  | true=>exact (zgg a s).symm
  | false=>exact (zgg b s).symm
 | _=>rfl
theorem zN0 (id:Nat) (a:VC) (s:St):D P L (.blk id a) s=zg3 id (D P L a s):=by
 rw [zgg,zgg a];simp only [zK,zg3]
 cases zK P L (D P L) a s with
 | none=>rfl
 | some q=>obtain ⟨e,s1⟩:=q;cases e<;>rfl
theorem zmP (live:List Nat) (a:VC) (s:St):D P L (.loop live a) s=zox P L live a (D P L a (zC live s)):=by
 rw [zgg,zgg a];simp only [zK,zox]
 cases zK P L (D P L) a (zC live s) with
 | none=>rfl
 | some q=>obtain ⟨e,s1⟩:=q;cases e<;>rfl
theorem zaL (s:St) (b:VC):zfp P L (some (.normal,s)) b=D P L b s:=rfl
theorem zAo (s:St) (b:VC):zfp P L (some (.ret,s)) b=some (.ret,s):=rfl
theorem zDC (id:Nat) (s:St) (b:VC):zfp P L (some (.exit id,s)) b=some (.exit id,s):=rfl
theorem zqA (live:List Nat) (a:VC) (s:St):zox P L live a (some (.normal,s))=D P L (.loop live a) s:=rfl
theorem zAj (live:List Nat) (a:VC) (s:St):zox P L live a (some (.ret,s))=some (.ret,s):=rfl
theorem zBU (live:List Nat) (a:VC) (id:Nat) (s:St):zox P L live a (some (.exit id,s))=some (.exit id,s):=rfl
theorem zC2 (id:Nat) (s:St):zg3 id (some (.normal,s))=some (.normal,s):=rfl
theorem zB8 (id:Nat) (s:St):zg3 id (some (.ret,s))=some (.ret,s):=rfl
theorem zr0 (id:Nat) (s:St):zg3 id (some (.exit id,s))=some (.normal,s):=by simp only [zg3,Nat.beq_refl,cond_true]
theorem zC3 {id j:Nat} (s:St) (h:j≠id):zg3 id (some (.exit j,s))=some (.exit j,s):=by
 have:Nat.beq j id=false:=by
  cases hq:Nat.beq j id with
  | false=>rfl
  | true=>exact absurd (Nat.eq_of_beq_eq_true hq) h
 simp only [zg3,this,cond_false]
theorem zLW (s:St):zAv (some s)=some (.normal,s):=rfl
theorem zHZ:zAv none=none:=rfl
theorem zDw (a b:VC) (s:St):ztx P L (.bool true) a b s=D P L a s:=rfl
theorem zBV (a b:VC) (s:St):ztx P L (.bool false) a b s=D P L b s:=rfl
noncomputable def zvY (P:zU) (L:Lib) (d:Option Nat) (r:List ROp) (tm:Env) (base:Nat) (q:Res):Option St:=
 match q with | some (v,hp,ct)=>zaM P L (D P L) r ⟨put d v tm,hp,ct,base⟩ | none=>none
noncomputable def zgw (P:zU) (L:Lib) (v:AV) (b:Bool) (d:Option Nat) (o:Op) (r:List ROp) (s:St):Option St:=
 match v with
 | .bool c=>bif c==b then zaM P L (D P L) (⟨d,none,o⟩::r) s else zaM P L (D P L) r ⟨put d (.tup []) s.tm,s.hp,s.ct,s.base⟩
 | .tup []=>zaM P L (D P L) r ⟨put d (.tup []) s.tm,s.hp,s.ct,s.base⟩
 | _=>none
theorem zCB (s:St):zaM P L (D P L) [] s=some s:=rfl
theorem zzb (d:Option Nat) (o:Op) (r:List ROp) (tm:Env) (hp:Hp) (ct base:Nat):
  zaM P L (D P L) (⟨d,none,o⟩::r) ⟨tm,hp,ct,base⟩=zvY P L d r tm base (zaa P L (D P L) tm hp ct o):=by
 simp only [zaM,zvY];cases zaa P L (D P L) tm hp ct o<;>rfl
theorem zuj (d:Option Nat) (t:Nat) (b:Bool) (o:Op) (r:List ROp) (tm:Env) (hp:Hp) (ct base:Nat):
  zaM P L (D P L) (⟨d,some (t,b),o⟩::r) ⟨tm,hp,ct,base⟩=zgw P L (zc tm t) b d o r ⟨tm,hp,ct,base⟩:=by
 simp only [zaM,zgw]
 cases zc tm t with
 | bool c=>
  simp only
  cases hc:(c==b) with
  | true=>simp only [cond_true]
  | false=>simp only [cond_false]
 | tup vs=>cases vs<;>rfl
 | _=>rfl
theorem zB3 (d:Option Nat) (r:List ROp) (tm:Env) (base:Nat) (v:AV) (hp:Hp) (ct:Nat):zvY P L d r tm base (some (v,hp,ct))=zaM P L (D P L) r ⟨put d v tm,hp,ct,base⟩:=rfl
theorem zOF (i:Nat) (v:AV) (tm:Env):put (some i) v tm=(i,v)::tm:=rfl
theorem zOB (v:AV) (tm:Env):put none v tm=tm:=rfl
theorem zxT (d:Option Nat) (o:Op) (r:List ROp) (s:St):zgw P L (.bool true) true d o r s=zaM P L (D P L) (⟨d,none,o⟩::r) s:=rfl
theorem zyp (d:Option Nat) (o:Op) (r:List ROp) (s:St):zgw P L (.bool false) false d o r s=zaM P L (D P L) (⟨d,none,o⟩::r) s:=rfl
theorem zx0 (d:Option Nat) (o:Op) (r:List ROp) (tm:Env) (hp:Hp) (ct base:Nat):zgw P L (.bool true) false d o r ⟨tm,hp,ct,base⟩=zaM P L (D P L) r ⟨put d (.tup []) tm,hp,ct,base⟩:=rfl
theorem zyS (d:Option Nat) (o:Op) (r:List ROp) (tm:Env) (hp:Hp) (ct base:Nat):zgw P L (.bool false) true d o r ⟨tm,hp,ct,base⟩=zaM P L (D P L) r ⟨put d (.tup []) tm,hp,ct,base⟩:=rfl
theorem zAm (b:Bool) (d:Option Nat) (o:Op) (r:List ROp) (tm:Env) (hp:Hp) (ct base:Nat):zgw P L (.tup []) b d o r ⟨tm,hp,ct,base⟩=zaM P L (D P L) r ⟨put d (.tup []) tm,hp,ct,base⟩:=rfl
theorem zaQ {j i:Nat} (h:j≠i):Nat.beq j i=false:=by
 cases hq:Nat.beq j i with
 | false=>rfl
 | true=>exact absurd (Nat.eq_of_beq_eq_true hq) h
theorem zGC (tm:Env) (i:Nat):zq tm (.t i)=zc tm i:=rfl
theorem zF8 (tm:Env) (v:AV):zq tm (.c v)=v:=rfl
theorem ztK (tm:Env):zaG tm []=[]:=rfl
theorem zqd (tm:Env) (x:X) (r:List X):zaG tm (x::r)=zq tm x::zaG tm r:=rfl
theorem zyY (i:Nat) (v:AV) (r:Env):zc ((i,v)::r) i=v:=by simp only [zc,Nat.beq_refl,cond_true]
theorem zuf {j i:Nat} (v:AV) (r:Env) (h:j≠i):zc ((j,v)::r) i=zc r i:=by simp only [zc,zaQ h,cond_false]
theorem zjF (i:Nat) (o:Obj) (r:Hp):zt ((i,o)::r) i=some o:=by simp only [zt,Nat.beq_refl,cond_true]
theorem zuz {j i:Nat} (o:Obj) (r:Hp) (h:j≠i):zt ((j,o)::r) i=zt r i:=by simp only [zt,zaQ h,cond_false]
theorem zxY (i:Nat) (o u:Obj) (r:Hp):zad ((i,o)::r) i u=(i,u)::r:=by simp only [zad,Nat.beq_refl,cond_true]
theorem zuF {j i:Nat} (o u:Obj) (r:Hp) (h:j≠i):zad ((j,o)::r) i u=(j,o)::zad r i u:=by simp only [zad,zaQ h,cond_false]
theorem zwz (i:Nat):hdel [] i=[]:=rfl
theorem zyD (i:Nat) (o:Obj) (r:Hp):hdel ((i,o)::r) i=hdel r i:=by simp only [hdel,Nat.beq_refl,cond_true]
theorem zt6 {j i:Nat} (o:Obj) (r:Hp) (h:j≠i):hdel ((j,o)::r) i=(j,o)::hdel r i:=by simp only [hdel,zaQ h,cond_false]
def rd (hp:Hp) (ct:Nat) (q:Option AV):Res:=match q with | some v=>some (v,hp,ct) | none=>none
def mk (hp:Hp) (ct:Nat) (q:Option (AV×Obj)):Res:=match q with | some (v,b)=>some (v,(ct,b)::hp,ct+1) | none=>none
theorem zQ7 (hp:Hp) (ct:Nat) (v:AV):rd hp ct (some v)=some (v,hp,ct):=rfl
theorem zRq (hp:Hp) (ct:Nat) (v:AV) (b:Obj):mk hp ct (some (v,b))=some (v,(ct,b)::hp,ct+1):=rfl
def zxr (c a b:AV):Option AV:=match c with | .bool t=>some (bif t then a else b) | _=>none
def asO (k:Nat→Option AV) (n:Option Nat):Option AV:=match n with | some i=>k i | none=>none
def zDJ (r:Option (List AV)):Option AV:=match r with | some cs=>some (.agg cs) | none=>none
def zxV (ne:Bool) (r:Option Bool):Option AV:=match r with | some b=>some (.bool (ne !=b)) | none=>none
def zQl:AV→Option AV
 | .ptr id o=>some (.ptr id o)
 | .vptr cs=>some (.vptr cs)
 | .fn f a b=>some (.fn f a b)
 | _=>none
def zxI (i:Nat):AV→Option AV | .tup vs=>vs[i]? | _=>none
section
variable {f:Run} {tm:Env} {hp:Hp} {ct:Nat}
theorem zK9 (x:X):zaa P L f tm hp ct (.mov x)=some (zq tm x,hp,ct):=rfl
theorem zCu (c a b:X):zaa P L f tm hp ct (.pick c a b)=rd hp ct (zxr (zq tm c) (zq tm a) (zq tm b)):=by
 rfl
theorem zw1 (z:List AV) (ps:List (Nat×Nat×X)):zaa P L f tm hp ct (.mkagg z ps)=rd hp ct (zDJ (fill tm z ps)):=by
 rfl
theorem zOb (sz:Nat) (ag:Bool) (x:X):zaa P L f tm hp ct (.ld sz ag x)=rd hp ct (zeD hp sz ag (zq tm x)):=rfl
theorem zBb (x:X):zaa P L f tm hp ct (.nilc x)=rd hp ct (zQl (zq tm x)):=by
 rfl
theorem zEv (op:BinOp) (x y:X):zaa P L f tm hp ct (.bin op x y)=rd hp ct (binOp op (zq tm x) (zq tm y)):=rfl
theorem zPA (ne:Bool) (k:EqK) (x y:X):zaa P L f tm hp ct (.eq ne k x y)=rd hp ct (zxV ne (zeC k (zq tm x) (zq tm y))):=by
 rfl
theorem zOa (op:UnOp) (x:X):zaa P L f tm hp ct (.un op x)=rd hp ct (unOp op (zq tm x)):=rfl
theorem zOr (k:Conv) (x:X):zaa P L f tm hp ct (.cv k x)=rd hp ct (zi3 k (zq tm x)):=rfl
theorem zLz (g:Fr) (a b:List X):zaa P L f tm hp ct (.mkf g a b)=some (.fn g (zaG tm a) (zaG tm b),hp,ct):=rfl
theorem zIm (k:Cut) (x:X) (lo hi:Option X):zaa P L f tm hp ct (.sli k x lo hi)=rd hp ct (zbn hp k (zq tm x) tm lo hi):=rfl
theorem zMo (k:Nat) (x:X):zaa P L f tm hp ct (.off k x)=rd hp ct (zof k (zq tm x)):=rfl
theorem zFw (o sz:Nat) (ag:Bool) (x:X):zaa P L f tm hp ct (.fld o sz ag x)=rd hp ct (zq6 o sz ag (zq tm x)):=rfl
theorem zJv (sz:Nat) (x i:X):zaa P L f tm hp ct (.ixa sz x i)=rd hp ct (asO (fun j=>zdl sz j (zq tm x)) (zaN (zq tm i))):=by
 rfl
theorem zHv (n sz:Nat) (x i:X):zaa P L f tm hp ct (.ixp n sz x i)=rd hp ct (asO (fun j=>zsK n sz j (zq tm x)) (zaN (zq tm i))):=by
 rfl
theorem zGa (x i:X):zaa P L f tm hp ct (.ixs x i)=rd hp ct (asO (fun j=>zem j (zq tm x)) (zaN (zq tm i))):=by
 rfl
theorem zGG (n sz:Nat) (ag:Bool) (x i:X):zaa P L f tm hp ct (.ixv n sz ag x i)=rd hp ct (asO (fun j=>zsJ n sz ag j (zq tm x)) (zaN (zq tm i))):=by
 rfl
theorem zFd (i:Nat) (x:X):zaa P L f tm hp ct (.ext i x)=rd hp ct (zxI i (zq tm x)):=by
 rfl
theorem zLf (k:Nat) (x:X):zaa P L f tm hp ct (.len k x)=rd hp ct (zcl hp k (zq tm x)):=rfl
theorem zFN (sz:Nat) (x:X):zaa P L f tm hp ct (.box sz x)=mk hp ct (zac tm hp ct (.box sz x)):=rfl
theorem zC8 (n sz:Nat) (z:List AV) (ps:List (Nat×Nat×X)):zaa P L f tm hp ct (.mksl n sz z ps)=mk hp ct (zac tm hp ct (.mksl n sz z ps)):=rfl
theorem zIn (sz by':Nat) (z:List AV) (l c:X):zaa P L f tm hp ct (.mks sz by' z l c)=mk hp ct (zac tm hp ct (.mks sz by' z l c)):=rfl
theorem zKd:zaa P L f tm hp ct .mkm=some (.map ct,(ct,.mp true [] [])::hp,ct+1):=rfl
theorem zHg (x:X):zaa P L f tm hp ct (.rng x)=mk hp ct (zac tm hp ct (.rng x)):=rfl
theorem zO1 (sz:Nat) (x v:X):zaa P L f tm hp ct (.st sz x v)=zX tm hp ct (.st sz x v):=rfl
theorem zLB (sz by':Nat) (s x:X):zaa P L f tm hp ct (.app sz by' s x)=zX tm hp ct (.app sz by' s x):=rfl
def zrG (hp:Hp) (ct:Nat) (r:Option AV):Res:=match r with | some v=>some (shut v,hp,ct) | none=>none
def zz6 (hp:Hp) (ct:Nat) (r:Option AV):Res:=match r with | some v=>some (own hp ct v) | none=>none
def zzS (P:zU) (L:Lib) (f:Run) (ct n:Nat) (q:Option (List AV×Hp)):Res:=match q with | some (vals,hp)=>zrG hp ct (zj P L f n vals) | none=>none
def zxd (P:zU) (L:Lib) (f:Run) (ct n:Nat) (q:Option (List AV×Hp)):Res:=match q with | some (vals,hp)=>zz6 hp ct (zj P L f n vals) | none=>none
def zwk (P:zU) (L:Lib) (f:Run) (hp:Hp) (ct:Nat) (fv:AV) (xs:List AV):Res:=zaD P L f hp ct .pure fv xs
def zyv (P:zU) (L:Lib) (f:Run) (hp:Hp) (ct:Nat) (fv:AV) (xs:List AV):Res:=zaD P L f hp ct .own fv xs
theorem zyh (g:X) (xs:List X):zaa P L f tm hp ct (.call .pure g xs)=zwk P L f hp ct (zq tm g) (zaG tm xs):=rfl
theorem zxR (g:X) (xs:List X):zaa P L f tm hp ct (.call .own g xs)=zyv P L f hp ct (zq tm g) (zaG tm xs):=rfl
theorem zyL (g:X) (xs:List X):zaa P L f tm hp ct (.call .heap g xs)=zaD P L f hp ct .heap (zq tm g) (zaG tm xs):=rfl
theorem zDd (n:Nat) (first cap xs:List AV):zwk P L f hp ct (.fn (.f n) first cap) xs=zzS P L f ct n (zV zcP hp (first++(xs++cap))):=by
 simp only [zwk,zaD,zzS,zrG]
 cases zV zcP hp (first++(xs++cap)) with
 | none=>rfl
 | some q=>cases zj P L f n q.1<;>rfl
theorem zBe (n:Nat) (first cap xs:List AV):zyv P L f hp ct (.fn (.f n) first cap) xs=zxd P L f ct n (zV zcP hp (first++(xs++cap))):=by
 simp only [zyv,zaD,zxd,zz6]
 cases zV zcP hp (first++(xs++cap)) with
 | none=>rfl
 | some q=>cases zj P L f n q.1<;>rfl
theorem zB1 (n:Nat) (vals:List AV):zzS P L f ct n (some (vals,hp))=zrG hp ct (zj P L f n vals):=rfl
theorem zCV (n:Nat) (vals:List AV):zxd P L f ct n (some (vals,hp))=zz6 hp ct (zj P L f n vals):=rfl
theorem zBB (v:AV):zrG hp ct (some v)=some (shut v,hp,ct):=rfl
theorem zKQ (v:AV):zz6 hp ct (some v)=some (own hp ct v):=rfl
def zCg (hp:Hp) (r:Option AV):Option AV:=match r with | some v=>zaR hp v | none=>none
def zdE (rs:List RV) (q:Option (Ex×St)):Option AV:=
 match q with
 | some (.normal,s) | some (.ret,s)=>zCg s.hp (zax s rs)
 | _=>none
theorem zd {n:Nat} {F:Fnc} (h:Has P L n F) (vals:List AV):zj P L f n vals=zdE F.res (f F.body ⟨zai 0 vals,[],0,0⟩):=by
 simp only [zj,h.pure,h.code]
 cases hq:f F.body ⟨zai 0 vals,[],0,0⟩ with
 | none=>rfl
 | some q=>
  obtain ⟨e,s⟩:=q
  cases e with
  | normal=>rfl
  | ret=>rfl
  | exit id=>rfl
theorem zJY (rs:List RV) (s:St):zdE rs (some (.normal,s))=zCg s.hp (zax s rs):=rfl
theorem zFK (rs:List RV) (s:St):zdE rs (some (.ret,s))=zCg s.hp (zax s rs):=rfl
theorem zGu (v:AV):zCg hp (some v)=zaR hp v:=rfl
theorem zLC (r:RV) (s:St):zax s [r]=zbO s r:=by
 simp only [zax,zbb];cases zbO s r<;>rfl
def zPn (r:Option (List AV)):Option AV:=match r with | some vs=>some (.tup vs) | none=>none
theorem zQY (r q:RV) (l:List RV) (s:St):zax s (r::q::l)=zPn (zbb s (r::q::l)):=by
 simp only [zax,zbb];cases zbO s r<;>cases zbO s q<;>cases zbb s l<;>rfl
def zD1 (r:Option AV) (l:Option (List AV)):Option (List AV):=match r,l with | some v,some vs=>some (v::vs) | _,_=>none
theorem zwU (s:St):zbb s []=some []:=rfl
theorem ztD (r:RV) (l:List RV) (s:St):zbb s (r::l)=zD1 (zbO s r) (zbb s l):=rfl
theorem zDl (v:AV) (vs:List AV):zD1 (some v) (some vs)=some (v::vs):=rfl
theorem zMl (vs:List AV):zPn (some vs)=some (.tup vs):=rfl
theorem zx3 (i:Nat) (s:St):zbO s (.t i)=some (zc s.tm i):=rfl
theorem zOD (a:AV):zai 0 [a]=[(0,a)]:=rfl
theorem zNS (a b:AV):zai 0 [a,b]=[(0,a),(1,b)]:=rfl
theorem zN8 (a b c:AV):zai 0 [a,b,c]=[(0,a),(1,b),(2,c)]:=rfl
theorem zM9 (a b c d:AV):zai 0 [a,b,c,d]=[(0,a),(1,b),(2,c),(3,d)]:=rfl
theorem zPd (a b c d e:AV):zai 0 [a,b,c,d,e]=[(0,a),(1,b),(2,c),(3,d),(4,e)]:=rfl
theorem zpR (k:IntKind) (n:Int):zaR hp (.int k n)=some (.int k n):=rfl
theorem znK (b:Bool):zaR hp (.bool b)=some (.bool b):=rfl
theorem zp8 (s:List Nat):zaR hp (.str s)=some (.str s):=rfl
theorem zn1:zaR hp .nils=some .nils:=rfl
theorem zqc (e:Bool) (n:Nat) (cs:List AV):zaR hp (.vsl e n cs)=some (.vsl e n cs):=rfl
theorem zzR (k:IntKind) (n:Int):shut (.int k n)= .int k n:=rfl
theorem zus (b:Bool):shut (.bool b)= .bool b:=rfl
theorem zyR (s:List Nat):shut (.str s)= .str s:=rfl
theorem zvm:shut .nils= .nils:=rfl
theorem zxN (e:Bool) (n:Nat) (cs:List AV):shut (.vsl e n cs)= .vsl e n cs:=rfl
theorem zv0 (e:Bool) (sz n:Nat) (cs:List AV):shut (.fsl e sz n cs)= .vsl e n cs:=rfl
theorem zD (cs:List AV):shut (.agg cs)= .agg cs:=rfl
theorem zAe (g:Fr) (a b:List AV):shut (.fn g a b)= .fn g a b:=rfl
theorem zwe (vs:List AV):shut (.tup vs)= .tup (zhA vs):=rfl
theorem zup:zhA []=[]:=rfl
theorem zpJ (v:AV) (r:List AV):zhA (v::r)=shut1 v::zhA r:=rfl
theorem zt4 (k:IntKind) (n:Int):shut1 (.int k n)= .int k n:=rfl
theorem zoZ (b:Bool):shut1 (.bool b)= .bool b:=rfl
theorem zu5 (s:List Nat):shut1 (.str s)= .str s:=rfl
theorem zp4:shut1 .nils= .nils:=rfl
theorem zvF (e:Bool) (n:Nat) (cs:List AV):shut1 (.vsl e n cs)= .vsl e n cs:=rfl
theorem zvA (e:Bool) (sz n:Nat) (cs:List AV):shut1 (.fsl e sz n cs)= .vsl e n cs:=rfl
theorem zbS (cs:List AV):shut1 (.agg cs)= .agg cs:=rfl
def zGm (n:Nat) (r:List AV) (q:Option (AV×Hp)):Option (List AV×Hp):=match q with | some (v,hp)=>(match zV n hp r with | some (vs,hp2)=>some (v::vs,hp2) | none=>none) | none=>none
def zPl (v:AV) (q:Option (List AV×Hp)):Option (List AV×Hp):=match q with | some (vs,hp)=>some (v::vs,hp) | none=>none
theorem zyN (n:Nat):zV (n+1) hp []=some ([],hp):=rfl
theorem ztV (n:Nat) (v:AV) (r:List AV):zV (n+1) hp (v::r)=zGm n r (zal n hp v):=by
 simp only [zV,zGm];cases zal n hp v<;>rfl
theorem zIy (n:Nat) (r:List AV) (v:AV):zGm n r (some (v,hp))=zPl v (zV n hp r):=by
 rfl
theorem zHa (v:AV) (vs:List AV):zPl v (some (vs,hp))=some (v::vs,hp):=rfl
theorem zCU (n:Nat) (k:IntKind) (a:Int):zal (n+1) hp (.int k a)=some (.int k a,hp):=rfl
theorem zv8 (n:Nat) (b:Bool):zal (n+1) hp (.bool b)=some (.bool b,hp):=rfl
theorem zCp (n:Nat) (s:List Nat):zal (n+1) hp (.str s)=some (.str s,hp):=rfl
theorem zxq (n:Nat):zal (n+1) hp .nils=some (.nils,hp):=rfl
theorem zDi (n:Nat) (e:Bool) (k:Nat) (cs:List AV):zal (n+1) hp (.vsl e k cs)=some (.vsl e k cs,hp):=rfl
theorem zwi (n:Nat) (cs:List AV):zal (n+1) hp (.vptr cs)=some (.vptr cs,hp):=rfl
end
end
section
variable {hp:Hp}
theorem zHT (a b:AV):zxr (.bool true) a b=some a:=rfl
theorem zMw (a b:AV):zxr (.bool false) a b=some b:=rfl
theorem zPa (k:Nat→Option AV) (n:Nat):asO k (some n)=k n:=rfl
theorem zp3 (k:IntKind) (n:Nat):zaN (.int k (n:Int))=some n:=rfl
theorem zJ7 (k:IntKind):zaN (.int k 0)=some 0:=rfl
theorem zLl (k:IntKind):zaN (.int k 1)=some 1:=rfl
theorem zFE (k:IntKind):zaN (.int k 2)=some 2:=rfl
theorem zEZ (k:IntKind):zaN (.int k 3)=some 3:=rfl
theorem zJq (k:IntKind):zaN (.int k 4)=some 4:=rfl
theorem zE3 (k:IntKind):zaN (.int k 5)=some 5:=rfl
theorem zKD (k:IntKind):zaN (.int k 6)=some 6:=rfl
theorem zKI (k:IntKind):zaN (.int k 7)=some 7:=rfl
theorem zFC (k:IntKind):zaN (.int k 8)=some 8:=rfl
theorem zH2 (k:IntKind):zaN (.int k 9)=some 9:=rfl
theorem zDn (cs:List AV):zDJ (some cs)=some (.agg cs):=rfl
theorem zsH (k:IntKind) (a b:Int):binOp .add (.int k a) (.int k b)=some (.int k (k.wrap (a+b))):=by simp [binOp,zdF]
theorem zjl (k:IntKind) (a b:Int):binOp .sub (.int k a) (.int k b)=some (.int k (k.wrap (a-b))):=by simp [binOp,zdF]
theorem zqJ (k:IntKind) (a b:Int):binOp .mul (.int k a) (.int k b)=some (.int k (k.wrap (a*b))):=by simp [binOp,zdF]
theorem zaC (k:IntKind) (a b:Int) (h:b≠0):binOp .quo (.int k a) (.int k b)=some (.int k (k.wrap (a.tdiv b))):=by simp [binOp,zdF,h]
theorem zaO (k:IntKind) (a b:Int) (h:b≠0):binOp .rem (.int k a) (.int k b)=some (.int k (a.tmod b)):=by simp [binOp,zdF,h]
theorem zCo (k:IntKind) (a b:Int):binOp .eql (.int k a) (.int k b)=some (.bool (decide (a=b))):=by
 simp [binOp,zdF,intCmp,BEq.beq]
theorem zDb (k:IntKind) (a b:Int):binOp .neq (.int k a) (.int k b)=some (.bool (!decide (a=b))):=by
 simp [binOp,zdF,intCmp,bne,BEq.beq]
theorem zDg (k:IntKind) (a b:Int):binOp .lss (.int k a) (.int k b)=some (.bool (decide (a<b))):=by simp [binOp,zdF,intCmp]
theorem zAU (k:IntKind) (a b:Int):binOp .leq (.int k a) (.int k b)=some (.bool (decide (a≤b))):=by simp [binOp,zdF,intCmp]
theorem zBY (k:IntKind) (a b:Int):binOp .gtr (.int k a) (.int k b)=some (.bool (decide (b<a))):=by simp [binOp,zdF,intCmp]
theorem zDr (k:IntKind) (a b:Int):binOp .geq (.int k a) (.int k b)=some (.bool (decide (b≤a))):=by simp [binOp,zdF,intCmp]
theorem zJH (k:IntKind) (a:Int):unOp .neg (.int k a)=some (.int k (k.wrap (0-a))):=rfl
theorem zJJ (b:Bool):unOp .not (.bool b)=some (.bool !b):=rfl
theorem zxk:zcl hp 1 .nils=some (.int .i64 0):=rfl
theorem zBm (e:Bool) (n:Nat) (cs:List AV):zcl hp 1 (.vsl e n cs)=some (.int .i64 n):=rfl
theorem zAc (id o n:Nat):zcl hp 1 (.osl id o n)=some (.int .i64 n):=rfl
theorem zDz (s:List Nat):zcl hp 0 (.str s)=some (.int .i64 s.length):=rfl
theorem zta {sz i n:Nat} (e:Bool) (cs:List AV) (h:i<n):zdl sz i (.vsl e n cs)=some (.vptr (cs.drop (i*sz))):=by
 have hb:Nat.blt i n=true:=Nat.ble_eq_true_of_le h;simp only [zdl];rw [hb];rfl
theorem zZ {sz i n:Nat} (id o:Nat) (h:i<n):zdl sz i (.osl id o n)=some (.ptr id (o+i*sz)):=by
 have hb:Nat.blt i n=true:=Nat.ble_eq_true_of_le h;simp only [zdl];rw [hb];rfl
theorem zx5 (v:AV) (cs:List AV):zeD hp 1 false (.vptr (v::cs))=some v:=rfl
def ldC (sz:Nat) (ag:Bool) (o:Nat) (q:Option Obj):Option AV:=match q with | some (.cells _ _ _ _ cs)=>ld1 sz ag (cs.drop o) | _=>none
theorem zK8 (sz:Nat) (ag:Bool) (id o:Nat):zeD hp sz ag (.ptr id o)=ldC sz ag o (zt hp id):=by
 rfl
theorem zNU (sz:Nat) (ag:Bool) (o:Nat) (rw pu ex:Bool) (z:Nat) (cs:List AV):ldC sz ag o (some (.cells rw pu ex z cs))=ld1 sz ag (cs.drop o):=rfl
theorem zNu (sz:Nat) (v:AV) (cs:List AV):ld1 sz false (v::cs)=some v:=rfl
theorem zQN (a:AV) (l:List AV):zxI 0 (.tup (a::l))=some a:=rfl
theorem zQm (a b:AV) (l:List AV):zxI 1 (.tup (a::b::l))=some b:=rfl
theorem zQy (a b c:AV) (l:List AV):zxI 2 (.tup (a::b::c::l))=some c:=rfl
theorem zQH (a b c d:AV) (l:List AV):zxI 3 (.tup (a::b::c::d::l))=some d:=rfl
end
def zhf:Env→Bool
 | []=>true
 | (_,v)::r=>zA v&&zhf r
mutual
theorem zb:∀{v:AV},zA v=true→zcG v=[]
 | .int _ _,_ | .bool _,_ | .flt _ _,_ | .str _,_ | .nilp,_ | .vptr _,_ | .nils,_ | .vsl _ _ _,_ | .nilf,_ | .nilm,_ | .vmap _ _,_ | .undef,_=>rfl
 | .ptr _ _,h | .osl _ _ _,h | .map _,h | .it _,h | .fsl _ _ _ _,h=>by simp [zA] at h
 | .fn (.y _) _ _,h=>by simp [zA] at h
 | .fn (.f _) first cap,h=>by
  simp only [zA,Bool.and_eq_true] at h;simp only [zcG,zd3 h.1,zd3 h.2,List.append_nil]
 | .agg cs,h=>by simp only [zA] at h;simp only [zcG,zd3 h]
 | .tup cs,h=>by simp only [zA] at h;simp only [zcG,zd3 h]
theorem zd3:∀{vs:List AV},zp vs=true→zcC vs=[]
 | [],_=>rfl
 | v::r,h=>by
  simp only [zp,Bool.and_eq_true] at h;simp only [zcC,zb h.1,zd3 h.2,List.append_nil]
end
mutual
theorem ze (f:Nat→Option Nat):∀{v:AV},zA v=true→ren f v=v
 | .int _ _,_ | .bool _,_ | .flt _ _,_ | .str _,_ | .nilp,_ | .vptr _,_ | .nils,_ | .vsl _ _ _,_ | .nilf,_ | .nilm,_ | .vmap _ _,_ | .undef,_=>rfl
 | .ptr _ _,h | .osl _ _ _,h | .map _,h | .it _,h | .fsl _ _ _ _,h=>by simp [zA] at h
 | .fn (.y _) _ _,h=>by simp [zA] at h
 | .fn (.f _) first cap,h=>by
  simp only [zA,Bool.and_eq_true] at h;simp only [ren,zeB f h.1,zeB f h.2]
 | .agg cs,h=>by simp only [zA] at h;simp only [ren,zeB f h]
 | .tup cs,h=>by simp only [zA] at h;simp only [ren,zeB f h]
theorem zeB (f:Nat→Option Nat):∀{vs:List AV},zp vs=true→zcZ f vs=vs
 | [],_=>rfl
 | v::r,h=>by
  simp only [zp,Bool.and_eq_true] at h;simp only [zcZ,ze f h.1,zeB f h.2]
end
theorem zk0:∀{tm:Env},zhf tm=true→zcF tm=[]
 | [],_=>rfl
 | (i,v)::r,h=>by
  simp only [zhf,Bool.and_eq_true] at h;simp only [zcF,zb h.1,zk0 h.2,List.append_nil]
theorem zl7 (f:Nat→Option Nat):∀{tm:Env},zhf tm=true→zfD f tm=tm
 | [],_=>rfl
 | (i,v)::r,h=>by
  simp only [zhf,Bool.and_eq_true] at h;simp only [zfD,ze f h.1,zl7 f h.2]
theorem zhq {live:List Nat} {tm:Env} {ct:Nat} (h:zhf (keep tm live)=true):zC live ⟨tm,[],ct,0⟩=⟨keep tm live,[],0,0⟩:=by
 simp only [zC,zk0 h,za7,List.append_nil];simp only [zfo,zdt,zea,zl7 _ h,List.length_nil,Nat.add_zero]
theorem znu {tm:Env} {ct:Nat}:zC [] ⟨tm,[],ct,0⟩=⟨[],[],0,0⟩:=rfl
theorem zkF {P:zU} {L:Lib} {live:List Nat} {a:VC} (I:Nat→St→Prop) (Q:Ex→St→Prop)
  (step:∀k s,I k s→(∃s' k',D P L a (zC live s)=some (.normal,s')∧k'<k∧I k' s')∨(∃ex s',D P L a (zC live s)=some (ex,s')∧ex≠.normal∧Q ex s')):
  ∀k s,I k s→∃ex s',D P L (.loop live a) s=some (ex,s')∧Q ex s':=by
 intro k
 induction k using Nat.strongRecOn with
 | _ k ih=>
  intro s hI;rw [zmP];rcases step k s hI with ⟨s',k',h1,h2,h3⟩ | ⟨ex,s',h1,h2,h3⟩
  ·rw [h1,zqA];exact ih k' h2 s' h3
  ·rw [h1]
   cases ex with
   | normal=>exact absurd rfl h2
   | ret=>exact ⟨.ret,s',rfl,h3⟩
   | exit id=>exact ⟨.exit id,s',rfl,h3⟩
theorem zT {P:zU} {L:Lib} {live:List Nat} {a:VC} (I:Nat→St→Prop) (Q:Ex→St→Prop)
  (step:∀k s,I k s→(∃s' k',D P L a s=some (.normal,s')∧k'<k∧I k' (zC live s'))∨(∃ex s',D P L a s=some (ex,s')∧ex≠.normal∧Q ex s')):
  ∀k s,I k (zC live s)→∃ex s',D P L (.loop live a) s=some (ex,s')∧Q ex s':=
 zkF (fun k s=>I k (zC live s)) Q (fun k s h=>step k _ h)
theorem zae {P:zU} {L:Lib} {c:VC} {s:St} {q:Option (Ex×St)} {I:St→Prop} {Q:Ex→St→Prop} (hq:D P L c s=q) (key:∀s,I s→∃ex s',D P L c s=some (ex,s')∧Q ex s') (hI:I s):
  ∃ex s',q=some (ex,s')∧Q ex s':=by
 rw [←hq];exact key s hI
theorem zws (tm:Env):keep tm []=[]:=rfl
theorem ztL (tm:Env) (i:Nat) (r:List Nat):keep tm (i::r)=(i,zc tm i)::keep tm r:=rfl
theorem zur:zhf []=true:=rfl
theorem zo3 (i:Nat) (v:AV) (r:Env):zhf ((i,v)::r)=(zA v&&zhf r):=rfl
theorem zpP (k:IntKind) (n:Int):zA (.int k n)=true:=(rfl)
theorem zCY (b:Bool):zA (.bool b)=true:=(rfl)
theorem zLG (s:List Nat):zA (.str s)=true:=(rfl)
theorem zAI:zA .nils=true:=(rfl)
theorem zEF (e:Bool) (n:Nat) (cs:List AV):zA (.vsl e n cs)=true:=(rfl)
theorem zBj (cs:List AV):zA (.vptr cs)=true:=(rfl)
theorem zzN:zA .undef=true:=(rfl)
attribute [go_sem] zcP znu zws ztL zur zo3 zpP zCY zLG zAI zEF zBj zzN Bool.and_true Bool.true_and
attribute [go_sem] zEJ zJD zNo zOe zQr zNC zd8 zMI zN0 zaL zAo zDC zqA zAj zBU zC2 zB8 zr0 zC3 zLW zHZ zDw zBV
 zCB zzb zuj zB3 zOF zOB zxT zyp zx0 zyS zAm zGC zF8 ztK zqd zyY zuf zjF zuz zxY zuF zwz zyD zt6
 zQ7 zRq zK9 zCu zw1 zOb zBb zEv zPA zOa zOr zLz zIm zMo zFw zJv zHv zGa zGG zFd zLf zFN zC8 zIn zKd zHg zO1 zLB zyh zxR zyL
 zDd zBe zB1 zCV zBB zKQ zJY zFK zGu zLC zQY zwU ztD zDl zMl zx3 zOD zNS zN8 zM9 zPd
 zpR znK zp8 zn1 zqc zzR zus zyR zvm zxN zv0 zD zAe zwe zup zpJ zt4 zoZ zu5 zp4 zvF zvA zbS
 zyN ztV zIy zHa zCU zv8 zCp zxq zDi zwi
 zHT zMw zPa zp3 zJ7 zLl zFE zEZ zJq zE3 zKD zKI zFC zH2 zDn zsH zjl zqJ zCo zDb zDg zAU zBY zDr zJH zJJ zxk zBm zAc zDz zx5 zK8 zNU zNu zQN zQm zQy zQH
 List.nil_append List.append_nil List.cons_append decide_true decide_false Bool.not_true Bool.not_false ne_eq not_false_eq_true
end VE
end
section
namespace VE
open Go (IntKind)
abbrev zf (n:Int):AV:= .int .i64 n
def IsL (v:AV) (cs:List AV):Prop:=(v= .nils∧cs=[])∨∃e,v= .vsl e cs.length cs
section
variable {v:AV} {cs:List AV} {hp:Hp}
theorem IsL.len (h:IsL v cs) {hp:Hp}:zcl hp 1 v=some (.int .i64 (cs.length:Nat)):=by
 rcases h with ⟨rfl,rfl⟩ | ⟨e,rfl⟩<;>rfl
theorem IsL.pu (h:IsL v cs):zA v=true:=by
 rcases h with ⟨rfl,rfl⟩ | ⟨e,rfl⟩<;>rfl
theorem IsL.frz (h:IsL v cs) (n:Nat) {hp:Hp}:zal (n+1) hp v=some (v,hp):=by
 rcases h with ⟨rfl,rfl⟩ | ⟨e,rfl⟩<;>rfl
theorem IsL.shut (h:IsL v cs):shut v=v:=by
 rcases h with ⟨rfl,rfl⟩ | ⟨e,rfl⟩<;>rfl
theorem IsL.shut1 (h:IsL v cs):shut1 v=v:=by
 rcases h with ⟨rfl,rfl⟩ | ⟨e,rfl⟩<;>rfl
theorem IsL.res (h:IsL v cs) {hp:Hp}:zaR hp v=some v:=by
 rcases h with ⟨rfl,rfl⟩ | ⟨e,rfl⟩<;>rfl
theorem IsL.ixa (h:IsL v cs) {i:Nat} (hi:i<cs.length):zdl 1 i v=some (.vptr (cs[i]::cs.drop (i+1))):=by
 rcases h with ⟨rfl,rfl⟩ | ⟨e,rfl⟩
 ·exact absurd hi (Nat.not_lt_zero i)
 ·rw [zta e _ hi,Nat.mul_one,List.drop_eq_getElem_cons hi]
theorem IsL.one (h:IsL v cs):zag v=true:=by
 rcases h with ⟨rfl,rfl⟩ | ⟨e,rfl⟩<;>rfl
theorem IsL.cells (h:IsL v cs):cellsOf v=[v]:=by
 rcases h with ⟨rfl,rfl⟩ | ⟨e,rfl⟩<;>rfl
theorem zmA (e:Bool) (cs:List AV):IsL (.vsl e cs.length cs) cs:= .inr ⟨e,rfl⟩
theorem zd7:IsL .nils []:= .inl ⟨rfl,rfl⟩
end
def IsI (v:AV) (l:List Int):Prop:=IsL v (l.map zf)
section
variable {v:AV} {l:List Int}
theorem IsI.len (h:IsI v l) {hp:Hp}:zcl hp 1 v=some (.int .i64 (l.length:Nat)):=by
 have:=IsL.len (hp:=hp) h
 rwa [List.length_map] at this
theorem IsI.pu (h:IsI v l):zA v=true:=IsL.pu h
theorem IsI.frz (h:IsI v l) (n:Nat) {hp:Hp}:zal (n+1) hp v=some (v,hp):=IsL.frz h n
theorem IsI.shut (h:IsI v l):VE.shut v=v:=IsL.shut h
theorem IsI.shut1 (h:IsI v l):VE.shut1 v=v:=IsL.shut1 h
theorem IsI.res (h:IsI v l) {hp:Hp}:zaR hp v=some v:=IsL.res h
theorem IsI.one (h:IsI v l):zag v=true:=IsL.one h
theorem IsI.cells (h:IsI v l):cellsOf v=[v]:=IsL.cells h
theorem IsI.ixa (h:IsI v l) {i:Nat} (hi:i<l.length):zdl 1 i v=some (.vptr (.int .i64 l[i]::(l.map zf).drop (i+1))):=by
 have:=IsL.ixa h (i:=i) (by simpa using hi)
 rw [this];simp
theorem zbJ (e:Bool) (l:List Int):IsI (.vsl e l.length (l.map zf)) l:=by
 have:=zmA e (l.map zf)
 rwa [List.length_map] at this
end
def All2 {α β:Type} (p:α→β→Prop):List α→List β→Prop
 | [],[]=>True
 | a::r,b::s=>p a b∧All2 p r s
 | _,_=>False
section
variable {α β:Type} {p:α→β→Prop}
theorem All2.len:∀{l:List α} {m:List β},All2 p l m→l.length=m.length
 | [],[],_=>rfl
 | _::_,_::_,h=>by rw [List.length_cons,List.length_cons,h.2.len]
theorem All2.get:∀{l:List α} {m:List β} (_:All2 p l m) {i:Nat} (h1:i<l.length) (h2:i<m.length),p l[i] m[i]
 | a::r,b::s,h,0,_,_=>h.1
 | a::r,b::s,h,i+1,h1,h2=>by
  simp only [List.getElem_cons_succ];exact h.2.get (by simpa using h1) (by simpa using h2)
theorem All2.append:∀{l l':List α} {m m':List β},All2 p l m→All2 p l' m'→All2 p (l++l') (m++m')
 | [],_,[],_,_,h=>h
 | _::_,_,_::_,_,h,k=>⟨h.1,h.2.append k⟩
end
def IsS (v:AV) (s:List (List Int)):Prop:=∃rows,IsL v rows∧All2 IsI rows s
section
variable {v:AV} {s:List (List Int)}
theorem IsS.len (h:IsS v s) {hp:Hp}:zcl hp 1 v=some (.int .i64 (s.length:Nat)):=by
 obtain ⟨rows,h1,h2⟩:=h;rw [←h2.len];exact h1.len
theorem IsS.pu (h:IsS v s):zA v=true:=by obtain ⟨rows,h1,h2⟩:=h;exact h1.pu
theorem IsS.frz (h:IsS v s) (n:Nat) {hp:Hp}:zal (n+1) hp v=some (v,hp):=by obtain ⟨rows,h1,h2⟩:=h;exact h1.frz n
theorem IsS.shut (h:IsS v s):VE.shut v=v:=by obtain ⟨rows,h1,h2⟩:=h;exact h1.shut
theorem IsS.shut1 (h:IsS v s):VE.shut1 v=v:=by obtain ⟨rows,h1,h2⟩:=h;exact h1.shut1
theorem IsS.res (h:IsS v s) {hp:Hp}:zaR hp v=some v:=by obtain ⟨rows,h1,h2⟩:=h;exact h1.res
theorem IsS.one (h:IsS v s):zag v=true:=by obtain ⟨rows,h1,h2⟩:=h;exact h1.one
theorem IsS.cells (h:IsS v s):cellsOf v=[v]:=by obtain ⟨rows,h1,h2⟩:=h;exact h1.cells
theorem IsS.ixa (h:IsS v s) {i:Nat} (hi:i<s.length):∃r rest,IsI r s[i]∧zdl 1 i v=some (.vptr (r::rest)):=by
 obtain ⟨rows,h1,h2⟩:=h;have hi':i<rows.length:=by rw [h2.len];exact hi
 exact ⟨_,_,h2.get hi' hi,h1.ixa hi'⟩
end
theorem zg {n:Int} (h1: -9223372036854775808≤n) (h2:n<9223372036854775808):IntKind.wrap .i64 n=n:=by
 simp only [IntKind.wrap,IntKind.bits,IntKind.signed,Bool.true_and]
 split<;>rename_i h<;>simp at h<;>omega
theorem zB {n:Nat} (h:n<9223372036854775808):IntKind.wrap .i64 (n:Int)=n:=zg (by omega) (by omega)
end VE
end
section
namespace VE
open Go (IntKind)
section
variable {P:zU} {L:Lib}
abbrev zF (P:zU) (L:Lib) (f:Nat) (vals:List AV) (r:AV):Prop:=zj P L (D P L) f vals=some r
def c42_0:VC:=
.seq (
.seq (
.reg [qm 4 3,qm 5 0,qn 6 1 5,qT 7 4 6]) (
.cond (.t 7) (
 .skip) (
 .exit 0))) (
.seq (
.blk 1 (
.seq (
.reg [qm 10 0,qm 11 3,qi 12 1 10 11,ql 13 1 12,qN 14 13 0]) (
.cond (.t 14) (
 .seq (
 .reg [qm 15 0,qm 16 3,qi 17 1 15 16,ql 18 1 17,qm 2 18]) (
 .ret)) (
 .skip)))) (
.reg [qm 8 3,qa 9 8 1,qm 3 9]))
def c42:Fnc:=⟨[.t 2],
.seq (
.reg [qk 2 0]) (
.seq (
.seq (
.reg [qk 3 0]) (
.seq (
.blk 0 (
.loop [0,3] c42_0)) (
.kp []))) (
.seq (
.reg [qk 2 0]) (
.ret)))⟩
theorem s42 {n:Nat} (h:Has P L n c42) {v:AV} {l:List Int} (hv:IsI v l) (hl:l.length≤1000000):zF P L n [v] (zf (z8 l)):=by
 unfold zF;rw [zd h];simp only [go_sem,c42];have key:=zkF (P:=P) (L:=L) (live:=[0,3]) (a:=c42_0)
  (I:=fun k s=>∃tm ct i,s=⟨tm,[],ct,0⟩∧zc tm 0=v∧zc tm 3=zf (i:Nat)∧i+k=l.length∧z8 (l.drop i)=z8 l)
  (Q:=fun ex s=>∃tm,s=⟨tm,[],0,0⟩∧((ex= .ret∧zc tm 2=zf (z8 l))∨(ex= .exit 0∧z8 l=0))) ?_ l.length
 ·generalize hq:D P L (.loop [0,3] c42_0) _=q;obtain ⟨ex,s,rfl,tm,rfl,h2⟩:=zae hq key ⟨_,_,0,rfl,rfl,rfl,by omega,rfl⟩;rcases h2 with ⟨rfl,h2⟩ | ⟨rfl,h2⟩
  ·simp only [go_sem,h2]
  ·rw [h2];simp only [go_sem]
 ·rintro k s ⟨tm,ct,i,rfl,h0,h3,hk,hf⟩;rw [zhq (by simp only [go_sem,h0,h3,hv.pu])];simp only [go_sem,reduceEqDiff,h0,h3,c42_0,hv.len];by_cases hi:i<l.length
  ·have hi':(i:Int)<l.length:=by omega
   rw [zix hi] at hf;by_cases hz:l[i]=0
   ·left
    simp only [go_sem,reduceEqDiff,hi',hv.ixa hi,hz];refine ⟨_,k-1,rfl,by omega,_,_,i+1,rfl,?_⟩;rw [zg (by omega) (by omega)];rw [if_pos hz] at hf;simp only [go_sem,reduceEqDiff];exact ⟨trivial,rfl,by omega,hf⟩
   ·right
    simp only [go_sem,reduceEqDiff,hi',hv.ixa hi,hz];rw [if_neg hz] at hf;refine ⟨_,_,rfl,by simp,_,rfl,.inl ⟨rfl,?_⟩⟩;simp only [go_sem,hf]
  ·right
   have hi':¬(i:Int)<l.length:=by omega
   simp only [go_sem,hi'];refine ⟨_,_,rfl,by simp,_,rfl,.inr ⟨rfl,?_⟩⟩;rw [←hf,List.drop_eq_nil_of_le (by omega)];rfl
end
end VE
end
