import Derived.Attr
import Derived.Test.YtkhmakhdoedjiaaGreatDoorTbd
import Derived.Test.YtkhmakhdoedjiaaGreatDoorTas
set_option linter.all false
set_option maxRecDepth 100000
section
namespace VE
open Go (IntKind BinOp UnOp)
section
variable {P:zN} {L:Lib}
structure Has (P:zN) (L:Lib) (n:Nat) (F:Fnc):Prop where
 pure:L.pure n=none
 heap:L.heap n=none
 code:P n=some F
noncomputable def zfp (P:zN) (L:Lib) (r:Option (Ex×St)) (b:VC):Option (Ex×St):=match r with | some (.normal,s)=>D P L b s | r=>r
def zhb (id:Nat) (r:Option (Ex×St)):Option (Ex×St):=match r with | some (.exit j,s)=>bif Nat.beq j id then some (.normal,s) else some (.exit j,s) | r=>r
noncomputable def zm6 (P:zN) (L:Lib) (live:List Nat) (a:VC) (r:Option (Ex×St)):Option (Ex×St):=match r with | some (.normal,s)=>D P L (.loop live a) s | r=>r
def zAO (r:Option St):Option (Ex×St):=match r with | some s=>some (.normal,s) | none=>none
noncomputable def zsS (P:zN) (L:Lib) (v:AV) (a b:VC) (s:St):Option (Ex×St):=match v with | .bool t=>bif t then D P L a s else D P L b s | _=>none
theorem zHv (s:St):D P L .skip s=some (.normal,s):=by rw [zgb];rfl
theorem zHP (id:Nat) (s:St):D P L (.exit id) s=some (.exit id,s):=by rw [zgb];rfl
theorem zOT (s:St):D P L .ret s=some (.ret,s):=by rw [zgb];rfl
theorem zNe (live:List Nat) (s:St):D P L (.kp live) s=some (.normal,zA live s):=by rw [zgb];rfl
theorem zP2 (ts:List Nat) (s:St):D P L (.fz ts) s=zAO (zfq ts s):=by rw [zgb];rfl
theorem zOO (ops:List ROp) (s:St):D P L (.reg ops) s=zAO (zaF P L (D P L) ops s):=by rw [zgb];rfl
theorem zdW (a b:VC) (s:St):D P L (.seq a b) s=zfp P L (D P L a s) b:=by
 rw [zgb,zgb a];simp only [zF,zfp]
 cases zF P L (D P L) a s with
 | none=>rfl
 | some q=>
  obtain ⟨e,s1⟩:=q
  cases e with
  | normal=>exact (zgb b s1).symm
  | ret=>rfl
  | exit id=>rfl
theorem zJh (x:X) (a b:VC) (s:St):D P L (.cond x a b) s=zsS P L (zp s.tm x) a b s:=by
 rw [zgb];simp only [zF,zsS]
 cases zp s.tm x with
 | bool t=>
  cases t with
  | true=>exact (zgb a s).symm
  | false=>exact (zgb b s).symm
 | _=>rfl
theorem zMs (id:Nat) (a:VC) (s:St):D P L (.blk id a) s=zhb id (D P L a s):=by
 rw [zgb,zgb a];simp only [zF,zhb]
 cases zF P L (D P L) a s with
 | none=>rfl
 | some q=>obtain ⟨e,s1⟩:=q;cases e<;>rfl
theorem zmK (live:List Nat) (a:VC) (s:St):D P L (.loop live a) s=zm6 P L live a (D P L a (zA live s)):=by
 rw [zgb,zgb a];simp only [zF,zm6]
 cases zF P L (D P L) a (zA live s) with
 | none=>rfl
 | some q=>obtain ⟨e,s1⟩:=q;cases e<;>rfl
theorem zaI (s:St) (b:VC):zfp P L (some (.normal,s)) b=D P L b s:=rfl
theorem zAX (s:St) (b:VC):zfp P L (some (.ret,s)) b=some (.ret,s):=rfl
theorem zAv (id:Nat) (s:St) (b:VC):zfp P L (some (.exit id,s)) b=some (.exit id,s):=rfl
theorem zte (live:List Nat) (a:VC) (s:St):zm6 P L live a (some (.normal,s))=D P L (.loop live a) s:=rfl
theorem zz2 (live:List Nat) (a:VC) (s:St):zm6 P L live a (some (.ret,s))=some (.ret,s):=rfl
theorem zCY (live:List Nat) (a:VC) (id:Nat) (s:St):zm6 P L live a (some (.exit id,s))=some (.exit id,s):=rfl
theorem zCl (id:Nat) (s:St):zhb id (some (.normal,s))=some (.normal,s):=rfl
theorem zzR (id:Nat) (s:St):zhb id (some (.ret,s))=some (.ret,s):=rfl
theorem zsq (id:Nat) (s:St):zhb id (some (.exit id,s))=some (.normal,s):=by simp only [zhb,Nat.beq_refl,cond_true]
theorem zAb {id j:Nat} (s:St) (h:j≠id):zhb id (some (.exit j,s))=some (.exit j,s):=by
 have:Nat.beq j id=false:=by
  cases hq:Nat.beq j id with
  | false=>rfl
  | true=>exact absurd (Nat.eq_of_beq_eq_true hq) h
 simp only [zhb,this,cond_false]
theorem zIR (s:St):zAO (some s)=some (.normal,s):=rfl
theorem zJG:zAO none=none:=rfl
theorem zzV (a b:VC) (s:St):zsS P L (.bool true) a b s=D P L a s:=rfl
theorem zB2 (a b:VC) (s:St):zsS P L (.bool false) a b s=D P L b s:=rfl
noncomputable def zy0 (P:zN) (L:Lib) (d:Option Nat) (r:List ROp) (tm:Env) (base:Nat) (q:Res):Option St:=
 match q with | some (v,hp,ct)=>zaF P L (D P L) r ⟨put d v tm,hp,ct,base⟩ | none=>none
noncomputable def zgC (P:zN) (L:Lib) (v:AV) (b:Bool) (d:Option Nat) (o:Op) (r:List ROp) (s:St):Option St:=
 match v with
 | .bool c=>bif c==b then zaF P L (D P L) (⟨d,none,o⟩::r) s else zaF P L (D P L) r ⟨put d (.tup []) s.tm,s.hp,s.ct,s.base⟩
 | .tup []=>zaF P L (D P L) r ⟨put d (.tup []) s.tm,s.hp,s.ct,s.base⟩
 | _=>none
theorem zAj (s:St):zaF P L (D P L) [] s=some s:=rfl
theorem zwa (d:Option Nat) (o:Op) (r:List ROp) (tm:Env) (hp:Hp) (ct base:Nat):
  zaF P L (D P L) (⟨d,none,o⟩::r) ⟨tm,hp,ct,base⟩=zy0 P L d r tm base (zZ P L (D P L) tm hp ct o):=by
 simp only [zaF,zy0];cases zZ P L (D P L) tm hp ct o<;>rfl
theorem ztV (d:Option Nat) (t:Nat) (b:Bool) (o:Op) (r:List ROp) (tm:Env) (hp:Hp) (ct base:Nat):
  zaF P L (D P L) (⟨d,some (t,b),o⟩::r) ⟨tm,hp,ct,base⟩=zgC P L (zc tm t) b d o r ⟨tm,hp,ct,base⟩:=by
 simp only [zaF,zgC]
 cases zc tm t with
 | bool c=>
  simp only
  cases hc:(c==b) with
  | true=>simp only [cond_true]
  | false=>simp only [cond_false]
 | tup vs=>cases vs<;>rfl
 | _=>rfl
theorem zBB (d:Option Nat) (r:List ROp) (tm:Env) (base:Nat) (v:AV) (hp:Hp) (ct:Nat):zy0 P L d r tm base (some (v,hp,ct))=zaF P L (D P L) r ⟨put d v tm,hp,ct,base⟩:=rfl
theorem zNF (i:Nat) (v:AV) (tm:Env):put (some i) v tm=(i,v)::tm:=rfl
theorem zOX (v:AV) (tm:Env):put none v tm=tm:=rfl
theorem zyC (d:Option Nat) (o:Op) (r:List ROp) (s:St):zgC P L (.bool true) true d o r s=zaF P L (D P L) (⟨d,none,o⟩::r) s:=rfl
theorem zzB (d:Option Nat) (o:Op) (r:List ROp) (s:St):zgC P L (.bool false) false d o r s=zaF P L (D P L) (⟨d,none,o⟩::r) s:=rfl
theorem zyg (d:Option Nat) (o:Op) (r:List ROp) (tm:Env) (hp:Hp) (ct base:Nat):zgC P L (.bool true) false d o r ⟨tm,hp,ct,base⟩=zaF P L (D P L) r ⟨put d (.tup []) tm,hp,ct,base⟩:=rfl
theorem zx0 (d:Option Nat) (o:Op) (r:List ROp) (tm:Env) (hp:Hp) (ct base:Nat):zgC P L (.bool false) true d o r ⟨tm,hp,ct,base⟩=zaF P L (D P L) r ⟨put d (.tup []) tm,hp,ct,base⟩:=rfl
theorem zBr (b:Bool) (d:Option Nat) (o:Op) (r:List ROp) (tm:Env) (hp:Hp) (ct base:Nat):zgC P L (.tup []) b d o r ⟨tm,hp,ct,base⟩=zaF P L (D P L) r ⟨put d (.tup []) tm,hp,ct,base⟩:=rfl
theorem zaH {j i:Nat} (h:j≠i):Nat.beq j i=false:=by
 cases hq:Nat.beq j i with
 | false=>rfl
 | true=>exact absurd (Nat.eq_of_beq_eq_true hq) h
theorem zE0 (tm:Env) (i:Nat):zp tm (.t i)=zc tm i:=rfl
theorem zJc (tm:Env) (v:AV):zp tm (.c v)=v:=rfl
theorem zus (tm:Env):zaz tm []=[]:=rfl
theorem zpT (tm:Env) (x:X) (r:List X):zaz tm (x::r)=zp tm x::zaz tm r:=rfl
theorem zwM (i:Nat) (v:AV) (r:Env):zc ((i,v)::r) i=v:=by simp only [zc,Nat.beq_refl,cond_true]
theorem zt5 {j i:Nat} (v:AV) (r:Env) (h:j≠i):zc ((j,v)::r) i=zc r i:=by simp only [zc,zaH h,cond_false]
theorem zjC (i:Nat) (o:Obj) (r:Hp):zq ((i,o)::r) i=some o:=by simp only [zq,Nat.beq_refl,cond_true]
theorem zvc {j i:Nat} (o:Obj) (r:Hp) (h:j≠i):zq ((j,o)::r) i=zq r i:=by simp only [zq,zaH h,cond_false]
theorem zxa (i:Nat) (o u:Obj) (r:Hp):z7 ((i,o)::r) i u=(i,u)::r:=by simp only [z7,Nat.beq_refl,cond_true]
theorem zvf {j i:Nat} (o u:Obj) (r:Hp) (h:j≠i):z7 ((j,o)::r) i u=(j,o)::z7 r i u:=by simp only [z7,zaH h,cond_false]
theorem zv4 (i:Nat):hdel [] i=[]:=rfl
theorem zxc (i:Nat) (o:Obj) (r:Hp):hdel ((i,o)::r) i=hdel r i:=by simp only [hdel,Nat.beq_refl,cond_true]
theorem zt1 {j i:Nat} (o:Obj) (r:Hp) (h:j≠i):hdel ((j,o)::r) i=(j,o)::hdel r i:=by simp only [hdel,zaH h,cond_false]
def rd (hp:Hp) (ct:Nat) (q:Option AV):Res:=match q with | some v=>some (v,hp,ct) | none=>none
def mk (hp:Hp) (ct:Nat) (q:Option (AV×Obj)):Res:=match q with | some (v,b)=>some (v,(ct,b)::hp,ct+1) | none=>none
theorem zPD (hp:Hp) (ct:Nat) (v:AV):rd hp ct (some v)=some (v,hp,ct):=rfl
theorem zPZ (hp:Hp) (ct:Nat) (v:AV) (b:Obj):mk hp ct (some (v,b))=some (v,(ct,b)::hp,ct+1):=rfl
def zv0 (c a b:AV):Option AV:=match c with | .bool t=>some (bif t then a else b) | _=>none
def asO (k:Nat→Option AV) (n:Option Nat):Option AV:=match n with | some i=>k i | none=>none
def zDG (r:Option (List AV)):Option AV:=match r with | some cs=>some (.agg cs) | none=>none
def zwj (ne:Bool) (r:Option Bool):Option AV:=match r with | some b=>some (.bool (ne !=b)) | none=>none
def zQh:AV→Option AV
 | .ptr id o=>some (.ptr id o)
 | .vptr cs=>some (.vptr cs)
 | .fn f a b=>some (.fn f a b)
 | _=>none
def zzD (i:Nat):AV→Option AV | .tup vs=>vs[i]? | _=>none
section
variable {f:Run} {tm:Env} {hp:Hp} {ct:Nat}
theorem zET (x:X):zZ P L f tm hp ct (.mov x)=some (zp tm x,hp,ct):=rfl
theorem zBs (c a b:X):zZ P L f tm hp ct (.pick c a b)=rd hp ct (zv0 (zp tm c) (zp tm a) (zp tm b)):=by
 rfl
theorem zwU (z:List AV) (ps:List (Nat×Nat×X)):zZ P L f tm hp ct (.mkagg z ps)=rd hp ct (zDG (fill tm z ps)):=by
 rfl
theorem zOc (sz:Nat) (ag:Bool) (x:X):zZ P L f tm hp ct (.ld sz ag x)=rd hp ct (zeF hp sz ag (zp tm x)):=rfl
theorem zAf (x:X):zZ P L f tm hp ct (.nilc x)=rd hp ct (zQh (zp tm x)):=by
 rfl
theorem zGF (op:BinOp) (x y:X):zZ P L f tm hp ct (.bin op x y)=rd hp ct (binOp op (zp tm x) (zp tm y)):=rfl
theorem zNy (ne:Bool) (k:EqK) (x y:X):zZ P L f tm hp ct (.eq ne k x y)=rd hp ct (zwj ne (zeI k (zp tm x) (zp tm y))):=by
 rfl
theorem zOt (op:UnOp) (x:X):zZ P L f tm hp ct (.un op x)=rd hp ct (unOp op (zp tm x)):=rfl
theorem zOx (k:Conv) (x:X):zZ P L f tm hp ct (.cv k x)=rd hp ct (ziV k (zp tm x)):=rfl
theorem zHJ (g:Fr) (a b:List X):zZ P L f tm hp ct (.mkf g a b)=some (.fn g (zaz tm a) (zaz tm b),hp,ct):=rfl
theorem zHf (k:Cut) (x:X) (lo hi:Option X):zZ P L f tm hp ct (.sli k x lo hi)=rd hp ct (zbe hp k (zp tm x) tm lo hi):=rfl
theorem zLH (k:Nat) (x:X):zZ P L f tm hp ct (.off k x)=rd hp ct (zod k (zp tm x)):=rfl
theorem zE7 (o sz:Nat) (ag:Bool) (x:X):zZ P L f tm hp ct (.fld o sz ag x)=rd hp ct (zqW o sz ag (zp tm x)):=rfl
theorem zJE (sz:Nat) (x i:X):zZ P L f tm hp ct (.ixa sz x i)=rd hp ct (asO (fun j=>zdh sz j (zp tm x)) (zaE (zp tm i))):=by
 rfl
theorem zEi (n sz:Nat) (x i:X):zZ P L f tm hp ct (.ixp n sz x i)=rd hp ct (asO (fun j=>zlk n sz j (zp tm x)) (zaE (zp tm i))):=by
 rfl
theorem zLl (x i:X):zZ P L f tm hp ct (.ixs x i)=rd hp ct (asO (fun j=>zeb j (zp tm x)) (zaE (zp tm i))):=by
 rfl
theorem zGS (n sz:Nat) (ag:Bool) (x i:X):zZ P L f tm hp ct (.ixv n sz ag x i)=rd hp ct (asO (fun j=>zsR n sz ag j (zp tm x)) (zaE (zp tm i))):=by
 rfl
theorem zK8 (i:Nat) (x:X):zZ P L f tm hp ct (.ext i x)=rd hp ct (zzD i (zp tm x)):=by
 rfl
theorem zF9 (k:Nat) (x:X):zZ P L f tm hp ct (.len k x)=rd hp ct (zb8 hp k (zp tm x)):=rfl
theorem zKA (sz:Nat) (x:X):zZ P L f tm hp ct (.box sz x)=mk hp ct (z5 tm hp ct (.box sz x)):=rfl
theorem zAx (n sz:Nat) (z:List AV) (ps:List (Nat×Nat×X)):zZ P L f tm hp ct (.mksl n sz z ps)=mk hp ct (z5 tm hp ct (.mksl n sz z ps)):=rfl
theorem zKh (sz by':Nat) (z:List AV) (l c:X):zZ P L f tm hp ct (.mks sz by' z l c)=mk hp ct (z5 tm hp ct (.mks sz by' z l c)):=rfl
theorem zEk:zZ P L f tm hp ct .mkm=some (.map ct,(ct,.mp true [] [])::hp,ct+1):=rfl
theorem zyl (x:X):zZ P L f tm hp ct (.rng x)=mk hp ct (z5 tm hp ct (.rng x)):=rfl
theorem zPe (sz:Nat) (x v:X):zZ P L f tm hp ct (.st sz x v)=zV tm hp ct (.st sz x v):=rfl
theorem zL6 (sz by':Nat) (s x:X):zZ P L f tm hp ct (.app sz by' s x)=zV tm hp ct (.app sz by' s x):=rfl
def zqZ (hp:Hp) (ct:Nat) (r:Option AV):Res:=match r with | some v=>some (shut v,hp,ct) | none=>none
def zBN (hp:Hp) (ct:Nat) (r:Option AV):Res:=match r with | some v=>some (own hp ct v) | none=>none
def zvO (P:zN) (L:Lib) (f:Run) (ct n:Nat) (q:Option (List AV×Hp)):Res:=match q with | some (vals,hp)=>zqZ hp ct (zk P L f n vals) | none=>none
def zy4 (P:zN) (L:Lib) (f:Run) (ct n:Nat) (q:Option (List AV×Hp)):Res:=match q with | some (vals,hp)=>zBN hp ct (zk P L f n vals) | none=>none
def zxJ (P:zN) (L:Lib) (f:Run) (hp:Hp) (ct:Nat) (fv:AV) (xs:List AV):Res:=zaw P L f hp ct .pure fv xs
def zzf (P:zN) (L:Lib) (f:Run) (hp:Hp) (ct:Nat) (fv:AV) (xs:List AV):Res:=zaw P L f hp ct .own fv xs
theorem zww (g:X) (xs:List X):zZ P L f tm hp ct (.call .pure g xs)=zxJ P L f hp ct (zp tm g) (zaz tm xs):=rfl
theorem zxE (g:X) (xs:List X):zZ P L f tm hp ct (.call .own g xs)=zzf P L f hp ct (zp tm g) (zaz tm xs):=rfl
theorem zxb (g:X) (xs:List X):zZ P L f tm hp ct (.call .heap g xs)=zaw P L f hp ct .heap (zp tm g) (zaz tm xs):=rfl
theorem zz8 (n:Nat) (first cap xs:List AV):zxJ P L f hp ct (.fn (.f n) first cap) xs=zvO P L f ct n (zT zcJ hp (first++(xs++cap))):=by
 simp only [zxJ,zaw,zvO,zqZ]
 cases zT zcJ hp (first++(xs++cap)) with
 | none=>rfl
 | some q=>cases zk P L f n q.1<;>rfl
theorem zzW (n:Nat) (first cap xs:List AV):zzf P L f hp ct (.fn (.f n) first cap) xs=zy4 P L f ct n (zT zcJ hp (first++(xs++cap))):=by
 simp only [zzf,zaw,zy4,zBN]
 cases zT zcJ hp (first++(xs++cap)) with
 | none=>rfl
 | some q=>cases zk P L f n q.1<;>rfl
theorem zBc (n:Nat) (vals:List AV):zvO P L f ct n (some (vals,hp))=zqZ hp ct (zk P L f n vals):=rfl
theorem zCe (n:Nat) (vals:List AV):zy4 P L f ct n (some (vals,hp))=zBN hp ct (zk P L f n vals):=rfl
theorem zBf (v:AV):zqZ hp ct (some v)=some (shut v,hp,ct):=rfl
theorem zEB (v:AV):zBN hp ct (some v)=some (own hp ct v):=rfl
def zCX (hp:Hp) (r:Option AV):Option AV:=match r with | some v=>zaL hp v | none=>none
def zdO (rs:List RV) (q:Option (Ex×St)):Option AV:=
 match q with
 | some (.normal,s) | some (.ret,s)=>zCX s.hp (zaq s rs)
 | _=>none
theorem zf {n:Nat} {F:Fnc} (h:Has P L n F) (vals:List AV):zk P L f n vals=zdO F.res (f F.body ⟨zab 0 vals,[],0,0⟩):=by
 simp only [zk,h.pure,h.code]
 cases hq:f F.body ⟨zab 0 vals,[],0,0⟩ with
 | none=>rfl
 | some q=>
  obtain ⟨e,s⟩:=q
  cases e with
  | normal=>rfl
  | ret=>rfl
  | exit id=>rfl
theorem zIS (rs:List RV) (s:St):zdO rs (some (.normal,s))=zCX s.hp (zaq s rs):=rfl
theorem zK9 (rs:List RV) (s:St):zdO rs (some (.ret,s))=zCX s.hp (zaq s rs):=rfl
theorem zGe (v:AV):zCX hp (some v)=zaL hp v:=rfl
theorem zGN (r:RV) (s:St):zaq s [r]=zbA s r:=by
 simp only [zaq,za1];cases zbA s r<;>rfl
def zNS (r:Option (List AV)):Option AV:=match r with | some vs=>some (.tup vs) | none=>none
theorem zQ4 (r q:RV) (l:List RV) (s:St):zaq s (r::q::l)=zNS (za1 s (r::q::l)):=by
 simp only [zaq,za1];cases zbA s r<;>cases zbA s q<;>cases za1 s l<;>rfl
def zDH (r:Option AV) (l:Option (List AV)):Option (List AV):=match r,l with | some v,some vs=>some (v::vs) | _,_=>none
theorem zyP (s:St):za1 s []=some []:=rfl
theorem zuK (r:RV) (l:List RV) (s:St):za1 s (r::l)=zDH (zbA s r) (za1 s l):=rfl
theorem zCn (v:AV) (vs:List AV):zDH (some v) (some vs)=some (v::vs):=rfl
theorem zKN (vs:List AV):zNS (some vs)=some (.tup vs):=rfl
theorem zxK (i:Nat) (s:St):zbA s (.t i)=some (zc s.tm i):=rfl
theorem zOo (a:AV):zab 0 [a]=[(0,a)]:=rfl
theorem zOu (a b:AV):zab 0 [a,b]=[(0,a),(1,b)]:=rfl
theorem zOD (a b c:AV):zab 0 [a,b,c]=[(0,a),(1,b),(2,c)]:=rfl
theorem zNf (a b c d:AV):zab 0 [a,b,c,d]=[(0,a),(1,b),(2,c),(3,d)]:=rfl
theorem zOZ (a b c d e:AV):zab 0 [a,b,c,d,e]=[(0,a),(1,b),(2,c),(3,d),(4,e)]:=rfl
theorem zpr (k:IntKind) (n:Int):zaL hp (.int k n)=some (.int k n):=rfl
theorem znH (b:Bool):zaL hp (.bool b)=some (.bool b):=rfl
theorem zpP (s:List Nat):zaL hp (.str s)=some (.str s):=rfl
theorem zny:zaL hp .nils=some .nils:=rfl
theorem zpZ (e:Bool) (n:Nat) (cs:List AV):zaL hp (.vsl e n cs)=some (.vsl e n cs):=rfl
theorem zzt (k:IntKind) (n:Int):shut (.int k n)= .int k n:=rfl
theorem zuR (b:Bool):shut (.bool b)= .bool b:=rfl
theorem zwt (s:List Nat):shut (.str s)= .str s:=rfl
theorem zvz:shut .nils= .nils:=rfl
theorem zzw (e:Bool) (n:Nat) (cs:List AV):shut (.vsl e n cs)= .vsl e n cs:=rfl
theorem zxI (e:Bool) (sz n:Nat) (cs:List AV):shut (.fsl e sz n cs)= .vsl e n cs:=rfl
theorem zO (cs:List AV):shut (.agg cs)= .agg cs:=rfl
theorem zA8 (g:Fr) (a b:List AV):shut (.fn g a b)= .fn g a b:=rfl
theorem zwV (vs:List AV):shut (.tup vs)= .tup (zhv vs):=rfl
theorem ztH:zhv []=[]:=rfl
theorem zp3 (v:AV) (r:List AV):zhv (v::r)=shut1 v::zhv r:=rfl
theorem ztA (k:IntKind) (n:Int):shut1 (.int k n)= .int k n:=rfl
theorem zo1 (b:Bool):shut1 (.bool b)= .bool b:=rfl
theorem zvA (s:List Nat):shut1 (.str s)= .str s:=rfl
theorem zoK:shut1 .nils= .nils:=rfl
theorem zvB (e:Bool) (n:Nat) (cs:List AV):shut1 (.vsl e n cs)= .vsl e n cs:=rfl
theorem zuv (e:Bool) (sz n:Nat) (cs:List AV):shut1 (.fsl e sz n cs)= .vsl e n cs:=rfl
theorem zcV (cs:List AV):shut1 (.agg cs)= .agg cs:=rfl
def zEI (n:Nat) (r:List AV) (q:Option (AV×Hp)):Option (List AV×Hp):=match q with | some (v,hp)=>(match zT n hp r with | some (vs,hp2)=>some (v::vs,hp2) | none=>none) | none=>none
def zO2 (v:AV) (q:Option (List AV×Hp)):Option (List AV×Hp):=match q with | some (vs,hp)=>some (v::vs,hp) | none=>none
theorem zwF (n:Nat):zT (n+1) hp []=some ([],hp):=rfl
theorem zuj (n:Nat) (v:AV) (r:List AV):zT (n+1) hp (v::r)=zEI n r (zaf n hp v):=by
 simp only [zT,zEI];cases zaf n hp v<;>rfl
theorem zJN (n:Nat) (r:List AV) (v:AV):zEI n r (some (v,hp))=zO2 v (zT n hp r):=by
 rfl
theorem zHL (v:AV) (vs:List AV):zO2 v (some (vs,hp))=some (v::vs,hp):=rfl
theorem zAz (n:Nat) (k:IntKind) (a:Int):zaf (n+1) hp (.int k a)=some (.int k a,hp):=rfl
theorem zxx (n:Nat) (b:Bool):zaf (n+1) hp (.bool b)=some (.bool b,hp):=rfl
theorem zAU (n:Nat) (s:List Nat):zaf (n+1) hp (.str s)=some (.str s,hp):=rfl
theorem zxY (n:Nat):zaf (n+1) hp .nils=some (.nils,hp):=rfl
theorem zDa (n:Nat) (e:Bool) (k:Nat) (cs:List AV):zaf (n+1) hp (.vsl e k cs)=some (.vsl e k cs,hp):=rfl
theorem zyD (n:Nat) (cs:List AV):zaf (n+1) hp (.vptr cs)=some (.vptr cs,hp):=rfl
end
end
section
variable {hp:Hp}
theorem zL4 (a b:AV):zv0 (.bool true) a b=some a:=rfl
theorem zK7 (a b:AV):zv0 (.bool false) a b=some b:=rfl
theorem zMB (k:Nat→Option AV) (n:Nat):asO k (some n)=k n:=rfl
theorem zo7 (k:IntKind) (n:Nat):zaE (.int k (n:Int))=some n:=rfl
theorem zGL (k:IntKind):zaE (.int k 0)=some 0:=rfl
theorem zEH (k:IntKind):zaE (.int k 1)=some 1:=rfl
theorem zLU (k:IntKind):zaE (.int k 2)=some 2:=rfl
theorem zJv (k:IntKind):zaE (.int k 3)=some 3:=rfl
theorem zHg (k:IntKind):zaE (.int k 4)=some 4:=rfl
theorem zK3 (k:IntKind):zaE (.int k 5)=some 5:=rfl
theorem zLu (k:IntKind):zaE (.int k 6)=some 6:=rfl
theorem zIX (k:IntKind):zaE (.int k 7)=some 7:=rfl
theorem zHd (k:IntKind):zaE (.int k 8)=some 8:=rfl
theorem zG2 (k:IntKind):zaE (.int k 9)=some 9:=rfl
theorem zBQ (cs:List AV):zDG (some cs)=some (.agg cs):=rfl
theorem zsQ (k:IntKind) (a b:Int):binOp .add (.int k a) (.int k b)=some (.int k (k.wrap (a+b))):=by simp [binOp,zdy]
theorem zjg (k:IntKind) (a b:Int):binOp .sub (.int k a) (.int k b)=some (.int k (k.wrap (a-b))):=by simp [binOp,zdy]
theorem zsU (k:IntKind) (a b:Int):binOp .mul (.int k a) (.int k b)=some (.int k (k.wrap (a*b))):=by simp [binOp,zdy]
theorem zai (k:IntKind) (a b:Int) (h:b≠0):binOp .quo (.int k a) (.int k b)=some (.int k (k.wrap (a.tdiv b))):=by simp [binOp,zdy,h]
theorem zaK (k:IntKind) (a b:Int) (h:b≠0):binOp .rem (.int k a) (.int k b)=some (.int k (a.tmod b)):=by simp [binOp,zdy,h]
theorem zAP (k:IntKind) (a b:Int):binOp .eql (.int k a) (.int k b)=some (.bool (decide (a=b))):=by
 simp [binOp,zdy,intCmp,BEq.beq]
theorem zCg (k:IntKind) (a b:Int):binOp .neq (.int k a) (.int k b)=some (.bool (!decide (a=b))):=by
 simp [binOp,zdy,intCmp,bne,BEq.beq]
theorem zBh (k:IntKind) (a b:Int):binOp .lss (.int k a) (.int k b)=some (.bool (decide (a<b))):=by simp [binOp,zdy,intCmp]
theorem zCv (k:IntKind) (a b:Int):binOp .leq (.int k a) (.int k b)=some (.bool (decide (a≤b))):=by simp [binOp,zdy,intCmp]
theorem zAm (k:IntKind) (a b:Int):binOp .gtr (.int k a) (.int k b)=some (.bool (decide (b<a))):=by simp [binOp,zdy,intCmp]
theorem zCQ (k:IntKind) (a b:Int):binOp .geq (.int k a) (.int k b)=some (.bool (decide (b≤a))):=by simp [binOp,zdy,intCmp]
theorem zGX (k:IntKind) (a:Int):unOp .neg (.int k a)=some (.int k (k.wrap (0-a))):=rfl
theorem zJ9 (b:Bool):unOp .not (.bool b)=some (.bool !b):=rfl
theorem zw1:zb8 hp 1 .nils=some (.int .i64 0):=rfl
theorem zAB (e:Bool) (n:Nat) (cs:List AV):zb8 hp 1 (.vsl e n cs)=some (.int .i64 n):=rfl
theorem zAu (id o n:Nat):zb8 hp 1 (.osl id o n)=some (.int .i64 n):=rfl
theorem zBK (s:List Nat):zb8 hp 0 (.str s)=some (.int .i64 s.length):=rfl
theorem zrV {sz i n:Nat} (e:Bool) (cs:List AV) (h:i<n):zdh sz i (.vsl e n cs)=some (.vptr (cs.drop (i*sz))):=by
 have hb:Nat.blt i n=true:=Nat.ble_eq_true_of_le h;simp only [zdh];rw [hb];rfl
theorem zY {sz i n:Nat} (id o:Nat) (h:i<n):zdh sz i (.osl id o n)=some (.ptr id (o+i*sz)):=by
 have hb:Nat.blt i n=true:=Nat.ble_eq_true_of_le h;simp only [zdh];rw [hb];rfl
theorem zyq (v:AV) (cs:List AV):zeF hp 1 false (.vptr (v::cs))=some v:=rfl
def ldC (sz:Nat) (ag:Bool) (o:Nat) (q:Option Obj):Option AV:=match q with | some (.cells _ _ _ _ cs)=>ld1 sz ag (cs.drop o) | _=>none
theorem zGp (sz:Nat) (ag:Bool) (id o:Nat):zeF hp sz ag (.ptr id o)=ldC sz ag o (zq hp id):=by
 rfl
theorem zMK (sz:Nat) (ag:Bool) (o:Nat) (rw pu ex:Bool) (z:Nat) (cs:List AV):ldC sz ag o (some (.cells rw pu ex z cs))=ld1 sz ag (cs.drop o):=rfl
theorem zOw (sz:Nat) (v:AV) (cs:List AV):ld1 sz false (v::cs)=some v:=rfl
theorem zQW (a:AV) (l:List AV):zzD 0 (.tup (a::l))=some a:=rfl
theorem zQy (a b:AV) (l:List AV):zzD 1 (.tup (a::b::l))=some b:=rfl
theorem zQf (a b c:AV) (l:List AV):zzD 2 (.tup (a::b::c::l))=some c:=rfl
theorem zPN (a b c d:AV) (l:List AV):zzD 3 (.tup (a::b::c::d::l))=some d:=rfl
end
def zhj:Env→Bool
 | []=>true
 | (_,v)::r=>zx v&&zhj r
mutual
theorem zb:∀{v:AV},zx v=true→zcu v=[]
 | .int _ _,_ | .bool _,_ | .flt _ _,_ | .str _,_ | .nilp,_ | .vptr _,_ | .nils,_ | .vsl _ _ _,_ | .nilf,_ | .nilm,_ | .vmap _ _,_ | .undef,_=>rfl
 | .ptr _ _,h | .osl _ _ _,h | .map _,h | .it _,h | .fsl _ _ _ _,h=>by simp [zx] at h
 | .fn (.y _) _ _,h=>by simp [zx] at h
 | .fn (.f _) first cap,h=>by
  simp only [zx,Bool.and_eq_true] at h;simp only [zcu,zdX h.1,zdX h.2,List.append_nil]
 | .agg cs,h=>by simp only [zx] at h;simp only [zcu,zdX h]
 | .tup cs,h=>by simp only [zx] at h;simp only [zcu,zdX h]
theorem zdX:∀{vs:List AV},zn vs=true→zcs vs=[]
 | [],_=>rfl
 | v::r,h=>by
  simp only [zn,Bool.and_eq_true] at h;simp only [zcs,zb h.1,zdX h.2,List.append_nil]
end
mutual
theorem zd (f:Nat→Option Nat):∀{v:AV},zx v=true→ren f v=v
 | .int _ _,_ | .bool _,_ | .flt _ _,_ | .str _,_ | .nilp,_ | .vptr _,_ | .nils,_ | .vsl _ _ _,_ | .nilf,_ | .nilm,_ | .vmap _ _,_ | .undef,_=>rfl
 | .ptr _ _,h | .osl _ _ _,h | .map _,h | .it _,h | .fsl _ _ _ _,h=>by simp [zx] at h
 | .fn (.y _) _ _,h=>by simp [zx] at h
 | .fn (.f _) first cap,h=>by
  simp only [zx,Bool.and_eq_true] at h;simp only [ren,zez f h.1,zez f h.2]
 | .agg cs,h=>by simp only [zx] at h;simp only [ren,zez f h]
 | .tup cs,h=>by simp only [zx] at h;simp only [ren,zez f h]
theorem zez (f:Nat→Option Nat):∀{vs:List AV},zn vs=true→zcN f vs=vs
 | [],_=>rfl
 | v::r,h=>by
  simp only [zn,Bool.and_eq_true] at h;simp only [zcN,zd f h.1,zez f h.2]
end
theorem zjI:∀{tm:Env},zhj tm=true→zcp tm=[]
 | [],_=>rfl
 | (i,v)::r,h=>by
  simp only [zhj,Bool.and_eq_true] at h;simp only [zcp,zb h.1,zjI h.2,List.append_nil]
theorem zlC (f:Nat→Option Nat):∀{tm:Env},zhj tm=true→zfu f tm=tm
 | [],_=>rfl
 | (i,v)::r,h=>by
  simp only [zhj,Bool.and_eq_true] at h;simp only [zfu,zd f h.1,zlC f h.2]
theorem zm1 {live:List Nat} {tm:Env} {ct:Nat} (h:zhj (keep tm live)=true):zA live ⟨tm,[],ct,0⟩=⟨keep tm live,[],0,0⟩:=by
 simp only [zA,zjI h,zaX,List.append_nil];simp only [zfn,zdq,zdV,zlC _ h,List.length_nil,Nat.add_zero]
theorem zor {tm:Env} {ct:Nat}:zA [] ⟨tm,[],ct,0⟩=⟨[],[],0,0⟩:=rfl
theorem zoq {P:zN} {L:Lib} {live:List Nat} {a:VC} (I:Nat→St→Prop) (Q:Ex→St→Prop)
  (step:∀k s,I k s→(∃s' k',D P L a (zA live s)=some (.normal,s')∧k'<k∧I k' s')∨(∃ex s',D P L a (zA live s)=some (ex,s')∧ex≠.normal∧Q ex s')):
  ∀k s,I k s→∃ex s',D P L (.loop live a) s=some (ex,s')∧Q ex s':=by
 intro k
 induction k using Nat.strongRecOn with
 | _ k ih=>
  intro s hI;rw [zmK];rcases step k s hI with ⟨s',k',h1,h2,h3⟩ | ⟨ex,s',h1,h2,h3⟩
  ·rw [h1,zte];exact ih k' h2 s' h3
  ·rw [h1]
   cases ex with
   | normal=>exact absurd rfl h2
   | ret=>exact ⟨.ret,s',rfl,h3⟩
   | exit id=>exact ⟨.exit id,s',rfl,h3⟩
theorem zS {P:zN} {L:Lib} {live:List Nat} {a:VC} (I:Nat→St→Prop) (Q:Ex→St→Prop)
  (step:∀k s,I k s→(∃s' k',D P L a s=some (.normal,s')∧k'<k∧I k' (zA live s'))∨(∃ex s',D P L a s=some (ex,s')∧ex≠.normal∧Q ex s')):
  ∀k s,I k (zA live s)→∃ex s',D P L (.loop live a) s=some (ex,s')∧Q ex s':=
 zoq (fun k s=>I k (zA live s)) Q (fun k s h=>step k _ h)
theorem z8 {P:zN} {L:Lib} {c:VC} {s:St} {q:Option (Ex×St)} {I:St→Prop} {Q:Ex→St→Prop} (hq:D P L c s=q) (key:∀s,I s→∃ex s',D P L c s=some (ex,s')∧Q ex s') (hI:I s):
  ∃ex s',q=some (ex,s')∧Q ex s':=by
 rw [←hq];exact key s hI
theorem zwW (tm:Env):keep tm []=[]:=rfl
theorem ztY (tm:Env) (i:Nat) (r:List Nat):keep tm (i::r)=(i,zc tm i)::keep tm r:=rfl
theorem zvj:zhj []=true:=rfl
theorem zp6 (i:Nat) (v:AV) (r:Env):zhj ((i,v)::r)=(zx v&&zhj r):=rfl
theorem zpz (k:IntKind) (n:Int):zx (.int k n)=true:=(rfl)
theorem zBe (b:Bool):zx (.bool b)=true:=(rfl)
theorem zIn (s:List Nat):zx (.str s)=true:=(rfl)
theorem zBx:zx .nils=true:=(rfl)
theorem zLi (e:Bool) (n:Nat) (cs:List AV):zx (.vsl e n cs)=true:=(rfl)
theorem zzM (cs:List AV):zx (.vptr cs)=true:=(rfl)
theorem zwO:zx .undef=true:=(rfl)
attribute [go_sem] zcJ zor zwW ztY zvj zp6 zpz zBe zIn zBx zLi zzM zwO Bool.and_true Bool.true_and
attribute [go_sem] zHv zHP zOT zNe zP2 zOO zdW zJh zMs zaI zAX zAv zte zz2 zCY zCl zzR zsq zAb zIR zJG zzV zB2
 zAj zwa ztV zBB zNF zOX zyC zzB zyg zx0 zBr zE0 zJc zus zpT zwM zt5 zjC zvc zxa zvf zv4 zxc zt1
 zPD zPZ zET zBs zwU zOc zAf zGF zNy zOt zOx zHJ zHf zLH zE7 zJE zEi zLl zGS zK8 zF9 zKA zAx zKh zEk zyl zPe zL6 zww zxE zxb
 zz8 zzW zBc zCe zBf zEB zIS zK9 zGe zGN zQ4 zyP zuK zCn zKN zxK zOo zOu zOD zNf zOZ
 zpr znH zpP zny zpZ zzt zuR zwt zvz zzw zxI zO zA8 zwV ztH zp3 ztA zo1 zvA zoK zvB zuv zcV
 zwF zuj zJN zHL zAz zxx zAU zxY zDa zyD
 zL4 zK7 zMB zo7 zGL zEH zLU zJv zHg zK3 zLu zIX zHd zG2 zBQ zsQ zjg zsU zAP zCg zBh zCv zAm zCQ zGX zJ9 zw1 zAB zAu zBK zyq zGp zMK zOw zQW zQy zQf zPN
 List.nil_append List.append_nil List.cons_append decide_true decide_false Bool.not_true Bool.not_false ne_eq not_false_eq_true
end VE
end
section
namespace VE
open Go (IntKind)
abbrev zh (n:Int):AV:= .int .i64 n
def IsL (v:AV) (cs:List AV):Prop:=(v= .nils∧cs=[])∨∃e,v= .vsl e cs.length cs
section
variable {v:AV} {cs:List AV} {hp:Hp}
theorem IsL.len (h:IsL v cs) {hp:Hp}:zb8 hp 1 v=some (.int .i64 (cs.length:Nat)):=by
 rcases h with ⟨rfl,rfl⟩ | ⟨e,rfl⟩<;>rfl
theorem IsL.pu (h:IsL v cs):zx v=true:=by
 rcases h with ⟨rfl,rfl⟩ | ⟨e,rfl⟩<;>rfl
theorem IsL.frz (h:IsL v cs) (n:Nat) {hp:Hp}:zaf (n+1) hp v=some (v,hp):=by
 rcases h with ⟨rfl,rfl⟩ | ⟨e,rfl⟩<;>rfl
theorem IsL.shut (h:IsL v cs):shut v=v:=by
 rcases h with ⟨rfl,rfl⟩ | ⟨e,rfl⟩<;>rfl
theorem IsL.shut1 (h:IsL v cs):shut1 v=v:=by
 rcases h with ⟨rfl,rfl⟩ | ⟨e,rfl⟩<;>rfl
theorem IsL.res (h:IsL v cs) {hp:Hp}:zaL hp v=some v:=by
 rcases h with ⟨rfl,rfl⟩ | ⟨e,rfl⟩<;>rfl
theorem IsL.ixa (h:IsL v cs) {i:Nat} (hi:i<cs.length):zdh 1 i v=some (.vptr (cs[i]::cs.drop (i+1))):=by
 rcases h with ⟨rfl,rfl⟩ | ⟨e,rfl⟩
 ·exact absurd hi (Nat.not_lt_zero i)
 ·rw [zrV e _ hi,Nat.mul_one,List.drop_eq_getElem_cons hi]
theorem IsL.one (h:IsL v cs):z9 v=true:=by
 rcases h with ⟨rfl,rfl⟩ | ⟨e,rfl⟩<;>rfl
theorem IsL.cells (h:IsL v cs):cellsOf v=[v]:=by
 rcases h with ⟨rfl,rfl⟩ | ⟨e,rfl⟩<;>rfl
theorem zsl (e:Bool) (cs:List AV):IsL (.vsl e cs.length cs) cs:= .inr ⟨e,rfl⟩
theorem zeL:IsL .nils []:= .inl ⟨rfl,rfl⟩
end
def IsI (v:AV) (l:List Int):Prop:=IsL v (l.map zh)
section
variable {v:AV} {l:List Int}
theorem IsI.len (h:IsI v l) {hp:Hp}:zb8 hp 1 v=some (.int .i64 (l.length:Nat)):=by
 have:=IsL.len (hp:=hp) h
 rwa [List.length_map] at this
theorem IsI.pu (h:IsI v l):zx v=true:=IsL.pu h
theorem IsI.frz (h:IsI v l) (n:Nat) {hp:Hp}:zaf (n+1) hp v=some (v,hp):=IsL.frz h n
theorem IsI.shut (h:IsI v l):VE.shut v=v:=IsL.shut h
theorem IsI.shut1 (h:IsI v l):VE.shut1 v=v:=IsL.shut1 h
theorem IsI.res (h:IsI v l) {hp:Hp}:zaL hp v=some v:=IsL.res h
theorem IsI.one (h:IsI v l):z9 v=true:=IsL.one h
theorem IsI.cells (h:IsI v l):cellsOf v=[v]:=IsL.cells h
theorem IsI.ixa (h:IsI v l) {i:Nat} (hi:i<l.length):zdh 1 i v=some (.vptr (.int .i64 l[i]::(l.map zh).drop (i+1))):=by
 have:=IsL.ixa h (i:=i) (by simpa using hi)
 rw [this];simp
theorem zcd (e:Bool) (l:List Int):IsI (.vsl e l.length (l.map zh)) l:=by
 have:=zsl e (l.map zh)
 rwa [List.length_map] at this
end
def All2 {α β:Type} (p:α→β→Prop):List α→List β→Prop
 | [],[]=>True
 | a::r,b::s=>p a b∧All2 p r s
 | _,_=>False
section
variable {α β:Type} {p:α→β→Prop}
theorem All2.len:∀{l:List α} {m:List β},All2 p l m→l.length=m.length
 | [],[],_=>rfl
 | _::_,_::_,h=>by rw [List.length_cons,List.length_cons,h.2.len]
theorem All2.get:∀{l:List α} {m:List β} (_:All2 p l m) {i:Nat} (h1:i<l.length) (h2:i<m.length),p l[i] m[i]
 | a::r,b::s,h,0,_,_=>h.1
 | a::r,b::s,h,i+1,h1,h2=>by
  simp only [List.getElem_cons_succ];exact h.2.get (by simpa using h1) (by simpa using h2)
theorem All2.append:∀{l l':List α} {m m':List β},All2 p l m→All2 p l' m'→All2 p (l++l') (m++m')
 | [],_,[],_,_,h=>h
 | _::_,_,_::_,_,h,k=>⟨h.1,h.2.append k⟩
end
def IsS (v:AV) (s:List (List Int)):Prop:=∃rows,IsL v rows∧All2 IsI rows s
section
variable {v:AV} {s:List (List Int)}
theorem IsS.len (h:IsS v s) {hp:Hp}:zb8 hp 1 v=some (.int .i64 (s.length:Nat)):=by
 obtain ⟨rows,h1,h2⟩:=h;rw [←h2.len];exact h1.len
theorem IsS.pu (h:IsS v s):zx v=true:=by obtain ⟨rows,h1,h2⟩:=h;exact h1.pu
theorem IsS.frz (h:IsS v s) (n:Nat) {hp:Hp}:zaf (n+1) hp v=some (v,hp):=by obtain ⟨rows,h1,h2⟩:=h;exact h1.frz n
theorem IsS.shut (h:IsS v s):VE.shut v=v:=by obtain ⟨rows,h1,h2⟩:=h;exact h1.shut
theorem IsS.shut1 (h:IsS v s):VE.shut1 v=v:=by obtain ⟨rows,h1,h2⟩:=h;exact h1.shut1
theorem IsS.res (h:IsS v s) {hp:Hp}:zaL hp v=some v:=by obtain ⟨rows,h1,h2⟩:=h;exact h1.res
theorem IsS.one (h:IsS v s):z9 v=true:=by obtain ⟨rows,h1,h2⟩:=h;exact h1.one
theorem IsS.cells (h:IsS v s):cellsOf v=[v]:=by obtain ⟨rows,h1,h2⟩:=h;exact h1.cells
theorem IsS.ixa (h:IsS v s) {i:Nat} (hi:i<s.length):∃r rest,IsI r s[i]∧zdh 1 i v=some (.vptr (r::rest)):=by
 obtain ⟨rows,h1,h2⟩:=h;have hi':i<rows.length:=by rw [h2.len];exact hi
 exact ⟨_,_,h2.get hi' hi,h1.ixa hi'⟩
end
theorem ze {n:Int} (h1: -9223372036854775808≤n) (h2:n<9223372036854775808):IntKind.wrap .i64 n=n:=by
 simp only [IntKind.wrap,IntKind.bits,IntKind.signed,Bool.true_and]
 split<;>rename_i h<;>simp at h<;>omega
theorem zy {n:Nat} (h:n<9223372036854775808):IntKind.wrap .i64 (n:Int)=n:=ze (by omega) (by omega)
end VE
end
section
namespace VE
open Go (IntKind)
section
variable {P:zN} {L:Lib}
abbrev zK (P:zN) (L:Lib) (f:Nat) (vals:List AV) (r:AV):Prop:=zk P L (D P L) f vals=some r
end
end VE
end
