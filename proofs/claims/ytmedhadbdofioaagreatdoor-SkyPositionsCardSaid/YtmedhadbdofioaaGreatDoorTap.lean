import Derived.Attr
import Derived.Test.YtmedhadbdofioaaGreatDoorTao
import Derived.Test.YtmedhadbdofioaaGreatDoorTak
set_option linter.all false
set_option maxRecDepth 100000
open Bool renaming and_eq_true→yg,and_true→uF,false_eq_true→yD,false_or→vl,true_and→wA
open Go renaming IntKind→yV
open Int renaming reduceEq→vN
open List renaming any_cons→tM,append_nil→wc,drop_eq_getElem_cons→yL,drop_eq_nil_of_le→y8,drop_zero→yj,length_cons→yr,length_nil→yE,replicate→yz
open Nat renaming beq→yu,beq_refl→xq,ble→yG,ble_eq_true_of_le→yv,blt→yK,eq_of_beq_eq_true→yp,le_refl→yC,mul_one→yh,reduceAdd→yb,reduceEqDiff→ya,reduceLT→yt,reduceLeDiff→ye,zero_add→yd
namespace VE
section
open Go (IntKind BinOp UnOp)
section
variable {P:aG} {L:Lib}
structure Has (P:aG) (L:Lib) (n:Nat) (F:aD):Prop where
 pure:L.pure n=none
 heap:L.heap n=none
 code:P n=some F
noncomputable def mA (P:aG) (L:Lib) (r:Option (Ex×St)) (b:VC):Option (Ex×St):=match r with | some (.normal,s)=>D P L b s | r=>r
def zx (id:Nat) (r:Option (Ex×St)):Option (Ex×St):=match r with | some (.exit j,s)=>bif yu j id then some (.normal,s) else some (.exit j,s) | r=>r
noncomputable def Jg (P:aG) (L:Lib) (live:List Nat) (a:VC) (r:Option (Ex×St)):Option (Ex×St):=match r with | some (.normal,s)=>D P L (.loop live a) s | r=>r
def norm (r:Option St):Option (Ex×St):=match r with | some s=>some (.normal,s) | none=>none
noncomputable def NB (P:aG) (L:Lib) (v:AV) (a b:VC) (s:St):Option (Ex×St):=match v with | .bool t=>bif t then D P L a s else D P L b s | _=>none
def arc (s:St):D P L .skip s=some (.normal,s):=by rw [lh];rfl
def ard (id:Nat) (s:St):D P L (.exit id) s=some (.exit id,s):=by rw [lh];rfl
def atX (s:St):D P L .ret s=some (.ret,s):=by rw [lh];rfl
def JQ (live:List Nat) (s:St):D P L (.kp live) s=some (.normal,bD live s):=by rw [lh];rfl
def avj (ts:List Nat) (s:St):D P L (.fz ts) s=norm (oO ts s):=by rw [lh];rfl
def Tb (ops:List bn) (s:St):D P L (.aP ops) s=norm (dR P L (D P L) ops s):=by rw [lh];rfl
def iK (a b:VC) (s:St):D P L (.seq a b) s=mA P L (D P L a s) b:=by
 rw [lh,lh a];simp only [bI,mA]
 cases bI P L (D P L) a s with
 | none=>rfl
 | some q=>
  obtain ⟨e,s1⟩:=q
  cases e with
  | normal=>exact (lh b s1).symm
  | ret=>rfl
  | exit id=>rfl
def are (x:X) (a b:VC) (s:St):D P L (.cond x a b) s=NB P L (aA s.tm x) a b s:=by
 rw [lh];simp only [bI,NB]
 cases aA s.tm x with
 | bool t=>
  cases t with
  | true=>exact (lh a s).symm
  | false=>exact (lh b s).symm
 | _=>rfl
def Tc (id:Nat) (a:VC) (s:St):D P L (.aK id a) s=zx id (D P L a s):=by
 rw [lh,lh a];simp only [bI,zx]
 cases bI P L (D P L) a s with
 | none=>rfl
 | some q=>obtain ⟨e,s1⟩:=q;cases e<;>rfl
def EN (live:List Nat) (a:VC) (s:St):D P L (.loop live a) s=Jg P L live a (D P L a (bD live s)):=by
 rw [lh,lh a];simp only [bI,Jg]
 cases bI P L (D P L) a (bD live s) with
 | none=>rfl
 | some q=>obtain ⟨e,s1⟩:=q;cases e<;>rfl
def fu (s:St) (b:VC):mA P L (some (.normal,s)) b=D P L b s:=rfl
def apa (s:St) (b:VC):mA P L (some (.ret,s)) b=some (.ret,s):=rfl
def apb (id:Nat) (s:St) (b:VC):mA P L (some (.exit id,s)) b=some (.exit id,s):=rfl
def abM (live:List Nat) (a:VC) (s:St):Jg P L live a (some (.normal,s))=D P L (.loop live a) s:=rfl
def apc (live:List Nat) (a:VC) (s:St):Jg P L live a (some (.ret,s))=some (.ret,s):=rfl
def apd (live:List Nat) (a:VC) (id:Nat) (s:St):Jg P L live a (some (.exit id,s))=some (.exit id,s):=rfl
def Sd (id:Nat) (s:St):zx id (some (.normal,s))=some (.normal,s):=rfl
def ape (id:Nat) (s:St):zx id (some (.ret,s))=some (.ret,s):=rfl
def Ij (id:Nat) (s:St):zx id (some (.exit id,s))=some (.normal,s):=by simp only [zx,xq,ym]
def apf {id j:Nat} (s:St) (h:j≠id):zx id (some (.exit j,s))=some (.exit j,s):=by
 have:yu j id=false:=by
  cases hq:yu j id with
  | false=>rfl
  | true=>exact absurd (yp hq) h
 simp only [zx,this,yA]
def adl (s:St):norm (some s)=some (.normal,s):=rfl
def arf:norm none=none:=rfl
def apg (a b:VC) (s:St):NB P L (.bool true) a b s=D P L a s:=rfl
def aph (a b:VC) (s:St):NB P L (.bool false) a b s=D P L b s:=rfl
noncomputable def Td (P:aG) (L:Lib) (d:Option Nat) (r:List bn) (tm:Env) (base:Nat) (q:gD):Option St:=
 match q with | some (v,hp,ct)=>dR P L (D P L) r ⟨put d v tm,hp,ct,base⟩ | none=>none
noncomputable def CL (P:aG) (L:Lib) (v:AV) (b:Bool) (d:Option Nat) (o:Op) (r:List bn) (s:St):Option St:=
 match v with
 | .bool c=>bif c==b then dR P L (D P L) (⟨d,none,o⟩::r) s else dR P L (D P L) r ⟨put d (.ap []) s.tm,s.hp,s.ct,s.base⟩
 | .ap []=>dR P L (D P L) r ⟨put d (.ap []) s.tm,s.hp,s.ct,s.base⟩
 | _=>none
def abN (s:St):dR P L (D P L) [] s=some s:=rfl
def amU (d:Option Nat) (o:Op) (r:List bn) (tm:Env) (hp:Hp) (ct base:Nat):
  dR P L (D P L) (⟨d,none,o⟩::r) ⟨tm,hp,ct,base⟩=Td P L d r tm base (bw P L (D P L) tm hp ct o):=by
 simp only [dR,Td]
 grind
def akP (d:Option Nat) (t:Nat) (b:Bool) (o:Op) (r:List bn) (tm:Env) (hp:Hp) (ct base:Nat):
  dR P L (D P L) (⟨d,some (t,b),o⟩::r) ⟨tm,hp,ct,base⟩=CL P L (af tm t) b d o r ⟨tm,hp,ct,base⟩:=by
 simp only [dR,CL]
 cases af tm t with
 | bool c=>
  simp only
  cases hc:(c==b) with
  | true=>simp only [ym]
  | false=>simp only [yA]
 | ap vs=>cases vs<;>rfl
 | _=>rfl
def abO (d:Option Nat) (r:List bn) (tm:Env) (base:Nat) (v:AV) (hp:Hp) (ct:Nat):Td P L d r tm base (some (v,hp,ct))=dR P L (D P L) r ⟨put d v tm,hp,ct,base⟩:=rfl
def atY (i:Nat) (v:AV) (tm:Env):put (some i) v tm=(i,v)::tm:=rfl
def aeX (v:AV) (tm:Env):put none v tm=tm:=rfl
def amV (d:Option Nat) (o:Op) (r:List bn) (s:St):CL P L (.bool true) true d o r s=dR P L (D P L) (⟨d,none,o⟩::r) s:=rfl
def amW (d:Option Nat) (o:Op) (r:List bn) (s:St):CL P L (.bool false) false d o r s=dR P L (D P L) (⟨d,none,o⟩::r) s:=rfl
def amX (d:Option Nat) (o:Op) (r:List bn) (tm:Env) (hp:Hp) (ct base:Nat):CL P L (.bool true) false d o r ⟨tm,hp,ct,base⟩=dR P L (D P L) r ⟨put d (.ap []) tm,hp,ct,base⟩:=rfl
def amY (d:Option Nat) (o:Op) (r:List bn) (tm:Env) (hp:Hp) (ct base:Nat):CL P L (.bool false) true d o r ⟨tm,hp,ct,base⟩=dR P L (D P L) r ⟨put d (.ap []) tm,hp,ct,base⟩:=rfl
def api (b:Bool) (d:Option Nat) (o:Op) (r:List bn) (tm:Env) (hp:Hp) (ct base:Nat):CL P L (.ap []) b d o r ⟨tm,hp,ct,base⟩=dR P L (D P L) r ⟨put d (.ap []) tm,hp,ct,base⟩:=rfl
def cG {j i:Nat} (h:j≠i):yu j i=false:=by
 cases hq:yu j i with
 | false=>rfl
 | true=>exact absurd (yp hq) h
def arh (tm:Env) (i:Nat):aA tm (.t i)=af tm i:=rfl
def ari (tm:Env) (v:AV):aA tm (.c v)=v:=rfl
def akQ (tm:Env):dG tm []=[]:=rfl
def ajv (tm:Env) (x:X) (r:List X):dG tm (x::r)=aA tm x::dG tm r:=rfl
def amZ (i:Nat) (v:AV) (r:Env):af ((i,v)::r) i=v:=by simp only [af,xq,ym]
def akR {j i:Nat} (v:AV) (r:Env) (h:j≠i):af ((j,v)::r) i=af r i:=by simp only [af,cG h,yA]
def H4 (i:Nat) (o:Obj) (r:Hp):ak ((i,o)::r) i=some o:=by simp only [ak,xq,ym]
def akS {j i:Nat} (o:Obj) (r:Hp) (h:j≠i):ak ((j,o)::r) i=ak r i:=by simp only [ak,cG h,yA]
def aaC (i:Nat) (o u:Obj) (r:Hp):aW ((i,o)::r) i u=(i,u)::r:=by simp only [aW,xq,ym]
def akT {j i:Nat} (o u:Obj) (r:Hp) (h:j≠i):aW ((j,o)::r) i u=(j,o)::aW r i u:=by simp only [aW,cG h,yA]
def am0 (i:Nat):dA [] i=[]:=rfl
def am1 (i:Nat) (o:Obj) (r:Hp):dA ((i,o)::r) i=dA r i:=by simp only [dA,xq,ym]
def akU {j i:Nat} (o:Obj) (r:Hp) (h:j≠i):dA ((j,o)::r) i=(j,o)::dA r i:=by simp only [dA,cG h,yA]
def rd (hp:Hp) (ct:Nat) (q:Option AV):gD:=match q with | some v=>some (v,hp,ct) | none=>none
def mk (hp:Hp) (ct:Nat) (q:Option (AV×Obj)):gD:=match q with | some (v,b)=>some (v,(ct,b)::hp,ct+1) | none=>none
def avk (hp:Hp) (ct:Nat) (v:AV):rd hp ct (some v)=some (v,hp,ct):=rfl
def avl (hp:Hp) (ct:Nat) (v:AV) (b:Obj):mk hp ct (some (v,b))=some (v,(ct,b)::hp,ct+1):=rfl
def Tf (c a b:AV):Option AV:=match c with | .bool t=>some (bif t then a else b) | _=>none
def KV (k:Nat->Option AV) (n:Option Nat):Option AV:=match n with | some i=>k i | none=>none
def aeY (r:Option (List AV)):Option AV:=match r with | some cs=>some (.agg cs) | none=>none
def JR (ne:Bool) (r:Option Bool):Option AV:=match r with | some b=>some (.bool (ne !=b)) | none=>none
def avm:AV->Option AV
 | .ptr id o=>some (.ptr id o)
 | .aI cs=>some (.aI cs)
 | .fn f a b=>some (.fn f a b)
 | _=>none
def JS (i:Nat):AV->Option AV | .ap vs=>vs[i]? | _=>none
section
variable {f:cK} {tm:Env} {hp:Hp} {ct:Nat}
def arj (x:X):bw P L f tm hp ct (.bQ x)=some (aA tm x,hp,ct):=rfl
def apj (c a b:X):bw P L f tm hp ct (.pick c a b)=rd hp ct (Tf (aA tm c) (aA tm a) (aA tm b)):=by
 rfl
def am2 (z:List AV) (ps:List (Nat×Nat×X)):bw P L f tm hp ct (.cC z ps)=rd hp ct (aeY (fill tm z ps)):=by
 rfl
def atZ (sz:Nat) (ag:Bool) (x:X):bw P L f tm hp ct (.ld sz ag x)=rd hp ct (jd hp sz ag (aA tm x)):=rfl
def apk (x:X):bw P L f tm hp ct (.Jl x)=rd hp ct (avm (aA tm x)):=by
 rfl
def ark (op:BinOp) (x y:X):bw P L f tm hp ct (.bin op x y)=rd hp ct (binOp op (aA tm x) (aA tm y)):=rfl
def at0 (ne:Bool) (k:Pf) (x y:X):bw P L f tm hp ct (.eq ne k x y)=rd hp ct (JR ne (gH k (aA tm x) (aA tm y))):=by
 rfl
def at1 (op:UnOp) (x:X):bw P L f tm hp ct (.un op x)=rd hp ct (unOp op (aA tm x)):=rfl
def at2 (k:Conv) (x:X):bw P L f tm hp ct (.cv k x)=rd hp ct (oT k (aA tm x)):=rfl
def arl (g:Fr) (a b:List X):bw P L f tm hp ct (.pk g a b)=some (.fn g (dG tm a) (dG tm b),hp,ct):=rfl
def arm (k:Cut) (x:X) (lo hi:Option X):bw P L f tm hp ct (.ez k x lo hi)=rd hp ct (fL hp k (aA tm x) tm lo hi):=rfl
def arn (k:Nat) (x:X):bw P L f tm hp ct (.off k x)=rd hp ct (EV k (aA tm x)):=rfl
def aro (o sz:Nat) (ag:Bool) (x:X):bw P L f tm hp ct (.Kl o sz ag x)=rd hp ct (Nj o sz ag (aA tm x)):=rfl
def arp (sz:Nat) (x i:X):bw P L f tm hp ct (.bk sz x i)=rd hp ct (KV (fun j=>jx sz j (aA tm x)) (dY (aA tm i))):=by
 rfl
def arq (n sz:Nat) (x i:X):bw P L f tm hp ct (.nZ n sz x i)=rd hp ct (KV (fun j=>I2 n sz j (aA tm x)) (dY (aA tm i))):=by
 rfl
def ars (x i:X):bw P L f tm hp ct (.lz x i)=rd hp ct (KV (fun j=>mX j (aA tm x)) (dY (aA tm i))):=by
 rfl
def art (n sz:Nat) (ag:Bool) (x i:X):bw P L f tm hp ct (.qJ n sz ag x i)=rd hp ct (KV (fun j=>I3 n sz ag j (aA tm x)) (dY (aA tm i))):=by
 rfl
def aru (i:Nat) (x:X):bw P L f tm hp ct (.ext i x)=rd hp ct (JS i (aA tm x)):=by
 rfl
def arv (k:Nat) (x:X):bw P L f tm hp ct (.len k x)=rd hp ct (iI hp k (aA tm x)):=rfl
def arw (sz:Nat) (x:X):bw P L f tm hp ct (.box sz x)=mk hp ct (da tm hp ct (.box sz x)):=rfl
def apl (n sz:Nat) (z:List AV) (ps:List (Nat×Nat×X)):bw P L f tm hp ct (.bN n sz z ps)=mk hp ct (da tm hp ct (.bN n sz z ps)):=rfl
def arx (sz by':Nat) (z:List AV) (l c:X):bw P L f tm hp ct (.ig sz by' z l c)=mk hp ct (da tm hp ct (.ig sz by' z l c)):=rfl
def ary:bw P L f tm hp ct .z8=some (.map ct,(ct,.mp true [] [])::hp,ct+1):=rfl
def arz (x:X):bw P L f tm hp ct (.po x)=mk hp ct (da tm hp ct (.po x)):=rfl
def at3 (sz:Nat) (x v:X):bw P L f tm hp ct (.st sz x v)=di tm hp ct (.st sz x v):=rfl
def arA (sz by':Nat) (s x:X):bw P L f tm hp ct (.dL sz by' s x)=di tm hp ct (.dL sz by' s x):=rfl
def NC (hp:Hp) (ct:Nat) (r:Option AV):gD:=match r with | some v=>some (shut v,hp,ct) | none=>none
def OE (hp:Hp) (ct:Nat) (r:Option AV):gD:=match r with | some v=>some (own hp ct v) | none=>none
def Tg (P:aG) (L:Lib) (f:cK) (ct n:Nat) (q:Option (List AV×Hp)):gD:=match q with | some (vals,hp)=>NC hp ct (bO P L f n vals) | none=>none
def Th (P:aG) (L:Lib) (f:cK) (ct n:Nat) (q:Option (List AV×Hp)):gD:=match q with | some (vals,hp)=>OE hp ct (bO P L f n vals) | none=>none
def Ti (P:aG) (L:Lib) (f:cK) (hp:Hp) (ct:Nat) (fv:AV) (xs:List AV):gD:=dF P L f hp ct .pure fv xs
def Tj (P:aG) (L:Lib) (f:cK) (hp:Hp) (ct:Nat) (fv:AV) (xs:List AV):gD:=dF P L f hp ct .own fv xs
def am3 (g:X) (xs:List X):bw P L f tm hp ct (.call .pure g xs)=Ti P L f hp ct (aA tm g) (dG tm xs):=rfl
def am4 (g:X) (xs:List X):bw P L f tm hp ct (.call .own g xs)=Tj P L f hp ct (aA tm g) (dG tm xs):=rfl
def am5 (g:X) (xs:List X):bw P L f tm hp ct (.call .heap g xs)=dF P L f hp ct .heap (aA tm g) (dG tm xs):=rfl
def apm (n:Nat) (first cap xs:List AV):Ti P L f hp ct (.fn (.f n) first cap) xs=Tg P L f ct n (cO deep hp (first++(xs++cap))):=by
 simp only [Ti,dF,Tg,NC]
 cases cO deep hp (first++(xs++cap)) with
 | none=>rfl
 | some q=>cases bO P L f n q.1<;>rfl
def apn (n:Nat) (first cap xs:List AV):Tj P L f hp ct (.fn (.f n) first cap) xs=Th P L f ct n (cO deep hp (first++(xs++cap))):=by
 simp only [Tj,dF,Th,OE]
 cases cO deep hp (first++(xs++cap)) with
 | none=>rfl
 | some q=>cases bO P L f n q.1<;>rfl
def apo (n:Nat) (vals:List AV):Tg P L f ct n (some (vals,hp))=NC hp ct (bO P L f n vals):=rfl
def apq (n:Nat) (vals:List AV):Th P L f ct n (some (vals,hp))=OE hp ct (bO P L f n vals):=rfl
def apr (v:AV):NC hp ct (some v)=some (shut v,hp,ct):=rfl
def arB (v:AV):OE hp ct (some v)=some (own hp ct v):=rfl
def OF (hp:Hp) (r:Option AV):Option AV:=match r with | some v=>result hp v | none=>none
def fJ (rs:List RV) (q:Option (Ex×St)):Option AV:=
 match q with
 | some (.normal,s) | some (.ret,s)=>OF s.hp (gN s rs)
 | _=>none
def av {n:Nat} {F:aD} (h:Has P L n F) (vals:List AV):bO P L f n vals=fJ F.dT (f F.body ⟨fG 0 vals,[],0,0⟩):=by
 simp only [bO,h.pure,h.code]
 cases hq:f F.body ⟨fG 0 vals,[],0,0⟩ with
 | none=>rfl
 | some q=>
  obtain ⟨e,s⟩:=q
  cases e with
  | normal=>rfl
  | ret=>rfl
  | exit id=>rfl
def arD (rs:List RV) (s:St):fJ rs (some (.normal,s))=OF s.hp (gN s rs):=rfl
def adm (rs:List RV) (s:St):fJ rs (some (.ret,s))=OF s.hp (gN s rs):=rfl
def adn (v:AV):OF hp (some v)=result hp v:=rfl
def Fv (r:RV) (s:St):gN s [r]=results1 s r:=by
 simp only [gN,lJ];cases results1 s r<;>rfl
def afG (r:Option (List AV)):Option AV:=match r with | some vs=>some (.ap vs) | none=>none
def avn (r q:RV) (l:List RV) (s:St):gN s (r::q::l)=afG (lJ s (r::q::l)):=by
 simp only [gN,lJ];cases results1 s r<;>cases results1 s q<;>cases lJ s l<;>rfl
def aeZ (r:Option AV) (l:Option (List AV)):Option (List AV):=match r,l with | some v,some vs=>some (v::vs) | _,_=>none
def am6 (s:St):lJ s []=some []:=rfl
def akV (r:RV) (l:List RV) (s:St):lJ s (r::l)=aeZ (results1 s r) (lJ s l):=rfl
def aps (v:AV) (vs:List AV):aeZ (some v) (some vs)=some (v::vs):=rfl
def arE (vs:List AV):afG (some vs)=some (.ap vs):=rfl
def E2 (i:Nat) (s:St):results1 s (.t i)=some (af s.tm i):=rfl
def at4 (a:AV):fG 0 [a]=[(0,a)]:=rfl
def ae0 (a b:AV):fG 0 [a,b]=[(0,a),(1,b)]:=rfl
def at5 (a b c:AV):fG 0 [a,b,c]=[(0,a),(1,b),(2,c)]:=rfl
def at6 (a b c d:AV):fG 0 [a,b,c,d]=[(0,a),(1,b),(2,c),(3,d)]:=rfl
def at7 (a b c d e:AV):fG 0 [a,b,c,d,e]=[(0,a),(1,b),(2,c),(3,d),(4,e)]:=rfl
def ajw (k:yV) (n:Int):result hp (.int k n)=some (.int k n):=rfl
def aiY (b:Bool):result hp (.bool b)=some (.bool b):=rfl
def ajx (s:List Nat):result hp (.str s)=some (.str s):=rfl
def aiZ:result hp .ab=some .ab:=rfl
def ajy (e:Bool) (n:Nat) (cs:List AV):result hp (.aE e n cs)=some (.aE e n cs):=rfl
def shut_int (k:yV) (n:Int):shut (.int k n)= .int k n:=rfl
def shut_bool (b:Bool):shut (.bool b)= .bool b:=rfl
def am7 (s:List Nat):shut (.str s)= .str s:=rfl
def akW:shut .ab= .ab:=rfl
def am8 (e:Bool) (n:Nat) (cs:List AV):shut (.aE e n cs)= .aE e n cs:=rfl
def am9 (e:Bool) (sz n:Nat) (cs:List AV):shut (.cJ e sz n cs)= .aE e n cs:=rfl
def bl (cs:List AV):shut (.agg cs)= .agg cs:=rfl
def apt (g:Fr) (a b:List AV):shut (.fn g a b)= .fn g a b:=rfl
def Cq (vs:List AV):shut (.ap vs)= .ap (CO vs):=rfl
def akX:CO []=[]:=rfl
def ajz (v:AV) (r:List AV):CO (v::r)=bT v::CO r:=rfl
def akY (k:yV) (n:Int):bT (.int k n)= .int k n:=rfl
def ajA (b:Bool):bT (.bool b)= .bool b:=rfl
def akZ (s:List Nat):bT (.str s)= .str s:=rfl
def ajB:bT .ab= .ab:=rfl
def ak0 (e:Bool) (n:Nat) (cs:List AV):bT (.aE e n cs)= .aE e n cs:=rfl
def ak1 (e:Bool) (sz n:Nat) (cs:List AV):bT (.cJ e sz n cs)= .aE e n cs:=rfl
def oC (cs:List AV):bT (.agg cs)= .agg cs:=rfl
def Up (n:Nat) (r:List AV) (q:Option (AV×Hp)):Option (List AV×Hp):=match q with | some (v,hp)=>(match cO n hp r with | some (vs,gC)=>some (v::vs,gC) | none=>none) | none=>none
def afH (v:AV) (q:Option (List AV×Hp)):Option (List AV×Hp):=match q with | some (vs,hp)=>some (v::vs,hp) | none=>none
def ana (n:Nat):cO (n+1) hp []=some ([],hp):=rfl
def ZE (n:Nat) (v:AV) (r:List AV):cO (n+1) hp (v::r)=Up n r (freeze n hp v):=by
 simp only [cO,Up];cases freeze n hp v<;>rfl
def ado (n:Nat) (r:List AV) (v:AV):Up n r (some (v,hp))=afH v (cO n hp r):=by
 rfl
def arF (v:AV) (vs:List AV):afH v (some (vs,hp))=some (v::vs,hp):=rfl
def apu (n:Nat) (k:yV) (a:Int):freeze (n+1) hp (.int k a)=some (.int k a,hp):=rfl
def anb (n:Nat) (b:Bool):freeze (n+1) hp (.bool b)=some (.bool b,hp):=rfl
def apv (n:Nat) (s:List Nat):freeze (n+1) hp (.str s)=some (.str s,hp):=rfl
def anc (n:Nat):freeze (n+1) hp .ab=some (.ab,hp):=rfl
def apw (n:Nat) (e:Bool) (k:Nat) (cs:List AV):freeze (n+1) hp (.aE e k cs)=some (.aE e k cs,hp):=rfl
def ane (n:Nat) (cs:List AV):freeze (n+1) hp (.aI cs)=some (.aI cs,hp):=rfl
end
end
section
variable {hp:Hp}
def arG (a b:AV):Tf (.bool true) a b=some a:=rfl
def arH (a b:AV):Tf (.bool false) a b=some b:=rfl
def at8 (k:Nat->Option AV) (n:Nat):KV k (some n)=k n:=rfl
def ajC (k:yV) (n:Nat):dY (.int k (n:Int))=some n:=rfl
def arI (k:yV):dY (.int k 0)=some 0:=rfl
def arJ (k:yV):dY (.int k 1)=some 1:=rfl
def arK (k:yV):dY (.int k 2)=some 2:=rfl
def arM (k:yV):dY (.int k 3)=some 3:=rfl
def arN (k:yV):dY (.int k 4)=some 4:=rfl
def arO (k:yV):dY (.int k 5)=some 5:=rfl
def arP (k:yV):dY (.int k 6)=some 6:=rfl
def arQ (k:yV):dY (.int k 7)=some 7:=rfl
def arS (k:yV):dY (.int k 8)=some 8:=rfl
def arT (k:yV):dY (.int k 9)=some 9:=rfl
def apx (cs:List AV):aeY (some cs)=some (.agg cs):=rfl
def abP (k:yV) (a b:Int):binOp .add (.int k a) (.int k b)=some (.int k (k.wrap (a+b))):=by simp [binOp,lL]
def MO (k:yV) (a b:Int):binOp .sub (.int k a) (.int k b)=some (.int k (k.wrap (a-b))):=by simp [binOp,lL]
def abQ (k:yV) (a b:Int):binOp .mul (.int k a) (.int k b)=some (.int k (k.wrap (a*b))):=by simp [binOp,lL]
def eU (k:yV) (a b:Int) (h:b≠0):binOp .quo (.int k a) (.int k b)=some (.int k (k.wrap (a.tdiv b))):=by simp [binOp,lL,h]
def er (k:yV) (a b:Int) (h:b≠0):binOp .rem (.int k a) (.int k b)=some (.int k (a.tmod b)):=by simp [binOp,lL,h]
def apy (k:yV) (a b:Int):binOp .eql (.int k a) (.int k b)=some (.bool (decide (a=b))):=by
 simp [binOp,lL,intCmp,BEq.beq]
def apz (k:yV) (a b:Int):binOp .neq (.int k a) (.int k b)=some (.bool (!decide (a=b))):=by
 simp [binOp,lL,intCmp,bne,BEq.beq]
def apA (k:yV) (a b:Int):binOp .lss (.int k a) (.int k b)=some (.bool (decide (a<b))):=by simp [binOp,lL,intCmp]
def apB (k:yV) (a b:Int):binOp .leq (.int k a) (.int k b)=some (.bool (decide (a<=b))):=by simp [binOp,lL,intCmp]
def apC (k:yV) (a b:Int):binOp .gtr (.int k a) (.int k b)=some (.bool (decide (b<a))):=by simp [binOp,lL,intCmp]
def apD (k:yV) (a b:Int):binOp .geq (.int k a) (.int k b)=some (.bool (decide (b<=a))):=by simp [binOp,lL,intCmp]
def arU (k:yV) (a:Int):unOp .neg (.int k a)=some (.int k (k.wrap (0-a))):=rfl
def arV (b:Bool):unOp .not (.bool b)=some (.bool !b):=rfl
def anf:iI hp 1 .ab=some (.int .i64 0):=rfl
def apE (e:Bool) (n:Nat) (cs:List AV):iI hp 1 (.aE e n cs)=some (.int .i64 n):=rfl
def apF (id o n:Nat):iI hp 1 (.an id o n)=some (.int .i64 n):=rfl
def apG (s:List Nat):iI hp 0 (.str s)=some (.int .i64 s.length):=rfl
def Se {sz i n:Nat} (e:Bool) (cs:List AV) (h:i<n):jx sz i (.aE e n cs)=some (.aI (cs.drop (i*sz))):=by
 have hb:yK i n=true:=yv h;simp only [jx]
 grind
def dj {sz i n:Nat} (id o:Nat) (h:i<n):jx sz i (.an id o n)=some (.ptr id (o+i*sz)):=by
 have hb:yK i n=true:=yv h;simp only [jx]
 grind
def Ms (v:AV) (cs:List AV):jd hp 1 false (.aI (v::cs))=some v:=rfl
def P2 (sz:Nat) (ag:Bool) (o:Nat) (q:Option Obj):Option AV:=match q with | some (.cells _ _ _ _ cs)=>dO sz ag (cs.drop o) | _=>none
def arW (sz:Nat) (ag:Bool) (id o:Nat):jd hp sz ag (.ptr id o)=P2 sz ag o (ak hp id):=by
 rfl
def aua (sz:Nat) (ag:Bool) (o:Nat) (rw pu ex:Bool) (z:Nat) (cs:List AV):P2 sz ag o (some (.cells rw pu ex z cs))=dO sz ag (cs.drop o):=rfl
def aub (sz:Nat) (v:AV) (cs:List AV):dO sz false (v::cs)=some v:=rfl
def avo (a:AV) (l:List AV):JS 0 (.ap (a::l))=some a:=rfl
def ext1 (a b:AV) (l:List AV):JS 1 (.ap (a::b::l))=some b:=rfl
def avp (a b c:AV) (l:List AV):JS 2 (.ap (a::b::c::l))=some c:=rfl
def avq (a b c d:AV) (l:List AV):JS 3 (.ap (a::b::c::d::l))=some d:=rfl
end
def zy:Env->Bool
 | []=>true
 | (_,v)::r=>aR v&&zy r
mutual
def aJ:∀{v:AV},aR v=true->refs v=[]
 | .int _ _,_ | .bool _,_ | .dE _ _,_ | .str _,_ | .kB,_ | .aI _,_ | .ab,_ | .aE _ _ _,_ | .iA,_ | .jP,_ | .jy _ _,_ | .undef,_=>rfl
 | .ptr _ _,h | .an _ _ _,h | .map _,h | .it _,h | .cJ _ _ _ _,h=>by simp [aR] at h
 | .fn (.y _) _ _,h=>by simp [aR] at h
 | .fn (.f _) first cap,h=>by
  simp only [aR,yg] at h;simp only [refs,HC h.1,HC h.2,wc]
 | .agg cs,h=>by simp only [aR] at h;simp only [refs,HC h]
 | .ap cs,h=>by simp only [aR] at h;simp only [refs,HC h]
def HC:∀{vs:List AV},aH vs=true->eQ vs=[]
 | [],_=>rfl
 | v::r,h=>by
  simp only [aH,yg] at h;simp only [eQ,aJ h.1,HC h.2,wc]
end
mutual
def aO (f:Nat->Option Nat):∀{v:AV},aR v=true->cr f v=v
 | .int _ _,_ | .bool _,_ | .dE _ _,_ | .str _,_ | .kB,_ | .aI _,_ | .ab,_ | .aE _ _ _,_ | .iA,_ | .jP,_ | .jy _ _,_ | .undef,_=>rfl
 | .ptr _ _,h | .an _ _ _,h | .map _,h | .it _,h | .cJ _ _ _ _,h=>by simp [aR] at h
 | .fn (.y _) _ _,h=>by simp [aR] at h
 | .fn (.f _) first cap,h=>by
  simp only [aR,yg] at h;simp only [cr,HP f h.1,HP f h.2]
 | .agg cs,h=>by simp only [aR] at h;simp only [cr,HP f h]
 | .ap cs,h=>by simp only [aR] at h;simp only [cr,HP f h]
def HP (f:Nat->Option Nat):∀{vs:List AV},aH vs=true->fV f vs=vs
 | [],_=>rfl
 | v::r,h=>by
  simp only [aH,yg] at h;simp only [fV,aO f h.1,HP f h.2]
end
def YS:∀{tm:Env},zy tm=true->fy tm=[]
 | [],_=>rfl
 | (i,v)::r,h=>by
  simp only [zy,yg] at h;simp only [fy,aJ h.1,YS h.2,wc]
def ZF (f:Nat->Option Nat):∀{tm:Env},zy tm=true->kV f tm=tm
 | [],_=>rfl
 | (i,v)::r,h=>by
  simp only [zy,yg] at h;simp only [kV,aO f h.1,ZF f h.2]
def Lz {live:List Nat} {tm:Env} {ct:Nat} (h:zy (df tm live)=true):bD live ⟨tm,[],ct,0⟩=⟨df tm live,[],0,0⟩:=by
 simp only [bD,YS h,dz,wc];simp only [reach,kQ,mw,ZF _ h,yE,Nat.add_zero]
def ai0 {tm:Env} {ct:Nat}:bD [] ⟨tm,[],ct,0⟩=⟨[],[],0,0⟩:=rfl
def H5 {P:aG} {L:Lib} {live:List Nat} {a:VC} (I:Nat->St->Prop) (Q:Ex->St->Prop)
  (step:∀k s,I k s->(∃s' k',D P L a (bD live s)=some (.normal,s')/\k'<k/\I k' s')\/(∃ex s',D P L a (bD live s)=some (ex,s')/\ex≠.normal/\Q ex s')):
  ∀k s,I k s->∃ex s',D P L (.loop live a) s=some (ex,s')/\Q ex s':=by
 intro k
 induction k using Nat.strongRecOn with
 | _ k ih=>
  intro s hI;rw [EN];rcases step k s hI with ⟨s',k',h1,h2,h3⟩ | ⟨ex,s',h1,h2,h3⟩
  ·rw [h1,abM];exact ih k' h2 s' h3
  ·rw [h1]
   cases ex with
   | normal=>exact absurd rfl h2
   | ret=>exact ⟨.ret,s',rfl,h3⟩
   | exit id=>exact ⟨.exit id,s',rfl,h3⟩
def cg {P:aG} {L:Lib} {live:List Nat} {a:VC} (I:Nat->St->Prop) (Q:Ex->St->Prop)
  (step:∀k s,I k s->(∃s' k',D P L a s=some (.normal,s')/\k'<k/\I k' (bD live s'))\/(∃ex s',D P L a s=some (ex,s')/\ex≠.normal/\Q ex s')):
  ∀k s,I k (bD live s)->∃ex s',D P L (.loop live a) s=some (ex,s')/\Q ex s':=
 H5 (fun k s=>I k (bD live s)) Q (fun k s h=>step k _ h)
def bP {P:aG} {L:Lib} {c:VC} {s:St} {q:Option (Ex×St)} {I:St->Prop} {Q:Ex->St->Prop} (hq:D P L c s=q) (key:∀s,I s->∃ex s',D P L c s=some (ex,s')/\Q ex s') (hI:I s):
  ∃ex s',q=some (ex,s')/\Q ex s':=by
 rw [<-hq];exact key s hI
def ang (tm:Env):df tm []=[]:=rfl
def ak2 (tm:Env) (i:Nat) (r:List Nat):df tm (i::r)=(i,af tm i)::df tm r:=rfl
def ak3:zy []=true:=rfl
def ajD (i:Nat) (v:AV) (r:Env):zy ((i,v)::r)=(aR v&&zy r):=rfl
def CM (k:yV) (n:Int):aR (.int k n)=true:=(rfl)
def apH (b:Bool):aR (.bool b)=true:=(rfl)
def arX (s:List Nat):aR (.str s)=true:=(rfl)
def apI:aR .ab=true:=(rfl)
def arY (e:Bool) (n:Nat) (cs:List AV):aR (.aE e n cs)=true:=(rfl)
def apJ (cs:List AV):aR (.aI cs)=true:=(rfl)
def anh:aR .undef=true:=(rfl)
attribute [go_sem] deep ai0 ang ak2 ak3 ajD CM apH arX apI arY apJ anh uF wA
attribute [go_sem] arc ard atX JQ avj Tb iK are Tc fu apa apb abM apc apd Sd ape Ij apf adl arf apg aph
 abN amU akP abO atY aeX amV amW amX amY api arh ari akQ ajv amZ akR H4 akS aaC akT am0 am1 akU
 avk avl arj apj am2 atZ apk ark at0 at1 at2 arl arm arn aro arp arq ars art aru arv arw apl arx ary arz at3 arA am3 am4 am5
 apm apn apo apq apr arB arD adm adn Fv avn am6 akV aps arE E2 at4 ae0 at5 at6 at7
 ajw aiY ajx aiZ ajy shut_int shut_bool am7 akW am8 am9 bl apt Cq akX ajz akY ajA akZ ajB ak0 ak1 oC
 ana ZE ado arF apu anb apv anc apw ane
 arG arH at8 ajC arI arJ arK arM arN arO arP arQ arS arT apx abP MO abQ apy apz apA apB apC apD arU arV anf apE apF apG Ms arW aua aub avo ext1 avp avq
 List.nil_append wc List.cons_append yq yo Bool.not_true Bool.not_false tJ uV
end
section
open Go (IntKind)
abbrev aa (n:Int):AV:= .int .i64 n
def cZ (v:AV) (cs:List AV):Prop:=(v= .ab/\cs=[])\/∃e,v= .aE e cs.length cs
section
variable {v:AV} {cs:List AV} {hp:Hp}
def cZ.len (h:cZ v cs) {hp:Hp}:iI hp 1 v=some (.int .i64 (cs.length:Nat)):=by
 rcases h with ⟨rfl,rfl⟩ | ⟨e,rfl⟩<;>rfl
def cZ.pu (h:cZ v cs):aR v=true:=by
 rcases h with ⟨rfl,rfl⟩ | ⟨e,rfl⟩<;>rfl
def cZ.ah (h:cZ v cs) (n:Nat) {hp:Hp}:freeze (n+1) hp v=some (v,hp):=by
 rcases h with ⟨rfl,rfl⟩ | ⟨e,rfl⟩<;>rfl
def cZ.shut (h:cZ v cs):shut v=v:=by
 rcases h with ⟨rfl,rfl⟩ | ⟨e,rfl⟩<;>rfl
def cZ.bT (h:cZ v cs):bT v=v:=by
 rcases h with ⟨rfl,rfl⟩ | ⟨e,rfl⟩<;>rfl
def cZ.dT (h:cZ v cs) {hp:Hp}:result hp v=some v:=by
 rcases h with ⟨rfl,rfl⟩ | ⟨e,rfl⟩<;>rfl
def cZ.bk (h:cZ v cs) {i:Nat} (hi:i<cs.length):jx 1 i v=some (.aI (cs[i]::cs.drop (i+1))):=by
 rcases h with ⟨rfl,rfl⟩ | ⟨e,rfl⟩
 ·grind
 ·rw [Se e _ hi,yh,yL hi]
def cZ.one (h:cZ v cs):bm v=true:=by
 rcases h with ⟨rfl,rfl⟩ | ⟨e,rfl⟩<;>rfl
def cZ.cells (h:cZ v cs):cellsOf v=[v]:=by
 rcases h with ⟨rfl,rfl⟩ | ⟨e,rfl⟩<;>rfl
def Ik (e:Bool) (cs:List AV):cZ (.aE e cs.length cs) cs:= .inr ⟨e,rfl⟩
def pZ:cZ .ab []:= .inl ⟨rfl,rfl⟩
end
def br (v:AV) (l:List Int):Prop:=cZ v (l.map aa)
section
variable {v:AV} {l:List Int}
def br.len (h:br v l) {hp:Hp}:iI hp 1 v=some (.int .i64 (l.length:Nat)):=by
 have:=cZ.len (hp:=hp) h
 grind
def br.pu (h:br v l):aR v=true:=cZ.pu h
def br.ah (h:br v l) (n:Nat) {hp:Hp}:freeze (n+1) hp v=some (v,hp):=cZ.ah h n
def br.shut (h:br v l):VE.shut v=v:=cZ.shut h
def br.bT (h:br v l):VE.bT v=v:=cZ.bT h
def br.dT (h:br v l) {hp:Hp}:result hp v=some v:=cZ.dT h
def br.one (h:br v l):bm v=true:=cZ.one h
def br.cells (h:br v l):cellsOf v=[v]:=cZ.cells h
def br.bk (h:br v l) {i:Nat} (hi:i<l.length):jx 1 i v=some (.aI (.int .i64 l[i]::(l.map aa).drop (i+1))):=by
 have:=cZ.bk h (i:=i) (by simpa using hi)
 grind
def fm (e:Bool) (l:List Int):br (.aE e l.length (l.map aa)) l:=by
 have:=Ik e (l.map aa)
 rwa [List.length_map] at this
end
def li {α β:Type} (p:α->β->Prop):List α->List β->Prop
 | [],[]=>True
 | a::r,b::s=>p a b/\li p r s
 | _,_=>False
section
variable {α β:Type} {p:α->β->Prop}
def li.len:∀{l:List α} {m:List β},li p l m->l.length=m.length
 | [],[],_=>rfl
 | _::_,_::_,h=>by rw [yr,yr,h.2.len]
def li.get:∀{l:List α} {m:List β} (_:li p l m) {i:Nat} (h1:i<l.length) (h2:i<m.length),p l[i] m[i]
 | a::r,b::s,h,0,_,_=>h.1
 | a::r,b::s,h,i+1,h1,h2=>by
  exact h.2.get (by simpa using h1) (by simpa using h2)
def li.append:∀{l l':List α} {m m':List β},li p l m->li p l' m'->li p (l++l') (m++m')
 | [],_,[],_,_,h=>h
 | _::_,_,_::_,_,h,k=>⟨h.1,h.2.append k⟩
end
def cF (v:AV) (s:List (List Int)):Prop:=∃rows,cZ v rows/\li br rows s
section
variable {v:AV} {s:List (List Int)}
def cF.len (h:cF v s) {hp:Hp}:iI hp 1 v=some (.int .i64 (s.length:Nat)):=by
 obtain ⟨rows,h1,h2⟩:=h;rw [<-h2.len];exact h1.len
def cF.pu (h:cF v s):aR v=true:=by obtain ⟨rows,h1,h2⟩:=h;exact h1.pu
def cF.ah (h:cF v s) (n:Nat) {hp:Hp}:freeze (n+1) hp v=some (v,hp):=by obtain ⟨rows,h1,h2⟩:=h;exact h1.ah n
def cF.shut (h:cF v s):VE.shut v=v:=by obtain ⟨rows,h1,h2⟩:=h;exact h1.shut
def cF.bT (h:cF v s):VE.bT v=v:=by obtain ⟨rows,h1,h2⟩:=h;exact h1.bT
def cF.dT (h:cF v s) {hp:Hp}:result hp v=some v:=by obtain ⟨rows,h1,h2⟩:=h;exact h1.dT
def cF.one (h:cF v s):bm v=true:=by obtain ⟨rows,h1,h2⟩:=h;exact h1.one
def cF.cells (h:cF v s):cellsOf v=[v]:=by obtain ⟨rows,h1,h2⟩:=h;exact h1.cells
def cF.bk (h:cF v s) {i:Nat} (hi:i<s.length):∃r rest,br r s[i]/\jx 1 i v=some (.aI (r::rest)):=by
 obtain ⟨rows,h1,h2⟩:=h;have cu:i<rows.length:=by rw [h2.len];exact hi
 exact ⟨_,_,h2.get cu hi,h1.bk cu⟩
def H6:cF .ab []:=⟨[],pZ,trivial⟩
end
def wrap64 {n:Int} (h1: -9223372036854775808<=n) (h2:n<9223372036854775808):IntKind.wrap .i64 n=n:=by
 simp only [IntKind.wrap,IntKind.bits,IntKind.signed,wA]
 grind
def wrapN {n:Nat} (h:n<9223372036854775808):IntKind.wrap .i64 (n:Int)=n:=wrap64 (by omega) (by omega)
end
section
open Go (IntKind)
section
variable {P:aG} {L:Lib}
abbrev ae (P:aG) (L:Lib) (f:Nat) (vals:List AV) (r:AV):Prop:=bO P L (D P L) f vals=some r
def Wp (h:Has P L 30 Ak) (n lo hi:Int):ae P L 30 [aa n,aa lo,aa hi] (aa (if n<lo\/hi<n then 3 else 0)):=by
 unfold ae;rw [av h];by_cases h1:n<lo
 ·simp only [go_sem,ya,Ak,h1,true_or,y5]
 ·by_cases h2:hi<n
  ·simp only [go_sem,ya,Ak,h1,h2,or_true,y5]
  ·simp only [go_sem,ya,Ak,h1,h2,or_self,yO]
def mO (h:Has P L 31 Al) (b:Bool) (n:Int):ae P L 31 [.bool b,aa n] (aa (if b=true then n else 0)):=by
 unfold ae;rw [av h]
 cases b with
 | true=>simp only [go_sem,ya,Al,y5]
 | false=>simp only [go_sem,ya,Al];rfl
def F1 (h:Has P L 34 Am) (fK:Has P L 31 Al) (n lo hi:Int):ae P L 34 [aa n,aa lo,aa hi] (aa (if n<lo\/hi<n then 3 else 0)):=by
 unfold ae;rw [av h];by_cases h1:n<lo
 ·simp only [go_sem,ya,Am,h1,true_or,y5,mO fK]
 ·by_cases h2:hi<n
  ·simp only [go_sem,ya,Am,h1,h2,or_true,y5,mO fK]
  ·simp only [go_sem,ya,Am,h1,h2,or_self,yO,mO fK];rfl
def s36 (h:Has P L 36 PB) (nm:Has P L 34 Am) (fK:Has P L 31 Al) (n:Int):ae P L 36 [aa n] (aa (if n<0\/1000<n then 3 else 0)):=by
 unfold ae;rw [av h];simp only [go_sem,ya,PB,F1 nm fK]
def s38 (h:Has P L 38 KI) (a b:Int):ae P L 38 [aa a,aa b] (aa (IntKind.wrap .i64 (a+b))):=by
 unfold ae;rw [av h];simp only [go_sem,ya,KI]
def sC (h:Has P L 33 KH) {v:AV} {l:List Int} (hv:br v l) (hl:l.length<=1000000):ae P L 33 [v] (aa (bj l)):=by
 unfold ae;rw [av h];simp only [go_sem,ya,KH,hv.len];have key:=H5 (P:=P) (L:=L) (live:=[5,6,7]) (a:=Nr)
  (I:=fun k s=>∃tm ct i,s=⟨tm,[],ct,0⟩/\af tm 5=v/\af tm 6=aa l.length/\af tm 7=aa (i:Nat)/\i+k=l.length/\bj (l.drop i)=bj l)
  (Q:=fun ex s=>∃tm,s=⟨tm,[],0,0⟩/\((ex= .ret/\af tm 2=aa (bj l))\/(ex= .exit 0/\bj l=0))) ?_ l.length
 ·generalize hq:D P L (.loop [5,6,7] Nr) _=q;obtain ⟨ex,s,rfl,tm,rfl,h2⟩:=bP hq key ⟨_,_,0,rfl,rfl,rfl,rfl,by omega,rfl⟩;rcases h2 with ⟨rfl,h2⟩ | ⟨rfl,h2⟩
  ·simp only [go_sem,h2]
  ·rw [h2];simp only [go_sem]
 ·rintro k s ⟨tm,ct,i,rfl,h5,h6,h7,hk,hf⟩;rw [Lz (by simp only [go_sem,h5,h6,h7,hv.pu])];simp only [go_sem,ya,h5,h6,h7,Nr];by_cases hi:i<l.length
  ·have cu:(i:Int)<l.length:=by omega
   rw [QF hi] at hf;by_cases hz:l[i]=0
   ·left
    simp only [go_sem,ya,cu,hv.bk hi,hz];refine ⟨_,k-1,rfl,by omega,_,_,i+1,rfl,?_⟩;rw [wrap64 (by omega) (by omega)];rw [yI hz] at hf;simp only [go_sem,ya];exact ⟨trivial,trivial,rfl,by omega,hf⟩
   ·right
    simp only [go_sem,ya,cu,hv.bk hi,hz];rw [yB hz] at hf;refine ⟨_,_,rfl,by simp,_,rfl,.inl ⟨rfl,?_⟩⟩;simp only [go_sem,hf]
  ·right
   have cu:¬(i:Int)<l.length:=by omega
   simp only [go_sem,cu];refine ⟨_,_,rfl,by simp,_,rfl,.inr ⟨rfl,?_⟩⟩;rw [<-hf,y8 (by omega)];rfl
def Wq {n:Nat} (h:Has P L n KL) {v:AV} {l:List Int} (hv:br v l) (hl:l.length<=1000000):ae P L n [v] (aa (bj l)):=by
 unfold ae;rw [av h];simp only [go_sem,KL];have key:=H5 (P:=P) (L:=L) (live:=[0,3]) (a:=Nt)
  (I:=fun k s=>∃tm ct i,s=⟨tm,[],ct,0⟩/\af tm 0=v/\af tm 3=aa (i:Nat)/\i+k=l.length/\bj (l.drop i)=bj l)
  (Q:=fun ex s=>∃tm,s=⟨tm,[],0,0⟩/\((ex= .ret/\af tm 2=aa (bj l))\/(ex= .exit 0/\bj l=0))) ?_ l.length
 ·generalize hq:D P L (.loop [0,3] Nt) _=q;obtain ⟨ex,s,rfl,tm,rfl,h2⟩:=bP hq key ⟨_,_,0,rfl,rfl,rfl,by omega,rfl⟩;rcases h2 with ⟨rfl,h2⟩ | ⟨rfl,h2⟩
  ·simp only [go_sem,h2]
  ·rw [h2];simp only [go_sem]
 ·rintro k s ⟨tm,ct,i,rfl,h0,h3,hk,hf⟩;rw [Lz (by simp only [go_sem,h0,h3,hv.pu])];simp only [go_sem,ya,h0,h3,Nt,hv.len];by_cases hi:i<l.length
  ·have cu:(i:Int)<l.length:=by omega
   rw [QF hi] at hf;by_cases hz:l[i]=0
   ·left
    simp only [go_sem,ya,cu,hv.bk hi,hz];refine ⟨_,k-1,rfl,by omega,_,_,i+1,rfl,?_⟩;rw [wrap64 (by omega) (by omega)];rw [yI hz] at hf;simp only [go_sem,ya];exact ⟨trivial,rfl,by omega,hf⟩
   ·right
    simp only [go_sem,ya,cu,hv.bk hi,hz];rw [yB hz] at hf;refine ⟨_,_,rfl,by simp,_,rfl,.inl ⟨rfl,?_⟩⟩;simp only [go_sem,hf]
  ·right
   have cu:¬(i:Int)<l.length:=by omega
   simp only [go_sem,cu];refine ⟨_,_,rfl,by simp,_,rfl,.inr ⟨rfl,?_⟩⟩;rw [<-hf,y8 (by omega)];rfl
def F2 (h:Has P L 11 iD) (sD:Has P L 42 KL) {v:AV} {l:List Int} (hv:br v l) (hl:l.length<=1000000):ae P L 11 [v] (aa (bj l)):=by
 unfold ae;rw [av h];simp only [go_sem,ya,iD,hv.ah,Wq sD hv hl]
def OG (h:Has P L 134 C5) {n m:Int} (hm:0<m) (gK:m<=1000000):ae P L 134 [aa n,aa m] (aa (n%m)):=by
 unfold ae;rw [av h];have h1:m≠0:=by omega
 have h2:n.tmod m<m:=Int.tmod_lt_of_pos n hm;have h3: -m<n.tmod m:=by
  have h:=Int.lt_tmod_of_pos n hm;omega
 simp only [go_sem,ya,C5,er _ _ _ h1,wrap64 (n:=n.tmod m+m) (by omega) (by omega),ao9 hm]
end
end
section
open Go (IntKind)
section
variable {P:aG} {L:Lib} {f:cK} {tm:Env} {hp:Hp} {ct:Nat}
def ak4 (k:yV) (n:Int):cellsOf (.int k n)=[.int k n]:=(rfl)
def ajE (b:Bool):cellsOf (.bool b)=[.bool b]:=(rfl)
def ak5 (s:List Nat):cellsOf (.str s)=[.str s]:=(rfl)
def ajF:cellsOf .ab=[.ab]:=(rfl)
def ak6 (e:Bool) (n:Nat) (cs:List AV):cellsOf (.aE e n cs)=[.aE e n cs]:=(rfl)
def ak7 (id o n:Nat):cellsOf (.an id o n)=[.an id o n]:=(rfl)
def ak8 (id o:Nat):cellsOf (.ptr id o)=[.ptr id o]:=(rfl)
def ani (g:Fr) (a b:List AV):cellsOf (.fn g a b)=[.fn g a b]:=(rfl)
def ak9 (cs:List AV):cellsOf (.agg cs)=cs:=(rfl)
def Ep (k:yV) (n:Int):bm (.int k n)=true:=(rfl)
def anj (b:Bool):bm (.bool b)=true:=(rfl)
def Il (s:List Nat):bm (.str s)=true:=(rfl)
def ank:bm .ab=true:=(rfl)
def apK (e:Bool) (n:Nat) (cs:List AV):bm (.aE e n cs)=true:=(rfl)
def apL (id o n:Nat):bm (.an id o n)=true:=(rfl)
def apM (id o:Nat):bm (.ptr id o)=true:=(rfl)
def arZ (g:Fr) (a b:List AV):bm (.fn g a b)=true:=(rfl)
def anl:bK []=true:=(rfl)
def ZG (v:AV) (r:List AV):bK (v::r)=(bm v&&bK r):=(rfl)
def ala:aH []=true:=(rfl)
def YT (v:AV) (r:List AV):aH (v::r)=(aR v&&aH r):=(rfl)
def ar0 (id o:Nat):aR (.ptr id o)=false:=(rfl)
def adp (id o n:Nat):aR (.an id o n)=false:=(rfl)
def auc (g:Nat) (a b:List AV):aR (.fn (.f g) a b)=(aH a&&aH b):=(rfl)
def avr (l:Nat) (a b:List AV):aR (.fn (.y l) a b)=false:=(rfl)
def ar1 (cs:List AV):aR (.agg cs)=aH cs:=(rfl)
def ar2 (cs:List AV):aR (.ap cs)=aH cs:=(rfl)
def By (ct sz:Nat) (cs:List AV):Option (AV×Obj):=bif yu cs.length sz&&bK cs then some (.ptr ct 0,.cells true (aH cs) true sz cs) else none
def ar3 (sz:Nat) (x:X):da tm hp ct (.box sz x)=By ct sz (cellsOf (aA tm x)):=rfl
def ae1 {v:AV} (h:bm v=true):By ct 1 [v]=some (.ptr ct 0,.cells true (aR v&&true) true 1 [v]):=by
 simp [By,bK,aH,h]
def aB {cs:List AV} {n:Nat} (hn:cs.length=n) (h:bK cs=true):By ct n cs=some (.ptr ct 0,.cells true (aH cs) true n cs):=by
 subst hn;simp [By,h]
def eM (hp:Hp) (ct id o sz:Nat) (new:List AV) (q:Option Obj):gD:=
 match q with
 | some (.cells true pu ex z cs)=>bif yu new.length sz&&yG (o+sz) cs.length&&bK new then some (.ap [],aW hp id (.cells true (pu&&aH new) ex z (over o new cs)),ct) else none
 | _=>none
def stV (hp:Hp) (ct sz:Nat) (p:AV) (new:List AV):gD:=match p with | .ptr id o=>eM hp ct id o sz new (ak hp id) | _=>none
def aaD (sz:Nat) (x v:X):di tm hp ct (.st sz x v)=stV hp ct sz (aA tm x) (cellsOf (aA tm v)):=rfl
def ae2 (sz id o:Nat) (new:List AV):stV hp ct sz (.ptr id o) new=eM hp ct id o sz new (ak hp id):=rfl
def avt {v u:AV} {id z:Nat} {pu ex:Bool} (h:bm v=true):eM hp ct id 0 1 [v] (some (.cells true pu ex z [u]))=some (.ap [],aW hp id (.cells true (pu&&(aR v&&true)) ex z [v]),ct):=by
 simp [eM,bK,aH,h,over];rfl
def jb {new cs:List AV} {id o sz z:Nat} {pu ex:Bool} (h1:new.length=sz) (h2:o+sz<=cs.length) (h:bK new=true):
  eM hp ct id o sz new (some (.cells true pu ex z cs))=some (.ap [],aW hp id (.cells true (pu&&aH new) ex z (over o new cs)),ct):=by
 subst h1;simp [eM,h,yv h2]
def ND (ct n sz:Nat) (q:Option (List AV)):Option (AV×Obj):=match q with | some cs=>bif yu cs.length (n*sz) then some (.an ct 0 n,.cells true (aH cs) true sz cs) else none | none=>none
def apN (n sz:Nat) (z:List AV) (ps:List (Nat×Nat×X)):da tm hp ct (.bN n sz z ps)=ND ct n sz (fill tm z ps):=by
 simp only [da,ND];cases fill tm z ps<;>rfl
def apO {n sz:Nat} {cs:List AV} (h:cs.length=n*sz):ND ct n sz (some cs)=some (.an ct 0 n,.cells true (aH cs) true sz cs):=by
 simp [ND,h]
def gB (tm:Env) (cs:List AV) (o sz:Nat) (new:List AV) (r:List (Nat×Nat×X)):Option (List AV):=
 bif yu new.length sz&&yG (o+sz) cs.length&&bK new then fill tm (over o new cs) r else none
def anm (cs:List AV):fill tm cs []=some cs:=rfl
def alb (cs:List AV) (o sz:Nat) (x:X) (r:List (Nat×Nat×X)):fill tm cs ((o,sz,x)::r)=gB tm cs o sz (cellsOf (aA tm x)) r:=rfl
def abR {cs:List AV} {o:Nat} {v:AV} {r:List (Nat×Nat×X)} (h1:o+1<=cs.length) (h2:bm v=true):gB tm cs o 1 [v] r=fill tm (over o [v] cs) r:=by
 simp [gB,bK,h2,yv h1]
def j9 {cs new:List AV} {o sz:Nat} {r:List (Nat×Nat×X)} (h0:new.length=sz) (h1:o+sz<=cs.length) (h2:bK new=true):gB tm cs o sz new r=fill tm (over o new cs) r:=by
 subst h0;simp [gB,h2,yv h1]
def aud (v u:AV) (r:List AV):over 0 [v] (u::r)=v::r:=rfl
def aue (v a u:AV) (r:List AV):over 1 [v] (a::u::r)=a::v::r:=rfl
def auf (v a b u:AV) (r:List AV):over 2 [v] (a::b::u::r)=a::b::v::r:=rfl
def aug (v a b c u:AV) (r:List AV):over 3 [v] (a::b::c::u::r)=a::b::c::v::r:=rfl
def auh (v a b c d u:AV) (r:List AV):over 4 [v] (a::b::c::d::u::r)=a::b::c::d::v::r:=rfl
def aui (v a b c d e u:AV) (r:List AV):over 5 [v] (a::b::c::d::e::u::r)=a::b::c::d::e::v::r:=rfl
def zQ (ct sz by':Nat) (zero:List AV) (l c:Option Nat):Option (AV×Obj):=
 match l,c with
 | some l,some c=>bif yG l c&&(yG c room&&(yG (c*by') room&&(yu zero.length sz&&bK zero))) then some (.an ct 0 l,.cells true (aH zero) (yu l c) sz (yz l zero).flatten) else none
 | _,_=>none
def ar4 (sz by':Nat) (z:List AV) (l c:X):da tm hp ct (.ig sz by' z l c)=zQ ct sz by' z (dY (aA tm l)) (dY (aA tm c)):=by
 simp only [da,zQ]
 grind
def EO {sz by' l:Nat} {z:List AV} (h1:l<=1099511627776) (h2:l*by'<=1099511627776) (h3:z.length=sz) (h4:bK z=true):
  zQ ct sz by' z (some l) (some l)=some (.an ct 0 l,.cells true (aH z) true sz (yz l z).flatten):=by
 subst h3;simp [zQ,h4,yv (show l<=room from h1),yv (show l*by'<=room from h2),yv (yC l)]
def Db (hp:Hp) (ct sz by':Nat) (s:AV) (src:Option (Nat×List AV)):gD:=
 match src with
 | none=>none
 | some (m,new)=>
  match s with
  | .ab=>
   bif yu m 0 then some (.ab,hp,ct)
   else bif yG m room&&(yG (m*by') room&&yK 0 sz) then some (.an ct 0 m,(ct,.cells true (aH new) false sz new)::hp,ct+1) else none
  | .aE true n cs=>
   bif yu m 0 then some (.aE true n cs,hp,ct)
   else bif yG (n+m) room&&(yG ((n+m)*by') room&&(yu cs.length (n*sz)&&yK 0 sz)) then some (.an ct 0 (n+m),(ct,.cells true (aH cs&&aH new) false sz (cs++new))::hp,ct+1) else none
  | .an id o n=>
   match ak hp id with
   | some (.cells true pu _ z cs)=>
    bif yu z sz&&(yG (n+m) room&&(yG ((n+m)*by') room&&(yG (o+n*sz) cs.length&&(yK 0 sz&&bK new)))) then
     some (.an ct 0 (n+m),(ct,.cells true (pu&&aH new) false sz (slice o (n*sz) cs++new))::dA hp id,ct+1)
    else none
   | _=>none
  | _=>none
def alc (sz by':Nat) (s x:X):di tm hp ct (.dL sz by' s x)=Db hp ct sz by' (aA tm s) (za hp sz (aA tm x)):=by
 simp only [di,Db]
 cases za hp sz (aA tm x) with
 | none=>rfl
 | some q=>obtain ⟨m,new⟩:=q;cases aA tm s<;>rfl
def ajG (sz id o n:Nat):za hp sz (.an id o n)=qd hp sz (.an id o n):=rfl
def ajH (sz:Nat) (e:Bool) (n:Nat) (cs:List AV):za hp sz (.aE e n cs)=qd hp sz (.aE e n cs):=rfl
def ai1 (sz:Nat):za hp sz .ab=some (0,[]):=rfl
def Wr (o n sz:Nat) (q:Option Obj):Option (Nat×List AV):=match q with | some (.cells _ _ _ _ cs)=>bif yG (o+n*sz) cs.length then some (n,slice o (n*sz) cs) else none | _=>none
def ai2 (sz id o n:Nat):qd hp sz (.an id o n)=Wr o n sz (ak hp id):=rfl
def auj (rw pu ex:Bool) (z:Nat) (v:AV):Wr 0 1 1 (some (.cells rw pu ex z [v]))=some (1,[v]):=rfl
def kL {sz by':Nat} {new:List AV} {m:Nat} (hm:0<m) (h1:m<=1099511627776) (h2:m*by'<=1099511627776) (hs:0<sz):
  Db hp ct sz by' .ab (some (m,new))=some (.an ct 0 m,(ct,.cells true (aH new) false sz new)::hp,ct+1):=by
 have e1:yu m 0=false:=cG (by omega);have e2:yK 0 sz=true:=yv hs;simp [Db,e1,e2,yv (show m<=room from h1),yv (show m*by'<=room from h2)]
def ki {sz by' id n m:Nat} {pu ex:Bool} {cs new:List AV} (hg:ak hp id=some (.cells true pu ex sz cs)) (hl:cs.length=n*sz) (h1:n+m<=1099511627776) (h2:(n+m)*by'<=1099511627776) (hs:0<sz) (ho:bK new=true):
  Db hp ct sz by' (.an id 0 n) (some (m,new))=some (.an ct 0 (n+m),(ct,.cells true (pu&&aH new) false sz (cs++new))::dA hp id,ct+1):=by
 have e2:yK 0 sz=true:=yv hs;simp only [Db,hg];simp [e2,ho,yv (show n+m<=room from h1),yv (show (n+m)*by'<=room from h2),<-hl,slice,yv (yC cs.length)]
def afI (n:Nat) (g:Nat) (cap:List AV) (q:Option (List AV×Hp)):Option (AV×Hp):=match q with | some (first,hp)=>(match cO n hp cap with | some (NQ,gC)=>some (.fn (.f g) first NQ,gC) | none=>none) | none=>none
def afJ (g:Nat) (first:List AV) (q:Option (List AV×Hp)):Option (AV×Hp):=match q with | some (cap,hp)=>some (.fn (.f g) first cap,hp) | none=>none
def ar5 (n g:Nat) (first cap:List AV):freeze (n+1) hp (.fn (.f g) first cap)=afI n g cap (cO n hp first):=rfl
def ar6 (n g:Nat) (first cap:List AV):afI n g cap (some (first,hp))=afJ g first (cO n hp cap):=rfl
def ar7 (g:Nat) (first cap:List AV):afJ g first (some (cap,hp))=some (.fn (.f g) first cap,hp):=rfl
def afK (o:Nat) (q:Option (Bool×Nat×List AV×Hp)):Option (AV×Hp):=match q with | some (_,_,cs,hp)=>some (.aI (cs.drop o),hp) | none=>none
def apP (n id o:Nat):freeze (n+1) hp (.ptr id o)=afK o (q9 n hp id):=rfl
def ar8 (o:Nat) (ex:Bool) (sz:Nat) (cs:List AV):afK o (some (ex,sz,cs,hp))=some (.aI (cs.drop o),hp):=rfl
def lU (o k:Nat) (q:Option (Bool×Nat×List AV×Hp)):Option (AV×Hp):=
 match q with
 | some (ex,sz,cs,hp)=>bif yG (o+k*sz) cs.length then some (.aE (ex&&yK 0 sz&&yu (o+k*sz) cs.length) k (slice o (k*sz) cs),hp) else none
 | none=>none
def Sf (n id o k:Nat):freeze (n+1) hp (.an id o k)=lU o k (q9 n hp id):=rfl
def nC {sz k:Nat} {cs:List AV} (ex:Bool) (hl:cs.length=k*sz) (hs:0<sz):lU 0 k (some (ex,sz,cs,hp))=some (.aE ex k cs,hp):=by
 have e2:yK 0 sz=true:=yv hs;simp [lU,<-hl,e2,slice,yv (yC cs.length)]
def JT (n id:Nat) (hp:Hp) (q:Option Obj):Option (Bool×Nat×List AV×Hp):=
 match q with
 | some (.cells rw pu ex sz cs)=>
  bif pu then some (ex,sz,cs,bif rw then aW hp id (.cells false true ex sz cs) else hp)
  else match cO n hp cs with
   | some (dN,ao)=>some (ex,sz,dN,aW ao id (.cells false false ex sz cs))
   | none=>none
 | _=>none
def Sg (n id:Nat):q9 (n+1) hp id=JT n id hp (ak hp id):=rfl
def adq (n id:Nat) (ex:Bool) (sz:Nat) (cs:List AV):JT n id hp (some (.cells true true ex sz cs))=some (ex,sz,cs,aW hp id (.cells false true ex sz cs)):=rfl
def adr (n id:Nat) (ex:Bool) (sz:Nat) (cs:List AV):JT n id hp (some (.cells false true ex sz cs))=some (ex,sz,cs,hp):=rfl
def aZ (n:Nat) (cs:List AV) (h:cO n hp cs=some (cs,hp)):freeze (n+1) hp (.agg cs)=some (.agg cs,hp):=by
 simp only [freeze,h]
def QV {id n sz:Nat} {ex:Bool} {cs:List AV} (hg:ak hp id=some (.cells true true ex sz cs)) (hl:cs.length=n*sz) (hs:0<sz):result hp (.an id 0 n)=some (.cJ ex sz n cs):=by
 have e2:yK 0 sz=true:=yv hs;simp only [result,oJ,hg,yd,<-hl,yv (yC cs.length),ym,e2,uF,slice,yj,List.take_length]
 simp
def aiq (b:Bool):result hp (.ap [.ab,.bool b])=some (.ap [.ab,.bool b]):=rfl
def air (k:yV) (b:Int):result hp (.ap [.ab,.int k b])=some (.ap [.ab,.int k b]):=rfl
def ais (e:Bool) (n:Nat) (cs:List AV) (k:yV) (b:Int):result hp (.ap [.aE e n cs,.int k b])=some (.ap [.aE e n cs,.int k b]):=rfl
def ald (s:St):oO [] s=some s:=rfl
def Ws (t:Nat) (r:List Nat) (tm:Env) (ct base:Nat) (q:Option (AV×Hp)):Option St:=match q with | some (v,hp)=>oO r ⟨(t,v)::tm,hp,ct,base⟩ | none=>none
def ajI (t:Nat) (r:List Nat) (tm:Env) (hp:Hp) (ct base:Nat):oO (t::r) ⟨tm,hp,ct,base⟩=Ws t r tm ct base (freeze deep hp (af tm t)):=by
 simp only [oO,Ws];cases freeze deep hp (af tm t)<;>rfl
def auk (t:Nat) (r:List Nat) (tm:Env) (ct base:Nat) (v:AV) (hp:Hp):Ws t r tm ct base (some (v,hp))=oO r ⟨(t,v)::tm,hp,ct,base⟩:=rfl
end
attribute [go_sem] aiq air ais ak4 ajE ak5 ajF ak6 ak7 ak8 ani ak9 Ep anj Il ank apK apL apM arZ anl ZG
 ala YT ar0 adp auc avr ar1 ar2 ar3 ae1 aaD ae2 avt apN anm alb aud aue auf aug auh aui ar4
 alc ajG ajH ai1 ai2 auj ar5 ar6 ar7 apP ar8 Sf nC apO abR Sg adq adr ald ajI auk
 Bool.and_false Bool.false_and yj eq_self
end
section
open Go (IntKind)
def aaE:∀hp:Hp,dz 0 hp=[]
 | []=>rfl
 | (id,o)::r=>by
  have:yK id 0=false:=rfl
  simp only [dz,this,yA,aaE r]
def ads (f:Nat->Option Nat):∀hp:Hp,mw 0 f hp=[]
 | []=>rfl
 | (id,o)::r=>by
  have:yK id 0=false:=rfl
  simp only [mw,this,yA,ads f r]
def pos (seen:List Nat):Nat->Option Nat:=fun id=>mD id seen 0
def Uq (tm:Env) (hp:Hp) (seen:List Nat):St:=⟨kV (pos seen) tm,kQ hp (pos seen) seen 0 [],seen.length,0⟩
def sE (hp:Hp):Nat->List Nat->List Nat->List Nat:=reach hp 0
def ay (live:List Nat) (tm:Env) (hp:Hp) (ct:Nat):bD live ⟨tm,hp,ct,0⟩=Uq (df tm live) hp (sE hp 100000 (fy (df tm live)) []):=by
 have e:∀seen,kP 0 seen=pos seen:=fun seen=>by
  funext id
  have:yK id 0=false:=rfl
  simp only [kP,this,yA,pos]
 simp only [bD,aaE,wc,e,ads,Uq,sE,yd]
def ale:fy []=[]:=rfl
def ajJ (i:Nat) (v:AV) (r:Env):fy ((i,v)::r)=refs v++fy r:=rfl
def ann (k:yV) (n:Int):refs (.int k n)=[]:=rfl
def alf (b:Bool):refs (.bool b)=[]:=rfl
def ano (s:List Nat):refs (.str s)=[]:=rfl
def alg:refs .ab=[]:=rfl
def anp (e:Bool) (n:Nat) (cs:List AV):refs (.aE e n cs)=[]:=rfl
def alh (cs:List AV):refs (.aI cs)=[]:=rfl
def ajK:refs .undef=[]:=rfl
def anq (id o:Nat):refs (.ptr id o)=[id]:=rfl
def anr (id o n:Nat):refs (.an id o n)=[id]:=rfl
def apQ (g:Nat) (a b:List AV):refs (.fn (.f g) a b)=eQ a++eQ b:=rfl
def ar9 (l:Nat) (a b:List AV):refs (.fn (.y l) a b)=[l]:=rfl
def ans (cs:List AV):refs (.agg cs)=eQ cs:=rfl
def ali:eQ []=[]:=rfl
def ajL (v:AV) (r:List AV):eQ (v::r)=refs v++eQ r:=rfl
def OH (hp:Hp) (n id:Nat) (jc seen:List Nat) (q:Option Obj):List Nat:=match q with | some o=>sE hp n (fA o++jc) (seen++[id]) | none=>sE hp n jc seen
def OI (hp:Hp) (n id:Nat) (jc seen:List Nat) (b:Bool):List Nat:=bif b then sE hp n jc seen else OH hp n id jc seen (ak hp id)
def apR (hp:Hp) (n:Nat) (seen:List Nat):sE hp (n+1) [] seen=seen:=rfl
def ant (hp:Hp) (n id:Nat) (jc seen:List Nat):sE hp (n+1) (id::jc) seen=OI hp n id jc seen (lQ id seen):=by
 have:yK id 0=false:=rfl
 simp only [sE,reach,this,vl,OI,OH]
 cases lQ id seen with
 | true=>rfl
 | false=>simp only [yA];cases ak hp id<;>rfl
def asa (hp:Hp) (n id:Nat) (jc seen:List Nat):OI hp n id jc seen true=sE hp n jc seen:=rfl
def asb (hp:Hp) (n id:Nat) (jc seen:List Nat):OI hp n id jc seen false=OH hp n id jc seen (ak hp id):=rfl
def asc (hp:Hp) (n id:Nat) (jc seen:List Nat) (o:Obj):OH hp n id jc seen (some o)=sE hp n (fA o++jc) (seen++[id]):=rfl
def anu (i:Nat):lQ i []=false:=rfl
def anv (i:Nat) (r:List Nat):lQ i (i::r)=true:=by simp only [lQ,xq,ym]
def alj {i j:Nat} (r:List Nat) (h:j≠i):lQ i (j::r)=lQ i r:=by simp only [lQ,cG h,yA]
def apS (rw ex:Bool) (sz:Nat) (cs:List AV):fA (.cells rw true ex sz cs)=[]:=rfl
def apT (rw ex:Bool) (sz:Nat) (cs:List AV):fA (.cells rw false ex sz cs)=eQ cs:=rfl
def anw (tm:Env) (ps:List Nat) (a b:VC) (st:Nat) (pe:rG):fA (.lp tm ps a b st pe)=fy tm:=rfl
def apU (i:Nat) (r:List Nat) (k:Nat):mD i (i::r) k=some k:=by simp only [mD,xq,ym]
def anx {i j:Nat} (r:List Nat) (k:Nat) (h:j≠i):mD i (j::r) k=mD i r (k+1):=by simp only [mD,cG h,yA]
def ae3 (o:Nat) (q:Option Nat):AV:=match q with | some j=> .ptr j o | none=> .undef
def ae4 (o n:Nat) (q:Option Nat):AV:=match q with | some j=> .an j o n | none=> .undef
def anz (s:List Nat):kV (pos s) []=[]:=rfl
def alk (s:List Nat) (i:Nat) (v:AV) (r:Env):kV (pos s) ((i,v)::r)=(i,cr (pos s) v)::kV (pos s) r:=rfl
def apV (s:List Nat) (k:yV) (n:Int):cr (pos s) (.int k n)= .int k n:=rfl
def anA (s:List Nat) (b:Bool):cr (pos s) (.bool b)= .bool b:=rfl
def apW (s:List Nat) (t:List Nat):cr (pos s) (.str t)= .str t:=rfl
def anB (s:List Nat):cr (pos s) .ab= .ab:=rfl
def apX (s:List Nat) (e:Bool) (n:Nat) (cs:List AV):cr (pos s) (.aE e n cs)= .aE e n cs:=rfl
def anC (s:List Nat) (cs:List AV):cr (pos s) (.aI cs)= .aI cs:=rfl
def alm (s:List Nat):cr (pos s) .undef= .undef:=rfl
def apY (s:List Nat) (id o:Nat):cr (pos s) (.ptr id o)=ae3 o (mD id s 0):=rfl
def apZ (s:List Nat) (id o n:Nat):cr (pos s) (.an id o n)=ae4 o n (mD id s 0):=rfl
def asd (s:List Nat) (g:Nat) (a b:List AV):cr (pos s) (.fn (.f g) a b)= .fn (.f g) (fV (pos s) a) (fV (pos s) b):=rfl
def ap0 (s:List Nat) (cs:List AV):cr (pos s) (.agg cs)= .agg (fV (pos s) cs):=rfl
def anD (s:List Nat):fV (pos s) []=[]:=rfl
def aln (s:List Nat) (v:AV) (r:List AV):fV (pos s) (v::r)=cr (pos s) v::fV (pos s) r:=rfl
def ap1 (o j:Nat):ae3 o (some j)= .ptr j o:=rfl
def ap2 (o n j:Nat):ae4 o n (some j)= .an j o n:=rfl
def Ur (hp:Hp) (f:Nat->Option Nat) (r:List Nat) (k:Nat) (acc:Hp) (q:Option Obj):Hp:=match q with | some o=>kQ hp f r (k+1) ((k,lP f o)::acc) | none=>kQ hp f r (k+1) acc
def alo (hp:Hp) (s:List Nat) (k:Nat) (acc:Hp):kQ hp (pos s) [] k acc=acc:=rfl
def ajM (hp:Hp) (s:List Nat) (id:Nat) (r:List Nat) (k:Nat) (acc:Hp):kQ hp (pos s) (id::r) k acc=Ur hp (pos s) r k acc (ak hp id):=by
 simp only [kQ,Ur];cases ak hp id<;>rfl
def ase (hp:Hp) (s r:List Nat) (k:Nat) (acc:Hp) (o:Obj):Ur hp (pos s) r k acc (some o)=kQ hp (pos s) r (k+1) ((k,lP (pos s) o)::acc):=rfl
def asf (f:Nat->Option Nat) (rw ex:Bool) (sz:Nat) (cs:List AV):lP f (.cells rw true ex sz cs)= .cells rw true ex sz cs:=rfl
def asg (f:Nat->Option Nat) (rw ex:Bool) (sz:Nat) (cs:List AV):lP f (.cells rw false ex sz cs)= .cells rw false ex sz (fV f cs):=rfl
def ap3 (f:Nat->Option Nat) (tm:Env) (ps:List Nat) (a b:VC) (st:Nat) (pe:rG):lP f (.lp tm ps a b st pe)= .lp (kV f tm) ps a b st pe:=rfl
def ap4 (tm:Env) (hp:Hp) (seen:List Nat):Uq tm hp seen=⟨kV (pos seen) tm,kQ hp (pos seen) seen 0 [],seen.length,0⟩:=rfl
attribute [go_sem] ale ajJ ann alf ano alg anp alh ajK anq anr apQ ar9 ans ali ajL apR ant asa asb asc
 anu anv alj apS apT anw apU anx anz alk apV anA apW anB apX anC alm apY apZ asd ap0 anD aln ap1 ap2
 alo ajM ase asf asg ap3 ap4 yr yE
end
section
open Go (IntKind)
section
variable {P:aG} {L:Lib}
def anE {α:Type} {p:α->Bool} {l:List α} {i:Nat} (h:i<l.length):(l.drop i).any p=(p l[i]||(l.drop (i+1)).any p):=by
 rw [yL h,tM]
def avu (h:Has P L 132 Jq) {v:AV} {l:List Int} (hv:br v l) (hl:l.length<=1000000) {g:Nat} {cap:List AV} {p:Int->Bool} (hc:aH cap=true)
  (hz:∀x hp,cO deep hp (aa x::cap)=some (aa x::cap,hp)) (hg:∀x,ae P L g (aa x::cap) (.bool (p x))):∃n:Int,ae P L 132 [v,.fn (.f g) [] cap] (aa n)/\decide (0<=n)=l.any p:=by
 have P3:aR (.fn (.f g) [] cap)=true:=by simp [aR,aH,hc]
 simp only [ae,deep] at hg hz;have key:=H5 (P:=P) (L:=L) (live:=[0,1,7,8]) (a:=M2)
  (I:=fun k s=>∃tm ct i,s=⟨tm,[],ct,0⟩/\af tm 0=v/\af tm 1= .fn (.f g) [] cap/\af tm 7=aa l.length/\af tm 8=aa (i:Nat)/\i+k=l.length/\(l.drop i).any p=l.any p)
  (Q:=fun ex s=>∃tm,s=⟨tm,[],0,0⟩/\((∃n:Int,ex= .ret/\af tm 4=aa n/\0<=n/\l.any p=true)\/(ex= .exit 0/\l.any p=false))) ?_ l.length
 ·simp only [ae];rw [av h];simp only [go_sem,ya,Jq,hv.len];generalize hq:D P L (.loop [0,1,7,8] M2) _=q;obtain ⟨ex,s,rfl,tm,rfl,h2⟩:=bP hq key ⟨_,_,0,rfl,rfl,rfl,rfl,rfl,by omega,rfl⟩;rcases h2 with ⟨n,rfl,h2,h3,h4⟩ | ⟨rfl,h2⟩
  ·exact ⟨n,by simp only [go_sem,h2],by rw [h4];simpa using h3⟩
  ·exact ⟨-1,by simp only [go_sem],by rw [h2];decide⟩
 ·rintro k s ⟨tm,ct,i,rfl,h0,h1,h7,h8,hk,hf⟩;rw [Lz (by simp only [go_sem,h0,h1,h7,h8,hv.pu,P3])];simp only [go_sem,ya,h0,h1,h7,h8,M2];by_cases hi:i<l.length
  ·have cu:(i:Int)<l.length:=by omega
   rw [anE hi] at hf
   cases fQ:p l[i] with
   | false=>
    left
    simp only [go_sem,ya,cu,hv.bk hi,hz,hg,fQ];refine ⟨_,k-1,rfl,by omega,_,_,i+1,rfl,?_⟩;rw [wrap64 (by omega) (by omega)];rw [fQ,vl] at hf;simp only [go_sem,ya];exact ⟨trivial,trivial,trivial,rfl,by omega,hf⟩
   | true=>
    right
    simp only [go_sem,ya,cu,hv.bk hi,hz,hg,fQ];refine ⟨_,_,rfl,by simp,_,rfl,.inl ⟨i,rfl,?_,by omega,?_⟩⟩
    ·simp only [go_sem]
    ·rw [<-hf,fQ,Bool.true_or]
  ·right
   have cu:¬(i:Int)<l.length:=by omega
   simp only [go_sem,cu];refine ⟨_,_,rfl,by simp,_,rfl,.inr ⟨rfl,?_⟩⟩;rw [<-hf,y8 (by omega)];rfl
def s95 (h:Has P L 95 PL) (Us:Has P L 132 Jq) {v:AV} {l:List Int} (hv:br v l) (hl:l.length<=1000000) {g:Nat} {cap:List AV} {p:Int->Bool} (hc:aH cap=true)
  (hz:∀x hp,cO deep hp (aa x::cap)=some (aa x::cap,hp)) (hg:∀x,ae P L g (aa x::cap) (.bool (p x)))
  (iS:∀n hp,freeze (n+500) hp (.fn (.f g) [] cap)=some (.fn (.f g) [] cap,hp)):ae P L 95 [v,.fn (.f g) [] cap] (.bool (l.any p)):=by
 obtain ⟨n,h1,h2⟩:=avu Us hv hl hc hz hg;unfold ae at h1 ⊢;rw [av h];have avv:∀hp,freeze 998 hp (.fn (.f g) [] cap)=some (.fn (.f g) [] cap,hp):=fun hp=>iS 498 hp
 simp only [go_sem,ya,PL,hv.ah,avv,h1,h2]
def s94 (h:Has P L 94 FQ) {m:Int} (hm:0<=m) (gK:m<=1000000) (x:Int):ae P L 94 [aa x,.aI [aa m]] (.bool (decide (x< -m\/m<x))):=by
 unfold ae;rw [av h];by_cases h1:x< -m
 ·simp only [go_sem,ya,FQ,Ms,wrap64 (n:=0-m) (by omega) (by omega),show x<0-m by omega,h1,true_or]
 ·by_cases h2:m<x
  ·simp only [go_sem,ya,FQ,Ms,wrap64 (n:=0-m) (by omega) (by omega),show ¬x<0-m by omega,h1,h2,or_true]
  ·simp only [go_sem,ya,FQ,Ms,wrap64 (n:=0-m) (by omega) (by omega),show ¬x<0-m by omega,h1,h2,or_self]
def anF (m:Int) (l:List Int):l.any (fun x=>decide (x< -m\/m<x))=dB (-m) m l:=by
 induction l with
 | nil=>rfl
 | cons a r ih=>
  simp only [tM,dB,ih];by_cases h:a< -m\/m<a
  ·simp [h]
  ·simp [h]
structure Sq (P:aG) (L:Lib):Prop where
 Wt:Has P L 32 VZ
 fK:Has P L 31 Al
 og:Has P L 33 KH
 h94:Has P L 94 FQ
 h95:Has P L 95 PL
 Us:Has P L 132 Jq
 h4:Has P L 4 c4
 h9:Has P L 9 c9
def Wu (h:Sq P L) {v:AV} {s:List (List Int)} (hv:cF v s) (hl:s.length<=1000000) (hr:∀i (hi:i<s.length),s[i].length<=1000000) {m:Int} (hm:0<=m) (gK:m<=1000000):
  ae P L 32 [v,aa m] (aa (fB s.length (-m) m s)):=by
 have key:=cg (P:=P) (L:=L) (live:=[0,3,9,10,11]) (a:=Nq)
  (I:=fun k st=>∃(i:Nat) (rw:Bool),st=⟨[(0,v),(3,.ptr 0 0),(9,v),(10,aa s.length),(11,aa i)],[(0,.cells rw true true 1 [aa m])],1,0⟩/\i+k=s.length/\fB s.length (-m) m (s.drop i)=fB s.length (-m) m s)
  (Q:=fun ex st=>∃tm hp ct,st=⟨tm,hp,ct,0⟩/\((ex= .ret/\af tm 4=aa (fB s.length (-m) m s))\/(ex= .exit 0/\fB s.length (-m) m s=0))) ?_
 ·unfold ae;rw [av h.Wt];simp only [go_sem,ya,yb,VZ,hv.len];generalize hq:D P L (.loop [0,3,9,10,11] Nq) _=q;obtain ⟨ex,st,rfl,tm,hp,ct,rfl,h2⟩:=bP hq (key s.length) ⟨0,true,by simp only [go_sem,ya,yb,ay,aJ hv.pu,aO _ hv.pu]<;>rfl,by omega,rfl⟩
  rcases h2 with ⟨rfl,h2⟩ | ⟨rfl,h2⟩
  ·simp only [go_sem,h2]
  ·rw [h2];simp only [go_sem,ay]
 ·rintro k st ⟨i,rw,rfl,hk,hf⟩;simp only [go_sem,ya,Nq];by_cases hi:i<s.length
  ·have cu:(i:Int)<s.length:=by omega
   rw [YP hi] at hf;obtain ⟨r,rest,cp,fe⟩:=hv.bk hi;have hc:ae P L 95 [r,.fn (.f 94) [] [.aI [aa m]]] (.bool (dB (-m) m s[i])):=by
    rw [<-anF];exact s95 h.h95 h.Us cp (hr i hi) rfl (fun x hp=>by simp only [go_sem]) (fun x=>s94 h.h94 hm gK x) (fun n hp=>by simp only [go_sem])
   have il:∀a b:Int,ae P L 33 [.aE true 2 [.int .i64 a,.int .i64 b]] (aa (bj [a,b])):=fun a b=>sC h.og (fm true [a,b]) (by simp)
   unfold ae at hc il;by_cases h1:s[i].length=s.length
   ·have BP:(s[i].length:Int)=s.length:=by omega
    simp only [h1,tJ,wQ,yO] at hf
    cases h2:dB (-m) m s[i] with
    | false=>
     left
     simp only [h2,yD,yO] at hf;cases rw<;>simp only [go_sem,ya,yb,yt,ye,yh,cu,fe,hc,BP,h2,mO h.fK,il,cp.len,cp.ah,hv.len,yD,yO,bj,y5]
     all_goals
      refine ⟨_,k-1,rfl,by omega,i+1,false,?_,by omega,hf⟩;rw [wrap64 (by omega) (by omega)];simp only [go_sem,ya,yb,ay,aJ hv.pu,aO _ hv.pu];rfl
    | true=>
     right
     simp only [h2,y5] at hf;cases rw<;>simp only [go_sem,ya,yb,yt,ye,yh,cu,fe,hc,BP,h2,mO h.fK,il,cp.len,cp.ah,hv.len,yD,yO,bj,y5,vN]
     all_goals
      refine ⟨_,_,rfl,by simp,_,_,_,rfl,.inl ⟨rfl,?_⟩⟩;simp only [go_sem,hf]
   ·right
    have BP:¬(s[i].length:Int)=s.length:=by omega
    simp only [h1,tJ,uV,y5] at hf;cases h2:dB (-m) m s[i]<;>cases rw<;>simp only [go_sem,ya,yb,yt,ye,yh,cu,fe,hc,BP,h2,mO h.fK,il,cp.len,cp.ah,hv.len,yD,yO,bj,y5,vN]
    all_goals
     refine ⟨_,_,rfl,by simp,_,_,_,rfl,.inl ⟨rfl,?_⟩⟩;simp only [go_sem,hf]
  ·right
   have cu:¬(i:Int)<s.length:=by omega
   simp only [go_sem,cu];refine ⟨_,_,rfl,by simp,_,_,_,rfl,.inr ⟨rfl,?_⟩⟩;rw [<-hf,y8 (by omega)];rfl
end
end
end VE
