import Derived.Attr
import Derived.Test.YtflgmingejdfnaaGreatDoorVao
import Derived.Test.YtflgmingejdfnaaGreatDoorVak
set_option linter.all false
set_option maxRecDepth 100000
open Bool renaming and_eq_true→yf,and_true→tj,false_eq_true→yC,false_or→vD,true_and→xt
open Go renaming IntKind→yU
open Int renaming reduceEq→tk
open List renaming any_cons→yaY,append_nil→xO,drop_eq_getElem_cons→yO,drop_eq_nil_of_le→xj,drop_zero→yj,length_cons→yv,length_nil→yF,replicate→yA
open Nat renaming beq→yr,beq_refl→xo,ble→yE,ble_eq_true_of_le→yu,blt→yG,eq_of_beq_eq_true→yo,le_refl→yD,mul_one→yi,reduceAdd→yb,reduceEqDiff→ya,reduceLT→yy,reduceLeDiff→yg,zero_add→yd
namespace VE
section
open Go (IntKind BinOp UnOp)
section
variable {P:aK} {L:Lib}
structure Has (P:aK) (L:Lib) (n:Nat) (F:aI):Prop where
 pure:L.pure n=none
 heap:L.heap n=none
 code:P n=some F
noncomputable def oK (P:aK) (L:Lib) (r:Option (Ex×St)) (b:VC):Option (Ex×St):=match r with | some (.normal,s)=>D P L b s | r=>r
def zi (id:Nat) (r:Option (Ex×St)):Option (Ex×St):=match r with | some (.exit j,s)=>bif yr j id then some (.normal,s) else some (.exit j,s) | r=>r
noncomputable def IE (P:aK) (L:Lib) (live:List Nat) (a:VC) (r:Option (Ex×St)):Option (Ex×St):=match r with | some (.normal,s)=>D P L (.loop live a) s | r=>r
def norm (r:Option St):Option (Ex×St):=match r with | some s=>some (.normal,s) | none=>none
noncomputable def MF (P:aK) (L:Lib) (v:AV) (a b:VC) (s:St):Option (Ex×St):=match v with | .bool t=>bif t then D P L a s else D P L b s | _=>none
def aqn (s:St):D P L .skip s=some (.normal,s):=by rw [kR];rfl
def aqo (id:Nat) (s:St):D P L (.exit id) s=some (.exit id,s):=by rw [kR];rfl
def asQ (s:St):D P L .ret s=some (.ret,s):=by rw [kR];rfl
def I8 (live:List Nat) (s:St):D P L (.kp live) s=some (.normal,bH live s):=by rw [kR];rfl
def aui (ts:List Nat) (s:St):D P L (.fz ts) s=norm (oH ts s):=by rw [kR];rfl
def R9 (ops:List bl) (s:St):D P L (.aV ops) s=norm (dP P L (D P L) ops s):=by rw [kR];rfl
def jy (a b:VC) (s:St):D P L (.seq a b) s=oK P L (D P L a s) b:=by
 rw [kR,kR a];simp only [bI,oK]
 cases bI P L (D P L) a s with
 | none=>rfl
 | some q=>
  obtain ⟨e,s1⟩:=q
  cases e with
  | normal=>exact (kR b s1).symm
  | ret=>rfl
  | exit id=>rfl
def aqp (x:X) (a b:VC) (s:St):D P L (.cond x a b) s=MF P L (az s.tm x) a b s:=by
 rw [kR];simp only [bI,MF]
 cases az s.tm x with
 | bool t=>
  cases t with
  | true=>exact (kR a s).symm
  | false=>exact (kR b s).symm
 | _=>rfl
def Sa (id:Nat) (a:VC) (s:St):D P L (.aO id a) s=zi id (D P L a s):=by
 rw [kR,kR a];simp only [bI,zi]
 cases bI P L (D P L) a s with
 | none=>rfl
 | some q=>obtain ⟨e,s1⟩:=q;cases e<;>rfl
def Cw (live:List Nat) (a:VC) (s:St):D P L (.loop live a) s=IE P L live a (D P L a (bH live s)):=by
 rw [kR,kR a];simp only [bI,IE]
 cases bI P L (D P L) a (bH live s) with
 | none=>rfl
 | some q=>obtain ⟨e,s1⟩:=q;cases e<;>rfl
def fM (s:St) (b:VC):oK P L (some (.normal,s)) b=D P L b s:=rfl
def aog (s:St) (b:VC):oK P L (some (.ret,s)) b=some (.ret,s):=rfl
def aoh (id:Nat) (s:St) (b:VC):oK P L (some (.exit id,s)) b=some (.exit id,s):=rfl
def aa6 (live:List Nat) (a:VC) (s:St):IE P L live a (some (.normal,s))=D P L (.loop live a) s:=rfl
def aoi (live:List Nat) (a:VC) (s:St):IE P L live a (some (.ret,s))=some (.ret,s):=rfl
def aoj (live:List Nat) (a:VC) (id:Nat) (s:St):IE P L live a (some (.exit id,s))=some (.exit id,s):=rfl
def Q2 (id:Nat) (s:St):zi id (some (.normal,s))=some (.normal,s):=rfl
def aok (id:Nat) (s:St):zi id (some (.ret,s))=some (.ret,s):=rfl
def HL (id:Nat) (s:St):zi id (some (.exit id,s))=some (.normal,s):=by simp only [zi,xo,ym]
def aol {id j:Nat} (s:St) (h:j≠id):zi id (some (.exit j,s))=some (.exit j,s):=by
 have:yr j id=false:=by
  cases hq:yr j id with
  | false=>rfl
  | true=>exact absurd (yo hq) h
 simp only [zi,this,yB]
def acE (s:St):norm (some s)=some (.normal,s):=rfl
def aqq:norm none=none:=rfl
def aom (a b:VC) (s:St):MF P L (.bool true) a b s=D P L a s:=rfl
def aon (a b:VC) (s:St):MF P L (.bool false) a b s=D P L b s:=rfl
noncomputable def Sb (P:aK) (L:Lib) (d:Option Nat) (r:List bl) (tm:Env) (base:Nat) (q:fQ):Option St:=
 match q with | some (v,hp,ct)=>dP P L (D P L) r ⟨put d v tm,hp,ct,base⟩ | none=>none
noncomputable def Cx (P:aK) (L:Lib) (v:AV) (b:Bool) (d:Option Nat) (o:Op) (r:List bl) (s:St):Option St:=
 match v with
 | .bool c=>bif c==b then dP P L (D P L) (⟨d,none,o⟩::r) s else dP P L (D P L) r ⟨put d (.aq []) s.tm,s.hp,s.ct,s.base⟩
 | .aq []=>dP P L (D P L) r ⟨put d (.aq []) s.tm,s.hp,s.ct,s.base⟩
 | _=>none
def aa7 (s:St):dP P L (D P L) [] s=some s:=rfl
def al1 (d:Option Nat) (o:Op) (r:List bl) (tm:Env) (hp:Hp) (ct base:Nat):
  dP P L (D P L) (⟨d,none,o⟩::r) ⟨tm,hp,ct,base⟩=Sb P L d r tm base (bt P L (D P L) tm hp ct o):=by
 simp only [dP,Sb]
 grind
def ajY (d:Option Nat) (t:Nat) (b:Bool) (o:Op) (r:List bl) (tm:Env) (hp:Hp) (ct base:Nat):
  dP P L (D P L) (⟨d,some (t,b),o⟩::r) ⟨tm,hp,ct,base⟩=Cx P L (af tm t) b d o r ⟨tm,hp,ct,base⟩:=by
 simp only [dP,Cx]
 cases af tm t with
 | bool c=>
  simp only
  cases hc:(c==b) with
  | true=>simp only [ym]
  | false=>simp only [yB]
 | aq vs=>cases vs<;>rfl
 | _=>rfl
def aa8 (d:Option Nat) (r:List bl) (tm:Env) (base:Nat) (v:AV) (hp:Hp) (ct:Nat):Sb P L d r tm base (some (v,hp,ct))=dP P L (D P L) r ⟨put d v tm,hp,ct,base⟩:=rfl
def asR (i:Nat) (v:AV) (tm:Env):put (some i) v tm=(i,v)::tm:=rfl
def aem (v:AV) (tm:Env):put none v tm=tm:=rfl
def al2 (d:Option Nat) (o:Op) (r:List bl) (s:St):Cx P L (.bool true) true d o r s=dP P L (D P L) (⟨d,none,o⟩::r) s:=rfl
def al3 (d:Option Nat) (o:Op) (r:List bl) (s:St):Cx P L (.bool false) false d o r s=dP P L (D P L) (⟨d,none,o⟩::r) s:=rfl
def al4 (d:Option Nat) (o:Op) (r:List bl) (tm:Env) (hp:Hp) (ct base:Nat):Cx P L (.bool true) false d o r ⟨tm,hp,ct,base⟩=dP P L (D P L) r ⟨put d (.aq []) tm,hp,ct,base⟩:=rfl
def al5 (d:Option Nat) (o:Op) (r:List bl) (tm:Env) (hp:Hp) (ct base:Nat):Cx P L (.bool false) true d o r ⟨tm,hp,ct,base⟩=dP P L (D P L) r ⟨put d (.aq []) tm,hp,ct,base⟩:=rfl
def aoo (b:Bool) (d:Option Nat) (o:Op) (r:List bl) (tm:Env) (hp:Hp) (ct base:Nat):Cx P L (.aq []) b d o r ⟨tm,hp,ct,base⟩=dP P L (D P L) r ⟨put d (.aq []) tm,hp,ct,base⟩:=rfl
def cE {j i:Nat} (h:j≠i):yr j i=false:=by
 cases hq:yr j i with
 | false=>rfl
 | true=>exact absurd (yo hq) h
def aqr (tm:Env) (i:Nat):az tm (.t i)=af tm i:=rfl
def aqs (tm:Env) (v:AV):az tm (.c v)=v:=rfl
def ajZ (tm:Env):dD tm []=[]:=rfl
def aiG (tm:Env) (x:X) (r:List X):dD tm (x::r)=az tm x::dD tm r:=rfl
def al6 (i:Nat) (v:AV) (r:Env):af ((i,v)::r) i=v:=by simp only [af,xo,ym]
def aj0 {j i:Nat} (v:AV) (r:Env) (h:j≠i):af ((j,v)::r) i=af r i:=by simp only [af,cE h,yB]
def Hx (i:Nat) (o:Obj) (r:Hp):ap ((i,o)::r) i=some o:=by simp only [ap,xo,ym]
def aj1 {j i:Nat} (o:Obj) (r:Hp) (h:j≠i):ap ((j,o)::r) i=ap r i:=by simp only [ap,cE h,yB]
def ZU (i:Nat) (o u:Obj) (r:Hp):aY ((i,o)::r) i u=(i,u)::r:=by simp only [aY,xo,ym]
def aj2 {j i:Nat} (o u:Obj) (r:Hp) (h:j≠i):aY ((j,o)::r) i u=(j,o)::aY r i u:=by simp only [aY,cE h,yB]
def al7 (i:Nat):dz [] i=[]:=rfl
def al8 (i:Nat) (o:Obj) (r:Hp):dz ((i,o)::r) i=dz r i:=by simp only [dz,xo,ym]
def aj3 {j i:Nat} (o:Obj) (r:Hp) (h:j≠i):dz ((j,o)::r) i=(j,o)::dz r i:=by simp only [dz,cE h,yB]
def rd (hp:Hp) (ct:Nat) (q:Option AV):fQ:=match q with | some v=>some (v,hp,ct) | none=>none
def mk (hp:Hp) (ct:Nat) (q:Option (AV×Obj)):fQ:=match q with | some (v,b)=>some (v,(ct,b)::hp,ct+1) | none=>none
def auj (hp:Hp) (ct:Nat) (v:AV):rd hp ct (some v)=some (v,hp,ct):=rfl
def auk (hp:Hp) (ct:Nat) (v:AV) (b:Obj):mk hp ct (some (v,b))=some (v,(ct,b)::hp,ct+1):=rfl
def Sc (c a b:AV):Option AV:=match c with | .bool t=>some (bif t then a else b) | _=>none
def J6 (k:Nat->Option AV) (n:Option Nat):Option AV:=match n with | some i=>k i | none=>none
def aen (r:Option (List AV)):Option AV:=match r with | some cs=>some (.agg cs) | none=>none
def I9 (ne:Bool) (r:Option Bool):Option AV:=match r with | some b=>some (.bool (ne !=b)) | none=>none
def aul:AV->Option AV
 | .ptr id o=>some (.ptr id o)
 | .aF cs=>some (.aF cs)
 | .fn f a b=>some (.fn f a b)
 | _=>none
def Ja (i:Nat):AV->Option AV | .aq vs=>vs[i]? | _=>none
section
variable {f:cJ} {tm:Env} {hp:Hp} {ct:Nat}
def aqt (x:X):bt P L f tm hp ct (.cg x)=some (az tm x,hp,ct):=rfl
def aop (c a b:X):bt P L f tm hp ct (.pick c a b)=rd hp ct (Sc (az tm c) (az tm a) (az tm b)):=by
 rfl
def al9 (z:List AV) (ps:List (Nat×Nat×X)):bt P L f tm hp ct (.dj z ps)=rd hp ct (aen (fill tm z ps)):=by
 rfl
def asS (sz:Nat) (ag:Bool) (x:X):bt P L f tm hp ct (.ld sz ag x)=rd hp ct (iK hp sz ag (az tm x)):=rfl
def aoq (x:X):bt P L f tm hp ct (.IK x)=rd hp ct (aul (az tm x)):=by
 rfl
def aqu (op:BinOp) (x y:X):bt P L f tm hp ct (.bin op x y)=rd hp ct (binOp op (az tm x) (az tm y)):=rfl
def asT (ne:Bool) (k:N7) (x y:X):bt P L f tm hp ct (.eq ne k x y)=rd hp ct (I9 ne (im k (az tm x) (az tm y))):=by
 rfl
def asU (op:UnOp) (x:X):bt P L f tm hp ct (.un op x)=rd hp ct (unOp op (az tm x)):=rfl
def asV (k:Conv) (x:X):bt P L f tm hp ct (.cv k x)=rd hp ct (mY k (az tm x)):=rfl
def aqv (g:Fr) (a b:List X):bt P L f tm hp ct (.oW g a b)=some (.fn g (dD tm a) (dD tm b),hp,ct):=rfl
def aqw (k:Cut) (x:X) (lo hi:Option X):bt P L f tm hp ct (.ef k x lo hi)=rd hp ct (fA hp k (az tm x) tm lo hi):=rfl
def aqx (k:Nat) (x:X):bt P L f tm hp ct (.off k x)=rd hp ct (Es k (az tm x)):=rfl
def aqy (o sz:Nat) (ag:Bool) (x:X):bt P L f tm hp ct (.Jy o sz ag x)=rd hp ct (Mo o sz ag (az tm x)):=rfl
def aqz (sz:Nat) (x i:X):bt P L f tm hp ct (.bj sz x i)=rd hp ct (J6 (fun j=>gZ sz j (az tm x)) (dV (az tm i))):=by
 rfl
def aqA (n sz:Nat) (x i:X):bt P L f tm hp ct (.Bw n sz x i)=rd hp ct (J6 (fun j=>Et n sz j (az tm x)) (dV (az tm i))):=by
 rfl
def aqB (x i:X):bt P L f tm hp ct (.kU x i)=rd hp ct (J6 (fun j=>mR j (az tm x)) (dV (az tm i))):=by
 rfl
def aqC (n sz:Nat) (ag:Bool) (x i:X):bt P L f tm hp ct (.zT n sz ag x i)=rd hp ct (J6 (fun j=>Ir n sz ag j (az tm x)) (dV (az tm i))):=by
 rfl
def aqD (i:Nat) (x:X):bt P L f tm hp ct (.ext i x)=rd hp ct (Ja i (az tm x)):=by
 rfl
def aqE (k:Nat) (x:X):bt P L f tm hp ct (.len k x)=rd hp ct (gK hp k (az tm x)):=rfl
def aqF (sz:Nat) (x:X):bt P L f tm hp ct (.box sz x)=mk hp ct (cU tm hp ct (.box sz x)):=rfl
def aor (n sz:Nat) (z:List AV) (ps:List (Nat×Nat×X)):bt P L f tm hp ct (.bV n sz z ps)=mk hp ct (cU tm hp ct (.bV n sz z ps)):=rfl
def aqG (sz by':Nat) (z:List AV) (l c:X):bt P L f tm hp ct (.gP sz by' z l c)=mk hp ct (cU tm hp ct (.gP sz by' z l c)):=rfl
def aqH:bt P L f tm hp ct .zS=some (.map ct,(ct,.mp true [] [])::hp,ct+1):=rfl
def aqI (x:X):bt P L f tm hp ct (.oY x)=mk hp ct (cU tm hp ct (.oY x)):=rfl
def asW (sz:Nat) (x v:X):bt P L f tm hp ct (.st sz x v)=dc tm hp ct (.st sz x v):=rfl
def aqJ (sz by':Nat) (s x:X):bt P L f tm hp ct (.dH sz by' s x)=dc tm hp ct (.dH sz by' s x):=rfl
def MG (hp:Hp) (ct:Nat) (r:Option AV):fQ:=match r with | some v=>some (shut v,hp,ct) | none=>none
def NC (hp:Hp) (ct:Nat) (r:Option AV):fQ:=match r with | some v=>some (own hp ct v) | none=>none
def Sd (P:aK) (L:Lib) (f:cJ) (ct n:Nat) (q:Option (List AV×Hp)):fQ:=match q with | some (vals,hp)=>MG hp ct (bR P L f n vals) | none=>none
def Se (P:aK) (L:Lib) (f:cJ) (ct n:Nat) (q:Option (List AV×Hp)):fQ:=match q with | some (vals,hp)=>NC hp ct (bR P L f n vals) | none=>none
def Sf (P:aK) (L:Lib) (f:cJ) (hp:Hp) (ct:Nat) (fv:AV) (xs:List AV):fQ:=dC P L f hp ct .pure fv xs
def Sg (P:aK) (L:Lib) (f:cJ) (hp:Hp) (ct:Nat) (fv:AV) (xs:List AV):fQ:=dC P L f hp ct .own fv xs
def ama (g:X) (xs:List X):bt P L f tm hp ct (.call .pure g xs)=Sf P L f hp ct (az tm g) (dD tm xs):=rfl
def amb (g:X) (xs:List X):bt P L f tm hp ct (.call .own g xs)=Sg P L f hp ct (az tm g) (dD tm xs):=rfl
def amc (g:X) (xs:List X):bt P L f tm hp ct (.call .heap g xs)=dC P L f hp ct .heap (az tm g) (dD tm xs):=rfl
def aos (n:Nat) (first cap xs:List AV):Sf P L f hp ct (.fn (.f n) first cap) xs=Sd P L f ct n (cN deep hp (first++(xs++cap))):=by
 simp only [Sf,dC,Sd,MG]
 cases cN deep hp (first++(xs++cap)) with
 | none=>rfl
 | some q=>cases bR P L f n q.1<;>rfl
def aot (n:Nat) (first cap xs:List AV):Sg P L f hp ct (.fn (.f n) first cap) xs=Se P L f ct n (cN deep hp (first++(xs++cap))):=by
 simp only [Sg,dC,Se,NC]
 cases cN deep hp (first++(xs++cap)) with
 | none=>rfl
 | some q=>cases bR P L f n q.1<;>rfl
def aou (n:Nat) (vals:List AV):Sd P L f ct n (some (vals,hp))=MG hp ct (bR P L f n vals):=rfl
def aov (n:Nat) (vals:List AV):Se P L f ct n (some (vals,hp))=NC hp ct (bR P L f n vals):=rfl
def aow (v:AV):MG hp ct (some v)=some (shut v,hp,ct):=rfl
def aqK (v:AV):NC hp ct (some v)=some (own hp ct v):=rfl
def ND (hp:Hp) (r:Option AV):Option AV:=match r with | some v=>result hp v | none=>none
def gD (rs:List RV) (q:Option (Ex×St)):Option AV:=
 match q with
 | some (.normal,s) | some (.ret,s)=>ND s.hp (gh s rs)
 | _=>none
def av {n:Nat} {F:aI} (h:Has P L n F) (vals:List AV):bR P L f n vals=gD F.dn (f F.body ⟨fp 0 vals,[],0,0⟩):=by
 simp only [bR,h.pure,h.code]
 cases hq:f F.body ⟨fp 0 vals,[],0,0⟩ with
 | none=>rfl
 | some q=>
  obtain ⟨e,s⟩:=q
  cases e with
  | normal=>rfl
  | ret=>rfl
  | exit id=>rfl
def aqL (rs:List RV) (s:St):gD rs (some (.normal,s))=ND s.hp (gh s rs):=rfl
def acF (rs:List RV) (s:St):gD rs (some (.ret,s))=ND s.hp (gh s rs):=rfl
def acG (v:AV):ND hp (some v)=result hp v:=rfl
def EZ (r:RV) (s:St):gh s [r]=results1 s r:=by
 simp only [gh,lj];cases results1 s r<;>rfl
def ae7 (r:Option (List AV)):Option AV:=match r with | some vs=>some (.aq vs) | none=>none
def aum (r q:RV) (l:List RV) (s:St):gh s (r::q::l)=ae7 (lj s (r::q::l)):=by
 simp only [gh,lj];cases results1 s r<;>cases results1 s q<;>cases lj s l<;>rfl
def aeo (r:Option AV) (l:Option (List AV)):Option (List AV):=match r,l with | some v,some vs=>some (v::vs) | _,_=>none
def amd (s:St):lj s []=some []:=rfl
def aj4 (r:RV) (l:List RV) (s:St):lj s (r::l)=aeo (results1 s r) (lj s l):=rfl
def aox (v:AV) (vs:List AV):aeo (some v) (some vs)=some (v::vs):=rfl
def aqM (vs:List AV):ae7 (some vs)=some (.aq vs):=rfl
def EB (i:Nat) (s:St):results1 s (.t i)=some (af s.tm i):=rfl
def asX (a:AV):fp 0 [a]=[(0,a)]:=rfl
def aep (a b:AV):fp 0 [a,b]=[(0,a),(1,b)]:=rfl
def asY (a b c:AV):fp 0 [a,b,c]=[(0,a),(1,b),(2,c)]:=rfl
def asZ (a b c d:AV):fp 0 [a,b,c,d]=[(0,a),(1,b),(2,c),(3,d)]:=rfl
def as0 (a b c d e:AV):fp 0 [a,b,c,d,e]=[(0,a),(1,b),(2,c),(3,d),(4,e)]:=rfl
def aiH (k:yU) (n:Int):result hp (.int k n)=some (.int k n):=rfl
def ah8 (b:Bool):result hp (.bool b)=some (.bool b):=rfl
def aiI (s:List Nat):result hp (.str s)=some (.str s):=rfl
def ah9:result hp .ab=some .ab:=rfl
def aiJ (e:Bool) (n:Nat) (cs:List AV):result hp (.aE e n cs)=some (.aE e n cs):=rfl
def shut_int (k:yU) (n:Int):shut (.int k n)= .int k n:=rfl
def shut_bool (b:Bool):shut (.bool b)= .bool b:=rfl
def ame (s:List Nat):shut (.str s)= .str s:=rfl
def aj5:shut .ab= .ab:=rfl
def amf (e:Bool) (n:Nat) (cs:List AV):shut (.aE e n cs)= .aE e n cs:=rfl
def amg (e:Bool) (sz n:Nat) (cs:List AV):shut (.cG e sz n cs)= .aE e n cs:=rfl
def bE (cs:List AV):shut (.agg cs)= .agg cs:=rfl
def aoy (g:Fr) (a b:List AV):shut (.fn g a b)= .fn g a b:=rfl
def AJ (vs:List AV):shut (.aq vs)= .aq (Cz vs):=rfl
def aj6:Cz []=[]:=rfl
def aiK (v:AV) (r:List AV):Cz (v::r)=bO v::Cz r:=rfl
def aj7 (k:yU) (n:Int):bO (.int k n)= .int k n:=rfl
def aiL (b:Bool):bO (.bool b)= .bool b:=rfl
def aj8 (s:List Nat):bO (.str s)= .str s:=rfl
def aiM:bO .ab= .ab:=rfl
def aj9 (e:Bool) (n:Nat) (cs:List AV):bO (.aE e n cs)= .aE e n cs:=rfl
def aka (e:Bool) (sz n:Nat) (cs:List AV):bO (.cG e sz n cs)= .aE e n cs:=rfl
def AB (cs:List AV):bO (.agg cs)= .agg cs:=rfl
def S5 (n:Nat) (r:List AV) (q:Option (AV×Hp)):Option (List AV×Hp):=match q with | some (v,hp)=>(match cN n hp r with | some (vs,ji)=>some (v::vs,ji) | none=>none) | none=>none
def ae8 (v:AV) (q:Option (List AV×Hp)):Option (List AV×Hp):=match q with | some (vs,hp)=>some (v::vs,hp) | none=>none
def amh (n:Nat):cN (n+1) hp []=some ([],hp):=rfl
def YV (n:Nat) (v:AV) (r:List AV):cN (n+1) hp (v::r)=S5 n r (freeze n hp v):=by
 simp only [cN,S5];cases freeze n hp v<;>rfl
def acH (n:Nat) (r:List AV) (v:AV):S5 n r (some (v,hp))=ae8 v (cN n hp r):=by
 rfl
def aqN (v:AV) (vs:List AV):ae8 v (some (vs,hp))=some (v::vs,hp):=rfl
def aoz (n:Nat) (k:yU) (a:Int):freeze (n+1) hp (.int k a)=some (.int k a,hp):=rfl
def ami (n:Nat) (b:Bool):freeze (n+1) hp (.bool b)=some (.bool b,hp):=rfl
def aoA (n:Nat) (s:List Nat):freeze (n+1) hp (.str s)=some (.str s,hp):=rfl
def amj (n:Nat):freeze (n+1) hp .ab=some (.ab,hp):=rfl
def aoB (n:Nat) (e:Bool) (k:Nat) (cs:List AV):freeze (n+1) hp (.aE e k cs)=some (.aE e k cs,hp):=rfl
def amk (n:Nat) (cs:List AV):freeze (n+1) hp (.aF cs)=some (.aF cs,hp):=rfl
end
end
section
variable {hp:Hp}
def aqO (a b:AV):Sc (.bool true) a b=some a:=rfl
def aqP (a b:AV):Sc (.bool false) a b=some b:=rfl
def as3 (k:Nat->Option AV) (n:Nat):J6 k (some n)=k n:=rfl
def aiN (k:yU) (n:Nat):dV (.int k (n:Int))=some n:=rfl
def aqQ (k:yU):dV (.int k 0)=some 0:=rfl
def aqR (k:yU):dV (.int k 1)=some 1:=rfl
def aqS (k:yU):dV (.int k 2)=some 2:=rfl
def aqT (k:yU):dV (.int k 3)=some 3:=rfl
def aqU (k:yU):dV (.int k 4)=some 4:=rfl
def aqV (k:yU):dV (.int k 5)=some 5:=rfl
def aqW (k:yU):dV (.int k 6)=some 6:=rfl
def aqX (k:yU):dV (.int k 7)=some 7:=rfl
def aqY (k:yU):dV (.int k 8)=some 8:=rfl
def aqZ (k:yU):dV (.int k 9)=some 9:=rfl
def aoC (cs:List AV):aen (some cs)=some (.agg cs):=rfl
def aa9 (k:yU) (a b:Int):binOp .add (.int k a) (.int k b)=some (.int k (k.wrap (a+b))):=by simp [binOp,lz]
def LS (k:yU) (a b:Int):binOp .sub (.int k a) (.int k b)=some (.int k (k.wrap (a-b))):=by simp [binOp,lz]
def aba (k:yU) (a b:Int):binOp .mul (.int k a) (.int k b)=some (.int k (k.wrap (a*b))):=by simp [binOp,lz]
def fq (k:yU) (a b:Int) (h:b≠0):binOp .quo (.int k a) (.int k b)=some (.int k (k.wrap (a.tdiv b))):=by simp [binOp,lz,h]
def eD (k:yU) (a b:Int) (h:b≠0):binOp .rem (.int k a) (.int k b)=some (.int k (a.tmod b)):=by simp [binOp,lz,h]
def aoD (k:yU) (a b:Int):binOp .eql (.int k a) (.int k b)=some (.bool (decide (a=b))):=by
 simp [binOp,lz,intCmp,BEq.beq]
def aoE (k:yU) (a b:Int):binOp .neq (.int k a) (.int k b)=some (.bool (!decide (a=b))):=by
 simp [binOp,lz,intCmp,bne,BEq.beq]
def aoF (k:yU) (a b:Int):binOp .lss (.int k a) (.int k b)=some (.bool (decide (a<b))):=by simp [binOp,lz,intCmp]
def aoG (k:yU) (a b:Int):binOp .leq (.int k a) (.int k b)=some (.bool (decide (a<=b))):=by simp [binOp,lz,intCmp]
def aoH (k:yU) (a b:Int):binOp .gtr (.int k a) (.int k b)=some (.bool (decide (b<a))):=by simp [binOp,lz,intCmp]
def aoI (k:yU) (a b:Int):binOp .geq (.int k a) (.int k b)=some (.bool (decide (b<=a))):=by simp [binOp,lz,intCmp]
def aq0 (k:yU) (a:Int):unOp .neg (.int k a)=some (.int k (k.wrap (0-a))):=rfl
def aq1 (b:Bool):unOp .not (.bool b)=some (.bool !b):=rfl
def aml:gK hp 1 .ab=some (.int .i64 0):=rfl
def aoJ (e:Bool) (n:Nat) (cs:List AV):gK hp 1 (.aE e n cs)=some (.int .i64 n):=rfl
def aoK (id o n:Nat):gK hp 1 (.ak id o n)=some (.int .i64 n):=rfl
def aoL (s:List Nat):gK hp 0 (.str s)=some (.int .i64 s.length):=rfl
def LU {sz i n:Nat} (e:Bool) (cs:List AV) (h:i<n):gZ sz i (.aE e n cs)=some (.aF (cs.drop (i*sz))):=by
 have hb:yG i n=true:=yu h;simp only [gZ]
 grind
def dd {sz i n:Nat} (id o:Nat) (h:i<n):gZ sz i (.ak id o n)=some (.ptr id (o+i*sz)):=by
 have hb:yG i n=true:=yu h;simp only [gZ]
 grind
def Lu (v:AV) (cs:List AV):iK hp 1 false (.aF (v::cs))=some v:=rfl
def OW (sz:Nat) (ag:Bool) (o:Nat) (q:Option Obj):Option AV:=match q with | some (.cells _ _ _ _ cs)=>eX sz ag (cs.drop o) | _=>none
def aq2 (sz:Nat) (ag:Bool) (id o:Nat):iK hp sz ag (.ptr id o)=OW sz ag o (ap hp id):=by
 rfl
def as4 (sz:Nat) (ag:Bool) (o:Nat) (rw pu ex:Bool) (z:Nat) (cs:List AV):OW sz ag o (some (.cells rw pu ex z cs))=eX sz ag (cs.drop o):=rfl
def as5 (sz:Nat) (v:AV) (cs:List AV):eX sz false (v::cs)=some v:=rfl
def aun (a:AV) (l:List AV):Ja 0 (.aq (a::l))=some a:=rfl
def ext1 (a b:AV) (l:List AV):Ja 1 (.aq (a::b::l))=some b:=rfl
def auo (a b c:AV) (l:List AV):Ja 2 (.aq (a::b::c::l))=some c:=rfl
def aup (a b c d:AV) (l:List AV):Ja 3 (.aq (a::b::c::d::l))=some d:=rfl
end
def zj:Env->Bool
 | []=>true
 | (_,v)::r=>aS v&&zj r
mutual
def aM:∀{v:AV},aS v=true->refs v=[]
 | .int _ _,_ | .bool _,_ | .dB _ _,_ | .str _,_ | .jT,_ | .aF _,_ | .ab,_ | .aE _ _ _,_ | .hO,_ | .jz,_ | .jf _ _,_ | .undef,_=>rfl
 | .ptr _ _,h | .ak _ _ _,h | .map _,h | .it _,h | .cG _ _ _ _,h=>by simp [aS] at h
 | .fn (.y _) _ _,h=>by simp [aS] at h
 | .fn (.f _) first cap,h=>by
  simp only [aS,yf] at h;simp only [refs,Hc h.1,Hc h.2,xO]
 | .agg cs,h=>by simp only [aS] at h;simp only [refs,Hc h]
 | .aq cs,h=>by simp only [aS] at h;simp only [refs,Hc h]
def Hc:∀{vs:List AV},aJ vs=true->eI vs=[]
 | [],_=>rfl
 | v::r,h=>by
  simp only [aJ,yf] at h;simp only [eI,aM h.1,Hc h.2,xO]
end
mutual
def aQ (f:Nat->Option Nat):∀{v:AV},aS v=true->cm f v=v
 | .int _ _,_ | .bool _,_ | .dB _ _,_ | .str _,_ | .jT,_ | .aF _,_ | .ab,_ | .aE _ _ _,_ | .hO,_ | .jz,_ | .jf _ _,_ | .undef,_=>rfl
 | .ptr _ _,h | .ak _ _ _,h | .map _,h | .it _,h | .cG _ _ _ _,h=>by simp [aS] at h
 | .fn (.y _) _ _,h=>by simp [aS] at h
 | .fn (.f _) first cap,h=>by
  simp only [aS,yf] at h;simp only [cm,Hk f h.1,Hk f h.2]
 | .agg cs,h=>by simp only [aS] at h;simp only [cm,Hk f h]
 | .aq cs,h=>by simp only [aS] at h;simp only [cm,Hk f h]
def Hk (f:Nat->Option Nat):∀{vs:List AV},aJ vs=true->fG f vs=vs
 | [],_=>rfl
 | v::r,h=>by
  simp only [aJ,yf] at h;simp only [fG,aQ f h.1,Hk f h.2]
end
def X7:∀{tm:Env},zj tm=true->fb tm=[]
 | [],_=>rfl
 | (i,v)::r,h=>by
  simp only [zj,yf] at h;simp only [fb,aM h.1,X7 h.2,xO]
def YW (f:Nat->Option Nat):∀{tm:Env},zj tm=true->kM f tm=tm
 | [],_=>rfl
 | (i,v)::r,h=>by
  simp only [zj,yf] at h;simp only [kM,aQ f h.1,YW f h.2]
def KE {live:List Nat} {tm:Env} {ct:Nat} (h:zj (cX tm live)=true):bH live ⟨tm,[],ct,0⟩=⟨cX tm live,[],0,0⟩:=by
 simp only [bH,X7 h,du,xO];simp only [reach,kG,mg,YW _ h,yF,Nat.add_zero]
def aia {tm:Env} {ct:Nat}:bH [] ⟨tm,[],ct,0⟩=⟨[],[],0,0⟩:=rfl
def Hy {P:aK} {L:Lib} {live:List Nat} {a:VC} (I:Nat->St->Prop) (Q:Ex->St->Prop)
  (step:∀k s,I k s->(∃s' k',D P L a (bH live s)=some (.normal,s')/\k'<k/\I k' s')\/(∃ex s',D P L a (bH live s)=some (ex,s')/\ex≠.normal/\Q ex s')):
  ∀k s,I k s->∃ex s',D P L (.loop live a) s=some (ex,s')/\Q ex s':=by
 intro k
 induction k using Nat.strongRecOn with
 | _ k ih=>
  intro s hI;rw [Cw];rcases step k s hI with ⟨s',k',h1,h2,h3⟩ | ⟨ex,s',h1,h2,h3⟩
  ·rw [h1,aa6];exact ih k' h2 s' h3
  ·rw [h1]
   cases ex with
   | normal=>exact absurd rfl h2
   | ret=>exact ⟨.ret,s',rfl,h3⟩
   | exit id=>exact ⟨.exit id,s',rfl,h3⟩
def cC {P:aK} {L:Lib} {live:List Nat} {a:VC} (I:Nat->St->Prop) (Q:Ex->St->Prop)
  (step:∀k s,I k s->(∃s' k',D P L a s=some (.normal,s')/\k'<k/\I k' (bH live s'))\/(∃ex s',D P L a s=some (ex,s')/\ex≠.normal/\Q ex s')):
  ∀k s,I k (bH live s)->∃ex s',D P L (.loop live a) s=some (ex,s')/\Q ex s':=
 Hy (fun k s=>I k (bH live s)) Q (fun k s h=>step k _ h)
def cd {P:aK} {L:Lib} {c:VC} {s:St} {q:Option (Ex×St)} {I:St->Prop} {Q:Ex->St->Prop} (hq:D P L c s=q) (key:∀s,I s->∃ex s',D P L c s=some (ex,s')/\Q ex s') (hI:I s):
  ∃ex s',q=some (ex,s')/\Q ex s':=by
 rw [<-hq];exact key s hI
def amm (tm:Env):cX tm []=[]:=rfl
def akb (tm:Env) (i:Nat) (r:List Nat):cX tm (i::r)=(i,af tm i)::cX tm r:=rfl
def akc:zj []=true:=rfl
def aiO (i:Nat) (v:AV) (r:Env):zj ((i,v)::r)=(aS v&&zj r):=rfl
def Ej (k:yU) (n:Int):aS (.int k n)=true:=(rfl)
def aoM (b:Bool):aS (.bool b)=true:=(rfl)
def aq3 (s:List Nat):aS (.str s)=true:=(rfl)
def aoN:aS .ab=true:=(rfl)
def aq4 (e:Bool) (n:Nat) (cs:List AV):aS (.aE e n cs)=true:=(rfl)
def aoO (cs:List AV):aS (.aF cs)=true:=(rfl)
def amn:aS .undef=true:=(rfl)
attribute [go_sem] deep aia amm akb akc aiO Ej aoM aq3 aoN aq4 aoO amn tj xt
attribute [go_sem] aqn aqo asQ I8 aui R9 jy aqp Sa fM aog aoh aa6 aoi aoj Q2 aok HL aol acE aqq aom aon
 aa7 al1 ajY aa8 asR aem al2 al3 al4 al5 aoo aqr aqs ajZ aiG al6 aj0 Hx aj1 ZU aj2 al7 al8 aj3
 auj auk aqt aop al9 asS aoq aqu asT asU asV aqv aqw aqx aqy aqz aqA aqB aqC aqD aqE aqF aor aqG aqH aqI asW aqJ ama amb amc
 aos aot aou aov aow aqK aqL acF acG EZ aum amd aj4 aox aqM EB asX aep asY asZ as0
 aiH ah8 aiI ah9 aiJ shut_int shut_bool ame aj5 amf amg bE aoy AJ aj6 aiK aj7 aiL aj8 aiM aj9 aka AB
 amh YV acH aqN aoz ami aoA amj aoB amk
 aqO aqP as3 aiN aqQ aqR aqS aqT aqU aqV aqW aqX aqY aqZ aoC aa9 LS aba aoD aoE aoF aoG aoH aoI aq0 aq1 aml aoJ aoK aoL Lu aq2 as4 as5 aun ext1 auo aup
 List.nil_append xO List.cons_append yq yp Bool.not_true Bool.not_false tB td
end
section
open Go (IntKind)
abbrev aa (n:Int):AV:= .int .i64 n
def cT (v:AV) (cs:List AV):Prop:=(v= .ab/\cs=[])\/∃e,v= .aE e cs.length cs
section
variable {v:AV} {cs:List AV} {hp:Hp}
def cT.len (h:cT v cs) {hp:Hp}:gK hp 1 v=some (.int .i64 (cs.length:Nat)):=by
 rcases h with ⟨rfl,rfl⟩ | ⟨e,rfl⟩<;>rfl
def cT.pu (h:cT v cs):aS v=true:=by
 rcases h with ⟨rfl,rfl⟩ | ⟨e,rfl⟩<;>rfl
def cT.ai (h:cT v cs) (n:Nat) {hp:Hp}:freeze (n+1) hp v=some (v,hp):=by
 rcases h with ⟨rfl,rfl⟩ | ⟨e,rfl⟩<;>rfl
def cT.shut (h:cT v cs):shut v=v:=by
 rcases h with ⟨rfl,rfl⟩ | ⟨e,rfl⟩<;>rfl
def cT.bO (h:cT v cs):bO v=v:=by
 rcases h with ⟨rfl,rfl⟩ | ⟨e,rfl⟩<;>rfl
def cT.dn (h:cT v cs) {hp:Hp}:result hp v=some v:=by
 rcases h with ⟨rfl,rfl⟩ | ⟨e,rfl⟩<;>rfl
def cT.bj (h:cT v cs) {i:Nat} (hi:i<cs.length):gZ 1 i v=some (.aF (cs[i]::cs.drop (i+1))):=by
 rcases h with ⟨rfl,rfl⟩ | ⟨e,rfl⟩
 ·grind
 ·rw [LU e _ hi,yi,yO hi]
def cT.one (h:cT v cs):bA v=true:=by
 rcases h with ⟨rfl,rfl⟩ | ⟨e,rfl⟩<;>rfl
def cT.cells (h:cT v cs):cellsOf v=[v]:=by
 rcases h with ⟨rfl,rfl⟩ | ⟨e,rfl⟩<;>rfl
def HM (e:Bool) (cs:List AV):cT (.aE e cs.length cs) cs:= .inr ⟨e,rfl⟩
def qV:cT .ab []:= .inl ⟨rfl,rfl⟩
end
def bq (v:AV) (l:List Int):Prop:=cT v (l.map aa)
section
variable {v:AV} {l:List Int}
def bq.len (h:bq v l) {hp:Hp}:gK hp 1 v=some (.int .i64 (l.length:Nat)):=by
 have:=cT.len (hp:=hp) h
 grind
def bq.pu (h:bq v l):aS v=true:=cT.pu h
def bq.ai (h:bq v l) (n:Nat) {hp:Hp}:freeze (n+1) hp v=some (v,hp):=cT.ai h n
def bq.shut (h:bq v l):VE.shut v=v:=cT.shut h
def bq.bO (h:bq v l):VE.bO v=v:=cT.bO h
def bq.dn (h:bq v l) {hp:Hp}:result hp v=some v:=cT.dn h
def bq.one (h:bq v l):bA v=true:=cT.one h
def bq.cells (h:bq v l):cellsOf v=[v]:=cT.cells h
def bq.bj (h:bq v l) {i:Nat} (hi:i<l.length):gZ 1 i v=some (.aF (.int .i64 l[i]::(l.map aa).drop (i+1))):=by
 have:=cT.bj h (i:=i) (by simpa using hi)
 grind
def fN (e:Bool) (l:List Int):bq (.aE e l.length (l.map aa)) l:=by
 have:=HM e (l.map aa)
 rwa [List.length_map] at this
end
def jU {α β:Type} (p:α->β->Prop):List α->List β->Prop
 | [],[]=>True
 | a::r,b::s=>p a b/\jU p r s
 | _,_=>False
section
variable {α β:Type} {p:α->β->Prop}
def jU.len:∀{l:List α} {m:List β},jU p l m->l.length=m.length
 | [],[],_=>rfl
 | _::_,_::_,h=>by rw [yv,yv,h.2.len]
def jU.get:∀{l:List α} {m:List β} (_:jU p l m) {i:Nat} (h1:i<l.length) (h2:i<m.length),p l[i] m[i]
 | a::r,b::s,h,0,_,_=>h.1
 | a::r,b::s,h,i+1,h1,h2=>by
  exact h.2.get (by simpa using h1) (by simpa using h2)
def jU.append:∀{l l':List α} {m m':List β},jU p l m->jU p l' m'->jU p (l++l') (m++m')
 | [],_,[],_,_,h=>h
 | _::_,_,_::_,_,h,k=>⟨h.1,h.2.append k⟩
end
def cK (v:AV) (s:List (List Int)):Prop:=∃rows,cT v rows/\jU bq rows s
section
variable {v:AV} {s:List (List Int)}
def cK.len (h:cK v s) {hp:Hp}:gK hp 1 v=some (.int .i64 (s.length:Nat)):=by
 obtain ⟨rows,h1,h2⟩:=h;rw [<-h2.len];exact h1.len
def cK.pu (h:cK v s):aS v=true:=by obtain ⟨rows,h1,h2⟩:=h;exact h1.pu
def cK.ai (h:cK v s) (n:Nat) {hp:Hp}:freeze (n+1) hp v=some (v,hp):=by obtain ⟨rows,h1,h2⟩:=h;exact h1.ai n
def cK.shut (h:cK v s):VE.shut v=v:=by obtain ⟨rows,h1,h2⟩:=h;exact h1.shut
def cK.bO (h:cK v s):VE.bO v=v:=by obtain ⟨rows,h1,h2⟩:=h;exact h1.bO
def cK.dn (h:cK v s) {hp:Hp}:result hp v=some v:=by obtain ⟨rows,h1,h2⟩:=h;exact h1.dn
def cK.one (h:cK v s):bA v=true:=by obtain ⟨rows,h1,h2⟩:=h;exact h1.one
def cK.cells (h:cK v s):cellsOf v=[v]:=by obtain ⟨rows,h1,h2⟩:=h;exact h1.cells
def cK.bj (h:cK v s) {i:Nat} (hi:i<s.length):∃r rest,bq r s[i]/\gZ 1 i v=some (.aF (r::rest)):=by
 obtain ⟨rows,h1,h2⟩:=h;have cz:i<rows.length:=by rw [h2.len];exact hi
 exact ⟨_,_,h2.get cz hi,h1.bj cz⟩
def amo:cK .ab []:=⟨[],qV,trivial⟩
end
def wrap64 {n:Int} (h1: -9223372036854775808<=n) (h2:n<9223372036854775808):IntKind.wrap .i64 n=n:=by
 simp only [IntKind.wrap,IntKind.bits,IntKind.signed,xt]
 grind
def wrapN {n:Nat} (h:n<9223372036854775808):IntKind.wrap .i64 (n:Int)=n:=wrap64 (by omega) (by omega)
end
section
open Go (IntKind)
section
variable {P:aK} {L:Lib}
abbrev ae (P:aK) (L:Lib) (f:Nat) (vals:List AV) (r:AV):Prop:=bR P L (D P L) f vals=some r
def s30 (h:Has P L 30 BK) (n lo hi:Int):ae P L 30 [aa n,aa lo,aa hi] (aa (if n<lo\/hi<n then 3 else 0)):=by
 unfold ae;rw [av h];by_cases h1:n<lo
 ·simp only [go_sem,ya,BK,h1,true_or,y7]
 ·by_cases h2:hi<n
  ·simp only [go_sem,ya,BK,h1,h2,or_true,y7]
  ·simp only [go_sem,ya,BK,h1,h2,or_self,yR]
def mG (h:Has P L 31 Ab) (b:Bool) (n:Int):ae P L 31 [.bool b,aa n] (aa (if b=true then n else 0)):=by
 unfold ae;rw [av h]
 cases b with
 | true=>simp only [go_sem,ya,Ab,y7]
 | false=>simp only [go_sem,ya,Ab];rfl
def FC (h:Has P L 34 Ac) (fm:Has P L 31 Ab) (n lo hi:Int):ae P L 34 [aa n,aa lo,aa hi] (aa (if n<lo\/hi<n then 3 else 0)):=by
 unfold ae;rw [av h];by_cases h1:n<lo
 ·simp only [go_sem,ya,Ac,h1,true_or,y7,mG fm]
 ·by_cases h2:hi<n
  ·simp only [go_sem,ya,Ac,h1,h2,or_true,y7,mG fm]
  ·simp only [go_sem,ya,Ac,h1,h2,or_self,yR,mG fm];rfl
def s36 (h:Has P L 36 Ov) (mH:Has P L 34 Ac) (fm:Has P L 31 Ab) (n:Int):ae P L 36 [aa n] (aa (if n<0\/1000<n then 3 else 0)):=by
 unfold ae;rw [av h];simp only [go_sem,ya,Ov,FC mH fm]
def s38 (h:Has P L 38 JS) (a b:Int):ae P L 38 [aa a,aa b] (aa (IntKind.wrap .i64 (a+b))):=by
 unfold ae;rw [av h];simp only [go_sem,ya,JS]
def qD (h:Has P L 33 JR) {v:AV} {l:List Int} (hv:bq v l) (hl:l.length<=1000000):ae P L 33 [v] (aa (bm l)):=by
 unfold ae;rw [av h];simp only [go_sem,ya,JR,hv.len];have key:=Hy (P:=P) (L:=L) (live:=[5,6,7]) (a:=Mw)
  (I:=fun k s=>∃tm ct i,s=⟨tm,[],ct,0⟩/\af tm 5=v/\af tm 6=aa l.length/\af tm 7=aa (i:Nat)/\i+k=l.length/\bm (l.drop i)=bm l)
  (Q:=fun ex s=>∃tm,s=⟨tm,[],0,0⟩/\((ex= .ret/\af tm 2=aa (bm l))\/(ex= .exit 0/\bm l=0))) ?_ l.length
 ·generalize hq:D P L (.loop [5,6,7] Mw) _=q;obtain ⟨ex,s,rfl,tm,rfl,h2⟩:=cd hq key ⟨_,_,0,rfl,rfl,rfl,rfl,by omega,rfl⟩;rcases h2 with ⟨rfl,h2⟩ | ⟨rfl,h2⟩
  ·simp only [go_sem,h2]
  ·rw [h2];simp only [go_sem]
 ·rintro k s ⟨tm,ct,i,rfl,h5,h6,h7,hk,hf⟩;rw [KE (by simp only [go_sem,h5,h6,h7,hv.pu])];simp only [go_sem,ya,h5,h6,h7,Mw];by_cases hi:i<l.length
  ·have cz:(i:Int)<l.length:=by omega
   rw [PB hi] at hf;by_cases hz:l[i]=0
   ·left
    simp only [go_sem,ya,cz,hv.bj hi,hz];refine ⟨_,k-1,rfl,by omega,_,_,i+1,rfl,?_⟩;rw [wrap64 (by omega) (by omega)];rw [yJ hz] at hf;simp only [go_sem,ya];exact ⟨trivial,trivial,rfl,by omega,hf⟩
   ·right
    simp only [go_sem,ya,cz,hv.bj hi,hz];rw [yz hz] at hf;refine ⟨_,_,rfl,by simp,_,rfl,.inl ⟨rfl,?_⟩⟩;simp only [go_sem,hf]
  ·right
   have cz:¬(i:Int)<l.length:=by omega
   simp only [go_sem,cz];refine ⟨_,_,rfl,by simp,_,rfl,.inr ⟨rfl,?_⟩⟩;rw [<-hf,xj (by omega)];rfl
def s42 {n:Nat} (h:Has P L n Ox) {v:AV} {l:List Int} (hv:bq v l) (hl:l.length<=1000000):ae P L n [v] (aa (bm l)):=by
 unfold ae;rw [av h];simp only [go_sem,Ox];have key:=Hy (P:=P) (L:=L) (live:=[0,3]) (a:=My)
  (I:=fun k s=>∃tm ct i,s=⟨tm,[],ct,0⟩/\af tm 0=v/\af tm 3=aa (i:Nat)/\i+k=l.length/\bm (l.drop i)=bm l)
  (Q:=fun ex s=>∃tm,s=⟨tm,[],0,0⟩/\((ex= .ret/\af tm 2=aa (bm l))\/(ex= .exit 0/\bm l=0))) ?_ l.length
 ·generalize hq:D P L (.loop [0,3] My) _=q;obtain ⟨ex,s,rfl,tm,rfl,h2⟩:=cd hq key ⟨_,_,0,rfl,rfl,rfl,by omega,rfl⟩;rcases h2 with ⟨rfl,h2⟩ | ⟨rfl,h2⟩
  ·simp only [go_sem,h2]
  ·rw [h2];simp only [go_sem]
 ·rintro k s ⟨tm,ct,i,rfl,h0,h3,hk,hf⟩;rw [KE (by simp only [go_sem,h0,h3,hv.pu])];simp only [go_sem,ya,h0,h3,My,hv.len];by_cases hi:i<l.length
  ·have cz:(i:Int)<l.length:=by omega
   rw [PB hi] at hf;by_cases hz:l[i]=0
   ·left
    simp only [go_sem,ya,cz,hv.bj hi,hz];refine ⟨_,k-1,rfl,by omega,_,_,i+1,rfl,?_⟩;rw [wrap64 (by omega) (by omega)];rw [yJ hz] at hf;simp only [go_sem,ya];exact ⟨trivial,rfl,by omega,hf⟩
   ·right
    simp only [go_sem,ya,cz,hv.bj hi,hz];rw [yz hz] at hf;refine ⟨_,_,rfl,by simp,_,rfl,.inl ⟨rfl,?_⟩⟩;simp only [go_sem,hf]
  ·right
   have cz:¬(i:Int)<l.length:=by omega
   simp only [go_sem,cz];refine ⟨_,_,rfl,by simp,_,rfl,.inr ⟨rfl,?_⟩⟩;rw [<-hf,xj (by omega)];rfl
def NE (h:Has P L 134 CP) {n m:Int} (hm:0<m) (fV:m<=1000000):ae P L 134 [aa n,aa m] (aa (n%m)):=by
 unfold ae;rw [av h];have h1:m≠0:=by omega
 have h2:n.tmod m<m:=Int.tmod_lt_of_pos n hm;have h3: -m<n.tmod m:=by
  have h:=Int.lt_tmod_of_pos n hm;omega
 simp only [go_sem,ya,CP,eD _ _ _ h1,wrap64 (n:=n.tmod m+m) (by omega) (by omega),aof hm]
end
end
section
open Go (IntKind)
section
variable {P:aK} {L:Lib} {f:cJ} {tm:Env} {hp:Hp} {ct:Nat}
def akd (k:yU) (n:Int):cellsOf (.int k n)=[.int k n]:=(rfl)
def aiP (b:Bool):cellsOf (.bool b)=[.bool b]:=(rfl)
def ake (s:List Nat):cellsOf (.str s)=[.str s]:=(rfl)
def aiQ:cellsOf .ab=[.ab]:=(rfl)
def akf (e:Bool) (n:Nat) (cs:List AV):cellsOf (.aE e n cs)=[.aE e n cs]:=(rfl)
def akg (id o n:Nat):cellsOf (.ak id o n)=[.ak id o n]:=(rfl)
def akh (id o:Nat):cellsOf (.ptr id o)=[.ptr id o]:=(rfl)
def amp (g:Fr) (a b:List AV):cellsOf (.fn g a b)=[.fn g a b]:=(rfl)
def aki (cs:List AV):cellsOf (.agg cs)=cs:=(rfl)
def HN (k:yU) (n:Int):bA (.int k n)=true:=(rfl)
def amq (b:Bool):bA (.bool b)=true:=(rfl)
def Q3 (s:List Nat):bA (.str s)=true:=(rfl)
def amr:bA .ab=true:=(rfl)
def aoP (e:Bool) (n:Nat) (cs:List AV):bA (.aE e n cs)=true:=(rfl)
def aoQ (id o n:Nat):bA (.ak id o n)=true:=(rfl)
def aoR (id o:Nat):bA (.ptr id o)=true:=(rfl)
def aq5 (g:Fr) (a b:List AV):bA (.fn g a b)=true:=(rfl)
def ams:bQ []=true:=(rfl)
def YX (v:AV) (r:List AV):bQ (v::r)=(bA v&&bQ r):=(rfl)
def akj:aJ []=true:=(rfl)
def X8 (v:AV) (r:List AV):aJ (v::r)=(aS v&&aJ r):=(rfl)
def aq6 (id o:Nat):aS (.ptr id o)=false:=(rfl)
def acI (id o n:Nat):aS (.ak id o n)=false:=(rfl)
def as6 (g:Nat) (a b:List AV):aS (.fn (.f g) a b)=(aJ a&&aJ b):=(rfl)
def auq (l:Nat) (a b:List AV):aS (.fn (.y l) a b)=false:=(rfl)
def aq7 (cs:List AV):aS (.agg cs)=aJ cs:=(rfl)
def aq8 (cs:List AV):aS (.aq cs)=aJ cs:=(rfl)
def Bl (ct sz:Nat) (cs:List AV):Option (AV×Obj):=bif yr cs.length sz&&bQ cs then some (.ptr ct 0,.cells true (aJ cs) true sz cs) else none
def aq9 (sz:Nat) (x:X):cU tm hp ct (.box sz x)=Bl ct sz (cellsOf (az tm x)):=rfl
def aeq {v:AV} (h:bA v=true):Bl ct 1 [v]=some (.ptr ct 0,.cells true (aS v&&true) true 1 [v]):=by
 simp [Bl,bQ,aJ,h]
def aH {cs:List AV} {n:Nat} (hn:cs.length=n) (h:bQ cs=true):Bl ct n cs=some (.ptr ct 0,.cells true (aJ cs) true n cs):=by
 subst hn;simp [Bl,h]
def fy (hp:Hp) (ct id o sz:Nat) (new:List AV) (q:Option Obj):fQ:=
 match q with
 | some (.cells true pu ex z cs)=>bif yr new.length sz&&yE (o+sz) cs.length&&bQ new then some (.aq [],aY hp id (.cells true (pu&&aJ new) ex z (over o new cs)),ct) else none
 | _=>none
def stV (hp:Hp) (ct sz:Nat) (p:AV) (new:List AV):fQ:=match p with | .ptr id o=>fy hp ct id o sz new (ap hp id) | _=>none
def ZV (sz:Nat) (x v:X):dc tm hp ct (.st sz x v)=stV hp ct sz (az tm x) (cellsOf (az tm v)):=rfl
def aer (sz id o:Nat) (new:List AV):stV hp ct sz (.ptr id o) new=fy hp ct id o sz new (ap hp id):=rfl
def aur {v u:AV} {id z:Nat} {pu ex:Bool} (h:bA v=true):fy hp ct id 0 1 [v] (some (.cells true pu ex z [u]))=some (.aq [],aY hp id (.cells true (pu&&(aS v&&true)) ex z [v]),ct):=by
 simp [fy,bQ,aJ,h,over];rfl
def mj {new cs:List AV} {id o sz z:Nat} {pu ex:Bool} (h1:new.length=sz) (h2:o+sz<=cs.length) (h:bQ new=true):
  fy hp ct id o sz new (some (.cells true pu ex z cs))=some (.aq [],aY hp id (.cells true (pu&&aJ new) ex z (over o new cs)),ct):=by
 subst h1;simp [fy,h,yu h2]
def MH (ct n sz:Nat) (q:Option (List AV)):Option (AV×Obj):=match q with | some cs=>bif yr cs.length (n*sz) then some (.ak ct 0 n,.cells true (aJ cs) true sz cs) else none | none=>none
def aoS (n sz:Nat) (z:List AV) (ps:List (Nat×Nat×X)):cU tm hp ct (.bV n sz z ps)=MH ct n sz (fill tm z ps):=by
 simp only [cU,MH];cases fill tm z ps<;>rfl
def aoT {n sz:Nat} {cs:List AV} (h:cs.length=n*sz):MH ct n sz (some cs)=some (.ak ct 0 n,.cells true (aJ cs) true sz cs):=by
 simp [MH,h]
def hJ (tm:Env) (cs:List AV) (o sz:Nat) (new:List AV) (r:List (Nat×Nat×X)):Option (List AV):=
 bif yr new.length sz&&yE (o+sz) cs.length&&bQ new then fill tm (over o new cs) r else none
def amt (cs:List AV):fill tm cs []=some cs:=rfl
def akk (cs:List AV) (o sz:Nat) (x:X) (r:List (Nat×Nat×X)):fill tm cs ((o,sz,x)::r)=hJ tm cs o sz (cellsOf (az tm x)) r:=rfl
def abb {cs:List AV} {o:Nat} {v:AV} {r:List (Nat×Nat×X)} (h1:o+1<=cs.length) (h2:bA v=true):hJ tm cs o 1 [v] r=fill tm (over o [v] cs) r:=by
 simp [hJ,bQ,h2,yu h1]
def mL {cs new:List AV} {o sz:Nat} {r:List (Nat×Nat×X)} (h0:new.length=sz) (h1:o+sz<=cs.length) (h2:bQ new=true):hJ tm cs o sz new r=fill tm (over o new cs) r:=by
 subst h0;simp [hJ,h2,yu h1]
def as7 (v u:AV) (r:List AV):over 0 [v] (u::r)=v::r:=rfl
def as8 (v a u:AV) (r:List AV):over 1 [v] (a::u::r)=a::v::r:=rfl
def as9 (v a b u:AV) (r:List AV):over 2 [v] (a::b::u::r)=a::b::v::r:=rfl
def ata (v a b c u:AV) (r:List AV):over 3 [v] (a::b::c::u::r)=a::b::c::v::r:=rfl
def atb (v a b c d u:AV) (r:List AV):over 4 [v] (a::b::c::d::u::r)=a::b::c::d::v::r:=rfl
def atc (v a b c d e u:AV) (r:List AV):over 5 [v] (a::b::c::d::e::u::r)=a::b::c::d::e::v::r:=rfl
def zE (ct sz by':Nat) (zero:List AV) (l c:Option Nat):Option (AV×Obj):=
 match l,c with
 | some l,some c=>bif yE l c&&(yE c room&&(yE (c*by') room&&(yr zero.length sz&&bQ zero))) then some (.ak ct 0 l,.cells true (aJ zero) (yr l c) sz (yA l zero).flatten) else none
 | _,_=>none
def ara (sz by':Nat) (z:List AV) (l c:X):cU tm hp ct (.gP sz by' z l c)=zE ct sz by' z (dV (az tm l)) (dV (az tm c)):=by
 simp only [cU,zE]
 grind
def Ek {sz by' l:Nat} {z:List AV} (h1:l<=1099511627776) (h2:l*by'<=1099511627776) (h3:z.length=sz) (h4:bQ z=true):
  zE ct sz by' z (some l) (some l)=some (.ak ct 0 l,.cells true (aJ z) true sz (yA l z).flatten):=by
 subst h3;simp [zE,h4,yu (show l<=room from h1),yu (show l*by'<=room from h2),yu (yD l)]
def CT (hp:Hp) (ct sz by':Nat) (s:AV) (src:Option (Nat×List AV)):fQ:=
 match src with
 | none=>none
 | some (m,new)=>
  match s with
  | .ab=>
   bif yr m 0 then some (.ab,hp,ct)
   else bif yE m room&&(yE (m*by') room&&yG 0 sz) then some (.ak ct 0 m,(ct,.cells true (aJ new) false sz new)::hp,ct+1) else none
  | .aE true n cs=>
   bif yr m 0 then some (.aE true n cs,hp,ct)
   else bif yE (n+m) room&&(yE ((n+m)*by') room&&(yr cs.length (n*sz)&&yG 0 sz)) then some (.ak ct 0 (n+m),(ct,.cells true (aJ cs&&aJ new) false sz (cs++new))::hp,ct+1) else none
  | .ak id o n=>
   match ap hp id with
   | some (.cells true pu _ z cs)=>
    bif yr z sz&&(yE (n+m) room&&(yE ((n+m)*by') room&&(yE (o+n*sz) cs.length&&(yG 0 sz&&bQ new)))) then
     some (.ak ct 0 (n+m),(ct,.cells true (pu&&aJ new) false sz (slice o (n*sz) cs++new))::dz hp id,ct+1)
    else none
   | _=>none
  | _=>none
def akl (sz by':Nat) (s x:X):dc tm hp ct (.dH sz by' s x)=CT hp ct sz by' (az tm s) (sS hp sz (az tm x)):=by
 simp only [dc,CT]
 cases sS hp sz (az tm x) with
 | none=>rfl
 | some q=>obtain ⟨m,new⟩:=q;cases az tm s<;>rfl
def aiR (sz id o n:Nat):sS hp sz (.ak id o n)=pM hp sz (.ak id o n):=rfl
def aiS (sz:Nat) (e:Bool) (n:Nat) (cs:List AV):sS hp sz (.aE e n cs)=pM hp sz (.aE e n cs):=rfl
def aib (sz:Nat):sS hp sz .ab=some (0,[]):=rfl
def Vg (o n sz:Nat) (q:Option Obj):Option (Nat×List AV):=match q with | some (.cells _ _ _ _ cs)=>bif yE (o+n*sz) cs.length then some (n,slice o (n*sz) cs) else none | _=>none
def aic (sz id o n:Nat):pM hp sz (.ak id o n)=Vg o n sz (ap hp id):=rfl
def atd (rw pu ex:Bool) (z:Nat) (v:AV):Vg 0 1 1 (some (.cells rw pu ex z [v]))=some (1,[v]):=rfl
def lY {sz by':Nat} {new:List AV} {m:Nat} (hm:0<m) (h1:m<=1099511627776) (h2:m*by'<=1099511627776) (hs:0<sz):
  CT hp ct sz by' .ab (some (m,new))=some (.ak ct 0 m,(ct,.cells true (aJ new) false sz new)::hp,ct+1):=by
 have e1:yr m 0=false:=cE (by omega);have e2:yG 0 sz=true:=yu hs;simp [CT,e1,e2,yu (show m<=room from h1),yu (show m*by'<=room from h2)]
def lk {sz by' id n m:Nat} {pu ex:Bool} {cs new:List AV} (hg:ap hp id=some (.cells true pu ex sz cs)) (hl:cs.length=n*sz) (h1:n+m<=1099511627776) (h2:(n+m)*by'<=1099511627776) (hs:0<sz) (ho:bQ new=true):
  CT hp ct sz by' (.ak id 0 n) (some (m,new))=some (.ak ct 0 (n+m),(ct,.cells true (pu&&aJ new) false sz (cs++new))::dz hp id,ct+1):=by
 have e2:yG 0 sz=true:=yu hs;simp only [CT,hg];simp [e2,ho,yu (show n+m<=room from h1),yu (show (n+m)*by'<=room from h2),<-hl,slice,yu (yD cs.length)]
def ae9 (n:Nat) (g:Nat) (cap:List AV) (q:Option (List AV×Hp)):Option (AV×Hp):=match q with | some (first,hp)=>(match cN n hp cap with | some (MS,ji)=>some (.fn (.f g) first MS,ji) | none=>none) | none=>none
def afa (g:Nat) (first:List AV) (q:Option (List AV×Hp)):Option (AV×Hp):=match q with | some (cap,hp)=>some (.fn (.f g) first cap,hp) | none=>none
def arb (n g:Nat) (first cap:List AV):freeze (n+1) hp (.fn (.f g) first cap)=ae9 n g cap (cN n hp first):=rfl
def arc (n g:Nat) (first cap:List AV):ae9 n g cap (some (first,hp))=afa g first (cN n hp cap):=rfl
def ard (g:Nat) (first cap:List AV):afa g first (some (cap,hp))=some (.fn (.f g) first cap,hp):=rfl
def afb (o:Nat) (q:Option (Bool×Nat×List AV×Hp)):Option (AV×Hp):=match q with | some (_,_,cs,hp)=>some (.aF (cs.drop o),hp) | none=>none
def aoU (n id o:Nat):freeze (n+1) hp (.ptr id o)=afb o (qO n hp id):=rfl
def are (o:Nat) (ex:Bool) (sz:Nat) (cs:List AV):afb o (some (ex,sz,cs,hp))=some (.aF (cs.drop o),hp):=rfl
def lH (o k:Nat) (q:Option (Bool×Nat×List AV×Hp)):Option (AV×Hp):=
 match q with
 | some (ex,sz,cs,hp)=>bif yE (o+k*sz) cs.length then some (.aE (ex&&yG 0 sz&&yr (o+k*sz) cs.length) k (slice o (k*sz) cs),hp) else none
 | none=>none
def Q4 (n id o k:Nat):freeze (n+1) hp (.ak id o k)=lH o k (qO n hp id):=rfl
def oh {sz k:Nat} {cs:List AV} (ex:Bool) (hl:cs.length=k*sz) (hs:0<sz):lH 0 k (some (ex,sz,cs,hp))=some (.aE ex k cs,hp):=by
 have e2:yG 0 sz=true:=yu hs;simp [lH,<-hl,e2,slice,yu (yD cs.length)]
def Jb (n id:Nat) (hp:Hp) (q:Option Obj):Option (Bool×Nat×List AV×Hp):=
 match q with
 | some (.cells rw pu ex sz cs)=>
  bif pu then some (ex,sz,cs,bif rw then aY hp id (.cells false true ex sz cs) else hp)
  else match cN n hp cs with
   | some (dK,ao)=>some (ex,sz,dK,aY ao id (.cells false false ex sz cs))
   | none=>none
 | _=>none
def Q5 (n id:Nat):qO (n+1) hp id=Jb n id hp (ap hp id):=rfl
def acJ (n id:Nat) (ex:Bool) (sz:Nat) (cs:List AV):Jb n id hp (some (.cells true true ex sz cs))=some (ex,sz,cs,aY hp id (.cells false true ex sz cs)):=rfl
def acK (n id:Nat) (ex:Bool) (sz:Nat) (cs:List AV):Jb n id hp (some (.cells false true ex sz cs))=some (ex,sz,cs,hp):=rfl
def bk (n:Nat) (cs:List AV) (h:cN n hp cs=some (cs,hp)):freeze (n+1) hp (.agg cs)=some (.agg cs,hp):=by
 simp only [freeze,h]
def PP {id n sz:Nat} {ex:Bool} {cs:List AV} (hg:ap hp id=some (.cells true true ex sz cs)) (hl:cs.length=n*sz) (hs:0<sz):result hp (.ak id 0 n)=some (.cG ex sz n cs):=by
 have e2:yG 0 sz=true:=yu hs;simp only [result,oC,hg,yd,<-hl,yu (yD cs.length),ym,e2,tj,slice,yj,List.take_length]
 simp
def ahC (b:Bool):result hp (.aq [.ab,.bool b])=some (.aq [.ab,.bool b]):=rfl
def ahD (k:yU) (b:Int):result hp (.aq [.ab,.int k b])=some (.aq [.ab,.int k b]):=rfl
def ahE (e:Bool) (n:Nat) (cs:List AV) (k:yU) (b:Int):result hp (.aq [.aE e n cs,.int k b])=some (.aq [.aE e n cs,.int k b]):=rfl
def akm (s:St):oH [] s=some s:=rfl
def Vh (t:Nat) (r:List Nat) (tm:Env) (ct base:Nat) (q:Option (AV×Hp)):Option St:=match q with | some (v,hp)=>oH r ⟨(t,v)::tm,hp,ct,base⟩ | none=>none
def aiT (t:Nat) (r:List Nat) (tm:Env) (hp:Hp) (ct base:Nat):oH (t::r) ⟨tm,hp,ct,base⟩=Vh t r tm ct base (freeze deep hp (af tm t)):=by
 simp only [oH,Vh];cases freeze deep hp (af tm t)<;>rfl
def ate (t:Nat) (r:List Nat) (tm:Env) (ct base:Nat) (v:AV) (hp:Hp):Vh t r tm ct base (some (v,hp))=oH r ⟨(t,v)::tm,hp,ct,base⟩:=rfl
end
attribute [go_sem] ahC ahD ahE akd aiP ake aiQ akf akg akh amp aki HN amq Q3 amr aoP aoQ aoR aq5 ams YX
 akj X8 aq6 acI as6 auq aq7 aq8 aq9 aeq ZV aer aur aoS amt akk as7 as8 as9 ata atb atc ara
 akl aiR aiS aib aic atd arb arc ard aoU are Q4 oh aoT abb Q5 acJ acK akm aiT ate
 Bool.and_false Bool.false_and yj eq_self
end
section
open Go (IntKind)
def ZW:∀hp:Hp,du 0 hp=[]
 | []=>rfl
 | (id,o)::r=>by
  have:yG id 0=false:=rfl
  simp only [du,this,yB,ZW r]
def acL (f:Nat->Option Nat):∀hp:Hp,mg 0 f hp=[]
 | []=>rfl
 | (id,o)::r=>by
  have:yG id 0=false:=rfl
  simp only [mg,this,yB,acL f r]
def pos (seen:List Nat):Nat->Option Nat:=fun id=>mo id seen 0
def S6 (tm:Env) (hp:Hp) (seen:List Nat):St:=⟨kM (pos seen) tm,kG hp (pos seen) seen 0 [],seen.length,0⟩
def sn (hp:Hp):Nat->List Nat->List Nat->List Nat:=reach hp 0
def aD (live:List Nat) (tm:Env) (hp:Hp) (ct:Nat):bH live ⟨tm,hp,ct,0⟩=S6 (cX tm live) hp (sn hp 100000 (fb (cX tm live)) []):=by
 have e:∀seen,kF 0 seen=pos seen:=fun seen=>by
  funext id
  have:yG id 0=false:=rfl
  simp only [kF,this,yB,pos]
 simp only [bH,ZW,xO,e,acL,S6,sn,yd]
def akn:fb []=[]:=rfl
def aiU (i:Nat) (v:AV) (r:Env):fb ((i,v)::r)=refs v++fb r:=rfl
def amu (k:yU) (n:Int):refs (.int k n)=[]:=rfl
def ako (b:Bool):refs (.bool b)=[]:=rfl
def amv (s:List Nat):refs (.str s)=[]:=rfl
def akp:refs .ab=[]:=rfl
def amw (e:Bool) (n:Nat) (cs:List AV):refs (.aE e n cs)=[]:=rfl
def akq (cs:List AV):refs (.aF cs)=[]:=rfl
def aiV:refs .undef=[]:=rfl
def amx (id o:Nat):refs (.ptr id o)=[id]:=rfl
def amy (id o n:Nat):refs (.ak id o n)=[id]:=rfl
def aoV (g:Nat) (a b:List AV):refs (.fn (.f g) a b)=eI a++eI b:=rfl
def arf (l:Nat) (a b:List AV):refs (.fn (.y l) a b)=[l]:=rfl
def amz (cs:List AV):refs (.agg cs)=eI cs:=rfl
def akr:eI []=[]:=rfl
def aiW (v:AV) (r:List AV):eI (v::r)=refs v++eI r:=rfl
def NF (hp:Hp) (n id:Nat) (iJ seen:List Nat) (q:Option Obj):List Nat:=match q with | some o=>sn hp n (fc o++iJ) (seen++[id]) | none=>sn hp n iJ seen
def NG (hp:Hp) (n id:Nat) (iJ seen:List Nat) (b:Bool):List Nat:=bif b then sn hp n iJ seen else NF hp n id iJ seen (ap hp id)
def aoW (hp:Hp) (n:Nat) (seen:List Nat):sn hp (n+1) [] seen=seen:=rfl
def amA (hp:Hp) (n id:Nat) (iJ seen:List Nat):sn hp (n+1) (id::iJ) seen=NG hp n id iJ seen (lD id seen):=by
 have:yG id 0=false:=rfl
 simp only [sn,reach,this,vD,NG,NF]
 cases lD id seen with
 | true=>rfl
 | false=>simp only [yB];cases ap hp id<;>rfl
def arh (hp:Hp) (n id:Nat) (iJ seen:List Nat):NG hp n id iJ seen true=sn hp n iJ seen:=rfl
def ari (hp:Hp) (n id:Nat) (iJ seen:List Nat):NG hp n id iJ seen false=NF hp n id iJ seen (ap hp id):=rfl
def arj (hp:Hp) (n id:Nat) (iJ seen:List Nat) (o:Obj):NF hp n id iJ seen (some o)=sn hp n (fc o++iJ) (seen++[id]):=rfl
def amB (i:Nat):lD i []=false:=rfl
def amC (i:Nat) (r:List Nat):lD i (i::r)=true:=by simp only [lD,xo,ym]
def aks {i j:Nat} (r:List Nat) (h:j≠i):lD i (j::r)=lD i r:=by simp only [lD,cE h,yB]
def aoX (rw ex:Bool) (sz:Nat) (cs:List AV):fc (.cells rw true ex sz cs)=[]:=rfl
def aoY (rw ex:Bool) (sz:Nat) (cs:List AV):fc (.cells rw false ex sz cs)=eI cs:=rfl
def amD (tm:Env) (ps:List Nat) (a b:VC) (st:Nat) (pe:rq):fc (.lp tm ps a b st pe)=fb tm:=rfl
def aoZ (i:Nat) (r:List Nat) (k:Nat):mo i (i::r) k=some k:=by simp only [mo,xo,ym]
def amE {i j:Nat} (r:List Nat) (k:Nat) (h:j≠i):mo i (j::r) k=mo i r (k+1):=by simp only [mo,cE h,yB]
def aes (o:Nat) (q:Option Nat):AV:=match q with | some j=> .ptr j o | none=> .undef
def aet (o n:Nat) (q:Option Nat):AV:=match q with | some j=> .ak j o n | none=> .undef
def amF (s:List Nat):kM (pos s) []=[]:=rfl
def akt (s:List Nat) (i:Nat) (v:AV) (r:Env):kM (pos s) ((i,v)::r)=(i,cm (pos s) v)::kM (pos s) r:=rfl
def ao0 (s:List Nat) (k:yU) (n:Int):cm (pos s) (.int k n)= .int k n:=rfl
def amG (s:List Nat) (b:Bool):cm (pos s) (.bool b)= .bool b:=rfl
def ao1 (s:List Nat) (t:List Nat):cm (pos s) (.str t)= .str t:=rfl
def amH (s:List Nat):cm (pos s) .ab= .ab:=rfl
def ao2 (s:List Nat) (e:Bool) (n:Nat) (cs:List AV):cm (pos s) (.aE e n cs)= .aE e n cs:=rfl
def amI (s:List Nat) (cs:List AV):cm (pos s) (.aF cs)= .aF cs:=rfl
def aku (s:List Nat):cm (pos s) .undef= .undef:=rfl
def ao3 (s:List Nat) (id o:Nat):cm (pos s) (.ptr id o)=aes o (mo id s 0):=rfl
def ao4 (s:List Nat) (id o n:Nat):cm (pos s) (.ak id o n)=aet o n (mo id s 0):=rfl
def ark (s:List Nat) (g:Nat) (a b:List AV):cm (pos s) (.fn (.f g) a b)= .fn (.f g) (fG (pos s) a) (fG (pos s) b):=rfl
def ao5 (s:List Nat) (cs:List AV):cm (pos s) (.agg cs)= .agg (fG (pos s) cs):=rfl
def amJ (s:List Nat):fG (pos s) []=[]:=rfl
def akv (s:List Nat) (v:AV) (r:List AV):fG (pos s) (v::r)=cm (pos s) v::fG (pos s) r:=rfl
def ao6 (o j:Nat):aes o (some j)= .ptr j o:=rfl
def ao7 (o n j:Nat):aet o n (some j)= .ak j o n:=rfl
def S7 (hp:Hp) (f:Nat->Option Nat) (r:List Nat) (k:Nat) (acc:Hp) (q:Option Obj):Hp:=match q with | some o=>kG hp f r (k+1) ((k,lC f o)::acc) | none=>kG hp f r (k+1) acc
def akw (hp:Hp) (s:List Nat) (k:Nat) (acc:Hp):kG hp (pos s) [] k acc=acc:=rfl
def aiX (hp:Hp) (s:List Nat) (id:Nat) (r:List Nat) (k:Nat) (acc:Hp):kG hp (pos s) (id::r) k acc=S7 hp (pos s) r k acc (ap hp id):=by
 simp only [kG,S7];cases ap hp id<;>rfl
def arl (hp:Hp) (s r:List Nat) (k:Nat) (acc:Hp) (o:Obj):S7 hp (pos s) r k acc (some o)=kG hp (pos s) r (k+1) ((k,lC (pos s) o)::acc):=rfl
def arm (f:Nat->Option Nat) (rw ex:Bool) (sz:Nat) (cs:List AV):lC f (.cells rw true ex sz cs)= .cells rw true ex sz cs:=rfl
def arn (f:Nat->Option Nat) (rw ex:Bool) (sz:Nat) (cs:List AV):lC f (.cells rw false ex sz cs)= .cells rw false ex sz (fG f cs):=rfl
def ao8 (f:Nat->Option Nat) (tm:Env) (ps:List Nat) (a b:VC) (st:Nat) (pe:rq):lC f (.lp tm ps a b st pe)= .lp (kM f tm) ps a b st pe:=rfl
def ao9 (tm:Env) (hp:Hp) (seen:List Nat):S6 tm hp seen=⟨kM (pos seen) tm,kG hp (pos seen) seen 0 [],seen.length,0⟩:=rfl
attribute [go_sem] akn aiU amu ako amv akp amw akq aiV amx amy aoV arf amz akr aiW aoW amA arh ari arj
 amB amC aks aoX aoY amD aoZ amE amF akt ao0 amG ao1 amH ao2 amI aku ao3 ao4 ark ao5 amJ akv ao6 ao7
 akw aiX arl arm arn ao8 ao9 yv yF
end
section
open Go (IntKind)
section
variable {P:aK} {L:Lib}
def amK {α:Type} {p:α->Bool} {l:List α} {i:Nat} (h:i<l.length):(l.drop i).any p=(p l[i]||(l.drop (i+1)).any p):=by
 rw [yO h,yaY]
def aus (h:Has P L 132 IN) {v:AV} {l:List Int} (hv:bq v l) (hl:l.length<=1000000) {g:Nat} {cap:List AV} {p:Int->Bool} (hc:aJ cap=true)
  (hz:∀x hp,cN deep hp (aa x::cap)=some (aa x::cap,hp)) (hg:∀x,ae P L g (aa x::cap) (.bool (p x))):∃n:Int,ae P L 132 [v,.fn (.f g) [] cap] (aa n)/\decide (0<=n)=l.any p:=by
 have OX:aS (.fn (.f g) [] cap)=true:=by simp [aS,aJ,hc]
 simp only [ae,deep] at hg hz;have key:=Hy (P:=P) (L:=L) (live:=[0,1,7,8]) (a:=L9)
  (I:=fun k s=>∃tm ct i,s=⟨tm,[],ct,0⟩/\af tm 0=v/\af tm 1= .fn (.f g) [] cap/\af tm 7=aa l.length/\af tm 8=aa (i:Nat)/\i+k=l.length/\(l.drop i).any p=l.any p)
  (Q:=fun ex s=>∃tm,s=⟨tm,[],0,0⟩/\((∃n:Int,ex= .ret/\af tm 4=aa n/\0<=n/\l.any p=true)\/(ex= .exit 0/\l.any p=false))) ?_ l.length
 ·simp only [ae];rw [av h];simp only [go_sem,ya,IN,hv.len];generalize hq:D P L (.loop [0,1,7,8] L9) _=q;obtain ⟨ex,s,rfl,tm,rfl,h2⟩:=cd hq key ⟨_,_,0,rfl,rfl,rfl,rfl,rfl,by omega,rfl⟩;rcases h2 with ⟨n,rfl,h2,h3,h4⟩ | ⟨rfl,h2⟩
  ·exact ⟨n,by simp only [go_sem,h2],by rw [h4];simpa using h3⟩
  ·exact ⟨-1,by simp only [go_sem],by rw [h2];decide⟩
 ·rintro k s ⟨tm,ct,i,rfl,h0,h1,h7,h8,hk,hf⟩;rw [KE (by simp only [go_sem,h0,h1,h7,h8,hv.pu,OX])];simp only [go_sem,ya,h0,h1,h7,h8,L9];by_cases hi:i<l.length
  ·have cz:(i:Int)<l.length:=by omega
   rw [amK hi] at hf
   cases ia:p l[i] with
   | false=>
    left
    simp only [go_sem,ya,cz,hv.bj hi,hz,hg,ia];refine ⟨_,k-1,rfl,by omega,_,_,i+1,rfl,?_⟩;rw [wrap64 (by omega) (by omega)];rw [ia,vD] at hf;simp only [go_sem,ya];exact ⟨trivial,trivial,trivial,rfl,by omega,hf⟩
   | true=>
    right
    simp only [go_sem,ya,cz,hv.bj hi,hz,hg,ia];refine ⟨_,_,rfl,by simp,_,rfl,.inl ⟨i,rfl,?_,by omega,?_⟩⟩
    ·simp only [go_sem]
    ·rw [<-hf,ia,Bool.true_or]
  ·right
   have cz:¬(i:Int)<l.length:=by omega
   simp only [go_sem,cz];refine ⟨_,_,rfl,by simp,_,rfl,.inr ⟨rfl,?_⟩⟩;rw [<-hf,xj (by omega)];rfl
def s95 (h:Has P L 95 OG) (S8:Has P L 132 IN) {v:AV} {l:List Int} (hv:bq v l) (hl:l.length<=1000000) {g:Nat} {cap:List AV} {p:Int->Bool} (hc:aJ cap=true)
  (hz:∀x hp,cN deep hp (aa x::cap)=some (aa x::cap,hp)) (hg:∀x,ae P L g (aa x::cap) (.bool (p x)))
  (iz:∀n hp,freeze (n+500) hp (.fn (.f g) [] cap)=some (.fn (.f g) [] cap,hp)):ae P L 95 [v,.fn (.f g) [] cap] (.bool (l.any p)):=by
 obtain ⟨n,h1,h2⟩:=aus S8 hv hl hc hz hg;unfold ae at h1 ⊢;rw [av h];have aut:∀hp,freeze 998 hp (.fn (.f g) [] cap)=some (.fn (.f g) [] cap,hp):=fun hp=>iz 498 hp
 simp only [go_sem,ya,OG,hv.ai,aut,h1,h2]
def s94 (h:Has P L 94 Fs) {m:Int} (hm:0<=m) (fV:m<=1000000) (x:Int):ae P L 94 [aa x,.aF [aa m]] (.bool (decide (x< -m\/m<x))):=by
 unfold ae;rw [av h];by_cases h1:x< -m
 ·simp only [go_sem,ya,Fs,Lu,wrap64 (n:=0-m) (by omega) (by omega),show x<0-m by omega,h1,true_or]
 ·by_cases h2:m<x
  ·simp only [go_sem,ya,Fs,Lu,wrap64 (n:=0-m) (by omega) (by omega),show ¬x<0-m by omega,h1,h2,or_true]
  ·simp only [go_sem,ya,Fs,Lu,wrap64 (n:=0-m) (by omega) (by omega),show ¬x<0-m by omega,h1,h2,or_self]
def amL (m:Int) (l:List Int):l.any (fun x=>decide (x< -m\/m<x))=df (-m) m l:=by
 induction l with
 | nil=>rfl
 | cons a r ih=>
  simp only [yaY,df,ih]
  grind
structure Sq (P:aK) (L:Lib):Prop where
 Vi:Has P L 32 UP
 fm:Has P L 31 Ab
 nj:Has P L 33 JR
 h94:Has P L 94 Fs
 h95:Has P L 95 OG
 S8:Has P L 132 IN
 h4:Has P L 4 c4
 h9:Has P L 9 c9
def Vj (h:Sq P L) {v:AV} {s:List (List Int)} (hv:cK v s) (hl:s.length<=1000000) (hr:∀i (hi:i<s.length),s[i].length<=1000000) {m:Int} (hm:0<=m) (fV:m<=1000000):
  ae P L 32 [v,aa m] (aa (eR s.length (-m) m s)):=by
 have key:=cC (P:=P) (L:=L) (live:=[0,3,9,10,11]) (a:=Mv)
  (I:=fun k st=>∃(i:Nat) (rw:Bool),st=⟨[(0,v),(3,.ptr 0 0),(9,v),(10,aa s.length),(11,aa i)],[(0,.cells rw true true 1 [aa m])],1,0⟩/\i+k=s.length/\eR s.length (-m) m (s.drop i)=eR s.length (-m) m s)
  (Q:=fun ex st=>∃tm hp ct,st=⟨tm,hp,ct,0⟩/\((ex= .ret/\af tm 4=aa (eR s.length (-m) m s))\/(ex= .exit 0/\eR s.length (-m) m s=0))) ?_
 ·unfold ae;rw [av h.Vi];simp only [go_sem,ya,yb,UP,hv.len];generalize hq:D P L (.loop [0,3,9,10,11] Mv) _=q;obtain ⟨ex,st,rfl,tm,hp,ct,rfl,h2⟩:=cd hq (key s.length) ⟨0,true,by simp only [go_sem,ya,yb,aD,aM hv.pu,aQ _ hv.pu]<;>rfl,by omega,rfl⟩
  rcases h2 with ⟨rfl,h2⟩ | ⟨rfl,h2⟩
  ·simp only [go_sem,h2]
  ·rw [h2];simp only [go_sem,aD]
 ·rintro k st ⟨i,rw,rfl,hk,hf⟩;simp only [go_sem,ya,Mv];by_cases hi:i<s.length
  ·have cz:(i:Int)<s.length:=by omega
   rw [X4 hi] at hf;obtain ⟨r,rest,cw,fh⟩:=hv.bj hi;have hc:ae P L 95 [r,.fn (.f 94) [] [.aF [aa m]]] (.bool (df (-m) m s[i])):=by
    rw [<-amL];exact s95 h.h95 h.S8 cw (hr i hi) rfl (fun x hp=>by simp only [go_sem]) (fun x=>s94 h.h94 hm fV x) (fun n hp=>by simp only [go_sem])
   have iC:∀a b:Int,ae P L 33 [.aE true 2 [.int .i64 a,.int .i64 b]] (aa (bm [a,b])):=fun a b=>qD h.nj (fN true [a,b]) (by simp)
   unfold ae at hc iC;by_cases h1:s[i].length=s.length
   ·have BC:(s[i].length:Int)=s.length:=by omega
    simp only [h1,tB,wO,yR] at hf
    cases h2:df (-m) m s[i] with
    | false=>
     left
     simp only [h2,yC,yR] at hf;cases rw<;>simp only [go_sem,ya,yb,yy,yg,yi,cz,fh,hc,BC,h2,mG h.fm,iC,cw.len,cw.ai,hv.len,yC,yR,bm,y7]
     all_goals
      refine ⟨_,k-1,rfl,by omega,i+1,false,?_,by omega,hf⟩;rw [wrap64 (by omega) (by omega)];simp only [go_sem,ya,yb,aD,aM hv.pu,aQ _ hv.pu];rfl
    | true=>
     right
     simp only [h2,y7] at hf;cases rw<;>simp only [go_sem,ya,yb,yy,yg,yi,cz,fh,hc,BC,h2,mG h.fm,iC,cw.len,cw.ai,hv.len,yC,yR,bm,y7,tk]
     all_goals
      refine ⟨_,_,rfl,by simp,_,_,_,rfl,.inl ⟨rfl,?_⟩⟩;simp only [go_sem,hf]
   ·right
    have BC:¬(s[i].length:Int)=s.length:=by omega
    simp only [h1,tB,td,y7] at hf;cases h2:df (-m) m s[i]<;>cases rw<;>simp only [go_sem,ya,yb,yy,yg,yi,cz,fh,hc,BC,h2,mG h.fm,iC,cw.len,cw.ai,hv.len,yC,yR,bm,y7,tk]
    all_goals
     refine ⟨_,_,rfl,by simp,_,_,_,rfl,.inl ⟨rfl,?_⟩⟩;simp only [go_sem,hf]
  ·right
   have cz:¬(i:Int)<s.length:=by omega
   simp only [go_sem,cz];refine ⟨_,_,rfl,by simp,_,_,_,rfl,.inr ⟨rfl,?_⟩⟩;rw [<-hf,xj (by omega)];rfl
end
end
section
open Go (IntKind)
section
variable {P:aK} {L:Lib}
def s59 (h:Has P L 59 Fp) {v w:AV} {l m:List Int} (hv:bq v l) (hw:bq w m) (hl:l.length<=1000000) (he:l=m):ae P L 59 [v,w] (.bool true):=by
 subst he;have key:=cC (P:=P) (L:=L) (live:=[0,1,5]) (a:=Mz)
  (I:=fun k st=>∃i:Nat,st=⟨[(0,v),(1,w),(5,aa i)],[],0,0⟩/\i+k=l.length)
  (Q:=fun ex st=>∃tm ct,st=⟨tm,[],ct,0⟩/\ex= .exit 0) ?_
 ·unfold ae;rw [av h];simp only [go_sem,ya,Fp,hv.len,hw.len];generalize hq:D P L (.loop [0,1,5] Mz) _=q;obtain ⟨ex,st,rfl,tm,ct,rfl,rfl⟩:=cd hq (key l.length) ⟨0,by simp only [go_sem,ya,aD,aM hv.pu,aQ _ hv.pu,aM hw.pu,aQ _ hw.pu]<;>rfl,by omega⟩
  simp only [go_sem]
 ·rintro k st ⟨i,rfl,hk⟩;simp only [go_sem,ya,Mz,hv.len];by_cases hi:i<l.length
  ·have cz:(i:Int)<l.length:=by omega
   left
   simp only [go_sem,ya,cz,hv.bj hi,hw.bj hi];refine ⟨_,k-1,rfl,by omega,i+1,?_,by omega⟩;rw [wrap64 (by omega) (by omega)];simp only [go_sem,ya,aD,aM hv.pu,aQ _ hv.pu,aM hw.pu,aQ _ hw.pu]<;>rfl
  ·right
   simp only [go_sem,show ¬(i:Int)<l.length by omega];exact ⟨_,_,rfl,by simp,_,_,rfl,rfl⟩
def s21 (h:Has P L 21 JQ) (BN:Has P L 59 Fp) {v w:AV} {s t:List (List Int)} (hv:cK v s) (hw:cK w t) (hl:s.length<=1000000) (hr:∀i (hi:i<s.length),s[i].length<=1000000) (he:s=t):ae P L 21 [v,w] (.bool true):=by
 subst he;have key:=cC (P:=P) (L:=L) (live:=[0,1,5]) (a:=Mu)
  (I:=fun k st=>∃i:Nat,st=⟨[(0,v),(1,w),(5,aa i)],[],0,0⟩/\i+k=s.length)
  (Q:=fun ex st=>∃tm ct,st=⟨tm,[],ct,0⟩/\ex= .exit 0) ?_
 ·unfold ae;rw [av h];simp only [go_sem,ya,JQ,hv.len,hw.len];generalize hq:D P L (.loop [0,1,5] Mu) _=q;obtain ⟨ex,st,rfl,tm,ct,rfl,rfl⟩:=cd hq (key s.length) ⟨0,by simp only [go_sem,ya,aD,aM hv.pu,aQ _ hv.pu,aM hw.pu,aQ _ hw.pu]<;>rfl,by omega⟩
  simp only [go_sem]
 ·rintro k st ⟨i,rfl,hk⟩;simp only [go_sem,ya,Mu,hv.len];by_cases hi:i<s.length
  ·have cz:(i:Int)<s.length:=by omega
   obtain ⟨r,rest,cw,fh⟩:=hv.bj hi;obtain ⟨q,Sh,eG,nk⟩:=hw.bj hi;have hc:=s59 BN cw eG (hr i hi) rfl;left
   simp only [go_sem,ya,cz,fh,nk,cw.ai,eG.ai,hc];refine ⟨_,k-1,rfl,by omega,i+1,?_,by omega⟩;rw [wrap64 (by omega) (by omega)];simp only [go_sem,ya,aD,aM hv.pu,aQ _ hv.pu,aM hw.pu,aQ _ hw.pu]<;>rfl
  ·right
   simp only [go_sem,show ¬(i:Int)<s.length by omega];exact ⟨_,_,rfl,by simp,_,_,rfl,rfl⟩
def s4 (h:Sq P L) {v:AV} {s:List (List Int)} (hv:cK v s) (hl:s.length<=1000000) (hr:∀i (hi:i<s.length),s[i].length<=1000000):ae P L 4 [v] (aa (fo s)):=by
 have hc:=Vj h hv hl hr (m:=1000) (by decide) (by decide);have hf:∀a b c:Int,ae P L 33 [.aE true 3 [.int .i64 a,.int .i64 b,.int .i64 c]] (aa (bm [a,b,c])):=fun a b c=>qD h.nj (fN true [a,b,c]) (by simp)
 unfold ae at hc hf ⊢;rw [av h.h4];simp only [go_sem,ya,yb,yy,yg,yi,c4,hv.len,hv.ai,hc,mG h.fm,hf];unfold fo;by_cases h1:s.length=0
 ·simp [h1,bm]
 ·by_cases h2:16<s.length
  ·simp [h1,h2,bm,show (16:Int)<s.length by omega]
  ·simp only [h1,h2,bm,show ¬(16:Int)<s.length by omega,show ¬(s.length:Int)=0 by omega,yp,yC,yR,y7]
   split<;>simp_all
end
end
end VE
