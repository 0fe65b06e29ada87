import Derived.Attr
import Derived.Test.YtflgmingejdfnaaGreatDoorUao
import Derived.Test.YtflgmingejdfnaaGreatDoorUak
set_option linter.all false
set_option maxRecDepth 100000
open Bool renaming and_eq_true→yg,and_true→uD,false_eq_true→yA,false_or→vI,true_and→xv
open Go renaming IntKind→yU
open Int renaming reduceEq→vn
open List renaming any_cons→ybn,append_nil→wg,drop_eq_getElem_cons→yT,drop_eq_nil_of_le→xh,drop_zero→yj,length_cons→yy,length_nil→yG,replicate→yz
open Nat renaming beq→yx,beq_refl→xq,ble→yE,ble_eq_true_of_le→yu,blt→yJ,eq_of_beq_eq_true→yo,le_refl→yB,mul_one→yi,reduceAdd→yb,reduceEqDiff→ya,reduceLT→yt,reduceLeDiff→ye,zero_add→yd
namespace VE
section
open Go (IntKind BinOp UnOp)
section
variable {P:aI} {L:Lib}
structure Has (P:aI) (L:Lib) (n:Nat) (F:aJ):Prop where
 pure:L.pure n=none
 heap:L.heap n=none
 code:P n=some F
noncomputable def qc (P:aI) (L:Lib) (r:Option (Ex×St)) (b:VC):Option (Ex×St):=match r with | some (.normal,s)=>D P L b s | r=>r
def AK (id:Nat) (r:Option (Ex×St)):Option (Ex×St):=match r with | some (.exit j,s)=>bif yx j id then some (.normal,s) else some (.exit j,s) | r=>r
noncomputable def Kz (P:aI) (L:Lib) (live:List Nat) (a:VC) (r:Option (Ex×St)):Option (Ex×St):=match r with | some (.normal,s)=>D P L (.loop live a) s | r=>r
def norm (r:Option St):Option (Ex×St):=match r with | some s=>some (.normal,s) | none=>none
noncomputable def OU (P:aI) (L:Lib) (v:AV) (a b:VC) (s:St):Option (Ex×St):=match v with | .bool t=>bif t then D P L a s else D P L b s | _=>none
def atg (s:St):D P L .skip s=some (.normal,s):=by rw [mc];rfl
def ath (id:Nat) (s:St):D P L (.exit id) s=some (.exit id,s):=by rw [mc];rfl
def avY (s:St):D P L .ret s=some (.ret,s):=by rw [mc];rfl
def K4 (live:List Nat) (s:St):D P L (.kp live) s=some (.normal,bA live s):=by rw [mc];rfl
def axn (ts:List Nat) (s:St):D P L (.fz ts) s=norm (pX ts s):=by rw [mc];rfl
def UX (ops:List br) (s:St):D P L (.aT ops) s=norm (ej P L (D P L) ops s):=by rw [mc];rfl
def kE (a b:VC) (s:St):D P L (.seq a b) s=qc P L (D P L a s) b:=by
 rw [mc,mc a];simp only [bL,qc]
 cases bL P L (D P L) a s with
 | none=>rfl
 | some q=>
  obtain ⟨e,s1⟩:=q
  cases e with
  | normal=>exact (mc b s1).symm
  | ret=>rfl
  | exit id=>rfl
def ati (x:X) (a b:VC) (s:St):D P L (.cond x a b) s=OU P L (aC s.tm x) a b s:=by
 rw [mc];simp only [bL,OU]
 cases aC s.tm x with
 | bool t=>
  cases t with
  | true=>exact (mc a s).symm
  | false=>exact (mc b s).symm
 | _=>rfl
def UY (id:Nat) (a:VC) (s:St):D P L (.aP id a) s=AK id (D P L a s):=by
 rw [mc,mc a];simp only [bL,AK]
 cases bL P L (D P L) a s with
 | none=>rfl
 | some q=>obtain ⟨e,s1⟩:=q;cases e<;>rfl
def Ot (live:List Nat) (a:VC) (s:St):D P L (.loop live a) s=Kz P L live a (D P L a (bA live s)):=by
 rw [mc,mc a];simp only [bL,Kz]
 cases bL P L (D P L) a (bA live s) with
 | none=>rfl
 | some q=>obtain ⟨e,s1⟩:=q;cases e<;>rfl
def gG (s:St) (b:VC):qc P L (some (.normal,s)) b=D P L b s:=rfl
def aqS (s:St) (b:VC):qc P L (some (.ret,s)) b=some (.ret,s):=rfl
def aqT (id:Nat) (s:St) (b:VC):qc P L (some (.exit id,s)) b=some (.exit id,s):=rfl
def adZ (live:List Nat) (a:VC) (s:St):Kz P L live a (some (.normal,s))=D P L (.loop live a) s:=rfl
def aqU (live:List Nat) (a:VC) (s:St):Kz P L live a (some (.ret,s))=some (.ret,s):=rfl
def aqV (live:List Nat) (a:VC) (id:Nat) (s:St):Kz P L live a (some (.exit id,s))=some (.exit id,s):=rfl
def TN (id:Nat) (s:St):AK id (some (.normal,s))=some (.normal,s):=rfl
def aqW (id:Nat) (s:St):AK id (some (.ret,s))=some (.ret,s):=rfl
def JJ (id:Nat) (s:St):AK id (some (.exit id,s))=some (.normal,s):=by simp only [AK,xq,ym]
def aqX {id j:Nat} (s:St) (h:j≠id):AK id (some (.exit j,s))=some (.exit j,s):=by
 have:yx j id=false:=by
  cases hq:yx j id with
  | false=>rfl
  | true=>exact absurd (yo hq) h
 simp only [AK,this,yD]
def afz (s:St):norm (some s)=some (.normal,s):=rfl
def atj:norm none=none:=rfl
def aqY (a b:VC) (s:St):OU P L (.bool true) a b s=D P L a s:=rfl
def aqZ (a b:VC) (s:St):OU P L (.bool false) a b s=D P L b s:=rfl
noncomputable def UZ (P:aI) (L:Lib) (d:Option Nat) (r:List br) (tm:Env) (base:Nat) (q:gM):Option St:=
 match q with | some (v,hp,ct)=>ej P L (D P L) r ⟨put d v tm,hp,ct,base⟩ | none=>none
noncomputable def DV (P:aI) (L:Lib) (v:AV) (b:Bool) (d:Option Nat) (o:Op) (r:List br) (s:St):Option St:=
 match v with
 | .bool c=>bif c==b then ej P L (D P L) (⟨d,none,o⟩::r) s else ej P L (D P L) r ⟨put d (.aw []) s.tm,s.hp,s.ct,s.base⟩
 | .aw []=>ej P L (D P L) r ⟨put d (.aw []) s.tm,s.hp,s.ct,s.base⟩
 | _=>none
def ad0 (s:St):ej P L (D P L) [] s=some s:=rfl
def aoF (d:Option Nat) (o:Op) (r:List br) (tm:Env) (hp:Hp) (ct base:Nat):
  ej P L (D P L) (⟨d,none,o⟩::r) ⟨tm,hp,ct,base⟩=UZ P L d r tm base (bC P L (D P L) tm hp ct o):=by
 simp only [ej,UZ]
 grind
def amC (d:Option Nat) (t:Nat) (b:Bool) (o:Op) (r:List br) (tm:Env) (hp:Hp) (ct base:Nat):
  ej P L (D P L) (⟨d,some (t,b),o⟩::r) ⟨tm,hp,ct,base⟩=DV P L (ab tm t) b d o r ⟨tm,hp,ct,base⟩:=by
 simp only [ej,DV]
 cases ab tm t with
 | bool c=>
  simp only
  cases hc:(c==b) with
  | true=>simp only [ym]
  | false=>simp only [yD]
 | aw vs=>cases vs<;>rfl
 | _=>rfl
def ad1 (d:Option Nat) (r:List br) (tm:Env) (base:Nat) (v:AV) (hp:Hp) (ct:Nat):UZ P L d r tm base (some (v,hp,ct))=ej P L (D P L) r ⟨put d v tm,hp,ct,base⟩:=rfl
def avZ (i:Nat) (v:AV) (tm:Env):put (some i) v tm=(i,v)::tm:=rfl
def agQ (v:AV) (tm:Env):put none v tm=tm:=rfl
def aoG (d:Option Nat) (o:Op) (r:List br) (s:St):DV P L (.bool true) true d o r s=ej P L (D P L) (⟨d,none,o⟩::r) s:=rfl
def aoH (d:Option Nat) (o:Op) (r:List br) (s:St):DV P L (.bool false) false d o r s=ej P L (D P L) (⟨d,none,o⟩::r) s:=rfl
def aoI (d:Option Nat) (o:Op) (r:List br) (tm:Env) (hp:Hp) (ct base:Nat):DV P L (.bool true) false d o r ⟨tm,hp,ct,base⟩=ej P L (D P L) r ⟨put d (.aw []) tm,hp,ct,base⟩:=rfl
def aoJ (d:Option Nat) (o:Op) (r:List br) (tm:Env) (hp:Hp) (ct base:Nat):DV P L (.bool false) true d o r ⟨tm,hp,ct,base⟩=ej P L (D P L) r ⟨put d (.aw []) tm,hp,ct,base⟩:=rfl
def aq0 (b:Bool) (d:Option Nat) (o:Op) (r:List br) (tm:Env) (hp:Hp) (ct base:Nat):DV P L (.aw []) b d o r ⟨tm,hp,ct,base⟩=ej P L (D P L) r ⟨put d (.aw []) tm,hp,ct,base⟩:=rfl
def cP {j i:Nat} (h:j≠i):yx j i=false:=by
 cases hq:yx j i with
 | false=>rfl
 | true=>exact absurd (yo hq) h
def atk (tm:Env) (i:Nat):aC tm (.t i)=ab tm i:=rfl
def atl (tm:Env) (v:AV):aC tm (.c v)=v:=rfl
def amD (tm:Env):dS tm []=[]:=rfl
def alo (tm:Env) (x:X) (r:List X):dS tm (x::r)=aC tm x::dS tm r:=rfl
def aoK (i:Nat) (v:AV) (r:Env):ab ((i,v)::r) i=v:=by simp only [ab,xq,ym]
def amE {j i:Nat} (v:AV) (r:Env) (h:j≠i):ab ((j,v)::r) i=ab r i:=by simp only [ab,cP h,yD]
def Jy (i:Nat) (o:Obj) (r:Hp):ap ((i,o)::r) i=some o:=by simp only [ap,xq,ym]
def amF {j i:Nat} (o:Obj) (r:Hp) (h:j≠i):ap ((j,o)::r) i=ap r i:=by simp only [ap,cP h,yD]
def acj (i:Nat) (o u:Obj) (r:Hp):bf ((i,o)::r) i u=(i,u)::r:=by simp only [bf,xq,ym]
def amG {j i:Nat} (o u:Obj) (r:Hp) (h:j≠i):bf ((j,o)::r) i u=(j,o)::bf r i u:=by simp only [bf,cP h,yD]
def aoL (i:Nat):dL [] i=[]:=rfl
def aoM (i:Nat) (o:Obj) (r:Hp):dL ((i,o)::r) i=dL r i:=by simp only [dL,xq,ym]
def amH {j i:Nat} (o:Obj) (r:Hp) (h:j≠i):dL ((j,o)::r) i=(j,o)::dL r i:=by simp only [dL,cP h,yD]
def rd (hp:Hp) (ct:Nat) (q:Option AV):gM:=match q with | some v=>some (v,hp,ct) | none=>none
def mk (hp:Hp) (ct:Nat) (q:Option (AV×Obj)):gM:=match q with | some (v,b)=>some (v,(ct,b)::hp,ct+1) | none=>none
def axo (hp:Hp) (ct:Nat) (v:AV):rd hp ct (some v)=some (v,hp,ct):=rfl
def axp (hp:Hp) (ct:Nat) (v:AV) (b:Obj):mk hp ct (some (v,b))=some (v,(ct,b)::hp,ct+1):=rfl
def U1 (c a b:AV):Option AV:=match c with | .bool t=>some (bif t then a else b) | _=>none
def Mc (k:Nat->Option AV) (n:Option Nat):Option AV:=match n with | some i=>k i | none=>none
def agR (r:Option (List AV)):Option AV:=match r with | some cs=>some (.agg cs) | none=>none
def K5 (ne:Bool) (r:Option Bool):Option AV:=match r with | some b=>some (.bool (ne !=b)) | none=>none
def axq:AV->Option AV
 | .ptr id o=>some (.ptr id o)
 | .bi cs=>some (.bi cs)
 | .fn f a b=>some (.fn f a b)
 | _=>none
def K6 (i:Nat):AV->Option AV | .aw vs=>vs[i]? | _=>none
section
variable {f:cT} {tm:Env} {hp:Hp} {ct:Nat}
def atm (x:X):bC P L f tm hp ct (.cm x)=some (aC tm x,hp,ct):=rfl
def aq1 (c a b:X):bC P L f tm hp ct (.pick c a b)=rd hp ct (U1 (aC tm c) (aC tm a) (aC tm b)):=by
 rfl
def aoN (z:List AV) (ps:List (Nat×Nat×X)):bC P L f tm hp ct (.eB z ps)=rd hp ct (agR (fill tm z ps)):=by
 rfl
def av0 (sz:Nat) (ag:Bool) (x:X):bC P L f tm hp ct (.ld sz ag x)=rd hp ct (jx hp sz ag (aC tm x)):=rfl
def aq2 (x:X):bC P L f tm hp ct (.KD x)=rd hp ct (axq (aC tm x)):=by
 rfl
def atn (op:BinOp) (x y:X):bC P L f tm hp ct (.bin op x y)=rd hp ct (binOp op (aC tm x) (aC tm y)):=rfl
def av1 (ne:Bool) (k:Ql) (x y:X):bC P L f tm hp ct (.eq ne k x y)=rd hp ct (K5 ne (iV k (aC tm x) (aC tm y))):=by
 rfl
def av2 (op:UnOp) (x:X):bC P L f tm hp ct (.un op x)=rd hp ct (unOp op (aC tm x)):=rfl
def av3 (k:Conv) (x:X):bC P L f tm hp ct (.cv k x)=rd hp ct (oP k (aC tm x)):=rfl
def ato (g:Fr) (a b:List X):bC P L f tm hp ct (.oe g a b)=some (.fn g (dS tm a) (dS tm b),hp,ct):=rfl
def atp (k:Cut) (x:X) (lo hi:Option X):bC P L f tm hp ct (.eJ k x lo hi)=rd hp ct (fT hp k (aC tm x) tm lo hi):=rfl
def atq (k:Nat) (x:X):bC P L f tm hp ct (.off k x)=rd hp ct (Gm k (aC tm x)):=rfl
def atr (o sz:Nat) (ag:Bool) (x:X):bC P L f tm hp ct (.Lz o sz ag x)=rd hp ct (OB o sz ag (aC tm x)):=rfl
def ats (sz:Nat) (x i:X):bC P L f tm hp ct (.aY sz x i)=rd hp ct (Mc (fun j=>iF sz j (aC tm x)) (eC (aC tm i))):=by
 rfl
def att (n sz:Nat) (x i:X):bC P L f tm hp ct (.He n sz x i)=rd hp ct (Mc (fun j=>OC n sz j (aC tm x)) (eC (aC tm i))):=by
 rfl
def atu (x i:X):bC P L f tm hp ct (.mj x i)=rd hp ct (Mc (fun j=>nX j (aC tm x)) (eC (aC tm i))):=by
 rfl
def atv (n sz:Nat) (ag:Bool) (x i:X):bC P L f tm hp ct (.Bb n sz ag x i)=rd hp ct (Mc (fun j=>Km n sz ag j (aC tm x)) (eC (aC tm i))):=by
 rfl
def atw (i:Nat) (x:X):bC P L f tm hp ct (.ext i x)=rd hp ct (K6 i (aC tm x)):=by
 rfl
def atx (k:Nat) (x:X):bC P L f tm hp ct (.len k x)=rd hp ct (im hp k (aC tm x)):=rfl
def aty (sz:Nat) (x:X):bC P L f tm hp ct (.box sz x)=mk hp ct (dt tm hp ct (.box sz x)):=rfl
def aq3 (n sz:Nat) (z:List AV) (ps:List (Nat×Nat×X)):bC P L f tm hp ct (.dI n sz z ps)=mk hp ct (dt tm hp ct (.dI n sz z ps)):=rfl
def atz (sz by':Nat) (z:List AV) (l c:X):bC P L f tm hp ct (.iw sz by' z l c)=mk hp ct (dt tm hp ct (.iw sz by' z l c)):=rfl
def atA:bC P L f tm hp ct .Ba=some (.map ct,(ct,.mp true [] [])::hp,ct+1):=rfl
def atB (x:X):bC P L f tm hp ct (.qG x)=mk hp ct (dt tm hp ct (.qG x)):=rfl
def av4 (sz:Nat) (x v:X):bC P L f tm hp ct (.st sz x v)=dG tm hp ct (.st sz x v):=rfl
def atD (sz by':Nat) (s x:X):bC P L f tm hp ct (.dV sz by' s x)=dG tm hp ct (.dV sz by' s x):=rfl
def OV (hp:Hp) (ct:Nat) (r:Option AV):gM:=match r with | some v=>some (shut v,hp,ct) | none=>none
def PV (hp:Hp) (ct:Nat) (r:Option AV):gM:=match r with | some v=>some (own hp ct v) | none=>none
def U2 (P:aI) (L:Lib) (f:cT) (ct n:Nat) (q:Option (List AV×Hp)):gM:=match q with | some (vals,hp)=>OV hp ct (bY P L f n vals) | none=>none
def U3 (P:aI) (L:Lib) (f:cT) (ct n:Nat) (q:Option (List AV×Hp)):gM:=match q with | some (vals,hp)=>PV hp ct (bY P L f n vals) | none=>none
def U4 (P:aI) (L:Lib) (f:cT) (hp:Hp) (ct:Nat) (fv:AV) (xs:List AV):gM:=dR P L f hp ct .pure fv xs
def U5 (P:aI) (L:Lib) (f:cT) (hp:Hp) (ct:Nat) (fv:AV) (xs:List AV):gM:=dR P L f hp ct .own fv xs
def aoO (g:X) (xs:List X):bC P L f tm hp ct (.call .pure g xs)=U4 P L f hp ct (aC tm g) (dS tm xs):=rfl
def aoP (g:X) (xs:List X):bC P L f tm hp ct (.call .own g xs)=U5 P L f hp ct (aC tm g) (dS tm xs):=rfl
def aoQ (g:X) (xs:List X):bC P L f tm hp ct (.call .heap g xs)=dR P L f hp ct .heap (aC tm g) (dS tm xs):=rfl
def aq4 (n:Nat) (first cap xs:List AV):U4 P L f hp ct (.fn (.f n) first cap) xs=U2 P L f ct n (cW deep hp (first++(xs++cap))):=by
 simp only [U4,dR,U2,OV]
 cases cW deep hp (first++(xs++cap)) with
 | none=>rfl
 | some q=>cases bY P L f n q.1<;>rfl
def aq5 (n:Nat) (first cap xs:List AV):U5 P L f hp ct (.fn (.f n) first cap) xs=U3 P L f ct n (cW deep hp (first++(xs++cap))):=by
 simp only [U5,dR,U3,PV]
 cases cW deep hp (first++(xs++cap)) with
 | none=>rfl
 | some q=>cases bY P L f n q.1<;>rfl
def aq6 (n:Nat) (vals:List AV):U2 P L f ct n (some (vals,hp))=OV hp ct (bY P L f n vals):=rfl
def aq7 (n:Nat) (vals:List AV):U3 P L f ct n (some (vals,hp))=PV hp ct (bY P L f n vals):=rfl
def aq8 (v:AV):OV hp ct (some v)=some (shut v,hp,ct):=rfl
def atE (v:AV):PV hp ct (some v)=some (own hp ct v):=rfl
def PW (hp:Hp) (r:Option AV):Option AV:=match r with | some v=>result hp v | none=>none
def ia (rs:List RV) (q:Option (Ex×St)):Option AV:=
 match q with
 | some (.normal,s) | some (.ret,s)=>PW s.hp (gX s rs)
 | _=>none
def aq {n:Nat} {F:aJ} (h:Has P L n F) (vals:List AV):bY P L f n vals=ia F.dM (f F.body ⟨fM 0 vals,[],0,0⟩):=by
 simp only [bY,h.pure,h.code]
 cases hq:f F.body ⟨fM 0 vals,[],0,0⟩ with
 | none=>rfl
 | some q=>
  obtain ⟨e,s⟩:=q
  cases e with
  | normal=>rfl
  | ret=>rfl
  | exit id=>rfl
def atF (rs:List RV) (s:St):ia rs (some (.normal,s))=PW s.hp (gX s rs):=rfl
def afA (rs:List RV) (s:St):ia rs (some (.ret,s))=PW s.hp (gX s rs):=rfl
def afB (v:AV):PW hp (some v)=result hp v:=rfl
def GS (r:RV) (s:St):gX s [r]=results1 s r:=by
 simp only [gX,mw];cases results1 s r<;>rfl
def ahE (r:Option (List AV)):Option AV:=match r with | some vs=>some (.aw vs) | none=>none
def axr (r q:RV) (l:List RV) (s:St):gX s (r::q::l)=ahE (mw s (r::q::l)):=by
 simp only [gX,mw];cases results1 s r<;>cases results1 s q<;>cases mw s l<;>rfl
def agS (r:Option AV) (l:Option (List AV)):Option (List AV):=match r,l with | some v,some vs=>some (v::vs) | _,_=>none
def aoR (s:St):mw s []=some []:=rfl
def amI (r:RV) (l:List RV) (s:St):mw s (r::l)=agS (results1 s r) (mw s l):=rfl
def aq9 (v:AV) (vs:List AV):agS (some v) (some vs)=some (v::vs):=rfl
def atG (vs:List AV):ahE (some vs)=some (.aw vs):=rfl
def Gw (i:Nat) (s:St):results1 s (.t i)=some (ab s.tm i):=rfl
def av5 (a:AV):fM 0 [a]=[(0,a)]:=rfl
def agT (a b:AV):fM 0 [a,b]=[(0,a),(1,b)]:=rfl
def av6 (a b c:AV):fM 0 [a,b,c]=[(0,a),(1,b),(2,c)]:=rfl
def av7 (a b c d:AV):fM 0 [a,b,c,d]=[(0,a),(1,b),(2,c),(3,d)]:=rfl
def av8 (a b c d e:AV):fM 0 [a,b,c,d,e]=[(0,a),(1,b),(2,c),(3,d),(4,e)]:=rfl
def alp (k:yU) (n:Int):result hp (.int k n)=some (.int k n):=rfl
def akP (b:Bool):result hp (.bool b)=some (.bool b):=rfl
def alq (s:List Nat):result hp (.str s)=some (.str s):=rfl
def akQ:result hp .ae=some .ae:=rfl
def alr (e:Bool) (n:Nat) (cs:List AV):result hp (.aO e n cs)=some (.aO e n cs):=rfl
def shut_int (k:yU) (n:Int):shut (.int k n)= .int k n:=rfl
def shut_bool (b:Bool):shut (.bool b)= .bool b:=rfl
def aoS (s:List Nat):shut (.str s)= .str s:=rfl
def amJ:shut .ae= .ae:=rfl
def aoT (e:Bool) (n:Nat) (cs:List AV):shut (.aO e n cs)= .aO e n cs:=rfl
def aoU (e:Bool) (sz n:Nat) (cs:List AV):shut (.cR e sz n cs)= .aO e n cs:=rfl
def bB (cs:List AV):shut (.agg cs)= .agg cs:=rfl
def ara (g:Fr) (a b:List AV):shut (.fn g a b)= .fn g a b:=rfl
def DB (vs:List AV):shut (.aw vs)= .aw (D0 vs):=rfl
def amK:D0 []=[]:=rfl
def als (v:AV) (r:List AV):D0 (v::r)=bN v::D0 r:=rfl
def amL (k:yU) (n:Int):bN (.int k n)= .int k n:=rfl
def alt (b:Bool):bN (.bool b)= .bool b:=rfl
def amM (s:List Nat):bN (.str s)= .str s:=rfl
def alu:bN .ae= .ae:=rfl
def amN (e:Bool) (n:Nat) (cs:List AV):bN (.aO e n cs)= .aO e n cs:=rfl
def amO (e:Bool) (sz n:Nat) (cs:List AV):bN (.cR e sz n cs)= .aO e n cs:=rfl
def rh (cs:List AV):bN (.agg cs)= .agg cs:=rfl
def VO (n:Nat) (r:List AV) (q:Option (AV×Hp)):Option (List AV×Hp):=match q with | some (v,hp)=>(match cW n hp r with | some (vs,jV)=>some (v::vs,jV) | none=>none) | none=>none
def ahF (v:AV) (q:Option (List AV×Hp)):Option (List AV×Hp):=match q with | some (vs,hp)=>some (v::vs,hp) | none=>none
def aoV (n:Nat):cW (n+1) hp []=some ([],hp):=rfl
def abj (n:Nat) (v:AV) (r:List AV):cW (n+1) hp (v::r)=VO n r (freeze n hp v):=by
 simp only [cW,VO];cases freeze n hp v<;>rfl
def afC (n:Nat) (r:List AV) (v:AV):VO n r (some (v,hp))=ahF v (cW n hp r):=by
 rfl
def atH (v:AV) (vs:List AV):ahF v (some (vs,hp))=some (v::vs,hp):=rfl
def arb (n:Nat) (k:yU) (a:Int):freeze (n+1) hp (.int k a)=some (.int k a,hp):=rfl
def aoW (n:Nat) (b:Bool):freeze (n+1) hp (.bool b)=some (.bool b,hp):=rfl
def arc (n:Nat) (s:List Nat):freeze (n+1) hp (.str s)=some (.str s,hp):=rfl
def aoX (n:Nat):freeze (n+1) hp .ae=some (.ae,hp):=rfl
def ard (n:Nat) (e:Bool) (k:Nat) (cs:List AV):freeze (n+1) hp (.aO e k cs)=some (.aO e k cs,hp):=rfl
def aoY (n:Nat) (cs:List AV):freeze (n+1) hp (.bi cs)=some (.bi cs,hp):=rfl
end
end
section
variable {hp:Hp}
def atI (a b:AV):U1 (.bool true) a b=some a:=rfl
def atJ (a b:AV):U1 (.bool false) a b=some b:=rfl
def av9 (k:Nat->Option AV) (n:Nat):Mc k (some n)=k n:=rfl
def alv (k:yU) (n:Nat):eC (.int k (n:Int))=some n:=rfl
def atK (k:yU):eC (.int k 0)=some 0:=rfl
def atL (k:yU):eC (.int k 1)=some 1:=rfl
def atM (k:yU):eC (.int k 2)=some 2:=rfl
def atN (k:yU):eC (.int k 3)=some 3:=rfl
def atO (k:yU):eC (.int k 4)=some 4:=rfl
def atP (k:yU):eC (.int k 5)=some 5:=rfl
def atQ (k:yU):eC (.int k 6)=some 6:=rfl
def atS (k:yU):eC (.int k 7)=some 7:=rfl
def atT (k:yU):eC (.int k 8)=some 8:=rfl
def atU (k:yU):eC (.int k 9)=some 9:=rfl
def are (cs:List AV):agR (some cs)=some (.agg cs):=rfl
def ad2 (k:yU) (a b:Int):binOp .add (.int k a) (.int k b)=some (.int k (k.wrap (a+b))):=by simp [binOp,mB]
def N9 (k:yU) (a b:Int):binOp .sub (.int k a) (.int k b)=some (.int k (k.wrap (a-b))):=by simp [binOp,mB]
def ad3 (k:yU) (a b:Int):binOp .mul (.int k a) (.int k b)=some (.int k (k.wrap (a*b))):=by simp [binOp,mB]
def eU (k:yU) (a b:Int) (h:b≠0):binOp .quo (.int k a) (.int k b)=some (.int k (k.wrap (a.tdiv b))):=by simp [binOp,mB,h]
def dK (k:yU) (a b:Int) (h:b≠0):binOp .rem (.int k a) (.int k b)=some (.int k (a.tmod b)):=by simp [binOp,mB,h]
def arf (k:yU) (a b:Int):binOp .eql (.int k a) (.int k b)=some (.bool (decide (a=b))):=by
 simp [binOp,mB,intCmp,BEq.beq]
def arh (k:yU) (a b:Int):binOp .neq (.int k a) (.int k b)=some (.bool (!decide (a=b))):=by
 simp [binOp,mB,intCmp,bne,BEq.beq]
def ari (k:yU) (a b:Int):binOp .lss (.int k a) (.int k b)=some (.bool (decide (a<b))):=by simp [binOp,mB,intCmp]
def arj (k:yU) (a b:Int):binOp .leq (.int k a) (.int k b)=some (.bool (decide (a<=b))):=by simp [binOp,mB,intCmp]
def ark (k:yU) (a b:Int):binOp .gtr (.int k a) (.int k b)=some (.bool (decide (b<a))):=by simp [binOp,mB,intCmp]
def arl (k:yU) (a b:Int):binOp .geq (.int k a) (.int k b)=some (.bool (decide (b<=a))):=by simp [binOp,mB,intCmp]
def atV (k:yU) (a:Int):unOp .neg (.int k a)=some (.int k (k.wrap (0-a))):=rfl
def atW (b:Bool):unOp .not (.bool b)=some (.bool !b):=rfl
def aoZ:im hp 1 .ae=some (.int .i64 0):=rfl
def arm (e:Bool) (n:Nat) (cs:List AV):im hp 1 (.aO e n cs)=some (.int .i64 n):=rfl
def arn (id o n:Nat):im hp 1 (.ak id o n)=some (.int .i64 n):=rfl
def aro (s:List Nat):im hp 0 (.str s)=some (.int .i64 s.length):=rfl
def Oa {sz i n:Nat} (e:Bool) (cs:List AV) (h:i<n):iF sz i (.aO e n cs)=some (.bi (cs.drop (i*sz))):=by
 have hb:yJ i n=true:=yu h;simp only [iF]
 grind
def dH {sz i n:Nat} (id o:Nat) (h:i<n):iF sz i (.ak id o n)=some (.ptr id (o+i*sz)):=by
 have hb:yJ i n=true:=yu h;simp only [iF]
 grind
def NN (v:AV) (cs:List AV):jx hp 1 false (.bi (v::cs))=some v:=rfl
def Q3 (sz:Nat) (ag:Bool) (o:Nat) (q:Option Obj):Option AV:=match q with | some (.cells _ _ _ _ cs)=>eY sz ag (cs.drop o) | _=>none
def atX (sz:Nat) (ag:Bool) (id o:Nat):jx hp sz ag (.ptr id o)=Q3 sz ag o (ap hp id):=by
 rfl
def awa (sz:Nat) (ag:Bool) (o:Nat) (rw pu ex:Bool) (z:Nat) (cs:List AV):Q3 sz ag o (some (.cells rw pu ex z cs))=eY sz ag (cs.drop o):=rfl
def awb (sz:Nat) (v:AV) (cs:List AV):eY sz false (v::cs)=some v:=rfl
def axs (a:AV) (l:List AV):K6 0 (.aw (a::l))=some a:=rfl
def ext1 (a b:AV) (l:List AV):K6 1 (.aw (a::b::l))=some b:=rfl
def axt (a b c:AV) (l:List AV):K6 2 (.aw (a::b::c::l))=some c:=rfl
def axu (a b c d:AV) (l:List AV):K6 3 (.aw (a::b::c::d::l))=some d:=rfl
end
def AL:Env->Bool
 | []=>true
 | (_,v)::r=>aS v&&AL r
mutual
def az:∀{v:AV},aS v=true->refs v=[]
 | .int _ _,_ | .bool _,_ | .dP _ _,_ | .str _,_ | .lm,_ | .bi _,_ | .ae,_ | .aO _ _ _,_ | .iH,_ | .kF,_ | .jS _ _,_ | .undef,_=>rfl
 | .ptr _ _,h | .ak _ _ _,h | .map _,h | .it _,h | .cR _ _ _ _,h=>by simp [aS] at h
 | .fn (.y _) _ _,h=>by simp [aS] at h
 | .fn (.f _) first cap,h=>by
  simp only [aS,yg] at h;simp only [refs,Je h.1,Je h.2,wg]
 | .agg cs,h=>by simp only [aS] at h;simp only [refs,Je h]
 | .aw cs,h=>by simp only [aS] at h;simp only [refs,Je h]
def Je:∀{vs:List AV},aK vs=true->eV vs=[]
 | [],_=>rfl
 | v::r,h=>by
  simp only [aK,yg] at h;simp only [eV,az h.1,Je h.2,wg]
end
mutual
def aE (f:Nat->Option Nat):∀{v:AV},aS v=true->cE f v=v
 | .int _ _,_ | .bool _,_ | .dP _ _,_ | .str _,_ | .lm,_ | .bi _,_ | .ae,_ | .aO _ _ _,_ | .iH,_ | .kF,_ | .jS _ _,_ | .undef,_=>rfl
 | .ptr _ _,h | .ak _ _ _,h | .map _,h | .it _,h | .cR _ _ _ _,h=>by simp [aS] at h
 | .fn (.y _) _ _,h=>by simp [aS] at h
 | .fn (.f _) first cap,h=>by
  simp only [aS,yg] at h;simp only [cE,Jq f h.1,Jq f h.2]
 | .agg cs,h=>by simp only [aS] at h;simp only [cE,Jq f h]
 | .aw cs,h=>by simp only [aS] at h;simp only [cE,Jq f h]
def Jq (f:Nat->Option Nat):∀{vs:List AV},aK vs=true->gm f vs=vs
 | [],_=>rfl
 | v::r,h=>by
  simp only [aK,yg] at h;simp only [gm,aE f h.1,Jq f h.2]
end
def aas:∀{tm:Env},AL tm=true->fo tm=[]
 | [],_=>rfl
 | (i,v)::r,h=>by
  simp only [AL,yg] at h;simp only [fo,az h.1,aas h.2,wg]
def abk (f:Nat->Option Nat):∀{tm:Env},AL tm=true->ma f tm=tm
 | [],_=>rfl
 | (i,v)::r,h=>by
  simp only [AL,yg] at h;simp only [ma,aE f h.1,abk f h.2]
def MU {live:List Nat} {tm:Env} {ct:Nat} (h:AL (dE tm live)=true):bA live ⟨tm,[],ct,0⟩=⟨dE tm live,[],0,0⟩:=by
 simp only [bA,aas h,dC,wg];simp only [reach,lR,nj,abk _ h,yG,Nat.add_zero]
def akR {tm:Env} {ct:Nat}:bA [] ⟨tm,[],ct,0⟩=⟨[],[],0,0⟩:=rfl
def Jz {P:aI} {L:Lib} {live:List Nat} {a:VC} (I:Nat->St->Prop) (Q:Ex->St->Prop)
  (step:∀k s,I k s->(∃s' k',D P L a (bA live s)=some (.normal,s')/\k'<k/\I k' s')\/(∃ex s',D P L a (bA live s)=some (ex,s')/\ex≠.normal/\Q ex s')):
  ∀k s,I k s->∃ex s',D P L (.loop live a) s=some (ex,s')/\Q ex s':=by
 intro k
 induction k using Nat.strongRecOn with
 | _ k ih=>
  intro s hI;rw [Ot];rcases step k s hI with ⟨s',k',h1,h2,h3⟩ | ⟨ex,s',h1,h2,h3⟩
  ·rw [h1,adZ];exact ih k' h2 s' h3
  ·rw [h1]
   cases ex with
   | normal=>exact absurd rfl h2
   | ret=>exact ⟨.ret,s',rfl,h3⟩
   | exit id=>exact ⟨.exit id,s',rfl,h3⟩
def cg {P:aI} {L:Lib} {live:List Nat} {a:VC} (I:Nat->St->Prop) (Q:Ex->St->Prop)
  (step:∀k s,I k s->(∃s' k',D P L a s=some (.normal,s')/\k'<k/\I k' (bA live s'))\/(∃ex s',D P L a s=some (ex,s')/\ex≠.normal/\Q ex s')):
  ∀k s,I k (bA live s)->∃ex s',D P L (.loop live a) s=some (ex,s')/\Q ex s':=
 Jz (fun k s=>I k (bA live s)) Q (fun k s h=>step k _ h)
def bV {P:aI} {L:Lib} {c:VC} {s:St} {q:Option (Ex×St)} {I:St->Prop} {Q:Ex->St->Prop} (hq:D P L c s=q) (key:∀s,I s->∃ex s',D P L c s=some (ex,s')/\Q ex s') (hI:I s):
  ∃ex s',q=some (ex,s')/\Q ex s':=by
 rw [<-hq];exact key s hI
def ao0 (tm:Env):dE tm []=[]:=rfl
def amP (tm:Env) (i:Nat) (r:List Nat):dE tm (i::r)=(i,ab tm i)::dE tm r:=rfl
def amQ:AL []=true:=rfl
def alw (i:Nat) (v:AV) (r:Env):AL ((i,v)::r)=(aS v&&AL r):=rfl
def Ga (k:yU) (n:Int):aS (.int k n)=true:=(rfl)
def arp (b:Bool):aS (.bool b)=true:=(rfl)
def atY (s:List Nat):aS (.str s)=true:=(rfl)
def arq:aS .ae=true:=(rfl)
def atZ (e:Bool) (n:Nat) (cs:List AV):aS (.aO e n cs)=true:=(rfl)
def ars (cs:List AV):aS (.bi cs)=true:=(rfl)
def ao1:aS .undef=true:=(rfl)
attribute [go_sem] deep akR ao0 amP amQ alw Ga arp atY arq atZ ars ao1 uD xv
attribute [go_sem] atg ath avY K4 axn UX kE ati UY gG aqS aqT adZ aqU aqV TN aqW JJ aqX afz atj aqY aqZ
 ad0 aoF amC ad1 avZ agQ aoG aoH aoI aoJ aq0 atk atl amD alo aoK amE Jy amF acj amG aoL aoM amH
 axo axp atm aq1 aoN av0 aq2 atn av1 av2 av3 ato atp atq atr ats att atu atv atw atx aty aq3 atz atA atB av4 atD aoO aoP aoQ
 aq4 aq5 aq6 aq7 aq8 atE atF afA afB GS axr aoR amI aq9 atG Gw av5 agT av6 av7 av8
 alp akP alq akQ alr shut_int shut_bool aoS amJ aoT aoU bB ara DB amK als amL alt amM alu amN amO rh
 aoV abj afC atH arb aoW arc aoX ard aoY
 atI atJ av9 alv atK atL atM atN atO atP atQ atS atT atU are ad2 N9 ad3 arf arh ari arj ark arl atV atW aoZ arm arn aro NN atX awa awb axs ext1 axt axu
 List.nil_append wg List.cons_append yq yp Bool.not_true Bool.not_false uZ ux
end
section
open Go (IntKind)
abbrev aa (n:Int):AV:= .int .i64 n
def dn (v:AV) (cs:List AV):Prop:=(v= .ae/\cs=[])\/∃e,v= .aO e cs.length cs
section
variable {v:AV} {cs:List AV} {hp:Hp}
def dn.len (h:dn v cs) {hp:Hp}:im hp 1 v=some (.int .i64 (cs.length:Nat)):=by
 rcases h with ⟨rfl,rfl⟩ | ⟨e,rfl⟩<;>rfl
def dn.pu (h:dn v cs):aS v=true:=by
 rcases h with ⟨rfl,rfl⟩ | ⟨e,rfl⟩<;>rfl
def dn.ah (h:dn v cs) (n:Nat) {hp:Hp}:freeze (n+1) hp v=some (v,hp):=by
 rcases h with ⟨rfl,rfl⟩ | ⟨e,rfl⟩<;>rfl
def dn.shut (h:dn v cs):shut v=v:=by
 rcases h with ⟨rfl,rfl⟩ | ⟨e,rfl⟩<;>rfl
def dn.bN (h:dn v cs):bN v=v:=by
 rcases h with ⟨rfl,rfl⟩ | ⟨e,rfl⟩<;>rfl
def dn.dM (h:dn v cs) {hp:Hp}:result hp v=some v:=by
 rcases h with ⟨rfl,rfl⟩ | ⟨e,rfl⟩<;>rfl
def dn.aY (h:dn v cs) {i:Nat} (hi:i<cs.length):iF 1 i v=some (.bi (cs[i]::cs.drop (i+1))):=by
 rcases h with ⟨rfl,rfl⟩ | ⟨e,rfl⟩
 ·grind
 ·rw [Oa e _ hi,yi,yT hi]
def dn.one (h:dn v cs):bE v=true:=by
 rcases h with ⟨rfl,rfl⟩ | ⟨e,rfl⟩<;>rfl
def dn.cells (h:dn v cs):cellsOf v=[v]:=by
 rcases h with ⟨rfl,rfl⟩ | ⟨e,rfl⟩<;>rfl
def FK (e:Bool) (cs:List AV):dn (.aO e cs.length cs) cs:= .inr ⟨e,rfl⟩
def rk:dn .ae []:= .inl ⟨rfl,rfl⟩
end
def bq (v:AV) (l:List Int):Prop:=dn v (l.map aa)
section
variable {v:AV} {l:List Int}
def bq.len (h:bq v l) {hp:Hp}:im hp 1 v=some (.int .i64 (l.length:Nat)):=by
 have:=dn.len (hp:=hp) h
 grind
def bq.pu (h:bq v l):aS v=true:=dn.pu h
def bq.ah (h:bq v l) (n:Nat) {hp:Hp}:freeze (n+1) hp v=some (v,hp):=dn.ah h n
def bq.shut (h:bq v l):VE.shut v=v:=dn.shut h
def bq.bN (h:bq v l):VE.bN v=v:=dn.bN h
def bq.dM (h:bq v l) {hp:Hp}:result hp v=some v:=dn.dM h
def bq.one (h:bq v l):bE v=true:=dn.one h
def bq.cells (h:bq v l):cellsOf v=[v]:=dn.cells h
def bq.aY (h:bq v l) {i:Nat} (hi:i<l.length):iF 1 i v=some (.bi (.int .i64 l[i]::(l.map aa).drop (i+1))):=by
 have:=dn.aY h (i:=i) (by simpa using hi)
 grind
def fN (e:Bool) (l:List Int):bq (.aO e l.length (l.map aa)) l:=by
 have:=FK e (l.map aa)
 rwa [List.length_map] at this
end
def jy {α β:Type} (p:α->β->Prop):List α->List β->Prop
 | [],[]=>True
 | a::r,b::s=>p a b/\jy p r s
 | _,_=>False
section
variable {α β:Type} {p:α->β->Prop}
def jy.len:∀{l:List α} {m:List β},jy p l m->l.length=m.length
 | [],[],_=>rfl
 | _::_,_::_,h=>by rw [yy,yy,h.2.len]
def jy.get:∀{l:List α} {m:List β} (_:jy p l m) {i:Nat} (h1:i<l.length) (h2:i<m.length),p l[i] m[i]
 | a::r,b::s,h,0,_,_=>h.1
 | a::r,b::s,h,i+1,h1,h2=>by
  exact h.2.get (by simpa using h1) (by simpa using h2)
def jy.append:∀{l l':List α} {m m':List β},jy p l m->jy p l' m'->jy p (l++l') (m++m')
 | [],_,[],_,_,h=>h
 | _::_,_,_::_,_,h,k=>⟨h.1,h.2.append k⟩
end
def bU (v:AV) (s:List (List Int)):Prop:=∃rows,dn v rows/\jy bq rows s
section
variable {v:AV} {s:List (List Int)}
def bU.len (h:bU v s) {hp:Hp}:im hp 1 v=some (.int .i64 (s.length:Nat)):=by
 obtain ⟨rows,h1,h2⟩:=h;rw [<-h2.len];exact h1.len
def bU.pu (h:bU v s):aS v=true:=by obtain ⟨rows,h1,h2⟩:=h;exact h1.pu
def bU.ah (h:bU v s) (n:Nat) {hp:Hp}:freeze (n+1) hp v=some (v,hp):=by obtain ⟨rows,h1,h2⟩:=h;exact h1.ah n
def bU.shut (h:bU v s):VE.shut v=v:=by obtain ⟨rows,h1,h2⟩:=h;exact h1.shut
def bU.bN (h:bU v s):VE.bN v=v:=by obtain ⟨rows,h1,h2⟩:=h;exact h1.bN
def bU.dM (h:bU v s) {hp:Hp}:result hp v=some v:=by obtain ⟨rows,h1,h2⟩:=h;exact h1.dM
def bU.one (h:bU v s):bE v=true:=by obtain ⟨rows,h1,h2⟩:=h;exact h1.one
def bU.cells (h:bU v s):cellsOf v=[v]:=by obtain ⟨rows,h1,h2⟩:=h;exact h1.cells
def bU.aY (h:bU v s) {i:Nat} (hi:i<s.length):∃r rest,bq r s[i]/\iF 1 i v=some (.bi (r::rest)):=by
 obtain ⟨rows,h1,h2⟩:=h;have cu:i<rows.length:=by rw [h2.len];exact hi
 exact ⟨_,_,h2.get cu hi,h1.aY cu⟩
def ao2:bU .ae []:=⟨[],rk,trivial⟩
end
def wrap64 {n:Int} (h1: -9223372036854775808<=n) (h2:n<9223372036854775808):IntKind.wrap .i64 n=n:=by
 simp only [IntKind.wrap,IntKind.bits,IntKind.signed,xv]
 grind
def wrapN {n:Nat} (h:n<9223372036854775808):IntKind.wrap .i64 (n:Int)=n:=wrap64 (by omega) (by omega)
end
section
open Go (IntKind)
section
variable {P:aI} {L:Lib}
abbrev af (P:aI) (L:Lib) (f:Nat) (vals:List AV) (r:AV):Prop:=bY P L (D P L) f vals=some r
def qU (h:Has P L 30 sf) (n lo hi:Int):af P L 30 [aa n,aa lo,aa hi] (aa (if n<lo\/hi<n then 3 else 0)):=by
 unfold af;rw [aq h];by_cases h1:n<lo
 ·simp only [go_sem,ya,sf,h1,true_or,yV]
 ·by_cases h2:hi<n
  ·simp only [go_sem,ya,sf,h1,h2,or_true,yV]
  ·simp only [go_sem,ya,sf,h1,h2,or_self,yN]
def nJ (h:Has P L 31 Bl) (b:Bool) (n:Int):af P L 31 [.bool b,aa n] (aa (if b=true then n else 0)):=by
 unfold af;rw [aq h]
 cases b with
 | true=>simp only [go_sem,ya,Bl,yV]
 | false=>simp only [go_sem,ya,Bl];rfl
def Hz (h:Has P L 34 Bm) (fF:Has P L 31 Bl) (n lo hi:Int):af P L 34 [aa n,aa lo,aa hi] (aa (if n<lo\/hi<n then 3 else 0)):=by
 unfold af;rw [aq h];by_cases h1:n<lo
 ·simp only [go_sem,ya,Bm,h1,true_or,yV,nJ fF]
 ·by_cases h2:hi<n
  ·simp only [go_sem,ya,Bm,h1,h2,or_true,yV,nJ fF]
  ·simp only [go_sem,ya,Bm,h1,h2,or_self,yN,nJ fF];rfl
def s36 (h:Has P L 36 QF) (lH:Has P L 34 Bm) (fF:Has P L 31 Bl) (n:Int):af P L 36 [aa n] (aa (if n<0\/1000<n then 3 else 0)):=by
 unfold af;rw [aq h];simp only [go_sem,ya,QF,Hz lH fF]
def s38 (h:Has P L 38 LY) (a b:Int):af P L 38 [aa a,aa b] (aa (IntKind.wrap .i64 (a+b))):=by
 unfold af;rw [aq h];simp only [go_sem,ya,LY]
def qV (h:Has P L 33 LX) {v:AV} {l:List Int} (hv:bq v l) (hl:l.length<=1000000):af P L 33 [v] (aa (bn l)):=by
 unfold af;rw [aq h];simp only [go_sem,ya,LX,hv.len];have key:=Jz (P:=P) (L:=L) (live:=[5,6,7]) (a:=OL)
  (I:=fun k s=>∃tm ct i,s=⟨tm,[],ct,0⟩/\ab tm 5=v/\ab tm 6=aa l.length/\ab tm 7=aa (i:Nat)/\i+k=l.length/\bn (l.drop i)=bn l)
  (Q:=fun ex s=>∃tm,s=⟨tm,[],0,0⟩/\((ex= .ret/\ab tm 2=aa (bn l))\/(ex= .exit 0/\bn l=0))) ?_ l.length
 ·generalize hq:D P L (.loop [5,6,7] OL) _=q;obtain ⟨ex,s,rfl,tm,rfl,h2⟩:=bV hq key ⟨_,_,0,rfl,rfl,rfl,rfl,by omega,rfl⟩;rcases h2 with ⟨rfl,h2⟩ | ⟨rfl,h2⟩
  ·simp only [go_sem,h2]
  ·rw [h2];simp only [go_sem]
 ·rintro k s ⟨tm,ct,i,rfl,h5,h6,h7,hk,hf⟩;rw [MU (by simp only [go_sem,h5,h6,h7,hv.pu])];simp only [go_sem,ya,h5,h6,h7,OL];by_cases hi:i<l.length
  ·have cu:(i:Int)<l.length:=by omega
   rw [R0 hi] at hf;by_cases hz:l[i]=0
   ·left
    simp only [go_sem,ya,cu,hv.aY hi,hz];refine ⟨_,k-1,rfl,by omega,_,_,i+1,rfl,?_⟩;rw [wrap64 (by omega) (by omega)];rw [yF hz] at hf;simp only [go_sem,ya];exact ⟨trivial,trivial,rfl,by omega,hf⟩
   ·right
    simp only [go_sem,ya,cu,hv.aY hi,hz];rw [yr hz] at hf;refine ⟨_,_,rfl,by simp,_,rfl,.inl ⟨rfl,?_⟩⟩;simp only [go_sem,hf]
  ·right
   have cu:¬(i:Int)<l.length:=by omega
   simp only [go_sem,cu];refine ⟨_,_,rfl,by simp,_,rfl,.inr ⟨rfl,?_⟩⟩;rw [<-hf,xh (by omega)];rfl
def s42 {n:Nat} (h:Has P L n QH) {v:AV} {l:List Int} (hv:bq v l) (hl:l.length<=1000000):af P L n [v] (aa (bn l)):=by
 unfold af;rw [aq h];simp only [go_sem,QH];have key:=Jz (P:=P) (L:=L) (live:=[0,3]) (a:=ON)
  (I:=fun k s=>∃tm ct i,s=⟨tm,[],ct,0⟩/\ab tm 0=v/\ab tm 3=aa (i:Nat)/\i+k=l.length/\bn (l.drop i)=bn l)
  (Q:=fun ex s=>∃tm,s=⟨tm,[],0,0⟩/\((ex= .ret/\ab tm 2=aa (bn l))\/(ex= .exit 0/\bn l=0))) ?_ l.length
 ·generalize hq:D P L (.loop [0,3] ON) _=q;obtain ⟨ex,s,rfl,tm,rfl,h2⟩:=bV hq key ⟨_,_,0,rfl,rfl,rfl,by omega,rfl⟩;rcases h2 with ⟨rfl,h2⟩ | ⟨rfl,h2⟩
  ·simp only [go_sem,h2]
  ·rw [h2];simp only [go_sem]
 ·rintro k s ⟨tm,ct,i,rfl,h0,h3,hk,hf⟩;rw [MU (by simp only [go_sem,h0,h3,hv.pu])];simp only [go_sem,ya,h0,h3,ON,hv.len];by_cases hi:i<l.length
  ·have cu:(i:Int)<l.length:=by omega
   rw [R0 hi] at hf;by_cases hz:l[i]=0
   ·left
    simp only [go_sem,ya,cu,hv.aY hi,hz];refine ⟨_,k-1,rfl,by omega,_,_,i+1,rfl,?_⟩;rw [wrap64 (by omega) (by omega)];rw [yF hz] at hf;simp only [go_sem,ya];exact ⟨trivial,rfl,by omega,hf⟩
   ·right
    simp only [go_sem,ya,cu,hv.aY hi,hz];rw [yr hz] at hf;refine ⟨_,_,rfl,by simp,_,rfl,.inl ⟨rfl,?_⟩⟩;simp only [go_sem,hf]
  ·right
   have cu:¬(i:Int)<l.length:=by omega
   simp only [go_sem,cu];refine ⟨_,_,rfl,by simp,_,rfl,.inr ⟨rfl,?_⟩⟩;rw [<-hf,xh (by omega)];rfl
def PX (h:Has P L 134 Cv) {n m:Int} (hm:0<m) (fR:m<=1000000):af P L 134 [aa n,aa m] (aa (n%m)):=by
 unfold af;rw [aq h];have h1:m≠0:=by omega
 have h2:n.tmod m<m:=Int.tmod_lt_of_pos n hm;have h3: -m<n.tmod m:=by
  have h:=Int.lt_tmod_of_pos n hm;omega
 simp only [go_sem,ya,Cv,dK _ _ _ h1,wrap64 (n:=n.tmod m+m) (by omega) (by omega),aqR hm]
end
end
section
open Go (IntKind)
section
variable {P:aI} {L:Lib} {f:cT} {tm:Env} {hp:Hp} {ct:Nat}
def amR (k:yU) (n:Int):cellsOf (.int k n)=[.int k n]:=(rfl)
def alx (b:Bool):cellsOf (.bool b)=[.bool b]:=(rfl)
def amS (s:List Nat):cellsOf (.str s)=[.str s]:=(rfl)
def aly:cellsOf .ae=[.ae]:=(rfl)
def amT (e:Bool) (n:Nat) (cs:List AV):cellsOf (.aO e n cs)=[.aO e n cs]:=(rfl)
def amU (id o n:Nat):cellsOf (.ak id o n)=[.ak id o n]:=(rfl)
def amV (id o:Nat):cellsOf (.ptr id o)=[.ptr id o]:=(rfl)
def ao3 (g:Fr) (a b:List AV):cellsOf (.fn g a b)=[.fn g a b]:=(rfl)
def amW (cs:List AV):cellsOf (.agg cs)=cs:=(rfl)
def JK (k:yU) (n:Int):bE (.int k n)=true:=(rfl)
def ao4 (b:Bool):bE (.bool b)=true:=(rfl)
def TO (s:List Nat):bE (.str s)=true:=(rfl)
def ao5:bE .ae=true:=(rfl)
def art (e:Bool) (n:Nat) (cs:List AV):bE (.aO e n cs)=true:=(rfl)
def aru (id o n:Nat):bE (.ak id o n)=true:=(rfl)
def arv (id o:Nat):bE (.ptr id o)=true:=(rfl)
def at0 (g:Fr) (a b:List AV):bE (.fn g a b)=true:=(rfl)
def ao6:cf []=true:=(rfl)
def abl (v:AV) (r:List AV):cf (v::r)=(bE v&&cf r):=(rfl)
def amX:aK []=true:=(rfl)
def aat (v:AV) (r:List AV):aK (v::r)=(aS v&&aK r):=(rfl)
def at1 (id o:Nat):aS (.ptr id o)=false:=(rfl)
def afD (id o n:Nat):aS (.ak id o n)=false:=(rfl)
def awc (g:Nat) (a b:List AV):aS (.fn (.f g) a b)=(aK a&&aK b):=(rfl)
def axv (l:Nat) (a b:List AV):aS (.fn (.y l) a b)=false:=(rfl)
def at2 (cs:List AV):aS (.agg cs)=aK cs:=(rfl)
def at3 (cs:List AV):aS (.aw cs)=aK cs:=(rfl)
def CD (ct sz:Nat) (cs:List AV):Option (AV×Obj):=bif yx cs.length sz&&cf cs then some (.ptr ct 0,.cells true (aK cs) true sz cs) else none
def at4 (sz:Nat) (x:X):dt tm hp ct (.box sz x)=CD ct sz (cellsOf (aC tm x)):=rfl
def agU {v:AV} (h:bE v=true):CD ct 1 [v]=some (.ptr ct 0,.cells true (aS v&&true) true 1 [v]):=by
 simp [CD,cf,aK,h]
def aG {cs:List AV} {n:Nat} (hn:cs.length=n) (h:cf cs=true):CD ct n cs=some (.ptr ct 0,.cells true (aK cs) true n cs):=by
 subst hn;simp [CD,h]
def fu (hp:Hp) (ct id o sz:Nat) (new:List AV) (q:Option Obj):gM:=
 match q with
 | some (.cells true pu ex z cs)=>bif yx new.length sz&&yE (o+sz) cs.length&&cf new then some (.aw [],bf hp id (.cells true (pu&&aK new) ex z (over o new cs)),ct) else none
 | _=>none
def stV (hp:Hp) (ct sz:Nat) (p:AV) (new:List AV):gM:=match p with | .ptr id o=>fu hp ct id o sz new (ap hp id) | _=>none
def ack (sz:Nat) (x v:X):dG tm hp ct (.st sz x v)=stV hp ct sz (aC tm x) (cellsOf (aC tm v)):=rfl
def agV (sz id o:Nat) (new:List AV):stV hp ct sz (.ptr id o) new=fu hp ct id o sz new (ap hp id):=rfl
def axw {v u:AV} {id z:Nat} {pu ex:Bool} (h:bE v=true):fu hp ct id 0 1 [v] (some (.cells true pu ex z [u]))=some (.aw [],bf hp id (.cells true (pu&&(aS v&&true)) ex z [v]),ct):=by
 simp [fu,cf,aK,h,over];rfl
def lj {new cs:List AV} {id o sz z:Nat} {pu ex:Bool} (h1:new.length=sz) (h2:o+sz<=cs.length) (h:cf new=true):
  fu hp ct id o sz new (some (.cells true pu ex z cs))=some (.aw [],bf hp id (.cells true (pu&&aK new) ex z (over o new cs)),ct):=by
 subst h1;simp [fu,h,yu h2]
def OW (ct n sz:Nat) (q:Option (List AV)):Option (AV×Obj):=match q with | some cs=>bif yx cs.length (n*sz) then some (.ak ct 0 n,.cells true (aK cs) true sz cs) else none | none=>none
def arw (n sz:Nat) (z:List AV) (ps:List (Nat×Nat×X)):dt tm hp ct (.dI n sz z ps)=OW ct n sz (fill tm z ps):=by
 simp only [dt,OW];cases fill tm z ps<;>rfl
def arx {n sz:Nat} {cs:List AV} (h:cs.length=n*sz):OW ct n sz (some cs)=some (.ak ct 0 n,.cells true (aK cs) true sz cs):=by
 simp [OW,h]
def iG (tm:Env) (cs:List AV) (o sz:Nat) (new:List AV) (r:List (Nat×Nat×X)):Option (List AV):=
 bif yx new.length sz&&yE (o+sz) cs.length&&cf new then fill tm (over o new cs) r else none
def ao7 (cs:List AV):fill tm cs []=some cs:=rfl
def amY (cs:List AV) (o sz:Nat) (x:X) (r:List (Nat×Nat×X)):fill tm cs ((o,sz,x)::r)=iG tm cs o sz (cellsOf (aC tm x)) r:=rfl
def ad4 {cs:List AV} {o:Nat} {v:AV} {r:List (Nat×Nat×X)} (h1:o+1<=cs.length) (h2:bE v=true):iG tm cs o 1 [v] r=fill tm (over o [v] cs) r:=by
 simp [iG,cf,h2,yu h1]
def nR {cs new:List AV} {o sz:Nat} {r:List (Nat×Nat×X)} (h0:new.length=sz) (h1:o+sz<=cs.length) (h2:cf new=true):iG tm cs o sz new r=fill tm (over o new cs) r:=by
 subst h0;simp [iG,h2,yu h1]
def awd (v u:AV) (r:List AV):over 0 [v] (u::r)=v::r:=rfl
def awe (v a u:AV) (r:List AV):over 1 [v] (a::u::r)=a::v::r:=rfl
def awf (v a b u:AV) (r:List AV):over 2 [v] (a::b::u::r)=a::b::v::r:=rfl
def awg (v a b c u:AV) (r:List AV):over 3 [v] (a::b::c::u::r)=a::b::c::v::r:=rfl
def awh (v a b c d u:AV) (r:List AV):over 4 [v] (a::b::c::d::u::r)=a::b::c::d::v::r:=rfl
def awi (v a b c d e u:AV) (r:List AV):over 5 [v] (a::b::c::d::e::u::r)=a::b::c::d::e::v::r:=rfl
def AZ (ct sz by':Nat) (zero:List AV) (l c:Option Nat):Option (AV×Obj):=
 match l,c with
 | some l,some c=>bif yE l c&&(yE c room&&(yE (c*by') room&&(yx zero.length sz&&cf zero))) then some (.ak ct 0 l,.cells true (aK zero) (yx l c) sz (yz l zero).flatten) else none
 | _,_=>none
def at5 (sz by':Nat) (z:List AV) (l c:X):dt tm hp ct (.iw sz by' z l c)=AZ ct sz by' z (eC (aC tm l)) (eC (aC tm c)):=by
 simp only [dt,AZ]
 grind
def Gb {sz by' l:Nat} {z:List AV} (h1:l<=1099511627776) (h2:l*by'<=1099511627776) (h3:z.length=sz) (h4:cf z=true):
  AZ ct sz by' z (some l) (some l)=some (.ak ct 0 l,.cells true (aK z) true sz (yz l z).flatten):=by
 subst h3;simp [AZ,h4,yu (show l<=room from h1),yu (show l*by'<=room from h2),yu (yB l)]
def Ep (hp:Hp) (ct sz by':Nat) (s:AV) (src:Option (Nat×List AV)):gM:=
 match src with
 | none=>none
 | some (m,new)=>
  match s with
  | .ae=>
   bif yx m 0 then some (.ae,hp,ct)
   else bif yE m room&&(yE (m*by') room&&yJ 0 sz) then some (.ak ct 0 m,(ct,.cells true (aK new) false sz new)::hp,ct+1) else none
  | .aO true n cs=>
   bif yx m 0 then some (.aO true n cs,hp,ct)
   else bif yE (n+m) room&&(yE ((n+m)*by') room&&(yx cs.length (n*sz)&&yJ 0 sz)) then some (.ak ct 0 (n+m),(ct,.cells true (aK cs&&aK new) false sz (cs++new))::hp,ct+1) else none
  | .ak id o n=>
   match ap hp id with
   | some (.cells true pu _ z cs)=>
    bif yx z sz&&(yE (n+m) room&&(yE ((n+m)*by') room&&(yE (o+n*sz) cs.length&&(yJ 0 sz&&cf new)))) then
     some (.ak ct 0 (n+m),(ct,.cells true (pu&&aK new) false sz (slice o (n*sz) cs++new))::dL hp id,ct+1)
    else none
   | _=>none
  | _=>none
def amZ (sz by':Nat) (s x:X):dG tm hp ct (.dV sz by' s x)=Ep hp ct sz by' (aC tm s) (Ar hp sz (aC tm x)):=by
 simp only [dG,Ep]
 cases Ar hp sz (aC tm x) with
 | none=>rfl
 | some q=>obtain ⟨m,new⟩:=q;cases aC tm s<;>rfl
def alz (sz id o n:Nat):Ar hp sz (.ak id o n)=ru hp sz (.ak id o n):=rfl
def alA (sz:Nat) (e:Bool) (n:Nat) (cs:List AV):Ar hp sz (.aO e n cs)=ru hp sz (.aO e n cs):=rfl
def akS (sz:Nat):Ar hp sz .ae=some (0,[]):=rfl
def XI (o n sz:Nat) (q:Option Obj):Option (Nat×List AV):=match q with | some (.cells _ _ _ _ cs)=>bif yE (o+n*sz) cs.length then some (n,slice o (n*sz) cs) else none | _=>none
def akT (sz id o n:Nat):ru hp sz (.ak id o n)=XI o n sz (ap hp id):=rfl
def awj (rw pu ex:Bool) (z:Nat) (v:AV):XI 0 1 1 (some (.cells rw pu ex z [v]))=some (1,[v]):=rfl
def ki {sz by':Nat} {new:List AV} {m:Nat} (hm:0<m) (h1:m<=1099511627776) (h2:m*by'<=1099511627776) (hs:0<sz):
  Ep hp ct sz by' .ae (some (m,new))=some (.ak ct 0 m,(ct,.cells true (aK new) false sz new)::hp,ct+1):=by
 have e1:yx m 0=false:=cP (by omega);have e2:yJ 0 sz=true:=yu hs;simp [Ep,e1,e2,yu (show m<=room from h1),yu (show m*by'<=room from h2)]
def jN {sz by' id n m:Nat} {pu ex:Bool} {cs new:List AV} (hg:ap hp id=some (.cells true pu ex sz cs)) (hl:cs.length=n*sz) (h1:n+m<=1099511627776) (h2:(n+m)*by'<=1099511627776) (hs:0<sz) (ho:cf new=true):
  Ep hp ct sz by' (.ak id 0 n) (some (m,new))=some (.ak ct 0 (n+m),(ct,.cells true (pu&&aK new) false sz (cs++new))::dL hp id,ct+1):=by
 have e2:yJ 0 sz=true:=yu hs;simp only [Ep,hg];simp [e2,ho,yu (show n+m<=room from h1),yu (show (n+m)*by'<=room from h2),<-hl,slice,yu (yB cs.length)]
def ahG (n:Nat) (g:Nat) (cap:List AV) (q:Option (List AV×Hp)):Option (AV×Hp):=match q with | some (first,hp)=>(match cW n hp cap with | some (Pf,jV)=>some (.fn (.f g) first Pf,jV) | none=>none) | none=>none
def ahH (g:Nat) (first:List AV) (q:Option (List AV×Hp)):Option (AV×Hp):=match q with | some (cap,hp)=>some (.fn (.f g) first cap,hp) | none=>none
def at6 (n g:Nat) (first cap:List AV):freeze (n+1) hp (.fn (.f g) first cap)=ahG n g cap (cW n hp first):=rfl
def at7 (n g:Nat) (first cap:List AV):ahG n g cap (some (first,hp))=ahH g first (cW n hp cap):=rfl
def aua (g:Nat) (first cap:List AV):ahH g first (some (cap,hp))=some (.fn (.f g) first cap,hp):=rfl
def ahI (o:Nat) (q:Option (Bool×Nat×List AV×Hp)):Option (AV×Hp):=match q with | some (_,_,cs,hp)=>some (.bi (cs.drop o),hp) | none=>none
def ary (n id o:Nat):freeze (n+1) hp (.ptr id o)=ahI o (sH n hp id):=rfl
def aub (o:Nat) (ex:Bool) (sz:Nat) (cs:List AV):ahI o (some (ex,sz,cs,hp))=some (.bi (cs.drop o),hp):=rfl
def mJ (o k:Nat) (q:Option (Bool×Nat×List AV×Hp)):Option (AV×Hp):=
 match q with
 | some (ex,sz,cs,hp)=>bif yE (o+k*sz) cs.length then some (.aO (ex&&yJ 0 sz&&yx (o+k*sz) cs.length) k (slice o (k*sz) cs),hp) else none
 | none=>none
def TP (n id o k:Nat):freeze (n+1) hp (.ak id o k)=mJ o k (sH n hp id):=rfl
def my {sz k:Nat} {cs:List AV} (ex:Bool) (hl:cs.length=k*sz) (hs:0<sz):mJ 0 k (some (ex,sz,cs,hp))=some (.aO ex k cs,hp):=by
 have e2:yJ 0 sz=true:=yu hs;simp [mJ,<-hl,e2,slice,yu (yB cs.length)]
def K7 (n id:Nat) (hp:Hp) (q:Option Obj):Option (Bool×Nat×List AV×Hp):=
 match q with
 | some (.cells rw pu ex sz cs)=>
  bif pu then some (ex,sz,cs,bif rw then bf hp id (.cells false true ex sz cs) else hp)
  else match cW n hp cs with
   | some (dZ,ao)=>some (ex,sz,dZ,bf ao id (.cells false false ex sz cs))
   | none=>none
 | _=>none
def TQ (n id:Nat):sH (n+1) hp id=K7 n id hp (ap hp id):=rfl
def afE (n id:Nat) (ex:Bool) (sz:Nat) (cs:List AV):K7 n id hp (some (.cells true true ex sz cs))=some (ex,sz,cs,bf hp id (.cells false true ex sz cs)):=rfl
def afF (n id:Nat) (ex:Bool) (sz:Nat) (cs:List AV):K7 n id hp (some (.cells false true ex sz cs))=some (ex,sz,cs,hp):=rfl
def bl (n:Nat) (cs:List AV) (h:cW n hp cs=some (cs,hp)):freeze (n+1) hp (.agg cs)=some (.agg cs,hp):=by
 simp only [freeze,h]
def Sh {id n sz:Nat} {ex:Bool} {cs:List AV} (hg:ap hp id=some (.cells true true ex sz cs)) (hl:cs.length=n*sz) (hs:0<sz):result hp (.ak id 0 n)=some (.cR ex sz n cs):=by
 have e2:yJ 0 sz=true:=yu hs;simp only [result,pP,hg,yd,<-hl,yu (yB cs.length),ym,e2,uD,slice,yj,List.take_length]
 simp
def aki (b:Bool):result hp (.aw [.ae,.bool b])=some (.aw [.ae,.bool b]):=rfl
def akj (k:yU) (b:Int):result hp (.aw [.ae,.int k b])=some (.aw [.ae,.int k b]):=rfl
def akk (e:Bool) (n:Nat) (cs:List AV) (k:yU) (b:Int):result hp (.aw [.aO e n cs,.int k b])=some (.aw [.aO e n cs,.int k b]):=rfl
def am0 (s:St):pX [] s=some s:=rfl
def XJ (t:Nat) (r:List Nat) (tm:Env) (ct base:Nat) (q:Option (AV×Hp)):Option St:=match q with | some (v,hp)=>pX r ⟨(t,v)::tm,hp,ct,base⟩ | none=>none
def alB (t:Nat) (r:List Nat) (tm:Env) (hp:Hp) (ct base:Nat):pX (t::r) ⟨tm,hp,ct,base⟩=XJ t r tm ct base (freeze deep hp (ab tm t)):=by
 simp only [pX,XJ];cases freeze deep hp (ab tm t)<;>rfl
def awk (t:Nat) (r:List Nat) (tm:Env) (ct base:Nat) (v:AV) (hp:Hp):XJ t r tm ct base (some (v,hp))=pX r ⟨(t,v)::tm,hp,ct,base⟩:=rfl
end
attribute [go_sem] aki akj akk amR alx amS aly amT amU amV ao3 amW JK ao4 TO ao5 art aru arv at0 ao6 abl
 amX aat at1 afD awc axv at2 at3 at4 agU ack agV axw arw ao7 amY awd awe awf awg awh awi at5
 amZ alz alA akS akT awj at6 at7 aua ary aub TP my arx ad4 TQ afE afF am0 alB awk
 Bool.and_false Bool.false_and yj eq_self
end
section
open Go (IntKind)
def acm:∀hp:Hp,dC 0 hp=[]
 | []=>rfl
 | (id,o)::r=>by
  have:yJ id 0=false:=rfl
  simp only [dC,this,yD,acm r]
def afG (f:Nat->Option Nat):∀hp:Hp,nj 0 f hp=[]
 | []=>rfl
 | (id,o)::r=>by
  have:yJ id 0=false:=rfl
  simp only [nj,this,yD,afG f r]
def pos (seen:List Nat):Nat->Option Nat:=fun id=>ns id seen 0
def VP (tm:Env) (hp:Hp) (seen:List Nat):St:=⟨ma (pos seen) tm,lR hp (pos seen) seen 0 [],seen.length,0⟩
def zU (hp:Hp):Nat->List Nat->List Nat->List Nat:=reach hp 0
def av (live:List Nat) (tm:Env) (hp:Hp) (ct:Nat):bA live ⟨tm,hp,ct,0⟩=VP (dE tm live) hp (zU hp 100000 (fo (dE tm live)) []):=by
 have e:∀seen,lQ 0 seen=pos seen:=fun seen=>by
  funext id
  have:yJ id 0=false:=rfl
  simp only [lQ,this,yD,pos]
 simp only [bA,acm,wg,e,afG,VP,zU,yd]
def am1:fo []=[]:=rfl
def alC (i:Nat) (v:AV) (r:Env):fo ((i,v)::r)=refs v++fo r:=rfl
def ao8 (k:yU) (n:Int):refs (.int k n)=[]:=rfl
def am2 (b:Bool):refs (.bool b)=[]:=rfl
def ao9 (s:List Nat):refs (.str s)=[]:=rfl
def am3:refs .ae=[]:=rfl
def apa (e:Bool) (n:Nat) (cs:List AV):refs (.aO e n cs)=[]:=rfl
def am4 (cs:List AV):refs (.bi cs)=[]:=rfl
def alD:refs .undef=[]:=rfl
def apb (id o:Nat):refs (.ptr id o)=[id]:=rfl
def apc (id o n:Nat):refs (.ak id o n)=[id]:=rfl
def arz (g:Nat) (a b:List AV):refs (.fn (.f g) a b)=eV a++eV b:=rfl
def auc (l:Nat) (a b:List AV):refs (.fn (.y l) a b)=[l]:=rfl
def apd (cs:List AV):refs (.agg cs)=eV cs:=rfl
def am5:eV []=[]:=rfl
def alE (v:AV) (r:List AV):eV (v::r)=refs v++eV r:=rfl
def PY (hp:Hp) (n id:Nat) (jv seen:List Nat) (q:Option Obj):List Nat:=match q with | some o=>zU hp n (fA o++jv) (seen++[id]) | none=>zU hp n jv seen
def PZ (hp:Hp) (n id:Nat) (jv seen:List Nat) (b:Bool):List Nat:=bif b then zU hp n jv seen else PY hp n id jv seen (ap hp id)
def arA (hp:Hp) (n:Nat) (seen:List Nat):zU hp (n+1) [] seen=seen:=rfl
def ape (hp:Hp) (n id:Nat) (jv seen:List Nat):zU hp (n+1) (id::jv) seen=PZ hp n id jv seen (mF id seen):=by
 have:yJ id 0=false:=rfl
 simp only [zU,reach,this,vI,PZ,PY]
 cases mF id seen with
 | true=>rfl
 | false=>simp only [yD];cases ap hp id<;>rfl
def aud (hp:Hp) (n id:Nat) (jv seen:List Nat):PZ hp n id jv seen true=zU hp n jv seen:=rfl
def aue (hp:Hp) (n id:Nat) (jv seen:List Nat):PZ hp n id jv seen false=PY hp n id jv seen (ap hp id):=rfl
def auf (hp:Hp) (n id:Nat) (jv seen:List Nat) (o:Obj):PY hp n id jv seen (some o)=zU hp n (fA o++jv) (seen++[id]):=rfl
def apf (i:Nat):mF i []=false:=rfl
def apg (i:Nat) (r:List Nat):mF i (i::r)=true:=by simp only [mF,xq,ym]
def am6 {i j:Nat} (r:List Nat) (h:j≠i):mF i (j::r)=mF i r:=by simp only [mF,cP h,yD]
def arB (rw ex:Bool) (sz:Nat) (cs:List AV):fA (.cells rw true ex sz cs)=[]:=rfl
def arC (rw ex:Bool) (sz:Nat) (cs:List AV):fA (.cells rw false ex sz cs)=eV cs:=rfl
def aph (tm:Env) (ps:List Nat) (a b:VC) (st:Nat) (pe:zg):fA (.lp tm ps a b st pe)=fo tm:=rfl
def arD (i:Nat) (r:List Nat) (k:Nat):ns i (i::r) k=some k:=by simp only [ns,xq,ym]
def api {i j:Nat} (r:List Nat) (k:Nat) (h:j≠i):ns i (j::r) k=ns i r (k+1):=by simp only [ns,cP h,yD]
def agW (o:Nat) (q:Option Nat):AV:=match q with | some j=> .ptr j o | none=> .undef
def agX (o n:Nat) (q:Option Nat):AV:=match q with | some j=> .ak j o n | none=> .undef
def apj (s:List Nat):ma (pos s) []=[]:=rfl
def am7 (s:List Nat) (i:Nat) (v:AV) (r:Env):ma (pos s) ((i,v)::r)=(i,cE (pos s) v)::ma (pos s) r:=rfl
def arE (s:List Nat) (k:yU) (n:Int):cE (pos s) (.int k n)= .int k n:=rfl
def apk (s:List Nat) (b:Bool):cE (pos s) (.bool b)= .bool b:=rfl
def arF (s:List Nat) (t:List Nat):cE (pos s) (.str t)= .str t:=rfl
def apl (s:List Nat):cE (pos s) .ae= .ae:=rfl
def arG (s:List Nat) (e:Bool) (n:Nat) (cs:List AV):cE (pos s) (.aO e n cs)= .aO e n cs:=rfl
def apm (s:List Nat) (cs:List AV):cE (pos s) (.bi cs)= .bi cs:=rfl
def am8 (s:List Nat):cE (pos s) .undef= .undef:=rfl
def arH (s:List Nat) (id o:Nat):cE (pos s) (.ptr id o)=agW o (ns id s 0):=rfl
def arI (s:List Nat) (id o n:Nat):cE (pos s) (.ak id o n)=agX o n (ns id s 0):=rfl
def aug (s:List Nat) (g:Nat) (a b:List AV):cE (pos s) (.fn (.f g) a b)= .fn (.f g) (gm (pos s) a) (gm (pos s) b):=rfl
def arJ (s:List Nat) (cs:List AV):cE (pos s) (.agg cs)= .agg (gm (pos s) cs):=rfl
def apn (s:List Nat):gm (pos s) []=[]:=rfl
def am9 (s:List Nat) (v:AV) (r:List AV):gm (pos s) (v::r)=cE (pos s) v::gm (pos s) r:=rfl
def arK (o j:Nat):agW o (some j)= .ptr j o:=rfl
def arL (o n j:Nat):agX o n (some j)= .ak j o n:=rfl
def VQ (hp:Hp) (f:Nat->Option Nat) (r:List Nat) (k:Nat) (acc:Hp) (q:Option Obj):Hp:=match q with | some o=>lR hp f r (k+1) ((k,mE f o)::acc) | none=>lR hp f r (k+1) acc
def ana (hp:Hp) (s:List Nat) (k:Nat) (acc:Hp):lR hp (pos s) [] k acc=acc:=rfl
def alF (hp:Hp) (s:List Nat) (id:Nat) (r:List Nat) (k:Nat) (acc:Hp):lR hp (pos s) (id::r) k acc=VQ hp (pos s) r k acc (ap hp id):=by
 simp only [lR,VQ];cases ap hp id<;>rfl
def auh (hp:Hp) (s r:List Nat) (k:Nat) (acc:Hp) (o:Obj):VQ hp (pos s) r k acc (some o)=lR hp (pos s) r (k+1) ((k,mE (pos s) o)::acc):=rfl
def aui (f:Nat->Option Nat) (rw ex:Bool) (sz:Nat) (cs:List AV):mE f (.cells rw true ex sz cs)= .cells rw true ex sz cs:=rfl
def auj (f:Nat->Option Nat) (rw ex:Bool) (sz:Nat) (cs:List AV):mE f (.cells rw false ex sz cs)= .cells rw false ex sz (gm f cs):=rfl
def arM (f:Nat->Option Nat) (tm:Env) (ps:List Nat) (a b:VC) (st:Nat) (pe:zg):mE f (.lp tm ps a b st pe)= .lp (ma f tm) ps a b st pe:=rfl
def arN (tm:Env) (hp:Hp) (seen:List Nat):VP tm hp seen=⟨ma (pos seen) tm,lR hp (pos seen) seen 0 [],seen.length,0⟩:=rfl
attribute [go_sem] am1 alC ao8 am2 ao9 am3 apa am4 alD apb apc arz auc apd am5 alE arA ape aud aue auf
 apf apg am6 arB arC aph arD api apj am7 arE apk arF apl arG apm am8 arH arI aug arJ apn am9 arK arL
 ana alF auh aui auj arM arN yy yG
end
section
open Go (IntKind)
section
variable {P:aI} {L:Lib}
def apo {α:Type} {p:α->Bool} {l:List α} {i:Nat} (h:i<l.length):(l.drop i).any p=(p l[i]||(l.drop (i+1)).any p):=by
 rw [yT h,ybn]
def axx (h:Has P L 132 KI) {v:AV} {l:List Int} (hv:bq v l) (hl:l.length<=1000000) {g:Nat} {cap:List AV} {p:Int->Bool} (hc:aK cap=true)
  (hz:∀x hp,cW deep hp (aa x::cap)=some (aa x::cap,hp)) (hg:∀x,af P L g (aa x::cap) (.bool (p x))):∃n:Int,af P L 132 [v,.fn (.f g) [] cap] (aa n)/\decide (0<=n)=l.any p:=by
 have EV:aS (.fn (.f g) [] cap)=true:=by simp [aS,aK,hc]
 simp only [af,deep] at hg hz;have key:=Jz (P:=P) (L:=L) (live:=[0,1,7,8]) (a:=Om)
  (I:=fun k s=>∃tm ct i,s=⟨tm,[],ct,0⟩/\ab tm 0=v/\ab tm 1= .fn (.f g) [] cap/\ab tm 7=aa l.length/\ab tm 8=aa (i:Nat)/\i+k=l.length/\(l.drop i).any p=l.any p)
  (Q:=fun ex s=>∃tm,s=⟨tm,[],0,0⟩/\((∃n:Int,ex= .ret/\ab tm 4=aa n/\0<=n/\l.any p=true)\/(ex= .exit 0/\l.any p=false))) ?_ l.length
 ·simp only [af];rw [aq h];simp only [go_sem,ya,KI,hv.len];generalize hq:D P L (.loop [0,1,7,8] Om) _=q;obtain ⟨ex,s,rfl,tm,rfl,h2⟩:=bV hq key ⟨_,_,0,rfl,rfl,rfl,rfl,rfl,by omega,rfl⟩;rcases h2 with ⟨n,rfl,h2,h3,h4⟩ | ⟨rfl,h2⟩
  ·exact ⟨n,by simp only [go_sem,h2],by rw [h4];simpa using h3⟩
  ·exact ⟨-1,by simp only [go_sem],by rw [h2];decide⟩
 ·rintro k s ⟨tm,ct,i,rfl,h0,h1,h7,h8,hk,hf⟩;rw [MU (by simp only [go_sem,h0,h1,h7,h8,hv.pu,EV])];simp only [go_sem,ya,h0,h1,h7,h8,Om];by_cases hi:i<l.length
  ·have cu:(i:Int)<l.length:=by omega
   rw [apo hi] at hf
   cases fZ:p l[i] with
   | false=>
    left
    simp only [go_sem,ya,cu,hv.aY hi,hz,hg,fZ];refine ⟨_,k-1,rfl,by omega,_,_,i+1,rfl,?_⟩;rw [wrap64 (by omega) (by omega)];rw [fZ,vI] at hf;simp only [go_sem,ya];exact ⟨trivial,trivial,trivial,rfl,by omega,hf⟩
   | true=>
    right
    simp only [go_sem,ya,cu,hv.aY hi,hz,hg,fZ];refine ⟨_,_,rfl,by simp,_,rfl,.inl ⟨i,rfl,?_,by omega,?_⟩⟩
    ·simp only [go_sem]
    ·rw [<-hf,fZ,Bool.true_or]
  ·right
   have cu:¬(i:Int)<l.length:=by omega
   simp only [go_sem,cu];refine ⟨_,_,rfl,by simp,_,rfl,.inr ⟨rfl,?_⟩⟩;rw [<-hf,xh (by omega)];rfl
def s95 (h:Has P L 95 QV) (VR:Has P L 132 KI) {v:AV} {l:List Int} (hv:bq v l) (hl:l.length<=1000000) {g:Nat} {cap:List AV} {p:Int->Bool} (hc:aK cap=true)
  (hz:∀x hp,cW deep hp (aa x::cap)=some (aa x::cap,hp)) (hg:∀x,af P L g (aa x::cap) (.bool (p x)))
  (jh:∀n hp,freeze (n+500) hp (.fn (.f g) [] cap)=some (.fn (.f g) [] cap,hp)):af P L 95 [v,.fn (.f g) [] cap] (.bool (l.any p)):=by
 obtain ⟨n,h1,h2⟩:=axx VR hv hl hc hz hg;unfold af at h1 ⊢;rw [aq h];have axy:∀hp,freeze 998 hp (.fn (.f g) [] cap)=some (.fn (.f g) [] cap,hp):=fun hp=>jh 498 hp
 simp only [go_sem,ya,QV,hv.ah,axy,h1,h2]
def s94 (h:Has P L 94 Hw) {m:Int} (hm:0<=m) (fR:m<=1000000) (x:Int):af P L 94 [aa x,.bi [aa m]] (.bool (decide (x< -m\/m<x))):=by
 unfold af;rw [aq h];by_cases h1:x< -m
 ·simp only [go_sem,ya,Hw,NN,wrap64 (n:=0-m) (by omega) (by omega),show x<0-m by omega,h1,true_or]
 ·by_cases h2:m<x
  ·simp only [go_sem,ya,Hw,NN,wrap64 (n:=0-m) (by omega) (by omega),show ¬x<0-m by omega,h1,h2,or_true]
  ·simp only [go_sem,ya,Hw,NN,wrap64 (n:=0-m) (by omega) (by omega),show ¬x<0-m by omega,h1,h2,or_self]
def apq (m:Int) (l:List Int):l.any (fun x=>decide (x< -m\/m<x))=cw (-m) m l:=by
 induction l with
 | nil=>rfl
 | cons a r ih=>
  simp only [ybn,cw,ih]
  grind
structure Sq (P:aI) (L:Lib):Prop where
 XK:Has P L 32 Xq
 fF:Has P L 31 Bl
 nK:Has P L 33 LX
 h94:Has P L 94 Hw
 h95:Has P L 95 QV
 VR:Has P L 132 KI
 h4:Has P L 4 c4
 h9:Has P L 9 c9
def XL (h:Sq P L) {v:AV} {s:List (List Int)} (hv:bU v s) (hl:s.length<=1000000) (hr:∀i (hi:i<s.length),s[i].length<=1000000) {m:Int} (hm:0<=m) (fR:m<=1000000):
  af P L 32 [v,aa m] (aa (dT s.length (-m) m s)):=by
 have key:=cg (P:=P) (L:=L) (live:=[0,3,9,10,11]) (a:=OK)
  (I:=fun k st=>∃(i:Nat) (rw:Bool),st=⟨[(0,v),(3,.ptr 0 0),(9,v),(10,aa s.length),(11,aa i)],[(0,.cells rw true true 1 [aa m])],1,0⟩/\i+k=s.length/\dT s.length (-m) m (s.drop i)=dT s.length (-m) m s)
  (Q:=fun ex st=>∃tm hp ct,st=⟨tm,hp,ct,0⟩/\((ex= .ret/\ab tm 4=aa (dT s.length (-m) m s))\/(ex= .exit 0/\dT s.length (-m) m s=0))) ?_
 ·unfold af;rw [aq h.XK];simp only [go_sem,ya,yb,Xq,hv.len];generalize hq:D P L (.loop [0,3,9,10,11] OK) _=q;obtain ⟨ex,st,rfl,tm,hp,ct,rfl,h2⟩:=bV hq (key s.length) ⟨0,true,by simp only [go_sem,ya,yb,av,az hv.pu,aE _ hv.pu]<;>rfl,by omega,rfl⟩
  rcases h2 with ⟨rfl,h2⟩ | ⟨rfl,h2⟩
  ·simp only [go_sem,h2]
  ·rw [h2];simp only [go_sem,av]
 ·rintro k st ⟨i,rw,rfl,hk,hf⟩;simp only [go_sem,ya,OK];by_cases hi:i<s.length
  ·have cu:(i:Int)<s.length:=by omega
   rw [Sf hi] at hf;obtain ⟨r,rest,bS,dQ⟩:=hv.aY hi;have hc:af P L 95 [r,.fn (.f 94) [] [.bi [aa m]]] (.bool (cw (-m) m s[i])):=by
    rw [<-apq];exact s95 h.h95 h.VR bS (hr i hi) rfl (fun x hp=>by simp only [go_sem]) (fun x=>s94 h.h94 hm fR x) (fun n hp=>by simp only [go_sem])
   have jj:∀a b:Int,af P L 33 [.aO true 2 [.int .i64 a,.int .i64 b]] (aa (bn [a,b])):=fun a b=>qV h.nK (fN true [a,b]) (by simp)
   unfold af at hc jj;by_cases h1:s[i].length=s.length
   ·have CU:(s[i].length:Int)=s.length:=by omega
    simp only [h1,uZ,wD,yN] at hf
    cases h2:cw (-m) m s[i] with
    | false=>
     left
     simp only [h2,yA,yN] at hf;cases rw<;>simp only [go_sem,ya,yb,yt,ye,yi,cu,dQ,hc,CU,h2,nJ h.fF,jj,bS.len,bS.ah,hv.len,yA,yN,bn,yV]
     all_goals
      refine ⟨_,k-1,rfl,by omega,i+1,false,?_,by omega,hf⟩;rw [wrap64 (by omega) (by omega)];simp only [go_sem,ya,yb,av,az hv.pu,aE _ hv.pu];rfl
    | true=>
     right
     simp only [h2,yV] at hf;cases rw<;>simp only [go_sem,ya,yb,yt,ye,yi,cu,dQ,hc,CU,h2,nJ h.fF,jj,bS.len,bS.ah,hv.len,yA,yN,bn,yV,vn]
     all_goals
      refine ⟨_,_,rfl,by simp,_,_,_,rfl,.inl ⟨rfl,?_⟩⟩;simp only [go_sem,hf]
   ·right
    have CU:¬(s[i].length:Int)=s.length:=by omega
    simp only [h1,uZ,ux,yV] at hf;cases h2:cw (-m) m s[i]<;>cases rw<;>simp only [go_sem,ya,yb,yt,ye,yi,cu,dQ,hc,CU,h2,nJ h.fF,jj,bS.len,bS.ah,hv.len,yA,yN,bn,yV,vn]
    all_goals
     refine ⟨_,_,rfl,by simp,_,_,_,rfl,.inl ⟨rfl,?_⟩⟩;simp only [go_sem,hf]
  ·right
   have cu:¬(i:Int)<s.length:=by omega
   simp only [go_sem,cu];refine ⟨_,_,rfl,by simp,_,_,_,rfl,.inr ⟨rfl,?_⟩⟩;rw [<-hf,xh (by omega)];rfl
end
end
section
open Go (IntKind)
section
variable {P:aI} {L:Lib}
def s59 (h:Has P L 59 EP) {v w:AV} {l m:List Int} (hv:bq v l) (hw:bq w m) (hl:l.length<=1000000) (he:l=m):af P L 59 [v,w] (.bool true):=by
 subst he;have key:=cg (P:=P) (L:=L) (live:=[0,1,5]) (a:=OO)
  (I:=fun k st=>∃i:Nat,st=⟨[(0,v),(1,w),(5,aa i)],[],0,0⟩/\i+k=l.length)
  (Q:=fun ex st=>∃tm ct,st=⟨tm,[],ct,0⟩/\ex= .exit 0) ?_
 ·unfold af;rw [aq h];simp only [go_sem,ya,EP,hv.len,hw.len];generalize hq:D P L (.loop [0,1,5] OO) _=q;obtain ⟨ex,st,rfl,tm,ct,rfl,rfl⟩:=bV hq (key l.length) ⟨0,by simp only [go_sem,ya,av,az hv.pu,aE _ hv.pu,az hw.pu,aE _ hw.pu]<;>rfl,by omega⟩
  simp only [go_sem]
 ·rintro k st ⟨i,rfl,hk⟩;simp only [go_sem,ya,OO,hv.len];by_cases hi:i<l.length
  ·have cu:(i:Int)<l.length:=by omega
   left
   simp only [go_sem,ya,cu,hv.aY hi,hw.aY hi];refine ⟨_,k-1,rfl,by omega,i+1,?_,by omega⟩;rw [wrap64 (by omega) (by omega)];simp only [go_sem,ya,av,az hv.pu,aE _ hv.pu,az hw.pu,aE _ hw.pu]<;>rfl
  ·right
   simp only [go_sem,show ¬(i:Int)<l.length by omega];exact ⟨_,_,rfl,by simp,_,_,rfl,rfl⟩
def s21 (h:Has P L 21 Hu) (Bq:Has P L 59 EP) {v w:AV} {s t:List (List Int)} (hv:bU v s) (hw:bU w t) (hl:s.length<=1000000) (hr:∀i (hi:i<s.length),s[i].length<=1000000) (he:s=t):af P L 21 [v,w] (.bool true):=by
 subst he;have key:=cg (P:=P) (L:=L) (live:=[0,1,5]) (a:=OJ)
  (I:=fun k st=>∃i:Nat,st=⟨[(0,v),(1,w),(5,aa i)],[],0,0⟩/\i+k=s.length)
  (Q:=fun ex st=>∃tm ct,st=⟨tm,[],ct,0⟩/\ex= .exit 0) ?_
 ·unfold af;rw [aq h];simp only [go_sem,ya,Hu,hv.len,hw.len];generalize hq:D P L (.loop [0,1,5] OJ) _=q;obtain ⟨ex,st,rfl,tm,ct,rfl,rfl⟩:=bV hq (key s.length) ⟨0,by simp only [go_sem,ya,av,az hv.pu,aE _ hv.pu,az hw.pu,aE _ hw.pu]<;>rfl,by omega⟩
  simp only [go_sem]
 ·rintro k st ⟨i,rfl,hk⟩;simp only [go_sem,ya,OJ,hv.len];by_cases hi:i<s.length
  ·have cu:(i:Int)<s.length:=by omega
   obtain ⟨r,rest,bS,dQ⟩:=hv.aY hi;obtain ⟨q,OX,fa,ow⟩:=hw.aY hi;have hc:=s59 Bq bS fa (hr i hi) rfl;left
   simp only [go_sem,ya,cu,dQ,ow,bS.ah,fa.ah,hc];refine ⟨_,k-1,rfl,by omega,i+1,?_,by omega⟩;rw [wrap64 (by omega) (by omega)];simp only [go_sem,ya,av,az hv.pu,aE _ hv.pu,az hw.pu,aE _ hw.pu]<;>rfl
  ·right
   simp only [go_sem,show ¬(i:Int)<s.length by omega];exact ⟨_,_,rfl,by simp,_,_,rfl,rfl⟩
def s4 (h:Sq P L) {v:AV} {s:List (List Int)} (hv:bU v s) (hl:s.length<=1000000) (hr:∀i (hi:i<s.length),s[i].length<=1000000):af P L 4 [v] (aa (dz s)):=by
 have hc:=XL h hv hl hr (m:=1000) (by decide) (by decide);have hf:∀a b c:Int,af P L 33 [.aO true 3 [.int .i64 a,.int .i64 b,.int .i64 c]] (aa (bn [a,b,c])):=fun a b c=>qV h.nK (fN true [a,b,c]) (by simp)
 unfold af at hc hf ⊢;rw [aq h.h4];simp only [go_sem,ya,yb,yt,ye,yi,c4,hv.len,hv.ah,hc,nJ h.fF,hf];unfold dz;by_cases h1:s.length=0
 ·simp [h1,bn]
 ·by_cases h2:16<s.length
  ·simp [h1,h2,bn,show (16:Int)<s.length by omega]
  ·simp only [h1,h2,bn,show ¬(16:Int)<s.length by omega,show ¬(s.length:Int)=0 by omega,yp,yA,yN,yV]
   split<;>simp_all
end
end
end VE
