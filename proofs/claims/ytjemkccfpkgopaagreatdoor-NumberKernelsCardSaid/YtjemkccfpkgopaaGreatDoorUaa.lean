import GoSem.Core.Code
import GoSem.Core.Float
import GoSem.Core.Utf8
import Derived.CallsIn
import Derived.Laws.World
import GoSem.Op.Equal
import GoSem.Core.Region
import Derived.Below
import Derived.Laws.AppendOwn
import Derived.Laws.Rows
import Derived.WalkKit
import Derived.Laws.CopyRow
import Derived.Laws.Cells
import Derived.Laws.Strings
import Derived.Lib.Strings
import Derived.WideLaws
set_option linter.all false
set_option maxRecDepth 100000
open BitVec renaming ofInt→xG
open Bool renaming and_eq_true→ye,eq_iff_iff→td,false_eq_true→yJ
open Go renaming Addr→ug,BinOp→wR,Code→wL,Field→uK,FloatKind→vM,IntKind→yY,Oper→y5,Operand→xo,Program→y8,TypeId→yD,UnOp→ybH,Value→yf,World→yh,binOp→xJ,sizeOf→vJ
open Go.Utf8 renaming runeError→vS,valid→yap
open List renaming map_cons→xe,replicate→yq,take_succ_cons→wq
open Nat renaming add_assoc→uF,beq→yx,beq_eq→ybS,ble→yF,ble_eq→ybT,blt→yP,eq_of_beq_eq_true→ym,le_of_ble_eq_true→yA,le_refl→yo,le_trans→xf,testBit→ux
open Option renaming map_none→vG,map_some→wD
open Option.some renaming injEq→yd
open UInt8 renaming toNat→y9,toNat_inj→yaq
def wW:=@and_true
def yab:=@beq_iff_eq
def tH:=@beq_self_eq_true
def yS:=@cond_false
def yB:=@cond_true
def y7:=@decide_eq_false
def vD:=@decide_eq_false_iff_not
def xi:=@decide_eq_true
def xK:=@decide_eq_true_eq
def yv:=@decide_false
def yu:=@decide_true
def ybv:=@false_or
def xd:=@if_false
def yr:=@if_neg
def yE:=@if_pos
def xA:=@if_true
def ybU:=@not_true_eq_false
def uX:=@true_and
namespace VE
section
open Go (IntKind FloatKind BinOp UnOp)
inductive Fr where
 | f (n:Nat)
 | y (l:Nat)
 deriving DecidableEq,Inhabited
inductive AV where
 | int (k:yY) (n:Int)
 | bool (b:Bool)
 | bM (k:vM) (bits:Nat)
 | str (s:List Nat)
 | jU
 | ptr (id off:Nat)
 | bZ (cells:List AV)
 | aa
 | ai (ex:Bool) (n:Nat) (cells:List AV)
 | bt (ex:Bool) (sz n:Nat) (cells:List AV)
 | aC (id off n:Nat)
 | fn (f:Fr) (first cap:List AV)
 | iy
 | jy
 | map (id:Nat)
 | iV (ks vs:List AV)
 | it (id:Nat)
 | agg (cells:List AV)
 | ae (vs:List AV)
 | undef
 deriving Inhabited
inductive X where
 | t (i:Nat)
 | c (v:AV)
 deriving Inhabited
inductive Conv where
 | toInt (k:yY)
 | toFlt (k:vM)
 | str
 deriving Inhabited
inductive Md where
 | pure | own | heap | dyn
 deriving Inhabited
inductive Cut where
 | str
 | sl (sz:Nat)
 | ar (len sz:Nat)
 deriving Inhabited
inductive Ok where
 | b | sl | fn | ag (ks:List Nat)
 deriving Inhabited
inductive Op where
 | cf (x:X)
 | pick (c a b:X)
 | box (sz:Nat) (x:X)
 | fF (zero:List AV) (parts:List (Nat×Nat×X))
 | dT (n sz:Nat) (zero:List AV) (parts:List (Nat×Nat×X))
 | ld (sz:Nat) (ag:Bool) (x:X)
 | st (sz:Nat) (x v:X)
 | IB (x:X)
 | bin (op:wR) (x y:X)
 | eq (ne:Bool) (k:Ok) (x y:X)
 | un (op:ybH) (x:X)
 | cv (k:Conv) (x:X)
 | CH (f:Fr) (first cap:List X)
 | zi
 | fI (sz bytes:Nat) (zero:List AV) (len cap:X)
 | dG (k:Cut) (x:X) (lo hi:Option X)
 | off (k:Nat) (x:X)
 | JE (o sz:Nat) (ag:Bool) (x:X)
 | aM (sz:Nat) (x i:X)
 | Ff (len sz:Nat) (x i:X)
 | j9 (x i:X)
 | Fg (len sz:Nat) (ag:Bool) (x i:X)
 | Ol (kk:Nat) (zero:AV) (ok:Bool) (m k:X)
 | oP (kk:Nat) (m k v:X)
 | oQ (x:X)
 | oR (x:X)
 | ext (i:Nat) (x:X)
 | call (m:Md) (f:X) (xs:List X)
 | ir (rs:List (Nat×Bool×Nat)) (f:X) (xs:List X)
 | iX (rs:List (Nat×Bool×Nat)) (sz:Nat) (x v:X)
 | kh (rs:List (Nat×Bool×Nat)) (sz bytes:Nat) (s x:X)
 | aR (sz bytes:Nat) (s x:X)
 | mf (sz:Nat) (d s:X)
 | len (k:Nat) (x:X)
 | mn (xs:List X)
 | mx (xs:List X)
 deriving Inhabited
structure a7 where
 dst:Option Nat
 guard:Option (Nat×Bool)
 op:Op
 deriving Inhabited
inductive VC where
 | skip
 | aJ (ops:List a7)
 | seq (a b:VC)
 | cond (x:X) (a b:VC)
 | aF (id:Nat) (a:VC)
 | kp (live:List Nat)
 | fz (ts:List Nat)
 | loop (live:List Nat) (a:VC)
 | rf (f:X) (ps:List Nat) (assign body:VC)
 | exit (id:Nat)
 | ret
 deriving Inhabited
inductive RV where
 | t (i:Nat)
 | cell (i sz:Nat) (ag:Bool)
 deriving Inhabited
structure aX where
 fT:List RV
 body:VC
 deriving Inhabited
inductive sN where
 | none | ret | exit (id:Nat)
 deriving Inhabited,DecidableEq
abbrev Env:=List (Nat×AV)
inductive Obj where
 | cells (rw pu ex:Bool) (sz:Nat) (cs:List AV)
 | mp (rw:Bool) (ks vs:List AV)
 | si (s:List Nat) (pos:Nat)
 | lp (tm:Env) (ps:List Nat) (assign body:VC) (state:Nat) (pending:sN)
 deriving Inhabited
abbrev Hp:=List (Nat×Obj)
structure St where
 tm:Env
 hp:Hp
 ct:Nat
 base:Nat
 deriving Inhabited
inductive Ex where
 | normal
 | ret
 | exit (id:Nat)
 deriving Inhabited,DecidableEq
def aj:Env->Nat->AV
 | [],_=> .undef
 | (j,v)::r,i=>bif yx j i then v else aj r i
def aB:Hp->Nat->Option Obj
 | [],_=>none
 | (j,o)::r,i=>bif yx j i then some o else aB r i
def bc:Hp->Nat->Obj->Hp
 | [],_,_=>[]
 | (j,o)::r,i,u=>bif yx j i then (j,u)::r else (j,o)::bc r i u
def dU:Hp->Nat->Hp
 | [],_=>[]
 | (j,o)::r,i=>bif yx j i then dU r i else (j,o)::dU r i
mutual
def aZ:AV->Bool
 | .ptr _ _ | .aC _ _ _ | .map _ | .it _ | .bt _ _ _ _=>false
 | .fn (.y _) _ _=>false
 | .fn (.f _) first cap=>aG first&&aG cap
 | .agg cs=>aG cs
 | .ae vs=>aG vs
 | _=>true
def aG:List AV->Bool
 | []=>true
 | v::r=>aZ v&&aG r
end
def cellsOf:AV->List AV
 | .agg cs=>cs
 | v=>[v]
def dc:AV->Bool
 | .agg _ | .ae _ | .undef | .bt _ _ _ _=>false
 | _=>true
def cm:List AV->Bool
 | []=>true
 | v::r=>dc v&&cm r
def aE (tm:Env):X->AV
 | .t i=>aj tm i
 | .c v=>v
def dj (tm:Env):List X->List AV
 | []=>[]
 | x::r=>aE tm x::dj tm r
def slice (o n:Nat) (cs:List AV):List AV:=(cs.drop o).take n
def over (o:Nat) (new cs:List AV):List AV:=cs.take o++new++cs.drop (o+new.length)
mutual
def freeze:Nat->Hp->AV->Option (AV×Hp)
 | 0,_,_=>none
 | n+1,hp,v=>
  match v with
  | .aC id o k=>
   match qc n hp id with
   | some (ex,sz,cs,ap)=>
    bif yF (o+k*sz) cs.length then
     some (.ai (ex&&yP 0 sz&&yx (o+k*sz) cs.length) k (slice o (k*sz) cs),ap)
    else none
   | none=>none
  | .ptr id o=>
   match qc n hp id with
   | some (_,_,cs,ap)=>some (.bZ (cs.drop o),ap)
   | none=>none
  | .map id=>
   match aB hp id with
   | some (.mp _ ks vs)=>bif aG ks&&aG vs then some (.iV ks vs,bc hp id (.mp false ks vs)) else none
   | _=>none
  | .fn (.f g) first cap=>
   match cM n hp first with
   | some (afV,bi)=>
    match cM n bi cap with
    | some (MF,kj)=>some (.fn (.f g) afV MF,kj)
    | none=>none
   | none=>none
  | .agg cs=>match cM n hp cs with | some (dP,ap)=>some (.agg dP,ap) | none=>none
  | .ae cs=>match cM n hp cs with | some (dP,ap)=>some (.ae dP,ap) | none=>none
  | v=>bif aZ v then some (v,hp) else none
def qc:Nat->Hp->Nat->Option (Bool×Nat×List AV×Hp)
 | 0,_,_=>none
 | n+1,hp,id=>
  match aB hp id with
  | some (.cells rw pu ex sz cs)=>
   bif pu then some (ex,sz,cs,bif rw then bc hp id (.cells false true ex sz cs) else hp)
   else match cM n hp cs with
    | some (dP,ap)=>some (ex,sz,dP,bc ap id (.cells false false ex sz cs))
    | none=>none
  | _=>none
def cM:Nat->Hp->List AV->Option (List AV×Hp)
 | 0,_,_=>none
 | _+1,hp,[]=>some ([],hp)
 | n+1,hp,v::r=>
  match freeze n hp v with
  | some (v',bi)=>
   match cM n bi r with
   | some (r',kj)=>some (v'::r',kj)
   | none=>none
  | none=>none
end
def od (n:Nat) (hp:Hp) (v:AV):Option (AV×Hp):=
 match v with
 | .aC id o k=>
  match aB hp id with
  | some (.cells true true ex sz cs)=>
   bif yF (o+k*sz) cs.length then
    some (.bt (ex&&yP 0 sz&&yx (o+k*sz) cs.length) sz k (slice o (k*sz) cs),dU hp id)
   else none
  | _=>freeze n hp v
 | _=>freeze n hp v
def DK:List AV->Option (List Nat)
 | []=>some []
 | .aC id _ _::r=>match DK r with | some l=>bif l.any (yx id) then none else some (id::l) | none=>none
 | v::r=>bif aZ v then DK r else none
def r9 (n:Nat):Hp->List AV->Option (List AV×Hp)
 | hp,[]=>some ([],hp)
 | hp,v::r=>
  match od n hp v with
  | some (v',bi)=>match r9 n bi r with | some (r',kj)=>some (v'::r',kj) | none=>none
  | none=>none
def deep:Nat:=1000
def result (hp:Hp) (v:AV):Option AV:=
 match v with
 | .ae vs=>
  match DK vs with
  | some _=>match r9 deep hp vs with | some (dQ,_)=>some (.ae dQ) | none=>none
  | none=>match freeze deep hp v with | some (v',_)=>some v' | none=>none
 | v=>match od deep hp v with | some (v',_)=>some v' | none=>none
def bT:AV->AV
 | .bt ex _ n cs=> .ai ex n cs
 | v=>v
def B5:List AV->List AV
 | []=>[]
 | v::r=>bT v::B5 r
def shut:AV->AV
 | .bt ex _ n cs=> .ai ex n cs
 | .ae vs=> .ae (B5 vs)
 | v=>v
def fb (hp:Hp) (ct:Nat):AV->AV×Hp×Nat
 | .bt ex sz n cs=>(.aC ct 0 n,(ct,.cells true true ex sz cs)::hp,ct+1)
 | v=>(v,hp,ct)
def ji:Hp->Nat->List AV->List AV×Hp×Nat
 | hp,ct,[]=>([],hp,ct)
 | hp,ct,v::r=>((fb hp ct v).1::(ji (fb hp ct v).2.1 (fb hp ct v).2.2 r).1,(ji (fb hp ct v).2.1 (fb hp ct v).2.2 r).2)
def own (hp:Hp) (ct:Nat):AV->AV×Hp×Nat
 | .ae vs=>(.ae (ji hp ct vs).1,(ji hp ct vs).2)
 | v=>fb hp ct v
mutual
def refs:AV->List Nat
 | .ptr id _=>[id]
 | .aC id _ _=>[id]
 | .map id=>[id]
 | .it id=>[id]
 | .fn (.f _) first cap=>iQ first++iQ cap
 | .fn (.y l) _ _=>[l]
 | .agg cs=>iQ cs
 | .ae cs=>iQ cs
 | _=>[]
def iQ:List AV->List Nat
 | []=>[]
 | v::r=>refs v++iQ r
end
def iR:Env->List Nat
 | []=>[]
 | (_,v)::r=>refs v++iR r
def om:Obj->List Nat
 | .cells _ pu _ _ cs=>bif pu then [] else iQ cs
 | .mp _ ks vs=>iQ ks++iQ vs
 | .si _ _=>[]
 | .lp tm _ _ _ _ _=>iR tm
mutual
def b5 (f:Nat->Option Nat):AV->AV
 | .ptr id o=>match f id with | some j=> .ptr j o | none=> .undef
 | .aC id o n=>match f id with | some j=> .aC j o n | none=> .undef
 | .map id=>match f id with | some j=> .map j | none=> .undef
 | .it id=>match f id with | some j=> .it j | none=> .undef
 | .fn (.f g) first cap=> .fn (.f g) (fq f first) (fq f cap)
 | .fn (.y l) first cap=>match f l with | some j=> .fn (.y j) (fq f first) (fq f cap) | none=> .undef
 | .agg cs=> .agg (fq f cs)
 | .ae cs=> .ae (fq f cs)
 | v=>v
def fq (f:Nat->Option Nat):List AV->List AV
 | []=>[]
 | v::r=>b5 f v::fq f r
end
def jV (f:Nat->Option Nat):Env->Env
 | []=>[]
 | (i,v)::r=>(i,b5 f v)::jV f r
def kN (f:Nat->Option Nat):Obj->Obj
 | .cells rw pu ex sz cs=> .cells rw pu ex sz (bif pu then cs else fq f cs)
 | .mp rw ks vs=> .mp rw (fq f ks) (fq f vs)
 | .si s pos=> .si s pos
 | .lp tm ps cJ body st pe=> .lp (jV f tm) ps cJ body st pe
def dN (tm:Env):List Nat->Env
 | []=>[]
 | i::r=>(i,aj tm i)::dN tm r
def kO (i:Nat):List Nat->Bool
 | []=>false
 | j::r=>bif yx j i then true else kO i r
def reach (hp:Hp) (base:Nat):Nat->List Nat->List Nat->List Nat
 | 0,_,seen=>seen
 | _+1,[],seen=>seen
 | n+1,id::iz,seen=>
  bif yP id base||kO id seen then reach hp base n iz seen
  else match aB hp id with
   | some o=>reach hp base n (om o++iz) (seen++[id])
   | none=>reach hp base n iz seen
def iM (base:Nat):Hp->List Nat
 | []=>[]
 | (id,o)::r=>bif yP id base then om o++iM base r else iM base r
def lS (i:Nat):List Nat->Nat->Option Nat
 | [],_=>none
 | j::r,k=>bif yx j i then some k else lS i r (k+1)
def jP (base:Nat) (seen:List Nat) (id:Nat):Option Nat:=bif yP id base then some id else lS id seen base
def lO (base:Nat) (f:Nat->Option Nat):Hp->Hp
 | []=>[]
 | (id,o)::r=>bif yP id base then (id,kN f o)::lO base f r else lO base f r
def jQ (hp:Hp) (f:Nat->Option Nat):List Nat->Nat->Hp->Hp
 | [],_,acc=>acc
 | id::r,k,acc=>match aB hp id with | some o=>jQ hp f r (k+1) ((k,kN f o)::acc) | none=>jQ hp f r (k+1) acc
def aQ (live:List Nat) (s:St):St:=
 let tm:=dN s.tm live
 let seen:=reach s.hp s.base 100000 (iR tm++iM s.base s.hp) []
 let f:=jP s.base seen
 {tm:=jV f tm,hp:=jQ s.hp f seen s.base (lO s.base f s.hp),ct:=s.base+seen.length,base:=s.base}
def lE (hp:Hp) (sz:Nat):AV->Option (Nat×List AV)
 | .aa=>some (0,[])
 | .ai _ n cs=>bif yx cs.length (n*sz) then some (n,cs) else none
 | .aC id o n=>
  match aB hp id with
  | some (.cells _ _ _ _ cs)=>bif yF (o+n*sz) cs.length then some (n,slice o (n*sz) cs) else none
  | _=>none
 | _=>none
def Lz:List Nat->List AV
 | []=>[]
 | b::r=> .int .u8 b::Lz r
def AR:List Nat->List Nat->Bool
 | _,[]=>false
 | [],_::_=>true
 | a::x,b::y=>yP a b||(yx a b&&AR x y)
def cU:List Nat->List Nat->Bool
 | [],[]=>true
 | a::x,b::y=>yx a b&&cU x y
 | _,_=>false
def eb:List Nat->List AV->List AV->Option Bool
 | [],[],[]=>some true
 | 0::ks,.bool a::x,.bool b::y=>match eb ks x y with | some r=>some ((a==b)&&r) | none=>none
 | 1::ks,.int k a::x,.int k' b::y=>if k=k' then (match eb ks x y with | some r=>some ((a==b)&&r) | none=>none) else none
 | 2::ks,.str a::x,.str b::y=>match eb ks x y with | some r=>some (cU a b&&r) | none=>none
 | _,_,_=>none
def jj:Ok->AV->AV->Option Bool
 | .b,.bool a,.bool b=>some (a==b)
 | .sl,.aa,.aa=>some true
 | .sl,.aa,.ai _ _ _=>some false
 | .sl,.aa,.aC _ _ _=>some false
 | .sl,.ai _ _ _,.aa=>some false
 | .sl,.aC _ _ _,.aa=>some false
 | .fn,.iy,.iy=>some true
 | .fn,.iy,.fn _ _ _=>some false
 | .fn,.fn _ _ _,.iy=>some false
 | .ag ks,.agg a,.agg b=>eb ks a b
 | _,_,_=>none
def intCmp (op:wR) (x y:Int):Option Bool:=
 match op with
 | .eql=>some (x==y)
 | .neq=>some (x !=y)
 | .lss=>some (decide (x<y))
 | .leq=>some (decide (x<=y))
 | .gtr=>some (decide (x>y))
 | .geq=>some (decide (x>=y))
 | _=>none
def kL (op:wR) (k:yY) (x y:Int):Option AV:=
 match op with
 | .add=>some (.int k (k.wrap (x+y)))
 | .sub=>some (.int k (k.wrap (x-y)))
 | .mul=>some (.int k (k.wrap (x*y)))
 | .quo=>if y=0 then none else some (.int k (k.wrap (x.tdiv y)))
 | .rem=>if y=0 then none else some (.int k (x.tmod y))
 | .and=>some (.int k (k.wrap (xG k.bits x&&&xG k.bits y).toNat))
 | .or=>some (.int k (k.wrap (xG k.bits x|||xG k.bits y).toNat))
 | .xor=>some (.int k (k.wrap (xG k.bits x^^^xG k.bits y).toNat))
 | .andNot=>some (.int k (k.wrap (xG k.bits x&&&~~~(xG k.bits y)).toNat))
 | .shl | .shr=>none
 | op=>match intCmp op x y with | some b=>some (.bool b) | none=>none
def BE (op:wR) (k:yY) (x y:Int):Option AV:=
 if y<0 then none else
 match op with
 | .shl=>some (.int k (k.wrap (x*2^(min y.toNat k.bits))))
 | .shr=>some (.int k (x.fdiv (2^(min y.toNat k.bits))))
 | _=>none
def Ig (op:wR) (x y:List Nat):Option AV:=
 match op with
 | .add=>bif yF (x.length+y.length) 9223372036854775807 then some (.str (x++y)) else none
 | .eql=>some (.bool (cU x y))
 | .neq=>some (.bool (!cU x y))
 | .lss=>some (.bool (AR x y))
 | .leq=>some (.bool (AR x y||cU x y))
 | .gtr=>some (.bool (!(AR x y||cU x y)))
 | .geq=>some (.bool (!AR x y))
 | _=>none
def RN (op:wR) (k:vM) (x y:Nat):Option AV:=
 let c:=k.format.order x y
 let ar (r:Option Nat):Option AV:=match r with | some b=>some (.bM k b) | none=>none
 match op with
 | .add=>ar (k.format.add x y)
 | .sub=>ar (k.format.sub x y)
 | .mul=>ar (k.format.mul x y)
 | .quo=>ar (k.format.div x y)
 | .eql=>some (.bool (c==some .eq))
 | .neq=>some (.bool (c !=some .eq))
 | .lss=>some (.bool (c==some .lt))
 | .leq=>some (.bool (c==some .lt||c==some .eq))
 | .gtr=>some (.bool (c==some .gt))
 | .geq=>some (.bool (c==some .gt||c==some .eq))
 | _=>none
def binOp (op:wR) (x y:AV):Option AV:=
 match x,y with
 | .int k a,.int k' b=>
  match op with
  | .shl | .shr=>BE op k a b
  | _=>if k=k' then kL op k a b else none
 | .bM k a,.bM k' b=>if k=k' then RN op k a b else none
 | .str a,.str b=>Ig op a b
 | _,_=>none
def unOp (op:ybH) (x:AV):Option AV:=
 match op,x with
 | .neg,.int k n=>some (.int k (k.wrap (0-n)))
 | .xor,.int k n=>kL .xor k (if k.signed then -1 else k.max) n
 | .not,.bool b=>some (.bool !b)
 | .neg,.bM k b=>some (.bM k (b^^^2^(k.format.exponentBits+k.format.fractionBits)))
 | _,_=>none
def oB (c:Conv) (x:AV):Option AV:=
 match c,x with
 | .toInt k,.int _ n=>some (.int k (k.wrap n))
 | .toFlt k,.int _ n=>some (.bM k (k.nearest n))
 | .toInt k,.bM s b=>
  match (s.decode b).toInt .zero with
  | some n=>if k.min<=n/\n<=k.max then some (.int k n) else none
  | none=>none
 | .toFlt k,.bM s b=>
  if s=k then some (.bM k b) else
  match s.decode b with
  | .number sg m e=>if (k.decode (k.encode (.number sg m e))).isInfinity then none else some (.bM k (k.encode (.number sg m e)))
  | _=>none
 | .str,.str s=>some (.str s)
 | _,_=>none
def gP (sz:Nat) (ag:Bool) (cs:List AV):Option AV:=
 bif ag then (bif yF sz cs.length then some (.agg (cs.take sz)) else none)
 else match cs with | v::_=>some v | []=>none
def dl (x:AV):Option Nat:=
 match x with
 | .int _ n=>match n with | .ofNat k=>some k | .negSucc _=>none
 | _=>none
def cW (tm:Env) (d:Nat):Option X->Option Nat
 | none=>some d
 | some x=>dl (aE tm x)
def eV (hp:Hp) (k:Cut) (x:AV) (tm:Env) (lo hi:Option X):Option AV:=
 match k,x with
 | .str,.str s=>
  match cW tm 0 lo,cW tm s.length hi with
  | some l,some h=>bif yF l h&&yF h s.length then some (.str ((s.take h).drop l)) else none
  | _,_=>none
 | .sl _,.aa=>
  match cW tm 0 lo,cW tm 0 hi with
  | some 0,some 0=>some .aa
  | _,_=>none
 | .sl sz,.ai ex n cs=>
  match cW tm 0 lo,cW tm n hi with
  | some l,some h=>bif yF l h&&yF h n then some (.ai (ex&&yx h n) (h-l) (slice (l*sz) ((h-l)*sz) cs)) else none
  | _,_=>none
 | .sl sz,.aC id o n=>
  match aB hp id with
  | some (.cells _ _ _ z _)=>
   match cW tm 0 lo,cW tm n hi with
   | some l,some h=>
    bif yF l h&&yF h n&&yx z sz then
     bif yx l h&& !yx l 0 then some (.ai false 0 []) else some (.aC id (o+l*sz) (h-l))
    else none
   | _,_=>none
  | _=>none
 | _,_=>none
def fill (tm:Env):List AV->List (Nat×Nat×X)->Option (List AV)
 | cs,[]=>some cs
 | cs,(o,sz,x)::r=>
  let new:=cellsOf (aE tm x)
  bif yx new.length sz&&yF (o+sz) cs.length&&cm new then fill tm (over o new cs) r else none
def Ea:AV->AV->Option Bool
 | .int k a,.int k' b=>if k=k' then some (a==b) else none
 | .str a,.str b=>some (cU a b)
 | .bool a,.bool b=>some (a==b)
 | _,_=>none
def sd:Nat->AV->Bool
 | 0,.bool _=>true
 | 1,.int _ _=>true
 | 2,.str _=>true
 | _,_=>false
def B6 (k:AV):List AV->List AV->Option (Option AV)
 | [],_=>some none
 | k'::ks,v::vs=>match Ea k k' with | some true=>some (some v) | some false=>B6 k ks vs | none=>none
 | _::_,[]=>none
def Au (k v:AV):List AV->List AV->Option (List AV×List AV)
 | [],[]=>some ([k],[v])
 | k'::ks,u::us=>
  match Ea k k' with
  | some true=>some (k'::ks,v::us)
  | some false=>match Au k v ks us with | some (jA,XY)=>some (k'::jA,u::XY) | none=>none
  | none=>none
 | _,_=>none
def min2:AV->AV->Option AV
 | .int k x,.int _ y=>some (.int k (if y<x then y else x))
 | .bM k x,.bM _ y=>
  match k.format.order x y with
  | none=>none
  | some .lt=>some (.bM k x)
  | some .gt=>some (.bM k y)
  | some .eq=>some (.bM k (if (k.decode x).neg then x else y))
 | _,_=>none
def max2:AV->AV->Option AV
 | .int k x,.int _ y=>some (.int k (if y>x then y else x))
 | .bM k x,.bM _ y=>
  match k.format.order x y with
  | none=>none
  | some .lt=>some (.bM k y)
  | some .gt=>some (.bM k x)
  | some .eq=>some (.bM k (if (k.decode x).neg then y else x))
 | _,_=>none
def Aj (f:AV->AV->Option AV):AV->List AV->Option AV
 | a,[]=>some a
 | a,b::r=>match f a b with | some c=>Aj f c r | none=>none
def room:Nat:=1099511627776
abbrev fJ:=Option (AV×Hp×Nat)
def iA (hp:Hp) (sz:Nat) (ag:Bool):AV->Option AV
 | .ptr id o=>match aB hp id with | some (.cells _ _ _ _ cs)=>gP sz ag (cs.drop o) | _=>none
 | .bZ cs=>gP sz ag cs
 | _=>none
def Ih (k:Nat):AV->Option AV
 | .ptr id o=>some (.ptr id (o+k))
 | .bZ cs=>bif yF k cs.length then some (.bZ (cs.drop k)) else none
 | _=>none
def Mh (o sz:Nat) (ag:Bool):AV->Option AV
 | .agg cs=>gP sz ag (cs.drop o)
 | _=>none
def jv (sz i:Nat):AV->Option AV
 | .aC id o n=>bif yP i n then some (.ptr id (o+i*sz)) else none
 | .ai _ n cs=>bif yP i n then some (.bZ (cs.drop (i*sz))) else none
 | _=>none
def Mi (len sz i:Nat):AV->Option AV
 | .ptr id o=>bif yP i len then some (.ptr id (o+i*sz)) else none
 | .bZ cs=>bif yP i len then some (.bZ (cs.drop (i*sz))) else none
 | _=>none
def mz (i:Nat):AV->Option AV
 | .str s=>match s[i]? with | some b=>some (.int .u8 b) | none=>none
 | _=>none
def Mj (len sz:Nat) (ag:Bool) (i:Nat):AV->Option AV
 | .agg cs=>bif yP i len then gP sz ag (cs.drop (i*sz)) else none
 | _=>none
def Ak (hp:Hp) (k:AV):AV->Option (Option AV)
 | .jy=>some none
 | .map id=>match aB hp id with | some (.mp _ ks vs)=>B6 k ks vs | _=>none
 | .iV ks vs=>B6 k ks vs
 | _=>none
def fp (hp:Hp):Nat->AV->Option AV
 | 0,.str s=>some (.int .i64 s.length)
 | 1,.aa=>some (.int .i64 0)
 | 1,.ai _ n _=>some (.int .i64 n)
 | 1,.aC _ _ n=>some (.int .i64 n)
 | 2,.jy=>some (.int .i64 0)
 | 2,.iV ks _=>some (.int .i64 ks.length)
 | 2,.map id=>match aB hp id with | some (.mp _ ks _)=>some (.int .i64 ks.length) | _=>none
 | _,_=>none
def bw (tm:Env) (hp:Hp):Op->Option AV
 | .cf x=>some (aE tm x)
 | .pick c a b=>match aE tm c with | .bool t=>some (bif t then aE tm a else aE tm b) | _=>none
 | .fF zero parts=>match fill tm zero parts with | some cs=>some (.agg cs) | none=>none
 | .ld sz ag x=>iA hp sz ag (aE tm x)
 | .IB x=>
  match aE tm x with
  | .ptr id o=>some (.ptr id o)
  | .bZ cs=>some (.bZ cs)
  | .fn f a b=>some (.fn f a b)
  | _=>none
 | .bin op x y=>binOp op (aE tm x) (aE tm y)
 | .eq ne k x y=>match jj k (aE tm x) (aE tm y) with | some r=>some (.bool (ne !=r)) | none=>none
 | .un op x=>unOp op (aE tm x)
 | .cv k x=>oB k (aE tm x)
 | .CH f first cap=>some (.fn f (dj tm first) (dj tm cap))
 | .dG k x lo hi=>eV hp k (aE tm x) tm lo hi
 | .off k x=>Ih k (aE tm x)
 | .JE o sz ag x=>Mh o sz ag (aE tm x)
 | .aM sz x i=>match dl (aE tm i) with | some j=>jv sz j (aE tm x) | none=>none
 | .Ff len sz x i=>match dl (aE tm i) with | some j=>Mi len sz j (aE tm x) | none=>none
 | .j9 x i=>match dl (aE tm i) with | some j=>mz j (aE tm x) | none=>none
 | .Fg len sz ag x i=>match dl (aE tm i) with | some j=>Mj len sz ag j (aE tm x) | none=>none
 | .Ol kk zero ok m k=>
  bif sd kk (aE tm k) then
   match Ak hp (aE tm k) (aE tm m) with
   | some (some v)=>some (bif ok then .ae [v,.bool true] else v)
   | some none=>some (bif ok then .ae [zero,.bool false] else zero)
   | none=>none
  else none
 | .ext i x=>match aE tm x with | .ae vs=>vs[i]? | _=>none
 | .len k x=>fp hp k (aE tm x)
 | .mn xs=>match dj tm xs with | a::r=>Aj min2 a r | []=>none
 | .mx xs=>match dj tm xs with | a::r=>Aj max2 a r | []=>none
 | _=>none
def cO (tm:Env) (hp:Hp) (ct:Nat):Op->Option (AV×Obj)
 | .box sz x=>
  let cs:=cellsOf (aE tm x)
  bif yx cs.length sz&&cm cs then some (.ptr ct 0,.cells true (aG cs) true sz cs) else none
 | .dT n sz zero parts=>
  match fill tm zero parts with
  | some cs=>bif yx cs.length (n*sz) then some (.aC ct 0 n,.cells true (aG cs) true sz cs) else none
  | none=>none
 | .fI sz bytes zero len cap=>
  match dl (aE tm len),dl (aE tm cap) with
  | some l,some c=>
   bif yF l c&&(yF c room&&(yF (c*bytes) room&&(yx zero.length sz&&cm zero))) then
    some (.aC ct 0 l,.cells true (aG zero) (yx l c) sz (yq l zero).flatten)
   else none
  | _,_=>none
 | .zi=>some (.map ct,.mp true [] [])
 | .oQ x=>match aE tm x with | .str s=>some (.it ct,.si s 0) | _=>none
 | _=>none
def decodeL (s:List Nat) (i:Nat):Nat×Nat:=
 let at' (k:Nat):Nat:=s.getD (i+k) 0
 let cont (k:Nat):Bool:=decide (i+k<s.length)&&at' k/64==2
 let b0:=at' 0
 if b0<0x80 then (b0,1)
 else if b0/32==6&&cont 1 then
  let c:=(b0%32)*64+at' 1%64
  if c>=0x80 then (c,2) else (vS,1)
 else if b0/16==14&&cont 1&&cont 2 then
  let c:=(b0%16)*4096+(at' 1%64)*64+at' 2%64
  if c>=0x800&&yap c then (c,3) else (vS,1)
 else if b0/8==30&&cont 1&&cont 2&&cont 3 then
  let c:=(b0%8)*262144+(at' 1%64)*4096+(at' 2%64)*64+at' 3%64
  if c>=0x10000&&yap c then (c,4) else (vS,1)
 else (vS,1)
def so (hp:Hp) (sz:Nat):AV->Option (Nat×List AV)
 | .str b=>bif yx sz 1 then some (b.length,Lz b) else none
 | v=>lE hp sz v
def cI (tm:Env) (hp:Hp) (ct:Nat):Op->fJ
 | .st sz x v=>
  let new:=cellsOf (aE tm v)
  match aE tm x with
  | .ptr id o=>
   match aB hp id with
   | some (.cells true pu ex z cs)=>
    bif yx new.length sz&&yF (o+sz) cs.length&&cm new then
     some (.ae [],bc hp id (.cells true (pu&&aG new) ex z (over o new cs)),ct)
    else none
   | _=>none
  | _=>none
 | .oP kk m k v=>
  match aE tm m with
  | .map id=>
   match aB hp id with
   | some (.mp true ks vs)=>bif !sd kk (aE tm k) then none else match Au (aE tm k) (aE tm v) ks vs with | some (jA,dQ)=>some (.ae [],bc hp id (.mp true jA dQ),ct) | none=>none
   | _=>none
  | _=>none
 | .oR x=>
  match aE tm x with
  | .it id=>
   match aB hp id with
   | some (.si s pos)=>
    bif yP pos s.length then
     match decodeL s pos with
     | (c,wd)=>some (.ae [.bool true,.int .i64 pos,.int .i32 c],bc hp id (.si s (pos+wd)),ct)
    else some (.ae [.bool false],hp,ct)
   | _=>none
  | _=>none
 | .aR sz bytes s x=>
  match so hp sz (aE tm x) with
  | none=>none
  | some (m,new)=>
   match aE tm s with
   | .aa=>
    bif yx m 0 then some (.aa,hp,ct)
    else bif yF m room&&(yF (m*bytes) room&&yP 0 sz) then some (.aC ct 0 m,(ct,.cells true (aG new) false sz new)::hp,ct+1) else none
   | .ai true n cs=>
    bif yx m 0 then some (.ai true n cs,hp,ct)
    else bif yF (n+m) room&&(yF ((n+m)*bytes) room&&(yx cs.length (n*sz)&&yP 0 sz)) then some (.aC ct 0 (n+m),(ct,.cells true (aG cs&&aG new) false sz (cs++new))::hp,ct+1) else none
   | .aC id o n=>
    match aB hp id with
    | some (.cells true pu _ z cs)=>
     bif yx z sz&&(yF (n+m) room&&(yF ((n+m)*bytes) room&&(yF (o+n*sz) cs.length&&(yP 0 sz&&cm new)))) then
      some (.aC ct 0 (n+m),(ct,.cells true (pu&&aG new) false sz (slice o (n*sz) cs++new))::dU hp id,ct+1)
     else none
    | _=>none
   | _=>none
 | .mf sz d s=>
  match lE hp sz (aE tm s),aE tm d with
  | some (m,new),.aC id o n=>
   match aB hp id with
   | some (.cells true pu ex z cs)=>
    bif yx z sz&&(yF (o+n*sz) cs.length&&cm new) then
     some (.int .i64 (min m n:Nat),bc hp id (.cells true (pu&&aG new) ex z (over o (new.take (min m n*sz)) cs)),ct)
    else none
   | _=>none
  | _,_=>none
 | _=>none
def iw:X->List Nat | .t i=>[i] | .c _=>[]
def sr:List X->List Nat
 | []=>[]
 | x::r=>iw x++sr r
def Ii:Option X->List Nat | some x=>iw x | none=>[]
def Ij:List (Nat×Nat×X)->List Nat
 | []=>[]
 | (_,_,x)::r=>iw x++Ij r
def jO:Op->List Nat
 | .cf x | .box _ x | .ld _ _ x | .IB x | .un _ x | .cv _ x | .off _ x | .JE _ _ _ x | .oQ x | .oR x | .ext _ x | .len _ x=>iw x
 | .pick a b c | .oP _ a b c=>iw a++(iw b++iw c)
 | .fF _ ps | .dT _ _ _ ps=>Ij ps
 | .st _ a b | .bin _ a b | .eq _ _ a b | .aM _ a b | .Ff _ _ a b | .j9 a b | .Fg _ _ _ a b | .Ol _ _ _ a b | .aR _ _ a b | .mf _ a b=>iw a++iw b
 | .CH _ a b=>sr a++sr b
 | .zi=>[]
 | .fI _ _ _ a b=>iw a++iw b
 | .dG _ x a b=>iw x++(Ii a++Ii b)
 | .call _ f xs=>iw f++sr xs
 | .ir _ f xs=>iw f++sr xs
 | .iX _ _ a b=>iw a++iw b
 | .kh _ _ _ a b=>iw a++iw b
 | .mn xs | .mx xs=>sr xs
def bA:Op->Nat
 | .cf _ | .pick _ _ _ | .fF _ _ | .IB _ | .bin _ _ _ | .eq _ _ _ _ | .un _ _ | .cv _ _ | .CH _ _ _ | .off _ _ | .JE _ _ _ _ | .aM _ _ _ | .Ff _ _ _ _ | .j9 _ _ | .Fg _ _ _ _ _ | .ext _ _ | .mn _ | .mx _=>0
 | .dG .str _ _ _ | .len 0 _ | .len 1 _=>0
 | .st _ _ _ | .oP _ _ _ _ | .oR _ | .aR _ _ _ _ | .mf _ _ _ | .ir _ _ _ | .iX _ _ _ _ | .kh _ _ _ _ _ | .call .heap _ _ | .call .dyn _ _=>2
 | _=>1
def RO:Option (Nat×Bool)->List Nat | some (t,_)=>[t] | none=>[]
def BK (o:a7):List Nat:=RO o.guard++jO o.op
def Ej (d:Option Nat) (l:List Nat):Bool:=match d with | some i=>kO i l | none=>false
def ag6 (d e:Option Nat):Bool:=match d,e with | some i,some j=>yx i j | _,_=>false
def Ld (a b:a7):Bool:=Ej a.dst (BK b)||Ej b.dst (BK a)||ag6 a.dst b.dst
def Cf (sz:Nat) (ag:Bool) (t:Nat):List (Nat×Bool×Nat)->Bool
 | []=>false
 | (s,g,u)::r=>(yx s sz&&(g==ag&&yx u t))||Cf sz ag t r
def B7 (t:Nat):List a7->Bool
 | []=>true
 | o::r=> !Ej o.dst [t]&&B7 t r
def Hn (a b:a7) (r:List a7):Bool:=
 match a.guard,a.op,b.op with
 | none,.ld sz ag (.t t),.ir rs _ _=>Cf sz ag t rs&&B7 t (a::r)
 | none,.ld sz ag (.t t),.iX rs _ _ _=>Cf sz ag t rs&&B7 t (a::r)
 | none,.ld sz ag (.t t),.kh rs _ _ _ _=>Cf sz ag t rs&&B7 t (a::r)
 | _,_,_=>false
def G0 (a b:a7):Bool:=
 match bA a.op,bA b.op with
 | 1,2 | 2,1 | 2,2=>true
 | _,_=>false
def Lf (m:Nat) (b:a7):List a7->Nat->Bool
 | [],_=>true
 | a::r,i=>(ux m i|| !(Ld a b||(G0 a b&& !Hn a b r)))&&Lf m b r (i+1)
def DD (done:List a7):List a7->List Nat->Bool
 | [],_=>true
 | b::r,m::ms=>Lf m b done 0&&DD (done++[b]) r ms
 | _::_,[]=>false
def Ho (m:Nat):List a7->Nat->List (Nat×Bool×Nat)
 | [],_=>[]
 | a::r,i=>
  match ux m i,a with
  | false,⟨_,none,.ld sz ag (.t t)⟩=>(sz,ag,t)::Ho m r (i+1)
  | _,_=>Ho m r (i+1)
def stOp (rs:List (Nat×Bool×Nat)) (sz:Nat) (x v:X):Op:=match rs with | []=> .st sz x v | rs=> .iX rs sz x v
def ahW (rs:List (Nat×Bool×Nat)) (sz b:Nat) (x v:X):Op:=match rs with | []=> .aR sz b x v | rs=> .kh rs sz b x v
def mA (done:List a7):List a7->List Nat->List a7
 | ⟨d,g,.ir _ f xs⟩::r,m::ms=>let o:a7:=⟨d,g,.ir (Ho m done 0) f xs⟩;o::mA (done++[o]) r ms
 | ⟨d,g,.st sz x v⟩::r,m::ms=>let o:a7:=⟨d,g,stOp (Ho m done 0) sz x v⟩;o::mA (done++[o]) r ms
 | ⟨d,g,.aR sz b x v⟩::r,m::ms=>let o:a7:=⟨d,g,ahW (Ho m done 0) sz b x v⟩;o::mA (done++[o]) r ms
 | o::r,_::ms=>o::mA (done++[o]) r ms
 | l,_=>l
abbrev aH:=Nat->Option aX
structure Lib where
 pure:Nat->Option (List AV->Option AV)
 heap:Nat->Option (Hp->Nat->List AV->fJ)
abbrev cy:=VC->St->Option (Ex×St)
def eO:Nat->List AV->Env
 | _,[]=>[]
 | i,v::r=>(i,v)::eO (i+1) r
def results1 (s:St):RV->Option AV
 | .t i=>some (aj s.tm i)
 | .cell i sz ag=>
  match aj s.tm i with
  | .ptr id o=>match aB s.hp id with | some (.cells _ _ _ _ cs)=>gP sz ag (cs.drop o) | _=>none
  | .bZ cs=>gP sz ag cs
  | _=>none
def kJ (s:St):List RV->Option (List AV)
 | []=>some []
 | r::rest=>match results1 s r,kJ s rest with | some v,some vs=>some (v::vs) | _,_=>none
def ik (s:St) (rs:List RV):Option AV:=
 match kJ s rs with
 | some [v]=>some v
 | some vs=>some (.ae vs)
 | none=>none
def bH (P:aH) (L:Lib) (self:cy) (n:Nat) (aq:List AV):Option AV:=
 match L.pure n with
 | some sp=>sp aq
 | none=>
  match P n with
  | none=>none
  | some F=>
   match self F.body ⟨eO 0 aq,[],0,0⟩ with
   | some (.normal,s) | some (.ret,s)=>match ik s F.fT with | some v=>result s.hp v | none=>none
   | _=>none
def Re:Ex->sN
 | .normal=> .none
 | .ret=> .ret
 | .exit id=> .exit id
def qG:Env->List Nat->List AV->Option Env
 | tm,[],[]=>some tm
 | tm,p::ps,v::vs=>qG ((p,v)::tm) ps vs
 | _,_,_=>none
def gZ (P:aH) (L:Lib) (self:cy) (hp:Hp) (ct:Nat) (n:Nat) (aq:List AV):fJ:=
 match L.heap n with
 | some sp=>sp hp ct aq
 | none=>
  match P n with
  | none=>none
  | some F=>
   match self F.body ⟨eO 0 aq,hp,ct,ct⟩ with
   | some (.normal,s) | some (.ret,s)=>match ik s F.fT with | some v=>some (v,s.hp,s.ct) | none=>none
   | _=>none
def mZ (self:cy) (hp:Hp) (ct:Nat) (l:Nat) (xs:List AV):fJ:=
 match aB hp l with
 | some (.lp tm ps cJ body 0 _)=>
  match qG tm ps xs with
  | none=>none
  | some cg=>
   match self cJ ⟨cg,hp,ct,ct⟩ with
   | some (.normal,s1)=>
    match aB s1.hp l with
    | some (.lp jk CI AS B8 0 zj)=>
     match self body ⟨s1.tm,bc s1.hp l (.lp jk CI AS B8 1 zj),s1.ct,s1.ct⟩ with
     | some (ex,s2)=>
      match aB s2.hp l with
      | some (.lp ru JF JG Ik 1 _)=>
       match ex with
       | .normal=>some (.bool true,bc s2.hp l (.lp ru JF JG Ik 0 .none),s2.ct)
       | ex=>some (.bool false,bc s2.hp l (.lp ru JF JG Ik 2 (Re ex)),s2.ct)
      | _=>none
     | none=>none
    | _=>none
   | _=>none
 | _=>none
def ez (P:aH) (L:Lib) (self:cy) (hp:Hp) (ct:Nat) (m:Md) (fv:AV) (xs:List AV):fJ:=
 match fv with
 | .fn (.f n) first cap=>
  match m with
  | .pure=>
   match cM deep hp (first++(xs++cap)) with
   | some (aq,bi)=>match bH P L self n aq with | some r=>some (shut r,bi,ct) | none=>none
   | none=>none
  | .own=>
   match cM deep hp (first++(xs++cap)) with
   | some (aq,bi)=>match bH P L self n aq with | some r=>some (own bi ct r) | none=>none
   | none=>none
  | .heap=>gZ P L self hp ct n (first++(xs++cap))
  | .dyn=>
   bif aG (first++(xs++cap)) then
    match bH P L self n (first++(xs++cap)) with | some r=>some (shut r,hp,ct) | none=>none
   else gZ P L self hp ct n (first++(xs++cap))
 | .fn (.y l) _ _=>
  match m with
  | .heap | .dyn=>mZ self hp ct l xs
  | _=>none
 | _=>none
def Sc:AV->AV->Bool
 | .int k a,.int k' b=>decide (k=k')&&a==b
 | .bool a,.bool b=>a==b
 | .str a,.str b=>cU a b
 | .aa,.aa=>true
 | .jU,.jU=>true
 | .ptr i o,.ptr j p=>yx i j&&yx o p
 | .aC i o n,.aC j p m=>yx i j&&(yx o p&&yx n m)
 | .map i,.map j=>yx i j
 | _,_=>false
def nZ (tm:Env) (hp ap:Hp):List (Nat×Bool×Nat)->Bool
 | []=>true
 | (sz,ag,x)::r=>
  match iA hp sz ag (aj tm x),iA ap sz ag (aj tm x) with
  | some a,some b=>Sc a b&&nZ tm hp ap r
  | _,_=>false
def nd (tm:Env) (id:Nat):List (Nat×Bool×Nat)->Bool
 | []=>true
 | (_,_,x)::r=>(match aj tm x with | .ptr j _=> !yx j id | .bZ _=>true | _=>false)&&nd tm id r
def a8 (P:aH) (L:Lib) (self:cy) (tm:Env) (hp:Hp) (ct:Nat) (o:Op):fJ:=
 match o with
 | .call m f xs=>ez P L self hp ct m (aE tm f) (dj tm xs)
 | .ir rs f xs=>
  match ez P L self hp ct .dyn (aE tm f) (dj tm xs) with
  | some (v,ap,aY)=>bif nZ tm hp ap rs then some (v,ap,aY) else none
  | none=>none
 | .iX rs sz x v=>
  match aE tm x with
  | .ptr id _=>bif nd tm id rs then cI tm hp ct (.st sz x v) else none
  | _=>none
 | .kh rs sz b x v=>
  match cI tm hp ct (.aR sz b x v) with
  | some (v,ap,aY)=>bif nZ tm hp ap rs then some (v,ap,aY) else none
  | none=>none
 | .st .. | .oP .. | .oR .. | .aR .. | .mf .. =>cI tm hp ct o
 | .box .. | .dT .. | .fI .. | .zi | .oQ .. =>match cO tm hp ct o with | some (v,b)=>some (v,(ct,b)::hp,ct+1) | none=>none
 | o=>match bw tm hp o with | some v=>some (v,hp,ct) | none=>none
def put (d:Option Nat) (v:AV) (tm:Env):Env:=
 match d with
 | some i=>(i,v)::tm
 | none=>tm
def dA (P:aH) (L:Lib) (self:cy):List a7->St->Option St
 | [],s=>some s
 | ⟨d,g,o⟩::r,s=>
  let want:=match g with | none=>some true | some (t,b)=>match aj s.tm t with | .bool c=>some (c==b) | .ae []=>some false | _=>none
  match want with
  | some true=>
   match a8 P L self s.tm s.hp s.ct o with
   | some (v,hp,ct)=>dA P L self r {s with tm:=put d v s.tm,hp:=hp,ct:=ct}
   | none=>none
  | some false=>dA P L self r {s with tm:=put d (.ae []) s.tm}
  | none=>none
def ot:List Nat->St->Option St
 | [],s=>some s
 | t::r,s=>
  match freeze deep s.hp (aj s.tm t) with
  | some (v,hp)=>ot r {s with tm:=(t,v)::s.tm,hp:=hp}
  | none=>none
def bF (P:aH) (L:Lib) (self:cy):VC->St->Option (Ex×St)
 | .skip,s=>some (.normal,s)
 | .aJ ops,s=>match dA P L self ops s with | some s'=>some (.normal,s') | none=>none
 | .seq a b,s=>
  match bF P L self a s with
  | some (.normal,s1)=>bF P L self b s1
  | r=>r
 | .cond x a b,s=>
  match aE s.tm x with
  | .bool t=>bif t then bF P L self a s else bF P L self b s
  | _=>none
 | .aF id a,s=>
  match bF P L self a s with
  | some (.exit j,s1)=>bif yx j id then some (.normal,s1) else some (.exit j,s1)
  | r=>r
 | .kp live,s=>some (.normal,aQ live s)
 | .fz ts,s=>match ot ts s with | some s'=>some (.normal,s') | none=>none
 | .loop live a,s=>
  match bF P L self a (aQ live s) with
  | some (.normal,s1)=>self (.loop live a) s1
  | r=>r
 | .rf f ps cJ body,s=>
  match aE s.tm f with
  | .fn (.f n) first cap=>
   match L.heap n with
   | some _=>none
   | none=>
    match gZ P L self ((s.ct,.lp s.tm ps cJ body 0 .none)::s.hp) (s.ct+1) n (first++(.fn (.y s.ct) [] []::cap)) with
    | some (_,hp,ct)=>
     match aB hp s.ct with
     | some (.lp _ _ _ _ st pe)=>
      bif yx st 1 then none else
      match pe with
      | .none=>some (.normal,{s with hp:=dU hp s.ct,ct:=ct})
      | .ret=>some (.ret,{s with hp:=dU hp s.ct,ct:=ct})
      | .exit id=>some (.exit id,{s with hp:=dU hp s.ct,ct:=ct})
     | _=>none
    | none=>none
  | _=>none
 | .exit id,s=>some (.exit id,s)
 | .ret,s=>some (.ret,s)
def ev (P:aH) (L:Lib) (n:Nat):cy:=Nat.rec (fun _ _=>none) (fun _ ih=>bF P L ih) n
def XZ (P:aH) (L:Lib) (n:Nat) (f:Nat) (aq:List AV):Option AV:=bH P L (ev P L n) f aq
end
section
open Go
structure Pl where
 b:Nat
 o:Nat
 e:Nat
 z:Nat
abbrev Mp:=Nat->Option Pl
section
variable (af:Nat->Nat) (m:Mp) (S:Nat->Prop) (w:yh)
mutual
def ah:AV->yf->Prop
 | .int k n,v=>v= .int k n
 | .bool b,v=>v= .bool b
 | .bM k b,v=>v= .float k b
 | .str s,v=>∃t:ByteArray,v= .string t/\t.data.toList.map y9=s
 | .jU,v=>v= .pointer none
 | .ptr id o,v=>∃p,m id=some p/\v= .pointer (some ⟨p.b,p.o+o,none⟩)
 | .bZ cs,v=>∃b o,v= .pointer (some ⟨b,o,none⟩)/\(cs=[]\/S b)/\aG cs=true/\bP cs b o
 | .aa,v=>v= .slice none 0 0
 | .ai ex n cs,v=>(∃b o c,v= .slice (some ⟨b,o,none⟩) n c/\n<=c/\(ex=true->c=n)/\(cs=[]\/S b)/\aG cs=true/\bP cs b o)\/(∃a,v= .slice (some a) 0 0/\n=0/\cs=[])
 | .bt _ _ _ _,_=>False
 | .aC id o n,v=>∃p c,m id=some p/\v= .slice (some ⟨p.b,p.o+o,none⟩) n c/\n<=c/\o+c*p.z=p.e
 | .fn (.f g) first cap,v=>∃fi ca:Array yf,v= .func (.func (af g)) fi ca/\az first fi.toList/\az cap ca.toList
 | .fn (.y l) _ _,v=>∃p,m l=some p/\v= .func (.yield p.b) #[] #[]
 | .iy,v=>v= .nilFunc
 | .jy,v=>v= .map none
 | .map id,v=>∃p,m id=some p/\v= .map (some p.b)
 | .iV ks vs,v=>∃b es clock,v= .map (some b)/\S b/\aG ks=true/\aG vs=true/\w.heap[b]? =some (.map es clock)/\
   az ks (es.toList.map (·.key))/\az vs (es.toList.map (·.val))
 | .it id,v=>∃p,m id=some p/\v= .pointer (some ⟨p.b,0,none⟩)
 | .agg cs,v=>∃xs:Array yf,v= .agg xs/\az cs xs.toList
 | .ae cs,v=>∃xs:Array yf,v= .tuple xs/\az cs xs.toList
 | .undef,_=>True
def az:List AV->List yf->Prop
 | [],us=>us=[]
 | c::cs,us=>∃u r,us=u::r/\ah c u/\az cs r
def bP:List AV->Nat->Nat->Prop
 | [],_,_=>True
 | c::cs,b,o=>(∃u,w.cell? ⟨b,o,none⟩=some u/\ah c u)/\bP cs b (o+1)
end
end
def fA (S:Nat->Prop) (w w':yh):Prop:=∀b,S b->w'.heap[b]? =w.heap[b]?
def KH {w w':yh} {b o:Nat} (h:w'.heap[b]? =w.heap[b]?):w'.cell? ⟨b,o,none⟩=w.cell? ⟨b,o,none⟩:=by
 simp only [World.cell?,h]
section
variable {af:Nat->Nat} {m m':Mp} {S S':Nat->Prop} {w w':yh}
mutual
def lB (hm:∀id p,m id=some p->m' id=some p) (hS:∀b,S b->S' b) (hw:fA S w w'):
  ∀(v:AV) (u:yf),ah af m S w v u->ah af m' S' w' v u
 | .int _ _,_,h | .bool _,_,h | .bM _ _,_,h | .str _,_,h | .jU,_,h | .aa,_,h | .iy,_,h | .jy,_,h | .undef,_,h=>by
  simpa only [ah] using h
 | .ptr id o,u,h=>by
  simp only [ah] at h ⊢;obtain ⟨p,h1,h2⟩:=h;exact ⟨p,hm _ _ h1,h2⟩
 | .bZ cs,u,h=>by
  simp only [ah] at h ⊢;obtain ⟨b,o,h1,h2,h3,h4⟩:=h;refine ⟨b,o,h1,h2.imp id (hS b),h3,?_⟩;rcases h2 with rfl | h2
  ·simp only [bP]
  ·exact PH hm hS hw cs b o h2 h4
 | .ai ex n cs,u,h=>by
  simp only [ah] at h ⊢;rcases h with ⟨b,o,c,h1,h2,h3,h4,h5,h6⟩ | h
  ·refine .inl ⟨b,o,c,h1,h2,h3,h4.imp id (hS b),h5,?_⟩;rcases h4 with rfl | h4
   ·simp only [bP]
   ·exact PH hm hS hw cs b o h4 h6
  ·exact .inr h
 | .bt _ _ _ _,u,h=>by simp only [ah] at h
 | .aC id o n,u,h=>by
  simp only [ah] at h ⊢;obtain ⟨p,c,h1,h2⟩:=h;exact ⟨p,c,hm _ _ h1,h2⟩
 | .fn (.f g) first cap,u,h=>by
  simp only [ah] at h ⊢;obtain ⟨fi,ca,h1,h2,h3⟩:=h;exact ⟨fi,ca,h1,gK hm hS hw first _ h2,gK hm hS hw cap _ h3⟩
 | .fn (.y l) _ _,u,h=>by
  simp only [ah] at h ⊢;obtain ⟨p,h1,h2⟩:=h;exact ⟨p,hm _ _ h1,h2⟩
 | .map id,u,h=>by
  simp only [ah] at h ⊢;obtain ⟨p,h1,h2⟩:=h;exact ⟨p,hm _ _ h1,h2⟩
 | .iV ks vs,u,h=>by
  simp only [ah] at h ⊢;obtain ⟨b,es,clock,h1,h2,h3,h4,h5,h6,h7⟩:=h;exact ⟨b,es,clock,h1,hS b h2,h3,h4,(hw b h2).trans h5,gK hm hS hw ks _ h6,gK hm hS hw vs _ h7⟩
 | .it id,u,h=>by
  simp only [ah] at h ⊢;obtain ⟨p,h1,h2⟩:=h;exact ⟨p,hm _ _ h1,h2⟩
 | .agg cs,u,h=>by
  simp only [ah] at h ⊢;obtain ⟨xs,h1,h2⟩:=h;exact ⟨xs,h1,gK hm hS hw cs _ h2⟩
 | .ae cs,u,h=>by
  simp only [ah] at h ⊢;obtain ⟨xs,h1,h2⟩:=h;exact ⟨xs,h1,gK hm hS hw cs _ h2⟩
def gK (hm:∀id p,m id=some p->m' id=some p) (hS:∀b,S b->S' b) (hw:fA S w w'):
  ∀(vs:List AV) (us:List yf),az af m S w vs us->az af m' S' w' vs us
 | [],us,h=>by simpa only [az] using h
 | v::r,us,h=>by
  simp only [az] at h ⊢;obtain ⟨u,t,h1,h2,h3⟩:=h;exact ⟨u,t,h1,lB hm hS hw v u h2,gK hm hS hw r t h3⟩
def PH (hm:∀id p,m id=some p->m' id=some p) (hS:∀b,S b->S' b) (hw:fA S w w'):
  ∀(cs:List AV) (b o:Nat),S b->bP af m S w cs b o->bP af m' S' w' cs b o
 | [],_,_,_,_=>by simp only [bP]
 | c::cs,b,o,hb,h=>by
  simp only [bP] at h ⊢;obtain ⟨⟨u,h1,h2⟩,h3⟩:=h;exact ⟨⟨u,(KH (hw b hb)).trans h1,lB hm hS hw c u h2⟩,PH hm hS hw cs b (o+1) hb h3⟩
end
end
end
section
open Go
structure Hint where
 n:Nat
 b5:FuncId->Option Nat
 live:Nat->List Nat
 out:Nat->Option (List Nat)
 mode:Nat->Md
 fz:Nat->List Nat
section
variable (P:y8) (H:Hint)
mutual
def er:yf->AV
 | .int k n=> .int k n
 | .bool b=> .bool b
 | .float k b=> .bM k b
 | .string s=> .str (s.data.toList.map y9)
 | .pointer none=> .jU
 | .slice none 0 0=> .aa
 | .map none=> .jy
 | .nilFunc=> .iy
 | .agg ⟨cs⟩=> .agg (DL cs)
 | .tuple ⟨cs⟩=> .ae (DL cs)
 | _=> .undef
def DL:List yf->List AV
 | []=>[]
 | v::r=>er v::DL r
end
def aK:xo->X
 | .tmp t=> .t t
 | .const v=> .c (er v)
 | .global _=> .c .undef
 | .func f=>match H.b5 f with | some g=> .c (.fn (.f g) [] []) | none=> .c .undef
def gl:List xo->List X
 | []=>[]
 | x::r=>aK H x::gl r
def cK (t:yD):Option Nat:=match P.info? t with | some i=>some i.size | none=>none
def AT (t:yD):Option Nat:=match P.info? t with | some i=>some i.bytes | none=>none
def mB (t:yD):Option AV:=match P.info? t with | some i=>(match i.zero with | some v=>some (er v) | none=>none) | none=>none
def dE (t:yD):Option Bool:=match P.underlying t with | some (.struct _) | some (.array _ _)=>some true | some _=>some false | none=>none
def bad:Op:= .call .pure (.c .undef) []
def partsOf (place:Nat->Option (Nat×Nat)):List (Nat×xo)->Option (List (Nat×Nat×X))
 | []=>some []
 | (i,x)::r=>
  match place i,partsOf place r with
  | some (o,s),some l=>some ((o,s,aK H x)::l)
  | _,_=>none
def Dl (self:yD->Option (List Nat)):List uK->Nat->Option (List Nat)
 | [],_=>some []
 | f::r,o=>
  match self f.type,cK P f.type with
  | some ks,some s=>
   bif f.name != "_"&&yx f.offset o&&yx ks.length s&& !P.stoodInHeld f.type then
    (match Dl self r (o+s) with | some l=>some (ks++l) | none=>none)
   else none
  | _,_=>none
def kinds:Nat->yD->Option (List Nat)
 | 0,_=>none
 | n+1,t=>
  match P.underlying t with
  | some .bool=>some [0]
  | some (.int _)=>some [1]
  | some .string=>some [2]
  | some (.struct fs)=>Dl P (fun u=>kinds n u) fs.toList 0
  | some (.array k e)=>
   match kinds n e,cK P e with
   | some ks,some s=>bif yx ks.length s&& !P.stoodInHeld e then some (yq k ks).flatten else none
   | _,_=>none
  | _=>none
def keyOf (t:yD):Option Nat:=
 match P.underlying t with
 | some .bool=>some 0
 | some (.int _)=>some 1
 | some .string=>some 2
 | _=>none
def qC (ne:Bool) (t:yD) (a b:xo):Op:=
 match kinds P 20 t with
 | some ks=>bif P.stoodInHeld t||P.eqGuardType P.depth t then bad else .eq ne (.ag ks) (aK H a) (aK H b)
 | none=>bad
def pI (ne:Bool) (op:wR) (t:yD) (a b:xo):Op:=
 match P.underlying t with
 | some (.int _) | some .string | some (.float _)=> .bin op (aK H a) (aK H b)
 | some .bool=> .eq ne .b (aK H a) (aK H b)
 | some (.slice _)=> .eq ne .sl (aK H a) (aK H b)
 | some (.func _ _ _)=> .eq ne .fn (aK H a) (aK H b)
 | some (.struct _) | some (.array _ _)=>qC P H ne t a b
 | _=>bad
def a6 (k:Nat) (o:y5):Op:=
 let x (y:xo):X:=aK H y
 match o.op with
 | .move a | .assign a=> .cf (x a)
 | .pick c a b=> .pick (x c) (x a) (x b)
 | .alloc t=>match cK P t,mB P t with | some s,some z=> .box s (.c z) | _,_=>bad
 | .box t v=>match cK P t with | some s=> .box s (x v) | none=>bad
 | .build t parts=>
  match P.underlying t,mB P t with
  | some (.struct fs),some (.agg z)=>
   match fs.toList.mapM (fun f=>(P.info? f.type).map fun i=>(f.offset,i.size)) with
   | some pl=>(match partsOf H (fun i=>pl[i]?) parts.toList with | some ps=> .fF z ps | none=>bad)
   | none=>bad
  | some (.array _ e),some (.agg z)=>
   match cK P e with
   | some s=>(match partsOf H (fun i=>some (i*s,s)) parts.toList with | some ps=> .fF z ps | none=>bad)
   | none=>bad
  | _,_=>bad
 | .buildSlice t n parts=>
  match P.underlying t with
  | some (.slice e)=>
   match cK P e,mB P e with
   | some s,some z=>
    bif yF (n*s) 16777216 then
     (match partsOf H (fun i=>some (i*s,s)) parts.toList with | some ps=> .dT n s (yq n (cellsOf z)).flatten ps | none=>bad)
    else bad
   | _,_=>bad
  | _=>bad
 | .load t a=>match cK P t,dE P t with | some s,some ag=> .ld s ag (x a) | _,_=>bad
 | .store t a v=>match cK P t with | some s=> .st s (x a) (x v) | none=>bad
 | .nilCheck a=> .IB (x a)
 | .binOp op t a b _=>
  match op with
  | .eql=>pI P H false op t a b
  | .neq=>pI P H true op t a b
  | _=> .bin op (x a) (x b)
 | .unOp op _ a=> .un op (x a)
 | .convert s d a=>
  match P.underlying s,P.underlying d with
  | some (.int _),some (.int k) | some (.float _),some (.int k)=> .cv (.toInt k) (x a)
  | some (.int _),some (.float k) | some (.float _),some (.float k)=> .cv (.toFlt k) (x a)
  | some .string,some .string=> .cv .str (x a)
  | _,_=>bad
 | .makeFunc (.func f) first cap=>match H.b5 f with | some g=> .CH (.f g) (gl H first.toList) (gl H cap.toList) | none=>bad
 | .makeMap t none=>match P.underlying t with | some (.map ke _)=>(match keyOf P ke with | some _=> .zi | none=>bad) | _=>bad
 | .makeSlice t l c=>
  match P.underlying t with
  | some (.slice e)=>(match cK P e,AT P e,mB P e with | some s,some b,some z=> .fI s b (cellsOf z) (x l) (x c) | _,_,_=>bad)
  | _=>bad
 | .slice t a lo hi none=>
  match P.underlying t with
  | some .string=> .dG .str (x a) (lo.map x) (hi.map x)
  | some (.slice e)=>(match cK P e with | some s=> .dG (.sl s) (x a) (lo.map x) (hi.map x) | none=>bad)
  | some (.array n e)=>(match cK P e with | some s=> .dG (.ar n s) (x a) (lo.map x) (hi.map x) | none=>bad)
  | _=>bad
 | .fieldAddr t a i=>
  match P.underlying t with
  | some (.struct fs)=>
   match fs[i]? with
   | some f=>(match cK P f.type with | some (_+1)=> .off f.offset (x a) | _=>bad)
   | none=>bad
  | _=>bad
 | .field t a i=>
  match P.underlying t with
  | some (.struct fs)=>
   match fs[i]? with
   | some f=>(match cK P f.type,dE P f.type with | some s,some ag=> .JE f.offset s ag (x a) | _,_=>bad)
   | none=>bad
  | _=>bad
 | .indexAddr t a i=>
  match P.underlying t with
  | some (.slice e)=>(match cK P e with | some s=> .aM s (x a) (x i) | none=>bad)
  | some (.array n e)=>(match cK P e with | some s=> .Ff n s (x a) (x i) | none=>bad)
  | _=>bad
 | .index t a i=>
  match P.underlying t with
  | some .string=> .j9 (x a) (x i)
  | some (.array n e)=>(match cK P e,dE P e with | some s,some ag=> .Fg n s ag (x a) (x i) | _,_=>bad)
  | _=>bad
 | .lookup t a i ok=>
  match P.underlying t with
  | some (.map ke e)=>(match keyOf P ke,mB P e with | some kk,some z=> .Ol kk z ok (x a) (x i) | _,_=>bad)
  | _=>bad
 | .mapUpdate t a i v | .insert t a i v=>
  match P.underlying t with
  | some (.map ke _)=>(match keyOf P ke with | some kk=> .oP kk (x a) (x i) (x v) | none=>bad)
  | _=>bad
 | .range t a=>match P.underlying t with | some .string=> .oQ (x a) | _=>bad
 | .next it true=> .oR (x it)
 | .extract t i=> .ext i (x t)
 | .call c=>
  match c.callee with
  | .value f=>(match H.mode k with | .dyn=> .ir [] (x f) (gl H c.args.toList) | md=> .call md (x f) (gl H c.args.toList))
  | .builtin b=>
   match b,c.args.toList,c.argTypes.toList with
   | .append,[s,a],[t,u]=>
    match P.underlying t,P.underlying u with
    | some (.slice e),some (.slice _) | some (.slice e),some .string=>
     (match cK P e,AT P e,mB P e with | some sz,some cB,some z=>(bif yx (cellsOf z).length sz then .aR sz cB (x s) (x a) else bad) | _,_,_=>bad)
    | _,_=>bad
   | .len,[a],[t]=>
    match P.underlying t with
    | some (.array n _)=> .cf (.c (.int .i64 n))
    | some .string=> .len 0 (x a)
    | some (.slice _)=> .len 1 (x a)
    | some (.map _ _)=> .len 2 (x a)
    | _=>bad
   | .copy,[d,s],[t,_]=>
    match P.underlying t with
    | some (.slice e)=>(match cK P e with | some sz=> .mf sz (x d) (x s) | none=>bad)
    | _=>bad
   | .min,l,_=> .mn (gl H l)
   | .max,l,_=> .mx (gl H l)
   | _,_,_=>bad
  | _=>bad
 | _=>bad
def Rg (o:y5):Bool:=match o.op with | .call {callee:= .value _,..}=>true | _=>false
def Il (d:Option Nat):Bool:=match d with | some i=>yP i H.n | none=>true
def sE (n:Nat):List Nat->Bool
 | []=>true
 | i::r=>yP i n&&sE n r
def BF (ops:Array y5):List y5->Nat->List a7×Nat
 | [],k=>([],k)
 | o::r,k=>
  let g:=match o.guard with
   | none=>some none
   | some (j,b)=>match (ops[j]?).bind (·.dst) with | some t=>some (some (t,b)) | none=>none
  match BF ops r (k+(bif Rg o then 1 else 0)) with
  | (l,k')=>
   match g,Il H o.dst with
   | some g,true=>(⟨o.dst,g,a6 P H k o⟩::l,k')
   | _,_=>(⟨o.dst,none,bad⟩::l,k')
def Aa (acc:List Nat):List Edge->Nat
 | []=>0
 | e::r=>bif Region.binds .any e then (2^e.on|||acc.getD e.on 0)|||Aa acc r else Aa acc r
def lP (acc:List Nat):List y5->List Nat
 | []=>acc
 | o::r=>lP (acc++[Aa acc o.after.toList]) r
def G1:List y5->Nat->Bool
 | [],_=>true
 | o::r,i=>o.after.toList.all (fun e=> !Region.binds .any e||yP e.on i)&&G1 r (i+1)
def LA (ops:Array y5) (draw:Bool) (k:Nat):List a7×Nat:=
 match BF P H ops ops.toList k with
 | (l,k')=>
  bif draw then
   (let ms:=lP [] ops.toList
    let l':=mA [] l ms
    bif G1 ops.toList 0&&DD [] l' ms then (l',k') else ([⟨none,none,bad⟩],k'))
  else (l,k')
def atW:wL->Bool
 | .loop _=>true
 | _=>false
def comp:wL->Nat->Nat->VC×Nat×Nat
 | .skip,l,k | .label _,l,k=>(.skip,l,k)
 | .region i ops d,l,k=>match LA P H ops d k with | (r,k')=>((match H.fz i with | []=> .aJ r | t::ts=> .seq (.fz (t::ts)) (.aJ r)),l,k')
 | .seq a b,l,k=>match comp a l k with | (a',l1,k1)=>match comp b l1 k1 with | (b',l2,k2)=>(.seq a' b',l2,k2)
 | .cond c a b,l,k=>
  match comp a (l+1) k with
  | (a',l1,k1)=>
   match comp b l1 k1 with
   | (b',l2,k2)=>(match H.out l with | some o=> .seq (.cond (aK H c) a' b') (.kp o) | none=> .cond (aK H c) a' b',l2,k2)
 | .block id a,l,k=>
  match comp a l k with
  | (a',r)=>(match atW a,H.out l with | true,some o=> .seq (.aF id a') (.kp o) | _,_=> .aF id a',r)
 | .loop a,l,k=>match comp a (l+1) k with | (a',r)=>(.loop (H.live l) a',r)
 | .rangeFunc f ps cJ body,l,k=>
  match comp cJ l k with | (as',l1,k1)=>match comp body l1 k1 with | (b',l2,k2)=>(bif sE H.n ps.toList then .rf (aK H f) ps.toList as' b' else .aJ [⟨none,none,bad⟩],l2,k2)
 | .exit id,l,k=>(.exit id,l,k)
 | .scope a,l,k=>comp a l k
 | .ret,l,k=>(.ret,l,k)
 | .goto _,l,k | .refuse _,l,k=>(.aJ [⟨none,none,bad⟩],l,k)
def n5:List ResultVar->Option (List RV)
 | []=>some []
 | .tmp t::r=>match n5 r with | some l=>some (.t t::l) | none=>none
 | .cell a t::r=>match cK P t,dE P t,n5 r with | some s,some ag,some l=>some (.cell a s ag::l) | _,_,_=>none
def DM (fn:Func):Option aX:=
 match fn.body,n5 P fn.results.toList with
 | some c,some rs=>bif yF H.n fn.ntmps then some ⟨rs,(comp P H c 0 0).1⟩ else none
 | _,_=>none
end
end
section
open Go
structure bl where
 P:y8
 aD:Lib
 af:Nat->Nat
 prog:aH
 hint:Nat->Hint
 w0:yh
def AU (P:y8) (H:Hint) (v:VC) (c:wL):Prop:=∃l k,(comp P H c l k).1=v
def Av:Nat->LoopState
 | 0=> .ready
 | 1=> .busy
 | 2=> .done
 | _=> .exhausted
def ss:sN->Option wL
 | .none=>none
 | .ret=>some .ret
 | .exit id=>some (.exit id)
section
variable (O:bl) (m:Mp) (S:Nat->Prop) (w:yh)
def b7 (tm:Env) (tmps:Array yf):Prop:=∀i,ah O.af m S w (aj tm i) (tmps.getD i undef)
def fh (id:Nat):Obj->Prop
 | .cells rw pu ex sz cs=>∃p arr t,m id=some p/\w.heap[p.b]? =some (.cells arr t (0,0))/\p.z=sz/\cs.length<=p.e/\p.o+p.e<=arr.size/\
   (ex=true->cs.length=p.e)/\bP O.af m S w cs p.b p.o/\(pu=true->aG cs=true)/\(rw=true->¬S p.b)/\(rw=false->S p.b)
 | .mp rw ks vs=>∃p es clock,m id=some p/\w.heap[p.b]? =some (.map es clock)/\az O.af m S w ks (es.toList.map (·.key))/\az O.af m S w vs (es.toList.map (·.val))/\
   (rw=true->¬S p.b)/\(rw=false->S p.b)
 | .si s pos=>∃p t,m id=some p/\w.heap[p.b]? =some (.stringIter t pos)/\t.data.toList.map y9=s/\¬S p.b
 | .lp tm ps cJ body st pe=>∃p l h,m id=some p/\w.heap[p.b]? =some (.loop l)/\¬S p.b/\l.state=Av st/\st<=2/\l.pending=ss pe/\b7 O m S w tm l.tmps/\
   l.params.toList=ps/\AU O.P (O.hint h) cJ l.assign/\AU O.P (O.hint h) body l.body/\(O.hint h).n<=l.tmps.size/\sE (O.hint h).n ps=true
structure aT (hp:Hp) (ct:Nat):Prop where
 obj:∀id o p,aB hp id=some o->m id=some p->fh O m S w id o
 lt:∀id p,m id=some p->id<ct
 inj:∀i j oi oj pi pj,aB hp i=some oi->aB hp j=some oj->m i=some pi->m j=some pj->pi.b=pj.b->i=j
 slt:∀b,S b->b<w.heap.size
 blt:∀id p,m id=some p->p.b<w.heap.size
 low:∀id p,m id=some p->O.w0.heap.size<=p.b
 kP:∀b,b<O.w0.heap.size->w.heap[b]? =O.w0.heap[b]?
 fB:O.w0.heap.size<=w.heap.size
 aW:∀id o,aB hp id=some o->id<ct
end
def dR (m:Mp) (hp:Hp) (b:Nat):Prop:=∃id o p,aB hp id=some o/\m id=some p/\p.b=b
structure b8 (m:Mp) (S:Nat->Prop) (w:yh) (hp:Hp) (m':Mp) (S':Nat->Prop) (w':yh) (ap:Hp) (base:Nat):Prop where
 os:w'.os=w.os
 tape:w'.tape=w.tape
 output:w'.output=w.output
 size:w.heap.size<=w'.heap.size
 same:∀b,b<w.heap.size->¬dR m hp b->w'.heap[b]? =w.heap[b]?
 sub:∀b,S b->S' b
 still:∀b,S b->w'.heap[b]? =w.heap[b]?
 new:∀b,S' b->S b\/dR m hp b\/w.heap.size<=b
 own:∀b,dR m' ap b->dR m hp b\/w.heap.size<=b
 old:∀id p,id<base->m id=some p->m' id=some p
 loops:∀(b:Nat) (r:Loop),w.heap[b]? =some (.loop r)->∃r':Loop,w'.heap[b]? =some (.loop r')
def b8.refl {m:Mp} {S:Nat->Prop} {w:yh} {hp:Hp} {base:Nat}:b8 m S w hp m S w hp base:=
 ⟨rfl,rfl,rfl,yo _,fun _ _ _=>rfl,fun _ h=>h,fun _ _=>rfl,fun _ h=> .inl h,fun _ h=> .inl h,fun _ _ _ h=>h,fun _ r h=>⟨r,h⟩⟩
def b8.trans {m m' JH:Mp} {S S' AW:Nat->Prop} {w w' Om:yh} {hp ap IC:Hp} {base:Nat}
  (h:b8 m S w hp m' S' w' ap base) (k:b8 m' S' w' ap JH AW Om IC base):b8 m S w hp JH AW Om IC base where
 os:=k.os.trans h.os
 tape:=k.tape.trans h.tape
 output:=k.output.trans h.output
 size:=xf h.size k.size
 same b hb ho:=(k.same b (Nat.lt_of_lt_of_le hb h.size) (fun kX=>(h.own b kX).elim ho (fun h1=>by omega))).trans (h.same b hb ho)
 sub b hb:=k.sub b (h.sub b hb)
 still b hb:=(k.still b (h.sub b hb)).trans (h.still b hb)
 new b hb:=by
  rcases k.new b hb with h1 | h1 | h1
  ·exact h.new b h1
  ·rcases h.own b h1 with h2 | h2
   ·exact .inr (.inl h2)
   ·exact .inr (.inr h2)
  ·exact .inr (.inr (xf h.size h1))
 own b hb:=by
  rcases k.own b hb with h1 | h1
  ·exact h.own b h1
  ·exact .inr (xf h.size h1)
 old id p hid hp:=k.old id p hid (h.old id p hid hp)
 loops b r hb:=let ⟨r',h1⟩:=h.loops b r hb;k.loops b r' h1
end
section
open Go
section
variable {af:Nat->Nat} {m:Mp} {S:Nat->Prop} {w:yh}
mutual
def LB:∀v:yf,ah af m S w (er v) v
 | .int _ _ | .bool _ | .float _ _=>by simp only [er,ah]
 | .string s=>by simp only [er,ah];exact ⟨s,rfl,rfl⟩
 | .pointer none=>by simp only [er,ah]
 | .pointer (some _)=>by simp only [er,ah]
 | .slice none 0 0=>by simp only [er,ah]
 | .slice none 0 (_+1)=>by simp only [er,ah]
 | .slice none (_+1) _=>by simp only [er,ah]
 | .slice (some _) _ _=>by simp only [er,ah]
 | .map none=>by simp only [er,ah]
 | .map (some _)=>by simp only [er,ah]
 | .nilFunc=>by simp only [er,ah]
 | .agg ⟨cs⟩=>by simp only [er,ah];exact ⟨⟨cs⟩,rfl,Qg cs⟩
 | .tuple ⟨cs⟩=>by simp only [er,ah];exact ⟨⟨cs⟩,rfl,Qg cs⟩
 | .complex _ _ _ | .chan _ | .func _ _ _ | .iface _ _ | .nilIface=>by simp only [er,ah]
def Qg:∀l:List yf,az af m S w (DL l) l
 | []=>by simp only [DL,az]
 | v::r=>by simp only [DL,az];exact ⟨v,r,rfl,LB v,Qg r⟩
end
end
def fo (O:bl) (H:Hint):Prop:=∀f g,H.b5 f=some g->O.af g=f
section
variable {O:bl} {H:Hint} {m:Mp} {S:Nat->Prop} {w:yh} {tm:Env} {a:Act}
def cw (hH:fo O H) (ht:b7 O m S w tm a.tmps) (x:xo):ah O.af m S w (aE tm (aK H x)) (a.eval x):=by
 cases x with
 | tmp t=>exact ht t
 | const v=>simp only [aK,aE,Act.eval];exact LB v
 | global g=>simp only [aK,aE,ah]
 | func f=>
  simp only [aK,Act.eval]
  cases hr:H.b5 f with
  | none=>simp only [aE,ah]
  | some g=>simp only [aE,ah,hH f g hr,az];exact ⟨#[],#[],rfl,rfl,rfl⟩
def BL (hH:fo O H) (ht:b7 O m S w tm a.tmps):∀l:List xo,az O.af m S w (dj tm (gl H l)) (l.map a.eval)
 | []=>by simp only [gl,dj,List.map_nil,az]
 | x::r=>by simp only [gl,dj,xe,az];exact ⟨_,_,rfl,cw hH ht x,BL hH ht r⟩
end
section
variable {O:bl} {m:Mp} {S:Nat->Prop} {w:yh}
def p9 {af:Nat->Nat}:∀(k:Nat) (cs:List AV) (b o:Nat),bP af m S w cs b o->bP af m S w (cs.drop k) b (o+k)
 | 0,cs,b,o,h=>by simpa using h
 | k+1,[],b,o,_=>by simp only [List.drop_nil,bP]
 | k+1,c::cs,b,o,h=>by
  simp only [bP] at h
  have:=p9 k cs b (o+1) h.2
  rw [List.drop_succ_cons,show o+(k+1)=o+1+k by omega];exact this
def Bv {af:Nat->Nat}:∀(k:Nat) (cs:List AV) (b o:Nat),bP af m S w cs b o->bP af m S w (cs.take k) b o
 | 0,cs,b,o,_=>by simp only [List.take_zero,bP]
 | k+1,[],b,o,_=>by simp only [List.take_nil,bP]
 | k+1,c::cs,b,o,h=>by
  simp only [bP,wq] at h ⊢;exact ⟨h.1,Bv k cs b (o+1) h.2⟩
def rY {af:Nat->Nat}:∀(cs:List AV) (b o:Nat),bP af m S w cs b o->
  ∃us:List yf,az af m S w cs us/\us.length=cs.length/\∀j u,us[j]? =some u->w.cell? ⟨b,o+j,none⟩=some u
 | [],b,o,_=>⟨[],by simp only [az],rfl,fun j u h=>by simp at h⟩
 | c::cs,b,o,h=>by
  simp only [bP] at h;obtain ⟨⟨u,h1,h2⟩,h3⟩:=h;obtain ⟨us,h4,h5,h6⟩:=rY cs b (o+1) h3;refine ⟨u::us,by simp only [az];exact ⟨u,us,rfl,h2,h4⟩,by simp [h5],fun j v hv=>?_⟩
  cases j with
  | zero=>simp at hv;subst hv;simpa using h1
  | succ j=>simp at hv;have:=h6 j v hv;rw [show o+(j+1)=o+1+j by omega];exact this
def il {af:Nat->Nat}:∀(cs:List AV) (us:List yf),az af m S w cs us->us.length=cs.length
 | [],us,h=>by simp only [az] at h;subst h;rfl
 | c::cs,us,h=>by
  simp only [az] at h;obtain ⟨u,r,rfl,_,h3⟩:=h;simp [il cs r h3]
end
end
section
open Go
def oe (b o j:Nat):(⟨b,o,none⟩:ug).add j=⟨b,o+j,none⟩:=by
 unfold Addr.add;split<;>simp_all
section
variable {P:y8} {w:yh}
def amp (t:yD) (b o:Nat) (us:List yf) (ha:dE P t=some true) (hz:cK P t=some us.length)
  (h:∀j u,us[j]? =some u->w.cell? ⟨b,o+j,none⟩=some u):(loadVar t ⟨b,o,none⟩).run P w= .ok (.agg us.toArray) w:=by
 have hl:=run_loadCells_list (P:=P) w ⟨b,o,none⟩ us (fun j u hu=>by rw [oe];exact h j u hu)
 unfold cK at hz
 cases hi:P.info? t with
 | none=>simp [hi] at hz
 | some i=>
  simp only [hi,yd] at hz;unfold dE at ha
  cases hu:P.underlying t with
  | none=>simp [hu] at ha
  | some d=>cases d<;>simp_all [loadVar,isAgg,vJ,typeInfo,underlying]
def amq (t:yD) (b o:Nat) (u:yf) (ha:dE P t=some false)
  (h:w.cell? ⟨b,o,none⟩=some u):(loadVar t ⟨b,o,none⟩).run P w= .ok u w:=by
 unfold dE at ha
 cases hu:P.underlying t with
 | none=>simp [hu] at ha
 | some d=>cases d<;>simp_all [loadVar,isAgg,underlying]
end
section
variable {O:bl} {m:Mp} {S:Nat->Prop} {w:yh}
def LC {t:yD} {sz:Nat} {ag:Bool} {cs:List AV} {b o:Nat} {v:AV} (hz:cK O.P t=some sz) (ha:dE O.P t=some ag)
  (hr:bP O.af m S w cs b o) (hv:gP sz ag cs=some v):∃u,(loadVar t ⟨b,o,none⟩).run O.P w= .ok u w/\ah O.af m S w v u:=by
 cases ag with
 | true=>
  simp only [gP,yB] at hv
  cases hle:yF sz cs.length with
  | false=>simp only [hle,yS] at hv;cases hv
  | true=>
   simp only [hle,yB,yd] at hv;subst hv;obtain ⟨us,h1,h2,h3⟩:=rY _ _ _ (Bv sz cs b o hr);have hlen:us.length=sz:=by
    rw [h2,List.length_take];have:=yA hle;omega
   refine ⟨.agg us.toArray,amp t b o us ha (by rw [hlen];exact hz) h3,?_⟩
   simp only [ah];exact ⟨us.toArray,rfl,by simpa using h1⟩
 | false=>
  simp only [gP,yS] at hv
  cases cs with
  | nil=>simp at hv
  | cons c cs=>
   simp only [yd] at hv;subst hv;simp only [bP] at hr;obtain ⟨⟨u,h1,h2⟩,_⟩:=hr;exact ⟨u,amq t b o u ha h1,h2⟩
def acI {t:yD} {sz o:Nat} {ag:Bool} {cs:List AV} {xs:Array yf} {v:AV} (hz:cK O.P t=some sz) (ha:dE O.P t=some ag)
  (hr:az O.af m S w cs xs.toList) (hv:gP sz ag (cs.drop o)=some v):∃u,(part t xs o).run O.P w= .ok u w/\ah O.af m S w v u:=by
 have hd:∀(k:Nat) (cs:List AV) (us:List yf),az O.af m S w cs us->az O.af m S w (cs.drop k) (us.drop k):=by
  intro k
  induction k with
  | zero=>intro cs us h;simpa using h
  | succ k ih=>
   intro cs us h
   cases cs with
   | nil=>simp only [az] at h;subst h;simp [az]
   | cons c cs=>simp only [az] at h;obtain ⟨u,r,rfl,_,h3⟩:=h;simpa using ih cs r h3
 have eD:∀(k:Nat) (cs:List AV) (us:List yf),az O.af m S w cs us->az O.af m S w (cs.take k) (us.take k):=by
  intro k
  induction k with
  | zero=>intro cs us h;simp [az]
  | succ k ih=>
   intro cs us h
   cases cs with
   | nil=>simp only [az] at h;subst h;simp [az]
   | cons c cs=>simp only [az] at h;obtain ⟨u,r,rfl,h2,h3⟩:=h;simp only [wq,az];exact ⟨u,_,rfl,h2,ih cs r h3⟩
 have ahX:(isAgg t).run O.P w= .ok ag w:=by
  unfold dE at ha
  cases hu:O.P.underlying t with
  | none=>simp [hu] at ha
  | some d=>cases d<;>simp_all [isAgg,underlying]
 have eh:(vJ t).run O.P w= .ok sz w:=by
  unfold cK at hz
  cases hi:O.P.info? t with
  | none=>simp [hi] at hz
  | some i=>simp_all [vJ,typeInfo]
 have bR:=hd o cs xs.toList hr
 cases ag with
 | true=>
  simp only [gP,yB] at hv
  cases hle:yF sz (cs.drop o).length with
  | false=>simp only [hle,yS] at hv;cases hv
  | true=>
   simp only [hle,yB,yd] at hv;subst hv;refine ⟨.agg (xs.extract o (o+sz)),by simp [part,Sem.run_bind,ahX,eh],?_⟩;simp only [ah];refine ⟨_,rfl,?_⟩
   have:=eD sz _ _ bR
   rw [show (xs.extract o (o+sz)).toList=(xs.toList.drop o).take sz by simp [Array.toList_extract,List.extract_eq_take_drop]];exact this
 | false=>
  simp only [gP,yS] at hv
  cases hc:cs.drop o with
  | nil=>simp [hc] at hv
  | cons c r=>
   simp only [hc,yd] at hv;subst hv;rw [hc] at bR;simp only [az] at bR;obtain ⟨u,us,h1,h2,_⟩:=bR;have hx:xs[o]? =some u:=by
    have:xs.toList[o]? =some u:=by
     have:=congrArg (fun l=>l[0]?) h1
     simpa using this
    simpa using this
   exact ⟨u,by simp [part,Sem.run_bind,ahX,hx],h2⟩
end
end
section
open Go
def lI (t:ByteArray):List Nat:=t.data.toList.map y9
def acJ:∀a b:List UInt8,cU (a.map y9) (b.map y9)=(a==b)
 | [],[]=>rfl
 | [],_::_=>rfl
 | _::_,[]=>rfl
 | a::x,b::y=>by
  have h:yx a.toNat b.toNat=(a==b):=by
   rw [td,ybS,yab];exact yaq
  simp only [xe,cU,acJ x y,h,List.cons_beq_cons]
def acK:∀a b:List UInt8,AR (a.map y9) (b.map y9)=Op.bytesLess a b
 | [],[]=>rfl
 | [],_::_=>rfl
 | _::_,[]=>rfl
 | a::x,b::y=>by
  have h:yx a.toNat b.toNat=(a==b):=by
   rw [td,ybS,yab];exact yaq
  have h2:yP a.toNat b.toNat=decide (a<b):=by
   rw [td];simp only [yP,ybT,xK,UInt8.lt_iff_toNat_lt];omega
  simp only [xe,AR,Op.bytesLess,acK x y,h,h2]
def aaS (s t:ByteArray):cU (lI s) (lI t)=(s.toList==t.toList):=by
 rw [lI,lI,acJ,ByteArray.toList_eq,ByteArray.toList_eq]
def anF (s t:ByteArray):AR (lI s) (lI t)=Op.bytesLess s.toList t.toList:=by
 rw [lI,lI,acK,ByteArray.toList_eq,ByteArray.toList_eq]
def aaT (s:ByteArray):(lI s).length=s.size:=by
 rw [lI,List.length_map,Lib.size_eq]
section
variable {af:Nat->Nat} {P:y8} {m:Mp} {S:Nat->Prop} {w:yh} {t:yD}
def apq {op:wR} {k:yY} {x y:Int} {v:AV} (h:kL op k x y=some v):
  ∃u,(xJ op t (.int k x) (.int k y)).run P w= .ok u w/\ah af m S w v u:=by
 cases op<;>simp only [kL,intCmp,yd] at h
 case add=>subst h;exact ⟨_,by simp [xJ,Op.intArith];rfl,by simp [ah]⟩
 case sub=>subst h;exact ⟨_,by simp [xJ,Op.intArith];rfl,by simp [ah]⟩
 case mul=>subst h;exact ⟨_,by simp [xJ,Op.intArith];rfl,by simp [ah]⟩
 case quo=>
  by_cases hy:y=0
  ·simp [hy] at h
  ·simp only [hy,xd,yd] at h;subst h;exact ⟨_,by simp [xJ,Op.intDiv,hy];rfl,by simp [ah]⟩
 case rem=>
  by_cases hy:y=0
  ·simp [hy] at h
  ·simp only [hy,xd,yd] at h;subst h;exact ⟨_,by simp [xJ,Op.intDiv,hy];rfl,by simp [ah]⟩
 case and=>subst h;exact ⟨_,by simp [xJ,Op.intBits];rfl,by simp [ah]⟩
 case or=>subst h;exact ⟨_,by simp [xJ,Op.intBits];rfl,by simp [ah]⟩
 case xor=>subst h;exact ⟨_,by simp [xJ,Op.intBits];rfl,by simp [ah]⟩
 case andNot=>subst h;exact ⟨_,by simp [xJ,Op.intBits];rfl,by simp [ah]⟩
 case shl=>cases h
 case shr=>cases h
 all_goals
  subst h;exact ⟨_,by simp [xJ,Op.intCmp];rfl,by simp [ah]⟩
def aae {op:wR} {k k':yY} {x y:Int} {v:AV} (h:BE op k x y=some v):
  ∃u,(xJ op t (.int k x) (.int k' y)).run P w= .ok u w/\ah af m S w v u:=by
 unfold BE at h;by_cases hy:y<0
 ·simp [hy] at h
 ·simp only [hy,xd] at h;cases op<;>simp only [yd] at h
  case shl=>subst h;exact ⟨_,by simp [xJ,Op.shift,hy];rfl,by simp [ah]⟩
  case shr=>subst h;exact ⟨_,by simp [xJ,Op.shift,hy];rfl,by simp [ah]⟩
  all_goals cases h
def apr {op:wR} {x y:ByteArray} {v:AV} (h:Ig op (lI x) (lI y)=some v):
  ∃u,(xJ op t (.string x) (.string y)).run P w= .ok u w/\ah af m S w v u:=by
 cases op<;>simp only [Ig,aaS,anF,aaT,yd] at h
 case add=>
  cases hle:yF (x.size+y.size) 9223372036854775807 with
  | false=>rw [hle] at h;cases h
  | true=>
   rw [hle] at h;simp only [yB,yd] at h;subst h;have aG8:=yA hle;have azz:¬(((x.size+y.size:Nat):Int)>IntKind.i64.max):=by
    have:IntKind.i64.max=9223372036854775807:=by decide
    rw [this];omega
   refine ⟨.string (x++y),?_,?_⟩
   ·simp only [xJ,Op.stringOp,yr azz,Sem.run_pure]
   ·simp only [ah];exact ⟨x++y,rfl,by simp [lI]⟩
 all_goals first
  | (cases h;done)
  | (subst h;exact ⟨_,by simp [xJ,Op.stringOp];rfl,by simp [ah]⟩)
def aps {op:wR} {k:vM} {x y:Nat} {v:AV} (h:RN op k x y=some v):
  ∃u,(xJ op t (.float k x) (.float k y)).run P w= .ok u w/\ah af m S w v u:=by
 cases op<;>simp only [RN,yd] at h
 case add=>
  cases hr:k.format.add x y with
  | none=>simp [hr] at h
  | some r=>simp only [hr,yd] at h;subst h;exact ⟨.float k r,by simp [xJ,Op.floatArith,hr],by simp [ah]⟩
 case sub=>
  cases hr:k.format.sub x y with
  | none=>simp [hr] at h
  | some r=>simp only [hr,yd] at h;subst h;exact ⟨.float k r,by simp [xJ,Op.floatArith,hr],by simp [ah]⟩
 case mul=>
  cases hr:k.format.mul x y with
  | none=>simp [hr] at h
  | some r=>simp only [hr,yd] at h;subst h;exact ⟨.float k r,by simp [xJ,Op.floatArith,hr],by simp [ah]⟩
 case quo=>
  cases hr:k.format.div x y with
  | none=>simp [hr] at h
  | some r=>simp only [hr,yd] at h;subst h;exact ⟨.float k r,by simp [xJ,Op.floatArith,hr],by simp [ah]⟩
 all_goals first
  | (cases h;done)
  | (subst h;exact ⟨_,by simp [xJ,Op.floatCmp];rfl,by simp [ah]⟩)
def apt {op:wR} {vx vy v:AV} {x y:yf} (hx:ah af m S w vx x) (hy:ah af m S w vy y) (h:VE.binOp op vx vy=some v):
  ∃u,(xJ op t x y).run P w= .ok u w/\ah af m S w v u:=by
 unfold VE.binOp at h
 split at h
 ·rename_i k a k' b;simp only [ah] at hx hy;subst hx;subst hy
  split at h
  ·exact aae h
  ·exact aae h
  ·by_cases hk:k=k'
   ·subst hk;simp only [xA] at h;exact apq h
   ·simp [hk] at h
 ·rename_i k a k' b;simp only [ah] at hx hy;subst hx;subst hy;by_cases hk:k=k'
  ·subst hk;simp only [xA] at h;exact aps h
  ·simp [hk] at h
 ·rename_i a b;simp only [ah] at hx hy;obtain ⟨s,rfl,rfl⟩:=hx;obtain ⟨s',rfl,rfl⟩:=hy;exact apr h
 ·cases h
end
end
section
open Go
section
variable {af:Nat->Nat} {P:y8} {m:Mp} {S:Nat->Prop} {w:yh} {t:yD}
def amV {op:wR} {x y:xo} {a b:yf} (h:P.eqGuardType P.depth t=false\/∀xs ys,¬(a= .agg xs/\b= .agg ys)) (hn:a≠.nilIface):
  (eqGuard op t x y a b).run P w= .ok () w:=by
 unfold eqGuard;cases op
 all_goals first
  | rfl
  | (
    cases a
    all_goals first
     | rfl
     | exact absurd rfl hn
     | (
      cases b
      all_goals first
       | rfl
       | (
         rcases h with h | h
         ·simp [h]
         ·exact absurd ⟨rfl,rfl⟩ (h _ _))))
def atX {d:Nat} {p q:Bool} (ht:P.underlying t=some .bool):(Op.equalIn (d+1) t (.bool p) (.bool q)).run P w= .ok (p==q) w:=by
 simp [Op.equalIn,underlying,ht]
def RP {d:Nat} {e:yD} (ht:P.underlying t=some (.slice e)) (y:Option ug) (n c n' c':Nat):
  (Op.equalIn (d+1) t (.slice none n c) (.slice y n' c')).run P w= .ok y.isNone w:=by simp [Op.equalIn,underlying,ht]
def ag7 {d:Nat} {e:yD} (ht:P.underlying t=some (.slice e)) (x:ug) (n c n' c':Nat):
  (Op.equalIn (d+1) t (.slice (some x) n c) (.slice none n' c')).run P w= .ok false w:=by simp [Op.equalIn,underlying,ht]
def ax3 {d:Nat} {ps rs:Array yD} {vr:Bool} (ht:P.underlying t=some (.func ps rs vr)):
  (Op.equalIn (d+1) t .nilFunc .nilFunc).run P w= .ok true w:=by simp [Op.equalIn,underlying,ht]
def ag8 {d:Nat} {ps rs:Array yD} {vr:Bool} (ht:P.underlying t=some (.func ps rs vr)) (f:Go.Fn) (a b:Array yf):
  (Op.equalIn (d+1) t .nilFunc (.func f a b)).run P w= .ok false w:=by simp [Op.equalIn,underlying,ht]
def ag9 {d:Nat} {ps rs:Array yD} {vr:Bool} (ht:P.underlying t=some (.func ps rs vr)) (f:Go.Fn) (a b:Array yf):
  (Op.equalIn (d+1) t (.func f a b) .nilFunc).run P w= .ok false w:=by simp [Op.equalIn,underlying,ht]
def Lg (x y:yf):Op.equal t x y=Op.equalIn (9999+1) t x y:=rfl
def arx {vx vy:AV} {x y:yf} {r:Bool} {e:yD} (ht:P.underlying t=some (.slice e)) (hx:ah af m S w vx x) (hy:ah af m S w vy y)
  (h:jj .sl vx vy=some r):(Op.equal t x y).run P w= .ok r w:=by
 rw [Lg];unfold jj at h
 split at h<;>simp_all only [yd,reduceCtorEq]
 all_goals subst h
 all_goals simp only [ah] at hx hy
 ·subst hx;subst hy;exact RP ht _ _ _ _ _
 ·rcases hy with ⟨b,o,c,rfl,_⟩ | ⟨_,rfl,_⟩<;>(subst hx;exact RP ht _ _ _ _ _)
 ·obtain ⟨p,c,_,rfl,_⟩:=hy;subst hx;exact RP ht _ _ _ _ _
 ·rcases hx with ⟨b,o,c,rfl,_⟩ | ⟨_,rfl,_⟩<;>(subst hy;exact ag7 ht _ _ _ _ _)
 ·obtain ⟨p,c,_,rfl,_⟩:=hx;subst hy;exact ag7 ht _ _ _ _ _
def ary {vx vy:AV} {x y:yf} {r:Bool} {ps rs:Array yD} {vr:Bool} (ht:P.underlying t=some (.func ps rs vr)) (hx:ah af m S w vx x) (hy:ah af m S w vy y)
  (h:jj .fn vx vy=some r):(Op.equal t x y).run P w= .ok r w:=by
 rw [Lg];unfold jj at h
 split at h<;>simp_all only [yd,reduceCtorEq]
 all_goals subst h
 ·simp only [ah] at hx hy;subst hx;subst hy;exact ax3 ht
 ·rename_i f _ _
  cases f with
  | f g=>simp only [ah] at hx hy;obtain ⟨fi,ca,rfl,_⟩:=hy;subst hx;exact ag8 ht _ _ _
  | y l=>simp only [ah] at hx hy;obtain ⟨p,_,rfl⟩:=hy;subst hx;exact ag8 ht _ _ _
 ·rename_i f _ _
  cases f with
  | f g=>simp only [ah] at hx hy;obtain ⟨fi,ca,rfl,_⟩:=hx;subst hy;exact ag9 ht _ _ _
  | y l=>simp only [ah] at hx hy;obtain ⟨p,_,rfl⟩:=hx;subst hy;exact ag9 ht _ _ _
def arz {op:ybH} {vx v:AV} {x:yf} (hx:ah af m S w vx x) (h:VE.unOp op vx=some v):∃u,(Op.unary op x).run P w= .ok u w/\ah af m S w v u:=by
 unfold VE.unOp at h
 split at h
 ·rename_i k n;simp only [ah] at hx;subst hx;simp only [yd] at h;subst h;exact ⟨_,by simp [Op.unary,Op.intArith];rfl,by simp [ah]⟩
 ·rename_i k n;simp only [ah] at hx;subst hx;simp only [kL,yd] at h;subst h;exact ⟨_,by simp [Op.unary,Op.intBits];rfl,by simp [ah]⟩
 ·rename_i b;simp only [ah] at hx;subst hx;simp only [yd] at h;subst h;exact ⟨_,by simp [Op.unary];rfl,by simp [ah]⟩
 ·rename_i k b;simp only [ah] at hx;subst hx;simp only [yd] at h;subst h;exact ⟨_,by simp [Op.unary,Op.negFloat];rfl,by simp [ah]⟩
 ·cases h
def abI {s d:yD} {k:yY} {vx v:AV} {x:yf} (hd:P.underlying d=some (.int k)) (hs:(∃k',P.underlying s=some (.int k'))\/∃k',P.underlying s=some (.float k'))
  (hx:ah af m S w vx x) (h:oB (.toInt k) vx=some v):∃u,(convert s d x).run P w= .ok u w/\ah af m S w v u:=by
 cases vx<;>simp only [oB,reduceCtorEq] at h
 case int k0 n=>
  simp only [ah] at hx;subst hx;simp only [yd] at h;subst h;refine ⟨.int k (k.wrap n),?_,by simp [ah]⟩;rcases hs with ⟨k',h'⟩ | ⟨k',h'⟩<;>simp [convert,underlying,Conv.intToInt,hd,h']
 case bM sk b=>
  simp only [ah] at hx;subst hx
  cases hi:(sk.decode b).toInt .zero with
  | none=>simp [hi] at h
  | some n=>
   simp only [hi] at h;by_cases hr:k.min<=n/\n<=k.max
   ·simp only [hr,and_self,xA,yd] at h;subst h;refine ⟨.int k n,?_,by simp [ah]⟩;rcases hs with ⟨k',h'⟩ | ⟨k',h'⟩<;>simp [convert,underlying,Conv.floatToInt,hd,h',hi,hr]
   ·simp [hr] at h
def abJ {s d:yD} {k:vM} {vx v:AV} {x:yf} (hd:P.underlying d=some (.float k)) (hs:(∃k',P.underlying s=some (.int k'))\/∃k',P.underlying s=some (.float k'))
  (hx:ah af m S w vx x) (h:oB (.toFlt k) vx=some v):∃u,(convert s d x).run P w= .ok u w/\ah af m S w v u:=by
 cases vx<;>simp only [oB,reduceCtorEq] at h
 case int k0 n=>
  simp only [ah] at hx;subst hx;simp only [yd] at h;subst h;refine ⟨.float k (k.nearest n),?_,by simp [ah]⟩;rcases hs with ⟨k',h'⟩ | ⟨k',h'⟩<;>simp [convert,underlying,Conv.intToFloat,hd,h']
 case bM sk b=>
  simp only [ah] at hx;subst hx;by_cases he:sk=k
  ·subst he;simp only [xA,yd] at h;subst h;refine ⟨.float sk b,?_,by simp [ah]⟩;rcases hs with ⟨k',h'⟩ | ⟨k',h'⟩<;>simp [convert,underlying,Conv.floatToFloat,hd,h']
  ·simp only [he,xd] at h
   cases MG:sk.decode b with
   | nan _ _=>simp [MG] at h
   | infinity _=>simp [MG] at h
   | number sg mm ee=>
    simp only [MG] at h
    cases Sd:(k.decode (k.encode (.number sg mm ee))).isInfinity with
    | true=>simp [Sd] at h
    | false=>
     simp only [Sd,yJ,xd,yd] at h;subst h;refine ⟨.float k (k.encode (.number sg mm ee)),?_,by simp [ah]⟩;rcases hs with ⟨k',h'⟩ | ⟨k',h'⟩<;>simp [convert,underlying,Conv.floatToFloat,hd,h',he,MG,Sd]
def apu {s d:yD} {vx v:AV} {x:yf} (hd:P.underlying d=some .string) (hs:P.underlying s=some .string)
  (hx:ah af m S w vx x) (h:oB .str vx=some v):∃u,(convert s d x).run P w= .ok u w/\ah af m S w v u:=by
 cases vx<;>simp only [oB,reduceCtorEq] at h
 simp only [yd] at h;subst h;simp only [ah] at hx;obtain ⟨b,rfl,hb⟩:=hx;exact ⟨.string b,by simp [convert,underlying,hs,hd],by simp only [ah];exact ⟨b,rfl,hb⟩⟩
end
end
section
open Go
def anG {v:AV} {k:Nat} (h:dl v=some k):∃kd,v= .int kd (k:Int):=by
 cases v<;>simp only [dl,reduceCtorEq] at h
 rename_i kd n
 cases n with
 | ofNat j=>simp only [yd] at h;subst h;exact ⟨kd,rfl⟩
 | negSucc j=>cases h
section
variable {O:bl} {H:Hint} {m:Mp} {S:Nat->Prop} {w:yh} {tm:Env} {a:Act}
def se {af:Nat->Nat} {v:AV} {x:yf} {k:Nat} (hx:ah af m S w v x) (h:dl v=some k):∃kd,x= .int kd (k:Int):=by
 obtain ⟨kd,rfl⟩:=anG h;simp only [ah] at hx
 grind
def run_sliceBound {P:y8} {kd:yY} {k y:Nat} {code:BoundsCode} (h:k<=y):(Instr.sliceBound (.int kd (k:Int)) y code).run P w= .ok k w:=by
 have:(0:Int)<=(k:Int)/\(k:Int)<=(y:Int):=by omega
 simp [Instr.sliceBound,asIntOf,this]
def aaU {P:y8} {isSlice:Bool} {len cap l h:Nat} {lo hi:Option xo} (hH:fo O H) (ht:b7 O m S w tm a.tmps)
  (hl:cW tm 0 (lo.map (aK H))=some l) (hh:cW tm len (hi.map (aK H))=some h) (h1:l<=h) (h2:h<=cap):
  (Instr.sliceBounds isSlice len cap (lo.map a.eval) (hi.map a.eval) none).run P w= .ok (l,h,cap) w:=by
 cases lo with
 | none=>
  simp only [vG,cW,yd] at hl;subst hl
  cases hi with
  | none=>
   simp only [vG,cW,yd] at hh;subst hh;simp [Instr.sliceBounds]
  | some y=>
   obtain ⟨kd,e⟩:=se (cw hH ht y) hh;simp only [Instr.sliceBounds,vG,wD,e,Sem.run_bind,Sem.run_pure,Result.andThen_ok,run_sliceBound h2]
 | some x=>
  obtain ⟨kd,e⟩:=se (cw hH ht x) hl
  cases hi with
  | none=>
   simp only [vG,cW,yd] at hh;subst hh;simp only [Instr.sliceBounds,vG,wD,e,Sem.run_bind,Sem.run_pure,Result.andThen_ok,run_sliceBound h1]
  | some y=>
   obtain ⟨X0,e'⟩:=se (cw hH ht y) hh;simp only [Instr.sliceBounds,wD,e,e',Sem.run_bind,Sem.run_pure,Result.andThen_ok,run_sliceBound h2,run_sliceBound h1]
def anH {t:yD} {lo hi:Option xo} {vx v:AV} {x:yf} (hH:fo O H) (ht:b7 O m S w tm a.tmps) (hu:O.P.underlying t=some .string)
  (hx:ah O.af m S w vx x) {hp:Hp} (h:eV hp .str vx tm (lo.map (aK H)) (hi.map (aK H))=some v):
  ∃u,(Instr.sliceAt t x (lo.map a.eval) (hi.map a.eval) none).run O.P w= .ok u w/\ah O.af m S w v u:=by
 cases vx<;>simp only [eV,reduceCtorEq] at h
 obtain ⟨b,rfl,rfl⟩:=hx
 cases hl:cW tm 0 (lo.map (aK H)) with
 | none=>simp [hl] at h
 | some l=>
  simp only [hl] at h
  cases hh:cW tm (b.data.toList.map y9).length (hi.map (aK H)) with
  | none=>rw [hh] at h;cases h
  | some g=>
   rw [hh] at h;simp only at h
   cases hc:(yF l g&&yF g (b.data.toList.map y9).length) with
   | false=>rw [hc] at h;cases h
   | true=>
    rw [hc] at h;simp only [yB,yd] at h;subst h;simp only [ye] at hc;have h1:=yA hc.1;have h2:=yA hc.2;have hlen:(b.data.toList.map y9).length=b.size:=aaT b;rw [hlen] at hh h2;refine ⟨.string (b.extract l g),?_,?_⟩
    ·simp only [Instr.sliceAt,Sem.run_bind,run_underlying hu,Result.andThen_ok,Instr.slice,Option.isSome_none,yJ,xd,Sem.run_pure,
      aaU (P:=O.P) (isSlice:=false) (len:=b.size) (cap:=b.size) hH ht hl hh h1 h2]
    ·simp only [ah];refine ⟨_,rfl,?_⟩;rw [Lib.extract_data,List.map_take,List.map_drop,List.drop_take]
def apv {t e:yD} {sz:Nat} {lo hi:Option xo} {vx v:AV} {x:yf} (hH:fo O H) (ht:b7 O m S w tm a.tmps) (hu:O.P.underlying t=some (.slice e)) (hz:cK O.P e=some sz)
  {hp:Hp} {ct:Nat} (hh:aT O m S w hp ct)
  (hx:ah O.af m S w vx x) (h:eV hp (.sl sz) vx tm (lo.map (aK H)) (hi.map (aK H))=some v):
  ∃u,(Instr.sliceAt t x (lo.map a.eval) (hi.map a.eval) none).run O.P w= .ok u w/\ah O.af m S w v u:=by
 have eh:(vJ e).run O.P w= .ok sz w:=by
  unfold cK at hz
  cases hi:O.P.info? e with
  | none=>simp [hi] at hz
  | some i=>simp_all [vJ,typeInfo]
 have HE:∀(ad:Option ug) (n c l g:Nat),cW tm 0 (lo.map (aK H))=some l->cW tm n (hi.map (aK H))=some g->l<=g->g<=c->
   (Instr.sliceAt t (.slice ad n c) (lo.map a.eval) (hi.map a.eval) none).run O.P w= .ok (.slice (if c=l then ad else ad.map (·.add (l*sz))) (g-l) (c-l)) w:=by
  intro ad n c l g hl hg h1 h2
  simp only [Instr.sliceAt,Sem.run_bind,run_underlying hu,Result.andThen_ok,Instr.slice,Sem.run_pure,eh,
   aaU (P:=O.P) (isSlice:=true) (len:=n) (cap:=c) hH ht hl hg h1 h2]
 cases vx<;>simp only [eV,reduceCtorEq] at h
 case aa=>
  simp only [ah] at hx;subst hx
  cases hl:cW tm 0 (lo.map (aK H)) with
  | none=>simp [hl] at h
  | some l=>
   cases l with
   | succ l=>simp [hl] at h
   | zero=>
    simp only [hl] at h
    cases hh:cW tm 0 (hi.map (aK H)) with
    | none=>simp [hh] at h
    | some g=>
     cases g with
     | succ g=>simp [hh] at h
     | zero=>
      simp only [hh,yd] at h;subst h;exact ⟨_,HE none 0 0 0 0 hl hh (yo _) (yo _),by simp [ah]⟩
 case ai ex n cs=>
  simp only [ah] at hx;rcases hx with ⟨b,o,c,rfl,JI,hex,hS,ie,CJ⟩ | ⟨ad,rfl,rfl,rfl⟩
  case inr=>
   cases hl:cW tm 0 (lo.map (aK H)) with
   | none=>simp [hl] at h
   | some l=>
    simp only [hl] at h
    cases hh:cW tm 0 (hi.map (aK H)) with
    | none=>simp [hh] at h
    | some g=>
     simp only [hh] at h
     cases hc:(yF l g&&yF g 0) with
     | false=>rw [hc] at h;cases h
     | true=>
      rw [hc] at h;simp only [yB,yd] at h;subst h;simp only [ye] at hc;have h1:=yA hc.1;have h2:=yA hc.2;have hg:g=0:=by omega
      subst hg;have ko:l=0:=by omega
      subst ko;refine ⟨_,HE (some ad) 0 0 0 0 hl hh h1 h2,?_⟩;simp only [ah];exact .inr ⟨ad,by simp,by simp,by simp [slice]⟩
  cases hl:cW tm 0 (lo.map (aK H)) with
  | none=>simp [hl] at h
  | some l=>
   simp only [hl] at h
   cases hh:cW tm n (hi.map (aK H)) with
   | none=>simp [hh] at h
   | some g=>
    simp only [hh] at h
    cases hc:(yF l g&&yF g n) with
    | false=>rw [hc] at h;cases h
    | true=>
     rw [hc] at h;simp only [yB,yd] at h;subst h;simp only [ye] at hc;have h1:=yA hc.1;have h2:=yA hc.2;refine ⟨_,HE (some ⟨b,o,none⟩) n c l g hl hh h1 (by omega),?_⟩;have Mk:aG (slice (l*sz) ((g-l)*sz) cs)=true:=by
      have pd:∀(k:Nat) (cs:List AV),aG cs=true->aG (cs.drop k)=true:=by
       intro k
       induction k with
       | zero=>intro cs h;simpa using h
       | succ k ih=>intro cs h;cases cs with
        | nil=>simpa using h
        | cons c cs=>simp only [aG,ye] at h;simpa using ih cs h.2
      have pt:∀(k:Nat) (cs:List AV),aG cs=true->aG (cs.take k)=true:=by
       intro k
       induction k with
       | zero=>intro cs h;simp [aG]
       | succ k ih=>intro cs h;cases cs with
        | nil=>simp [aG]
        | cons c cs=>simp only [aG,ye,wq] at h ⊢;exact ⟨h.1,ih cs h.2⟩
      exact pt _ _ (pd _ _ ie)
     have ahY:(ex&&yx g n)=true->c-l=g-l:=by
      intro hq;simp only [ye] at hq
      have:=hex hq.1
      have:=ym hq.2
      omega
     simp only [ah];by_cases iY:c=l
     ·have h0:g-l=0:=by omega
      have zk:slice (l*sz) ((g-l)*sz) cs=[]:=by simp [slice,h0]
      rw [zk];exact .inl ⟨b,o,c-l,by simp [iY],by omega,ahY,.inl rfl,rfl,by simp [bP]⟩
     ·refine .inl ⟨b,o+l*sz,c-l,by simp [iY,oe],by omega,ahY,?_,Mk,?_⟩
      ·rcases hS with rfl | hS
       ·exact .inl (by simp [slice])
       ·exact .inr hS
      ·exact Bv _ _ _ _ (p9 _ _ _ _ CJ)
 case aC id o n=>
  simp only [ah] at hx;obtain ⟨p,c,hm,rfl,JI,On⟩:=hx
  split at h
  case h_2=>cases h
  rename_i X1 pu0 rz z0 cs0 B9;obtain ⟨p',arr,t',gE,_,fk,_⟩:=hh.obj id _ _ B9 hm;rw [hm] at gE;injection gE with gE
  subst gE
  cases hl:cW tm 0 (lo.map (aK H)) with
  | none=>simp [hl] at h
  | some l=>
   simp only [hl] at h
   cases hh:cW tm n (hi.map (aK H)) with
   | none=>simp [hh] at h
   | some g=>
    simp only [hh] at h
    cases hc:(yF l g&&yF g n&&yx z0 sz) with
    | false=>rw [hc] at h;cases h
    | true=>
     rw [hc] at h;simp only [yB] at h;simp only [ye] at hc;have h1:=yA hc.1.1;have h2:=yA hc.1.2;have hpz:p.z=sz:=fk.trans (ym hc.2)
     cases he:(yx l g&& !yx l 0) with
     | true=>
      rw [he] at h;simp only [yB,yd] at h;subst h;simp only [ye] at he;have zm:=ym he.1;refine ⟨_,HE (some ⟨p.b,p.o+o,none⟩) n c l g hl hh h1 (by omega),?_⟩;simp only [ah];by_cases iY:c=l
      ·exact .inl ⟨p.b,p.o+o,c-l,by simp [iY];omega,by omega,by simp,by simp,by simp [aG],by simp [bP]⟩
      ·exact .inl ⟨p.b,p.o+o+l*sz,c-l,by simp [iY,oe];omega,by omega,by simp,by simp,by simp [aG],by simp [bP]⟩
     | false=>
      rw [he] at h;simp only [yS,yd] at h;subst h;have iY:c=l->l=0:=by
       intro iY;have zm:l=g:=by omega
       cases ko:yx l 0 with
       | true=>exact ym ko
       | false=>rw [zm,Nat.beq_refl,<-zm,ko] at he;cases he
      refine ⟨_,HE (some ⟨p.b,p.o+o,none⟩) n c l g hl hh h1 (by omega),?_⟩;simp only [ah];refine ⟨p,c-l,hm,?_,by omega,?_⟩
      ·by_cases Se:c=l
       ·have:=iY Se;subst this;subst Se;simp
       ·simp [Se,oe,uF]
      ·rw [hpz] at On ⊢
       have:c*sz=l*sz+(c-l)*sz:=by rw [<-Nat.add_mul];congr 1;omega
       omega
end
end
section
open Go
def mW {P:y8} {w:yh} {t:yD} {sz:Nat} (hz:cK P t=some sz):(vJ t).run P w= .ok sz w:=by
 unfold cK at hz
 cases hi:P.info? t with
 | none=>simp [hi] at hz
 | some i=>simp_all [vJ,typeInfo]
section
variable {O:bl} {H:Hint} {m:Mp} {S:Nat->Prop} {w:yh} {tm:Env} {a:Act} {hp:Hp} {ct:Nat}
def Qh {id o n:Nat} {rw pu ex:Bool} {sz:Nat} {cs:List AV} {p:Pl} (hh:aT O m S w hp ct) (hg:aB hp id=some (.cells rw pu ex sz cs)) (hm:m id=some p):
  bP O.af m S w cs p.b p.o:=by
 obtain ⟨p',arr,t',gE,_,_,_,_,_,hr,_⟩:=hh.obj id _ _ hg hm
 grind
def ax4 {t:yD} {sz:Nat} {ag:Bool} {vx v:AV} {x:yf} (hh:aT O m S w hp ct) (hz:cK O.P t=some sz) (ha:dE O.P t=some ag) (hx:ah O.af m S w vx x)
  (h:iA hp sz ag vx=some v):∃u,(Instr.loadAt t x).run O.P w= .ok u w/\ah O.af m S w v u:=by
 cases vx<;>simp only [iA,reduceCtorEq] at h
 case ptr id o=>
  obtain ⟨p,hm,rfl⟩:=hx
  split at h
  case h_2=>cases h
  rename_i X1 pu0 rz z0 cs0 B9;have hr:=Qh (id:=id) (o:=0) (n:=0) hh B9 hm;obtain ⟨u,h1,h2⟩:=LC hz ha (p9 o cs0 p.b p.o hr) h;exact ⟨u,by simp only [Instr.loadAt,Instr.sureAddr,Sem.run_bind,Sem.run_pure,Result.andThen_ok];exact h1,h2⟩
 case bZ cs=>
  obtain ⟨b,o,rfl,_,_,hr⟩:=hx;obtain ⟨u,h1,h2⟩:=LC hz ha hr h;exact ⟨u,by simp only [Instr.loadAt,Instr.sureAddr,Sem.run_bind,Sem.run_pure,Result.andThen_ok];exact h1,h2⟩
def zM:∀(k:Nat) (cs:List AV),aG cs=true->aG (cs.drop k)=true
 | 0,cs,h=>by simpa using h
 | k+1,[],h=>by simpa using h
 | k+1,c::cs,h=>by simp only [aG,ye] at h;simpa using zM k cs h.2
def PX {cs:List AV} {b o k:Nat} (h2:cs=[]\/S b) (h3:aG cs=true) (h4:bP O.af m S w cs b o):ah O.af m S w (.bZ (cs.drop k)) (.pointer (some ⟨b,o+k,none⟩)):=by
 refine ⟨b,o+k,rfl,?_,zM k cs h3,p9 k cs b o h4⟩
 grind
def atY {t:yD} {fs:Array uK} {i:Nat} {f:uK} {sz:Nat} {vx v:AV} {x:yf} (hu:O.P.underlying t=some (.struct fs)) (hf:fs[i]? =some f) (hz:cK O.P f.type=some (sz+1))
  (hx:ah O.af m S w vx x)
  (h:Ih f.offset vx=some v):∃u,(Instr.fieldAt t x i).run O.P w= .ok u w/\ah O.af m S w v u:=by
 have aha:∀(b o:Nat),(Instr.fieldAt t (.pointer (some ⟨b,o,none⟩)) i).run O.P w= .ok (.pointer (some ⟨b,o+f.offset,none⟩)) w:=by
  intro b o;simp only [Instr.fieldAt,Sem.run_bind,run_underlying hu,Result.andThen_ok,hf,Instr.sureAddr,Sem.run_pure,fieldPlace,mW hz,Nat.succ_ne_zero,xd,oe]
 cases vx<;>simp only [Ih,reduceCtorEq] at h
 case ptr id o=>
  obtain ⟨p,hm,rfl⟩:=hx;simp only [yd] at h;subst h;exact ⟨_,aha _ _,by simp only [ah];exact ⟨p,hm,by rw [uF]⟩⟩
 case bZ cs=>
  obtain ⟨b,o,rfl,h2,h3,h4⟩:=hx
  cases hc:yF f.offset cs.length with
  | false=>rw [hc] at h;cases h
  | true=>
   rw [hc] at h;simp only [yB,yd] at h;subst h;exact ⟨_,aha _ _,PX h2 h3 h4⟩
def atZ {t:yD} {fs:Array uK} {i:Nat} {f:uK} {sz:Nat} {ag:Bool} {vx v:AV} {x:yf} (hu:O.P.underlying t=some (.struct fs)) (hf:fs[i]? =some f)
  (hz:cK O.P f.type=some sz) (ha:dE O.P f.type=some ag) (hx:ah O.af m S w vx x)
  (h:Mh f.offset sz ag vx=some v):∃u,(Instr.field t x i).run O.P w= .ok u w/\ah O.af m S w v u:=by
 cases vx<;>simp only [Mh,reduceCtorEq] at h
 obtain ⟨xs,rfl,hr⟩:=hx;obtain ⟨u,h1,h2⟩:=acI hz ha hr h;exact ⟨u,by simp only [Instr.field,Sem.run_bind,run_underlying hu,Result.andThen_ok,hf,asAgg,Sem.run_pure];exact h1,h2⟩
def at0 {t e:yD} {sz k:Nat} {vx vi v:AV} {x i:yf} (hu:O.P.underlying t=some (.slice e)) (hz:cK O.P e=some sz) (hx:ah O.af m S w vx x) (hi:ah O.af m S w vi i)
  (hk:dl vi=some k)
  (h:jv sz k vx=some v):∃u,(Instr.indexAt t x i).run O.P w= .ok u w/\ah O.af m S w v u:=by
 obtain ⟨kd,rfl⟩:=se hi hk;have Im:∀(b o n c:Nat),k<n->(Instr.indexAt t (.slice (some ⟨b,o,none⟩) n c) (.int kd (k:Int))).run O.P w= .ok (.pointer (some ⟨b,o+k*sz,none⟩)) w:=by
  intro b o n c rB;have hr:(0:Int)<=(k:Int)/\(k:Int)<(n:Int):=by omega
  simp [Instr.indexAt,asIntOf,run_underlying hu,mW hz,hr,oe]
  grind
 cases vx<;>simp only [jv,reduceCtorEq] at h
 case aC id o n=>
  obtain ⟨p,c,hm,rfl,JI,On⟩:=hx
  cases hc:yP k n with
  | false=>rw [hc] at h;cases h
  | true=>
   rw [hc] at h;simp only [yB,yd] at h;subst h;have rB:k<n:=by simp_all
   exact ⟨_,Im _ _ _ _ rB,by simp only [ah];exact ⟨p,hm,by rw [uF]⟩⟩
 case ai ex n cs=>
  rcases hx with ⟨b,o,c,rfl,JI,hex,h2,h3,h4⟩ | ⟨a,rfl,rfl,rfl⟩
  case inr=>
   have:yP k 0=false:=by cases hq:yP k 0 with | false=>rfl | true=>simp only [yP,ybT] at hq;omega
   grind
  cases hc:yP k n with
  | false=>rw [hc] at h;cases h
  | true=>
   rw [hc] at h;simp only [yB,yd] at h;subst h;have rB:k<n:=by simp_all
   exact ⟨_,Im _ _ _ _ rB,PX h2 h3 h4⟩
def at1 {t e:yD} {len sz k:Nat} {vx vi v:AV} {x i:yf} (hu:O.P.underlying t=some (.array len e)) (hz:cK O.P e=some sz) (hx:ah O.af m S w vx x) (hi:ah O.af m S w vi i)
  (hk:dl vi=some k)
  (h:Mi len sz k vx=some v):∃u,(Instr.indexAt t x i).run O.P w= .ok u w/\ah O.af m S w v u:=by
 obtain ⟨kd,rfl⟩:=se hi hk;have Im:∀(b o:Nat),k<len->(Instr.indexAt t (.pointer (some ⟨b,o,none⟩)) (.int kd (k:Int))).run O.P w= .ok (.pointer (some ⟨b,o+k*sz,none⟩)) w:=by
  intro b o rB;have hr:(0:Int)<=(k:Int)/\(k:Int)<(len:Int):=by omega
  simp [Instr.indexAt,asIntOf,run_underlying hu,mW hz,hr,oe,Instr.sureAddr]
  grind
 cases vx<;>simp only [Mi,reduceCtorEq] at h
 case ptr id o=>
  obtain ⟨p,hm,rfl⟩:=hx
  cases hc:yP k len with
  | false=>rw [hc] at h;cases h
  | true=>
   rw [hc] at h;simp only [yB,yd] at h;subst h;have rB:k<len:=by simp_all
   exact ⟨_,Im _ _ rB,by simp only [ah];exact ⟨p,hm,by rw [uF]⟩⟩
 case bZ cs=>
  obtain ⟨b,o,rfl,h2,h3,h4⟩:=hx
  cases hc:yP k len with
  | false=>rw [hc] at h;cases h
  | true=>
   rw [hc] at h;simp only [yB,yd] at h;subst h;have rB:k<len:=by simp_all
   exact ⟨_,Im _ _ rB,PX h2 h3 h4⟩
def at2 {t e:yD} {len sz k:Nat} {ag:Bool} {vx vi v:AV} {x i:yf} (hu:O.P.underlying t=some (.array len e)) (hz:cK O.P e=some sz) (ha:dE O.P e=some ag)
  (hx:ah O.af m S w vx x) (hi:ah O.af m S w vi i) (hk:dl vi=some k)
  (h:Mj len sz ag k vx=some v):
  ∃u,(Instr.index t x i).run O.P w= .ok u w/\ah O.af m S w v u:=by
 obtain ⟨kd,rfl⟩:=se hi hk;cases vx<;>simp only [Mj,reduceCtorEq] at h
 obtain ⟨xs,rfl,hr⟩:=hx
 cases hc:yP k len with
 | false=>rw [hc] at h;cases h
 | true=>
  rw [hc] at h;have rB:k<len:=by simp_all
  obtain ⟨u,h1,h2⟩:=acI hz ha hr h;have bR:(0:Int)<=(k:Int)/\(k:Int)<(len:Int):=by omega
  exact ⟨u,by simp [Instr.index,asIntOf,run_underlying hu,mW hz,bR,h1];intro hle;exact absurd hle (by omega),h2⟩
def at3 {t:yD} {k:Nat} {vx vi v:AV} {x i:yf} (hu:O.P.underlying t=some .string) (hx:ah O.af m S w vx x) (hi:ah O.af m S w vi i) (hk:dl vi=some k)
  (h:mz k vx=some v):
  ∃u,(Instr.index t x i).run O.P w= .ok u w/\ah O.af m S w v u:=by
 obtain ⟨kd,rfl⟩:=se hi hk;cases vx<;>simp only [mz,reduceCtorEq] at h
 obtain ⟨b,rfl,rfl⟩:=hx
 cases hs:(b.data.toList.map y9)[k]? with
 | none=>rw [hs] at h;cases h
 | some q=>
  rw [hs] at h;simp only [yd] at h;subst h;rw [List.getElem?_map] at hs
  cases hb:b.data.toList[k]? with
  | none=>rw [hb] at hs;cases hs
  | some c=>
   rw [hb] at hs;simp only [wD,yd] at hs;subst hs;have cC:b[k]? =some c:=by
    have aW:k<b.data.toList.length:=by
     grind
    have eh:k<b.size:=by simp_all
    rw [getElem?_pos b k eh];rw [List.getElem?_eq_getElem aW] at hb;rw [<-hb];rfl
   refine ⟨.int .u8 c.toNat,?_,by simp [ah]⟩;simp [Instr.index,asIntOf,run_underlying hu,cC]
end
end
end VE
