import GoSem.Core.Code
import GoSem.Core.Float
import GoSem.Core.Utf8
import Derived.CallsIn
import Derived.Laws.World
import GoSem.Op.Equal
import GoSem.Core.Region
import Derived.Below
import Derived.Laws.AppendOwn
import Derived.Laws.Rows
import Derived.WalkKit
import Derived.Laws.CopyRow
import Derived.Laws.Cells
import Derived.Laws.Strings
import Derived.Lib.Strings
set_option linter.all false
set_option maxRecDepth 100000
open BitVec renaming ofInt→xG
open Bool renaming eq_iff_iff→uB
open Go renaming BinOp→wN,Code→wI,FloatKind→vP,IntKind→yV,Oper→yZ,Operand→xA,Program→y6,TypeId→yx,Value→yf,World→yi,binOp→xJ,sizeOf→vU
open Go.Utf8 renaming runeError→vB,valid→WP
open List renaming map_cons→yU,replicate→yz,take_succ_cons→wh
open Nat renaming beq→yu,beq_eq→ybp,ble→yG,blt→yK,le_of_ble_eq_true→yy,le_trans→xj,testBit→vY
open Option.some renaming injEq→yc
open UInt8 renaming toNat→yY,toNat_inj→UV
def wi:=@and_true
def tH:=@beq_iff_eq
def uh:=@beq_self_eq_true
def yA:=@cond_false
def ym:=@cond_true
def yR:=@decide_eq_false
def xh:=@decide_eq_true
def wP:=@decide_eq_true_eq
def yo:=@decide_false
def yq:=@decide_true
def yaT:=@false_or
def yO:=@if_false
def yB:=@if_neg
def yI:=@if_pos
def y5:=@if_true
def tJ:=@ne_eq
def uV:=@not_false_eq_true
def wQ:=@not_true_eq_false
def ua:=@of_decide_eq_true
def yaW:=@or_false
def ux:=@true_and
namespace VE
section
open Go (IntKind FloatKind BinOp UnOp)
inductive Fr where
 | f (n:Nat)
 | y (l:Nat)
 deriving DecidableEq,Inhabited
inductive AV where
 | int (k:yV) (n:Int)
 | bool (b:Bool)
 | dE (k:vP) (bits:Nat)
 | str (s:List Nat)
 | kB
 | ptr (id off:Nat)
 | aI (cells:List AV)
 | ab
 | aE (ex:Bool) (n:Nat) (cells:List AV)
 | cJ (ex:Bool) (sz n:Nat) (cells:List AV)
 | an (id off n:Nat)
 | fn (f:Fr) (first cap:List AV)
 | iA
 | jP
 | map (id:Nat)
 | jy (ks vs:List AV)
 | it (id:Nat)
 | agg (cells:List AV)
 | ap (vs:List AV)
 | undef
 deriving Inhabited
inductive X where
 | t (i:Nat)
 | c (v:AV)
 deriving Inhabited
inductive Conv where
 | toInt (k:yV)
 | toFlt (k:vP)
 | str
 deriving Inhabited
inductive Md where
 | pure | own | heap | dyn
 deriving Inhabited
inductive Cut where
 | str
 | sl (sz:Nat)
 | ar (len sz:Nat)
 deriving Inhabited
inductive Pf where
 | b | sl | fn | ag (ks:List Nat)
 deriving Inhabited
inductive Op where
 | bQ (x:X)
 | pick (c a b:X)
 | box (sz:Nat) (x:X)
 | cC (zero:List AV) (parts:List (Nat×Nat×X))
 | bN (n sz:Nat) (zero:List AV) (parts:List (Nat×Nat×X))
 | ld (sz:Nat) (ag:Bool) (x:X)
 | st (sz:Nat) (x v:X)
 | Jl (x:X)
 | bin (op:wN) (x y:X)
 | eq (ne:Bool) (k:Pf) (x y:X)
 | un (op:UnOp) (x:X)
 | cv (k:Conv) (x:X)
 | pk (f:Fr) (first cap:List X)
 | z8
 | ig (sz bytes:Nat) (zero:List AV) (len cap:X)
 | ez (k:Cut) (x:X) (lo hi:Option X)
 | off (k:Nat) (x:X)
 | Kl (o sz:Nat) (ag:Bool) (x:X)
 | bk (sz:Nat) (x i:X)
 | nZ (len sz:Nat) (x i:X)
 | lz (x i:X)
 | qJ (len sz:Nat) (ag:Bool) (x i:X)
 | Pg (kk:Nat) (zero:AV) (ok:Bool) (m k:X)
 | pn (kk:Nat) (m k v:X)
 | po (x:X)
 | pq (x:X)
 | ext (i:Nat) (x:X)
 | call (m:Md) (f:X) (xs:List X)
 | iy (rs:List (Nat×Bool×Nat)) (f:X) (xs:List X)
 | jA (rs:List (Nat×Bool×Nat)) (sz:Nat) (x v:X)
 | dL (sz bytes:Nat) (s x:X)
 | pv (sz:Nat) (d s:X)
 | len (k:Nat) (x:X)
 | mn (xs:List X)
 | mx (xs:List X)
 deriving Inhabited
structure bn where
 dst:Option Nat
 guard:Option (Nat×Bool)
 op:Op
 deriving Inhabited
inductive VC where
 | skip
 | aP (ops:List bn)
 | seq (a b:VC)
 | cond (x:X) (a b:VC)
 | aK (id:Nat) (a:VC)
 | kp (live:List Nat)
 | fz (ts:List Nat)
 | loop (live:List Nat) (a:VC)
 | rf (f:X) (ps:List Nat) (assign body:VC)
 | exit (id:Nat)
 | ret
 deriving Inhabited
inductive RV where
 | t (i:Nat)
 | cell (i sz:Nat) (ag:Bool)
 deriving Inhabited
structure aD where
 dT:List RV
 body:VC
 deriving Inhabited
inductive rG where
 | none | ret | exit (id:Nat)
 deriving Inhabited,DecidableEq
abbrev Env:=List (Nat×AV)
inductive Obj where
 | cells (rw pu ex:Bool) (sz:Nat) (cs:List AV)
 | mp (rw:Bool) (ks vs:List AV)
 | si (s:List Nat) (pos:Nat)
 | lp (tm:Env) (ps:List Nat) (assign body:VC) (state:Nat) (pending:rG)
 deriving Inhabited
abbrev Hp:=List (Nat×Obj)
structure St where
 tm:Env
 hp:Hp
 ct:Nat
 base:Nat
 deriving Inhabited
inductive Ex where
 | normal
 | ret
 | exit (id:Nat)
 deriving Inhabited,DecidableEq
def af:Env->Nat->AV
 | [],_=> .undef
 | (j,v)::r,i=>bif yu j i then v else af r i
def ak:Hp->Nat->Option Obj
 | [],_=>none
 | (j,o)::r,i=>bif yu j i then some o else ak r i
def aW:Hp->Nat->Obj->Hp
 | [],_,_=>[]
 | (j,o)::r,i,u=>bif yu j i then (j,u)::r else (j,o)::aW r i u
def dA:Hp->Nat->Hp
 | [],_=>[]
 | (j,o)::r,i=>bif yu j i then dA r i else (j,o)::dA r i
mutual
def aR:AV->Bool
 | .ptr _ _ | .an _ _ _ | .map _ | .it _ | .cJ _ _ _ _=>false
 | .fn (.y _) _ _=>false
 | .fn (.f _) first cap=>aH first&&aH cap
 | .agg cs=>aH cs
 | .ap vs=>aH vs
 | _=>true
def aH:List AV->Bool
 | []=>true
 | v::r=>aR v&&aH r
end
def cellsOf:AV->List AV
 | .agg cs=>cs
 | v=>[v]
def bm:AV->Bool
 | .agg _ | .ap _ | .undef | .cJ _ _ _ _=>false
 | _=>true
def bK:List AV->Bool
 | []=>true
 | v::r=>bm v&&bK r
def aA (tm:Env):X->AV
 | .t i=>af tm i
 | .c v=>v
def dG (tm:Env):List X->List AV
 | []=>[]
 | x::r=>aA tm x::dG tm r
def slice (o n:Nat) (cs:List AV):List AV:=(cs.drop o).take n
def over (o:Nat) (new cs:List AV):List AV:=cs.take o++new++cs.drop (o+new.length)
mutual
def freeze:Nat->Hp->AV->Option (AV×Hp)
 | 0,_,_=>none
 | n+1,hp,v=>
  match v with
  | .an id o k=>
   match q9 n hp id with
   | some (ex,sz,cs,ao)=>
    bif yG (o+k*sz) cs.length then
     some (.aE (ex&&yK 0 sz&&yu (o+k*sz) cs.length) k (slice o (k*sz) cs),ao)
    else none
   | none=>none
  | .ptr id o=>
   match q9 n hp id with
   | some (_,_,cs,ao)=>some (.aI (cs.drop o),ao)
   | none=>none
  | .map id=>
   match ak hp id with
   | some (.mp _ ks vs)=>bif aH ks&&aH vs then some (.jy ks vs,aW hp id (.mp false ks vs)) else none
   | _=>none
  | .fn (.f g) first cap=>
   match cO n hp first with
   | some (ab4,bF)=>
    match cO n bF cap with
    | some (NQ,gC)=>some (.fn (.f g) ab4 NQ,gC)
    | none=>none
   | none=>none
  | .agg cs=>match cO n hp cs with | some (dN,ao)=>some (.agg dN,ao) | none=>none
  | .ap cs=>match cO n hp cs with | some (dN,ao)=>some (.ap dN,ao) | none=>none
  | v=>bif aR v then some (v,hp) else none
def q9:Nat->Hp->Nat->Option (Bool×Nat×List AV×Hp)
 | 0,_,_=>none
 | n+1,hp,id=>
  match ak hp id with
  | some (.cells rw pu ex sz cs)=>
   bif pu then some (ex,sz,cs,bif rw then aW hp id (.cells false true ex sz cs) else hp)
   else match cO n hp cs with
    | some (dN,ao)=>some (ex,sz,dN,aW ao id (.cells false false ex sz cs))
    | none=>none
  | _=>none
def cO:Nat->Hp->List AV->Option (List AV×Hp)
 | 0,_,_=>none
 | _+1,hp,[]=>some ([],hp)
 | n+1,hp,v::r=>
  match freeze n hp v with
  | some (v',bF)=>
   match cO n bF r with
   | some (r',gC)=>some (v'::r',gC)
   | none=>none
  | none=>none
end
def oJ (n:Nat) (hp:Hp) (v:AV):Option (AV×Hp):=
 match v with
 | .an id o k=>
  match ak hp id with
  | some (.cells true true ex sz cs)=>
   bif yG (o+k*sz) cs.length then
    some (.cJ (ex&&yK 0 sz&&yu (o+k*sz) cs.length) sz k (slice o (k*sz) cs),dA hp id)
   else none
  | _=>freeze n hp v
 | _=>freeze n hp v
def A2:List AV->Option (List Nat)
 | []=>some []
 | .an id _ _::r=>match A2 r with | some l=>bif l.any (yu id) then none else some (id::l) | none=>none
 | v::r=>bif aR v then A2 r else none
def rk (n:Nat):Hp->List AV->Option (List AV×Hp)
 | hp,[]=>some ([],hp)
 | hp,v::r=>
  match oJ n hp v with
  | some (v',bF)=>match rk n bF r with | some (r',gC)=>some (v'::r',gC) | none=>none
  | none=>none
def deep:Nat:=1000
def result (hp:Hp) (v:AV):Option AV:=
 match v with
 | .ap vs=>
  match A2 vs with
  | some _=>match rk deep hp vs with | some (eD,_)=>some (.ap eD) | none=>none
  | none=>match freeze deep hp v with | some (v',_)=>some v' | none=>none
 | v=>match oJ deep hp v with | some (v',_)=>some v' | none=>none
def bT:AV->AV
 | .cJ ex _ n cs=> .aE ex n cs
 | v=>v
def CO:List AV->List AV
 | []=>[]
 | v::r=>bT v::CO r
def shut:AV->AV
 | .cJ ex _ n cs=> .aE ex n cs
 | .ap vs=> .ap (CO vs)
 | v=>v
def fH (hp:Hp) (ct:Nat):AV->AV×Hp×Nat
 | .cJ ex sz n cs=>(.an ct 0 n,(ct,.cells true true ex sz cs)::hp,ct+1)
 | v=>(v,hp,ct)
def jQ:Hp->Nat->List AV->List AV×Hp×Nat
 | hp,ct,[]=>([],hp,ct)
 | hp,ct,v::r=>((fH hp ct v).1::(jQ (fH hp ct v).2.1 (fH hp ct v).2.2 r).1,(jQ (fH hp ct v).2.1 (fH hp ct v).2.2 r).2)
def own (hp:Hp) (ct:Nat):AV->AV×Hp×Nat
 | .ap vs=>(.ap (jQ hp ct vs).1,(jQ hp ct vs).2)
 | v=>fH hp ct v
mutual
def refs:AV->List Nat
 | .ptr id _=>[id]
 | .an id _ _=>[id]
 | .map id=>[id]
 | .it id=>[id]
 | .fn (.f _) first cap=>eQ first++eQ cap
 | .fn (.y l) _ _=>[l]
 | .agg cs=>eQ cs
 | .ap cs=>eQ cs
 | _=>[]
def eQ:List AV->List Nat
 | []=>[]
 | v::r=>refs v++eQ r
end
def fy:Env->List Nat
 | []=>[]
 | (_,v)::r=>refs v++fy r
def fA:Obj->List Nat
 | .cells _ pu _ _ cs=>bif pu then [] else eQ cs
 | .mp _ ks vs=>eQ ks++eQ vs
 | .si _ _=>[]
 | .lp tm _ _ _ _ _=>fy tm
mutual
def cr (f:Nat->Option Nat):AV->AV
 | .ptr id o=>match f id with | some j=> .ptr j o | none=> .undef
 | .an id o n=>match f id with | some j=> .an j o n | none=> .undef
 | .map id=>match f id with | some j=> .map j | none=> .undef
 | .it id=>match f id with | some j=> .it j | none=> .undef
 | .fn (.f g) first cap=> .fn (.f g) (fV f first) (fV f cap)
 | .fn (.y l) first cap=>match f l with | some j=> .fn (.y j) (fV f first) (fV f cap) | none=> .undef
 | .agg cs=> .agg (fV f cs)
 | .ap cs=> .ap (fV f cs)
 | v=>v
def fV (f:Nat->Option Nat):List AV->List AV
 | []=>[]
 | v::r=>cr f v::fV f r
end
def kV (f:Nat->Option Nat):Env->Env
 | []=>[]
 | (i,v)::r=>(i,cr f v)::kV f r
def lP (f:Nat->Option Nat):Obj->Obj
 | .cells rw pu ex sz cs=> .cells rw pu ex sz (bif pu then cs else fV f cs)
 | .mp rw ks vs=> .mp rw (fV f ks) (fV f vs)
 | .si s pos=> .si s pos
 | .lp tm ps as_ body st pe=> .lp (kV f tm) ps as_ body st pe
def df (tm:Env):List Nat->Env
 | []=>[]
 | i::r=>(i,af tm i)::df tm r
def lQ (i:Nat):List Nat->Bool
 | []=>false
 | j::r=>bif yu j i then true else lQ i r
def reach (hp:Hp) (base:Nat):Nat->List Nat->List Nat->List Nat
 | 0,_,seen=>seen
 | _+1,[],seen=>seen
 | n+1,id::jc,seen=>
  bif yK id base||lQ id seen then reach hp base n jc seen
  else match ak hp id with
   | some o=>reach hp base n (fA o++jc) (seen++[id])
   | none=>reach hp base n jc seen
def dz (base:Nat):Hp->List Nat
 | []=>[]
 | (id,o)::r=>bif yK id base then fA o++dz base r else dz base r
def mD (i:Nat):List Nat->Nat->Option Nat
 | [],_=>none
 | j::r,k=>bif yu j i then some k else mD i r (k+1)
def kP (base:Nat) (seen:List Nat) (id:Nat):Option Nat:=bif yK id base then some id else mD id seen base
def mw (base:Nat) (f:Nat->Option Nat):Hp->Hp
 | []=>[]
 | (id,o)::r=>bif yK id base then (id,lP f o)::mw base f r else mw base f r
def kQ (hp:Hp) (f:Nat->Option Nat):List Nat->Nat->Hp->Hp
 | [],_,acc=>acc
 | id::r,k,acc=>match ak hp id with | some o=>kQ hp f r (k+1) ((k,lP f o)::acc) | none=>kQ hp f r (k+1) acc
def bD (live:List Nat) (s:St):St:=
 let tm:=df s.tm live
 let seen:=reach s.hp s.base 100000 (fy tm++dz s.base s.hp) []
 let f:=kP s.base seen
 {tm:=kV f tm,hp:=kQ s.hp f seen s.base (mw s.base f s.hp),ct:=s.base+seen.length,base:=s.base}
def qd (hp:Hp) (sz:Nat):AV->Option (Nat×List AV)
 | .ab=>some (0,[])
 | .aE _ n cs=>bif yu cs.length (n*sz) then some (n,cs) else none
 | .an id o n=>
  match ak hp id with
  | some (.cells _ _ _ _ cs)=>bif yG (o+n*sz) cs.length then some (n,slice o (n*sz) cs) else none
  | _=>none
 | _=>none
def MD:List Nat->List AV
 | []=>[]
 | b::r=> .int .u8 b::MD r
def BJ:List Nat->List Nat->Bool
 | _,[]=>false
 | [],_::_=>true
 | a::x,b::y=>yK a b||(yu a b&&BJ x y)
def cA:List Nat->List Nat->Bool
 | [],[]=>true
 | a::x,b::y=>yu a b&&cA x y
 | _,_=>false
def dJ:List Nat->List AV->List AV->Option Bool
 | [],[],[]=>some true
 | 0::ks,.bool a::x,.bool b::y=>match dJ ks x y with | some r=>some ((a==b)&&r) | none=>none
 | 1::ks,.int k a::x,.int k' b::y=>if k=k' then (match dJ ks x y with | some r=>some ((a==b)&&r) | none=>none) else none
 | 2::ks,.str a::x,.str b::y=>match dJ ks x y with | some r=>some (cA a b&&r) | none=>none
 | _,_,_=>none
def gH:Pf->AV->AV->Option Bool
 | .b,.bool a,.bool b=>some (a==b)
 | .sl,.ab,.ab=>some true
 | .sl,.ab,.aE _ _ _=>some false
 | .sl,.ab,.an _ _ _=>some false
 | .sl,.aE _ _ _,.ab=>some false
 | .sl,.an _ _ _,.ab=>some false
 | .fn,.iA,.iA=>some true
 | .fn,.iA,.fn _ _ _=>some false
 | .fn,.fn _ _ _,.iA=>some false
 | .ag ks,.agg a,.agg b=>dJ ks a b
 | _,_,_=>none
def intCmp (op:wN) (x y:Int):Option Bool:=
 match op with
 | .eql=>some (x==y)
 | .neq=>some (x !=y)
 | .lss=>some (decide (x<y))
 | .leq=>some (decide (x<=y))
 | .gtr=>some (decide (x>y))
 | .geq=>some (decide (x>=y))
 | _=>none
def lL (op:wN) (k:yV) (x y:Int):Option AV:=
 match op with
 | .add=>some (.int k (k.wrap (x+y)))
 | .sub=>some (.int k (k.wrap (x-y)))
 | .mul=>some (.int k (k.wrap (x*y)))
 | .quo=>if y=0 then none else some (.int k (k.wrap (x.tdiv y)))
 | .rem=>if y=0 then none else some (.int k (x.tmod y))
 | .and=>some (.int k (k.wrap (xG k.bits x&&&xG k.bits y).toNat))
 | .or=>some (.int k (k.wrap (xG k.bits x|||xG k.bits y).toNat))
 | .xor=>some (.int k (k.wrap (xG k.bits x^^^xG k.bits y).toNat))
 | .andNot=>some (.int k (k.wrap (xG k.bits x&&&~~~(xG k.bits y)).toNat))
 | .shl | .shr=>none
 | op=>match intCmp op x y with | some b=>some (.bool b) | none=>none
def Cs (op:wN) (k:yV) (x y:Int):Option AV:=
 if y<0 then none else
 match op with
 | .shl=>some (.int k (k.wrap (x*2^(min y.toNat k.bits))))
 | .shr=>some (.int k (x.fdiv (2^(min y.toNat k.bits))))
 | _=>none
def I1 (op:wN) (x y:List Nat):Option AV:=
 match op with
 | .add=>bif yG (x.length+y.length) 9223372036854775807 then some (.str (x++y)) else none
 | .eql=>some (.bool (cA x y))
 | .neq=>some (.bool (!cA x y))
 | .lss=>some (.bool (BJ x y))
 | .leq=>some (.bool (BJ x y||cA x y))
 | .gtr=>some (.bool (!(BJ x y||cA x y)))
 | .geq=>some (.bool (!BJ x y))
 | _=>none
def S4 (op:wN) (k:vP) (x y:Nat):Option AV:=
 let c:=k.format.order x y
 let ar (r:Option Nat):Option AV:=match r with | some b=>some (.dE k b) | none=>none
 match op with
 | .add=>ar (k.format.add x y)
 | .sub=>ar (k.format.sub x y)
 | .mul=>ar (k.format.mul x y)
 | .quo=>ar (k.format.div x y)
 | .eql=>some (.bool (c==some .eq))
 | .neq=>some (.bool (c !=some .eq))
 | .lss=>some (.bool (c==some .lt))
 | .leq=>some (.bool (c==some .lt||c==some .eq))
 | .gtr=>some (.bool (c==some .gt))
 | .geq=>some (.bool (c==some .gt||c==some .eq))
 | _=>none
def binOp (op:wN) (x y:AV):Option AV:=
 match x,y with
 | .int k a,.int k' b=>
  match op with
  | .shl | .shr=>Cs op k a b
  | _=>if k=k' then lL op k a b else none
 | .dE k a,.dE k' b=>if k=k' then S4 op k a b else none
 | .str a,.str b=>I1 op a b
 | _,_=>none
def unOp (op:UnOp) (x:AV):Option AV:=
 match op,x with
 | .neg,.int k n=>some (.int k (k.wrap (0-n)))
 | .xor,.int k n=>lL .xor k (if k.signed then -1 else k.max) n
 | .not,.bool b=>some (.bool !b)
 | .neg,.dE k b=>some (.dE k (b^^^2^(k.format.exponentBits+k.format.fractionBits)))
 | _,_=>none
def oT (c:Conv) (x:AV):Option AV:=
 match c,x with
 | .toInt k,.int _ n=>some (.int k (k.wrap n))
 | .toFlt k,.int _ n=>some (.dE k (k.nearest n))
 | .toInt k,.dE s b=>
  match (s.decode b).toInt .zero with
  | some n=>if k.min<=n/\n<=k.max then some (.int k n) else none
  | none=>none
 | .toFlt k,.dE s b=>
  if s=k then some (.dE k b) else
  match s.decode b with
  | .number sg m e=>if (k.decode (k.encode (.number sg m e))).isInfinity then none else some (.dE k (k.encode (.number sg m e)))
  | _=>none
 | .str,.str s=>some (.str s)
 | _,_=>none
def dO (sz:Nat) (ag:Bool) (cs:List AV):Option AV:=
 bif ag then (bif yG sz cs.length then some (.agg (cs.take sz)) else none)
 else match cs with | v::_=>some v | []=>none
def dY (x:AV):Option Nat:=
 match x with
 | .int _ n=>match n with | .ofNat k=>some k | .negSucc _=>none
 | _=>none
def cP (tm:Env) (d:Nat):Option X->Option Nat
 | none=>some d
 | some x=>dY (aA tm x)
def fL (hp:Hp) (k:Cut) (x:AV) (tm:Env) (lo hi:Option X):Option AV:=
 match k,x with
 | .str,.str s=>
  match cP tm 0 lo,cP tm s.length hi with
  | some l,some h=>bif yG l h&&yG h s.length then some (.str ((s.take h).drop l)) else none
  | _,_=>none
 | .sl _,.ab=>
  match cP tm 0 lo,cP tm 0 hi with
  | some 0,some 0=>some .ab
  | _,_=>none
 | .sl sz,.aE ex n cs=>
  match cP tm 0 lo,cP tm n hi with
  | some l,some h=>bif yG l h&&yG h n then some (.aE (ex&&yu h n) (h-l) (slice (l*sz) ((h-l)*sz) cs)) else none
  | _,_=>none
 | .sl sz,.an id o n=>
  match ak hp id with
  | some (.cells _ _ _ z _)=>
   match cP tm 0 lo,cP tm n hi with
   | some l,some h=>
    bif yG l h&&yG h n&&yu z sz then
     bif yu l h&& !yu l 0 then some (.aE false 0 []) else some (.an id (o+l*sz) (h-l))
    else none
   | _,_=>none
  | _=>none
 | _,_=>none
def fill (tm:Env):List AV->List (Nat×Nat×X)->Option (List AV)
 | cs,[]=>some cs
 | cs,(o,sz,x)::r=>
  let new:=cellsOf (aA tm x)
  bif yu new.length sz&&yG (o+sz) cs.length&&bK new then fill tm (over o new cs) r else none
def EU:AV->AV->Option Bool
 | .int k a,.int k' b=>if k=k' then some (a==b) else none
 | .str a,.str b=>some (cA a b)
 | .bool a,.bool b=>some (a==b)
 | _,_=>none
def sS:Nat->AV->Bool
 | 0,.bool _=>true
 | 1,.int _ _=>true
 | 2,.str _=>true
 | _,_=>false
def CP (k:AV):List AV->List AV->Option (Option AV)
 | [],_=>some none
 | k'::ks,v::vs=>match EU k k' with | some true=>some (some v) | some false=>CP k ks vs | none=>none
 | _::_,[]=>none
def Bp (k v:AV):List AV->List AV->Option (List AV×List AV)
 | [],[]=>some ([k],[v])
 | k'::ks,u::us=>
  match EU k k' with
  | some true=>some (k'::ks,v::us)
  | some false=>match Bp k v ks us with | some (kD,Vs)=>some (k'::kD,u::Vs) | none=>none
  | none=>none
 | _,_=>none
def min2:AV->AV->Option AV
 | .int k x,.int _ y=>some (.int k (if y<x then y else x))
 | .dE k x,.dE _ y=>
  match k.format.order x y with
  | none=>none
  | some .lt=>some (.dE k x)
  | some .gt=>some (.dE k y)
  | some .eq=>some (.dE k (if (k.decode x).neg then x else y))
 | _,_=>none
def max2:AV->AV->Option AV
 | .int k x,.int _ y=>some (.int k (if y>x then y else x))
 | .dE k x,.dE _ y=>
  match k.format.order x y with
  | none=>none
  | some .lt=>some (.dE k y)
  | some .gt=>some (.dE k x)
  | some .eq=>some (.dE k (if (k.decode x).neg then y else x))
 | _,_=>none
def Ba (f:AV->AV->Option AV):AV->List AV->Option AV
 | a,[]=>some a
 | a,b::r=>match f a b with | some c=>Ba f c r | none=>none
def room:Nat:=1099511627776
abbrev gD:=Option (AV×Hp×Nat)
def jd (hp:Hp) (sz:Nat) (ag:Bool):AV->Option AV
 | .ptr id o=>match ak hp id with | some (.cells _ _ _ _ cs)=>dO sz ag (cs.drop o) | _=>none
 | .aI cs=>dO sz ag cs
 | _=>none
def EV (k:Nat):AV->Option AV
 | .ptr id o=>some (.ptr id (o+k))
 | .aI cs=>bif yG k cs.length then some (.aI (cs.drop k)) else none
 | _=>none
def Nj (o sz:Nat) (ag:Bool):AV->Option AV
 | .agg cs=>dO sz ag (cs.drop o)
 | _=>none
def jx (sz i:Nat):AV->Option AV
 | .an id o n=>bif yK i n then some (.ptr id (o+i*sz)) else none
 | .aE _ n cs=>bif yK i n then some (.aI (cs.drop (i*sz))) else none
 | _=>none
def I2 (len sz i:Nat):AV->Option AV
 | .ptr id o=>bif yK i len then some (.ptr id (o+i*sz)) else none
 | .aI cs=>bif yK i len then some (.aI (cs.drop (i*sz))) else none
 | _=>none
def mX (i:Nat):AV->Option AV
 | .str s=>match s[i]? with | some b=>some (.int .u8 b) | none=>none
 | _=>none
def I3 (len sz:Nat) (ag:Bool) (i:Nat):AV->Option AV
 | .agg cs=>bif yK i len then dO sz ag (cs.drop (i*sz)) else none
 | _=>none
def Bb (hp:Hp) (k:AV):AV->Option (Option AV)
 | .jP=>some none
 | .map id=>match ak hp id with | some (.mp _ ks vs)=>CP k ks vs | _=>none
 | .jy ks vs=>CP k ks vs
 | _=>none
def iI (hp:Hp):Nat->AV->Option AV
 | 0,.str s=>some (.int .i64 s.length)
 | 1,.ab=>some (.int .i64 0)
 | 1,.aE _ n _=>some (.int .i64 n)
 | 1,.an _ _ n=>some (.int .i64 n)
 | 2,.jP=>some (.int .i64 0)
 | 2,.jy ks _=>some (.int .i64 ks.length)
 | 2,.map id=>match ak hp id with | some (.mp _ ks _)=>some (.int .i64 ks.length) | _=>none
 | _,_=>none
def bE (tm:Env) (hp:Hp):Op->Option AV
 | .bQ x=>some (aA tm x)
 | .pick c a b=>match aA tm c with | .bool t=>some (bif t then aA tm a else aA tm b) | _=>none
 | .cC zero parts=>match fill tm zero parts with | some cs=>some (.agg cs) | none=>none
 | .ld sz ag x=>jd hp sz ag (aA tm x)
 | .Jl x=>
  match aA tm x with
  | .ptr id o=>some (.ptr id o)
  | .aI cs=>some (.aI cs)
  | .fn f a b=>some (.fn f a b)
  | _=>none
 | .bin op x y=>binOp op (aA tm x) (aA tm y)
 | .eq ne k x y=>match gH k (aA tm x) (aA tm y) with | some r=>some (.bool (ne !=r)) | none=>none
 | .un op x=>unOp op (aA tm x)
 | .cv k x=>oT k (aA tm x)
 | .pk f first cap=>some (.fn f (dG tm first) (dG tm cap))
 | .ez k x lo hi=>fL hp k (aA tm x) tm lo hi
 | .off k x=>EV k (aA tm x)
 | .Kl o sz ag x=>Nj o sz ag (aA tm x)
 | .bk sz x i=>match dY (aA tm i) with | some j=>jx sz j (aA tm x) | none=>none
 | .nZ len sz x i=>match dY (aA tm i) with | some j=>I2 len sz j (aA tm x) | none=>none
 | .lz x i=>match dY (aA tm i) with | some j=>mX j (aA tm x) | none=>none
 | .qJ len sz ag x i=>match dY (aA tm i) with | some j=>I3 len sz ag j (aA tm x) | none=>none
 | .Pg kk zero ok m k=>
  bif sS kk (aA tm k) then
   match Bb hp (aA tm k) (aA tm m) with
   | some (some v)=>some (bif ok then .ap [v,.bool true] else v)
   | some none=>some (bif ok then .ap [zero,.bool false] else zero)
   | none=>none
  else none
 | .ext i x=>match aA tm x with | .ap vs=>vs[i]? | _=>none
 | .len k x=>iI hp k (aA tm x)
 | .mn xs=>match dG tm xs with | a::r=>Ba min2 a r | []=>none
 | .mx xs=>match dG tm xs with | a::r=>Ba max2 a r | []=>none
 | _=>none
def da (tm:Env) (hp:Hp) (ct:Nat):Op->Option (AV×Obj)
 | .box sz x=>
  let cs:=cellsOf (aA tm x)
  bif yu cs.length sz&&bK cs then some (.ptr ct 0,.cells true (aH cs) true sz cs) else none
 | .bN n sz zero parts=>
  match fill tm zero parts with
  | some cs=>bif yu cs.length (n*sz) then some (.an ct 0 n,.cells true (aH cs) true sz cs) else none
  | none=>none
 | .ig sz bytes zero len cap=>
  match dY (aA tm len),dY (aA tm cap) with
  | some l,some c=>
   bif yG l c&&(yG c room&&(yG (c*bytes) room&&(yu zero.length sz&&bK zero))) then
    some (.an ct 0 l,.cells true (aH zero) (yu l c) sz (yz l zero).flatten)
   else none
  | _,_=>none
 | .z8=>some (.map ct,.mp true [] [])
 | .po x=>match aA tm x with | .str s=>some (.it ct,.si s 0) | _=>none
 | _=>none
def decodeL (s:List Nat) (i:Nat):Nat×Nat:=
 let BK (k:Nat):Nat:=s.getD (i+k) 0
 let cont (k:Nat):Bool:=decide (i+k<s.length)&&BK k/64==2
 let b0:=BK 0
 if b0<0x80 then (b0,1)
 else if b0/32==6&&cont 1 then
  let c:=(b0%32)*64+BK 1%64
  if c>=0x80 then (c,2) else (vB,1)
 else if b0/16==14&&cont 1&&cont 2 then
  let c:=(b0%16)*4096+(BK 1%64)*64+BK 2%64
  if c>=0x800&&WP c then (c,3) else (vB,1)
 else if b0/8==30&&cont 1&&cont 2&&cont 3 then
  let c:=(b0%8)*262144+(BK 1%64)*4096+(BK 2%64)*64+BK 3%64
  if c>=0x10000&&WP c then (c,4) else (vB,1)
 else (vB,1)
def za (hp:Hp) (sz:Nat):AV->Option (Nat×List AV)
 | .str b=>bif yu sz 1 then some (b.length,MD b) else none
 | v=>qd hp sz v
def di (tm:Env) (hp:Hp) (ct:Nat):Op->gD
 | .st sz x v=>
  let new:=cellsOf (aA tm v)
  match aA tm x with
  | .ptr id o=>
   match ak hp id with
   | some (.cells true pu ex z cs)=>
    bif yu new.length sz&&yG (o+sz) cs.length&&bK new then
     some (.ap [],aW hp id (.cells true (pu&&aH new) ex z (over o new cs)),ct)
    else none
   | _=>none
  | _=>none
 | .pn kk m k v=>
  match aA tm m with
  | .map id=>
   match ak hp id with
   | some (.mp true ks vs)=>bif !sS kk (aA tm k) then none else match Bp (aA tm k) (aA tm v) ks vs with | some (kD,eD)=>some (.ap [],aW hp id (.mp true kD eD),ct) | none=>none
   | _=>none
  | _=>none
 | .pq x=>
  match aA tm x with
  | .it id=>
   match ak hp id with
   | some (.si s pos)=>
    bif yK pos s.length then
     match decodeL s pos with
     | (c,wd)=>some (.ap [.bool true,.int .i64 pos,.int .i32 c],aW hp id (.si s (pos+wd)),ct)
    else some (.ap [.bool false],hp,ct)
   | _=>none
  | _=>none
 | .dL sz bytes s x=>
  match za hp sz (aA tm x) with
  | none=>none
  | some (m,new)=>
   match aA tm s with
   | .ab=>
    bif yu m 0 then some (.ab,hp,ct)
    else bif yG m room&&(yG (m*bytes) room&&yK 0 sz) then some (.an ct 0 m,(ct,.cells true (aH new) false sz new)::hp,ct+1) else none
   | .aE true n cs=>
    bif yu m 0 then some (.aE true n cs,hp,ct)
    else bif yG (n+m) room&&(yG ((n+m)*bytes) room&&(yu cs.length (n*sz)&&yK 0 sz)) then some (.an ct 0 (n+m),(ct,.cells true (aH cs&&aH new) false sz (cs++new))::hp,ct+1) else none
   | .an id o n=>
    match ak hp id with
    | some (.cells true pu _ z cs)=>
     bif yu z sz&&(yG (n+m) room&&(yG ((n+m)*bytes) room&&(yG (o+n*sz) cs.length&&(yK 0 sz&&bK new)))) then
      some (.an ct 0 (n+m),(ct,.cells true (pu&&aH new) false sz (slice o (n*sz) cs++new))::dA hp id,ct+1)
     else none
    | _=>none
   | _=>none
 | .pv sz d s=>
  match qd hp sz (aA tm s),aA tm d with
  | some (m,new),.an id o n=>
   match ak hp id with
   | some (.cells true pu ex z cs)=>
    bif yu z sz&&(yG (o+n*sz) cs.length&&bK new) then
     some (.int .i64 (min m n:Nat),aW hp id (.cells true (pu&&aH new) ex z (over o (new.take (min m n*sz)) cs)),ct)
    else none
   | _=>none
  | _,_=>none
 | _=>none
def jI:X->List Nat | .t i=>[i] | .c _=>[]
def zb:List X->List Nat
 | []=>[]
 | x::r=>jI x++zb r
def I4:Option X->List Nat | some x=>jI x | none=>[]
def I5:List (Nat×Nat×X)->List Nat
 | []=>[]
 | (_,_,x)::r=>jI x++I5 r
def kO:Op->List Nat
 | .bQ x | .box _ x | .ld _ _ x | .Jl x | .un _ x | .cv _ x | .off _ x | .Kl _ _ _ x | .po x | .pq x | .ext _ x | .len _ x=>jI x
 | .pick a b c | .pn _ a b c=>jI a++(jI b++jI c)
 | .cC _ ps | .bN _ _ _ ps=>I5 ps
 | .st _ a b | .bin _ a b | .eq _ _ a b | .bk _ a b | .nZ _ _ a b | .lz a b | .qJ _ _ _ a b | .Pg _ _ _ a b | .dL _ _ a b | .pv _ a b=>jI a++jI b
 | .pk _ a b=>zb a++zb b
 | .z8=>[]
 | .ig _ _ _ a b=>jI a++jI b
 | .ez _ x a b=>jI x++(I4 a++I4 b)
 | .call _ f xs=>jI f++zb xs
 | .iy _ f xs=>jI f++zb xs
 | .jA _ _ a b=>jI a++jI b
 | .mn xs | .mx xs=>zb xs
def bH:Op->Nat
 | .bQ _ | .pick _ _ _ | .cC _ _ | .Jl _ | .bin _ _ _ | .eq _ _ _ _ | .un _ _ | .cv _ _ | .pk _ _ _ | .off _ _ | .Kl _ _ _ _ | .bk _ _ _ | .nZ _ _ _ _ | .lz _ _ | .qJ _ _ _ _ _ | .ext _ _ | .mn _ | .mx _=>0
 | .ez .str _ _ _ | .len 0 _ | .len 1 _=>0
 | .st _ _ _ | .pn _ _ _ _ | .pq _ | .dL _ _ _ _ | .pv _ _ _ | .iy _ _ _ | .jA _ _ _ _ | .call .heap _ _ | .call .dyn _ _=>2
 | _=>1
def S5:Option (Nat×Bool)->List Nat | some (t,_)=>[t] | none=>[]
def Cz (o:bn):List Nat:=S5 o.guard++kO o.op
def E6 (d:Option Nat) (l:List Nat):Bool:=match d with | some i=>lQ i l | none=>false
def adQ (d e:Option Nat):Bool:=match d,e with | some i,some j=>yu i j | _,_=>false
def Mf (a b:bn):Bool:=E6 a.dst (Cz b)||E6 b.dst (Cz a)||adQ a.dst b.dst
def E7 (sz:Nat) (ag:Bool) (t:Nat):List (Nat×Bool×Nat)->Bool
 | []=>false
 | (s,g,u)::r=>(yu s sz&&(g==ag&&yu u t))||E7 sz ag t r
def EW (t:Nat):List bn->Bool
 | []=>true
 | o::r=> !E6 o.dst [t]&&EW t r
def Ia (a b:bn) (r:List bn):Bool:=
 match a.guard,a.op,b.op with
 | none,.ld sz ag (.t t),.iy rs _ _=>E7 sz ag t rs&&EW t (a::r)
 | none,.ld sz ag (.t t),.jA rs _ _ _=>E7 sz ag t rs&&EW t (a::r)
 | _,_,_=>false
def HG (a b:bn):Bool:=
 match bH a.op,bH b.op with
 | 1,2 | 2,1 | 2,2=>true
 | _,_=>false
def Mg (m:Nat) (b:bn):List bn->Nat->Bool
 | [],_=>true
 | a::r,i=>(vY m i|| !(Mf a b||(HG a b&& !Ia a b r)))&&Mg m b r (i+1)
def El (done:List bn):List bn->List Nat->Bool
 | [],_=>true
 | b::r,m::ms=>Mg m b done 0&&El (done++[b]) r ms
 | _::_,[]=>false
def ME (m:Nat):List bn->Nat->List (Nat×Bool×Nat)
 | [],_=>[]
 | a::r,i=>
  match vY m i,a with
  | false,⟨_,none,.ld sz ag (.t t)⟩=>(sz,ag,t)::ME m r (i+1)
  | _,_=>ME m r (i+1)
def stOp (rs:List (Nat×Bool×Nat)) (sz:Nat) (x v:X):Op:=match rs with | []=> .st sz x v | rs=> .jA rs sz x v
def zo (done:List bn):List bn->List Nat->List bn
 | ⟨d,g,.iy _ f xs⟩::r,m::ms=>let o:bn:=⟨d,g,.iy (ME m done 0) f xs⟩;o::zo (done++[o]) r ms
 | ⟨d,g,.st sz x v⟩::r,m::ms=>let o:bn:=⟨d,g,stOp (ME m done 0) sz x v⟩;o::zo (done++[o]) r ms
 | o::r,_::ms=>o::zo (done++[o]) r ms
 | l,_=>l
abbrev aG:=Nat->Option aD
structure Lib where
 pure:Nat->Option (List AV->Option AV)
 heap:Nat->Option (Hp->Nat->List AV->gD)
abbrev cK:=VC->St->Option (Ex×St)
def fG:Nat->List AV->Env
 | _,[]=>[]
 | i,v::r=>(i,v)::fG (i+1) r
def results1 (s:St):RV->Option AV
 | .t i=>some (af s.tm i)
 | .cell i sz ag=>
  match af s.tm i with
  | .ptr id o=>match ak s.hp id with | some (.cells _ _ _ _ cs)=>dO sz ag (cs.drop o) | _=>none
  | .aI cs=>dO sz ag cs
  | _=>none
def lJ (s:St):List RV->Option (List AV)
 | []=>some []
 | r::rest=>match results1 s r,lJ s rest with | some v,some vs=>some (v::vs) | _,_=>none
def gN (s:St) (rs:List RV):Option AV:=
 match lJ s rs with
 | some [v]=>some v
 | some vs=>some (.ap vs)
 | none=>none
def bO (P:aG) (L:Lib) (self:cK) (n:Nat) (vals:List AV):Option AV:=
 match L.pure n with
 | some sp=>sp vals
 | none=>
  match P n with
  | none=>none
  | some F=>
   match self F.body ⟨fG 0 vals,[],0,0⟩ with
   | some (.normal,s) | some (.ret,s)=>match gN s F.dT with | some v=>result s.hp v | none=>none
   | _=>none
def SA:Ex->rG
 | .normal=> .none
 | .ret=> .ret
 | .exit id=> .exit id
def qj:Env->List Nat->List AV->Option Env
 | tm,[],[]=>some tm
 | tm,p::ps,v::vs=>qj ((p,v)::tm) ps vs
 | _,_,_=>none
def iH (P:aG) (L:Lib) (self:cK) (hp:Hp) (ct:Nat) (n:Nat) (vals:List AV):gD:=
 match L.heap n with
 | some sp=>sp hp ct vals
 | none=>
  match P n with
  | none=>none
  | some F=>
   match self F.body ⟨fG 0 vals,hp,ct,ct⟩ with
   | some (.normal,s) | some (.ret,s)=>match gN s F.dT with | some v=>some (v,s.hp,s.ct) | none=>none
   | _=>none
def jt (self:cK) (hp:Hp) (ct:Nat) (l:Nat) (xs:List AV):gD:=
 match ak hp l with
 | some (.lp tm ps as_ body 0 _)=>
  match qj tm ps xs with
  | none=>none
  | some tm'=>
   match self as_ ⟨tm',hp,ct,ct⟩ with
   | some (.normal,s1)=>
    match ak s1.hp l with
    | some (.lp iQ rW Dq CQ 0 px)=>
     match self body ⟨s1.tm,aW s1.hp l (.lp iQ rW Dq CQ 1 px),s1.ct,s1.ct⟩ with
     | some (ex,s2)=>
      match ak s2.hp l with
      | some (.lp jh BL Km I6 1 _)=>
       match ex with
       | .normal=>some (.bool true,aW s2.hp l (.lp jh BL Km I6 0 .none),s2.ct)
       | ex=>some (.bool false,aW s2.hp l (.lp jh BL Km I6 2 (SA ex)),s2.ct)
      | _=>none
     | none=>none
    | _=>none
   | _=>none
 | _=>none
def dF (P:aG) (L:Lib) (self:cK) (hp:Hp) (ct:Nat) (m:Md) (fv:AV) (xs:List AV):gD:=
 match fv with
 | .fn (.f n) first cap=>
  match m with
  | .pure=>
   match cO deep hp (first++(xs++cap)) with
   | some (vals,bF)=>match bO P L self n vals with | some r=>some (shut r,bF,ct) | none=>none
   | none=>none
  | .own=>
   match cO deep hp (first++(xs++cap)) with
   | some (vals,bF)=>match bO P L self n vals with | some r=>some (own bF ct r) | none=>none
   | none=>none
  | .heap=>iH P L self hp ct n (first++(xs++cap))
  | .dyn=>
   bif aH (first++(xs++cap)) then
    match bO P L self n (first++(xs++cap)) with | some r=>some (shut r,hp,ct) | none=>none
   else iH P L self hp ct n (first++(xs++cap))
 | .fn (.y l) _ _=>
  match m with
  | .heap | .dyn=>jt self hp ct l xs
  | _=>none
 | _=>none
def NR:AV->AV->Bool
 | .int k a,.int k' b=>decide (k=k')&&a==b
 | .bool a,.bool b=>a==b
 | .str a,.str b=>cA a b
 | .ab,.ab=>true
 | .kB,.kB=>true
 | .ptr i o,.ptr j p=>yu i j&&yu o p
 | .an i o n,.an j p m=>yu i j&&(yu o p&&yu n m)
 | .map i,.map j=>yu i j
 | _,_=>false
def qg (tm:Env) (hp ao:Hp):List (Nat×Bool×Nat)->Bool
 | []=>true
 | (sz,ag,x)::r=>
  match jd hp sz ag (af tm x),jd ao sz ag (af tm x) with
  | some a,some b=>NR a b&&qg tm hp ao r
  | _,_=>false
def oK (tm:Env) (id:Nat):List (Nat×Bool×Nat)->Bool
 | []=>true
 | (_,_,x)::r=>(match af tm x with | .ptr j _=> !yu j id | .aI _=>true | _=>false)&&oK tm id r
def bw (P:aG) (L:Lib) (self:cK) (tm:Env) (hp:Hp) (ct:Nat) (o:Op):gD:=
 match o with
 | .call m f xs=>dF P L self hp ct m (aA tm f) (dG tm xs)
 | .iy rs f xs=>
  match dF P L self hp ct .dyn (aA tm f) (dG tm xs) with
  | some (v,ao,bg)=>bif qg tm hp ao rs then some (v,ao,bg) else none
  | none=>none
 | .jA rs sz x v=>
  match aA tm x with
  | .ptr id _=>bif oK tm id rs then di tm hp ct (.st sz x v) else none
  | _=>none
 | .st .. | .pn .. | .pq .. | .dL .. | .pv .. =>di tm hp ct o
 | .box .. | .bN .. | .ig .. | .z8 | .po .. =>match da tm hp ct o with | some (v,b)=>some (v,(ct,b)::hp,ct+1) | none=>none
 | o=>match bE tm hp o with | some v=>some (v,hp,ct) | none=>none
def put (d:Option Nat) (v:AV) (tm:Env):Env:=
 match d with
 | some i=>(i,v)::tm
 | none=>tm
def dR (P:aG) (L:Lib) (self:cK):List bn->St->Option St
 | [],s=>some s
 | ⟨d,g,o⟩::r,s=>
  let want:=match g with | none=>some true | some (t,b)=>match af s.tm t with | .bool c=>some (c==b) | .ap []=>some false | _=>none
  match want with
  | some true=>
   match bw P L self s.tm s.hp s.ct o with
   | some (v,hp,ct)=>dR P L self r {s with tm:=put d v s.tm,hp:=hp,ct:=ct}
   | none=>none
  | some false=>dR P L self r {s with tm:=put d (.ap []) s.tm}
  | none=>none
def oO:List Nat->St->Option St
 | [],s=>some s
 | t::r,s=>
  match freeze deep s.hp (af s.tm t) with
  | some (v,hp)=>oO r {s with tm:=(t,v)::s.tm,hp:=hp}
  | none=>none
def bI (P:aG) (L:Lib) (self:cK):VC->St->Option (Ex×St)
 | .skip,s=>some (.normal,s)
 | .aP ops,s=>match dR P L self ops s with | some s'=>some (.normal,s') | none=>none
 | .seq a b,s=>
  match bI P L self a s with
  | some (.normal,s1)=>bI P L self b s1
  | r=>r
 | .cond x a b,s=>
  match aA s.tm x with
  | .bool t=>bif t then bI P L self a s else bI P L self b s
  | _=>none
 | .aK id a,s=>
  match bI P L self a s with
  | some (.exit j,s1)=>bif yu j id then some (.normal,s1) else some (.exit j,s1)
  | r=>r
 | .kp live,s=>some (.normal,bD live s)
 | .fz ts,s=>match oO ts s with | some s'=>some (.normal,s') | none=>none
 | .loop live a,s=>
  match bI P L self a (bD live s) with
  | some (.normal,s1)=>self (.loop live a) s1
  | r=>r
 | .rf f ps as_ body,s=>
  match aA s.tm f with
  | .fn (.f n) first cap=>
   match L.heap n with
   | some _=>none
   | none=>
    match iH P L self ((s.ct,.lp s.tm ps as_ body 0 .none)::s.hp) (s.ct+1) n (first++(.fn (.y s.ct) [] []::cap)) with
    | some (_,hp,ct)=>
     match ak hp s.ct with
     | some (.lp _ _ _ _ st pe)=>
      bif yu st 1 then none else
      match pe with
      | .none=>some (.normal,{s with hp:=dA hp s.ct,ct:=ct})
      | .ret=>some (.ret,{s with hp:=dA hp s.ct,ct:=ct})
      | .exit id=>some (.exit id,{s with hp:=dA hp s.ct,ct:=ct})
     | _=>none
    | none=>none
  | _=>none
 | .exit id,s=>some (.exit id,s)
 | .ret,s=>some (.ret,s)
def ev (P:aG) (L:Lib) (n:Nat):cK:=Nat.rec (fun _ _=>none) (fun _ ih=>bI P L ih) n
def Vt (P:aG) (L:Lib) (n:Nat) (f:Nat) (vals:List AV):Option AV:=bO P L (ev P L n) f vals
end
section
open Go
structure Pl where
 b:Nat
 o:Nat
 e:Nat
 z:Nat
abbrev Mp:=Nat->Option Pl
section
variable (ai:Nat->Nat) (m:Mp) (S:Nat->Prop) (w:yi)
mutual
def aj:AV->yf->Prop
 | .int k n,v=>v= .int k n
 | .bool b,v=>v= .bool b
 | .dE k b,v=>v= .float k b
 | .str s,v=>∃t:ByteArray,v= .string t/\t.data.toList.map yY=s
 | .kB,v=>v= .pointer none
 | .ptr id o,v=>∃p,m id=some p/\v= .pointer (some ⟨p.b,p.o+o,none⟩)
 | .aI cs,v=>∃b o,v= .pointer (some ⟨b,o,none⟩)/\(cs=[]\/S b)/\aH cs=true/\bW cs b o
 | .ab,v=>v= .slice none 0 0
 | .aE ex n cs,v=>(∃b o c,v= .slice (some ⟨b,o,none⟩) n c/\n<=c/\(ex=true->c=n)/\(cs=[]\/S b)/\aH cs=true/\bW cs b o)\/(∃a,v= .slice (some a) 0 0/\n=0/\cs=[])
 | .cJ _ _ _ _,_=>False
 | .an id o n,v=>∃p c,m id=some p/\v= .slice (some ⟨p.b,p.o+o,none⟩) n c/\n<=c/\o+c*p.z=p.e
 | .fn (.f g) first cap,v=>∃fi ca:Array yf,v= .func (.func (ai g)) fi ca/\au first fi.toList/\au cap ca.toList
 | .fn (.y l) _ _,v=>∃p,m l=some p/\v= .func (.yield p.b) #[] #[]
 | .iA,v=>v= .nilFunc
 | .jP,v=>v= .map none
 | .map id,v=>∃p,m id=some p/\v= .map (some p.b)
 | .jy ks vs,v=>∃b es clock,v= .map (some b)/\S b/\aH ks=true/\aH vs=true/\w.heap[b]? =some (.map es clock)/\
   au ks (es.toList.map (·.key))/\au vs (es.toList.map (·.val))
 | .it id,v=>∃p,m id=some p/\v= .pointer (some ⟨p.b,0,none⟩)
 | .agg cs,v=>∃xs:Array yf,v= .agg xs/\au cs xs.toList
 | .ap cs,v=>∃xs:Array yf,v= .tuple xs/\au cs xs.toList
 | .undef,_=>True
def au:List AV->List yf->Prop
 | [],us=>us=[]
 | c::cs,us=>∃u r,us=u::r/\aj c u/\au cs r
def bW:List AV->Nat->Nat->Prop
 | [],_,_=>True
 | c::cs,b,o=>(∃u,w.cell? ⟨b,o,none⟩=some u/\aj c u)/\bW cs b (o+1)
end
end
def gm (S:Nat->Prop) (w w':yi):Prop:=∀b,S b->w'.heap[b]? =w.heap[b]?
def Lx {w w':yi} {b o:Nat} (h:w'.heap[b]? =w.heap[b]?):w'.cell? ⟨b,o,none⟩=w.cell? ⟨b,o,none⟩:=by
 simp only [World.cell?,h]
section
variable {ai:Nat->Nat} {m m':Mp} {S S':Nat->Prop} {w w':yi}
mutual
def mi (hm:∀id p,m id=some p->m' id=some p) (hS:∀b,S b->S' b) (hw:gm S w w'):
  ∀(v:AV) (u:yf),aj ai m S w v u->aj ai m' S' w' v u
 | .int _ _,_,h | .bool _,_,h | .dE _ _,_,h | .str _,_,h | .kB,_,h | .ab,_,h | .iA,_,h | .jP,_,h | .undef,_,h=>by
  simpa only [aj] using h
 | .ptr id o,u,h=>by
  simp only [aj] at h ⊢;obtain ⟨p,h1,h2⟩:=h;exact ⟨p,hm _ _ h1,h2⟩
 | .aI cs,u,h=>by
  simp only [aj] at h ⊢;obtain ⟨b,o,h1,h2,h3,h4⟩:=h;refine ⟨b,o,h1,h2.imp id (hS b),h3,?_⟩;rcases h2 with rfl | h2
  ·simp only [bW]
  ·exact QK hm hS hw cs b o h2 h4
 | .aE ex n cs,u,h=>by
  simp only [aj] at h ⊢;rcases h with ⟨b,o,c,h1,h2,h3,h4,h5,h6⟩ | h
  ·refine .inl ⟨b,o,c,h1,h2,h3,h4.imp id (hS b),h5,?_⟩;rcases h4 with rfl | h4
   ·simp only [bW]
   ·exact QK hm hS hw cs b o h4 h6
  ·exact .inr h
 | .cJ _ _ _ _,u,h=>by simp only [aj] at h
 | .an id o n,u,h=>by
  simp only [aj] at h ⊢;obtain ⟨p,c,h1,h2⟩:=h;exact ⟨p,c,hm _ _ h1,h2⟩
 | .fn (.f g) first cap,u,h=>by
  simp only [aj] at h ⊢;obtain ⟨fi,ca,h1,h2,h3⟩:=h;exact ⟨fi,ca,h1,iq hm hS hw first _ h2,iq hm hS hw cap _ h3⟩
 | .fn (.y l) _ _,u,h=>by
  simp only [aj] at h ⊢;obtain ⟨p,h1,h2⟩:=h;exact ⟨p,hm _ _ h1,h2⟩
 | .map id,u,h=>by
  simp only [aj] at h ⊢;obtain ⟨p,h1,h2⟩:=h;exact ⟨p,hm _ _ h1,h2⟩
 | .jy ks vs,u,h=>by
  simp only [aj] at h ⊢;obtain ⟨b,es,clock,h1,h2,h3,h4,h5,h6,h7⟩:=h;exact ⟨b,es,clock,h1,hS b h2,h3,h4,(hw b h2).trans h5,iq hm hS hw ks _ h6,iq hm hS hw vs _ h7⟩
 | .it id,u,h=>by
  simp only [aj] at h ⊢;obtain ⟨p,h1,h2⟩:=h;exact ⟨p,hm _ _ h1,h2⟩
 | .agg cs,u,h=>by
  simp only [aj] at h ⊢;obtain ⟨xs,h1,h2⟩:=h;exact ⟨xs,h1,iq hm hS hw cs _ h2⟩
 | .ap cs,u,h=>by
  simp only [aj] at h ⊢;obtain ⟨xs,h1,h2⟩:=h;exact ⟨xs,h1,iq hm hS hw cs _ h2⟩
def iq (hm:∀id p,m id=some p->m' id=some p) (hS:∀b,S b->S' b) (hw:gm S w w'):
  ∀(vs:List AV) (us:List yf),au ai m S w vs us->au ai m' S' w' vs us
 | [],us,h=>by simpa only [au] using h
 | v::r,us,h=>by
  simp only [au] at h ⊢;obtain ⟨u,t,h1,h2,h3⟩:=h;exact ⟨u,t,h1,mi hm hS hw v u h2,iq hm hS hw r t h3⟩
def QK (hm:∀id p,m id=some p->m' id=some p) (hS:∀b,S b->S' b) (hw:gm S w w'):
  ∀(cs:List AV) (b o:Nat),S b->bW ai m S w cs b o->bW ai m' S' w' cs b o
 | [],_,_,_,_=>by simp only [bW]
 | c::cs,b,o,hb,h=>by
  simp only [bW] at h ⊢;obtain ⟨⟨u,h1,h2⟩,h3⟩:=h;exact ⟨⟨u,(Lx (hw b hb)).trans h1,mi hm hS hw c u h2⟩,QK hm hS hw cs b (o+1) hb h3⟩
end
end
end
section
open Go
structure Hint where
 n:Nat
 cr:FuncId->Option Nat
 live:Nat->List Nat
 out:Nat->Option (List Nat)
 mode:Nat->Md
 fz:Nat->List Nat
section
variable (P:y6) (H:Hint)
mutual
def eR:yf->AV
 | .int k n=> .int k n
 | .bool b=> .bool b
 | .float k b=> .dE k b
 | .string s=> .str (s.data.toList.map yY)
 | .pointer none=> .kB
 | .slice none 0 0=> .ab
 | .map none=> .jP
 | .nilFunc=> .iA
 | .agg ⟨cs⟩=> .agg (Ew cs)
 | .tuple ⟨cs⟩=> .ap (Ew cs)
 | _=> .undef
def Ew:List yf->List AV
 | []=>[]
 | v::r=>eR v::Ew r
end
def aT:xA->X
 | .tmp t=> .t t
 | .const v=> .c (eR v)
 | .global _=> .c .undef
 | .func f=>match H.cr f with | some g=> .c (.fn (.f g) [] []) | none=> .c .undef
def ia:List xA->List X
 | []=>[]
 | x::r=>aT H x::ia r
def cT (t:yx):Option Nat:=match P.info? t with | some i=>some i.size | none=>none
def BM (t:yx):Option Nat:=match P.info? t with | some i=>some i.bytes | none=>none
def mY (t:yx):Option AV:=match P.info? t with | some i=>(match i.zero with | some v=>some (eR v) | none=>none) | none=>none
def dZ (t:yx):Option Bool:=match P.underlying t with | some (.struct _) | some (.array _ _)=>some true | some _=>some false | none=>none
def bad:Op:= .call .pure (.c .undef) []
def partsOf (place:Nat->Option (Nat×Nat)):List (Nat×xA)->Option (List (Nat×Nat×X))
 | []=>some []
 | (i,x)::r=>
  match place i,partsOf place r with
  | some (o,s),some l=>some ((o,s,aT H x)::l)
  | _,_=>none
def D8 (self:yx->Option (List Nat)):List Field->Nat->Option (List Nat)
 | [],_=>some []
 | f::r,o=>
  match self f.type,cT P f.type with
  | some ks,some s=>
   bif f.name != "_"&&yu f.offset o&&yu ks.length s&& !P.stoodInHeld f.type then
    (match D8 self r (o+s) with | some l=>some (ks++l) | none=>none)
   else none
  | _,_=>none
def kinds:Nat->yx->Option (List Nat)
 | 0,_=>none
 | n+1,t=>
  match P.underlying t with
  | some .bool=>some [0]
  | some (.int _)=>some [1]
  | some .string=>some [2]
  | some (.struct fs)=>D8 P (fun u=>kinds n u) fs.toList 0
  | some (.array k e)=>
   match kinds n e,cT P e with
   | some ks,some s=>bif yu ks.length s&& !P.stoodInHeld e then some (yz k ks).flatten else none
   | _,_=>none
  | _=>none
def keyOf (t:yx):Option Nat:=
 match P.underlying t with
 | some .bool=>some 0
 | some (.int _)=>some 1
 | some .string=>some 2
 | _=>none
def sT (ne:Bool) (t:yx) (a b:xA):Op:=
 match kinds P 20 t with
 | some ks=>bif P.stoodInHeld t||P.eqGuardType P.depth t then bad else .eq ne (.ag ks) (aT H a) (aT H b)
 | none=>bad
def rn (ne:Bool) (op:wN) (t:yx) (a b:xA):Op:=
 match P.underlying t with
 | some (.int _) | some .string | some (.float _)=> .bin op (aT H a) (aT H b)
 | some .bool=> .eq ne .b (aT H a) (aT H b)
 | some (.slice _)=> .eq ne .sl (aT H a) (aT H b)
 | some (.func _ _ _)=> .eq ne .fn (aT H a) (aT H b)
 | some (.struct _) | some (.array _ _)=>sT P H ne t a b
 | _=>bad
def bt (k:Nat) (o:yZ):Op:=
 let x (y:xA):X:=aT H y
 match o.op with
 | .move a | .assign a=> .bQ (x a)
 | .pick c a b=> .pick (x c) (x a) (x b)
 | .alloc t=>match cT P t,mY P t with | some s,some z=> .box s (.c z) | _,_=>bad
 | .box t v=>match cT P t with | some s=> .box s (x v) | none=>bad
 | .build t parts=>
  match P.underlying t,mY P t with
  | some (.struct fs),some (.agg z)=>
   match fs.toList.mapM (fun f=>(P.info? f.type).map fun i=>(f.offset,i.size)) with
   | some pl=>(match partsOf H (fun i=>pl[i]?) parts.toList with | some ps=> .cC z ps | none=>bad)
   | none=>bad
  | some (.array _ e),some (.agg z)=>
   match cT P e with
   | some s=>(match partsOf H (fun i=>some (i*s,s)) parts.toList with | some ps=> .cC z ps | none=>bad)
   | none=>bad
  | _,_=>bad
 | .buildSlice t n parts=>
  match P.underlying t with
  | some (.slice e)=>
   match cT P e,mY P e with
   | some s,some z=>
    bif yG (n*s) 16777216 then
     (match partsOf H (fun i=>some (i*s,s)) parts.toList with | some ps=> .bN n s (yz n (cellsOf z)).flatten ps | none=>bad)
    else bad
   | _,_=>bad
  | _=>bad
 | .load t a=>match cT P t,dZ P t with | some s,some ag=> .ld s ag (x a) | _,_=>bad
 | .store t a v=>match cT P t with | some s=> .st s (x a) (x v) | none=>bad
 | .nilCheck a=> .Jl (x a)
 | .binOp op t a b _=>
  match op with
  | .eql=>rn P H false op t a b
  | .neq=>rn P H true op t a b
  | _=> .bin op (x a) (x b)
 | .unOp op _ a=> .un op (x a)
 | .convert s d a=>
  match P.underlying s,P.underlying d with
  | some (.int _),some (.int k) | some (.float _),some (.int k)=> .cv (.toInt k) (x a)
  | some (.int _),some (.float k) | some (.float _),some (.float k)=> .cv (.toFlt k) (x a)
  | some .string,some .string=> .cv .str (x a)
  | _,_=>bad
 | .makeFunc (.func f) first cap=>match H.cr f with | some g=> .pk (.f g) (ia H first.toList) (ia H cap.toList) | none=>bad
 | .makeMap t none=>match P.underlying t with | some (.map ke _)=>(match keyOf P ke with | some _=> .z8 | none=>bad) | _=>bad
 | .makeSlice t l c=>
  match P.underlying t with
  | some (.slice e)=>(match cT P e,BM P e,mY P e with | some s,some b,some z=> .ig s b (cellsOf z) (x l) (x c) | _,_,_=>bad)
  | _=>bad
 | .slice t a lo hi none=>
  match P.underlying t with
  | some .string=> .ez .str (x a) (lo.map x) (hi.map x)
  | some (.slice e)=>(match cT P e with | some s=> .ez (.sl s) (x a) (lo.map x) (hi.map x) | none=>bad)
  | some (.array n e)=>(match cT P e with | some s=> .ez (.ar n s) (x a) (lo.map x) (hi.map x) | none=>bad)
  | _=>bad
 | .fieldAddr t a i=>
  match P.underlying t with
  | some (.struct fs)=>
   match fs[i]? with
   | some f=>(match cT P f.type with | some (_+1)=> .off f.offset (x a) | _=>bad)
   | none=>bad
  | _=>bad
 | .field t a i=>
  match P.underlying t with
  | some (.struct fs)=>
   match fs[i]? with
   | some f=>(match cT P f.type,dZ P f.type with | some s,some ag=> .Kl f.offset s ag (x a) | _,_=>bad)
   | none=>bad
  | _=>bad
 | .indexAddr t a i=>
  match P.underlying t with
  | some (.slice e)=>(match cT P e with | some s=> .bk s (x a) (x i) | none=>bad)
  | some (.array n e)=>(match cT P e with | some s=> .nZ n s (x a) (x i) | none=>bad)
  | _=>bad
 | .index t a i=>
  match P.underlying t with
  | some .string=> .lz (x a) (x i)
  | some (.array n e)=>(match cT P e,dZ P e with | some s,some ag=> .qJ n s ag (x a) (x i) | _,_=>bad)
  | _=>bad
 | .lookup t a i ok=>
  match P.underlying t with
  | some (.map ke e)=>(match keyOf P ke,mY P e with | some kk,some z=> .Pg kk z ok (x a) (x i) | _,_=>bad)
  | _=>bad
 | .mapUpdate t a i v | .insert t a i v=>
  match P.underlying t with
  | some (.map ke _)=>(match keyOf P ke with | some kk=> .pn kk (x a) (x i) (x v) | none=>bad)
  | _=>bad
 | .range t a=>match P.underlying t with | some .string=> .po (x a) | _=>bad
 | .next it true=> .pq (x it)
 | .extract t i=> .ext i (x t)
 | .call c=>
  match c.callee with
  | .value f=>(match H.mode k with | .dyn=> .iy [] (x f) (ia H c.args.toList) | md=> .call md (x f) (ia H c.args.toList))
  | .builtin b=>
   match b,c.args.toList,c.argTypes.toList with
   | .append,[s,a],[t,u]=>
    match P.underlying t,P.underlying u with
    | some (.slice e),some (.slice _) | some (.slice e),some .string=>
     (match cT P e,BM P e,mY P e with | some sz,some by',some z=>(bif yu (cellsOf z).length sz then .dL sz by' (x s) (x a) else bad) | _,_,_=>bad)
    | _,_=>bad
   | .len,[a],[t]=>
    match P.underlying t with
    | some (.array n _)=> .bQ (.c (.int .i64 n))
    | some .string=> .len 0 (x a)
    | some (.slice _)=> .len 1 (x a)
    | some (.map _ _)=> .len 2 (x a)
    | _=>bad
   | .copy,[d,s],[t,_]=>
    match P.underlying t with
    | some (.slice e)=>(match cT P e with | some sz=> .pv sz (x d) (x s) | none=>bad)
    | _=>bad
   | .min,l,_=> .mn (ia H l)
   | .max,l,_=> .mx (ia H l)
   | _,_,_=>bad
  | _=>bad
 | _=>bad
def SB (o:yZ):Bool:=match o.op with | .call {callee:= .value _,..}=>true | _=>false
def I7 (d:Option Nat):Bool:=match d with | some i=>yK i H.n | none=>true
def zp (n:Nat):List Nat->Bool
 | []=>true
 | i::r=>yK i n&&zp n r
def Ct (ops:Array yZ):List yZ->Nat->List bn×Nat
 | [],k=>([],k)
 | o::r,k=>
  let g:=match o.guard with
   | none=>some none
   | some (j,b)=>match (ops[j]?).bind (·.dst) with | some t=>some (some (t,b)) | none=>none
  match Ct ops r (k+(bif SB o then 1 else 0)) with
  | (l,k')=>
   match g,I7 H o.dst with
   | some g,true=>(⟨o.dst,g,bt P H k o⟩::l,k')
   | _,_=>(⟨o.dst,none,bad⟩::l,k')
def A3 (acc:List Nat):List Edge->Nat
 | []=>0
 | e::r=>bif Region.binds .any e then (2^e.on|||acc.getD e.on 0)|||A3 acc r else A3 acc r
def my (acc:List Nat):List yZ->List Nat
 | []=>acc
 | o::r=>my (acc++[A3 acc o.after.toList]) r
def HI:List yZ->Nat->Bool
 | [],_=>true
 | o::r,i=>o.after.toList.all (fun e=> !Region.binds .any e||yK e.on i)&&HI r (i+1)
def MF (ops:Array yZ) (draw:Bool) (k:Nat):List bn×Nat:=
 match Ct P H ops ops.toList k with
 | (l,k')=>
  bif draw then
   (let ms:=my [] ops.toList
    let l':=zo [] l ms
    bif HI ops.toList 0&&El [] l' ms then (l',k') else ([⟨none,none,bad⟩],k'))
  else (l,k')
def aqE:wI->Bool
 | .loop _=>true
 | _=>false
def comp:wI->Nat->Nat->VC×Nat×Nat
 | .skip,l,k | .label _,l,k=>(.skip,l,k)
 | .region i ops d,l,k=>match MF P H ops d k with | (r,k')=>((match H.fz i with | []=> .aP r | t::ts=> .seq (.fz (t::ts)) (.aP r)),l,k')
 | .seq a b,l,k=>match comp a l k with | (a',l1,k1)=>match comp b l1 k1 with | (b',l2,k2)=>(.seq a' b',l2,k2)
 | .cond c a b,l,k=>
  match comp a (l+1) k with
  | (a',l1,k1)=>
   match comp b l1 k1 with
   | (b',l2,k2)=>(match H.out l with | some o=> .seq (.cond (aT H c) a' b') (.kp o) | none=> .cond (aT H c) a' b',l2,k2)
 | .block id a,l,k=>
  match comp a l k with
  | (a',r)=>(match aqE a,H.out l with | true,some o=> .seq (.aK id a') (.kp o) | _,_=> .aK id a',r)
 | .loop a,l,k=>match comp a (l+1) k with | (a',r)=>(.loop (H.live l) a',r)
 | .rangeFunc f ps as_ body,l,k=>
  match comp as_ l k with | (as',l1,k1)=>match comp body l1 k1 with | (b',l2,k2)=>(bif zp H.n ps.toList then .rf (aT H f) ps.toList as' b' else .aP [⟨none,none,bad⟩],l2,k2)
 | .exit id,l,k=>(.exit id,l,k)
 | .scope a,l,k=>comp a l k
 | .ret,l,k=>(.ret,l,k)
 | .goto _,l,k | .refuse _,l,k=>(.aP [⟨none,none,bad⟩],l,k)
def oF:List ResultVar->Option (List RV)
 | []=>some []
 | .tmp t::r=>match oF r with | some l=>some (.t t::l) | none=>none
 | .cell a t::r=>match cT P t,dZ P t,oF r with | some s,some ag,some l=>some (.cell a s ag::l) | _,_,_=>none
def Ey (fn:Func):Option aD:=
 match fn.body,oF P fn.results.toList with
 | some c,some rs=>bif yG H.n fn.ntmps then some ⟨rs,(comp P H c 0 0).1⟩ else none
 | _,_=>none
end
end
section
open Go
structure bA where
 P:y6
 aU:Lib
 ai:Nat->Nat
 prog:aG
 hint:Nat->Hint
 w0:yi
def BN (P:y6) (H:Hint) (v:VC) (c:wI):Prop:=∃l k,(comp P H c l k).1=v
def Bq:Nat->LoopState
 | 0=> .ready
 | 1=> .busy
 | 2=> .done
 | _=> .exhausted
def zc:rG->Option wI
 | .none=>none
 | .ret=>some .ret
 | .exit id=>some (.exit id)
section
variable (O:bA) (m:Mp) (S:Nat->Prop) (w:yi)
def cw (tm:Env) (tmps:Array yf):Prop:=∀i,aj O.ai m S w (af tm i) (tmps.getD i undef)
def fM (id:Nat):Obj->Prop
 | .cells rw pu ex sz cs=>∃p arr t,m id=some p/\w.heap[p.b]? =some (.cells arr t (0,0))/\p.z=sz/\cs.length<=p.e/\p.o+p.e<=arr.size/\
   (ex=true->cs.length=p.e)/\bW O.ai m S w cs p.b p.o/\(pu=true->aH cs=true)/\(rw=true->¬S p.b)/\(rw=false->S p.b)
 | .mp rw ks vs=>∃p es clock,m id=some p/\w.heap[p.b]? =some (.map es clock)/\au O.ai m S w ks (es.toList.map (·.key))/\au O.ai m S w vs (es.toList.map (·.val))/\
   (rw=true->¬S p.b)/\(rw=false->S p.b)
 | .si s pos=>∃p t,m id=some p/\w.heap[p.b]? =some (.stringIter t pos)/\t.data.toList.map yY=s/\¬S p.b
 | .lp tm ps as_ body st pe=>∃p l h,m id=some p/\w.heap[p.b]? =some (.loop l)/\¬S p.b/\l.state=Bq st/\st<=2/\l.pending=zc pe/\cw O m S w tm l.tmps/\
   l.params.toList=ps/\BN O.P (O.hint h) as_ l.assign/\BN O.P (O.hint h) body l.body/\(O.hint h).n<=l.tmps.size/\zp (O.hint h).n ps=true
structure bf (hp:Hp) (ct:Nat):Prop where
 obj:∀id o p,ak hp id=some o->m id=some p->fM O m S w id o
 lt:∀id p,m id=some p->id<ct
 inj:∀i j oi oj pi pj,ak hp i=some oi->ak hp j=some oj->m i=some pi->m j=some pj->pi.b=pj.b->i=j
 slt:∀b,S b->b<w.heap.size
 blt:∀id p,m id=some p->p.b<w.heap.size
 low:∀id p,m id=some p->O.w0.heap.size<=p.b
 lR:∀b,b<O.w0.heap.size->w.heap[b]? =O.w0.heap[b]?
 gA:O.w0.heap.size<=w.heap.size
 bi:∀id o,ak hp id=some o->id<ct
end
def eE (m:Mp) (hp:Hp) (b:Nat):Prop:=∃id o p,ak hp id=some o/\m id=some p/\p.b=b
structure cB (m:Mp) (S:Nat->Prop) (w:yi) (hp:Hp) (m':Mp) (S':Nat->Prop) (w':yi) (ao:Hp) (base:Nat):Prop where
 os:w'.os=w.os
 tape:w'.tape=w.tape
 output:w'.output=w.output
 size:w.heap.size<=w'.heap.size
 same:∀b,b<w.heap.size->¬eE m hp b->w'.heap[b]? =w.heap[b]?
 sub:∀b,S b->S' b
 still:∀b,S b->w'.heap[b]? =w.heap[b]?
 new:∀b,S' b->S b\/eE m hp b\/w.heap.size<=b
 own:∀b,eE m' ao b->eE m hp b\/w.heap.size<=b
 old:∀id p,id<base->m id=some p->m' id=some p
 loops:∀(b:Nat) (r:Loop),w.heap[b]? =some (.loop r)->∃r':Loop,w'.heap[b]? =some (.loop r')
def cB.refl {m:Mp} {S:Nat->Prop} {w:yi} {hp:Hp} {base:Nat}:cB m S w hp m S w hp base:=
 ⟨rfl,rfl,rfl,Nat.le_refl _,fun _ _ _=>rfl,fun _ h=>h,fun _ _=>rfl,fun _ h=> .inl h,fun _ h=> .inl h,fun _ _ _ h=>h,fun _ r h=>⟨r,h⟩⟩
def cB.trans {m m' Kn:Mp} {S S' BO:Nat->Prop} {w w' Dr:yi} {hp ao Jm:Hp} {base:Nat}
  (h:cB m S w hp m' S' w' ao base) (k:cB m' S' w' ao Kn BO Dr Jm base):cB m S w hp Kn BO Dr Jm base where
 os:=k.os.trans h.os
 tape:=k.tape.trans h.tape
 output:=k.output.trans h.output
 size:=xj h.size k.size
 same b hb ho:=(k.same b (Nat.lt_of_lt_of_le hb h.size) (fun lA=>(h.own b lA).elim ho (fun h1=>by omega))).trans (h.same b hb ho)
 sub b hb:=k.sub b (h.sub b hb)
 still b hb:=(k.still b (h.sub b hb)).trans (h.still b hb)
 new b hb:=by
  rcases k.new b hb with h1 | h1 | h1
  ·exact h.new b h1
  ·rcases h.own b h1 with h2 | h2
   ·exact .inr (.inl h2)
   ·exact .inr (.inr h2)
  ·exact .inr (.inr (xj h.size h1))
 own b hb:=by
  rcases k.own b hb with h1 | h1
  ·exact h.own b h1
  ·exact .inr (xj h.size h1)
 old id p hid hp:=k.old id p hid (h.old id p hid hp)
 loops b r hb:=let ⟨r',h1⟩:=h.loops b r hb;k.loops b r' h1
end
section
open Go
section
variable {ai:Nat->Nat} {m:Mp} {S:Nat->Prop} {w:yi}
mutual
def MG:∀v:yf,aj ai m S w (eR v) v
 | .int _ _ | .bool _ | .float _ _=>by simp only [eR,aj]
 | .string s=>by simp only [eR,aj];exact ⟨s,rfl,rfl⟩
 | .pointer none=>by simp only [eR,aj]
 | .pointer (some _)=>by simp only [eR,aj]
 | .slice none 0 0=>by simp only [eR,aj]
 | .slice none 0 (_+1)=>by simp only [eR,aj]
 | .slice none (_+1) _=>by simp only [eR,aj]
 | .slice (some _) _ _=>by simp only [eR,aj]
 | .map none=>by simp only [eR,aj]
 | .map (some _)=>by simp only [eR,aj]
 | .nilFunc=>by simp only [eR,aj]
 | .agg ⟨cs⟩=>by simp only [eR,aj];exact ⟨⟨cs⟩,rfl,RD cs⟩
 | .tuple ⟨cs⟩=>by simp only [eR,aj];exact ⟨⟨cs⟩,rfl,RD cs⟩
 | .complex _ _ _ | .chan _ | .func _ _ _ | .iface _ _ | .nilIface=>by simp only [eR,aj]
def RD:∀l:List yf,au ai m S w (Ew l) l
 | []=>by simp only [Ew,au]
 | v::r=>by simp only [Ew,au];exact ⟨v,r,rfl,MG v,RD r⟩
end
end
def fT (O:bA) (H:Hint):Prop:=∀f g,H.cr f=some g->O.ai g=f
section
variable {O:bA} {H:Hint} {m:Mp} {S:Nat->Prop} {w:yi} {tm:Env} {a:Act}
def cI (hH:fT O H) (ht:cw O m S w tm a.tmps) (x:xA):aj O.ai m S w (aA tm (aT H x)) (a.eval x):=by
 cases x with
 | tmp t=>exact ht t
 | const v=>simp only [aT,aA,Act.eval];exact MG v
 | global g=>simp only [aT,aA,aj]
 | func f=>
  simp only [aT,Act.eval]
  cases hr:H.cr f with
  | none=>simp only [aA,aj]
  | some g=>simp only [aA,aj,hH f g hr,au];exact ⟨#[],#[],rfl,rfl,rfl⟩
def CA (hH:fT O H) (ht:cw O m S w tm a.tmps):∀l:List xA,au O.ai m S w (dG tm (ia H l)) (l.map a.eval)
 | []=>by simp only [ia,dG,List.map_nil,au]
 | x::r=>by simp only [ia,dG,yU,au];exact ⟨_,_,rfl,cI hH ht x,CA hH ht r⟩
end
section
variable {O:bA} {m:Mp} {S:Nat->Prop} {w:yi}
def qZ {ai:Nat->Nat}:∀(k:Nat) (cs:List AV) (b o:Nat),bW ai m S w cs b o->bW ai m S w (cs.drop k) b (o+k)
 | 0,cs,b,o,h=>by simpa using h
 | k+1,[],b,o,_=>by simp only [List.drop_nil,bW]
 | k+1,c::cs,b,o,h=>by
  simp only [bW] at h
  have:=qZ k cs b (o+1) h.2
  rw [List.drop_succ_cons,show o+(k+1)=o+1+k by omega];exact this
def Ci {ai:Nat->Nat}:∀(k:Nat) (cs:List AV) (b o:Nat),bW ai m S w cs b o->bW ai m S w (cs.take k) b o
 | 0,cs,b,o,_=>by simp only [List.take_zero,bW]
 | k+1,[],b,o,_=>by simp only [List.take_nil,bW]
 | k+1,c::cs,b,o,h=>by
  simp only [bW,wh] at h ⊢;exact ⟨h.1,Ci k cs b (o+1) h.2⟩
def sM {ai:Nat->Nat}:∀(cs:List AV) (b o:Nat),bW ai m S w cs b o->
  ∃us:List yf,au ai m S w cs us/\us.length=cs.length/\∀j u,us[j]? =some u->w.cell? ⟨b,o+j,none⟩=some u
 | [],b,o,_=>⟨[],by simp only [au],rfl,fun j u h=>by simp at h⟩
 | c::cs,b,o,h=>by
  simp only [bW] at h;obtain ⟨⟨u,h1,h2⟩,h3⟩:=h;obtain ⟨us,h4,h5,h6⟩:=sM cs b (o+1) h3;refine ⟨u::us,by simp only [au];exact ⟨u,us,rfl,h2,h4⟩,by simp [h5],fun j v hv=>?_⟩
  cases j with
  | zero=>simp at hv;subst hv;simpa using h1
  | succ j=>simp at hv;have:=h6 j v hv;rw [show o+(j+1)=o+1+j by omega];exact this
def iY {ai:Nat->Nat}:∀(cs:List AV) (us:List yf),au ai m S w cs us->us.length=cs.length
 | [],us,h=>by simp only [au] at h;subst h;rfl
 | c::cs,us,h=>by
  simp only [au] at h;obtain ⟨u,r,rfl,_,h3⟩:=h;simp [iY cs r h3]
end
end
section
open Go
def oL (b o j:Nat):(⟨b,o,none⟩:Addr).add j=⟨b,o+j,none⟩:=by
 unfold Addr.add;split<;>simp_all
section
variable {P:y6} {w:yi}
def aiG (t:yx) (b o:Nat) (us:List yf) (ha:dZ P t=some true) (hz:cT P t=some us.length)
  (h:∀j u,us[j]? =some u->w.cell? ⟨b,o+j,none⟩=some u):(loadVar t ⟨b,o,none⟩).run P w= .ok (.agg us.toArray) w:=by
 have hl:=run_loadCells_list (P:=P) w ⟨b,o,none⟩ us (fun j u hu=>by rw [oL];exact h j u hu)
 unfold cT at hz
 cases hi:P.info? t with
 | none=>simp [hi] at hz
 | some i=>
  simp only [hi,yc] at hz;unfold dZ at ha
  cases hu:P.underlying t with
  | none=>simp [hu] at ha
  | some d=>cases d<;>simp_all [loadVar,isAgg,vU,typeInfo,underlying]
def aiH (t:yx) (b o:Nat) (u:yf) (ha:dZ P t=some false)
  (h:w.cell? ⟨b,o,none⟩=some u):(loadVar t ⟨b,o,none⟩).run P w= .ok u w:=by
 unfold dZ at ha
 cases hu:P.underlying t with
 | none=>simp [hu] at ha
 | some d=>cases d<;>simp_all [loadVar,isAgg,underlying]
end
section
variable {O:bA} {m:Mp} {S:Nat->Prop} {w:yi}
def MH {t:yx} {sz:Nat} {ag:Bool} {cs:List AV} {b o:Nat} {v:AV} (hz:cT O.P t=some sz) (ha:dZ O.P t=some ag)
  (hr:bW O.ai m S w cs b o) (hv:dO sz ag cs=some v):∃u,(loadVar t ⟨b,o,none⟩).run O.P w= .ok u w/\aj O.ai m S w v u:=by
 cases ag with
 | true=>
  simp only [dO,ym] at hv
  cases hle:yG sz cs.length with
  | false=>simp only [hle,yA] at hv;cases hv
  | true=>
   simp only [hle,ym,yc] at hv;subst hv;obtain ⟨us,h1,h2,h3⟩:=sM _ _ _ (Ci sz cs b o hr);have hlen:us.length=sz:=by
    rw [h2,List.length_take];have:=yy hle;omega
   refine ⟨.agg us.toArray,aiG t b o us ha (by rw [hlen];exact hz) h3,?_⟩
   simp only [aj];exact ⟨us.toArray,rfl,by simpa using h1⟩
 | false=>
  simp only [dO,yA] at hv
  cases cs with
  | nil=>simp at hv
  | cons c cs=>
   simp only [yc] at hv;subst hv;simp only [bW] at hr;obtain ⟨⟨u,h1,h2⟩,_⟩:=hr;exact ⟨u,aiH t b o u ha h1,h2⟩
def aa8 {t:yx} {sz o:Nat} {ag:Bool} {cs:List AV} {xs:Array yf} {v:AV} (hz:cT O.P t=some sz) (ha:dZ O.P t=some ag)
  (hr:au O.ai m S w cs xs.toList) (hv:dO sz ag (cs.drop o)=some v):∃u,(part t xs o).run O.P w= .ok u w/\aj O.ai m S w v u:=by
 have hd:∀(k:Nat) (cs:List AV) (us:List yf),au O.ai m S w cs us->au O.ai m S w (cs.drop k) (us.drop k):=by
  intro k
  induction k with
  | zero=>intro cs us h;simpa using h
  | succ k ih=>
   intro cs us h
   cases cs with
   | nil=>simp only [au] at h;subst h;simp [au]
   | cons c cs=>simp only [au] at h;obtain ⟨u,r,rfl,_,h3⟩:=h;simpa using ih cs r h3
 have eF:∀(k:Nat) (cs:List AV) (us:List yf),au O.ai m S w cs us->au O.ai m S w (cs.take k) (us.take k):=by
  intro k
  induction k with
  | zero=>intro cs us h;simp [au]
  | succ k ih=>
   intro cs us h
   cases cs with
   | nil=>simp only [au] at h;subst h;simp [au]
   | cons c cs=>simp only [au] at h;obtain ⟨u,r,rfl,h2,h3⟩:=h;simp only [wh,au];exact ⟨u,_,rfl,h2,ih cs r h3⟩
 have afr:(isAgg t).run O.P w= .ok ag w:=by
  unfold dZ at ha
  cases hu:O.P.underlying t with
  | none=>simp [hu] at ha
  | some d=>cases d<;>simp_all [isAgg,underlying]
 have fa:(vU t).run O.P w= .ok sz w:=by
  unfold cT at hz
  cases hi:O.P.info? t with
  | none=>simp [hi] at hz
  | some i=>simp_all [vU,typeInfo]
 have bX:=hd o cs xs.toList hr
 cases ag with
 | true=>
  simp only [dO,ym] at hv
  cases hle:yG sz (cs.drop o).length with
  | false=>simp only [hle,yA] at hv;cases hv
  | true=>
   simp only [hle,ym,yc] at hv;subst hv;refine ⟨.agg (xs.extract o (o+sz)),by simp [part,Sem.run_bind,afr,fa],?_⟩;simp only [aj];refine ⟨_,rfl,?_⟩
   have:=eF sz _ _ bX
   rw [show (xs.extract o (o+sz)).toList=(xs.toList.drop o).take sz by simp [Array.toList_extract,List.extract_eq_take_drop]];exact this
 | false=>
  simp only [dO,yA] at hv
  cases hc:cs.drop o with
  | nil=>simp [hc] at hv
  | cons c r=>
   simp only [hc,yc] at hv;subst hv;rw [hc] at bX;simp only [au] at bX;obtain ⟨u,us,h1,h2,_⟩:=bX;have hx:xs[o]? =some u:=by
    have:xs.toList[o]? =some u:=by
     have:=congrArg (fun l=>l[0]?) h1
     simpa using this
    simpa using this
   exact ⟨u,by simp [part,Sem.run_bind,afr,hx],h2⟩
end
end
section
open Go
def mo (t:ByteArray):List Nat:=t.data.toList.map yY
def aa9:∀a b:List UInt8,cA (a.map yY) (b.map yY)=(a==b)
 | [],[]=>rfl
 | [],_::_=>rfl
 | _::_,[]=>rfl
 | a::x,b::y=>by
  have h:yu a.toNat b.toNat=(a==b):=by
   rw [uB,ybp,tH];exact UV
  simp only [yU,cA,aa9 x y,h,List.cons_beq_cons]
def aba:∀a b:List UInt8,BJ (a.map yY) (b.map yY)=Op.bytesLess a b
 | [],[]=>rfl
 | [],_::_=>rfl
 | _::_,[]=>rfl
 | a::x,b::y=>by
  have h:yu a.toNat b.toNat=(a==b):=by
   rw [uB,ybp,tH];exact UV
  have h2:yK a.toNat b.toNat=decide (a<b):=by
   rw [uB];simp only [yK,Nat.ble_eq,wP,UInt8.lt_iff_toNat_lt];omega
  simp only [yU,BJ,Op.bytesLess,aba x y,h,h2]
def Y8 (s t:ByteArray):cA (mo s) (mo t)=(s.toList==t.toList):=by
 rw [mo,mo,aa9,ByteArray.toList_eq,ByteArray.toList_eq]
def aka (s t:ByteArray):BJ (mo s) (mo t)=Op.bytesLess s.toList t.toList:=by
 rw [mo,mo,aba,ByteArray.toList_eq,ByteArray.toList_eq]
def Y9 (s:ByteArray):(mo s).length=s.size:=by
 rw [mo,List.length_map,Lib.size_eq]
section
variable {ai:Nat->Nat} {P:y6} {m:Mp} {S:Nat->Prop} {w:yi} {t:yx}
def al5 {op:wN} {k:yV} {x y:Int} {v:AV} (h:lL op k x y=some v):
  ∃u,(xJ op t (.int k x) (.int k y)).run P w= .ok u w/\aj ai m S w v u:=by
 cases op<;>simp only [lL,intCmp,yc] at h
 case add=>subst h;exact ⟨_,by simp [xJ,Op.intArith];rfl,by simp [aj]⟩
 case sub=>subst h;exact ⟨_,by simp [xJ,Op.intArith];rfl,by simp [aj]⟩
 case mul=>subst h;exact ⟨_,by simp [xJ,Op.intArith];rfl,by simp [aj]⟩
 case quo=>
  by_cases hy:y=0
  ·simp [hy] at h
  ·simp only [hy,yO,yc] at h;subst h;exact ⟨_,by simp [xJ,Op.intDiv,hy];rfl,by simp [aj]⟩
 case rem=>
  by_cases hy:y=0
  ·simp [hy] at h
  ·simp only [hy,yO,yc] at h;subst h;exact ⟨_,by simp [xJ,Op.intDiv,hy];rfl,by simp [aj]⟩
 case and=>subst h;exact ⟨_,by simp [xJ,Op.intBits];rfl,by simp [aj]⟩
 case or=>subst h;exact ⟨_,by simp [xJ,Op.intBits];rfl,by simp [aj]⟩
 case xor=>subst h;exact ⟨_,by simp [xJ,Op.intBits];rfl,by simp [aj]⟩
 case andNot=>subst h;exact ⟨_,by simp [xJ,Op.intBits];rfl,by simp [aj]⟩
 case shl=>cases h
 case shr=>cases h
 all_goals
  subst h;exact ⟨_,by simp [xJ,Op.intCmp];rfl,by simp [aj]⟩
def Yr {op:wN} {k k':yV} {x y:Int} {v:AV} (h:Cs op k x y=some v):
  ∃u,(xJ op t (.int k x) (.int k' y)).run P w= .ok u w/\aj ai m S w v u:=by
 unfold Cs at h;by_cases hy:y<0
 ·simp [hy] at h
 ·simp only [hy,yO] at h;cases op<;>simp only [yc] at h
  case shl=>subst h;exact ⟨_,by simp [xJ,Op.shift,hy];rfl,by simp [aj]⟩
  case shr=>subst h;exact ⟨_,by simp [xJ,Op.shift,hy];rfl,by simp [aj]⟩
  all_goals cases h
def al6 {op:wN} {x y:ByteArray} {v:AV} (h:I1 op (mo x) (mo y)=some v):
  ∃u,(xJ op t (.string x) (.string y)).run P w= .ok u w/\aj ai m S w v u:=by
 cases op<;>simp only [I1,Y8,aka,Y9,yc] at h
 case add=>
  cases hle:yG (x.size+y.size) 9223372036854775807 with
  | false=>rw [hle] at h;cases h
  | true=>
   rw [hle] at h;simp only [ym,yc] at h;subst h;have aAT:=yy hle;have auS:¬(((x.size+y.size:Nat):Int)>IntKind.i64.max):=by
    have:IntKind.i64.max=9223372036854775807:=by decide
    rw [this];omega
   refine ⟨.string (x++y),?_,?_⟩
   ·simp only [xJ,Op.stringOp,yB auS,Sem.run_pure]
   ·simp only [aj];exact ⟨x++y,rfl,by simp [mo]⟩
 all_goals first
  | (cases h;done)
  | (subst h;exact ⟨_,by simp [xJ,Op.stringOp];rfl,by simp [aj]⟩)
def al7 {op:wN} {k:vP} {x y:Nat} {v:AV} (h:S4 op k x y=some v):
  ∃u,(xJ op t (.float k x) (.float k y)).run P w= .ok u w/\aj ai m S w v u:=by
 cases op<;>simp only [S4,yc] at h
 case add=>
  cases hr:k.format.add x y with
  | none=>simp [hr] at h
  | some r=>simp only [hr,yc] at h;subst h;exact ⟨.float k r,by simp [xJ,Op.floatArith,hr],by simp [aj]⟩
 case sub=>
  cases hr:k.format.sub x y with
  | none=>simp [hr] at h
  | some r=>simp only [hr,yc] at h;subst h;exact ⟨.float k r,by simp [xJ,Op.floatArith,hr],by simp [aj]⟩
 case mul=>
  cases hr:k.format.mul x y with
  | none=>simp [hr] at h
  | some r=>simp only [hr,yc] at h;subst h;exact ⟨.float k r,by simp [xJ,Op.floatArith,hr],by simp [aj]⟩
 case quo=>
  cases hr:k.format.div x y with
  | none=>simp [hr] at h
  | some r=>simp only [hr,yc] at h;subst h;exact ⟨.float k r,by simp [xJ,Op.floatArith,hr],by simp [aj]⟩
 all_goals first
  | (cases h;done)
  | (subst h;exact ⟨_,by simp [xJ,Op.floatCmp];rfl,by simp [aj]⟩)
def al8 {op:wN} {vx vy v:AV} {x y:yf} (hx:aj ai m S w vx x) (hy:aj ai m S w vy y) (h:VE.binOp op vx vy=some v):
  ∃u,(xJ op t x y).run P w= .ok u w/\aj ai m S w v u:=by
 unfold VE.binOp at h
 split at h
 ·rename_i k a k' b;simp only [aj] at hx hy;subst hx;subst hy
  split at h
  ·exact Yr h
  ·exact Yr h
  ·by_cases hk:k=k'
   ·subst hk;simp only [y5] at h;exact al5 h
   ·simp [hk] at h
 ·rename_i k a k' b;simp only [aj] at hx hy;subst hx;subst hy;by_cases hk:k=k'
  ·subst hk;simp only [y5] at h;exact al7 h
  ·simp [hk] at h
 ·rename_i a b;simp only [aj] at hx hy;obtain ⟨s,rfl,rfl⟩:=hx;obtain ⟨s',rfl,rfl⟩:=hy;exact al6 h
 ·cases h
end
end
end VE
