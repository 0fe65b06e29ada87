import GoSem.Core.Code
import GoSem.Core.Float
import GoSem.Core.Utf8
import Derived.CallsIn
import Derived.Laws.World
import GoSem.Op.Equal
import GoSem.Core.Region
import Derived.Below
import Derived.Laws.AppendOwn
import Derived.Laws.Rows
import Derived.WalkKit
import Derived.Laws.CopyRow
import Derived.Laws.Cells
import Derived.Laws.Strings
import Derived.Lib.Strings
import Derived.WideLaws
set_option linter.all false
set_option maxRecDepth 100000
open BitVec renaming ofInt→xG
open Bool renaming and_eq_true→yf,eq_iff_iff→uL,false_eq_true→yC
open Go renaming Addr→vT,BinOp→wK,Code→wL,Field→uz,FloatKind→vD,IntKind→yZ,Oper→y5,Operand→xu,Program→y9,TypeId→yx,UnOp→ybn,Value→ye,World→yg,binOp→xJ,sizeOf→vB
open Go.Utf8 renaming runeError→vJ,valid→tW
open List renaming map_cons→yS,replicate→yH,take_succ_cons→wb
open Nat renaming add_assoc→um,beq→yt,beq_eq→ybx,ble→yB,ble_eq→yby,blt→yI,eq_of_beq_eq_true→yk,le_of_ble_eq_true→yr,le_refl→yv,le_trans→xj,testBit→ua
open Option renaming map_none→vA,map_some→wu
open Option.some renaming injEq→yc
open UInt8 renaming toNat→y7,toNat_inj→tX
def wi:=@and_true
def tK:=@beq_iff_eq
def tk:=@beq_self_eq_true
def yM:=@cond_false
def yy:=@cond_true
def yX:=@decide_eq_false
def xi:=@decide_eq_true
def wW:=@decide_eq_true_eq
def yp:=@decide_false
def yo:=@decide_true
def ybc:=@false_or
def y8:=@if_false
def yF:=@if_neg
def yL:=@if_pos
def xh:=@if_true
def yaJ:=@ne_eq
def uY:=@not_false_eq_true
def ud:=@not_true_eq_false
def uJ:=@true_and
namespace VE
section
open Go (IntKind FloatKind BinOp UnOp)
inductive Fr where
 | f (n:Nat)
 | y (l:Nat)
 deriving DecidableEq,Inhabited
inductive AV where
 | int (k:yZ) (n:Int)
 | bool (b:Bool)
 | dh (k:vD) (bits:Nat)
 | str (s:List Nat)
 | jU
 | ptr (id off:Nat)
 | aO (cells:List AV)
 | ab
 | aH (ex:Bool) (n:Nat) (cells:List AV)
 | cp (ex:Bool) (sz n:Nat) (cells:List AV)
 | aE (id off n:Nat)
 | fn (f:Fr) (first cap:List AV)
 | ib
 | jz
 | map (id:Nat)
 | jj (ks vs:List AV)
 | it (id:Nat)
 | agg (cells:List AV)
 | aq (vs:List AV)
 | undef
 deriving Inhabited
inductive X where
 | t (i:Nat)
 | c (v:AV)
 deriving Inhabited
inductive Conv where
 | toInt (k:yZ)
 | toFlt (k:vD)
 | str
 deriving Inhabited
inductive Md where
 | pure | own | heap | dyn
 deriving Inhabited
inductive Cut where
 | str
 | sl (sz:Nat)
 | ar (len sz:Nat)
 deriving Inhabited
inductive NO where
 | b | sl | fn | ag (ks:List Nat)
 deriving Inhabited
inductive Op where
 | bK (x:X)
 | pick (c a b:X)
 | box (sz:Nat) (x:X)
 | dc (zero:List AV) (parts:List (Nat×Nat×X))
 | bH (n sz:Nat) (zero:List AV) (parts:List (Nat×Nat×X))
 | ld (sz:Nat) (ag:Bool) (x:X)
 | st (sz:Nat) (x v:X)
 | Ic (x:X)
 | bin (op:wK) (x y:X)
 | eq (ne:Bool) (k:NO) (x y:X)
 | un (op:ybn) (x:X)
 | cv (k:Conv) (x:X)
 | oc (f:Fr) (first cap:List X)
 | sO
 | fZ (sz bytes:Nat) (zero:List AV) (len cap:X)
 | dO (k:Cut) (x:X) (lo hi:Option X)
 | off (k:Nat) (x:X)
 | Jm (o sz:Nat) (ag:Bool) (x:X)
 | a8 (sz:Nat) (x i:X)
 | sP (len sz:Nat) (x i:X)
 | j0 (x i:X)
 | sQ (len sz:Nat) (ag:Bool) (x i:X)
 | NP (kk:Nat) (zero:AV) (ok:Bool) (m k:X)
 | od (kk:Nat) (m k v:X)
 | oe (x:X)
 | og (x:X)
 | ext (i:Nat) (x:X)
 | call (m:Md) (f:X) (xs:List X)
 | iB (rs:List (Nat×Bool×Nat)) (f:X) (xs:List X)
 | jl (rs:List (Nat×Bool×Nat)) (sz:Nat) (x v:X)
 | dl (sz bytes:Nat) (s x:X)
 | oh (sz:Nat) (d s:X)
 | len (k:Nat) (x:X)
 | mn (xs:List X)
 | mx (xs:List X)
 deriving Inhabited
structure bg where
 dst:Option Nat
 guard:Option (Nat×Bool)
 op:Op
 deriving Inhabited
inductive VC where
 | skip
 | aP (ops:List bg)
 | seq (a b:VC)
 | cond (x:X) (a b:VC)
 | aJ (id:Nat) (a:VC)
 | kp (live:List Nat)
 | fz (ts:List Nat)
 | loop (live:List Nat) (a:VC)
 | rf (f:X) (ps:List Nat) (assign body:VC)
 | exit (id:Nat)
 | ret
 deriving Inhabited
inductive RV where
 | t (i:Nat)
 | cell (i sz:Nat) (ag:Bool)
 deriving Inhabited
structure aB where
 dY:List RV
 body:VC
 deriving Inhabited
inductive sr where
 | none | ret | exit (id:Nat)
 deriving Inhabited,DecidableEq
abbrev Env:=List (Nat×AV)
inductive Obj where
 | cells (rw pu ex:Bool) (sz:Nat) (cs:List AV)
 | mp (rw:Bool) (ks vs:List AV)
 | si (s:List Nat) (pos:Nat)
 | lp (tm:Env) (ps:List Nat) (assign body:VC) (state:Nat) (pending:sr)
 deriving Inhabited
abbrev Hp:=List (Nat×Obj)
structure St where
 tm:Env
 hp:Hp
 ct:Nat
 base:Nat
 deriving Inhabited
inductive Ex where
 | normal
 | ret
 | exit (id:Nat)
 deriving Inhabited,DecidableEq
def aj:Env->Nat->AV
 | [],_=> .undef
 | (j,v)::r,i=>bif yt j i then v else aj r i
def aw:Hp->Nat->Option Obj
 | [],_=>none
 | (j,o)::r,i=>bif yt j i then some o else aw r i
def bh:Hp->Nat->Obj->Hp
 | [],_,_=>[]
 | (j,o)::r,i,u=>bif yt j i then (j,u)::r else (j,o)::bh r i u
def ep:Hp->Nat->Hp
 | [],_=>[]
 | (j,o)::r,i=>bif yt j i then ep r i else (j,o)::ep r i
mutual
def aX:AV->Bool
 | .ptr _ _ | .aE _ _ _ | .map _ | .it _ | .cp _ _ _ _=>false
 | .fn (.y _) _ _=>false
 | .fn (.f _) first cap=>aK first&&aK cap
 | .agg cs=>aK cs
 | .aq vs=>aK vs
 | _=>true
def aK:List AV->Bool
 | []=>true
 | v::r=>aX v&&aK r
end
def cellsOf:AV->List AV
 | .agg cs=>cs
 | v=>[v]
def br:AV->Bool
 | .agg _ | .aq _ | .undef | .cp _ _ _ _=>false
 | _=>true
def bL:List AV->Bool
 | []=>true
 | v::r=>br v&&bL r
def az (tm:Env):X->AV
 | .t i=>aj tm i
 | .c v=>v
def di (tm:Env):List X->List AV
 | []=>[]
 | x::r=>az tm x::di tm r
def slice (o n:Nat) (cs:List AV):List AV:=(cs.drop o).take n
def over (o:Nat) (new cs:List AV):List AV:=cs.take o++new++cs.drop (o+new.length)
mutual
def freeze:Nat->Hp->AV->Option (AV×Hp)
 | 0,_,_=>none
 | n+1,hp,v=>
  match v with
  | .aE id o k=>
   match pH n hp id with
   | some (ex,sz,cs,an)=>
    bif yB (o+k*sz) cs.length then
     some (.aH (ex&&yI 0 sz&&yt (o+k*sz) cs.length) k (slice o (k*sz) cs),an)
    else none
   | none=>none
  | .ptr id o=>
   match pH n hp id with
   | some (_,_,cs,an)=>some (.aO (cs.drop o),an)
   | none=>none
  | .map id=>
   match aw hp id with
   | some (.mp _ ks vs)=>bif aK ks&&aK vs then some (.jj ks vs,bh hp id (.mp false ks vs)) else none
   | _=>none
  | .fn (.f g) first cap=>
   match cB n hp first with
   | some (ZW,bA)=>
    match cB n bA cap with
    | some (Mt,iV)=>some (.fn (.f g) ZW Mt,iV)
    | none=>none
   | none=>none
  | .agg cs=>match cB n hp cs with | some (dP,an)=>some (.agg dP,an) | none=>none
  | .aq cs=>match cB n hp cs with | some (dP,an)=>some (.aq dP,an) | none=>none
  | v=>bif aX v then some (v,hp) else none
def pH:Nat->Hp->Nat->Option (Bool×Nat×List AV×Hp)
 | 0,_,_=>none
 | n+1,hp,id=>
  match aw hp id with
  | some (.cells rw pu ex sz cs)=>
   bif pu then some (ex,sz,cs,bif rw then bh hp id (.cells false true ex sz cs) else hp)
   else match cB n hp cs with
    | some (dP,an)=>some (ex,sz,dP,bh an id (.cells false false ex sz cs))
    | none=>none
  | _=>none
def cB:Nat->Hp->List AV->Option (List AV×Hp)
 | 0,_,_=>none
 | _+1,hp,[]=>some ([],hp)
 | n+1,hp,v::r=>
  match freeze n hp v with
  | some (v',bA)=>
   match cB n bA r with
   | some (r',iV)=>some (v'::r',iV)
   | none=>none
  | none=>none
end
def rP (n:Nat) (hp:Hp) (v:AV):Option (AV×Hp):=
 match v with
 | .aE id o k=>
  match aw hp id with
  | some (.cells true true ex sz cs)=>
   bif yB (o+k*sz) cs.length then
    some (.cp (ex&&yI 0 sz&&yt (o+k*sz) cs.length) sz k (slice o (k*sz) cs),ep hp id)
   else none
  | _=>freeze n hp v
 | _=>freeze n hp v
def Hh:List AV->Option (List Nat)
 | []=>some []
 | .aE id _ _::r=>match Hh r with | some l=>bif l.any (yt id) then none else some (id::l) | none=>none
 | v::r=>bif aX v then Hh r else none
def zK (n:Nat):Hp->List AV->Option (List AV×Hp)
 | hp,[]=>some ([],hp)
 | hp,v::r=>
  match rP n hp v with
  | some (v',bA)=>match zK n bA r with | some (r',iV)=>some (v'::r',iV) | none=>none
  | none=>none
def deep:Nat:=1000
def result (hp:Hp) (v:AV):Option AV:=
 match v with
 | .aq vs=>
  match Hh vs with
  | some _=>match zK deep hp vs with | some (dQ,_)=>some (.aq dQ) | none=>none
  | none=>match freeze deep hp v with | some (v',_)=>some v' | none=>none
 | v=>match rP deep hp v with | some (v',_)=>some v' | none=>none
def bT:AV->AV
 | .cp ex _ n cs=> .aH ex n cs
 | v=>v
def B1:List AV->List AV
 | []=>[]
 | v::r=>bT v::B1 r
def shut:AV->AV
 | .cp ex _ n cs=> .aH ex n cs
 | .aq vs=> .aq (B1 vs)
 | v=>v
def eX (hp:Hp) (ct:Nat):AV->AV×Hp×Nat
 | .cp ex sz n cs=>(.aE ct 0 n,(ct,.cells true true ex sz cs)::hp,ct+1)
 | v=>(v,hp,ct)
def jk:Hp->Nat->List AV->List AV×Hp×Nat
 | hp,ct,[]=>([],hp,ct)
 | hp,ct,v::r=>((eX hp ct v).1::(jk (eX hp ct v).2.1 (eX hp ct v).2.2 r).1,(jk (eX hp ct v).2.1 (eX hp ct v).2.2 r).2)
def own (hp:Hp) (ct:Nat):AV->AV×Hp×Nat
 | .aq vs=>(.aq (jk hp ct vs).1,(jk hp ct vs).2)
 | v=>eX hp ct v
mutual
def refs:AV->List Nat
 | .ptr id _=>[id]
 | .aE id _ _=>[id]
 | .map id=>[id]
 | .it id=>[id]
 | .fn (.f _) first cap=>iR first++iR cap
 | .fn (.y l) _ _=>[l]
 | .agg cs=>iR cs
 | .aq cs=>iR cs
 | _=>[]
def iR:List AV->List Nat
 | []=>[]
 | v::r=>refs v++iR r
end
def iS:Env->List Nat
 | []=>[]
 | (_,v)::r=>refs v++iS r
def nQ:Obj->List Nat
 | .cells _ pu _ _ cs=>bif pu then [] else iR cs
 | .mp _ ks vs=>iR ks++iR vs
 | .si _ _=>[]
 | .lp tm _ _ _ _ _=>iS tm
mutual
def cd (f:Nat->Option Nat):AV->AV
 | .ptr id o=>match f id with | some j=> .ptr j o | none=> .undef
 | .aE id o n=>match f id with | some j=> .aE j o n | none=> .undef
 | .map id=>match f id with | some j=> .map j | none=> .undef
 | .it id=>match f id with | some j=> .it j | none=> .undef
 | .fn (.f g) first cap=> .fn (.f g) (fu f first) (fu f cap)
 | .fn (.y l) first cap=>match f l with | some j=> .fn (.y j) (fu f first) (fu f cap) | none=> .undef
 | .agg cs=> .agg (fu f cs)
 | .aq cs=> .aq (fu f cs)
 | v=>v
def fu (f:Nat->Option Nat):List AV->List AV
 | []=>[]
 | v::r=>cd f v::fu f r
end
def jV (f:Nat->Option Nat):Env->Env
 | []=>[]
 | (i,v)::r=>(i,cd f v)::jV f r
def kF (f:Nat->Option Nat):Obj->Obj
 | .cells rw pu ex sz cs=> .cells rw pu ex sz (bif pu then cs else fu f cs)
 | .mp rw ks vs=> .mp rw (fu f ks) (fu f vs)
 | .si s pos=> .si s pos
 | .lp tm ps cK body st pe=> .lp (jV f tm) ps cK body st pe
def dN (tm:Env):List Nat->Env
 | []=>[]
 | i::r=>(i,aj tm i)::dN tm r
def kG (i:Nat):List Nat->Bool
 | []=>false
 | j::r=>bif yt j i then true else kG i r
def reach (hp:Hp) (base:Nat):Nat->List Nat->List Nat->List Nat
 | 0,_,seen=>seen
 | _+1,[],seen=>seen
 | n+1,id::iC,seen=>
  bif yI id base||kG id seen then reach hp base n iC seen
  else match aw hp id with
   | some o=>reach hp base n (nQ o++iC) (seen++[id])
   | none=>reach hp base n iC seen
def iN (base:Nat):Hp->List Nat
 | []=>[]
 | (id,o)::r=>bif yI id base then nQ o++iN base r else iN base r
def lG (i:Nat):List Nat->Nat->Option Nat
 | [],_=>none
 | j::r,k=>bif yt j i then some k else lG i r (k+1)
def jM (base:Nat) (seen:List Nat) (id:Nat):Option Nat:=bif yI id base then some id else lG id seen base
def lA (base:Nat) (f:Nat->Option Nat):Hp->Hp
 | []=>[]
 | (id,o)::r=>bif yI id base then (id,kF f o)::lA base f r else lA base f r
def jN (hp:Hp) (f:Nat->Option Nat):List Nat->Nat->Hp->Hp
 | [],_,acc=>acc
 | id::r,k,acc=>match aw hp id with | some o=>jN hp f r (k+1) ((k,kF f o)::acc) | none=>jN hp f r (k+1) acc
def bf (live:List Nat) (s:St):St:=
 let tm:=dN s.tm live
 let seen:=reach s.hp s.base 100000 (iS tm++iN s.base s.hp) []
 let f:=jM s.base seen
 {tm:=jV f tm,hp:=jN s.hp f seen s.base (lA s.base f s.hp),ct:=s.base+seen.length,base:=s.base}
def oR (hp:Hp) (sz:Nat):AV->Option (Nat×List AV)
 | .ab=>some (0,[])
 | .aH _ n cs=>bif yt cs.length (n*sz) then some (n,cs) else none
 | .aE id o n=>
  match aw hp id with
  | some (.cells _ _ _ _ cs)=>bif yB (o+n*sz) cs.length then some (n,slice o (n*sz) cs) else none
  | _=>none
 | _=>none
def Ll:List Nat->List AV
 | []=>[]
 | b::r=> .int .u8 b::Ll r
def AN:List Nat->List Nat->Bool
 | _,[]=>false
 | [],_::_=>true
 | a::x,b::y=>yI a b||(yt a b&&AN x y)
def cE:List Nat->List Nat->Bool
 | [],[]=>true
 | a::x,b::y=>yt a b&&cE x y
 | _,_=>false
def dJ:List Nat->List AV->List AV->Option Bool
 | [],[],[]=>some true
 | 0::ks,.bool a::x,.bool b::y=>match dJ ks x y with | some r=>some ((a==b)&&r) | none=>none
 | 1::ks,.int k a::x,.int k' b::y=>if k=k' then (match dJ ks x y with | some r=>some ((a==b)&&r) | none=>none) else none
 | 2::ks,.str a::x,.str b::y=>match dJ ks x y with | some r=>some (cE a b&&r) | none=>none
 | _,_,_=>none
def iU:NO->AV->AV->Option Bool
 | .b,.bool a,.bool b=>some (a==b)
 | .sl,.ab,.ab=>some true
 | .sl,.ab,.aH _ _ _=>some false
 | .sl,.ab,.aE _ _ _=>some false
 | .sl,.aH _ _ _,.ab=>some false
 | .sl,.aE _ _ _,.ab=>some false
 | .fn,.ib,.ib=>some true
 | .fn,.ib,.fn _ _ _=>some false
 | .fn,.fn _ _ _,.ib=>some false
 | .ag ks,.agg a,.agg b=>dJ ks a b
 | _,_,_=>none
def intCmp (op:wK) (x y:Int):Option Bool:=
 match op with
 | .eql=>some (x==y)
 | .neq=>some (x !=y)
 | .lss=>some (decide (x<y))
 | .leq=>some (decide (x<=y))
 | .gtr=>some (decide (x>y))
 | .geq=>some (decide (x>=y))
 | _=>none
def kC (op:wK) (k:yZ) (x y:Int):Option AV:=
 match op with
 | .add=>some (.int k (k.wrap (x+y)))
 | .sub=>some (.int k (k.wrap (x-y)))
 | .mul=>some (.int k (k.wrap (x*y)))
 | .quo=>if y=0 then none else some (.int k (k.wrap (x.tdiv y)))
 | .rem=>if y=0 then none else some (.int k (x.tmod y))
 | .and=>some (.int k (k.wrap (xG k.bits x&&&xG k.bits y).toNat))
 | .or=>some (.int k (k.wrap (xG k.bits x|||xG k.bits y).toNat))
 | .xor=>some (.int k (k.wrap (xG k.bits x^^^xG k.bits y).toNat))
 | .andNot=>some (.int k (k.wrap (xG k.bits x&&&~~~(xG k.bits y)).toNat))
 | .shl | .shr=>none
 | op=>match intCmp op x y with | some b=>some (.bool b) | none=>none
def Bw (op:wK) (k:yZ) (x y:Int):Option AV:=
 if y<0 then none else
 match op with
 | .shl=>some (.int k (k.wrap (x*2^(min y.toNat k.bits))))
 | .shr=>some (.int k (x.fdiv (2^(min y.toNat k.bits))))
 | _=>none
def HP (op:wK) (x y:List Nat):Option AV:=
 match op with
 | .add=>bif yB (x.length+y.length) 9223372036854775807 then some (.str (x++y)) else none
 | .eql=>some (.bool (cE x y))
 | .neq=>some (.bool (!cE x y))
 | .lss=>some (.bool (AN x y))
 | .leq=>some (.bool (AN x y||cE x y))
 | .gtr=>some (.bool (!(AN x y||cE x y)))
 | .geq=>some (.bool (!AN x y))
 | _=>none
def Re (op:wK) (k:vD) (x y:Nat):Option AV:=
 let c:=k.format.order x y
 let ar (r:Option Nat):Option AV:=match r with | some b=>some (.dh k b) | none=>none
 match op with
 | .add=>ar (k.format.add x y)
 | .sub=>ar (k.format.sub x y)
 | .mul=>ar (k.format.mul x y)
 | .quo=>ar (k.format.div x y)
 | .eql=>some (.bool (c==some .eq))
 | .neq=>some (.bool (c !=some .eq))
 | .lss=>some (.bool (c==some .lt))
 | .leq=>some (.bool (c==some .lt||c==some .eq))
 | .gtr=>some (.bool (c==some .gt))
 | .geq=>some (.bool (c==some .gt||c==some .eq))
 | _=>none
def binOp (op:wK) (x y:AV):Option AV:=
 match x,y with
 | .int k a,.int k' b=>
  match op with
  | .shl | .shr=>Bw op k a b
  | _=>if k=k' then kC op k a b else none
 | .dh k a,.dh k' b=>if k=k' then Re op k a b else none
 | .str a,.str b=>HP op a b
 | _,_=>none
def unOp (op:ybn) (x:AV):Option AV:=
 match op,x with
 | .neg,.int k n=>some (.int k (k.wrap (0-n)))
 | .xor,.int k n=>kC .xor k (if k.signed then -1 else k.max) n
 | .not,.bool b=>some (.bool !b)
 | .neg,.dh k b=>some (.dh k (b^^^2^(k.format.exponentBits+k.format.fractionBits)))
 | _,_=>none
def nX (c:Conv) (x:AV):Option AV:=
 match c,x with
 | .toInt k,.int _ n=>some (.int k (k.wrap n))
 | .toFlt k,.int _ n=>some (.dh k (k.nearest n))
 | .toInt k,.dh s b=>
  match (s.decode b).toInt .zero with
  | some n=>if k.min<=n/\n<=k.max then some (.int k n) else none
  | none=>none
 | .toFlt k,.dh s b=>
  if s=k then some (.dh k b) else
  match s.decode b with
  | .number sg m e=>if (k.decode (k.encode (.number sg m e))).isInfinity then none else some (.dh k (k.encode (.number sg m e)))
  | _=>none
 | .str,.str s=>some (.str s)
 | _,_=>none
def eY (sz:Nat) (ag:Bool) (cs:List AV):Option AV:=
 bif ag then (bif yB sz cs.length then some (.agg (cs.take sz)) else none)
 else match cs with | v::_=>some v | []=>none
def dD (x:AV):Option Nat:=
 match x with
 | .int _ n=>match n with | .ofNat k=>some k | .negSucc _=>none
 | _=>none
def cI (tm:Env) (d:Nat):Option X->Option Nat
 | none=>some d
 | some x=>dD (az tm x)
def fe (hp:Hp) (k:Cut) (x:AV) (tm:Env) (lo hi:Option X):Option AV:=
 match k,x with
 | .str,.str s=>
  match cI tm 0 lo,cI tm s.length hi with
  | some l,some h=>bif yB l h&&yB h s.length then some (.str ((s.take h).drop l)) else none
  | _,_=>none
 | .sl _,.ab=>
  match cI tm 0 lo,cI tm 0 hi with
  | some 0,some 0=>some .ab
  | _,_=>none
 | .sl sz,.aH ex n cs=>
  match cI tm 0 lo,cI tm n hi with
  | some l,some h=>bif yB l h&&yB h n then some (.aH (ex&&yt h n) (h-l) (slice (l*sz) ((h-l)*sz) cs)) else none
  | _,_=>none
 | .sl sz,.aE id o n=>
  match aw hp id with
  | some (.cells _ _ _ z _)=>
   match cI tm 0 lo,cI tm n hi with
   | some l,some h=>
    bif yB l h&&yB h n&&yt z sz then
     bif yt l h&& !yt l 0 then some (.aH false 0 []) else some (.aE id (o+l*sz) (h-l))
    else none
   | _,_=>none
  | _=>none
 | _,_=>none
def fill (tm:Env):List AV->List (Nat×Nat×X)->Option (List AV)
 | cs,[]=>some cs
 | cs,(o,sz,x)::r=>
  let new:=cellsOf (az tm x)
  bif yt new.length sz&&yB (o+sz) cs.length&&bL new then fill tm (over o new cs) r else none
def D8:AV->AV->Option Bool
 | .int k a,.int k' b=>if k=k' then some (a==b) else none
 | .str a,.str b=>some (cE a b)
 | .bool a,.bool b=>some (a==b)
 | _,_=>none
def rK:Nat->AV->Bool
 | 0,.bool _=>true
 | 1,.int _ _=>true
 | 2,.str _=>true
 | _,_=>false
def B2 (k:AV):List AV->List AV->Option (Option AV)
 | [],_=>some none
 | k'::ks,v::vs=>match D8 k k' with | some true=>some (some v) | some false=>B2 k ks vs | none=>none
 | _::_,[]=>none
def Al (k v:AV):List AV->List AV->Option (List AV×List AV)
 | [],[]=>some ([k],[v])
 | k'::ks,u::us=>
  match D8 k k' with
  | some true=>some (k'::ks,v::us)
  | some false=>match Al k v ks us with | some (jB,TG)=>some (k'::jB,u::TG) | none=>none
  | none=>none
 | _,_=>none
def min2:AV->AV->Option AV
 | .int k x,.int _ y=>some (.int k (if y<x then y else x))
 | .dh k x,.dh _ y=>
  match k.format.order x y with
  | none=>none
  | some .lt=>some (.dh k x)
  | some .gt=>some (.dh k y)
  | some .eq=>some (.dh k (if (k.decode x).neg then x else y))
 | _,_=>none
def max2:AV->AV->Option AV
 | .int k x,.int _ y=>some (.int k (if y>x then y else x))
 | .dh k x,.dh _ y=>
  match k.format.order x y with
  | none=>none
  | some .lt=>some (.dh k y)
  | some .gt=>some (.dh k x)
  | some .eq=>some (.dh k (if (k.decode x).neg then y else x))
 | _,_=>none
def zZ (f:AV->AV->Option AV):AV->List AV->Option AV
 | a,[]=>some a
 | a,b::r=>match f a b with | some c=>zZ f c r | none=>none
def room:Nat:=1099511627776
abbrev gh:=Option (AV×Hp×Nat)
def gG (hp:Hp) (sz:Nat) (ag:Bool):AV->Option AV
 | .ptr id o=>match aw hp id with | some (.cells _ _ _ _ cs)=>eY sz ag (cs.drop o) | _=>none
 | .aO cs=>eY sz ag cs
 | _=>none
def z6 (k:Nat):AV->Option AV
 | .ptr id o=>some (.ptr id (o+k))
 | .aO cs=>bif yB k cs.length then some (.aO (cs.drop k)) else none
 | _=>none
def L3 (o sz:Nat) (ag:Bool):AV->Option AV
 | .agg cs=>eY sz ag (cs.drop o)
 | _=>none
def gU (sz i:Nat):AV->Option AV
 | .aE id o n=>bif yI i n then some (.ptr id (o+i*sz)) else none
 | .aH _ n cs=>bif yI i n then some (.aO (cs.drop (i*sz))) else none
 | _=>none
def HQ (len sz i:Nat):AV->Option AV
 | .ptr id o=>bif yI i len then some (.ptr id (o+i*sz)) else none
 | .aO cs=>bif yI i len then some (.aO (cs.drop (i*sz))) else none
 | _=>none
def mf (i:Nat):AV->Option AV
 | .str s=>match s[i]? with | some b=>some (.int .u8 b) | none=>none
 | _=>none
def HR (len sz:Nat) (ag:Bool) (i:Nat):AV->Option AV
 | .agg cs=>bif yI i len then eY sz ag (cs.drop (i*sz)) else none
 | _=>none
def z7 (hp:Hp) (k:AV):AV->Option (Option AV)
 | .jz=>some none
 | .map id=>match aw hp id with | some (.mp _ ks vs)=>B2 k ks vs | _=>none
 | .jj ks vs=>B2 k ks vs
 | _=>none
def gV (hp:Hp):Nat->AV->Option AV
 | 0,.str s=>some (.int .i64 s.length)
 | 1,.ab=>some (.int .i64 0)
 | 1,.aH _ n _=>some (.int .i64 n)
 | 1,.aE _ _ n=>some (.int .i64 n)
 | 2,.jz=>some (.int .i64 0)
 | 2,.jj ks _=>some (.int .i64 ks.length)
 | 2,.map id=>match aw hp id with | some (.mp _ ks _)=>some (.int .i64 ks.length) | _=>none
 | _,_=>none
def bw (tm:Env) (hp:Hp):Op->Option AV
 | .bK x=>some (az tm x)
 | .pick c a b=>match az tm c with | .bool t=>some (bif t then az tm a else az tm b) | _=>none
 | .dc zero parts=>match fill tm zero parts with | some cs=>some (.agg cs) | none=>none
 | .ld sz ag x=>gG hp sz ag (az tm x)
 | .Ic x=>
  match az tm x with
  | .ptr id o=>some (.ptr id o)
  | .aO cs=>some (.aO cs)
  | .fn f a b=>some (.fn f a b)
  | _=>none
 | .bin op x y=>binOp op (az tm x) (az tm y)
 | .eq ne k x y=>match iU k (az tm x) (az tm y) with | some r=>some (.bool (ne !=r)) | none=>none
 | .un op x=>unOp op (az tm x)
 | .cv k x=>nX k (az tm x)
 | .oc f first cap=>some (.fn f (di tm first) (di tm cap))
 | .dO k x lo hi=>fe hp k (az tm x) tm lo hi
 | .off k x=>z6 k (az tm x)
 | .Jm o sz ag x=>L3 o sz ag (az tm x)
 | .a8 sz x i=>match dD (az tm i) with | some j=>gU sz j (az tm x) | none=>none
 | .sP len sz x i=>match dD (az tm i) with | some j=>HQ len sz j (az tm x) | none=>none
 | .j0 x i=>match dD (az tm i) with | some j=>mf j (az tm x) | none=>none
 | .sQ len sz ag x i=>match dD (az tm i) with | some j=>HR len sz ag j (az tm x) | none=>none
 | .NP kk zero ok m k=>
  bif rK kk (az tm k) then
   match z7 hp (az tm k) (az tm m) with
   | some (some v)=>some (bif ok then .aq [v,.bool true] else v)
   | some none=>some (bif ok then .aq [zero,.bool false] else zero)
   | none=>none
  else none
 | .ext i x=>match az tm x with | .aq vs=>vs[i]? | _=>none
 | .len k x=>gV hp k (az tm x)
 | .mn xs=>match di tm xs with | a::r=>zZ min2 a r | []=>none
 | .mx xs=>match di tm xs with | a::r=>zZ max2 a r | []=>none
 | _=>none
def cQ (tm:Env) (hp:Hp) (ct:Nat):Op->Option (AV×Obj)
 | .box sz x=>
  let cs:=cellsOf (az tm x)
  bif yt cs.length sz&&bL cs then some (.ptr ct 0,.cells true (aK cs) true sz cs) else none
 | .bH n sz zero parts=>
  match fill tm zero parts with
  | some cs=>bif yt cs.length (n*sz) then some (.aE ct 0 n,.cells true (aK cs) true sz cs) else none
  | none=>none
 | .fZ sz bytes zero len cap=>
  match dD (az tm len),dD (az tm cap) with
  | some l,some c=>
   bif yB l c&&(yB c room&&(yB (c*bytes) room&&(yt zero.length sz&&bL zero))) then
    some (.aE ct 0 l,.cells true (aK zero) (yt l c) sz (yH l zero).flatten)
   else none
  | _,_=>none
 | .sO=>some (.map ct,.mp true [] [])
 | .oe x=>match az tm x with | .str s=>some (.it ct,.si s 0) | _=>none
 | _=>none
def decodeL (s:List Nat) (i:Nat):Nat×Nat:=
 let at' (k:Nat):Nat:=s.getD (i+k) 0
 let cont (k:Nat):Bool:=decide (i+k<s.length)&&at' k/64==2
 let b0:=at' 0
 if b0<0x80 then (b0,1)
 else if b0/32==6&&cont 1 then
  let c:=(b0%32)*64+at' 1%64
  if c>=0x80 then (c,2) else (vJ,1)
 else if b0/16==14&&cont 1&&cont 2 then
  let c:=(b0%16)*4096+(at' 1%64)*64+at' 2%64
  if c>=0x800&&tW c then (c,3) else (vJ,1)
 else if b0/8==30&&cont 1&&cont 2&&cont 3 then
  let c:=(b0%8)*262144+(at' 1%64)*4096+(at' 2%64)*64+at' 3%64
  if c>=0x10000&&tW c then (c,4) else (vJ,1)
 else (vJ,1)
def rQ (hp:Hp) (sz:Nat):AV->Option (Nat×List AV)
 | .str b=>bif yt sz 1 then some (b.length,Ll b) else none
 | v=>oR hp sz v
def cW (tm:Env) (hp:Hp) (ct:Nat):Op->gh
 | .st sz x v=>
  let new:=cellsOf (az tm v)
  match az tm x with
  | .ptr id o=>
   match aw hp id with
   | some (.cells true pu ex z cs)=>
    bif yt new.length sz&&yB (o+sz) cs.length&&bL new then
     some (.aq [],bh hp id (.cells true (pu&&aK new) ex z (over o new cs)),ct)
    else none
   | _=>none
  | _=>none
 | .od kk m k v=>
  match az tm m with
  | .map id=>
   match aw hp id with
   | some (.mp true ks vs)=>bif !rK kk (az tm k) then none else match Al (az tm k) (az tm v) ks vs with | some (jB,dQ)=>some (.aq [],bh hp id (.mp true jB dQ),ct) | none=>none
   | _=>none
  | _=>none
 | .og x=>
  match az tm x with
  | .it id=>
   match aw hp id with
   | some (.si s pos)=>
    bif yI pos s.length then
     match decodeL s pos with
     | (c,wd)=>some (.aq [.bool true,.int .i64 pos,.int .i32 c],bh hp id (.si s (pos+wd)),ct)
    else some (.aq [.bool false],hp,ct)
   | _=>none
  | _=>none
 | .dl sz bytes s x=>
  match rQ hp sz (az tm x) with
  | none=>none
  | some (m,new)=>
   match az tm s with
   | .ab=>
    bif yt m 0 then some (.ab,hp,ct)
    else bif yB m room&&(yB (m*bytes) room&&yI 0 sz) then some (.aE ct 0 m,(ct,.cells true (aK new) false sz new)::hp,ct+1) else none
   | .aH true n cs=>
    bif yt m 0 then some (.aH true n cs,hp,ct)
    else bif yB (n+m) room&&(yB ((n+m)*bytes) room&&(yt cs.length (n*sz)&&yI 0 sz)) then some (.aE ct 0 (n+m),(ct,.cells true (aK cs&&aK new) false sz (cs++new))::hp,ct+1) else none
   | .aE id o n=>
    match aw hp id with
    | some (.cells true pu _ z cs)=>
     bif yt z sz&&(yB (n+m) room&&(yB ((n+m)*bytes) room&&(yB (o+n*sz) cs.length&&(yI 0 sz&&bL new)))) then
      some (.aE ct 0 (n+m),(ct,.cells true (pu&&aK new) false sz (slice o (n*sz) cs++new))::ep hp id,ct+1)
     else none
    | _=>none
   | _=>none
 | .oh sz d s=>
  match oR hp sz (az tm s),az tm d with
  | some (m,new),.aE id o n=>
   match aw hp id with
   | some (.cells true pu ex z cs)=>
    bif yt z sz&&(yB (o+n*sz) cs.length&&bL new) then
     some (.int .i64 (min m n:Nat),bh hp id (.cells true (pu&&aK new) ex z (over o (new.take (min m n*sz)) cs)),ct)
    else none
   | _=>none
  | _,_=>none
 | _=>none
def jd:X->List Nat | .t i=>[i] | .c _=>[]
def rR:List X->List Nat
 | []=>[]
 | x::r=>jd x++rR r
def HS:Option X->List Nat | some x=>jd x | none=>[]
def HT:List (Nat×Nat×X)->List Nat
 | []=>[]
 | (_,_,x)::r=>jd x++HT r
def jL:Op->List Nat
 | .bK x | .box _ x | .ld _ _ x | .Ic x | .un _ x | .cv _ x | .off _ x | .Jm _ _ _ x | .oe x | .og x | .ext _ x | .len _ x=>jd x
 | .pick a b c | .od _ a b c=>jd a++(jd b++jd c)
 | .dc _ ps | .bH _ _ _ ps=>HT ps
 | .st _ a b | .bin _ a b | .eq _ _ a b | .a8 _ a b | .sP _ _ a b | .j0 a b | .sQ _ _ _ a b | .NP _ _ _ a b | .dl _ _ a b | .oh _ a b=>jd a++jd b
 | .oc _ a b=>rR a++rR b
 | .sO=>[]
 | .fZ _ _ _ a b=>jd a++jd b
 | .dO _ x a b=>jd x++(HS a++HS b)
 | .call _ f xs=>jd f++rR xs
 | .iB _ f xs=>jd f++rR xs
 | .jl _ _ a b=>jd a++jd b
 | .mn xs | .mx xs=>rR xs
def bB:Op->Nat
 | .bK _ | .pick _ _ _ | .dc _ _ | .Ic _ | .bin _ _ _ | .eq _ _ _ _ | .un _ _ | .cv _ _ | .oc _ _ _ | .off _ _ | .Jm _ _ _ _ | .a8 _ _ _ | .sP _ _ _ _ | .j0 _ _ | .sQ _ _ _ _ _ | .ext _ _ | .mn _ | .mx _=>0
 | .dO .str _ _ _ | .len 0 _ | .len 1 _=>0
 | .st _ _ _ | .od _ _ _ _ | .og _ | .dl _ _ _ _ | .oh _ _ _ | .iB _ _ _ | .jl _ _ _ _ | .call .heap _ _ | .call .dyn _ _=>2
 | _=>1
def Rg:Option (Nat×Bool)->List Nat | some (t,_)=>[t] | none=>[]
def BE (o:bg):List Nat:=Rg o.guard++jL o.op
def Ei (d:Option Nat) (l:List Nat):Bool:=match d with | some i=>kG i l | none=>false
def abw (d e:Option Nat):Bool:=match d,e with | some i,some j=>yt i j | _,_=>false
def KY (a b:bg):Bool:=Ei a.dst (BE b)||Ei b.dst (BE a)||abw a.dst b.dst
def Ej (sz:Nat) (ag:Bool) (t:Nat):List (Nat×Bool×Nat)->Bool
 | []=>false
 | (s,g,u)::r=>(yt s sz&&(g==ag&&yt u t))||Ej sz ag t r
def D9 (t:Nat):List bg->Bool
 | []=>true
 | o::r=> !Ei o.dst [t]&&D9 t r
def G6 (a b:bg) (r:List bg):Bool:=
 match a.guard,a.op,b.op with
 | none,.ld sz ag (.t t),.iB rs _ _=>Ej sz ag t rs&&D9 t (a::r)
 | none,.ld sz ag (.t t),.jl rs _ _ _=>Ej sz ag t rs&&D9 t (a::r)
 | _,_,_=>false
def GJ (a b:bg):Bool:=
 match bB a.op,bB b.op with
 | 1,2 | 2,1 | 2,2=>true
 | _,_=>false
def KZ (m:Nat) (b:bg):List bg->Nat->Bool
 | [],_=>true
 | a::r,i=>(ua m i|| !(KY a b||(GJ a b&& !G6 a b r)))&&KZ m b r (i+1)
def DC (done:List bg):List bg->List Nat->Bool
 | [],_=>true
 | b::r,m::ms=>KZ m b done 0&&DC (done++[b]) r ms
 | _::_,[]=>false
def Lm (m:Nat):List bg->Nat->List (Nat×Bool×Nat)
 | [],_=>[]
 | a::r,i=>
  match ua m i,a with
  | false,⟨_,none,.ld sz ag (.t t)⟩=>(sz,ag,t)::Lm m r (i+1)
  | _,_=>Lm m r (i+1)
def stOp (rs:List (Nat×Bool×Nat)) (sz:Nat) (x v:X):Op:=match rs with | []=> .st sz x v | rs=> .jl rs sz x v
def rX (done:List bg):List bg->List Nat->List bg
 | ⟨d,g,.iB _ f xs⟩::r,m::ms=>let o:bg:=⟨d,g,.iB (Lm m done 0) f xs⟩;o::rX (done++[o]) r ms
 | ⟨d,g,.st sz x v⟩::r,m::ms=>let o:bg:=⟨d,g,stOp (Lm m done 0) sz x v⟩;o::rX (done++[o]) r ms
 | o::r,_::ms=>o::rX (done++[o]) r ms
 | l,_=>l
abbrev aI:=Nat->Option aB
structure Lib where
 pure:Nat->Option (List AV->Option AV)
 heap:Nat->Option (Hp->Nat->List AV->gh)
abbrev cF:=VC->St->Option (Ex×St)
def fm:Nat->List AV->Env
 | _,[]=>[]
 | i,v::r=>(i,v)::fm (i+1) r
def results1 (s:St):RV->Option AV
 | .t i=>some (aj s.tm i)
 | .cell i sz ag=>
  match aj s.tm i with
  | .ptr id o=>match aw s.hp id with | some (.cells _ _ _ _ cs)=>eY sz ag (cs.drop o) | _=>none
  | .aO cs=>eY sz ag cs
  | _=>none
def kA (s:St):List RV->Option (List AV)
 | []=>some []
 | r::rest=>match results1 s r,kA s rest with | some v,some vs=>some (v::vs) | _,_=>none
def iv (s:St) (rs:List RV):Option AV:=
 match kA s rs with
 | some [v]=>some v
 | some vs=>some (.aq vs)
 | none=>none
def bN (P:aI) (L:Lib) (self:cF) (n:Nat) (ak:List AV):Option AV:=
 match L.pure n with
 | some sp=>sp ak
 | none=>
  match P n with
  | none=>none
  | some F=>
   match self F.body ⟨fm 0 ak,[],0,0⟩ with
   | some (.normal,s) | some (.ret,s)=>match iv s F.dY with | some v=>result s.hp v | none=>none
   | _=>none
def QG:Ex->sr
 | .normal=> .none
 | .ret=> .ret
 | .exit id=> .exit id
def pP:Env->List Nat->List AV->Option Env
 | tm,[],[]=>some tm
 | tm,p::ps,v::vs=>pP ((p,v)::tm) ps vs
 | _,_,_=>none
def iA (P:aI) (L:Lib) (self:cF) (hp:Hp) (ct:Nat) (n:Nat) (ak:List AV):gh:=
 match L.heap n with
 | some sp=>sp hp ct ak
 | none=>
  match P n with
  | none=>none
  | some F=>
   match self F.body ⟨fm 0 ak,hp,ct,ct⟩ with
   | some (.normal,s) | some (.ret,s)=>match iv s F.dY with | some v=>some (v,s.hp,s.ct) | none=>none
   | _=>none
def mD (self:cF) (hp:Hp) (ct:Nat) (l:Nat) (xs:List AV):gh:=
 match aw hp l with
 | some (.lp tm ps cK body 0 _)=>
  match pP tm ps xs with
  | none=>none
  | some cu=>
   match self cK ⟨cu,hp,ct,ct⟩ with
   | some (.normal,s1)=>
    match aw s1.hp l with
    | some (.lp jm CD CE B3 0 sR)=>
     match self body ⟨s1.tm,bh s1.hp l (.lp jm CD CE B3 1 sR),s1.ct,s1.ct⟩ with
     | some (ex,s2)=>
      match aw s2.hp l with
      | some (.lp qJ Jn Jo HU 1 _)=>
       match ex with
       | .normal=>some (.bool true,bh s2.hp l (.lp qJ Jn Jo HU 0 .none),s2.ct)
       | ex=>some (.bool false,bh s2.hp l (.lp qJ Jn Jo HU 2 (QG ex)),s2.ct)
      | _=>none
     | none=>none
    | _=>none
   | _=>none
 | _=>none
def eG (P:aI) (L:Lib) (self:cF) (hp:Hp) (ct:Nat) (m:Md) (fv:AV) (xs:List AV):gh:=
 match fv with
 | .fn (.f n) first cap=>
  match m with
  | .pure=>
   match cB deep hp (first++(xs++cap)) with
   | some (ak,bA)=>match bN P L self n ak with | some r=>some (shut r,bA,ct) | none=>none
   | none=>none
  | .own=>
   match cB deep hp (first++(xs++cap)) with
   | some (ak,bA)=>match bN P L self n ak with | some r=>some (own bA ct r) | none=>none
   | none=>none
  | .heap=>iA P L self hp ct n (first++(xs++cap))
  | .dyn=>
   bif aK (first++(xs++cap)) then
    match bN P L self n (first++(xs++cap)) with | some r=>some (shut r,hp,ct) | none=>none
   else iA P L self hp ct n (first++(xs++cap))
 | .fn (.y l) _ _=>
  match m with
  | .heap | .dyn=>mD self hp ct l xs
  | _=>none
 | _=>none
def RP:AV->AV->Bool
 | .int k a,.int k' b=>decide (k=k')&&a==b
 | .bool a,.bool b=>a==b
 | .str a,.str b=>cE a b
 | .ab,.ab=>true
 | .jU,.jU=>true
 | .ptr i o,.ptr j p=>yt i j&&yt o p
 | .aE i o n,.aE j p m=>yt i j&&(yt o p&&yt n m)
 | .map i,.map j=>yt i j
 | _,_=>false
def zL (tm:Env) (hp an:Hp):List (Nat×Bool×Nat)->Bool
 | []=>true
 | (sz,ag,x)::r=>
  match gG hp sz ag (aj tm x),gG an sz ag (aj tm x) with
  | some a,some b=>RP a b&&zL tm hp an r
  | _,_=>false
def nL (tm:Env) (id:Nat):List (Nat×Bool×Nat)->Bool
 | []=>true
 | (_,_,x)::r=>(match aj tm x with | .ptr j _=> !yt j id | .aO _=>true | _=>false)&&nL tm id r
def bn (P:aI) (L:Lib) (self:cF) (tm:Env) (hp:Hp) (ct:Nat) (o:Op):gh:=
 match o with
 | .call m f xs=>eG P L self hp ct m (az tm f) (di tm xs)
 | .iB rs f xs=>
  match eG P L self hp ct .dyn (az tm f) (di tm xs) with
  | some (v,an,a7)=>bif zL tm hp an rs then some (v,an,a7) else none
  | none=>none
 | .jl rs sz x v=>
  match az tm x with
  | .ptr id _=>bif nL tm id rs then cW tm hp ct (.st sz x v) else none
  | _=>none
 | .st .. | .od .. | .og .. | .dl .. | .oh .. =>cW tm hp ct o
 | .box .. | .bH .. | .fZ .. | .sO | .oe .. =>match cQ tm hp ct o with | some (v,b)=>some (v,(ct,b)::hp,ct+1) | none=>none
 | o=>match bw tm hp o with | some v=>some (v,hp,ct) | none=>none
def put (d:Option Nat) (v:AV) (tm:Env):Env:=
 match d with
 | some i=>(i,v)::tm
 | none=>tm
def dw (P:aI) (L:Lib) (self:cF):List bg->St->Option St
 | [],s=>some s
 | ⟨d,g,o⟩::r,s=>
  let want:=match g with | none=>some true | some (t,b)=>match aj s.tm t with | .bool c=>some (c==b) | .aq []=>some false | _=>none
  match want with
  | some true=>
   match bn P L self s.tm s.hp s.ct o with
   | some (v,hp,ct)=>dw P L self r {s with tm:=put d v s.tm,hp:=hp,ct:=ct}
   | none=>none
  | some false=>dw P L self r {s with tm:=put d (.aq []) s.tm}
  | none=>none
def nR:List Nat->St->Option St
 | [],s=>some s
 | t::r,s=>
  match freeze deep s.hp (aj s.tm t) with
  | some (v,hp)=>nR r {s with tm:=(t,v)::s.tm,hp:=hp}
  | none=>none
def bD (P:aI) (L:Lib) (self:cF):VC->St->Option (Ex×St)
 | .skip,s=>some (.normal,s)
 | .aP ops,s=>match dw P L self ops s with | some s'=>some (.normal,s') | none=>none
 | .seq a b,s=>
  match bD P L self a s with
  | some (.normal,s1)=>bD P L self b s1
  | r=>r
 | .cond x a b,s=>
  match az s.tm x with
  | .bool t=>bif t then bD P L self a s else bD P L self b s
  | _=>none
 | .aJ id a,s=>
  match bD P L self a s with
  | some (.exit j,s1)=>bif yt j id then some (.normal,s1) else some (.exit j,s1)
  | r=>r
 | .kp live,s=>some (.normal,bf live s)
 | .fz ts,s=>match nR ts s with | some s'=>some (.normal,s') | none=>none
 | .loop live a,s=>
  match bD P L self a (bf live s) with
  | some (.normal,s1)=>self (.loop live a) s1
  | r=>r
 | .rf f ps cK body,s=>
  match az s.tm f with
  | .fn (.f n) first cap=>
   match L.heap n with
   | some _=>none
   | none=>
    match iA P L self ((s.ct,.lp s.tm ps cK body 0 .none)::s.hp) (s.ct+1) n (first++(.fn (.y s.ct) [] []::cap)) with
    | some (_,hp,ct)=>
     match aw hp s.ct with
     | some (.lp _ _ _ _ st pe)=>
      bif yt st 1 then none else
      match pe with
      | .none=>some (.normal,{s with hp:=ep hp s.ct,ct:=ct})
      | .ret=>some (.ret,{s with hp:=ep hp s.ct,ct:=ct})
      | .exit id=>some (.exit id,{s with hp:=ep hp s.ct,ct:=ct})
     | _=>none
    | none=>none
  | _=>none
 | .exit id,s=>some (.exit id,s)
 | .ret,s=>some (.ret,s)
def ev (P:aI) (L:Lib) (n:Nat):cF:=Nat.rec (fun _ _=>none) (fun _ ih=>bD P L ih) n
def TH (P:aI) (L:Lib) (n:Nat) (f:Nat) (ak:List AV):Option AV:=bN P L (ev P L n) f ak
end
section
open Go
structure Pl where
 b:Nat
 o:Nat
 e:Nat
 z:Nat
abbrev Mp:=Nat->Option Pl
section
variable (ah:Nat->Nat) (m:Mp) (S:Nat->Prop) (w:yg)
mutual
def ai:AV->ye->Prop
 | .int k n,v=>v= .int k n
 | .bool b,v=>v= .bool b
 | .dh k b,v=>v= .float k b
 | .str s,v=>∃t:ByteArray,v= .string t/\t.data.toList.map y7=s
 | .jU,v=>v= .pointer none
 | .ptr id o,v=>∃p,m id=some p/\v= .pointer (some ⟨p.b,p.o+o,none⟩)
 | .aO cs,v=>∃b o,v= .pointer (some ⟨b,o,none⟩)/\(cs=[]\/S b)/\aK cs=true/\bR cs b o
 | .ab,v=>v= .slice none 0 0
 | .aH ex n cs,v=>(∃b o c,v= .slice (some ⟨b,o,none⟩) n c/\n<=c/\(ex=true->c=n)/\(cs=[]\/S b)/\aK cs=true/\bR cs b o)\/(∃a,v= .slice (some a) 0 0/\n=0/\cs=[])
 | .cp _ _ _ _,_=>False
 | .aE id o n,v=>∃p c,m id=some p/\v= .slice (some ⟨p.b,p.o+o,none⟩) n c/\n<=c/\o+c*p.z=p.e
 | .fn (.f g) first cap,v=>∃fi ca:Array ye,v= .func (.func (ah g)) fi ca/\ap first fi.toList/\ap cap ca.toList
 | .fn (.y l) _ _,v=>∃p,m l=some p/\v= .func (.yield p.b) #[] #[]
 | .ib,v=>v= .nilFunc
 | .jz,v=>v= .map none
 | .map id,v=>∃p,m id=some p/\v= .map (some p.b)
 | .jj ks vs,v=>∃b es clock,v= .map (some b)/\S b/\aK ks=true/\aK vs=true/\w.heap[b]? =some (.map es clock)/\
   ap ks (es.toList.map (·.key))/\ap vs (es.toList.map (·.val))
 | .it id,v=>∃p,m id=some p/\v= .pointer (some ⟨p.b,0,none⟩)
 | .agg cs,v=>∃xs:Array ye,v= .agg xs/\ap cs xs.toList
 | .aq cs,v=>∃xs:Array ye,v= .tuple xs/\ap cs xs.toList
 | .undef,_=>True
def ap:List AV->List ye->Prop
 | [],us=>us=[]
 | c::cs,us=>∃u r,us=u::r/\ai c u/\ap cs r
def bR:List AV->Nat->Nat->Prop
 | [],_,_=>True
 | c::cs,b,o=>(∃u,w.cell? ⟨b,o,none⟩=some u/\ai c u)/\bR cs b (o+1)
end
end
def fE (S:Nat->Prop) (w w':yg):Prop:=∀b,S b->w'.heap[b]? =w.heap[b]?
def Kt {w w':yg} {b o:Nat} (h:w'.heap[b]? =w.heap[b]?):w'.cell? ⟨b,o,none⟩=w.cell? ⟨b,o,none⟩:=by
 simp only [World.cell?,h]
section
variable {ah:Nat->Nat} {m m':Mp} {S S':Nat->Prop} {w w':yg}
mutual
def lf (hm:∀id p,m id=some p->m' id=some p) (hS:∀b,S b->S' b) (hw:fE S w w'):
  ∀(v:AV) (u:ye),ai ah m S w v u->ai ah m' S' w' v u
 | .int _ _,_,h | .bool _,_,h | .dh _ _,_,h | .str _,_,h | .jU,_,h | .ab,_,h | .ib,_,h | .jz,_,h | .undef,_,h=>by
  simpa only [ai] using h
 | .ptr id o,u,h=>by
  simp only [ai] at h ⊢;obtain ⟨p,h1,h2⟩:=h;exact ⟨p,hm _ _ h1,h2⟩
 | .aO cs,u,h=>by
  simp only [ai] at h ⊢;obtain ⟨b,o,h1,h2,h3,h4⟩:=h;refine ⟨b,o,h1,h2.imp id (hS b),h3,?_⟩;rcases h2 with rfl | h2
  ·simp only [bR]
  ·exact Pa hm hS hw cs b o h2 h4
 | .aH ex n cs,u,h=>by
  simp only [ai] at h ⊢;rcases h with ⟨b,o,c,h1,h2,h3,h4,h5,h6⟩ | h
  ·refine .inl ⟨b,o,c,h1,h2,h3,h4.imp id (hS b),h5,?_⟩;rcases h4 with rfl | h4
   ·simp only [bR]
   ·exact Pa hm hS hw cs b o h4 h6
  ·exact .inr h
 | .cp _ _ _ _,u,h=>by simp only [ai] at h
 | .aE id o n,u,h=>by
  simp only [ai] at h ⊢;obtain ⟨p,c,h1,h2⟩:=h;exact ⟨p,c,hm _ _ h1,h2⟩
 | .fn (.f g) first cap,u,h=>by
  simp only [ai] at h ⊢;obtain ⟨fi,ca,h1,h2,h3⟩:=h;exact ⟨fi,ca,h1,gO hm hS hw first _ h2,gO hm hS hw cap _ h3⟩
 | .fn (.y l) _ _,u,h=>by
  simp only [ai] at h ⊢;obtain ⟨p,h1,h2⟩:=h;exact ⟨p,hm _ _ h1,h2⟩
 | .map id,u,h=>by
  simp only [ai] at h ⊢;obtain ⟨p,h1,h2⟩:=h;exact ⟨p,hm _ _ h1,h2⟩
 | .jj ks vs,u,h=>by
  simp only [ai] at h ⊢;obtain ⟨b,es,clock,h1,h2,h3,h4,h5,h6,h7⟩:=h;exact ⟨b,es,clock,h1,hS b h2,h3,h4,(hw b h2).trans h5,gO hm hS hw ks _ h6,gO hm hS hw vs _ h7⟩
 | .it id,u,h=>by
  simp only [ai] at h ⊢;obtain ⟨p,h1,h2⟩:=h;exact ⟨p,hm _ _ h1,h2⟩
 | .agg cs,u,h=>by
  simp only [ai] at h ⊢;obtain ⟨xs,h1,h2⟩:=h;exact ⟨xs,h1,gO hm hS hw cs _ h2⟩
 | .aq cs,u,h=>by
  simp only [ai] at h ⊢;obtain ⟨xs,h1,h2⟩:=h;exact ⟨xs,h1,gO hm hS hw cs _ h2⟩
def gO (hm:∀id p,m id=some p->m' id=some p) (hS:∀b,S b->S' b) (hw:fE S w w'):
  ∀(vs:List AV) (us:List ye),ap ah m S w vs us->ap ah m' S' w' vs us
 | [],us,h=>by simpa only [ap] using h
 | v::r,us,h=>by
  simp only [ap] at h ⊢;obtain ⟨u,t,h1,h2,h3⟩:=h;exact ⟨u,t,h1,lf hm hS hw v u h2,gO hm hS hw r t h3⟩
def Pa (hm:∀id p,m id=some p->m' id=some p) (hS:∀b,S b->S' b) (hw:fE S w w'):
  ∀(cs:List AV) (b o:Nat),S b->bR ah m S w cs b o->bR ah m' S' w' cs b o
 | [],_,_,_,_=>by simp only [bR]
 | c::cs,b,o,hb,h=>by
  simp only [bR] at h ⊢;obtain ⟨⟨u,h1,h2⟩,h3⟩:=h;exact ⟨⟨u,(Kt (hw b hb)).trans h1,lf hm hS hw c u h2⟩,Pa hm hS hw cs b (o+1) hb h3⟩
end
end
end
section
open Go
structure Hint where
 n:Nat
 cd:FuncId->Option Nat
 live:Nat->List Nat
 out:Nat->Option (List Nat)
 mode:Nat->Md
 fz:Nat->List Nat
section
variable (P:y9) (H:Hint)
mutual
def ek:ye->AV
 | .int k n=> .int k n
 | .bool b=> .bool b
 | .float k b=> .dh k b
 | .string s=> .str (s.data.toList.map y7)
 | .pointer none=> .jU
 | .slice none 0 0=> .ab
 | .map none=> .jz
 | .nilFunc=> .ib
 | .agg ⟨cs⟩=> .agg (DK cs)
 | .tuple ⟨cs⟩=> .aq (DK cs)
 | _=> .undef
def DK:List ye->List AV
 | []=>[]
 | v::r=>ek v::DK r
end
def aS:xu->X
 | .tmp t=> .t t
 | .const v=> .c (ek v)
 | .global _=> .c .undef
 | .func f=>match H.cd f with | some g=> .c (.fn (.f g) [] []) | none=> .c .undef
def gH:List xu->List X
 | []=>[]
 | x::r=>aS H x::gH r
def cL (t:yx):Option Nat:=match P.info? t with | some i=>some i.size | none=>none
def AO (t:yx):Option Nat:=match P.info? t with | some i=>some i.bytes | none=>none
def mg (t:yx):Option AV:=match P.info? t with | some i=>(match i.zero with | some v=>some (ek v) | none=>none) | none=>none
def dE (t:yx):Option Bool:=match P.underlying t with | some (.struct _) | some (.array _ _)=>some true | some _=>some false | none=>none
def bad:Op:= .call .pure (.c .undef) []
def partsOf (place:Nat->Option (Nat×Nat)):List (Nat×xu)->Option (List (Nat×Nat×X))
 | []=>some []
 | (i,x)::r=>
  match place i,partsOf place r with
  | some (o,s),some l=>some ((o,s,aS H x)::l)
  | _,_=>none
def Dq (self:yx->Option (List Nat)):List uz->Nat->Option (List Nat)
 | [],_=>some []
 | f::r,o=>
  match self f.type,cL P f.type with
  | some ks,some s=>
   bif f.name != "_"&&yt f.offset o&&yt ks.length s&& !P.stoodInHeld f.type then
    (match Dq self r (o+s) with | some l=>some (ks++l) | none=>none)
   else none
  | _,_=>none
def kinds:Nat->yx->Option (List Nat)
 | 0,_=>none
 | n+1,t=>
  match P.underlying t with
  | some .bool=>some [0]
  | some (.int _)=>some [1]
  | some .string=>some [2]
  | some (.struct fs)=>Dq P (fun u=>kinds n u) fs.toList 0
  | some (.array k e)=>
   match kinds n e,cL P e with
   | some ks,some s=>bif yt ks.length s&& !P.stoodInHeld e then some (yH k ks).flatten else none
   | _,_=>none
  | _=>none
def keyOf (t:yx):Option Nat:=
 match P.underlying t with
 | some .bool=>some 0
 | some (.int _)=>some 1
 | some .string=>some 2
 | _=>none
def rL (ne:Bool) (t:yx) (a b:xu):Op:=
 match kinds P 20 t with
 | some ks=>bif P.stoodInHeld t||P.eqGuardType P.depth t then bad else .eq ne (.ag ks) (aS H a) (aS H b)
 | none=>bad
def pQ (ne:Bool) (op:wK) (t:yx) (a b:xu):Op:=
 match P.underlying t with
 | some (.int _) | some .string | some (.float _)=> .bin op (aS H a) (aS H b)
 | some .bool=> .eq ne .b (aS H a) (aS H b)
 | some (.slice _)=> .eq ne .sl (aS H a) (aS H b)
 | some (.func _ _ _)=> .eq ne .fn (aS H a) (aS H b)
 | some (.struct _) | some (.array _ _)=>rL P H ne t a b
 | _=>bad
def bl (k:Nat) (o:y5):Op:=
 let x (y:xu):X:=aS H y
 match o.op with
 | .move a | .assign a=> .bK (x a)
 | .pick c a b=> .pick (x c) (x a) (x b)
 | .alloc t=>match cL P t,mg P t with | some s,some z=> .box s (.c z) | _,_=>bad
 | .box t v=>match cL P t with | some s=> .box s (x v) | none=>bad
 | .build t parts=>
  match P.underlying t,mg P t with
  | some (.struct fs),some (.agg z)=>
   match fs.toList.mapM (fun f=>(P.info? f.type).map fun i=>(f.offset,i.size)) with
   | some pl=>(match partsOf H (fun i=>pl[i]?) parts.toList with | some ps=> .dc z ps | none=>bad)
   | none=>bad
  | some (.array _ e),some (.agg z)=>
   match cL P e with
   | some s=>(match partsOf H (fun i=>some (i*s,s)) parts.toList with | some ps=> .dc z ps | none=>bad)
   | none=>bad
  | _,_=>bad
 | .buildSlice t n parts=>
  match P.underlying t with
  | some (.slice e)=>
   match cL P e,mg P e with
   | some s,some z=>
    bif yB (n*s) 16777216 then
     (match partsOf H (fun i=>some (i*s,s)) parts.toList with | some ps=> .bH n s (yH n (cellsOf z)).flatten ps | none=>bad)
    else bad
   | _,_=>bad
  | _=>bad
 | .load t a=>match cL P t,dE P t with | some s,some ag=> .ld s ag (x a) | _,_=>bad
 | .store t a v=>match cL P t with | some s=> .st s (x a) (x v) | none=>bad
 | .nilCheck a=> .Ic (x a)
 | .binOp op t a b _=>
  match op with
  | .eql=>pQ P H false op t a b
  | .neq=>pQ P H true op t a b
  | _=> .bin op (x a) (x b)
 | .unOp op _ a=> .un op (x a)
 | .convert s d a=>
  match P.underlying s,P.underlying d with
  | some (.int _),some (.int k) | some (.float _),some (.int k)=> .cv (.toInt k) (x a)
  | some (.int _),some (.float k) | some (.float _),some (.float k)=> .cv (.toFlt k) (x a)
  | some .string,some .string=> .cv .str (x a)
  | _,_=>bad
 | .makeFunc (.func f) first cap=>match H.cd f with | some g=> .oc (.f g) (gH H first.toList) (gH H cap.toList) | none=>bad
 | .makeMap t none=>match P.underlying t with | some (.map ke _)=>(match keyOf P ke with | some _=> .sO | none=>bad) | _=>bad
 | .makeSlice t l c=>
  match P.underlying t with
  | some (.slice e)=>(match cL P e,AO P e,mg P e with | some s,some b,some z=> .fZ s b (cellsOf z) (x l) (x c) | _,_,_=>bad)
  | _=>bad
 | .slice t a lo hi none=>
  match P.underlying t with
  | some .string=> .dO .str (x a) (lo.map x) (hi.map x)
  | some (.slice e)=>(match cL P e with | some s=> .dO (.sl s) (x a) (lo.map x) (hi.map x) | none=>bad)
  | some (.array n e)=>(match cL P e with | some s=> .dO (.ar n s) (x a) (lo.map x) (hi.map x) | none=>bad)
  | _=>bad
 | .fieldAddr t a i=>
  match P.underlying t with
  | some (.struct fs)=>
   match fs[i]? with
   | some f=>(match cL P f.type with | some (_+1)=> .off f.offset (x a) | _=>bad)
   | none=>bad
  | _=>bad
 | .field t a i=>
  match P.underlying t with
  | some (.struct fs)=>
   match fs[i]? with
   | some f=>(match cL P f.type,dE P f.type with | some s,some ag=> .Jm f.offset s ag (x a) | _,_=>bad)
   | none=>bad
  | _=>bad
 | .indexAddr t a i=>
  match P.underlying t with
  | some (.slice e)=>(match cL P e with | some s=> .a8 s (x a) (x i) | none=>bad)
  | some (.array n e)=>(match cL P e with | some s=> .sP n s (x a) (x i) | none=>bad)
  | _=>bad
 | .index t a i=>
  match P.underlying t with
  | some .string=> .j0 (x a) (x i)
  | some (.array n e)=>(match cL P e,dE P e with | some s,some ag=> .sQ n s ag (x a) (x i) | _,_=>bad)
  | _=>bad
 | .lookup t a i ok=>
  match P.underlying t with
  | some (.map ke e)=>(match keyOf P ke,mg P e with | some kk,some z=> .NP kk z ok (x a) (x i) | _,_=>bad)
  | _=>bad
 | .mapUpdate t a i v | .insert t a i v=>
  match P.underlying t with
  | some (.map ke _)=>(match keyOf P ke with | some kk=> .od kk (x a) (x i) (x v) | none=>bad)
  | _=>bad
 | .range t a=>match P.underlying t with | some .string=> .oe (x a) | _=>bad
 | .next it true=> .og (x it)
 | .extract t i=> .ext i (x t)
 | .call c=>
  match c.callee with
  | .value f=>(match H.mode k with | .dyn=> .iB [] (x f) (gH H c.args.toList) | md=> .call md (x f) (gH H c.args.toList))
  | .builtin b=>
   match b,c.args.toList,c.argTypes.toList with
   | .append,[s,a],[t,u]=>
    match P.underlying t,P.underlying u with
    | some (.slice e),some (.slice _) | some (.slice e),some .string=>
     (match cL P e,AO P e,mg P e with | some sz,some cG,some z=>(bif yt (cellsOf z).length sz then .dl sz cG (x s) (x a) else bad) | _,_,_=>bad)
    | _,_=>bad
   | .len,[a],[t]=>
    match P.underlying t with
    | some (.array n _)=> .bK (.c (.int .i64 n))
    | some .string=> .len 0 (x a)
    | some (.slice _)=> .len 1 (x a)
    | some (.map _ _)=> .len 2 (x a)
    | _=>bad
   | .copy,[d,s],[t,_]=>
    match P.underlying t with
    | some (.slice e)=>(match cL P e with | some sz=> .oh sz (x d) (x s) | none=>bad)
    | _=>bad
   | .min,l,_=> .mn (gH H l)
   | .max,l,_=> .mx (gH H l)
   | _,_,_=>bad
  | _=>bad
 | _=>bad
def QH (o:y5):Bool:=match o.op with | .call {callee:= .value _,..}=>true | _=>false
def HV (d:Option Nat):Bool:=match d with | some i=>yI i H.n | none=>true
def rY (n:Nat):List Nat->Bool
 | []=>true
 | i::r=>yI i n&&rY n r
def Bx (ops:Array y5):List y5->Nat->List bg×Nat
 | [],k=>([],k)
 | o::r,k=>
  let g:=match o.guard with
   | none=>some none
   | some (j,b)=>match (ops[j]?).bind (·.dst) with | some t=>some (some (t,b)) | none=>none
  match Bx ops r (k+(bif QH o then 1 else 0)) with
  | (l,k')=>
   match g,HV H o.dst with
   | some g,true=>(⟨o.dst,g,bl P H k o⟩::l,k')
   | _,_=>(⟨o.dst,none,bad⟩::l,k')
def zQ (acc:List Nat):List Edge->Nat
 | []=>0
 | e::r=>bif Region.binds .any e then (2^e.on|||acc.getD e.on 0)|||zQ acc r else zQ acc r
def lB (acc:List Nat):List y5->List Nat
 | []=>acc
 | o::r=>lB (acc++[zQ acc o.after.toList]) r
def GK:List y5->Nat->Bool
 | [],_=>true
 | o::r,i=>o.after.toList.all (fun e=> !Region.binds .any e||yI e.on i)&&GK r (i+1)
def Ln (ops:Array y5) (draw:Bool) (k:Nat):List bg×Nat:=
 match Bx P H ops ops.toList k with
 | (l,k')=>
  bif draw then
   (let ms:=lB [] ops.toList
    let l':=rX [] l ms
    bif GK ops.toList 0&&DC [] l' ms then (l',k') else ([⟨none,none,bad⟩],k'))
  else (l,k')
def aoa:wL->Bool
 | .loop _=>true
 | _=>false
def comp:wL->Nat->Nat->VC×Nat×Nat
 | .skip,l,k | .label _,l,k=>(.skip,l,k)
 | .region i ops d,l,k=>match Ln P H ops d k with | (r,k')=>((match H.fz i with | []=> .aP r | t::ts=> .seq (.fz (t::ts)) (.aP r)),l,k')
 | .seq a b,l,k=>match comp a l k with | (a',l1,k1)=>match comp b l1 k1 with | (b',l2,k2)=>(.seq a' b',l2,k2)
 | .cond c a b,l,k=>
  match comp a (l+1) k with
  | (a',l1,k1)=>
   match comp b l1 k1 with
   | (b',l2,k2)=>(match H.out l with | some o=> .seq (.cond (aS H c) a' b') (.kp o) | none=> .cond (aS H c) a' b',l2,k2)
 | .block id a,l,k=>
  match comp a l k with
  | (a',r)=>(match aoa a,H.out l with | true,some o=> .seq (.aJ id a') (.kp o) | _,_=> .aJ id a',r)
 | .loop a,l,k=>match comp a (l+1) k with | (a',r)=>(.loop (H.live l) a',r)
 | .rangeFunc f ps cK body,l,k=>
  match comp cK l k with | (as',l1,k1)=>match comp body l1 k1 with | (b',l2,k2)=>(bif rY H.n ps.toList then .rf (aS H f) ps.toList as' b' else .aP [⟨none,none,bad⟩],l2,k2)
 | .exit id,l,k=>(.exit id,l,k)
 | .scope a,l,k=>comp a l k
 | .ret,l,k=>(.ret,l,k)
 | .goto _,l,k | .refuse _,l,k=>(.aP [⟨none,none,bad⟩],l,k)
def nH:List ResultVar->Option (List RV)
 | []=>some []
 | .tmp t::r=>match nH r with | some l=>some (.t t::l) | none=>none
 | .cell a t::r=>match cL P t,dE P t,nH r with | some s,some ag,some l=>some (.cell a s ag::l) | _,_,_=>none
def DL (fn:Func):Option aB:=
 match fn.body,nH P fn.results.toList with
 | some c,some rs=>bif yB H.n fn.ntmps then some ⟨rs,(comp P H c 0 0).1⟩ else none
 | _,_=>none
end
end
section
open Go
structure bq where
 P:y9
 aT:Lib
 ah:Nat->Nat
 prog:aI
 hint:Nat->Hint
 w0:yg
def AP (P:y9) (H:Hint) (v:VC) (c:wL):Prop:=∃l k,(comp P H c l k).1=v
def Am:Nat->LoopState
 | 0=> .ready
 | 1=> .busy
 | 2=> .done
 | _=> .exhausted
def rS:sr->Option wL
 | .none=>none
 | .ret=>some .ret
 | .exit id=>some (.exit id)
section
variable (O:bq) (m:Mp) (S:Nat->Prop) (w:yg)
def cf (tm:Env) (tmps:Array ye):Prop:=∀i,ai O.ah m S w (aj tm i) (tmps.getD i undef)
def fg (id:Nat):Obj->Prop
 | .cells rw pu ex sz cs=>∃p arr t,m id=some p/\w.heap[p.b]? =some (.cells arr t (0,0))/\p.z=sz/\cs.length<=p.e/\p.o+p.e<=arr.size/\
   (ex=true->cs.length=p.e)/\bR O.ah m S w cs p.b p.o/\(pu=true->aK cs=true)/\(rw=true->¬S p.b)/\(rw=false->S p.b)
 | .mp rw ks vs=>∃p es clock,m id=some p/\w.heap[p.b]? =some (.map es clock)/\ap O.ah m S w ks (es.toList.map (·.key))/\ap O.ah m S w vs (es.toList.map (·.val))/\
   (rw=true->¬S p.b)/\(rw=false->S p.b)
 | .si s pos=>∃p t,m id=some p/\w.heap[p.b]? =some (.stringIter t pos)/\t.data.toList.map y7=s/\¬S p.b
 | .lp tm ps cK body st pe=>∃p l h,m id=some p/\w.heap[p.b]? =some (.loop l)/\¬S p.b/\l.state=Am st/\st<=2/\l.pending=rS pe/\cf O m S w tm l.tmps/\
   l.params.toList=ps/\AP O.P (O.hint h) cK l.assign/\AP O.P (O.hint h) body l.body/\(O.hint h).n<=l.tmps.size/\rY (O.hint h).n ps=true
structure aV (hp:Hp) (ct:Nat):Prop where
 obj:∀id o p,aw hp id=some o->m id=some p->fg O m S w id o
 lt:∀id p,m id=some p->id<ct
 inj:∀i j oi oj pi pj,aw hp i=some oi->aw hp j=some oj->m i=some pi->m j=some pj->pi.b=pj.b->i=j
 slt:∀b,S b->b<w.heap.size
 blt:∀id p,m id=some p->p.b<w.heap.size
 low:∀id p,m id=some p->O.w0.heap.size<=p.b
 kH:∀b,b<O.w0.heap.size->w.heap[b]? =O.w0.heap[b]?
 fF:O.w0.heap.size<=w.heap.size
 a6:∀id o,aw hp id=some o->id<ct
end
def dR (m:Mp) (hp:Hp) (b:Nat):Prop:=∃id o p,aw hp id=some o/\m id=some p/\p.b=b
structure cm (m:Mp) (S:Nat->Prop) (w:yg) (hp:Hp) (m':Mp) (S':Nat->Prop) (w':yg) (an:Hp) (base:Nat):Prop where
 os:w'.os=w.os
 tape:w'.tape=w.tape
 output:w'.output=w.output
 size:w.heap.size<=w'.heap.size
 same:∀b,b<w.heap.size->¬dR m hp b->w'.heap[b]? =w.heap[b]?
 sub:∀b,S b->S' b
 still:∀b,S b->w'.heap[b]? =w.heap[b]?
 new:∀b,S' b->S b\/dR m hp b\/w.heap.size<=b
 own:∀b,dR m' an b->dR m hp b\/w.heap.size<=b
 old:∀id p,id<base->m id=some p->m' id=some p
 loops:∀(b:Nat) (r:Loop),w.heap[b]? =some (.loop r)->∃r':Loop,w'.heap[b]? =some (.loop r')
def cm.refl {m:Mp} {S:Nat->Prop} {w:yg} {hp:Hp} {base:Nat}:cm m S w hp m S w hp base:=
 ⟨rfl,rfl,rfl,yv _,fun _ _ _=>rfl,fun _ h=>h,fun _ _=>rfl,fun _ h=> .inl h,fun _ h=> .inl h,fun _ _ _ h=>h,fun _ r h=>⟨r,h⟩⟩
def cm.trans {m m' Jp:Mp} {S S' AQ:Nat->Prop} {w w' NQ:yg} {hp an Ie:Hp} {base:Nat}
  (h:cm m S w hp m' S' w' an base) (k:cm m' S' w' an Jp AQ NQ Ie base):cm m S w hp Jp AQ NQ Ie base where
 os:=k.os.trans h.os
 tape:=k.tape.trans h.tape
 output:=k.output.trans h.output
 size:=xj h.size k.size
 same b hb ho:=(k.same b (Nat.lt_of_lt_of_le hb h.size) (fun j9=>(h.own b j9).elim ho (fun h1=>by omega))).trans (h.same b hb ho)
 sub b hb:=k.sub b (h.sub b hb)
 still b hb:=(k.still b (h.sub b hb)).trans (h.still b hb)
 new b hb:=by
  rcases k.new b hb with h1 | h1 | h1
  ·exact h.new b h1
  ·rcases h.own b h1 with h2 | h2
   ·exact .inr (.inl h2)
   ·exact .inr (.inr h2)
  ·exact .inr (.inr (xj h.size h1))
 own b hb:=by
  rcases k.own b hb with h1 | h1
  ·exact h.own b h1
  ·exact .inr (xj h.size h1)
 old id p hid hp:=k.old id p hid (h.old id p hid hp)
 loops b r hb:=let ⟨r',h1⟩:=h.loops b r hb;k.loops b r' h1
end
section
open Go
section
variable {ah:Nat->Nat} {m:Mp} {S:Nat->Prop} {w:yg}
mutual
def Lo:∀v:ye,ai ah m S w (ek v) v
 | .int _ _ | .bool _ | .float _ _=>by simp only [ek,ai]
 | .string s=>by simp only [ek,ai];exact ⟨s,rfl,rfl⟩
 | .pointer none=>by simp only [ek,ai]
 | .pointer (some _)=>by simp only [ek,ai]
 | .slice none 0 0=>by simp only [ek,ai]
 | .slice none 0 (_+1)=>by simp only [ek,ai]
 | .slice none (_+1) _=>by simp only [ek,ai]
 | .slice (some _) _ _=>by simp only [ek,ai]
 | .map none=>by simp only [ek,ai]
 | .map (some _)=>by simp only [ek,ai]
 | .nilFunc=>by simp only [ek,ai]
 | .agg ⟨cs⟩=>by simp only [ek,ai];exact ⟨⟨cs⟩,rfl,PM cs⟩
 | .tuple ⟨cs⟩=>by simp only [ek,ai];exact ⟨⟨cs⟩,rfl,PM cs⟩
 | .complex _ _ _ | .chan _ | .func _ _ _ | .iface _ _ | .nilIface=>by simp only [ek,ai]
def PM:∀l:List ye,ap ah m S w (DK l) l
 | []=>by simp only [DK,ap]
 | v::r=>by simp only [DK,ap];exact ⟨v,r,rfl,Lo v,PM r⟩
end
end
def fp (O:bq) (H:Hint):Prop:=∀f g,H.cd f=some g->O.ah g=f
section
variable {O:bq} {H:Hint} {m:Mp} {S:Nat->Prop} {w:yg} {tm:Env} {a:Act}
def cD (hH:fp O H) (ht:cf O m S w tm a.tmps) (x:xu):ai O.ah m S w (az tm (aS H x)) (a.eval x):=by
 cases x with
 | tmp t=>exact ht t
 | const v=>simp only [aS,az,Act.eval];exact Lo v
 | global g=>simp only [aS,az,ai]
 | func f=>
  simp only [aS,Act.eval]
  cases hr:H.cd f with
  | none=>simp only [az,ai]
  | some g=>simp only [az,ai,hH f g hr,ap];exact ⟨#[],#[],rfl,rfl,rfl⟩
def BF (hH:fp O H) (ht:cf O m S w tm a.tmps):∀l:List xu,ap O.ah m S w (di tm (gH H l)) (l.map a.eval)
 | []=>by simp only [gH,di,List.map_nil,ap]
 | x::r=>by simp only [gH,di,yS,ap];exact ⟨_,_,rfl,cD hH ht x,BF hH ht r⟩
end
section
variable {O:bq} {m:Mp} {S:Nat->Prop} {w:yg}
def pG {ah:Nat->Nat}:∀(k:Nat) (cs:List AV) (b o:Nat),bR ah m S w cs b o->bR ah m S w (cs.drop k) b (o+k)
 | 0,cs,b,o,h=>by simpa using h
 | k+1,[],b,o,_=>by simp only [List.drop_nil,bR]
 | k+1,c::cs,b,o,h=>by
  simp only [bR] at h
  have:=pG k cs b (o+1) h.2
  rw [List.drop_succ_cons,show o+(k+1)=o+1+k by omega];exact this
def Bo {ah:Nat->Nat}:∀(k:Nat) (cs:List AV) (b o:Nat),bR ah m S w cs b o->bR ah m S w (cs.take k) b o
 | 0,cs,b,o,_=>by simp only [List.take_zero,bR]
 | k+1,[],b,o,_=>by simp only [List.take_nil,bR]
 | k+1,c::cs,b,o,h=>by
  simp only [bR,wb] at h ⊢;exact ⟨h.1,Bo k cs b (o+1) h.2⟩
def rD {ah:Nat->Nat}:∀(cs:List AV) (b o:Nat),bR ah m S w cs b o->
  ∃us:List ye,ap ah m S w cs us/\us.length=cs.length/\∀j u,us[j]? =some u->w.cell? ⟨b,o+j,none⟩=some u
 | [],b,o,_=>⟨[],by simp only [ap],rfl,fun j u h=>by simp at h⟩
 | c::cs,b,o,h=>by
  simp only [bR] at h;obtain ⟨⟨u,h1,h2⟩,h3⟩:=h;obtain ⟨us,h4,h5,h6⟩:=rD cs b (o+1) h3;refine ⟨u::us,by simp only [ap];exact ⟨u,us,rfl,h2,h4⟩,by simp [h5],fun j v hv=>?_⟩
  cases j with
  | zero=>simp at hv;subst hv;simpa using h1
  | succ j=>simp at hv;have:=h6 j v hv;rw [show o+(j+1)=o+1+j by omega];exact this
def iw {ah:Nat->Nat}:∀(cs:List AV) (us:List ye),ap ah m S w cs us->us.length=cs.length
 | [],us,h=>by simp only [ap] at h;subst h;rfl
 | c::cs,us,h=>by
  simp only [ap] at h;obtain ⟨u,r,rfl,_,h3⟩:=h;simp [iw cs r h3]
end
end
section
open Go
def nM (b o j:Nat):(⟨b,o,none⟩:vT).add j=⟨b,o+j,none⟩:=by
 unfold Addr.add;split<;>simp_all
section
variable {P:y9} {w:yg}
def ags (t:yx) (b o:Nat) (us:List ye) (ha:dE P t=some true) (hz:cL P t=some us.length)
  (h:∀j u,us[j]? =some u->w.cell? ⟨b,o+j,none⟩=some u):(loadVar t ⟨b,o,none⟩).run P w= .ok (.agg us.toArray) w:=by
 have hl:=run_loadCells_list (P:=P) w ⟨b,o,none⟩ us (fun j u hu=>by rw [nM];exact h j u hu)
 unfold cL at hz
 cases hi:P.info? t with
 | none=>simp [hi] at hz
 | some i=>
  simp only [hi,yc] at hz;unfold dE at ha
  cases hu:P.underlying t with
  | none=>simp [hu] at ha
  | some d=>cases d<;>simp_all [loadVar,isAgg,vB,typeInfo,underlying]
def agt (t:yx) (b o:Nat) (u:ye) (ha:dE P t=some false)
  (h:w.cell? ⟨b,o,none⟩=some u):(loadVar t ⟨b,o,none⟩).run P w= .ok u w:=by
 unfold dE at ha
 cases hu:P.underlying t with
 | none=>simp [hu] at ha
 | some d=>cases d<;>simp_all [loadVar,isAgg,underlying]
end
section
variable {O:bq} {m:Mp} {S:Nat->Prop} {w:yg}
def Lr {t:yx} {sz:Nat} {ag:Bool} {cs:List AV} {b o:Nat} {v:AV} (hz:cL O.P t=some sz) (ha:dE O.P t=some ag)
  (hr:bR O.ah m S w cs b o) (hv:eY sz ag cs=some v):∃u,(loadVar t ⟨b,o,none⟩).run O.P w= .ok u w/\ai O.ah m S w v u:=by
 cases ag with
 | true=>
  simp only [eY,yy] at hv
  cases hle:yB sz cs.length with
  | false=>simp only [hle,yM] at hv;cases hv
  | true=>
   simp only [hle,yy,yc] at hv;subst hv;obtain ⟨us,h1,h2,h3⟩:=rD _ _ _ (Bo sz cs b o hr);have hlen:us.length=sz:=by
    rw [h2,List.length_take];have:=yr hle;omega
   refine ⟨.agg us.toArray,ags t b o us ha (by rw [hlen];exact hz) h3,?_⟩
   simp only [ai];exact ⟨us.toArray,rfl,by simpa using h1⟩
 | false=>
  simp only [eY,yM] at hv
  cases cs with
  | nil=>simp at hv
  | cons c cs=>
   simp only [yc] at hv;subst hv;simp only [bR] at hr;obtain ⟨⟨u,h1,h2⟩,_⟩:=hr;exact ⟨u,agt t b o u ha h1,h2⟩
def Y1 {t:yx} {sz o:Nat} {ag:Bool} {cs:List AV} {xs:Array ye} {v:AV} (hz:cL O.P t=some sz) (ha:dE O.P t=some ag)
  (hr:ap O.ah m S w cs xs.toList) (hv:eY sz ag (cs.drop o)=some v):∃u,(part t xs o).run O.P w= .ok u w/\ai O.ah m S w v u:=by
 have hd:∀(k:Nat) (cs:List AV) (us:List ye),ap O.ah m S w cs us->ap O.ah m S w (cs.drop k) (us.drop k):=by
  intro k
  induction k with
  | zero=>intro cs us h;simpa using h
  | succ k ih=>
   intro cs us h
   cases cs with
   | nil=>simp only [ap] at h;subst h;simp [ap]
   | cons c cs=>simp only [ap] at h;obtain ⟨u,r,rfl,_,h3⟩:=h;simpa using ih cs r h3
 have dS:∀(k:Nat) (cs:List AV) (us:List ye),ap O.ah m S w cs us->ap O.ah m S w (cs.take k) (us.take k):=by
  intro k
  induction k with
  | zero=>intro cs us h;simp [ap]
  | succ k ih=>
   intro cs us h
   cases cs with
   | nil=>simp only [ap] at h;subst h;simp [ap]
   | cons c cs=>simp only [ap] at h;obtain ⟨u,r,rfl,h2,h3⟩:=h;simp only [wb,ap];exact ⟨u,_,rfl,h2,ih cs r h3⟩
 have ac6:(isAgg t).run O.P w= .ok ag w:=by
  unfold dE at ha
  cases hu:O.P.underlying t with
  | none=>simp [hu] at ha
  | some d=>cases d<;>simp_all [isAgg,underlying]
 have eF:(vB t).run O.P w= .ok sz w:=by
  unfold cL at hz
  cases hi:O.P.info? t with
  | none=>simp [hi] at hz
  | some i=>simp_all [vB,typeInfo]
 have bY:=hd o cs xs.toList hr
 cases ag with
 | true=>
  simp only [eY,yy] at hv
  cases hle:yB sz (cs.drop o).length with
  | false=>simp only [hle,yM] at hv;cases hv
  | true=>
   simp only [hle,yy,yc] at hv;subst hv;refine ⟨.agg (xs.extract o (o+sz)),by simp [part,Sem.run_bind,ac6,eF],?_⟩;simp only [ai];refine ⟨_,rfl,?_⟩
   have:=dS sz _ _ bY
   rw [show (xs.extract o (o+sz)).toList=(xs.toList.drop o).take sz by simp [Array.toList_extract,List.extract_eq_take_drop]];exact this
 | false=>
  simp only [eY,yM] at hv
  cases hc:cs.drop o with
  | nil=>simp [hc] at hv
  | cons c r=>
   simp only [hc,yc] at hv;subst hv;rw [hc] at bY;simp only [ap] at bY;obtain ⟨u,us,h1,h2,_⟩:=bY;have hx:xs[o]? =some u:=by
    have:xs.toList[o]? =some u:=by
     have:=congrArg (fun l=>l[0]?) h1
     simpa using this
    simpa using this
   exact ⟨u,by simp [part,Sem.run_bind,ac6,hx],h2⟩
end
end
section
open Go
def lk (t:ByteArray):List Nat:=t.data.toList.map y7
def Y2:∀a b:List UInt8,cE (a.map y7) (b.map y7)=(a==b)
 | [],[]=>rfl
 | [],_::_=>rfl
 | _::_,[]=>rfl
 | a::x,b::y=>by
  have h:yt a.toNat b.toNat=(a==b):=by
   rw [uL,ybx,tK];exact tX
  simp only [yS,cE,Y2 x y,h,List.cons_beq_cons]
def Y3:∀a b:List UInt8,AN (a.map y7) (b.map y7)=Op.bytesLess a b
 | [],[]=>rfl
 | [],_::_=>rfl
 | _::_,[]=>rfl
 | a::x,b::y=>by
  have h:yt a.toNat b.toNat=(a==b):=by
   rw [uL,ybx,tK];exact tX
  have h2:yI a.toNat b.toNat=decide (a<b):=by
   rw [uL];simp only [yI,yby,wW,UInt8.lt_iff_toNat_lt];omega
  simp only [yS,AN,Op.bytesLess,Y3 x y,h,h2]
def Xj (s t:ByteArray):cE (lk s) (lk t)=(s.toList==t.toList):=by
 rw [lk,lk,Y2,ByteArray.toList_eq,ByteArray.toList_eq]
def ahP (s t:ByteArray):AN (lk s) (lk t)=Op.bytesLess s.toList t.toList:=by
 rw [lk,lk,Y3,ByteArray.toList_eq,ByteArray.toList_eq]
def Xk (s:ByteArray):(lk s).length=s.size:=by
 rw [lk,List.length_map,Lib.size_eq]
section
variable {ah:Nat->Nat} {P:y9} {m:Mp} {S:Nat->Prop} {w:yg} {t:yx}
def ajB {op:wK} {k:yZ} {x y:Int} {v:AV} (h:kC op k x y=some v):
  ∃u,(xJ op t (.int k x) (.int k y)).run P w= .ok u w/\ai ah m S w v u:=by
 cases op<;>simp only [kC,intCmp,yc] at h
 case add=>subst h;exact ⟨_,by simp [xJ,Op.intArith];rfl,by simp [ai]⟩
 case sub=>subst h;exact ⟨_,by simp [xJ,Op.intArith];rfl,by simp [ai]⟩
 case mul=>subst h;exact ⟨_,by simp [xJ,Op.intArith];rfl,by simp [ai]⟩
 case quo=>
  by_cases hy:y=0
  ·simp [hy] at h
  ·simp only [hy,y8,yc] at h;subst h;exact ⟨_,by simp [xJ,Op.intDiv,hy];rfl,by simp [ai]⟩
 case rem=>
  by_cases hy:y=0
  ·simp [hy] at h
  ·simp only [hy,y8,yc] at h;subst h;exact ⟨_,by simp [xJ,Op.intDiv,hy];rfl,by simp [ai]⟩
 case and=>subst h;exact ⟨_,by simp [xJ,Op.intBits];rfl,by simp [ai]⟩
 case or=>subst h;exact ⟨_,by simp [xJ,Op.intBits];rfl,by simp [ai]⟩
 case xor=>subst h;exact ⟨_,by simp [xJ,Op.intBits];rfl,by simp [ai]⟩
 case andNot=>subst h;exact ⟨_,by simp [xJ,Op.intBits];rfl,by simp [ai]⟩
 case shl=>cases h
 case shr=>cases h
 all_goals
  subst h;exact ⟨_,by simp [xJ,Op.intCmp];rfl,by simp [ai]⟩
def WA {op:wK} {k k':yZ} {x y:Int} {v:AV} (h:Bw op k x y=some v):
  ∃u,(xJ op t (.int k x) (.int k' y)).run P w= .ok u w/\ai ah m S w v u:=by
 unfold Bw at h;by_cases hy:y<0
 ·simp [hy] at h
 ·simp only [hy,y8] at h;cases op<;>simp only [yc] at h
  case shl=>subst h;exact ⟨_,by simp [xJ,Op.shift,hy];rfl,by simp [ai]⟩
  case shr=>subst h;exact ⟨_,by simp [xJ,Op.shift,hy];rfl,by simp [ai]⟩
  all_goals cases h
def ajC {op:wK} {x y:ByteArray} {v:AV} (h:HP op (lk x) (lk y)=some v):
  ∃u,(xJ op t (.string x) (.string y)).run P w= .ok u w/\ai ah m S w v u:=by
 cases op<;>simp only [HP,Xj,ahP,Xk,yc] at h
 case add=>
  cases hle:yB (x.size+y.size) 9223372036854775807 with
  | false=>rw [hle] at h;cases h
  | true=>
   rw [hle] at h;simp only [yy,yc] at h;subst h;have ayz:=yr hle;have asq:¬(((x.size+y.size:Nat):Int)>IntKind.i64.max):=by
    have:IntKind.i64.max=9223372036854775807:=by decide
    rw [this];omega
   refine ⟨.string (x++y),?_,?_⟩
   ·simp only [xJ,Op.stringOp,yF asq,Sem.run_pure]
   ·simp only [ai];exact ⟨x++y,rfl,by simp [lk]⟩
 all_goals first
  | (cases h;done)
  | (subst h;exact ⟨_,by simp [xJ,Op.stringOp];rfl,by simp [ai]⟩)
def ajD {op:wK} {k:vD} {x y:Nat} {v:AV} (h:Re op k x y=some v):
  ∃u,(xJ op t (.float k x) (.float k y)).run P w= .ok u w/\ai ah m S w v u:=by
 cases op<;>simp only [Re,yc] at h
 case add=>
  cases hr:k.format.add x y with
  | none=>simp [hr] at h
  | some r=>simp only [hr,yc] at h;subst h;exact ⟨.float k r,by simp [xJ,Op.floatArith,hr],by simp [ai]⟩
 case sub=>
  cases hr:k.format.sub x y with
  | none=>simp [hr] at h
  | some r=>simp only [hr,yc] at h;subst h;exact ⟨.float k r,by simp [xJ,Op.floatArith,hr],by simp [ai]⟩
 case mul=>
  cases hr:k.format.mul x y with
  | none=>simp [hr] at h
  | some r=>simp only [hr,yc] at h;subst h;exact ⟨.float k r,by simp [xJ,Op.floatArith,hr],by simp [ai]⟩
 case quo=>
  cases hr:k.format.div x y with
  | none=>simp [hr] at h
  | some r=>simp only [hr,yc] at h;subst h;exact ⟨.float k r,by simp [xJ,Op.floatArith,hr],by simp [ai]⟩
 all_goals first
  | (cases h;done)
  | (subst h;exact ⟨_,by simp [xJ,Op.floatCmp];rfl,by simp [ai]⟩)
def ajE {op:wK} {vx vy v:AV} {x y:ye} (hx:ai ah m S w vx x) (hy:ai ah m S w vy y) (h:VE.binOp op vx vy=some v):
  ∃u,(xJ op t x y).run P w= .ok u w/\ai ah m S w v u:=by
 unfold VE.binOp at h
 split at h
 ·rename_i k a k' b;simp only [ai] at hx hy;subst hx;subst hy
  split at h
  ·exact WA h
  ·exact WA h
  ·by_cases hk:k=k'
   ·subst hk;simp only [xh] at h;exact ajB h
   ·simp [hk] at h
 ·rename_i k a k' b;simp only [ai] at hx hy;subst hx;subst hy;by_cases hk:k=k'
  ·subst hk;simp only [xh] at h;exact ajD h
  ·simp [hk] at h
 ·rename_i a b;simp only [ai] at hx hy;obtain ⟨s,rfl,rfl⟩:=hx;obtain ⟨s',rfl,rfl⟩:=hy;exact ajC h
 ·cases h
end
end
section
open Go
section
variable {ah:Nat->Nat} {P:y9} {m:Mp} {S:Nat->Prop} {w:yg} {t:yx}
def agV {op:wK} {x y:xu} {a b:ye} (h:P.eqGuardType P.depth t=false\/∀xs ys,¬(a= .agg xs/\b= .agg ys)) (hn:a≠.nilIface):
  (eqGuard op t x y a b).run P w= .ok () w:=by
 unfold eqGuard;cases op
 all_goals first
  | rfl
  | (
    cases a
    all_goals first
     | rfl
     | exact absurd rfl hn
     | (
      cases b
      all_goals first
       | rfl
       | (
         rcases h with h | h
         ·simp [h]
         ·exact absurd ⟨rfl,rfl⟩ (h _ _))))
def aob {d:Nat} {p q:Bool} (ht:P.underlying t=some .bool):(Op.equalIn (d+1) t (.bool p) (.bool q)).run P w= .ok (p==q) w:=by
 simp [Op.equalIn,underlying,ht]
def Rh {d:Nat} {e:yx} (ht:P.underlying t=some (.slice e)) (y:Option vT) (n c n' c':Nat):
  (Op.equalIn (d+1) t (.slice none n c) (.slice y n' c')).run P w= .ok y.isNone w:=by simp [Op.equalIn,underlying,ht]
def abx {d:Nat} {e:yx} (ht:P.underlying t=some (.slice e)) (x:vT) (n c n' c':Nat):
  (Op.equalIn (d+1) t (.slice (some x) n c) (.slice none n' c')).run P w= .ok false w:=by simp [Op.equalIn,underlying,ht]
def aqL {d:Nat} {ps rs:Array yx} {vr:Bool} (ht:P.underlying t=some (.func ps rs vr)):
  (Op.equalIn (d+1) t .nilFunc .nilFunc).run P w= .ok true w:=by simp [Op.equalIn,underlying,ht]
def aby {d:Nat} {ps rs:Array yx} {vr:Bool} (ht:P.underlying t=some (.func ps rs vr)) (f:Go.Fn) (a b:Array ye):
  (Op.equalIn (d+1) t .nilFunc (.func f a b)).run P w= .ok false w:=by simp [Op.equalIn,underlying,ht]
def abz {d:Nat} {ps rs:Array yx} {vr:Bool} (ht:P.underlying t=some (.func ps rs vr)) (f:Go.Fn) (a b:Array ye):
  (Op.equalIn (d+1) t (.func f a b) .nilFunc).run P w= .ok false w:=by simp [Op.equalIn,underlying,ht]
def K0 (x y:ye):Op.equal t x y=Op.equalIn (9999+1) t x y:=rfl
def alU {vx vy:AV} {x y:ye} {r:Bool} {e:yx} (ht:P.underlying t=some (.slice e)) (hx:ai ah m S w vx x) (hy:ai ah m S w vy y)
  (h:iU .sl vx vy=some r):(Op.equal t x y).run P w= .ok r w:=by
 rw [K0];unfold iU at h
 split at h<;>simp_all only [yc,reduceCtorEq]
 all_goals subst h
 all_goals simp only [ai] at hx hy
 ·subst hx;subst hy;exact Rh ht _ _ _ _ _
 ·rcases hy with ⟨b,o,c,rfl,_⟩ | ⟨_,rfl,_⟩<;>(subst hx;exact Rh ht _ _ _ _ _)
 ·obtain ⟨p,c,_,rfl,_⟩:=hy;subst hx;exact Rh ht _ _ _ _ _
 ·rcases hx with ⟨b,o,c,rfl,_⟩ | ⟨_,rfl,_⟩<;>(subst hy;exact abx ht _ _ _ _ _)
 ·obtain ⟨p,c,_,rfl,_⟩:=hx;subst hy;exact abx ht _ _ _ _ _
def alV {vx vy:AV} {x y:ye} {r:Bool} {ps rs:Array yx} {vr:Bool} (ht:P.underlying t=some (.func ps rs vr)) (hx:ai ah m S w vx x) (hy:ai ah m S w vy y)
  (h:iU .fn vx vy=some r):(Op.equal t x y).run P w= .ok r w:=by
 rw [K0];unfold iU at h
 split at h<;>simp_all only [yc,reduceCtorEq]
 all_goals subst h
 ·simp only [ai] at hx hy;subst hx;subst hy;exact aqL ht
 ·rename_i f _ _
  cases f with
  | f g=>simp only [ai] at hx hy;obtain ⟨fi,ca,rfl,_⟩:=hy;subst hx;exact aby ht _ _ _
  | y l=>simp only [ai] at hx hy;obtain ⟨p,_,rfl⟩:=hy;subst hx;exact aby ht _ _ _
 ·rename_i f _ _
  cases f with
  | f g=>simp only [ai] at hx hy;obtain ⟨fi,ca,rfl,_⟩:=hx;subst hy;exact abz ht _ _ _
  | y l=>simp only [ai] at hx hy;obtain ⟨p,_,rfl⟩:=hx;subst hy;exact abz ht _ _ _
def alW {op:ybn} {vx v:AV} {x:ye} (hx:ai ah m S w vx x) (h:VE.unOp op vx=some v):∃u,(Op.unary op x).run P w= .ok u w/\ai ah m S w v u:=by
 unfold VE.unOp at h
 split at h
 ·rename_i k n;simp only [ai] at hx;subst hx;simp only [yc] at h;subst h;exact ⟨_,by simp [Op.unary,Op.intArith];rfl,by simp [ai]⟩
 ·rename_i k n;simp only [ai] at hx;subst hx;simp only [kC,yc] at h;subst h;exact ⟨_,by simp [Op.unary,Op.intBits];rfl,by simp [ai]⟩
 ·rename_i b;simp only [ai] at hx;subst hx;simp only [yc] at h;subst h;exact ⟨_,by simp [Op.unary];rfl,by simp [ai]⟩
 ·rename_i k b;simp only [ai] at hx;subst hx;simp only [yc] at h;subst h;exact ⟨_,by simp [Op.unary,Op.negFloat];rfl,by simp [ai]⟩
 ·cases h
def X7 {s d:yx} {k:yZ} {vx v:AV} {x:ye} (hd:P.underlying d=some (.int k)) (hs:(∃k',P.underlying s=some (.int k'))\/∃k',P.underlying s=some (.float k'))
  (hx:ai ah m S w vx x) (h:nX (.toInt k) vx=some v):∃u,(convert s d x).run P w= .ok u w/\ai ah m S w v u:=by
 cases vx<;>simp only [nX,reduceCtorEq] at h
 case int k0 n=>
  simp only [ai] at hx;subst hx;simp only [yc] at h;subst h;refine ⟨.int k (k.wrap n),?_,by simp [ai]⟩;rcases hs with ⟨k',h'⟩ | ⟨k',h'⟩<;>simp [convert,underlying,Conv.intToInt,hd,h']
 case dh sk b=>
  simp only [ai] at hx;subst hx
  cases hi:(sk.decode b).toInt .zero with
  | none=>simp [hi] at h
  | some n=>
   simp only [hi] at h;by_cases hr:k.min<=n/\n<=k.max
   ·simp only [hr,and_self,xh,yc] at h;subst h;refine ⟨.int k n,?_,by simp [ai]⟩;rcases hs with ⟨k',h'⟩ | ⟨k',h'⟩<;>simp [convert,underlying,Conv.floatToInt,hd,h',hi,hr]
   ·simp [hr] at h
def X8 {s d:yx} {k:vD} {vx v:AV} {x:ye} (hd:P.underlying d=some (.float k)) (hs:(∃k',P.underlying s=some (.int k'))\/∃k',P.underlying s=some (.float k'))
  (hx:ai ah m S w vx x) (h:nX (.toFlt k) vx=some v):∃u,(convert s d x).run P w= .ok u w/\ai ah m S w v u:=by
 cases vx<;>simp only [nX,reduceCtorEq] at h
 case int k0 n=>
  simp only [ai] at hx;subst hx;simp only [yc] at h;subst h;refine ⟨.float k (k.nearest n),?_,by simp [ai]⟩;rcases hs with ⟨k',h'⟩ | ⟨k',h'⟩<;>simp [convert,underlying,Conv.intToFloat,hd,h']
 case dh sk b=>
  simp only [ai] at hx;subst hx;by_cases he:sk=k
  ·subst he;simp only [xh,yc] at h;subst h;refine ⟨.float sk b,?_,by simp [ai]⟩;rcases hs with ⟨k',h'⟩ | ⟨k',h'⟩<;>simp [convert,underlying,Conv.floatToFloat,hd,h']
  ·simp only [he,y8] at h
   cases Mu:sk.decode b with
   | nan _ _=>simp [Mu] at h
   | infinity _=>simp [Mu] at h
   | number sg mm ee=>
    simp only [Mu] at h
    cases RQ:(k.decode (k.encode (.number sg mm ee))).isInfinity with
    | true=>simp [RQ] at h
    | false=>
     simp only [RQ,yC,y8,yc] at h;subst h;refine ⟨.float k (k.encode (.number sg mm ee)),?_,by simp [ai]⟩;rcases hs with ⟨k',h'⟩ | ⟨k',h'⟩<;>simp [convert,underlying,Conv.floatToFloat,hd,h',he,Mu,RQ]
def ajF {s d:yx} {vx v:AV} {x:ye} (hd:P.underlying d=some .string) (hs:P.underlying s=some .string)
  (hx:ai ah m S w vx x) (h:nX .str vx=some v):∃u,(convert s d x).run P w= .ok u w/\ai ah m S w v u:=by
 cases vx<;>simp only [nX,reduceCtorEq] at h
 simp only [yc] at h;subst h;simp only [ai] at hx;obtain ⟨b,rfl,hb⟩:=hx;exact ⟨.string b,by simp [convert,underlying,hs,hd],by simp only [ai];exact ⟨b,rfl,hb⟩⟩
end
end
section
open Go
def ahQ {v:AV} {k:Nat} (h:dD v=some k):∃kd,v= .int kd (k:Int):=by
 cases v<;>simp only [dD,reduceCtorEq] at h
 rename_i kd n
 cases n with
 | ofNat j=>simp only [yc] at h;subst h;exact ⟨kd,rfl⟩
 | negSucc j=>cases h
section
variable {O:bq} {H:Hint} {m:Mp} {S:Nat->Prop} {w:yg} {tm:Env} {a:Act}
def rM {ah:Nat->Nat} {v:AV} {x:ye} {k:Nat} (hx:ai ah m S w v x) (h:dD v=some k):∃kd,x= .int kd (k:Int):=by
 obtain ⟨kd,rfl⟩:=ahQ h;simp only [ai] at hx
 grind
def run_sliceBound {P:y9} {kd:yZ} {k y:Nat} {code:BoundsCode} (h:k<=y):(Instr.sliceBound (.int kd (k:Int)) y code).run P w= .ok k w:=by
 have:(0:Int)<=(k:Int)/\(k:Int)<=(y:Int):=by omega
 simp [Instr.sliceBound,asIntOf,this]
def Xl {P:y9} {isSlice:Bool} {len cap l h:Nat} {lo hi:Option xu} (hH:fp O H) (ht:cf O m S w tm a.tmps)
  (hl:cI tm 0 (lo.map (aS H))=some l) (hh:cI tm len (hi.map (aS H))=some h) (h1:l<=h) (h2:h<=cap):
  (Instr.sliceBounds isSlice len cap (lo.map a.eval) (hi.map a.eval) none).run P w= .ok (l,h,cap) w:=by
 cases lo with
 | none=>
  simp only [vA,cI,yc] at hl;subst hl
  cases hi with
  | none=>
   simp only [vA,cI,yc] at hh;subst hh;simp [Instr.sliceBounds]
  | some y=>
   obtain ⟨kd,e⟩:=rM (cD hH ht y) hh;simp only [Instr.sliceBounds,vA,wu,e,Sem.run_bind,Sem.run_pure,Result.andThen_ok,run_sliceBound h2]
 | some x=>
  obtain ⟨kd,e⟩:=rM (cD hH ht x) hl
  cases hi with
  | none=>
   simp only [vA,cI,yc] at hh;subst hh;simp only [Instr.sliceBounds,vA,wu,e,Sem.run_bind,Sem.run_pure,Result.andThen_ok,run_sliceBound h1]
  | some y=>
   obtain ⟨TI,e'⟩:=rM (cD hH ht y) hh;simp only [Instr.sliceBounds,wu,e,e',Sem.run_bind,Sem.run_pure,Result.andThen_ok,run_sliceBound h2,run_sliceBound h1]
def ahR {t:yx} {lo hi:Option xu} {vx v:AV} {x:ye} (hH:fp O H) (ht:cf O m S w tm a.tmps) (hu:O.P.underlying t=some .string)
  (hx:ai O.ah m S w vx x) {hp:Hp} (h:fe hp .str vx tm (lo.map (aS H)) (hi.map (aS H))=some v):
  ∃u,(Instr.sliceAt t x (lo.map a.eval) (hi.map a.eval) none).run O.P w= .ok u w/\ai O.ah m S w v u:=by
 cases vx<;>simp only [fe,reduceCtorEq] at h
 obtain ⟨b,rfl,rfl⟩:=hx
 cases hl:cI tm 0 (lo.map (aS H)) with
 | none=>simp [hl] at h
 | some l=>
  simp only [hl] at h
  cases hh:cI tm (b.data.toList.map y7).length (hi.map (aS H)) with
  | none=>rw [hh] at h;cases h
  | some g=>
   rw [hh] at h;simp only at h
   cases hc:(yB l g&&yB g (b.data.toList.map y7).length) with
   | false=>rw [hc] at h;cases h
   | true=>
    rw [hc] at h;simp only [yy,yc] at h;subst h;simp only [yf] at hc;have h1:=yr hc.1;have h2:=yr hc.2;have hlen:(b.data.toList.map y7).length=b.size:=Xk b;rw [hlen] at hh h2;refine ⟨.string (b.extract l g),?_,?_⟩
    ·simp only [Instr.sliceAt,Sem.run_bind,run_underlying hu,Result.andThen_ok,Instr.slice,Option.isSome_none,yC,y8,Sem.run_pure,
      Xl (P:=O.P) (isSlice:=false) (len:=b.size) (cap:=b.size) hH ht hl hh h1 h2]
    ·simp only [ai];refine ⟨_,rfl,?_⟩;rw [Lib.extract_data,List.map_take,List.map_drop,List.drop_take]
def ajG {t e:yx} {sz:Nat} {lo hi:Option xu} {vx v:AV} {x:ye} (hH:fp O H) (ht:cf O m S w tm a.tmps) (hu:O.P.underlying t=some (.slice e)) (hz:cL O.P e=some sz)
  {hp:Hp} {ct:Nat} (hh:aV O m S w hp ct)
  (hx:ai O.ah m S w vx x) (h:fe hp (.sl sz) vx tm (lo.map (aS H)) (hi.map (aS H))=some v):
  ∃u,(Instr.sliceAt t x (lo.map a.eval) (hi.map a.eval) none).run O.P w= .ok u w/\ai O.ah m S w v u:=by
 have eF:(vB e).run O.P w= .ok sz w:=by
  unfold cL at hz
  cases hi:O.P.info? e with
  | none=>simp [hi] at hz
  | some i=>simp_all [vB,typeInfo]
 have Hi:∀(ad:Option vT) (n c l g:Nat),cI tm 0 (lo.map (aS H))=some l->cI tm n (hi.map (aS H))=some g->l<=g->g<=c->
   (Instr.sliceAt t (.slice ad n c) (lo.map a.eval) (hi.map a.eval) none).run O.P w= .ok (.slice (if c=l then ad else ad.map (·.add (l*sz))) (g-l) (c-l)) w:=by
  intro ad n c l g hl hg h1 h2
  simp only [Instr.sliceAt,Sem.run_bind,run_underlying hu,Result.andThen_ok,Instr.slice,Sem.run_pure,eF,
   Xl (P:=O.P) (isSlice:=true) (len:=n) (cap:=c) hH ht hl hg h1 h2]
 cases vx<;>simp only [fe,reduceCtorEq] at h
 case ab=>
  simp only [ai] at hx;subst hx
  cases hl:cI tm 0 (lo.map (aS H)) with
  | none=>simp [hl] at h
  | some l=>
   cases l with
   | succ l=>simp [hl] at h
   | zero=>
    simp only [hl] at h
    cases hh:cI tm 0 (hi.map (aS H)) with
    | none=>simp [hh] at h
    | some g=>
     cases g with
     | succ g=>simp [hh] at h
     | zero=>
      simp only [hh,yc] at h;subst h;exact ⟨_,Hi none 0 0 0 0 hl hh (yv _) (yv _),by simp [ai]⟩
 case aH ex n cs=>
  simp only [ai] at hx;rcases hx with ⟨b,o,c,rfl,Jq,hex,hS,ij,CF⟩ | ⟨ad,rfl,rfl,rfl⟩
  case inr=>
   cases hl:cI tm 0 (lo.map (aS H)) with
   | none=>simp [hl] at h
   | some l=>
    simp only [hl] at h
    cases hh:cI tm 0 (hi.map (aS H)) with
    | none=>simp [hh] at h
    | some g=>
     simp only [hh] at h
     cases hc:(yB l g&&yB g 0) with
     | false=>rw [hc] at h;cases h
     | true=>
      rw [hc] at h;simp only [yy,yc] at h;subst h;simp only [yf] at hc;have h1:=yr hc.1;have h2:=yr hc.2;have hg:g=0:=by omega
      subst hg;have iW:l=0:=by omega
      subst iW;refine ⟨_,Hi (some ad) 0 0 0 0 hl hh h1 h2,?_⟩;simp only [ai];exact .inr ⟨ad,by simp,by simp,by simp [slice]⟩
  cases hl:cI tm 0 (lo.map (aS H)) with
  | none=>simp [hl] at h
  | some l=>
   simp only [hl] at h
   cases hh:cI tm n (hi.map (aS H)) with
   | none=>simp [hh] at h
   | some g=>
    simp only [hh] at h
    cases hc:(yB l g&&yB g n) with
    | false=>rw [hc] at h;cases h
    | true=>
     rw [hc] at h;simp only [yy,yc] at h;subst h;simp only [yf] at hc;have h1:=yr hc.1;have h2:=yr hc.2;refine ⟨_,Hi (some ⟨b,o,none⟩) n c l g hl hh h1 (by omega),?_⟩;have L4:aK (slice (l*sz) ((g-l)*sz) cs)=true:=by
      have pd:∀(k:Nat) (cs:List AV),aK cs=true->aK (cs.drop k)=true:=by
       intro k
       induction k with
       | zero=>intro cs h;simpa using h
       | succ k ih=>intro cs h;cases cs with
        | nil=>simpa using h
        | cons c cs=>simp only [aK,yf] at h;simpa using ih cs h.2
      have pt:∀(k:Nat) (cs:List AV),aK cs=true->aK (cs.take k)=true:=by
       intro k
       induction k with
       | zero=>intro cs h;simp [aK]
       | succ k ih=>intro cs h;cases cs with
        | nil=>simp [aK]
        | cons c cs=>simp only [aK,yf,wb] at h ⊢;exact ⟨h.1,ih cs h.2⟩
      exact pt _ _ (pd _ _ ij)
     have ac7:(ex&&yt g n)=true->c-l=g-l:=by
      intro hq;simp only [yf] at hq
      have:=hex hq.1
      have:=yk hq.2
      omega
     simp only [ai];by_cases ki:c=l
     ·have h0:g-l=0:=by omega
      have jC:slice (l*sz) ((g-l)*sz) cs=[]:=by simp [slice,h0]
      rw [jC];exact .inl ⟨b,o,c-l,by simp [ki],by omega,ac7,.inl rfl,rfl,by simp [bR]⟩
     ·refine .inl ⟨b,o+l*sz,c-l,by simp [ki,nM],by omega,ac7,?_,L4,?_⟩
      ·rcases hS with rfl | hS
       ·exact .inl (by simp [slice])
       ·exact .inr hS
      ·exact Bo _ _ _ _ (pG _ _ _ _ CF)
 case aE id o n=>
  simp only [ai] at hx;obtain ⟨p,c,hm,rfl,Jq,NR⟩:=hx
  split at h
  case h_2=>cases h
  rename_i TJ pu0 qK z0 cs0 B4;obtain ⟨p',arr,t',fK,_,dZ,_⟩:=hh.obj id _ _ B4 hm;rw [hm] at fK;injection fK with fK
  subst fK
  cases hl:cI tm 0 (lo.map (aS H)) with
  | none=>simp [hl] at h
  | some l=>
   simp only [hl] at h
   cases hh:cI tm n (hi.map (aS H)) with
   | none=>simp [hh] at h
   | some g=>
    simp only [hh] at h
    cases hc:(yB l g&&yB g n&&yt z0 sz) with
    | false=>rw [hc] at h;cases h
    | true=>
     rw [hc] at h;simp only [yy] at h;simp only [yf] at hc;have h1:=yr hc.1.1;have h2:=yr hc.1.2;have hpz:p.z=sz:=dZ.trans (yk hc.2)
     cases he:(yt l g&& !yt l 0) with
     | true=>
      rw [he] at h;simp only [yy,yc] at h;subst h;simp only [yf] at he;have CG:=yk he.1;refine ⟨_,Hi (some ⟨p.b,p.o+o,none⟩) n c l g hl hh h1 (by omega),?_⟩;simp only [ai];by_cases ki:c=l
      ·exact .inl ⟨p.b,p.o+o,c-l,by simp [ki];omega,by omega,by simp,by simp,by simp [aK],by simp [bR]⟩
      ·exact .inl ⟨p.b,p.o+o+l*sz,c-l,by simp [ki,nM];omega,by omega,by simp,by simp,by simp [aK],by simp [bR]⟩
     | false=>
      rw [he] at h;simp only [yM,yc] at h;subst h;have ki:c=l->l=0:=by
       intro ki;have CG:l=g:=by omega
       cases iW:yt l 0 with
       | true=>exact yk iW
       | false=>rw [CG,Nat.beq_refl,<-CG,iW] at he;cases he
      refine ⟨_,Hi (some ⟨p.b,p.o+o,none⟩) n c l g hl hh h1 (by omega),?_⟩;simp only [ai];refine ⟨p,c-l,hm,?_,by omega,?_⟩
      ·by_cases RR:c=l
       ·have:=ki RR;subst this;subst RR;simp
       ·simp [RR,nM,um]
      ·rw [hpz] at NR ⊢
       have:c*sz=l*sz+(c-l)*sz:=by rw [<-Nat.add_mul];congr 1;omega
       omega
end
end
section
open Go
def mB {P:y9} {w:yg} {t:yx} {sz:Nat} (hz:cL P t=some sz):(vB t).run P w= .ok sz w:=by
 unfold cL at hz
 cases hi:P.info? t with
 | none=>simp [hi] at hz
 | some i=>simp_all [vB,typeInfo]
section
variable {O:bq} {H:Hint} {m:Mp} {S:Nat->Prop} {w:yg} {tm:Env} {a:Act} {hp:Hp} {ct:Nat}
def PN {id o n:Nat} {rw pu ex:Bool} {sz:Nat} {cs:List AV} {p:Pl} (hh:aV O m S w hp ct) (hg:aw hp id=some (.cells rw pu ex sz cs)) (hm:m id=some p):
  bR O.ah m S w cs p.b p.o:=by
 obtain ⟨p',arr,t',fK,_,_,_,_,_,hr,_⟩:=hh.obj id _ _ hg hm
 grind
def aqM {t:yx} {sz:Nat} {ag:Bool} {vx v:AV} {x:ye} (hh:aV O m S w hp ct) (hz:cL O.P t=some sz) (ha:dE O.P t=some ag) (hx:ai O.ah m S w vx x)
  (h:gG hp sz ag vx=some v):∃u,(Instr.loadAt t x).run O.P w= .ok u w/\ai O.ah m S w v u:=by
 cases vx<;>simp only [gG,reduceCtorEq] at h
 case ptr id o=>
  obtain ⟨p,hm,rfl⟩:=hx
  split at h
  case h_2=>cases h
  rename_i TJ pu0 qK z0 cs0 B4;have hr:=PN (id:=id) (o:=0) (n:=0) hh B4 hm;obtain ⟨u,h1,h2⟩:=Lr hz ha (pG o cs0 p.b p.o hr) h;exact ⟨u,by simp only [Instr.loadAt,Instr.sureAddr,Sem.run_bind,Sem.run_pure,Result.andThen_ok];exact h1,h2⟩
 case aO cs=>
  obtain ⟨b,o,rfl,_,_,hr⟩:=hx;obtain ⟨u,h1,h2⟩:=Lr hz ha hr h;exact ⟨u,by simp only [Instr.loadAt,Instr.sureAddr,Sem.run_bind,Sem.run_pure,Result.andThen_ok];exact h1,h2⟩
def zy:∀(k:Nat) (cs:List AV),aK cs=true->aK (cs.drop k)=true
 | 0,cs,h=>by simpa using h
 | k+1,[],h=>by simpa using h
 | k+1,c::cs,h=>by simp only [aK,yf] at h;simpa using zy k cs h.2
def Pq {cs:List AV} {b o k:Nat} (h2:cs=[]\/S b) (h3:aK cs=true) (h4:bR O.ah m S w cs b o):ai O.ah m S w (.aO (cs.drop k)) (.pointer (some ⟨b,o+k,none⟩)):=by
 refine ⟨b,o+k,rfl,?_,zy k cs h3,pG k cs b o h4⟩
 grind
def aoc {t:yx} {fs:Array uz} {i:Nat} {f:uz} {sz:Nat} {vx v:AV} {x:ye} (hu:O.P.underlying t=some (.struct fs)) (hf:fs[i]? =some f) (hz:cL O.P f.type=some (sz+1))
  (hx:ai O.ah m S w vx x)
  (h:z6 f.offset vx=some v):∃u,(Instr.fieldAt t x i).run O.P w= .ok u w/\ai O.ah m S w v u:=by
 have abA:∀(b o:Nat),(Instr.fieldAt t (.pointer (some ⟨b,o,none⟩)) i).run O.P w= .ok (.pointer (some ⟨b,o+f.offset,none⟩)) w:=by
  intro b o;simp only [Instr.fieldAt,Sem.run_bind,run_underlying hu,Result.andThen_ok,hf,Instr.sureAddr,Sem.run_pure,fieldPlace,mB hz,Nat.succ_ne_zero,y8,nM]
 cases vx<;>simp only [z6,reduceCtorEq] at h
 case ptr id o=>
  obtain ⟨p,hm,rfl⟩:=hx;simp only [yc] at h;subst h;exact ⟨_,abA _ _,by simp only [ai];exact ⟨p,hm,by rw [um]⟩⟩
 case aO cs=>
  obtain ⟨b,o,rfl,h2,h3,h4⟩:=hx
  cases hc:yB f.offset cs.length with
  | false=>rw [hc] at h;cases h
  | true=>
   rw [hc] at h;simp only [yy,yc] at h;subst h;exact ⟨_,abA _ _,Pq h2 h3 h4⟩
def aod {t:yx} {fs:Array uz} {i:Nat} {f:uz} {sz:Nat} {ag:Bool} {vx v:AV} {x:ye} (hu:O.P.underlying t=some (.struct fs)) (hf:fs[i]? =some f)
  (hz:cL O.P f.type=some sz) (ha:dE O.P f.type=some ag) (hx:ai O.ah m S w vx x)
  (h:L3 f.offset sz ag vx=some v):∃u,(Instr.field t x i).run O.P w= .ok u w/\ai O.ah m S w v u:=by
 cases vx<;>simp only [L3,reduceCtorEq] at h
 obtain ⟨xs,rfl,hr⟩:=hx;obtain ⟨u,h1,h2⟩:=Y1 hz ha hr h;exact ⟨u,by simp only [Instr.field,Sem.run_bind,run_underlying hu,Result.andThen_ok,hf,asAgg,Sem.run_pure];exact h1,h2⟩
def aoe {t e:yx} {sz k:Nat} {vx vi v:AV} {x i:ye} (hu:O.P.underlying t=some (.slice e)) (hz:cL O.P e=some sz) (hx:ai O.ah m S w vx x) (hi:ai O.ah m S w vi i)
  (hk:dD vi=some k)
  (h:gU sz k vx=some v):∃u,(Instr.indexAt t x i).run O.P w= .ok u w/\ai O.ah m S w v u:=by
 obtain ⟨kd,rfl⟩:=rM hi hk;have HW:∀(b o n c:Nat),k<n->(Instr.indexAt t (.slice (some ⟨b,o,none⟩) n c) (.int kd (k:Int))).run O.P w= .ok (.pointer (some ⟨b,o+k*sz,none⟩)) w:=by
  intro b o n c qM;have hr:(0:Int)<=(k:Int)/\(k:Int)<(n:Int):=by omega
  simp [Instr.indexAt,asIntOf,run_underlying hu,mB hz,hr,nM]
  grind
 cases vx<;>simp only [gU,reduceCtorEq] at h
 case aE id o n=>
  obtain ⟨p,c,hm,rfl,Jq,NR⟩:=hx
  cases hc:yI k n with
  | false=>rw [hc] at h;cases h
  | true=>
   rw [hc] at h;simp only [yy,yc] at h;subst h;have qM:k<n:=by simp_all
   exact ⟨_,HW _ _ _ _ qM,by simp only [ai];exact ⟨p,hm,by rw [um]⟩⟩
 case aH ex n cs=>
  rcases hx with ⟨b,o,c,rfl,Jq,hex,h2,h3,h4⟩ | ⟨a,rfl,rfl,rfl⟩
  case inr=>
   have:yI k 0=false:=by cases hq:yI k 0 with | false=>rfl | true=>simp only [yI,yby] at hq;omega
   grind
  cases hc:yI k n with
  | false=>rw [hc] at h;cases h
  | true=>
   rw [hc] at h;simp only [yy,yc] at h;subst h;have qM:k<n:=by simp_all
   exact ⟨_,HW _ _ _ _ qM,Pq h2 h3 h4⟩
def aof {t e:yx} {len sz k:Nat} {vx vi v:AV} {x i:ye} (hu:O.P.underlying t=some (.array len e)) (hz:cL O.P e=some sz) (hx:ai O.ah m S w vx x) (hi:ai O.ah m S w vi i)
  (hk:dD vi=some k)
  (h:HQ len sz k vx=some v):∃u,(Instr.indexAt t x i).run O.P w= .ok u w/\ai O.ah m S w v u:=by
 obtain ⟨kd,rfl⟩:=rM hi hk;have HW:∀(b o:Nat),k<len->(Instr.indexAt t (.pointer (some ⟨b,o,none⟩)) (.int kd (k:Int))).run O.P w= .ok (.pointer (some ⟨b,o+k*sz,none⟩)) w:=by
  intro b o qM;have hr:(0:Int)<=(k:Int)/\(k:Int)<(len:Int):=by omega
  simp [Instr.indexAt,asIntOf,run_underlying hu,mB hz,hr,nM,Instr.sureAddr]
  grind
 cases vx<;>simp only [HQ,reduceCtorEq] at h
 case ptr id o=>
  obtain ⟨p,hm,rfl⟩:=hx
  cases hc:yI k len with
  | false=>rw [hc] at h;cases h
  | true=>
   rw [hc] at h;simp only [yy,yc] at h;subst h;have qM:k<len:=by simp_all
   exact ⟨_,HW _ _ qM,by simp only [ai];exact ⟨p,hm,by rw [um]⟩⟩
 case aO cs=>
  obtain ⟨b,o,rfl,h2,h3,h4⟩:=hx
  cases hc:yI k len with
  | false=>rw [hc] at h;cases h
  | true=>
   rw [hc] at h;simp only [yy,yc] at h;subst h;have qM:k<len:=by simp_all
   exact ⟨_,HW _ _ qM,Pq h2 h3 h4⟩
def aog {t e:yx} {len sz k:Nat} {ag:Bool} {vx vi v:AV} {x i:ye} (hu:O.P.underlying t=some (.array len e)) (hz:cL O.P e=some sz) (ha:dE O.P e=some ag)
  (hx:ai O.ah m S w vx x) (hi:ai O.ah m S w vi i) (hk:dD vi=some k)
  (h:HR len sz ag k vx=some v):
  ∃u,(Instr.index t x i).run O.P w= .ok u w/\ai O.ah m S w v u:=by
 obtain ⟨kd,rfl⟩:=rM hi hk;cases vx<;>simp only [HR,reduceCtorEq] at h
 obtain ⟨xs,rfl,hr⟩:=hx
 cases hc:yI k len with
 | false=>rw [hc] at h;cases h
 | true=>
  rw [hc] at h;have qM:k<len:=by simp_all
  obtain ⟨u,h1,h2⟩:=Y1 hz ha hr h;have bY:(0:Int)<=(k:Int)/\(k:Int)<(len:Int):=by omega
  exact ⟨u,by simp [Instr.index,asIntOf,run_underlying hu,mB hz,bY,h1];intro hle;exact absurd hle (by omega),h2⟩
def aoh {t:yx} {k:Nat} {vx vi v:AV} {x i:ye} (hu:O.P.underlying t=some .string) (hx:ai O.ah m S w vx x) (hi:ai O.ah m S w vi i) (hk:dD vi=some k)
  (h:mf k vx=some v):
  ∃u,(Instr.index t x i).run O.P w= .ok u w/\ai O.ah m S w v u:=by
 obtain ⟨kd,rfl⟩:=rM hi hk;cases vx<;>simp only [mf,reduceCtorEq] at h
 obtain ⟨b,rfl,rfl⟩:=hx
 cases hs:(b.data.toList.map y7)[k]? with
 | none=>rw [hs] at h;cases h
 | some q=>
  rw [hs] at h;simp only [yc] at h;subst h;rw [List.getElem?_map] at hs
  cases hb:b.data.toList[k]? with
  | none=>rw [hb] at hs;cases hs
  | some c=>
   rw [hb] at hs;simp only [wu,yc] at hs;subst hs;have cO:b[k]? =some c:=by
    have a6:k<b.data.toList.length:=by
     grind
    have eF:k<b.size:=by simp_all
    rw [getElem?_pos b k eF];rw [List.getElem?_eq_getElem a6] at hb;rw [<-hb];rfl
   refine ⟨.int .u8 c.toNat,?_,by simp [ai]⟩;simp [Instr.index,asIntOf,run_underlying hu,cO]
end
end
end VE
