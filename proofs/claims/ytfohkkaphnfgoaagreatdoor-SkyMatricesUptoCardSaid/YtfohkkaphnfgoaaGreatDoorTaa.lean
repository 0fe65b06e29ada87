import GoSem.Core.Code
import GoSem.Core.Float
import GoSem.Core.Utf8
import Derived.CallsIn
import Derived.Laws.World
import GoSem.Op.Equal
import GoSem.Core.Region
import Derived.Below
import Derived.Laws.AppendOwn
import Derived.Laws.Rows
import Derived.WalkKit
import Derived.Laws.CopyRow
import Derived.Laws.Cells
import Derived.Laws.Strings
import Derived.Lib.Strings
import Derived.WideLaws
set_option linter.all false
set_option maxRecDepth 100000
open BitVec renaming ofInt→xN
open Bool renaming and_eq_true→ye,eq_iff_iff→uT,false_eq_true→yF
open Go renaming Addr→vZ,BinOp→wP,Code→wQ,Field→uF,FloatKind→vK,IntKind→yY,Oper→y8,Operand→xy,Program→xi,TypeId→yy,UnOp→ybx,Value→yf,World→yj,binOp→xP,sizeOf→vI
open Go.Utf8 renaming runeError→vP,valid→yag
open List renaming map_cons→yV,replicate→yG,take_succ_cons→wh
open Nat renaming add_assoc→uA,beq→yv,beq_eq→ybH,ble→yE,ble_eq→ybI,blt→yM,eq_of_beq_eq_true→yo,le_of_ble_eq_true→yu,le_refl→yr,le_trans→xn,testBit→uf
open Option renaming map_none→vE,map_some→wF
open Option.some renaming injEq→yc
open UInt8 renaming toNat→y9,toNat_inj→yah
def wL:=@and_true
def tU:=@beq_iff_eq
def tC:=@beq_self_eq_true
def yO:=@cond_false
def yz:=@cond_true
def yZ:=@decide_eq_false
def xo:=@decide_eq_true
def vd:=@decide_eq_true_eq
def yk:=@decide_false
def ym:=@decide_true
def ybl:=@false_or
def xh:=@if_false
def yA:=@if_neg
def yH:=@if_pos
def xm:=@if_true
def yaS:=@ne_eq
def tn:=@not_false_eq_true
def ui:=@not_true_eq_false
def uP:=@true_and
namespace VE
section
open Go (IntKind FloatKind BinOp UnOp)
inductive Fr where
 | f (n:Nat)
 | y (l:Nat)
 deriving DecidableEq,Inhabited
inductive AV where
 | int (k:yY) (n:Int)
 | bool (b:Bool)
 | du (k:vK) (bits:Nat)
 | str (s:List Nat)
 | lk
 | ptr (id off:Nat)
 | aQ (cells:List AV)
 | ab
 | aJ (ex:Bool) (n:Nat) (cells:List AV)
 | bW (ex:Bool) (sz n:Nat) (cells:List AV)
 | aC (id off n:Nat)
 | fn (f:Fr) (first cap:List AV)
 | iS
 | kH
 | map (id:Nat)
 | jN (ks vs:List AV)
 | it (id:Nat)
 | agg (cells:List AV)
 | au (vs:List AV)
 | undef
 deriving Inhabited
inductive X where
 | t (i:Nat)
 | c (v:AV)
 deriving Inhabited
inductive Conv where
 | toInt (k:yY)
 | toFlt (k:vK)
 | str
 deriving Inhabited
inductive Md where
 | pure | own | heap | dyn
 deriving Inhabited
inductive Cut where
 | str
 | sl (sz:Nat)
 | ar (len sz:Nat)
 deriving Inhabited
inductive PR where
 | b | sl | fn | ag (ks:List Nat)
 deriving Inhabited
inductive Op where
 | bV (x:X)
 | pick (c a b:X)
 | box (sz:Nat) (x:X)
 | df (zero:List AV) (parts:List (Nat×Nat×X))
 | bI (n sz:Nat) (zero:List AV) (parts:List (Nat×Nat×X))
 | ld (sz:Nat) (ag:Bool) (x:X)
 | st (sz:Nat) (x v:X)
 | J3 (x:X)
 | bin (op:wP) (x y:X)
 | eq (ne:Bool) (k:PR) (x y:X)
 | un (op:ybx) (x:X)
 | cv (k:Conv) (x:X)
 | rz (f:Fr) (first cap:List X)
 | sR
 | gU (sz bytes:Nat) (zero:List AV) (len cap:X)
 | dT (k:Cut) (x:X) (lo hi:Option X)
 | off (k:Nat) (x:X)
 | K0 (o sz:Nat) (ag:Bool) (x:X)
 | aZ (sz:Nat) (x i:X)
 | At (len sz:Nat) (x i:X)
 | lE (x i:X)
 | sS (len sz:Nat) (ag:Bool) (x i:X)
 | BY (kk:Nat) (zero:AV) (ok:Bool) (m k:X)
 | mS (kk:Nat) (m k v:X)
 | pU (x:X)
 | pV (x:X)
 | ext (i:Nat) (x:X)
 | call (m:Md) (f:X) (xs:List X)
 | jf (rs:List (Nat×Bool×Nat)) (f:X) (xs:List X)
 | jP (rs:List (Nat×Bool×Nat)) (sz:Nat) (x v:X)
 | cX (sz bytes:Nat) (s x:X)
 | pX (sz:Nat) (d s:X)
 | len (k:Nat) (x:X)
 | mn (xs:List X)
 | mx (xs:List X)
 deriving Inhabited
structure bh where
 dst:Option Nat
 guard:Option (Nat×Bool)
 op:Op
 deriving Inhabited
inductive VC where
 | skip
 | aM (ops:List bh)
 | seq (a b:VC)
 | cond (x:X) (a b:VC)
 | aE (id:Nat) (a:VC)
 | kp (live:List Nat)
 | fz (ts:List Nat)
 | loop (live:List Nat) (a:VC)
 | rf (f:X) (ps:List Nat) (assign body:VC)
 | exit (id:Nat)
 | ret
 deriving Inhabited
inductive RV where
 | t (i:Nat)
 | cell (i sz:Nat) (ag:Bool)
 deriving Inhabited
structure aD where
 dw:List RV
 body:VC
 deriving Inhabited
inductive z7 where
 | none | ret | exit (id:Nat)
 deriving Inhabited,DecidableEq
abbrev Env:=List (Nat×AV)
inductive Obj where
 | cells (rw pu ex:Bool) (sz:Nat) (cs:List AV)
 | mp (rw:Bool) (ks vs:List AV)
 | si (s:List Nat) (pos:Nat)
 | lp (tm:Env) (ps:List Nat) (assign body:VC) (state:Nat) (pending:z7)
 deriving Inhabited
abbrev Hp:=List (Nat×Obj)
structure St where
 tm:Env
 hp:Hp
 ct:Nat
 base:Nat
 deriving Inhabited
inductive Ex where
 | normal
 | ret
 | exit (id:Nat)
 deriving Inhabited,DecidableEq
def ah:Env->Nat->AV
 | [],_=> .undef
 | (j,v)::r,i=>bif yv j i then v else ah r i
def az:Hp->Nat->Option Obj
 | [],_=>none
 | (j,o)::r,i=>bif yv j i then some o else az r i
def bg:Hp->Nat->Obj->Hp
 | [],_,_=>[]
 | (j,o)::r,i,u=>bif yv j i then (j,u)::r else (j,o)::bg r i u
def eG:Hp->Nat->Hp
 | [],_=>[]
 | (j,o)::r,i=>bif yv j i then eG r i else (j,o)::eG r i
mutual
def aU:AV->Bool
 | .ptr _ _ | .aC _ _ _ | .map _ | .it _ | .bW _ _ _ _=>false
 | .fn (.y _) _ _=>false
 | .fn (.f _) first cap=>aH first&&aH cap
 | .agg cs=>aH cs
 | .au vs=>aH vs
 | _=>true
def aH:List AV->Bool
 | []=>true
 | v::r=>aU v&&aH r
end
def cellsOf:AV->List AV
 | .agg cs=>cs
 | v=>[v]
def bm:AV->Bool
 | .agg _ | .au _ | .undef | .bW _ _ _ _=>false
 | _=>true
def bO:List AV->Bool
 | []=>true
 | v::r=>bm v&&bO r
def aA (tm:Env):X->AV
 | .t i=>ah tm i
 | .c v=>v
def dC (tm:Env):List X->List AV
 | []=>[]
 | x::r=>aA tm x::dC tm r
def slice (o n:Nat) (cs:List AV):List AV:=(cs.drop o).take n
def over (o:Nat) (new cs:List AV):List AV:=cs.take o++new++cs.drop (o+new.length)
mutual
def freeze:Nat->Hp->AV->Option (AV×Hp)
 | 0,_,_=>none
 | n+1,hp,v=>
  match v with
  | .aC id o k=>
   match rQ n hp id with
   | some (ex,sz,cs,ap)=>
    bif yE (o+k*sz) cs.length then
     some (.aJ (ex&&yM 0 sz&&yv (o+k*sz) cs.length) k (slice o (k*sz) cs),ap)
    else none
   | none=>none
  | .ptr id o=>
   match rQ n hp id with
   | some (_,_,cs,ap)=>some (.aQ (cs.drop o),ap)
   | none=>none
  | .map id=>
   match az hp id with
   | some (.mp _ ks vs)=>bif aH ks&&aH vs then some (.jN ks vs,bg hp id (.mp false ks vs)) else none
   | _=>none
  | .fn (.f g) first cap=>
   match cC n hp first with
   | some (ab3,bB)=>
    match cC n bB cap with
    | some (OF,eJ)=>some (.fn (.f g) ab3 OF,eJ)
    | none=>none
   | none=>none
  | .agg cs=>match cC n hp cs with | some (ej,ap)=>some (.agg ej,ap) | none=>none
  | .au cs=>match cC n hp cs with | some (ej,ap)=>some (.au ej,ap) | none=>none
  | v=>bif aU v then some (v,hp) else none
def rQ:Nat->Hp->Nat->Option (Bool×Nat×List AV×Hp)
 | 0,_,_=>none
 | n+1,hp,id=>
  match az hp id with
  | some (.cells rw pu ex sz cs)=>
   bif pu then some (ex,sz,cs,bif rw then bg hp id (.cells false true ex sz cs) else hp)
   else match cC n hp cs with
    | some (ej,ap)=>some (ex,sz,ej,bg ap id (.cells false false ex sz cs))
    | none=>none
  | _=>none
def cC:Nat->Hp->List AV->Option (List AV×Hp)
 | 0,_,_=>none
 | _+1,hp,[]=>some ([],hp)
 | n+1,hp,v::r=>
  match freeze n hp v with
  | some (v',bB)=>
   match cC n bB r with
   | some (r',eJ)=>some (v'::r',eJ)
   | none=>none
  | none=>none
end
def qU (n:Nat) (hp:Hp) (v:AV):Option (AV×Hp):=
 match v with
 | .aC id o k=>
  match az hp id with
  | some (.cells true true ex sz cs)=>
   bif yE (o+k*sz) cs.length then
    some (.bW (ex&&yM 0 sz&&yv (o+k*sz) cs.length) sz k (slice o (k*sz) cs),eG hp id)
   else none
  | _=>freeze n hp v
 | _=>freeze n hp v
def Fi:List AV->Option (List Nat)
 | []=>some []
 | .aC id _ _::r=>match Fi r with | some l=>bif l.any (yv id) then none else some (id::l) | none=>none
 | v::r=>bif aU v then Fi r else none
def zF (n:Nat):Hp->List AV->Option (List AV×Hp)
 | hp,[]=>some ([],hp)
 | hp,v::r=>
  match qU n hp v with
  | some (v',bB)=>match zF n bB r with | some (r',eJ)=>some (v'::r',eJ) | none=>none
  | none=>none
def deep:Nat:=1000
def result (hp:Hp) (v:AV):Option AV:=
 match v with
 | .au vs=>
  match Fi vs with
  | some _=>match zF deep hp vs with | some (dL,_)=>some (.au dL) | none=>none
  | none=>match freeze deep hp v with | some (v',_)=>some v' | none=>none
 | v=>match qU deep hp v with | some (v',_)=>some v' | none=>none
def bG:AV->AV
 | .bW ex _ n cs=> .aJ ex n cs
 | v=>v
def Dq:List AV->List AV
 | []=>[]
 | v::r=>bG v::Dq r
def shut:AV->AV
 | .bW ex _ n cs=> .aJ ex n cs
 | .au vs=> .au (Dq vs)
 | v=>v
def fA (hp:Hp) (ct:Nat):AV->AV×Hp×Nat
 | .bW ex sz n cs=>(.aC ct 0 n,(ct,.cells true true ex sz cs)::hp,ct+1)
 | v=>(v,hp,ct)
def jO:Hp->Nat->List AV->List AV×Hp×Nat
 | hp,ct,[]=>([],hp,ct)
 | hp,ct,v::r=>((fA hp ct v).1::(jO (fA hp ct v).2.1 (fA hp ct v).2.2 r).1,(jO (fA hp ct v).2.1 (fA hp ct v).2.2 r).2)
def own (hp:Hp) (ct:Nat):AV->AV×Hp×Nat
 | .au vs=>(.au (jO hp ct vs).1,(jO hp ct vs).2)
 | v=>fA hp ct v
mutual
def refs:AV->List Nat
 | .ptr id _=>[id]
 | .aC id _ _=>[id]
 | .map id=>[id]
 | .it id=>[id]
 | .fn (.f _) first cap=>iO first++iO cap
 | .fn (.y l) _ _=>[l]
 | .agg cs=>iO cs
 | .au cs=>iO cs
 | _=>[]
def iO:List AV->List Nat
 | []=>[]
 | v::r=>refs v++iO r
end
def jx:Env->List Nat
 | []=>[]
 | (_,v)::r=>refs v++jx r
def od:Obj->List Nat
 | .cells _ pu _ _ cs=>bif pu then [] else iO cs
 | .mp _ ks vs=>iO ks++iO vs
 | .si _ _=>[]
 | .lp tm _ _ _ _ _=>jx tm
mutual
def bZ (f:Nat->Option Nat):AV->AV
 | .ptr id o=>match f id with | some j=> .ptr j o | none=> .undef
 | .aC id o n=>match f id with | some j=> .aC j o n | none=> .undef
 | .map id=>match f id with | some j=> .map j | none=> .undef
 | .it id=>match f id with | some j=> .it j | none=> .undef
 | .fn (.f g) first cap=> .fn (.f g) (fB f first) (fB f cap)
 | .fn (.y l) first cap=>match f l with | some j=> .fn (.y j) (fB f first) (fB f cap) | none=> .undef
 | .agg cs=> .agg (fB f cs)
 | .au cs=> .au (fB f cs)
 | v=>v
def fB (f:Nat->Option Nat):List AV->List AV
 | []=>[]
 | v::r=>bZ f v::fB f r
end
def ll (f:Nat->Option Nat):Env->Env
 | []=>[]
 | (i,v)::r=>(i,bZ f v)::ll f r
def lz (f:Nat->Option Nat):Obj->Obj
 | .cells rw pu ex sz cs=> .cells rw pu ex sz (bif pu then cs else fB f cs)
 | .mp rw ks vs=> .mp rw (fB f ks) (fB f vs)
 | .si s pos=> .si s pos
 | .lp tm ps cK body st pe=> .lp (ll f tm) ps cK body st pe
def eh (tm:Env):List Nat->Env
 | []=>[]
 | i::r=>(i,ah tm i)::eh tm r
def lP (i:Nat):List Nat->Bool
 | []=>false
 | j::r=>bif yv j i then true else lP i r
def reach (hp:Hp) (base:Nat):Nat->List Nat->List Nat->List Nat
 | 0,_,seen=>seen
 | _+1,[],seen=>seen
 | n+1,id::jg,seen=>
  bif yM id base||lP id seen then reach hp base n jg seen
  else match az hp id with
   | some o=>reach hp base n (od o++jg) (seen++[id])
   | none=>reach hp base n jg seen
def jt (base:Nat):Hp->List Nat
 | []=>[]
 | (id,o)::r=>bif yM id base then od o++jt base r else jt base r
def lQ (i:Nat):List Nat->Nat->Option Nat
 | [],_=>none
 | j::r,k=>bif yv j i then some k else lQ i r (k+1)
def kU (base:Nat) (seen:List Nat) (id:Nat):Option Nat:=bif yM id base then some id else lQ id seen base
def my (base:Nat) (f:Nat->Option Nat):Hp->Hp
 | []=>[]
 | (id,o)::r=>bif yM id base then (id,lz f o)::my base f r else my base f r
def kV (hp:Hp) (f:Nat->Option Nat):List Nat->Nat->Hp->Hp
 | [],_,acc=>acc
 | id::r,k,acc=>match az hp id with | some o=>kV hp f r (k+1) ((k,lz f o)::acc) | none=>kV hp f r (k+1) acc
def aT (live:List Nat) (s:St):St:=
 let tm:=eh s.tm live
 let seen:=reach s.hp s.base 100000 (jx tm++jt s.base s.hp) []
 let f:=kU s.base seen
 {tm:=ll f tm,hp:=kV s.hp f seen s.base (my s.base f s.hp),ct:=s.base+seen.length,base:=s.base}
def qQ (hp:Hp) (sz:Nat):AV->Option (Nat×List AV)
 | .ab=>some (0,[])
 | .aJ _ n cs=>bif yv cs.length (n*sz) then some (n,cs) else none
 | .aC id o n=>
  match az hp id with
  | some (.cells _ _ _ _ cs)=>bif yE (o+n*sz) cs.length then some (n,slice o (n*sz) cs) else none
  | _=>none
 | _=>none
def Nt:List Nat->List AV
 | []=>[]
 | b::r=> .int .u8 b::Nt r
def BZ:List Nat->List Nat->Bool
 | _,[]=>false
 | [],_::_=>true
 | a::x,b::y=>yM a b||(yv a b&&BZ x y)
def cI:List Nat->List Nat->Bool
 | [],[]=>true
 | a::x,b::y=>yv a b&&cI x y
 | _,_=>false
def dY:List Nat->List AV->List AV->Option Bool
 | [],[],[]=>some true
 | 0::ks,.bool a::x,.bool b::y=>match dY ks x y with | some r=>some ((a==b)&&r) | none=>none
 | 1::ks,.int k a::x,.int k' b::y=>if k=k' then (match dY ks x y with | some r=>some ((a==b)&&r) | none=>none) else none
 | 2::ks,.str a::x,.str b::y=>match dY ks x y with | some r=>some (cI a b&&r) | none=>none
 | _,_,_=>none
def jz:PR->AV->AV->Option Bool
 | .b,.bool a,.bool b=>some (a==b)
 | .sl,.ab,.ab=>some true
 | .sl,.ab,.aJ _ _ _=>some false
 | .sl,.ab,.aC _ _ _=>some false
 | .sl,.aJ _ _ _,.ab=>some false
 | .sl,.aC _ _ _,.ab=>some false
 | .fn,.iS,.iS=>some true
 | .fn,.iS,.fn _ _ _=>some false
 | .fn,.fn _ _ _,.iS=>some false
 | .ag ks,.agg a,.agg b=>dY ks a b
 | _,_,_=>none
def intCmp (op:wP) (x y:Int):Option Bool:=
 match op with
 | .eql=>some (x==y)
 | .neq=>some (x !=y)
 | .lss=>some (decide (x<y))
 | .leq=>some (decide (x<=y))
 | .gtr=>some (decide (x>y))
 | .geq=>some (decide (x>=y))
 | _=>none
def lM (op:wP) (k:yY) (x y:Int):Option AV:=
 match op with
 | .add=>some (.int k (k.wrap (x+y)))
 | .sub=>some (.int k (k.wrap (x-y)))
 | .mul=>some (.int k (k.wrap (x*y)))
 | .quo=>if y=0 then none else some (.int k (k.wrap (x.tdiv y)))
 | .rem=>if y=0 then none else some (.int k (x.tmod y))
 | .and=>some (.int k (k.wrap (xN k.bits x&&&xN k.bits y).toNat))
 | .or=>some (.int k (k.wrap (xN k.bits x|||xN k.bits y).toNat))
 | .xor=>some (.int k (k.wrap (xN k.bits x^^^xN k.bits y).toNat))
 | .andNot=>some (.int k (k.wrap (xN k.bits x&&&~~~(xN k.bits y)).toNat))
 | .shl | .shr=>none
 | op=>match intCmp op x y with | some b=>some (.bool b) | none=>none
def CS (op:wP) (k:yY) (x y:Int):Option AV:=
 if y<0 then none else
 match op with
 | .shl=>some (.int k (k.wrap (x*2^(min y.toNat k.bits))))
 | .shr=>some (.int k (x.fdiv (2^(min y.toNat k.bits))))
 | _=>none
def JD (op:wP) (x y:List Nat):Option AV:=
 match op with
 | .add=>bif yE (x.length+y.length) 9223372036854775807 then some (.str (x++y)) else none
 | .eql=>some (.bool (cI x y))
 | .neq=>some (.bool (!cI x y))
 | .lss=>some (.bool (BZ x y))
 | .leq=>some (.bool (BZ x y||cI x y))
 | .gtr=>some (.bool (!(BZ x y||cI x y)))
 | .geq=>some (.bool (!BZ x y))
 | _=>none
def TN (op:wP) (k:vK) (x y:Nat):Option AV:=
 let c:=k.format.order x y
 let ar (r:Option Nat):Option AV:=match r with | some b=>some (.du k b) | none=>none
 match op with
 | .add=>ar (k.format.add x y)
 | .sub=>ar (k.format.sub x y)
 | .mul=>ar (k.format.mul x y)
 | .quo=>ar (k.format.div x y)
 | .eql=>some (.bool (c==some .eq))
 | .neq=>some (.bool (c !=some .eq))
 | .lss=>some (.bool (c==some .lt))
 | .leq=>some (.bool (c==some .lt||c==some .eq))
 | .gtr=>some (.bool (c==some .gt))
 | .geq=>some (.bool (c==some .gt||c==some .eq))
 | _=>none
def binOp (op:wP) (x y:AV):Option AV:=
 match x,y with
 | .int k a,.int k' b=>
  match op with
  | .shl | .shr=>CS op k a b
  | _=>if k=k' then lM op k a b else none
 | .du k a,.du k' b=>if k=k' then TN op k a b else none
 | .str a,.str b=>JD op a b
 | _,_=>none
def unOp (op:ybx) (x:AV):Option AV:=
 match op,x with
 | .neg,.int k n=>some (.int k (k.wrap (0-n)))
 | .xor,.int k n=>lM .xor k (if k.signed then -1 else k.max) n
 | .not,.bool b=>some (.bool !b)
 | .neg,.du k b=>some (.du k (b^^^2^(k.format.exponentBits+k.format.fractionBits)))
 | _,_=>none
def pK (c:Conv) (x:AV):Option AV:=
 match c,x with
 | .toInt k,.int _ n=>some (.int k (k.wrap n))
 | .toFlt k,.int _ n=>some (.du k (k.nearest n))
 | .toInt k,.du s b=>
  match (s.decode b).toInt .zero with
  | some n=>if k.min<=n/\n<=k.max then some (.int k n) else none
  | none=>none
 | .toFlt k,.du s b=>
  if s=k then some (.du k b) else
  match s.decode b with
  | .number sg m e=>if (k.decode (k.encode (.number sg m e))).isInfinity then none else some (.du k (k.encode (.number sg m e)))
  | _=>none
 | .str,.str s=>some (.str s)
 | _,_=>none
def fD (sz:Nat) (ag:Bool) (cs:List AV):Option AV:=
 bif ag then (bif yE sz cs.length then some (.agg (cs.take sz)) else none)
 else match cs with | v::_=>some v | []=>none
def dE (x:AV):Option Nat:=
 match x with
 | .int _ n=>match n with | .ofNat k=>some k | .negSucc _=>none
 | _=>none
def cP (tm:Env) (d:Nat):Option X->Option Nat
 | none=>some d
 | some x=>dE (aA tm x)
def fh (hp:Hp) (k:Cut) (x:AV) (tm:Env) (lo hi:Option X):Option AV:=
 match k,x with
 | .str,.str s=>
  match cP tm 0 lo,cP tm s.length hi with
  | some l,some h=>bif yE l h&&yE h s.length then some (.str ((s.take h).drop l)) else none
  | _,_=>none
 | .sl _,.ab=>
  match cP tm 0 lo,cP tm 0 hi with
  | some 0,some 0=>some .ab
  | _,_=>none
 | .sl sz,.aJ ex n cs=>
  match cP tm 0 lo,cP tm n hi with
  | some l,some h=>bif yE l h&&yE h n then some (.aJ (ex&&yv h n) (h-l) (slice (l*sz) ((h-l)*sz) cs)) else none
  | _,_=>none
 | .sl sz,.aC id o n=>
  match az hp id with
  | some (.cells _ _ _ z _)=>
   match cP tm 0 lo,cP tm n hi with
   | some l,some h=>
    bif yE l h&&yE h n&&yv z sz then
     bif yv l h&& !yv l 0 then some (.aJ false 0 []) else some (.aC id (o+l*sz) (h-l))
    else none
   | _,_=>none
  | _=>none
 | _,_=>none
def fill (tm:Env):List AV->List (Nat×Nat×X)->Option (List AV)
 | cs,[]=>some cs
 | cs,(o,sz,x)::r=>
  let new:=cellsOf (aA tm x)
  bif yv new.length sz&&yE (o+sz) cs.length&&bO new then fill tm (over o new cs) r else none
def so:AV->AV->Option Bool
 | .int k a,.int k' b=>if k=k' then some (a==b) else none
 | .str a,.str b=>some (cI a b)
 | .bool a,.bool b=>some (a==b)
 | _,_=>none
def qR:Nat->AV->Bool
 | 0,.bool _=>true
 | 1,.int _ _=>true
 | 2,.str _=>true
 | _,_=>false
def ss (k:AV):List AV->List AV->Option (Option AV)
 | [],_=>some none
 | k'::ks,v::vs=>match so k k' with | some true=>some (some v) | some false=>ss k ks vs | none=>none
 | _::_,[]=>none
def q9 (k v:AV):List AV->List AV->Option (List AV×List AV)
 | [],[]=>some ([k],[v])
 | k'::ks,u::us=>
  match so k k' with
  | some true=>some (k'::ks,v::us)
  | some false=>match q9 k v ks us with | some (iW,K1)=>some (k'::iW,u::K1) | none=>none
  | none=>none
 | _,_=>none
def min2:AV->AV->Option AV
 | .int k x,.int _ y=>some (.int k (if y<x then y else x))
 | .du k x,.du _ y=>
  match k.format.order x y with
  | none=>none
  | some .lt=>some (.du k x)
  | some .gt=>some (.du k y)
  | some .eq=>some (.du k (if (k.decode x).neg then x else y))
 | _,_=>none
def max2:AV->AV->Option AV
 | .int k x,.int _ y=>some (.int k (if y>x then y else x))
 | .du k x,.du _ y=>
  match k.format.order x y with
  | none=>none
  | some .lt=>some (.du k y)
  | some .gt=>some (.du k x)
  | some .eq=>some (.du k (if (k.decode x).neg then y else x))
 | _,_=>none
def Bo (f:AV->AV->Option AV):AV->List AV->Option AV
 | a,[]=>some a
 | a,b::r=>match f a b with | some c=>Bo f c r | none=>none
def room:Nat:=1099511627776
abbrev gV:=Option (AV×Hp×Nat)
def ic (hp:Hp) (sz:Nat) (ag:Bool):AV->Option AV
 | .ptr id o=>match az hp id with | some (.cells _ _ _ _ cs)=>fD sz ag (cs.drop o) | _=>none
 | .aQ cs=>fD sz ag cs
 | _=>none
def Dr (k:Nat):AV->Option AV
 | .ptr id o=>some (.ptr id (o+k))
 | .aQ cs=>bif yE k cs.length then some (.aQ (cs.drop k)) else none
 | _=>none
def N6 (o sz:Nat) (ag:Bool):AV->Option AV
 | .agg cs=>fD sz ag (cs.drop o)
 | _=>none
def hZ (sz i:Nat):AV->Option AV
 | .aC id o n=>bif yM i n then some (.ptr id (o+i*sz)) else none
 | .aJ _ n cs=>bif yM i n then some (.aQ (cs.drop (i*sz))) else none
 | _=>none
def JE (len sz i:Nat):AV->Option AV
 | .ptr id o=>bif yM i len then some (.ptr id (o+i*sz)) else none
 | .aQ cs=>bif yM i len then some (.aQ (cs.drop (i*sz))) else none
 | _=>none
def nt (i:Nat):AV->Option AV
 | .str s=>match s[i]? with | some b=>some (.int .u8 b) | none=>none
 | _=>none
def JF (len sz:Nat) (ag:Bool) (i:Nat):AV->Option AV
 | .agg cs=>bif yM i len then fD sz ag (cs.drop (i*sz)) else none
 | _=>none
def kW (hp:Hp) (k:AV):AV->Option (Option AV)
 | .kH=>some none
 | .map id=>match az hp id with | some (.mp _ ks vs)=>ss k ks vs | _=>none
 | .jN ks vs=>ss k ks vs
 | _=>none
def ia (hp:Hp):Nat->AV->Option AV
 | 0,.str s=>some (.int .i64 s.length)
 | 1,.ab=>some (.int .i64 0)
 | 1,.aJ _ n _=>some (.int .i64 n)
 | 1,.aC _ _ n=>some (.int .i64 n)
 | 2,.kH=>some (.int .i64 0)
 | 2,.jN ks _=>some (.int .i64 ks.length)
 | 2,.map id=>match az hp id with | some (.mp _ ks _)=>some (.int .i64 ks.length) | _=>none
 | _,_=>none
def bE (tm:Env) (hp:Hp):Op->Option AV
 | .bV x=>some (aA tm x)
 | .pick c a b=>match aA tm c with | .bool t=>some (bif t then aA tm a else aA tm b) | _=>none
 | .df zero parts=>match fill tm zero parts with | some cs=>some (.agg cs) | none=>none
 | .ld sz ag x=>ic hp sz ag (aA tm x)
 | .J3 x=>
  match aA tm x with
  | .ptr id o=>some (.ptr id o)
  | .aQ cs=>some (.aQ cs)
  | .fn f a b=>some (.fn f a b)
  | _=>none
 | .bin op x y=>binOp op (aA tm x) (aA tm y)
 | .eq ne k x y=>match jz k (aA tm x) (aA tm y) with | some r=>some (.bool (ne !=r)) | none=>none
 | .un op x=>unOp op (aA tm x)
 | .cv k x=>pK k (aA tm x)
 | .rz f first cap=>some (.fn f (dC tm first) (dC tm cap))
 | .dT k x lo hi=>fh hp k (aA tm x) tm lo hi
 | .off k x=>Dr k (aA tm x)
 | .K0 o sz ag x=>N6 o sz ag (aA tm x)
 | .aZ sz x i=>match dE (aA tm i) with | some j=>hZ sz j (aA tm x) | none=>none
 | .At len sz x i=>match dE (aA tm i) with | some j=>JE len sz j (aA tm x) | none=>none
 | .lE x i=>match dE (aA tm i) with | some j=>nt j (aA tm x) | none=>none
 | .sS len sz ag x i=>match dE (aA tm i) with | some j=>JF len sz ag j (aA tm x) | none=>none
 | .BY kk zero ok m k=>
  bif qR kk (aA tm k) then
   match kW hp (aA tm k) (aA tm m) with
   | some (some v)=>some (bif ok then .au [v,.bool true] else v)
   | some none=>some (bif ok then .au [zero,.bool false] else zero)
   | none=>none
  else none
 | .ext i x=>match aA tm x with | .au vs=>vs[i]? | _=>none
 | .len k x=>ia hp k (aA tm x)
 | .mn xs=>match dC tm xs with | a::r=>Bo min2 a r | []=>none
 | .mx xs=>match dC tm xs with | a::r=>Bo max2 a r | []=>none
 | _=>none
def cT (tm:Env) (hp:Hp) (ct:Nat):Op->Option (AV×Obj)
 | .box sz x=>
  let cs:=cellsOf (aA tm x)
  bif yv cs.length sz&&bO cs then some (.ptr ct 0,.cells true (aH cs) true sz cs) else none
 | .bI n sz zero parts=>
  match fill tm zero parts with
  | some cs=>bif yv cs.length (n*sz) then some (.aC ct 0 n,.cells true (aH cs) true sz cs) else none
  | none=>none
 | .gU sz bytes zero len cap=>
  match dE (aA tm len),dE (aA tm cap) with
  | some l,some c=>
   bif yE l c&&(yE c room&&(yE (c*bytes) room&&(yv zero.length sz&&bO zero))) then
    some (.aC ct 0 l,.cells true (aH zero) (yv l c) sz (yG l zero).flatten)
   else none
  | _,_=>none
 | .sR=>some (.map ct,.mp true [] [])
 | .pU x=>match aA tm x with | .str s=>some (.it ct,.si s 0) | _=>none
 | _=>none
def decodeL (s:List Nat) (i:Nat):Nat×Nat:=
 let at' (k:Nat):Nat:=s.getD (i+k) 0
 let cont (k:Nat):Bool:=decide (i+k<s.length)&&at' k/64==2
 let b0:=at' 0
 if b0<0x80 then (b0,1)
 else if b0/32==6&&cont 1 then
  let c:=(b0%32)*64+at' 1%64
  if c>=0x80 then (c,2) else (vP,1)
 else if b0/16==14&&cont 1&&cont 2 then
  let c:=(b0%16)*4096+(at' 1%64)*64+at' 2%64
  if c>=0x800&&yag c then (c,3) else (vP,1)
 else if b0/8==30&&cont 1&&cont 2&&cont 3 then
  let c:=(b0%8)*262144+(at' 1%64)*4096+(at' 2%64)*64+at' 3%64
  if c>=0x10000&&yag c then (c,4) else (vP,1)
 else (vP,1)
def zK (hp:Hp) (sz:Nat):AV->Option (Nat×List AV)
 | .str b=>bif yv sz 1 then some (b.length,Nt b) else none
 | v=>qQ hp sz v
def db (tm:Env) (hp:Hp) (ct:Nat):Op->gV
 | .st sz x v=>
  let new:=cellsOf (aA tm v)
  match aA tm x with
  | .ptr id o=>
   match az hp id with
   | some (.cells true pu ex z cs)=>
    bif yv new.length sz&&yE (o+sz) cs.length&&bO new then
     some (.au [],bg hp id (.cells true (pu&&aH new) ex z (over o new cs)),ct)
    else none
   | _=>none
  | _=>none
 | .mS kk m k v=>
  match aA tm m with
  | .map id=>
   match az hp id with
   | some (.mp true ks vs)=>bif !qR kk (aA tm k) then none else match q9 (aA tm k) (aA tm v) ks vs with | some (iW,dL)=>some (.au [],bg hp id (.mp true iW dL),ct) | none=>none
   | _=>none
  | _=>none
 | .pV x=>
  match aA tm x with
  | .it id=>
   match az hp id with
   | some (.si s pos)=>
    bif yM pos s.length then
     match decodeL s pos with
     | (c,wd)=>some (.au [.bool true,.int .i64 pos,.int .i32 c],bg hp id (.si s (pos+wd)),ct)
    else some (.au [.bool false],hp,ct)
   | _=>none
  | _=>none
 | .cX sz bytes s x=>
  match zK hp sz (aA tm x) with
  | none=>none
  | some (m,new)=>
   match aA tm s with
   | .ab=>
    bif yv m 0 then some (.ab,hp,ct)
    else bif yE m room&&(yE (m*bytes) room&&yM 0 sz) then some (.aC ct 0 m,(ct,.cells true (aH new) false sz new)::hp,ct+1) else none
   | .aJ true n cs=>
    bif yv m 0 then some (.aJ true n cs,hp,ct)
    else bif yE (n+m) room&&(yE ((n+m)*bytes) room&&(yv cs.length (n*sz)&&yM 0 sz)) then some (.aC ct 0 (n+m),(ct,.cells true (aH cs&&aH new) false sz (cs++new))::hp,ct+1) else none
   | .aC id o n=>
    match az hp id with
    | some (.cells true pu _ z cs)=>
     bif yv z sz&&(yE (n+m) room&&(yE ((n+m)*bytes) room&&(yE (o+n*sz) cs.length&&(yM 0 sz&&bO new)))) then
      some (.aC ct 0 (n+m),(ct,.cells true (pu&&aH new) false sz (slice o (n*sz) cs++new))::eG hp id,ct+1)
     else none
    | _=>none
   | _=>none
 | .pX sz d s=>
  match qQ hp sz (aA tm s),aA tm d with
  | some (m,new),.aC id o n=>
   match az hp id with
   | some (.cells true pu ex z cs)=>
    bif yv z sz&&(yE (o+n*sz) cs.length&&bO new) then
     some (.int .i64 (min m n:Nat),bg hp id (.cells true (pu&&aH new) ex z (over o (new.take (min m n*sz)) cs)),ct)
    else none
   | _=>none
  | _,_=>none
 | _=>none
def jJ:X->List Nat | .t i=>[i] | .c _=>[]
def zL:List X->List Nat
 | []=>[]
 | x::r=>jJ x++zL r
def JG:Option X->List Nat | some x=>jJ x | none=>[]
def JH:List (Nat×Nat×X)->List Nat
 | []=>[]
 | (_,_,x)::r=>jJ x++JH r
def kT:Op->List Nat
 | .bV x | .box _ x | .ld _ _ x | .J3 x | .un _ x | .cv _ x | .off _ x | .K0 _ _ _ x | .pU x | .pV x | .ext _ x | .len _ x=>jJ x
 | .pick a b c | .mS _ a b c=>jJ a++(jJ b++jJ c)
 | .df _ ps | .bI _ _ _ ps=>JH ps
 | .st _ a b | .bin _ a b | .eq _ _ a b | .aZ _ a b | .At _ _ a b | .lE a b | .sS _ _ _ a b | .BY _ _ _ a b | .cX _ _ a b | .pX _ a b=>jJ a++jJ b
 | .rz _ a b=>zL a++zL b
 | .sR=>[]
 | .gU _ _ _ a b=>jJ a++jJ b
 | .dT _ x a b=>jJ x++(JG a++JG b)
 | .call _ f xs=>jJ f++zL xs
 | .jf _ f xs=>jJ f++zL xs
 | .jP _ _ a b=>jJ a++jJ b
 | .mn xs | .mx xs=>zL xs
def bF:Op->Nat
 | .bV _ | .pick _ _ _ | .df _ _ | .J3 _ | .bin _ _ _ | .eq _ _ _ _ | .un _ _ | .cv _ _ | .rz _ _ _ | .off _ _ | .K0 _ _ _ _ | .aZ _ _ _ | .At _ _ _ _ | .lE _ _ | .sS _ _ _ _ _ | .ext _ _ | .mn _ | .mx _=>0
 | .dT .str _ _ _ | .len 0 _ | .len 1 _=>0
 | .st _ _ _ | .mS _ _ _ _ | .pV _ | .cX _ _ _ _ | .pX _ _ _ | .jf _ _ _ | .jP _ _ _ _ | .call .heap _ _ | .call .dyn _ _=>2
 | _=>1
def TO:Option (Nat×Bool)->List Nat | some (t,_)=>[t] | none=>[]
def CZ (o:bh):List Nat:=TO o.guard++kT o.op
def FZ (d:Option Nat) (l:List Nat):Bool:=match d with | some i=>lP i l | none=>false
def adI (d e:Option Nat):Bool:=match d,e with | some i,some j=>yv i j | _,_=>false
def M4 (a b:bh):Bool:=FZ a.dst (CZ b)||FZ b.dst (CZ a)||adI a.dst b.dst
def F0 (sz:Nat) (ag:Bool) (t:Nat):List (Nat×Bool×Nat)->Bool
 | []=>false
 | (s,g,u)::r=>(yv s sz&&(g==ag&&yv u t))||F0 sz ag t r
def FO (t:Nat):List bh->Bool
 | []=>true
 | o::r=> !FZ o.dst [t]&&FO t r
def IY (a b:bh) (r:List bh):Bool:=
 match a.guard,a.op,b.op with
 | none,.ld sz ag (.t t),.jf rs _ _=>F0 sz ag t rs&&FO t (a::r)
 | none,.ld sz ag (.t t),.jP rs _ _ _=>F0 sz ag t rs&&FO t (a::r)
 | _,_,_=>false
def IA (a b:bh):Bool:=
 match bF a.op,bF b.op with
 | 1,2 | 2,1 | 2,2=>true
 | _,_=>false
def M5 (m:Nat) (b:bh):List bh->Nat->Bool
 | [],_=>true
 | a::r,i=>(uf m i|| !(M4 a b||(IA a b&& !IY a b r)))&&M5 m b r (i+1)
def E6 (done:List bh):List bh->List Nat->Bool
 | [],_=>true
 | b::r,m::ms=>M5 m b done 0&&E6 (done++[b]) r ms
 | _::_,[]=>false
def Nv (m:Nat):List bh->Nat->List (Nat×Bool×Nat)
 | [],_=>[]
 | a::r,i=>
  match uf m i,a with
  | false,⟨_,none,.ld sz ag (.t t)⟩=>(sz,ag,t)::Nv m r (i+1)
  | _,_=>Nv m r (i+1)
def stOp (rs:List (Nat×Bool×Nat)) (sz:Nat) (x v:X):Op:=match rs with | []=> .st sz x v | rs=> .jP rs sz x v
def zR (done:List bh):List bh->List Nat->List bh
 | ⟨d,g,.jf _ f xs⟩::r,m::ms=>let o:bh:=⟨d,g,.jf (Nv m done 0) f xs⟩;o::zR (done++[o]) r ms
 | ⟨d,g,.st sz x v⟩::r,m::ms=>let o:bh:=⟨d,g,stOp (Nv m done 0) sz x v⟩;o::zR (done++[o]) r ms
 | o::r,_::ms=>o::zR (done++[o]) r ms
 | l,_=>l
abbrev aG:=Nat->Option aD
structure Lib where
 pure:Nat->Option (List AV->Option AV)
 heap:Nat->Option (Hp->Nat->List AV->gV)
abbrev cD:=VC->St->Option (Ex×St)
def fL:Nat->List AV->Env
 | _,[]=>[]
 | i,v::r=>(i,v)::fL (i+1) r
def results1 (s:St):RV->Option AV
 | .t i=>some (ah s.tm i)
 | .cell i sz ag=>
  match ah s.tm i with
  | .ptr id o=>match az s.hp id with | some (.cells _ _ _ _ cs)=>fD sz ag (cs.drop o) | _=>none
  | .aQ cs=>fD sz ag cs
  | _=>none
def lK (s:St):List RV->Option (List AV)
 | []=>some []
 | r::rest=>match results1 s r,lK s rest with | some v,some vs=>some (v::vs) | _,_=>none
def jb (s:St) (rs:List RV):Option AV:=
 match lK s rs with
 | some [v]=>some v
 | some vs=>some (.au vs)
 | none=>none
def bQ (P:aG) (L:Lib) (self:cD) (n:Nat) (aq:List AV):Option AV:=
 match L.pure n with
 | some sp=>sp aq
 | none=>
  match P n with
  | none=>none
  | some F=>
   match self F.body ⟨fL 0 aq,[],0,0⟩ with
   | some (.normal,s) | some (.ret,s)=>match jb s F.dw with | some v=>result s.hp v | none=>none
   | _=>none
def Tf:Ex->z7
 | .normal=> .none
 | .ret=> .ret
 | .exit id=> .exit id
def rY:Env->List Nat->List AV->Option Env
 | tm,[],[]=>some tm
 | tm,p::ps,v::vs=>rY ((p,v)::tm) ps vs
 | _,_,_=>none
def je (P:aG) (L:Lib) (self:cD) (hp:Hp) (ct:Nat) (n:Nat) (aq:List AV):gV:=
 match L.heap n with
 | some sp=>sp hp ct aq
 | none=>
  match P n with
  | none=>none
  | some F=>
   match self F.body ⟨fL 0 aq,hp,ct,ct⟩ with
   | some (.normal,s) | some (.ret,s)=>match jb s F.dw with | some v=>some (v,s.hp,s.ct) | none=>none
   | _=>none
def nX (self:cD) (hp:Hp) (ct:Nat) (l:Nat) (xs:List AV):gV:=
 match az hp l with
 | some (.lp tm ps cK body 0 _)=>
  match rY tm ps xs with
  | none=>none
  | some cu=>
   match self cK ⟨cu,hp,ct,ct⟩ with
   | some (.normal,s1)=>
    match az s1.hp l with
    | some (.lp jQ D6 D7 Ds 0 Au)=>
     match self body ⟨s1.tm,bg s1.hp l (.lp jQ D6 D7 Ds 1 Au),s1.ct,s1.ct⟩ with
     | some (ex,s2)=>
      match az s2.hp l with
      | some (.lp sT K2 K3 JI 1 _)=>
       match ex with
       | .normal=>some (.bool true,bg s2.hp l (.lp sT K2 K3 JI 0 .none),s2.ct)
       | ex=>some (.bool false,bg s2.hp l (.lp sT K2 K3 JI 2 (Tf ex)),s2.ct)
      | _=>none
     | none=>none
    | _=>none
   | _=>none
 | _=>none
def eY (P:aG) (L:Lib) (self:cD) (hp:Hp) (ct:Nat) (m:Md) (fv:AV) (xs:List AV):gV:=
 match fv with
 | .fn (.f n) first cap=>
  match m with
  | .pure=>
   match cC deep hp (first++(xs++cap)) with
   | some (aq,bB)=>match bQ P L self n aq with | some r=>some (shut r,bB,ct) | none=>none
   | none=>none
  | .own=>
   match cC deep hp (first++(xs++cap)) with
   | some (aq,bB)=>match bQ P L self n aq with | some r=>some (own bB ct r) | none=>none
   | none=>none
  | .heap=>je P L self hp ct n (first++(xs++cap))
  | .dyn=>
   bif aH (first++(xs++cap)) then
    match bQ P L self n (first++(xs++cap)) with | some r=>some (shut r,hp,ct) | none=>none
   else je P L self hp ct n (first++(xs++cap))
 | .fn (.y l) _ _=>
  match m with
  | .heap | .dyn=>nX self hp ct l xs
  | _=>none
 | _=>none
def Up:AV->AV->Bool
 | .int k a,.int k' b=>decide (k=k')&&a==b
 | .bool a,.bool b=>a==b
 | .str a,.str b=>cI a b
 | .ab,.ab=>true
 | .lk,.lk=>true
 | .ptr i o,.ptr j p=>yv i j&&yv o p
 | .aC i o n,.aC j p m=>yv i j&&(yv o p&&yv n m)
 | .map i,.map j=>yv i j
 | _,_=>false
def A8 (tm:Env) (hp ap:Hp):List (Nat×Bool×Nat)->Bool
 | []=>true
 | (sz,ag,x)::r=>
  match ic hp sz ag (ah tm x),ic ap sz ag (ah tm x) with
  | some a,some b=>Up a b&&A8 tm hp ap r
  | _,_=>false
def px (tm:Env) (id:Nat):List (Nat×Bool×Nat)->Bool
 | []=>true
 | (_,_,x)::r=>(match ah tm x with | .ptr j _=> !yv j id | .aQ _=>true | _=>false)&&px tm id r
def br (P:aG) (L:Lib) (self:cD) (tm:Env) (hp:Hp) (ct:Nat) (o:Op):gV:=
 match o with
 | .call m f xs=>eY P L self hp ct m (aA tm f) (dC tm xs)
 | .jf rs f xs=>
  match eY P L self hp ct .dyn (aA tm f) (dC tm xs) with
  | some (v,ap,bc)=>bif A8 tm hp ap rs then some (v,ap,bc) else none
  | none=>none
 | .jP rs sz x v=>
  match aA tm x with
  | .ptr id _=>bif px tm id rs then db tm hp ct (.st sz x v) else none
  | _=>none
 | .st .. | .mS .. | .pV .. | .cX .. | .pX .. =>db tm hp ct o
 | .box .. | .bI .. | .gU .. | .sR | .pU .. =>match cT tm hp ct o with | some (v,b)=>some (v,(ct,b)::hp,ct+1) | none=>none
 | o=>match bE tm hp o with | some v=>some (v,hp,ct) | none=>none
def put (d:Option Nat) (v:AV) (tm:Env):Env:=
 match d with
 | some i=>(i,v)::tm
 | none=>tm
def dH (P:aG) (L:Lib) (self:cD):List bh->St->Option St
 | [],s=>some s
 | ⟨d,g,o⟩::r,s=>
  let want:=match g with | none=>some true | some (t,b)=>match ah s.tm t with | .bool c=>some (c==b) | .au []=>some false | _=>none
  match want with
  | some true=>
   match br P L self s.tm s.hp s.ct o with
   | some (v,hp,ct)=>dH P L self r {s with tm:=put d v s.tm,hp:=hp,ct:=ct}
   | none=>none
  | some false=>dH P L self r {s with tm:=put d (.au []) s.tm}
  | none=>none
def pG:List Nat->St->Option St
 | [],s=>some s
 | t::r,s=>
  match freeze deep s.hp (ah s.tm t) with
  | some (v,hp)=>pG r {s with tm:=(t,v)::s.tm,hp:=hp}
  | none=>none
def bH (P:aG) (L:Lib) (self:cD):VC->St->Option (Ex×St)
 | .skip,s=>some (.normal,s)
 | .aM ops,s=>match dH P L self ops s with | some s'=>some (.normal,s') | none=>none
 | .seq a b,s=>
  match bH P L self a s with
  | some (.normal,s1)=>bH P L self b s1
  | r=>r
 | .cond x a b,s=>
  match aA s.tm x with
  | .bool t=>bif t then bH P L self a s else bH P L self b s
  | _=>none
 | .aE id a,s=>
  match bH P L self a s with
  | some (.exit j,s1)=>bif yv j id then some (.normal,s1) else some (.exit j,s1)
  | r=>r
 | .kp live,s=>some (.normal,aT live s)
 | .fz ts,s=>match pG ts s with | some s'=>some (.normal,s') | none=>none
 | .loop live a,s=>
  match bH P L self a (aT live s) with
  | some (.normal,s1)=>self (.loop live a) s1
  | r=>r
 | .rf f ps cK body,s=>
  match aA s.tm f with
  | .fn (.f n) first cap=>
   match L.heap n with
   | some _=>none
   | none=>
    match je P L self ((s.ct,.lp s.tm ps cK body 0 .none)::s.hp) (s.ct+1) n (first++(.fn (.y s.ct) [] []::cap)) with
    | some (_,hp,ct)=>
     match az hp s.ct with
     | some (.lp _ _ _ _ st pe)=>
      bif yv st 1 then none else
      match pe with
      | .none=>some (.normal,{s with hp:=eG hp s.ct,ct:=ct})
      | .ret=>some (.ret,{s with hp:=eG hp s.ct,ct:=ct})
      | .exit id=>some (.exit id,{s with hp:=eG hp s.ct,ct:=ct})
     | _=>none
    | none=>none
  | _=>none
 | .exit id,s=>some (.exit id,s)
 | .ret,s=>some (.ret,s)
def ev (P:aG) (L:Lib) (n:Nat):cD:=Nat.rec (fun _ _=>none) (fun _ ih=>bH P L ih) n
def V7 (P:aG) (L:Lib) (n:Nat) (f:Nat) (aq:List AV):Option AV:=bQ P L (ev P L n) f aq
end
section
open Go
structure Pl where
 b:Nat
 o:Nat
 e:Nat
 z:Nat
abbrev Mp:=Nat->Option Pl
section
variable (ai:Nat->Nat) (m:Mp) (S:Nat->Prop) (w:yj)
mutual
def aj:AV->yf->Prop
 | .int k n,v=>v= .int k n
 | .bool b,v=>v= .bool b
 | .du k b,v=>v= .float k b
 | .str s,v=>∃t:ByteArray,v= .string t/\t.data.toList.map y9=s
 | .lk,v=>v= .pointer none
 | .ptr id o,v=>∃p,m id=some p/\v= .pointer (some ⟨p.b,p.o+o,none⟩)
 | .aQ cs,v=>∃b o,v= .pointer (some ⟨b,o,none⟩)/\(cs=[]\/S b)/\aH cs=true/\bT cs b o
 | .ab,v=>v= .slice none 0 0
 | .aJ ex n cs,v=>(∃b o c,v= .slice (some ⟨b,o,none⟩) n c/\n<=c/\(ex=true->c=n)/\(cs=[]\/S b)/\aH cs=true/\bT cs b o)\/(∃a,v= .slice (some a) 0 0/\n=0/\cs=[])
 | .bW _ _ _ _,_=>False
 | .aC id o n,v=>∃p c,m id=some p/\v= .slice (some ⟨p.b,p.o+o,none⟩) n c/\n<=c/\o+c*p.z=p.e
 | .fn (.f g) first cap,v=>∃fi ca:Array yf,v= .func (.func (ai g)) fi ca/\av first fi.toList/\av cap ca.toList
 | .fn (.y l) _ _,v=>∃p,m l=some p/\v= .func (.yield p.b) #[] #[]
 | .iS,v=>v= .nilFunc
 | .kH,v=>v= .map none
 | .map id,v=>∃p,m id=some p/\v= .map (some p.b)
 | .jN ks vs,v=>∃b es clock,v= .map (some b)/\S b/\aH ks=true/\aH vs=true/\w.heap[b]? =some (.map es clock)/\
   av ks (es.toList.map (·.key))/\av vs (es.toList.map (·.val))
 | .it id,v=>∃p,m id=some p/\v= .pointer (some ⟨p.b,0,none⟩)
 | .agg cs,v=>∃xs:Array yf,v= .agg xs/\av cs xs.toList
 | .au cs,v=>∃xs:Array yf,v= .tuple xs/\av cs xs.toList
 | .undef,_=>True
def av:List AV->List yf->Prop
 | [],us=>us=[]
 | c::cs,us=>∃u r,us=u::r/\aj c u/\av cs r
def bT:List AV->Nat->Nat->Prop
 | [],_,_=>True
 | c::cs,b,o=>(∃u,w.cell? ⟨b,o,none⟩=some u/\aj c u)/\bT cs b (o+1)
end
end
def fX (S:Nat->Prop) (w w':yj):Prop:=∀b,S b->w'.heap[b]? =w.heap[b]?
def Mu {w w':yj} {b o:Nat} (h:w'.heap[b]? =w.heap[b]?):w'.cell? ⟨b,o,none⟩=w.cell? ⟨b,o,none⟩:=by
 simp only [World.cell?,h]
section
variable {ai:Nat->Nat} {m m':Mp} {S S':Nat->Prop} {w w':yj}
mutual
def mi (hm:∀id p,m id=some p->m' id=some p) (hS:∀b,S b->S' b) (hw:fX S w w'):
  ∀(v:AV) (u:yf),aj ai m S w v u->aj ai m' S' w' v u
 | .int _ _,_,h | .bool _,_,h | .du _ _,_,h | .str _,_,h | .lk,_,h | .ab,_,h | .iS,_,h | .kH,_,h | .undef,_,h=>by
  simpa only [aj] using h
 | .ptr id o,u,h=>by
  simp only [aj] at h ⊢;obtain ⟨p,h1,h2⟩:=h;exact ⟨p,hm _ _ h1,h2⟩
 | .aQ cs,u,h=>by
  simp only [aj] at h ⊢;obtain ⟨b,o,h1,h2,h3,h4⟩:=h;refine ⟨b,o,h1,h2.imp id (hS b),h3,?_⟩;rcases h2 with rfl | h2
  ·simp only [bT]
  ·exact Rv hm hS hw cs b o h2 h4
 | .aJ ex n cs,u,h=>by
  simp only [aj] at h ⊢;rcases h with ⟨b,o,c,h1,h2,h3,h4,h5,h6⟩ | h
  ·refine .inl ⟨b,o,c,h1,h2,h3,h4.imp id (hS b),h5,?_⟩;rcases h4 with rfl | h4
   ·simp only [bT]
   ·exact Rv hm hS hw cs b o h4 h6
  ·exact .inr h
 | .bW _ _ _ _,u,h=>by simp only [aj] at h
 | .aC id o n,u,h=>by
  simp only [aj] at h ⊢;obtain ⟨p,c,h1,h2⟩:=h;exact ⟨p,c,hm _ _ h1,h2⟩
 | .fn (.f g) first cap,u,h=>by
  simp only [aj] at h ⊢;obtain ⟨fi,ca,h1,h2,h3⟩:=h;exact ⟨fi,ca,h1,iA hm hS hw first _ h2,iA hm hS hw cap _ h3⟩
 | .fn (.y l) _ _,u,h=>by
  simp only [aj] at h ⊢;obtain ⟨p,h1,h2⟩:=h;exact ⟨p,hm _ _ h1,h2⟩
 | .map id,u,h=>by
  simp only [aj] at h ⊢;obtain ⟨p,h1,h2⟩:=h;exact ⟨p,hm _ _ h1,h2⟩
 | .jN ks vs,u,h=>by
  simp only [aj] at h ⊢;obtain ⟨b,es,clock,h1,h2,h3,h4,h5,h6,h7⟩:=h;exact ⟨b,es,clock,h1,hS b h2,h3,h4,(hw b h2).trans h5,iA hm hS hw ks _ h6,iA hm hS hw vs _ h7⟩
 | .it id,u,h=>by
  simp only [aj] at h ⊢;obtain ⟨p,h1,h2⟩:=h;exact ⟨p,hm _ _ h1,h2⟩
 | .agg cs,u,h=>by
  simp only [aj] at h ⊢;obtain ⟨xs,h1,h2⟩:=h;exact ⟨xs,h1,iA hm hS hw cs _ h2⟩
 | .au cs,u,h=>by
  simp only [aj] at h ⊢;obtain ⟨xs,h1,h2⟩:=h;exact ⟨xs,h1,iA hm hS hw cs _ h2⟩
def iA (hm:∀id p,m id=some p->m' id=some p) (hS:∀b,S b->S' b) (hw:fX S w w'):
  ∀(vs:List AV) (us:List yf),av ai m S w vs us->av ai m' S' w' vs us
 | [],us,h=>by simpa only [av] using h
 | v::r,us,h=>by
  simp only [av] at h ⊢;obtain ⟨u,t,h1,h2,h3⟩:=h;exact ⟨u,t,h1,mi hm hS hw v u h2,iA hm hS hw r t h3⟩
def Rv (hm:∀id p,m id=some p->m' id=some p) (hS:∀b,S b->S' b) (hw:fX S w w'):
  ∀(cs:List AV) (b o:Nat),S b->bT ai m S w cs b o->bT ai m' S' w' cs b o
 | [],_,_,_,_=>by simp only [bT]
 | c::cs,b,o,hb,h=>by
  simp only [bT] at h ⊢;obtain ⟨⟨u,h1,h2⟩,h3⟩:=h;exact ⟨⟨u,(Mu (hw b hb)).trans h1,mi hm hS hw c u h2⟩,Rv hm hS hw cs b (o+1) hb h3⟩
end
end
end
section
open Go
structure Hint where
 n:Nat
 bZ:FuncId->Option Nat
 live:Nat->List Nat
 out:Nat->Option (List Nat)
 mode:Nat->Md
 fz:Nat->List Nat
section
variable (P:xi) (H:Hint)
mutual
def eN:yf->AV
 | .int k n=> .int k n
 | .bool b=> .bool b
 | .float k b=> .du k b
 | .string s=> .str (s.data.toList.map y9)
 | .pointer none=> .lk
 | .slice none 0 0=> .ab
 | .map none=> .kH
 | .nilFunc=> .iS
 | .agg ⟨cs⟩=> .agg (Fj cs)
 | .tuple ⟨cs⟩=> .au (Fj cs)
 | _=> .undef
def Fj:List yf->List AV
 | []=>[]
 | v::r=>eN v::Fj r
end
def aS:xy->X
 | .tmp t=> .t t
 | .const v=> .c (eN v)
 | .global _=> .c .undef
 | .func f=>match H.bZ f with | some g=> .c (.fn (.f g) [] []) | none=> .c .undef
def ie:List xy->List X
 | []=>[]
 | x::r=>aS H x::ie r
def cL (t:yy):Option Nat:=match P.info? t with | some i=>some i.size | none=>none
def B0 (t:yy):Option Nat:=match P.info? t with | some i=>some i.bytes | none=>none
def nv (t:yy):Option AV:=match P.info? t with | some i=>(match i.zero with | some v=>some (eN v) | none=>none) | none=>none
def dQ (t:yy):Option Bool:=match P.underlying t with | some (.struct _) | some (.array _ _)=>some true | some _=>some false | none=>none
def bad:Op:= .call .pure (.c .undef) []
def partsOf (place:Nat->Option (Nat×Nat)):List (Nat×xy)->Option (List (Nat×Nat×X))
 | []=>some []
 | (i,x)::r=>
  match place i,partsOf place r with
  | some (o,s),some l=>some ((o,s,aS H x)::l)
  | _,_=>none
def ES (self:yy->Option (List Nat)):List uF->Nat->Option (List Nat)
 | [],_=>some []
 | f::r,o=>
  match self f.type,cL P f.type with
  | some ks,some s=>
   bif f.name != "_"&&yv f.offset o&&yv ks.length s&& !P.stoodInHeld f.type then
    (match ES self r (o+s) with | some l=>some (ks++l) | none=>none)
   else none
  | _,_=>none
def kinds:Nat->yy->Option (List Nat)
 | 0,_=>none
 | n+1,t=>
  match P.underlying t with
  | some .bool=>some [0]
  | some (.int _)=>some [1]
  | some .string=>some [2]
  | some (.struct fs)=>ES P (fun u=>kinds n u) fs.toList 0
  | some (.array k e)=>
   match kinds n e,cL P e with
   | some ks,some s=>bif yv ks.length s&& !P.stoodInHeld e then some (yG k ks).flatten else none
   | _,_=>none
  | _=>none
def keyOf (t:yy):Option Nat:=
 match P.underlying t with
 | some .bool=>some 0
 | some (.int _)=>some 1
 | some .string=>some 2
 | _=>none
def zG (ne:Bool) (t:yy) (a b:xy):Op:=
 match kinds P 20 t with
 | some ks=>bif P.stoodInHeld t||P.eqGuardType P.depth t then bad else .eq ne (.ag ks) (aS H a) (aS H b)
 | none=>bad
def rZ (ne:Bool) (op:wP) (t:yy) (a b:xy):Op:=
 match P.underlying t with
 | some (.int _) | some .string | some (.float _)=> .bin op (aS H a) (aS H b)
 | some .bool=> .eq ne .b (aS H a) (aS H b)
 | some (.slice _)=> .eq ne .sl (aS H a) (aS H b)
 | some (.func _ _ _)=> .eq ne .fn (aS H a) (aS H b)
 | some (.struct _) | some (.array _ _)=>zG P H ne t a b
 | _=>bad
def bq (k:Nat) (o:y8):Op:=
 let x (y:xy):X:=aS H y
 match o.op with
 | .move a | .assign a=> .bV (x a)
 | .pick c a b=> .pick (x c) (x a) (x b)
 | .alloc t=>match cL P t,nv P t with | some s,some z=> .box s (.c z) | _,_=>bad
 | .box t v=>match cL P t with | some s=> .box s (x v) | none=>bad
 | .build t parts=>
  match P.underlying t,nv P t with
  | some (.struct fs),some (.agg z)=>
   match fs.toList.mapM (fun f=>(P.info? f.type).map fun i=>(f.offset,i.size)) with
   | some pl=>(match partsOf H (fun i=>pl[i]?) parts.toList with | some ps=> .df z ps | none=>bad)
   | none=>bad
  | some (.array _ e),some (.agg z)=>
   match cL P e with
   | some s=>(match partsOf H (fun i=>some (i*s,s)) parts.toList with | some ps=> .df z ps | none=>bad)
   | none=>bad
  | _,_=>bad
 | .buildSlice t n parts=>
  match P.underlying t with
  | some (.slice e)=>
   match cL P e,nv P e with
   | some s,some z=>
    bif yE (n*s) 16777216 then
     (match partsOf H (fun i=>some (i*s,s)) parts.toList with | some ps=> .bI n s (yG n (cellsOf z)).flatten ps | none=>bad)
    else bad
   | _,_=>bad
  | _=>bad
 | .load t a=>match cL P t,dQ P t with | some s,some ag=> .ld s ag (x a) | _,_=>bad
 | .store t a v=>match cL P t with | some s=> .st s (x a) (x v) | none=>bad
 | .nilCheck a=> .J3 (x a)
 | .binOp op t a b _=>
  match op with
  | .eql=>rZ P H false op t a b
  | .neq=>rZ P H true op t a b
  | _=> .bin op (x a) (x b)
 | .unOp op _ a=> .un op (x a)
 | .convert s d a=>
  match P.underlying s,P.underlying d with
  | some (.int _),some (.int k) | some (.float _),some (.int k)=> .cv (.toInt k) (x a)
  | some (.int _),some (.float k) | some (.float _),some (.float k)=> .cv (.toFlt k) (x a)
  | some .string,some .string=> .cv .str (x a)
  | _,_=>bad
 | .makeFunc (.func f) first cap=>match H.bZ f with | some g=> .rz (.f g) (ie H first.toList) (ie H cap.toList) | none=>bad
 | .makeMap t none=>match P.underlying t with | some (.map ke _)=>(match keyOf P ke with | some _=> .sR | none=>bad) | _=>bad
 | .makeSlice t l c=>
  match P.underlying t with
  | some (.slice e)=>(match cL P e,B0 P e,nv P e with | some s,some b,some z=> .gU s b (cellsOf z) (x l) (x c) | _,_,_=>bad)
  | _=>bad
 | .slice t a lo hi none=>
  match P.underlying t with
  | some .string=> .dT .str (x a) (lo.map x) (hi.map x)
  | some (.slice e)=>(match cL P e with | some s=> .dT (.sl s) (x a) (lo.map x) (hi.map x) | none=>bad)
  | some (.array n e)=>(match cL P e with | some s=> .dT (.ar n s) (x a) (lo.map x) (hi.map x) | none=>bad)
  | _=>bad
 | .fieldAddr t a i=>
  match P.underlying t with
  | some (.struct fs)=>
   match fs[i]? with
   | some f=>(match cL P f.type with | some (_+1)=> .off f.offset (x a) | _=>bad)
   | none=>bad
  | _=>bad
 | .field t a i=>
  match P.underlying t with
  | some (.struct fs)=>
   match fs[i]? with
   | some f=>(match cL P f.type,dQ P f.type with | some s,some ag=> .K0 f.offset s ag (x a) | _,_=>bad)
   | none=>bad
  | _=>bad
 | .indexAddr t a i=>
  match P.underlying t with
  | some (.slice e)=>(match cL P e with | some s=> .aZ s (x a) (x i) | none=>bad)
  | some (.array n e)=>(match cL P e with | some s=> .At n s (x a) (x i) | none=>bad)
  | _=>bad
 | .index t a i=>
  match P.underlying t with
  | some .string=> .lE (x a) (x i)
  | some (.array n e)=>(match cL P e,dQ P e with | some s,some ag=> .sS n s ag (x a) (x i) | _,_=>bad)
  | _=>bad
 | .lookup t a i ok=>
  match P.underlying t with
  | some (.map ke e)=>(match keyOf P ke,nv P e with | some kk,some z=> .BY kk z ok (x a) (x i) | _,_=>bad)
  | _=>bad
 | .mapUpdate t a i v | .insert t a i v=>
  match P.underlying t with
  | some (.map ke _)=>(match keyOf P ke with | some kk=> .mS kk (x a) (x i) (x v) | none=>bad)
  | _=>bad
 | .range t a=>match P.underlying t with | some .string=> .pU (x a) | _=>bad
 | .next it true=> .pV (x it)
 | .extract t i=> .ext i (x t)
 | .call c=>
  match c.callee with
  | .value f=>(match H.mode k with | .dyn=> .jf [] (x f) (ie H c.args.toList) | md=> .call md (x f) (ie H c.args.toList))
  | .builtin b=>
   match b,c.args.toList,c.argTypes.toList with
   | .append,[s,a],[t,u]=>
    match P.underlying t,P.underlying u with
    | some (.slice e),some (.slice _) | some (.slice e),some .string=>
     (match cL P e,B0 P e,nv P e with | some sz,some cG,some z=>(bif yv (cellsOf z).length sz then .cX sz cG (x s) (x a) else bad) | _,_,_=>bad)
    | _,_=>bad
   | .len,[a],[t]=>
    match P.underlying t with
    | some (.array n _)=> .bV (.c (.int .i64 n))
    | some .string=> .len 0 (x a)
    | some (.slice _)=> .len 1 (x a)
    | some (.map _ _)=> .len 2 (x a)
    | _=>bad
   | .copy,[d,s],[t,_]=>
    match P.underlying t with
    | some (.slice e)=>(match cL P e with | some sz=> .pX sz (x d) (x s) | none=>bad)
    | _=>bad
   | .min,l,_=> .mn (ie H l)
   | .max,l,_=> .mx (ie H l)
   | _,_,_=>bad
  | _=>bad
 | _=>bad
def Tg (o:y8):Bool:=match o.op with | .call {callee:= .value _,..}=>true | _=>false
def JJ (d:Option Nat):Bool:=match d with | some i=>yM i H.n | none=>true
def zS (n:Nat):List Nat->Bool
 | []=>true
 | i::r=>yM i n&&zS n r
def CT (ops:Array y8):List y8->Nat->List bh×Nat
 | [],k=>([],k)
 | o::r,k=>
  let g:=match o.guard with
   | none=>some none
   | some (j,b)=>match (ops[j]?).bind (·.dst) with | some t=>some (some (t,b)) | none=>none
  match CT ops r (k+(bif Tg o then 1 else 0)) with
  | (l,k')=>
   match g,JJ H o.dst with
   | some g,true=>(⟨o.dst,g,bq P H k o⟩::l,k')
   | _,_=>(⟨o.dst,none,bad⟩::l,k')
def Bc (acc:List Nat):List Edge->Nat
 | []=>0
 | e::r=>bif Region.binds .any e then (2^e.on|||acc.getD e.on 0)|||Bc acc r else Bc acc r
def mz (acc:List Nat):List y8->List Nat
 | []=>acc
 | o::r=>mz (acc++[Bc acc o.after.toList]) r
def IB:List y8->Nat->Bool
 | [],_=>true
 | o::r,i=>o.after.toList.all (fun e=> !Region.binds .any e||yM e.on i)&&IB r (i+1)
def Nw (ops:Array y8) (draw:Bool) (k:Nat):List bh×Nat:=
 match CT P H ops ops.toList k with
 | (l,k')=>
  bif draw then
   (let ms:=mz [] ops.toList
    let l':=zR [] l ms
    bif IB ops.toList 0&&E6 [] l' ms then (l',k') else ([⟨none,none,bad⟩],k'))
  else (l,k')
def aqp:wQ->Bool
 | .loop _=>true
 | _=>false
def comp:wQ->Nat->Nat->VC×Nat×Nat
 | .skip,l,k | .label _,l,k=>(.skip,l,k)
 | .region i ops d,l,k=>match Nw P H ops d k with | (r,k')=>((match H.fz i with | []=> .aM r | t::ts=> .seq (.fz (t::ts)) (.aM r)),l,k')
 | .seq a b,l,k=>match comp a l k with | (a',l1,k1)=>match comp b l1 k1 with | (b',l2,k2)=>(.seq a' b',l2,k2)
 | .cond c a b,l,k=>
  match comp a (l+1) k with
  | (a',l1,k1)=>
   match comp b l1 k1 with
   | (b',l2,k2)=>(match H.out l with | some o=> .seq (.cond (aS H c) a' b') (.kp o) | none=> .cond (aS H c) a' b',l2,k2)
 | .block id a,l,k=>
  match comp a l k with
  | (a',r)=>(match aqp a,H.out l with | true,some o=> .seq (.aE id a') (.kp o) | _,_=> .aE id a',r)
 | .loop a,l,k=>match comp a (l+1) k with | (a',r)=>(.loop (H.live l) a',r)
 | .rangeFunc f ps cK body,l,k=>
  match comp cK l k with | (as',l1,k1)=>match comp body l1 k1 with | (b',l2,k2)=>(bif zS H.n ps.toList then .rf (aS H f) ps.toList as' b' else .aM [⟨none,none,bad⟩],l2,k2)
 | .exit id,l,k=>(.exit id,l,k)
 | .scope a,l,k=>comp a l k
 | .ret,l,k=>(.ret,l,k)
 | .goto _,l,k | .refuse _,l,k=>(.aM [⟨none,none,bad⟩],l,k)
def pk:List ResultVar->Option (List RV)
 | []=>some []
 | .tmp t::r=>match pk r with | some l=>some (.t t::l) | none=>none
 | .cell a t::r=>match cL P t,dQ P t,pk r with | some s,some ag,some l=>some (.cell a s ag::l) | _,_,_=>none
def Fk (fn:Func):Option aD:=
 match fn.body,pk P fn.results.toList with
 | some c,some rs=>bif yE H.n fn.ntmps then some ⟨rs,(comp P H c 0 0).1⟩ else none
 | _,_=>none
end
end
section
open Go
structure bt where
 P:xi
 aW:Lib
 ai:Nat->Nat
 prog:aG
 hint:Nat->Hint
 w0:yj
def B2 (P:xi) (H:Hint) (v:VC) (c:wQ):Prop:=∃l k,(comp P H c l k).1=v
def BD:Nat->LoopState
 | 0=> .ready
 | 1=> .busy
 | 2=> .done
 | _=> .exhausted
def zM:z7->Option wQ
 | .none=>none
 | .ret=>some .ret
 | .exit id=>some (.exit id)
section
variable (O:bt) (m:Mp) (S:Nat->Prop) (w:yj)
def cd (tm:Env) (tmps:Array yf):Prop:=∀i,aj O.ai m S w (ah tm i) (tmps.getD i undef)
def fH (id:Nat):Obj->Prop
 | .cells rw pu ex sz cs=>∃p arr t,m id=some p/\w.heap[p.b]? =some (.cells arr t (0,0))/\p.z=sz/\cs.length<=p.e/\p.o+p.e<=arr.size/\
   (ex=true->cs.length=p.e)/\bT O.ai m S w cs p.b p.o/\(pu=true->aH cs=true)/\(rw=true->¬S p.b)/\(rw=false->S p.b)
 | .mp rw ks vs=>∃p es clock,m id=some p/\w.heap[p.b]? =some (.map es clock)/\av O.ai m S w ks (es.toList.map (·.key))/\av O.ai m S w vs (es.toList.map (·.val))/\
   (rw=true->¬S p.b)/\(rw=false->S p.b)
 | .si s pos=>∃p t,m id=some p/\w.heap[p.b]? =some (.stringIter t pos)/\t.data.toList.map y9=s/\¬S p.b
 | .lp tm ps cK body st pe=>∃p l h,m id=some p/\w.heap[p.b]? =some (.loop l)/\¬S p.b/\l.state=BD st/\st<=2/\l.pending=zM pe/\cd O m S w tm l.tmps/\
   l.params.toList=ps/\B2 O.P (O.hint h) cK l.assign/\B2 O.P (O.hint h) body l.body/\(O.hint h).n<=l.tmps.size/\zS (O.hint h).n ps=true
structure aX (hp:Hp) (ct:Nat):Prop where
 obj:∀id o p,az hp id=some o->m id=some p->fH O m S w id o
 lt:∀id p,m id=some p->id<ct
 inj:∀i j oi oj pi pj,az hp i=some oi->az hp j=some oj->m i=some pi->m j=some pj->pi.b=pj.b->i=j
 slt:∀b,S b->b<w.heap.size
 blt:∀id p,m id=some p->p.b<w.heap.size
 low:∀id p,m id=some p->O.w0.heap.size<=p.b
 iH:∀b,b<O.w0.heap.size->w.heap[b]? =O.w0.heap[b]?
 fY:O.w0.heap.size<=w.heap.size
 a7:∀id o,az hp id=some o->id<ct
end
def ek (m:Mp) (hp:Hp) (b:Nat):Prop:=∃id o p,az hp id=some o/\m id=some p/\p.b=b
structure ck (m:Mp) (S:Nat->Prop) (w:yj) (hp:Hp) (m':Mp) (S':Nat->Prop) (w':yj) (ap:Hp) (base:Nat):Prop where
 os:w'.os=w.os
 tape:w'.tape=w.tape
 output:w'.output=w.output
 size:w.heap.size<=w'.heap.size
 same:∀b,b<w.heap.size->¬ek m hp b->w'.heap[b]? =w.heap[b]?
 sub:∀b,S b->S' b
 still:∀b,S b->w'.heap[b]? =w.heap[b]?
 new:∀b,S' b->S b\/ek m hp b\/w.heap.size<=b
 own:∀b,ek m' ap b->ek m hp b\/w.heap.size<=b
 old:∀id p,id<base->m id=some p->m' id=some p
 loops:∀(b:Nat) (r:Loop),w.heap[b]? =some (.loop r)->∃r':Loop,w'.heap[b]? =some (.loop r')
def ck.refl {m:Mp} {S:Nat->Prop} {w:yj} {hp:Hp} {base:Nat}:ck m S w hp m S w hp base:=
 ⟨rfl,rfl,rfl,yr _,fun _ _ _=>rfl,fun _ h=>h,fun _ _=>rfl,fun _ h=> .inl h,fun _ h=> .inl h,fun _ _ _ h=>h,fun _ r h=>⟨r,h⟩⟩
def ck.trans {m m' K4:Mp} {S S' B3:Nat->Prop} {w w' D8:yj} {hp ap J4:Hp} {base:Nat}
  (h:ck m S w hp m' S' w' ap base) (k:ck m' S' w' ap K4 B3 D8 J4 base):ck m S w hp K4 B3 D8 J4 base where
 os:=k.os.trans h.os
 tape:=k.tape.trans h.tape
 output:=k.output.trans h.output
 size:=xn h.size k.size
 same b hb ho:=(k.same b (Nat.lt_of_lt_of_le hb h.size) (fun lF=>(h.own b lF).elim ho (fun h1=>by omega))).trans (h.same b hb ho)
 sub b hb:=k.sub b (h.sub b hb)
 still b hb:=(k.still b (h.sub b hb)).trans (h.still b hb)
 new b hb:=by
  rcases k.new b hb with h1 | h1 | h1
  ·exact h.new b h1
  ·rcases h.own b h1 with h2 | h2
   ·exact .inr (.inl h2)
   ·exact .inr (.inr h2)
  ·exact .inr (.inr (xn h.size h1))
 own b hb:=by
  rcases k.own b hb with h1 | h1
  ·exact h.own b h1
  ·exact .inr (xn h.size h1)
 old id p hid hp:=k.old id p hid (h.old id p hid hp)
 loops b r hb:=let ⟨r',h1⟩:=h.loops b r hb;k.loops b r' h1
end
section
open Go
section
variable {ai:Nat->Nat} {m:Mp} {S:Nat->Prop} {w:yj}
mutual
def Nx:∀v:yf,aj ai m S w (eN v) v
 | .int _ _ | .bool _ | .float _ _=>by simp only [eN,aj]
 | .string s=>by simp only [eN,aj];exact ⟨s,rfl,rfl⟩
 | .pointer none=>by simp only [eN,aj]
 | .pointer (some _)=>by simp only [eN,aj]
 | .slice none 0 0=>by simp only [eN,aj]
 | .slice none 0 (_+1)=>by simp only [eN,aj]
 | .slice none (_+1) _=>by simp only [eN,aj]
 | .slice (some _) _ _=>by simp only [eN,aj]
 | .map none=>by simp only [eN,aj]
 | .map (some _)=>by simp only [eN,aj]
 | .nilFunc=>by simp only [eN,aj]
 | .agg ⟨cs⟩=>by simp only [eN,aj];exact ⟨⟨cs⟩,rfl,Se cs⟩
 | .tuple ⟨cs⟩=>by simp only [eN,aj];exact ⟨⟨cs⟩,rfl,Se cs⟩
 | .complex _ _ _ | .chan _ | .func _ _ _ | .iface _ _ | .nilIface=>by simp only [eN,aj]
def Se:∀l:List yf,av ai m S w (Fj l) l
 | []=>by simp only [Fj,av]
 | v::r=>by simp only [Fj,av];exact ⟨v,r,rfl,Nx v,Se r⟩
end
end
def fN (O:bt) (H:Hint):Prop:=∀f g,H.bZ f=some g->O.ai g=f
section
variable {O:bt} {H:Hint} {m:Mp} {S:Nat->Prop} {w:yj} {tm:Env} {a:Act}
def cF (hH:fN O H) (ht:cd O m S w tm a.tmps) (x:xy):aj O.ai m S w (aA tm (aS H x)) (a.eval x):=by
 cases x with
 | tmp t=>exact ht t
 | const v=>simp only [aS,aA,Act.eval];exact Nx v
 | global g=>simp only [aS,aA,aj]
 | func f=>
  simp only [aS,Act.eval]
  cases hr:H.bZ f with
  | none=>simp only [aA,aj]
  | some g=>simp only [aA,aj,hH f g hr,av];exact ⟨#[],#[],rfl,rfl,rfl⟩
def C0 (hH:fN O H) (ht:cd O m S w tm a.tmps):∀l:List xy,av O.ai m S w (dC tm (ie H l)) (l.map a.eval)
 | []=>by simp only [ie,dC,List.map_nil,av]
 | x::r=>by simp only [ie,dC,yV,av];exact ⟨_,_,rfl,cF hH ht x,C0 hH ht r⟩
end
section
variable {O:bt} {m:Mp} {S:Nat->Prop} {w:yj}
def rP {ai:Nat->Nat}:∀(k:Nat) (cs:List AV) (b o:Nat),bT ai m S w cs b o->bT ai m S w (cs.drop k) b (o+k)
 | 0,cs,b,o,h=>by simpa using h
 | k+1,[],b,o,_=>by simp only [List.drop_nil,bT]
 | k+1,c::cs,b,o,h=>by
  simp only [bT] at h
  have:=rP k cs b (o+1) h.2
  rw [List.drop_succ_cons,show o+(k+1)=o+1+k by omega];exact this
def CH {ai:Nat->Nat}:∀(k:Nat) (cs:List AV) (b o:Nat),bT ai m S w cs b o->bT ai m S w (cs.take k) b o
 | 0,cs,b,o,_=>by simp only [List.take_zero,bT]
 | k+1,[],b,o,_=>by simp only [List.take_nil,bT]
 | k+1,c::cs,b,o,h=>by
  simp only [bT,wh] at h ⊢;exact ⟨h.1,CH k cs b (o+1) h.2⟩
def zy {ai:Nat->Nat}:∀(cs:List AV) (b o:Nat),bT ai m S w cs b o->
  ∃us:List yf,av ai m S w cs us/\us.length=cs.length/\∀j u,us[j]? =some u->w.cell? ⟨b,o+j,none⟩=some u
 | [],b,o,_=>⟨[],by simp only [av],rfl,fun j u h=>by simp at h⟩
 | c::cs,b,o,h=>by
  simp only [bT] at h;obtain ⟨⟨u,h1,h2⟩,h3⟩:=h;obtain ⟨us,h4,h5,h6⟩:=zy cs b (o+1) h3;refine ⟨u::us,by simp only [av];exact ⟨u,us,rfl,h2,h4⟩,by simp [h5],fun j v hv=>?_⟩
  cases j with
  | zero=>simp at hv;subst hv;simpa using h1
  | succ j=>simp at hv;have:=h6 j v hv;rw [show o+(j+1)=o+1+j by omega];exact this
def jc {ai:Nat->Nat}:∀(cs:List AV) (us:List yf),av ai m S w cs us->us.length=cs.length
 | [],us,h=>by simp only [av] at h;subst h;rfl
 | c::cs,us,h=>by
  simp only [av] at h;obtain ⟨u,r,rfl,_,h3⟩:=h;simp [jc cs r h3]
end
end
section
open Go
def py (b o j:Nat):(⟨b,o,none⟩:vZ).add j=⟨b,o+j,none⟩:=by
 unfold Addr.add;split<;>simp_all
section
variable {P:xi} {w:yj}
def aiJ (t:yy) (b o:Nat) (us:List yf) (ha:dQ P t=some true) (hz:cL P t=some us.length)
  (h:∀j u,us[j]? =some u->w.cell? ⟨b,o+j,none⟩=some u):(loadVar t ⟨b,o,none⟩).run P w= .ok (.agg us.toArray) w:=by
 have hl:=run_loadCells_list (P:=P) w ⟨b,o,none⟩ us (fun j u hu=>by rw [py];exact h j u hu)
 unfold cL at hz
 cases hi:P.info? t with
 | none=>simp [hi] at hz
 | some i=>
  simp only [hi,yc] at hz;unfold dQ at ha
  cases hu:P.underlying t with
  | none=>simp [hu] at ha
  | some d=>cases d<;>simp_all [loadVar,isAgg,vI,typeInfo,underlying]
def aiK (t:yy) (b o:Nat) (u:yf) (ha:dQ P t=some false)
  (h:w.cell? ⟨b,o,none⟩=some u):(loadVar t ⟨b,o,none⟩).run P w= .ok u w:=by
 unfold dQ at ha
 cases hu:P.underlying t with
 | none=>simp [hu] at ha
 | some d=>cases d<;>simp_all [loadVar,isAgg,underlying]
end
section
variable {O:bt} {m:Mp} {S:Nat->Prop} {w:yj}
def Ny {t:yy} {sz:Nat} {ag:Bool} {cs:List AV} {b o:Nat} {v:AV} (hz:cL O.P t=some sz) (ha:dQ O.P t=some ag)
  (hr:bT O.ai m S w cs b o) (hv:fD sz ag cs=some v):∃u,(loadVar t ⟨b,o,none⟩).run O.P w= .ok u w/\aj O.ai m S w v u:=by
 cases ag with
 | true=>
  simp only [fD,yz] at hv
  cases hle:yE sz cs.length with
  | false=>simp only [hle,yO] at hv;cases hv
  | true=>
   simp only [hle,yz,yc] at hv;subst hv;obtain ⟨us,h1,h2,h3⟩:=zy _ _ _ (CH sz cs b o hr);have hlen:us.length=sz:=by
    rw [h2,List.length_take];have:=yu hle;omega
   refine ⟨.agg us.toArray,aiJ t b o us ha (by rw [hlen];exact hz) h3,?_⟩
   simp only [aj];exact ⟨us.toArray,rfl,by simpa using h1⟩
 | false=>
  simp only [fD,yO] at hv
  cases cs with
  | nil=>simp at hv
  | cons c cs=>
   simp only [yc] at hv;subst hv;simp only [bT] at hr;obtain ⟨⟨u,h1,h2⟩,_⟩:=hr;exact ⟨u,aiK t b o u ha h1,h2⟩
def aa3 {t:yy} {sz o:Nat} {ag:Bool} {cs:List AV} {xs:Array yf} {v:AV} (hz:cL O.P t=some sz) (ha:dQ O.P t=some ag)
  (hr:av O.ai m S w cs xs.toList) (hv:fD sz ag (cs.drop o)=some v):∃u,(part t xs o).run O.P w= .ok u w/\aj O.ai m S w v u:=by
 have hd:∀(k:Nat) (cs:List AV) (us:List yf),av O.ai m S w cs us->av O.ai m S w (cs.drop k) (us.drop k):=by
  intro k
  induction k with
  | zero=>intro cs us h;simpa using h
  | succ k ih=>
   intro cs us h
   cases cs with
   | nil=>simp only [av] at h;subst h;simp [av]
   | cons c cs=>simp only [av] at h;obtain ⟨u,r,rfl,_,h3⟩:=h;simpa using ih cs r h3
 have eK:∀(k:Nat) (cs:List AV) (us:List yf),av O.ai m S w cs us->av O.ai m S w (cs.take k) (us.take k):=by
  intro k
  induction k with
  | zero=>intro cs us h;simp [av]
  | succ k ih=>
   intro cs us h
   cases cs with
   | nil=>simp only [av] at h;subst h;simp [av]
   | cons c cs=>simp only [av] at h;obtain ⟨u,r,rfl,h2,h3⟩:=h;simp only [wh,av];exact ⟨u,_,rfl,h2,ih cs r h3⟩
 have afd:(isAgg t).run O.P w= .ok ag w:=by
  unfold dQ at ha
  cases hu:O.P.underlying t with
  | none=>simp [hu] at ha
  | some d=>cases d<;>simp_all [isAgg,underlying]
 have eV:(vI t).run O.P w= .ok sz w:=by
  unfold cL at hz
  cases hi:O.P.info? t with
  | none=>simp [hi] at hz
  | some i=>simp_all [vI,typeInfo]
 have cm:=hd o cs xs.toList hr
 cases ag with
 | true=>
  simp only [fD,yz] at hv
  cases hle:yE sz (cs.drop o).length with
  | false=>simp only [hle,yO] at hv;cases hv
  | true=>
   simp only [hle,yz,yc] at hv;subst hv;refine ⟨.agg (xs.extract o (o+sz)),by simp [part,Sem.run_bind,afd,eV],?_⟩;simp only [aj];refine ⟨_,rfl,?_⟩
   have:=eK sz _ _ cm
   rw [show (xs.extract o (o+sz)).toList=(xs.toList.drop o).take sz by simp [Array.toList_extract,List.extract_eq_take_drop]];exact this
 | false=>
  simp only [fD,yO] at hv
  cases hc:cs.drop o with
  | nil=>simp [hc] at hv
  | cons c r=>
   simp only [hc,yc] at hv;subst hv;rw [hc] at cm;simp only [av] at cm;obtain ⟨u,us,h1,h2,_⟩:=cm;have hx:xs[o]? =some u:=by
    have:xs.toList[o]? =some u:=by
     have:=congrArg (fun l=>l[0]?) h1
     simpa using this
    simpa using this
   exact ⟨u,by simp [part,Sem.run_bind,afd,hx],h2⟩
end
end
section
open Go
def mq (t:ByteArray):List Nat:=t.data.toList.map y9
def aa4:∀a b:List UInt8,cI (a.map y9) (b.map y9)=(a==b)
 | [],[]=>rfl
 | [],_::_=>rfl
 | _::_,[]=>rfl
 | a::x,b::y=>by
  have h:yv a.toNat b.toNat=(a==b):=by
   rw [uT,ybH,tU];exact yah
  simp only [yV,cI,aa4 x y,h,List.cons_beq_cons]
def aa5:∀a b:List UInt8,BZ (a.map y9) (b.map y9)=Op.bytesLess a b
 | [],[]=>rfl
 | [],_::_=>rfl
 | _::_,[]=>rfl
 | a::x,b::y=>by
  have h:yv a.toNat b.toNat=(a==b):=by
   rw [uT,ybH,tU];exact yah
  have h2:yM a.toNat b.toNat=decide (a<b):=by
   rw [uT];simp only [yM,ybI,vd,UInt8.lt_iff_toNat_lt];omega
  simp only [yV,BZ,Op.bytesLess,aa5 x y,h,h2]
def Zi (s t:ByteArray):cI (mq s) (mq t)=(s.toList==t.toList):=by
 rw [mq,mq,aa4,ByteArray.toList_eq,ByteArray.toList_eq]
def ajZ (s t:ByteArray):BZ (mq s) (mq t)=Op.bytesLess s.toList t.toList:=by
 rw [mq,mq,aa5,ByteArray.toList_eq,ByteArray.toList_eq]
def Zj (s:ByteArray):(mq s).length=s.size:=by
 rw [mq,List.length_map,Lib.size_eq]
section
variable {ai:Nat->Nat} {P:xi} {m:Mp} {S:Nat->Prop} {w:yj} {t:yy}
def alM {op:wP} {k:yY} {x y:Int} {v:AV} (h:lM op k x y=some v):
  ∃u,(xP op t (.int k x) (.int k y)).run P w= .ok u w/\aj ai m S w v u:=by
 cases op<;>simp only [lM,intCmp,yc] at h
 case add=>subst h;exact ⟨_,by simp [xP,Op.intArith];rfl,by simp [aj]⟩
 case sub=>subst h;exact ⟨_,by simp [xP,Op.intArith];rfl,by simp [aj]⟩
 case mul=>subst h;exact ⟨_,by simp [xP,Op.intArith];rfl,by simp [aj]⟩
 case quo=>
  by_cases hy:y=0
  ·simp [hy] at h
  ·simp only [hy,xh,yc] at h;subst h;exact ⟨_,by simp [xP,Op.intDiv,hy];rfl,by simp [aj]⟩
 case rem=>
  by_cases hy:y=0
  ·simp [hy] at h
  ·simp only [hy,xh,yc] at h;subst h;exact ⟨_,by simp [xP,Op.intDiv,hy];rfl,by simp [aj]⟩
 case and=>subst h;exact ⟨_,by simp [xP,Op.intBits];rfl,by simp [aj]⟩
 case or=>subst h;exact ⟨_,by simp [xP,Op.intBits];rfl,by simp [aj]⟩
 case xor=>subst h;exact ⟨_,by simp [xP,Op.intBits];rfl,by simp [aj]⟩
 case andNot=>subst h;exact ⟨_,by simp [xP,Op.intBits];rfl,by simp [aj]⟩
 case shl=>cases h
 case shr=>cases h
 all_goals
  subst h;exact ⟨_,by simp [xP,Op.intCmp];rfl,by simp [aj]⟩
def YD {op:wP} {k k':yY} {x y:Int} {v:AV} (h:CS op k x y=some v):
  ∃u,(xP op t (.int k x) (.int k' y)).run P w= .ok u w/\aj ai m S w v u:=by
 unfold CS at h;by_cases hy:y<0
 ·simp [hy] at h
 ·simp only [hy,xh] at h;cases op<;>simp only [yc] at h
  case shl=>subst h;exact ⟨_,by simp [xP,Op.shift,hy];rfl,by simp [aj]⟩
  case shr=>subst h;exact ⟨_,by simp [xP,Op.shift,hy];rfl,by simp [aj]⟩
  all_goals cases h
def alN {op:wP} {x y:ByteArray} {v:AV} (h:JD op (mq x) (mq y)=some v):
  ∃u,(xP op t (.string x) (.string y)).run P w= .ok u w/\aj ai m S w v u:=by
 cases op<;>simp only [JD,Zi,ajZ,Zj,yc] at h
 case add=>
  cases hle:yE (x.size+y.size) 9223372036854775807 with
  | false=>rw [hle] at h;cases h
  | true=>
   rw [hle] at h;simp only [yz,yc] at h;subst h;have aBg:=yu hle;have au2:¬(((x.size+y.size:Nat):Int)>IntKind.i64.max):=by
    have:IntKind.i64.max=9223372036854775807:=by decide
    rw [this];omega
   refine ⟨.string (x++y),?_,?_⟩
   ·simp only [xP,Op.stringOp,yA au2,Sem.run_pure]
   ·simp only [aj];exact ⟨x++y,rfl,by simp [mq]⟩
 all_goals first
  | (cases h;done)
  | (subst h;exact ⟨_,by simp [xP,Op.stringOp];rfl,by simp [aj]⟩)
def alO {op:wP} {k:vK} {x y:Nat} {v:AV} (h:TN op k x y=some v):
  ∃u,(xP op t (.float k x) (.float k y)).run P w= .ok u w/\aj ai m S w v u:=by
 cases op<;>simp only [TN,yc] at h
 case add=>
  cases hr:k.format.add x y with
  | none=>simp [hr] at h
  | some r=>simp only [hr,yc] at h;subst h;exact ⟨.float k r,by simp [xP,Op.floatArith,hr],by simp [aj]⟩
 case sub=>
  cases hr:k.format.sub x y with
  | none=>simp [hr] at h
  | some r=>simp only [hr,yc] at h;subst h;exact ⟨.float k r,by simp [xP,Op.floatArith,hr],by simp [aj]⟩
 case mul=>
  cases hr:k.format.mul x y with
  | none=>simp [hr] at h
  | some r=>simp only [hr,yc] at h;subst h;exact ⟨.float k r,by simp [xP,Op.floatArith,hr],by simp [aj]⟩
 case quo=>
  cases hr:k.format.div x y with
  | none=>simp [hr] at h
  | some r=>simp only [hr,yc] at h;subst h;exact ⟨.float k r,by simp [xP,Op.floatArith,hr],by simp [aj]⟩
 all_goals first
  | (cases h;done)
  | (subst h;exact ⟨_,by simp [xP,Op.floatCmp];rfl,by simp [aj]⟩)
def alP {op:wP} {vx vy v:AV} {x y:yf} (hx:aj ai m S w vx x) (hy:aj ai m S w vy y) (h:VE.binOp op vx vy=some v):
  ∃u,(xP op t x y).run P w= .ok u w/\aj ai m S w v u:=by
 unfold VE.binOp at h
 split at h
 ·rename_i k a k' b;simp only [aj] at hx hy;subst hx;subst hy
  split at h
  ·exact YD h
  ·exact YD h
  ·by_cases hk:k=k'
   ·subst hk;simp only [xm] at h;exact alM h
   ·simp [hk] at h
 ·rename_i k a k' b;simp only [aj] at hx hy;subst hx;subst hy;by_cases hk:k=k'
  ·subst hk;simp only [xm] at h;exact alO h
  ·simp [hk] at h
 ·rename_i a b;simp only [aj] at hx hy;obtain ⟨s,rfl,rfl⟩:=hx;obtain ⟨s',rfl,rfl⟩:=hy;exact alN h
 ·cases h
end
end
section
open Go
section
variable {ai:Nat->Nat} {P:xi} {m:Mp} {S:Nat->Prop} {w:yj} {t:yy}
def ajb {op:wP} {x y:xy} {a b:yf} (h:P.eqGuardType P.depth t=false\/∀xs ys,¬(a= .agg xs/\b= .agg ys)) (hn:a≠.nilIface):
  (eqGuard op t x y a b).run P w= .ok () w:=by
 unfold eqGuard;cases op
 all_goals first
  | rfl
  | (
    cases a
    all_goals first
     | rfl
     | exact absurd rfl hn
     | (
      cases b
      all_goals first
       | rfl
       | (
         rcases h with h | h
         ·simp [h]
         ·exact absurd ⟨rfl,rfl⟩ (h _ _))))
def aqq {d:Nat} {p q:Bool} (ht:P.underlying t=some .bool):(Op.equalIn (d+1) t (.bool p) (.bool q)).run P w= .ok (p==q) w:=by
 simp [Op.equalIn,underlying,ht]
def TP {d:Nat} {e:yy} (ht:P.underlying t=some (.slice e)) (y:Option vZ) (n c n' c':Nat):
  (Op.equalIn (d+1) t (.slice none n c) (.slice y n' c')).run P w= .ok y.isNone w:=by simp [Op.equalIn,underlying,ht]
def adJ {d:Nat} {e:yy} (ht:P.underlying t=some (.slice e)) (x:vZ) (n c n' c':Nat):
  (Op.equalIn (d+1) t (.slice (some x) n c) (.slice none n' c')).run P w= .ok false w:=by simp [Op.equalIn,underlying,ht]
def atc {d:Nat} {ps rs:Array yy} {vr:Bool} (ht:P.underlying t=some (.func ps rs vr)):
  (Op.equalIn (d+1) t .nilFunc .nilFunc).run P w= .ok true w:=by simp [Op.equalIn,underlying,ht]
def adK {d:Nat} {ps rs:Array yy} {vr:Bool} (ht:P.underlying t=some (.func ps rs vr)) (f:Go.Fn) (a b:Array yf):
  (Op.equalIn (d+1) t .nilFunc (.func f a b)).run P w= .ok false w:=by simp [Op.equalIn,underlying,ht]
def adL {d:Nat} {ps rs:Array yy} {vr:Bool} (ht:P.underlying t=some (.func ps rs vr)) (f:Go.Fn) (a b:Array yf):
  (Op.equalIn (d+1) t (.func f a b) .nilFunc).run P w= .ok false w:=by simp [Op.equalIn,underlying,ht]
def M6 (x y:yf):Op.equal t x y=Op.equalIn (9999+1) t x y:=rfl
def aoa {vx vy:AV} {x y:yf} {r:Bool} {e:yy} (ht:P.underlying t=some (.slice e)) (hx:aj ai m S w vx x) (hy:aj ai m S w vy y)
  (h:jz .sl vx vy=some r):(Op.equal t x y).run P w= .ok r w:=by
 rw [M6];unfold jz at h
 split at h<;>simp_all only [yc,reduceCtorEq]
 all_goals subst h
 all_goals simp only [aj] at hx hy
 ·subst hx;subst hy;exact TP ht _ _ _ _ _
 ·rcases hy with ⟨b,o,c,rfl,_⟩ | ⟨_,rfl,_⟩<;>(subst hx;exact TP ht _ _ _ _ _)
 ·obtain ⟨p,c,_,rfl,_⟩:=hy;subst hx;exact TP ht _ _ _ _ _
 ·rcases hx with ⟨b,o,c,rfl,_⟩ | ⟨_,rfl,_⟩<;>(subst hy;exact adJ ht _ _ _ _ _)
 ·obtain ⟨p,c,_,rfl,_⟩:=hx;subst hy;exact adJ ht _ _ _ _ _
def aob {vx vy:AV} {x y:yf} {r:Bool} {ps rs:Array yy} {vr:Bool} (ht:P.underlying t=some (.func ps rs vr)) (hx:aj ai m S w vx x) (hy:aj ai m S w vy y)
  (h:jz .fn vx vy=some r):(Op.equal t x y).run P w= .ok r w:=by
 rw [M6];unfold jz at h
 split at h<;>simp_all only [yc,reduceCtorEq]
 all_goals subst h
 ·simp only [aj] at hx hy;subst hx;subst hy;exact atc ht
 ·rename_i f _ _
  cases f with
  | f g=>simp only [aj] at hx hy;obtain ⟨fi,ca,rfl,_⟩:=hy;subst hx;exact adK ht _ _ _
  | y l=>simp only [aj] at hx hy;obtain ⟨p,_,rfl⟩:=hy;subst hx;exact adK ht _ _ _
 ·rename_i f _ _
  cases f with
  | f g=>simp only [aj] at hx hy;obtain ⟨fi,ca,rfl,_⟩:=hx;subst hy;exact adL ht _ _ _
  | y l=>simp only [aj] at hx hy;obtain ⟨p,_,rfl⟩:=hx;subst hy;exact adL ht _ _ _
def aoc {op:ybx} {vx v:AV} {x:yf} (hx:aj ai m S w vx x) (h:VE.unOp op vx=some v):∃u,(Op.unary op x).run P w= .ok u w/\aj ai m S w v u:=by
 unfold VE.unOp at h
 split at h
 ·rename_i k n;simp only [aj] at hx;subst hx;simp only [yc] at h;subst h;exact ⟨_,by simp [Op.unary,Op.intArith];rfl,by simp [aj]⟩
 ·rename_i k n;simp only [aj] at hx;subst hx;simp only [lM,yc] at h;subst h;exact ⟨_,by simp [Op.unary,Op.intBits];rfl,by simp [aj]⟩
 ·rename_i b;simp only [aj] at hx;subst hx;simp only [yc] at h;subst h;exact ⟨_,by simp [Op.unary];rfl,by simp [aj]⟩
 ·rename_i k b;simp only [aj] at hx;subst hx;simp only [yc] at h;subst h;exact ⟨_,by simp [Op.unary,Op.negFloat];rfl,by simp [aj]⟩
 ·cases h
def Z8 {s d:yy} {k:yY} {vx v:AV} {x:yf} (hd:P.underlying d=some (.int k)) (hs:(∃k',P.underlying s=some (.int k'))\/∃k',P.underlying s=some (.float k'))
  (hx:aj ai m S w vx x) (h:pK (.toInt k) vx=some v):∃u,(convert s d x).run P w= .ok u w/\aj ai m S w v u:=by
 cases vx<;>simp only [pK,reduceCtorEq] at h
 case int k0 n=>
  simp only [aj] at hx;subst hx;simp only [yc] at h;subst h;refine ⟨.int k (k.wrap n),?_,by simp [aj]⟩;rcases hs with ⟨k',h'⟩ | ⟨k',h'⟩<;>simp [convert,underlying,Conv.intToInt,hd,h']
 case du sk b=>
  simp only [aj] at hx;subst hx
  cases hi:(sk.decode b).toInt .zero with
  | none=>simp [hi] at h
  | some n=>
   simp only [hi] at h;by_cases hr:k.min<=n/\n<=k.max
   ·simp only [hr,and_self,xm,yc] at h;subst h;refine ⟨.int k n,?_,by simp [aj]⟩;rcases hs with ⟨k',h'⟩ | ⟨k',h'⟩<;>simp [convert,underlying,Conv.floatToInt,hd,h',hi,hr]
   ·simp [hr] at h
def Z9 {s d:yy} {k:vK} {vx v:AV} {x:yf} (hd:P.underlying d=some (.float k)) (hs:(∃k',P.underlying s=some (.int k'))\/∃k',P.underlying s=some (.float k'))
  (hx:aj ai m S w vx x) (h:pK (.toFlt k) vx=some v):∃u,(convert s d x).run P w= .ok u w/\aj ai m S w v u:=by
 cases vx<;>simp only [pK,reduceCtorEq] at h
 case int k0 n=>
  simp only [aj] at hx;subst hx;simp only [yc] at h;subst h;refine ⟨.float k (k.nearest n),?_,by simp [aj]⟩;rcases hs with ⟨k',h'⟩ | ⟨k',h'⟩<;>simp [convert,underlying,Conv.intToFloat,hd,h']
 case du sk b=>
  simp only [aj] at hx;subst hx;by_cases he:sk=k
  ·subst he;simp only [xm,yc] at h;subst h;refine ⟨.float sk b,?_,by simp [aj]⟩;rcases hs with ⟨k',h'⟩ | ⟨k',h'⟩<;>simp [convert,underlying,Conv.floatToFloat,hd,h']
  ·simp only [he,xh] at h
   cases OG:sk.decode b with
   | nan _ _=>simp [OG] at h
   | infinity _=>simp [OG] at h
   | number sg mm ee=>
    simp only [OG] at h
    cases Uq:(k.decode (k.encode (.number sg mm ee))).isInfinity with
    | true=>simp [Uq] at h
    | false=>
     simp only [Uq,yF,xh,yc] at h;subst h;refine ⟨.float k (k.encode (.number sg mm ee)),?_,by simp [aj]⟩;rcases hs with ⟨k',h'⟩ | ⟨k',h'⟩<;>simp [convert,underlying,Conv.floatToFloat,hd,h',he,OG,Uq]
def alQ {s d:yy} {vx v:AV} {x:yf} (hd:P.underlying d=some .string) (hs:P.underlying s=some .string)
  (hx:aj ai m S w vx x) (h:pK .str vx=some v):∃u,(convert s d x).run P w= .ok u w/\aj ai m S w v u:=by
 cases vx<;>simp only [pK,reduceCtorEq] at h
 simp only [yc] at h;subst h;simp only [aj] at hx;obtain ⟨b,rfl,hb⟩:=hx;exact ⟨.string b,by simp [convert,underlying,hs,hd],by simp only [aj];exact ⟨b,rfl,hb⟩⟩
end
end
section
open Go
def aj0 {v:AV} {k:Nat} (h:dE v=some k):∃kd,v= .int kd (k:Int):=by
 cases v<;>simp only [dE,reduceCtorEq] at h
 rename_i kd n
 cases n with
 | ofNat j=>simp only [yc] at h;subst h;exact ⟨kd,rfl⟩
 | negSucc j=>cases h
section
variable {O:bt} {H:Hint} {m:Mp} {S:Nat->Prop} {w:yj} {tm:Env} {a:Act}
def zH {ai:Nat->Nat} {v:AV} {x:yf} {k:Nat} (hx:aj ai m S w v x) (h:dE v=some k):∃kd,x= .int kd (k:Int):=by
 obtain ⟨kd,rfl⟩:=aj0 h;simp only [aj] at hx
 grind
def run_sliceBound {P:xi} {kd:yY} {k y:Nat} {code:BoundsCode} (h:k<=y):(Instr.sliceBound (.int kd (k:Int)) y code).run P w= .ok k w:=by
 have:(0:Int)<=(k:Int)/\(k:Int)<=(y:Int):=by omega
 simp [Instr.sliceBound,asIntOf,this]
def Zk {P:xi} {isSlice:Bool} {len cap l h:Nat} {lo hi:Option xy} (hH:fN O H) (ht:cd O m S w tm a.tmps)
  (hl:cP tm 0 (lo.map (aS H))=some l) (hh:cP tm len (hi.map (aS H))=some h) (h1:l<=h) (h2:h<=cap):
  (Instr.sliceBounds isSlice len cap (lo.map a.eval) (hi.map a.eval) none).run P w= .ok (l,h,cap) w:=by
 cases lo with
 | none=>
  simp only [vE,cP,yc] at hl;subst hl
  cases hi with
  | none=>
   simp only [vE,cP,yc] at hh;subst hh;simp [Instr.sliceBounds]
  | some y=>
   obtain ⟨kd,e⟩:=zH (cF hH ht y) hh;simp only [Instr.sliceBounds,vE,wF,e,Sem.run_bind,Sem.run_pure,Result.andThen_ok,run_sliceBound h2]
 | some x=>
  obtain ⟨kd,e⟩:=zH (cF hH ht x) hl
  cases hi with
  | none=>
   simp only [vE,cP,yc] at hh;subst hh;simp only [Instr.sliceBounds,vE,wF,e,Sem.run_bind,Sem.run_pure,Result.andThen_ok,run_sliceBound h1]
  | some y=>
   obtain ⟨V8,e'⟩:=zH (cF hH ht y) hh;simp only [Instr.sliceBounds,wF,e,e',Sem.run_bind,Sem.run_pure,Result.andThen_ok,run_sliceBound h2,run_sliceBound h1]
def aj1 {t:yy} {lo hi:Option xy} {vx v:AV} {x:yf} (hH:fN O H) (ht:cd O m S w tm a.tmps) (hu:O.P.underlying t=some .string)
  (hx:aj O.ai m S w vx x) {hp:Hp} (h:fh hp .str vx tm (lo.map (aS H)) (hi.map (aS H))=some v):
  ∃u,(Instr.sliceAt t x (lo.map a.eval) (hi.map a.eval) none).run O.P w= .ok u w/\aj O.ai m S w v u:=by
 cases vx<;>simp only [fh,reduceCtorEq] at h
 obtain ⟨b,rfl,rfl⟩:=hx
 cases hl:cP tm 0 (lo.map (aS H)) with
 | none=>simp [hl] at h
 | some l=>
  simp only [hl] at h
  cases hh:cP tm (b.data.toList.map y9).length (hi.map (aS H)) with
  | none=>rw [hh] at h;cases h
  | some g=>
   rw [hh] at h;simp only at h
   cases hc:(yE l g&&yE g (b.data.toList.map y9).length) with
   | false=>rw [hc] at h;cases h
   | true=>
    rw [hc] at h;simp only [yz,yc] at h;subst h;simp only [ye] at hc;have h1:=yu hc.1;have h2:=yu hc.2;have hlen:(b.data.toList.map y9).length=b.size:=Zj b;rw [hlen] at hh h2;refine ⟨.string (b.extract l g),?_,?_⟩
    ·simp only [Instr.sliceAt,Sem.run_bind,run_underlying hu,Result.andThen_ok,Instr.slice,Option.isSome_none,yF,xh,Sem.run_pure,
      Zk (P:=O.P) (isSlice:=false) (len:=b.size) (cap:=b.size) hH ht hl hh h1 h2]
    ·simp only [aj];refine ⟨_,rfl,?_⟩;rw [Lib.extract_data,List.map_take,List.map_drop,List.drop_take]
def alR {t e:yy} {sz:Nat} {lo hi:Option xy} {vx v:AV} {x:yf} (hH:fN O H) (ht:cd O m S w tm a.tmps) (hu:O.P.underlying t=some (.slice e)) (hz:cL O.P e=some sz)
  {hp:Hp} {ct:Nat} (hh:aX O m S w hp ct)
  (hx:aj O.ai m S w vx x) (h:fh hp (.sl sz) vx tm (lo.map (aS H)) (hi.map (aS H))=some v):
  ∃u,(Instr.sliceAt t x (lo.map a.eval) (hi.map a.eval) none).run O.P w= .ok u w/\aj O.ai m S w v u:=by
 have eV:(vI e).run O.P w= .ok sz w:=by
  unfold cL at hz
  cases hi:O.P.info? e with
  | none=>simp [hi] at hz
  | some i=>simp_all [vI,typeInfo]
 have I9:∀(ad:Option vZ) (n c l g:Nat),cP tm 0 (lo.map (aS H))=some l->cP tm n (hi.map (aS H))=some g->l<=g->g<=c->
   (Instr.sliceAt t (.slice ad n c) (lo.map a.eval) (hi.map a.eval) none).run O.P w= .ok (.slice (if c=l then ad else ad.map (·.add (l*sz))) (g-l) (c-l)) w:=by
  intro ad n c l g hl hg h1 h2
  simp only [Instr.sliceAt,Sem.run_bind,run_underlying hu,Result.andThen_ok,Instr.slice,Sem.run_pure,eV,
   Zk (P:=O.P) (isSlice:=true) (len:=n) (cap:=c) hH ht hl hg h1 h2]
 cases vx<;>simp only [fh,reduceCtorEq] at h
 case ab=>
  simp only [aj] at hx;subst hx
  cases hl:cP tm 0 (lo.map (aS H)) with
  | none=>simp [hl] at h
  | some l=>
   cases l with
   | succ l=>simp [hl] at h
   | zero=>
    simp only [hl] at h
    cases hh:cP tm 0 (hi.map (aS H)) with
    | none=>simp [hh] at h
    | some g=>
     cases g with
     | succ g=>simp [hh] at h
     | zero=>
      simp only [hh,yc] at h;subst h;exact ⟨_,I9 none 0 0 0 0 hl hh (yr _) (yr _),by simp [aj]⟩
 case aJ ex n cs=>
  simp only [aj] at hx;rcases hx with ⟨b,o,c,rfl,K5,hex,hS,iX,D9⟩ | ⟨ad,rfl,rfl,rfl⟩
  case inr=>
   cases hl:cP tm 0 (lo.map (aS H)) with
   | none=>simp [hl] at h
   | some l=>
    simp only [hl] at h
    cases hh:cP tm 0 (hi.map (aS H)) with
    | none=>simp [hh] at h
    | some g=>
     simp only [hh] at h
     cases hc:(yE l g&&yE g 0) with
     | false=>rw [hc] at h;cases h
     | true=>
      rw [hc] at h;simp only [yz,yc] at h;subst h;simp only [ye] at hc;have h1:=yu hc.1;have h2:=yu hc.2;have hg:g=0:=by omega
      subst hg;have jB:l=0:=by omega
      subst jB;refine ⟨_,I9 (some ad) 0 0 0 0 hl hh h1 h2,?_⟩;simp only [aj];exact .inr ⟨ad,by simp,by simp,by simp [slice]⟩
  cases hl:cP tm 0 (lo.map (aS H)) with
  | none=>simp [hl] at h
  | some l=>
   simp only [hl] at h
   cases hh:cP tm n (hi.map (aS H)) with
   | none=>simp [hh] at h
   | some g=>
    simp only [hh] at h
    cases hc:(yE l g&&yE g n) with
    | false=>rw [hc] at h;cases h
    | true=>
     rw [hc] at h;simp only [yz,yc] at h;subst h;simp only [ye] at hc;have h1:=yu hc.1;have h2:=yu hc.2;refine ⟨_,I9 (some ⟨b,o,none⟩) n c l g hl hh h1 (by omega),?_⟩;have N7:aH (slice (l*sz) ((g-l)*sz) cs)=true:=by
      have pd:∀(k:Nat) (cs:List AV),aH cs=true->aH (cs.drop k)=true:=by
       intro k
       induction k with
       | zero=>intro cs h;simpa using h
       | succ k ih=>intro cs h;cases cs with
        | nil=>simpa using h
        | cons c cs=>simp only [aH,ye] at h;simpa using ih cs h.2
      have pt:∀(k:Nat) (cs:List AV),aH cs=true->aH (cs.take k)=true:=by
       intro k
       induction k with
       | zero=>intro cs h;simp [aH]
       | succ k ih=>intro cs h;cases cs with
        | nil=>simp [aH]
        | cons c cs=>simp only [aH,ye,wh] at h ⊢;exact ⟨h.1,ih cs h.2⟩
      exact pt _ _ (pd _ _ iX)
     have afe:(ex&&yv g n)=true->c-l=g-l:=by
      intro hq;simp only [ye] at hq
      have:=hex hq.1
      have:=yo hq.2
      omega
     simp only [aj];by_cases lG:c=l
     ·have h0:g-l=0:=by omega
      have kJ:slice (l*sz) ((g-l)*sz) cs=[]:=by simp [slice,h0]
      rw [kJ];exact .inl ⟨b,o,c-l,by simp [lG],by omega,afe,.inl rfl,rfl,by simp [bT]⟩
     ·refine .inl ⟨b,o+l*sz,c-l,by simp [lG,py],by omega,afe,?_,N7,?_⟩
      ·rcases hS with rfl | hS
       ·exact .inl (by simp [slice])
       ·exact .inr hS
      ·exact CH _ _ _ _ (rP _ _ _ _ D9)
 case aC id o n=>
  simp only [aj] at hx;obtain ⟨p,c,hm,rfl,K5,PS⟩:=hx
  split at h
  case h_2=>cases h
  rename_i V9 pu0 sU z0 cs0 Dt;obtain ⟨p',arr,t',gJ,_,fe,_⟩:=hh.obj id _ _ Dt hm;rw [hm] at gJ;injection gJ with gJ
  subst gJ
  cases hl:cP tm 0 (lo.map (aS H)) with
  | none=>simp [hl] at h
  | some l=>
   simp only [hl] at h
   cases hh:cP tm n (hi.map (aS H)) with
   | none=>simp [hh] at h
   | some g=>
    simp only [hh] at h
    cases hc:(yE l g&&yE g n&&yv z0 sz) with
    | false=>rw [hc] at h;cases h
    | true=>
     rw [hc] at h;simp only [yz] at h;simp only [ye] at hc;have h1:=yu hc.1.1;have h2:=yu hc.1.2;have hpz:p.z=sz:=fe.trans (yo hc.2)
     cases he:(yv l g&& !yv l 0) with
     | true=>
      rw [he] at h;simp only [yz,yc] at h;subst h;simp only [ye] at he;have Ea:=yo he.1;refine ⟨_,I9 (some ⟨p.b,p.o+o,none⟩) n c l g hl hh h1 (by omega),?_⟩;simp only [aj];by_cases lG:c=l
      ·exact .inl ⟨p.b,p.o+o,c-l,by simp [lG];omega,by omega,by simp,by simp,by simp [aH],by simp [bT]⟩
      ·exact .inl ⟨p.b,p.o+o+l*sz,c-l,by simp [lG,py];omega,by omega,by simp,by simp,by simp [aH],by simp [bT]⟩
     | false=>
      rw [he] at h;simp only [yO,yc] at h;subst h;have lG:c=l->l=0:=by
       intro lG;have Ea:l=g:=by omega
       cases jB:yv l 0 with
       | true=>exact yo jB
       | false=>rw [Ea,Nat.beq_refl,<-Ea,jB] at he;cases he
      refine ⟨_,I9 (some ⟨p.b,p.o+o,none⟩) n c l g hl hh h1 (by omega),?_⟩;simp only [aj];refine ⟨p,c-l,hm,?_,by omega,?_⟩
      ·by_cases Ur:c=l
       ·have:=lG Ur;subst this;subst Ur;simp
       ·simp [Ur,py,uA]
      ·rw [hpz] at PS ⊢
       have:c*sz=l*sz+(c-l)*sz:=by rw [<-Nat.add_mul];congr 1;omega
       omega
end
end
section
open Go
def nV {P:xi} {w:yj} {t:yy} {sz:Nat} (hz:cL P t=some sz):(vI t).run P w= .ok sz w:=by
 unfold cL at hz
 cases hi:P.info? t with
 | none=>simp [hi] at hz
 | some i=>simp_all [vI,typeInfo]
section
variable {O:bt} {H:Hint} {m:Mp} {S:Nat->Prop} {w:yj} {tm:Env} {a:Act} {hp:Hp} {ct:Nat}
def Sf {id o n:Nat} {rw pu ex:Bool} {sz:Nat} {cs:List AV} {p:Pl} (hh:aX O m S w hp ct) (hg:az hp id=some (.cells rw pu ex sz cs)) (hm:m id=some p):
  bT O.ai m S w cs p.b p.o:=by
 obtain ⟨p',arr,t',gJ,_,_,_,_,_,hr,_⟩:=hh.obj id _ _ hg hm
 grind
def atd {t:yy} {sz:Nat} {ag:Bool} {vx v:AV} {x:yf} (hh:aX O m S w hp ct) (hz:cL O.P t=some sz) (ha:dQ O.P t=some ag) (hx:aj O.ai m S w vx x)
  (h:ic hp sz ag vx=some v):∃u,(Instr.loadAt t x).run O.P w= .ok u w/\aj O.ai m S w v u:=by
 cases vx<;>simp only [ic,reduceCtorEq] at h
 case ptr id o=>
  obtain ⟨p,hm,rfl⟩:=hx
  split at h
  case h_2=>cases h
  rename_i V9 pu0 sU z0 cs0 Dt;have hr:=Sf (id:=id) (o:=0) (n:=0) hh Dt hm;obtain ⟨u,h1,h2⟩:=Ny hz ha (rP o cs0 p.b p.o hr) h;exact ⟨u,by simp only [Instr.loadAt,Instr.sureAddr,Sem.run_bind,Sem.run_pure,Result.andThen_ok];exact h1,h2⟩
 case aQ cs=>
  obtain ⟨b,o,rfl,_,_,hr⟩:=hx;obtain ⟨u,h1,h2⟩:=Ny hz ha hr h;exact ⟨u,by simp only [Instr.loadAt,Instr.sureAddr,Sem.run_bind,Sem.run_pure,Result.andThen_ok];exact h1,h2⟩
def AW:∀(k:Nat) (cs:List AV),aH cs=true->aH (cs.drop k)=true
 | 0,cs,h=>by simpa using h
 | k+1,[],h=>by simpa using h
 | k+1,c::cs,h=>by simp only [aH,ye] at h;simpa using AW k cs h.2
def RM {cs:List AV} {b o k:Nat} (h2:cs=[]\/S b) (h3:aH cs=true) (h4:bT O.ai m S w cs b o):aj O.ai m S w (.aQ (cs.drop k)) (.pointer (some ⟨b,o+k,none⟩)):=by
 refine ⟨b,o+k,rfl,?_,AW k cs h3,rP k cs b o h4⟩
 grind
def aqr {t:yy} {fs:Array uF} {i:Nat} {f:uF} {sz:Nat} {vx v:AV} {x:yf} (hu:O.P.underlying t=some (.struct fs)) (hf:fs[i]? =some f) (hz:cL O.P f.type=some (sz+1))
  (hx:aj O.ai m S w vx x)
  (h:Dr f.offset vx=some v):∃u,(Instr.fieldAt t x i).run O.P w= .ok u w/\aj O.ai m S w v u:=by
 have adM:∀(b o:Nat),(Instr.fieldAt t (.pointer (some ⟨b,o,none⟩)) i).run O.P w= .ok (.pointer (some ⟨b,o+f.offset,none⟩)) w:=by
  intro b o;simp only [Instr.fieldAt,Sem.run_bind,run_underlying hu,Result.andThen_ok,hf,Instr.sureAddr,Sem.run_pure,fieldPlace,nV hz,Nat.succ_ne_zero,xh,py]
 cases vx<;>simp only [Dr,reduceCtorEq] at h
 case ptr id o=>
  obtain ⟨p,hm,rfl⟩:=hx;simp only [yc] at h;subst h;exact ⟨_,adM _ _,by simp only [aj];exact ⟨p,hm,by rw [uA]⟩⟩
 case aQ cs=>
  obtain ⟨b,o,rfl,h2,h3,h4⟩:=hx
  cases hc:yE f.offset cs.length with
  | false=>rw [hc] at h;cases h
  | true=>
   rw [hc] at h;simp only [yz,yc] at h;subst h;exact ⟨_,adM _ _,RM h2 h3 h4⟩
def aqs {t:yy} {fs:Array uF} {i:Nat} {f:uF} {sz:Nat} {ag:Bool} {vx v:AV} {x:yf} (hu:O.P.underlying t=some (.struct fs)) (hf:fs[i]? =some f)
  (hz:cL O.P f.type=some sz) (ha:dQ O.P f.type=some ag) (hx:aj O.ai m S w vx x)
  (h:N6 f.offset sz ag vx=some v):∃u,(Instr.field t x i).run O.P w= .ok u w/\aj O.ai m S w v u:=by
 cases vx<;>simp only [N6,reduceCtorEq] at h
 obtain ⟨xs,rfl,hr⟩:=hx;obtain ⟨u,h1,h2⟩:=aa3 hz ha hr h;exact ⟨u,by simp only [Instr.field,Sem.run_bind,run_underlying hu,Result.andThen_ok,hf,asAgg,Sem.run_pure];exact h1,h2⟩
def aqt {t e:yy} {sz k:Nat} {vx vi v:AV} {x i:yf} (hu:O.P.underlying t=some (.slice e)) (hz:cL O.P e=some sz) (hx:aj O.ai m S w vx x) (hi:aj O.ai m S w vi i)
  (hk:dE vi=some k)
  (h:hZ sz k vx=some v):∃u,(Instr.indexAt t x i).run O.P w= .ok u w/\aj O.ai m S w v u:=by
 obtain ⟨kd,rfl⟩:=zH hi hk;have JK:∀(b o n c:Nat),k<n->(Instr.indexAt t (.slice (some ⟨b,o,none⟩) n c) (.int kd (k:Int))).run O.P w= .ok (.pointer (some ⟨b,o+k*sz,none⟩)) w:=by
  intro b o n c sW;have hr:(0:Int)<=(k:Int)/\(k:Int)<(n:Int):=by omega
  simp [Instr.indexAt,asIntOf,run_underlying hu,nV hz,hr,py]
  grind
 cases vx<;>simp only [hZ,reduceCtorEq] at h
 case aC id o n=>
  obtain ⟨p,c,hm,rfl,K5,PS⟩:=hx
  cases hc:yM k n with
  | false=>rw [hc] at h;cases h
  | true=>
   rw [hc] at h;simp only [yz,yc] at h;subst h;have sW:k<n:=by simp_all
   exact ⟨_,JK _ _ _ _ sW,by simp only [aj];exact ⟨p,hm,by rw [uA]⟩⟩
 case aJ ex n cs=>
  rcases hx with ⟨b,o,c,rfl,K5,hex,h2,h3,h4⟩ | ⟨a,rfl,rfl,rfl⟩
  case inr=>
   have:yM k 0=false:=by cases hq:yM k 0 with | false=>rfl | true=>simp only [yM,ybI] at hq;omega
   grind
  cases hc:yM k n with
  | false=>rw [hc] at h;cases h
  | true=>
   rw [hc] at h;simp only [yz,yc] at h;subst h;have sW:k<n:=by simp_all
   exact ⟨_,JK _ _ _ _ sW,RM h2 h3 h4⟩
def aqu {t e:yy} {len sz k:Nat} {vx vi v:AV} {x i:yf} (hu:O.P.underlying t=some (.array len e)) (hz:cL O.P e=some sz) (hx:aj O.ai m S w vx x) (hi:aj O.ai m S w vi i)
  (hk:dE vi=some k)
  (h:JE len sz k vx=some v):∃u,(Instr.indexAt t x i).run O.P w= .ok u w/\aj O.ai m S w v u:=by
 obtain ⟨kd,rfl⟩:=zH hi hk;have JK:∀(b o:Nat),k<len->(Instr.indexAt t (.pointer (some ⟨b,o,none⟩)) (.int kd (k:Int))).run O.P w= .ok (.pointer (some ⟨b,o+k*sz,none⟩)) w:=by
  intro b o sW;have hr:(0:Int)<=(k:Int)/\(k:Int)<(len:Int):=by omega
  simp [Instr.indexAt,asIntOf,run_underlying hu,nV hz,hr,py,Instr.sureAddr]
  grind
 cases vx<;>simp only [JE,reduceCtorEq] at h
 case ptr id o=>
  obtain ⟨p,hm,rfl⟩:=hx
  cases hc:yM k len with
  | false=>rw [hc] at h;cases h
  | true=>
   rw [hc] at h;simp only [yz,yc] at h;subst h;have sW:k<len:=by simp_all
   exact ⟨_,JK _ _ sW,by simp only [aj];exact ⟨p,hm,by rw [uA]⟩⟩
 case aQ cs=>
  obtain ⟨b,o,rfl,h2,h3,h4⟩:=hx
  cases hc:yM k len with
  | false=>rw [hc] at h;cases h
  | true=>
   rw [hc] at h;simp only [yz,yc] at h;subst h;have sW:k<len:=by simp_all
   exact ⟨_,JK _ _ sW,RM h2 h3 h4⟩
def aqv {t e:yy} {len sz k:Nat} {ag:Bool} {vx vi v:AV} {x i:yf} (hu:O.P.underlying t=some (.array len e)) (hz:cL O.P e=some sz) (ha:dQ O.P e=some ag)
  (hx:aj O.ai m S w vx x) (hi:aj O.ai m S w vi i) (hk:dE vi=some k)
  (h:JF len sz ag k vx=some v):
  ∃u,(Instr.index t x i).run O.P w= .ok u w/\aj O.ai m S w v u:=by
 obtain ⟨kd,rfl⟩:=zH hi hk;cases vx<;>simp only [JF,reduceCtorEq] at h
 obtain ⟨xs,rfl,hr⟩:=hx
 cases hc:yM k len with
 | false=>rw [hc] at h;cases h
 | true=>
  rw [hc] at h;have sW:k<len:=by simp_all
  obtain ⟨u,h1,h2⟩:=aa3 hz ha hr h;have cm:(0:Int)<=(k:Int)/\(k:Int)<(len:Int):=by omega
  exact ⟨u,by simp [Instr.index,asIntOf,run_underlying hu,nV hz,cm,h1];intro hle;exact absurd hle (by omega),h2⟩
def aqw {t:yy} {k:Nat} {vx vi v:AV} {x i:yf} (hu:O.P.underlying t=some .string) (hx:aj O.ai m S w vx x) (hi:aj O.ai m S w vi i) (hk:dE vi=some k)
  (h:nt k vx=some v):
  ∃u,(Instr.index t x i).run O.P w= .ok u w/\aj O.ai m S w v u:=by
 obtain ⟨kd,rfl⟩:=zH hi hk;cases vx<;>simp only [nt,reduceCtorEq] at h
 obtain ⟨b,rfl,rfl⟩:=hx
 cases hs:(b.data.toList.map y9)[k]? with
 | none=>rw [hs] at h;cases h
 | some q=>
  rw [hs] at h;simp only [yc] at h;subst h;rw [List.getElem?_map] at hs
  cases hb:b.data.toList[k]? with
  | none=>rw [hb] at hs;cases hs
  | some c=>
   rw [hb] at hs;simp only [wF,yc] at hs;subst hs;have cR:b[k]? =some c:=by
    have a7:k<b.data.toList.length:=by
     grind
    have eV:k<b.size:=by simp_all
    rw [getElem?_pos b k eV];rw [List.getElem?_eq_getElem a7] at hb;rw [<-hb];rfl
   refine ⟨.int .u8 c.toNat,?_,by simp [aj]⟩;simp [Instr.index,asIntOf,run_underlying hu,cR]
end
end
end VE
