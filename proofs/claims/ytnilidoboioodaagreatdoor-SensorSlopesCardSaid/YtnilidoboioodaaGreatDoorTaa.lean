import GoSem.Core.Code
import GoSem.Core.Float
import GoSem.Core.Utf8
import Derived.CallsIn
import Derived.Laws.World
import GoSem.Op.Equal
import GoSem.Core.Region
import Derived.Below
import Derived.Laws.AppendOwn
import Derived.Laws.Rows
import Derived.WalkKit
import Derived.Laws.CopyRow
import Derived.Laws.Cells
import Derived.Laws.Strings
import Derived.Lib.Strings
import Derived.WideLaws
set_option linter.all false
set_option maxRecDepth 100000
open BitVec renaming ofInt→xD
open Bool renaming and_eq_true→yf,eq_iff_iff→uF,false_eq_true→yB
open Go renaming Addr→vM,BinOp→wj,Code→wF,FloatKind→xV,IntKind→yV,Oper→yL,Operand→xe,Program→yK,TypeId→yq,UnOp→ybc,Value→yg,World→yh,binOp→xF,sizeOf→vD
open Go.Utf8 renaming runeError→vz,valid→tR
open List renaming map_cons→yW,range→wL,replicate→yC,take_succ_cons→wN
open Nat renaming beq→ym,beq_eq→ybm,ble→yx,blt→yF,eq_of_beq_eq_true→yi,le_of_ble_eq_true→yr,le_refl→yv,le_trans→xi,testBit→wA
open Option renaming map_none→ve,map_some→wv
open Option.some renaming injEq→yb
open UInt8 renaming toNat→yZ,toNat_inj→tS
def wu:=@and_true
def uf:=@beq_iff_eq
def ub:=@beq_self_eq_true
def yI:=@cond_false
def yp:=@cond_true
def xb:=@decide_eq_false
def yaf:=@decide_eq_false_iff_not
def xo:=@decide_eq_true
def vl:=@decide_eq_true_eq
def yG:=@decide_false
def yJ:=@decide_true
def yaU:=@false_or
def y8:=@if_false
def yE:=@if_neg
def yT:=@if_pos
def xm:=@if_true
def ybn:=@not_false_eq_true
def ybo:=@not_true_eq_false
def ua:=@true_and
namespace VE
section
open Go (IntKind FloatKind BinOp UnOp)
inductive Fr where
 | f (n:Nat)
 | y (l:Nat)
 deriving DecidableEq,Inhabited
inductive AV where
 | int (k:yV) (n:Int)
 | bool (b:Bool)
 | aD (k:xV) (bits:Nat)
 | c9 (k:xV) (re im:Nat)
 | str (s:List Nat)
 | jB
 | ptr (id off:Nat)
 | bR (cells:List AV)
 | af
 | aq (ex:Bool) (n:Nat) (cells:List AV)
 | cx (ex:Bool) (sz n:Nat) (cells:List AV)
 | ay (id off n:Nat)
 | fn (f:Fr) (first cap:List AV)
 | gK
 | iO
 | map (id:Nat)
 | iP (ks vs:List AV)
 | it (id:Nat)
 | agg (cells:List AV)
 | av (vs:List AV)
 | undef
 deriving Inhabited
inductive X where
 | t (i:Nat)
 | c (v:AV)
 deriving Inhabited
inductive Conv where
 | toInt (k:yV)
 | toFlt (k:xV)
 | str
 | re
 | im
 deriving Inhabited
inductive Md where
 | pure | own | heap | dyn
 deriving Inhabited
inductive Cut where
 | str
 | sl (sz:Nat)
 | ar (len sz:Nat)
 deriving Inhabited
inductive Kj where
 | b | sl | fn | ag (ks:List Nat)
 deriving Inhabited
inductive Op where
 | nO (x:X)
 | pick (c a b:X)
 | box (sz:Nat) (x:X)
 | Aj (zero:List AV) (parts:List (Nat×Nat×X))
 | fB (n sz:Nat) (zero:List AV) (parts:List (Nat×Nat×X))
 | ld (sz:Nat) (ag:Bool) (x:X)
 | st (sz:Nat) (x v:X)
 | FB (x:X)
 | bin (op:wj) (x y:X)
 | eq (ne:Bool) (k:Kj) (x y:X)
 | un (op:ybc) (x:X)
 | cv (k:Conv) (x:X)
 | CF (f:Fr) (first cap:List X)
 | qJ
 | lU (sz bytes:Nat) (zero:List AV) (len cap:X)
 | mR (k:Cut) (x:X) (lo hi:Option X)
 | off (k:Nat) (x:X)
 | Gn (o sz:Nat) (ag:Bool) (x:X)
 | bt (sz:Nat) (x i:X)
 | sQ (len sz:Nat) (x i:X)
 | CG (x i:X)
 | CH (len sz:Nat) (ag:Bool) (x i:X)
 | Kk (kk:Nat) (zero:AV) (ok:Bool) (m k:X)
 | mS (kk:Nat) (m k v:X)
 | mT (x:X)
 | mU (x:X)
 | ext (i:Nat) (x:X)
 | call (m:Md) (f:X) (xs:List X)
 | gE (rs:List (Nat×Bool×Nat)) (f:X) (xs:List X)
 | iR (rs:List (Nat×Bool×Nat)) (sz:Nat) (x v:X)
 | jj (rs:List (Nat×Bool×Nat)) (sz bytes:Nat) (s x:X)
 | cD (sz bytes:Nat) (s x:X)
 | mV (sz bytes:Nat) (s x:X)
 | mW (sz:Nat) (d s:X)
 | len (k:Nat) (x:X)
 | mn (xs:List X)
 | mx (xs:List X)
 | Gp (x y:X)
 | lV (n sz:Nat) (zero:List AV) (parts:List (Nat×Nat×X))
 deriving Inhabited
structure aM where
 dst:Option Nat
 guard:Option (Nat×Bool)
 op:Op
 deriving Inhabited
inductive VC where
 | skip
 | jM (ops:List aM)
 | seq (a b:VC)
 | cond (x:X) (a b:VC)
 | cT (id:Nat) (a:VC)
 | kp (live:List Nat)
 | fz (ts:List Nat)
 | loop (live:List Nat) (a:VC)
 | rf (f:X) (ps:List Nat) (assign body:VC)
 | exit (id:Nat)
 | ret
 deriving Inhabited
inductive RV where
 | t (i:Nat)
 | cell (i sz:Nat) (ag:Bool)
 deriving Inhabited
structure aF where
 eT:List RV
 body:VC
 deriving Inhabited
inductive qc where
 | none | ret | exit (id:Nat)
 deriving Inhabited,DecidableEq
abbrev Env:=List (Nat×AV)
inductive Obj where
 | cells (rw pu ex:Bool) (sz:Nat) (cs:List AV)
 | mp (rw:Bool) (ks vs:List AV)
 | si (s:List Nat) (pos:Nat)
 | lp (tm:Env) (ps:List Nat) (assign body:VC) (state:Nat) (pending:qc)
 deriving Inhabited
abbrev Hp:=List (Nat×Obj)
structure St where
 tm:Env
 hp:Hp
 ct:Nat
 base:Nat
 deriving Inhabited
inductive Ex where
 | normal
 | ret
 | exit (id:Nat)
 deriving Inhabited,DecidableEq
def ah:Env->Nat->AV
 | [],_=> .undef
 | (j,v)::r,i=>bif ym j i then v else ah r i
def ap:Hp->Nat->Option Obj
 | [],_=>none
 | (j,o)::r,i=>bif ym j i then some o else ap r i
def a6:Hp->Nat->Obj->Hp
 | [],_,_=>[]
 | (j,o)::r,i,u=>bif ym j i then (j,u)::r else (j,o)::a6 r i u
def dc:Hp->Nat->Hp
 | [],_=>[]
 | (j,o)::r,i=>bif ym j i then dc r i else (j,o)::dc r i
mutual
def aX:AV->Bool
 | .ptr _ _ | .ay _ _ _ | .map _ | .it _ | .cx _ _ _ _=>false
 | .fn (.y _) _ _=>false
 | .fn (.f _) first cap=>aC first&&aC cap
 | .agg cs=>aC cs
 | .av vs=>aC vs
 | _=>true
def aC:List AV->Bool
 | []=>true
 | v::r=>aX v&&aC r
end
def cellsOf:AV->List AV
 | .agg cs=>cs
 | v=>[v]
def cw:AV->Bool
 | .agg _ | .av _ | .undef | .cx _ _ _ _=>false
 | _=>true
def cd:List AV->Bool
 | []=>true
 | v::r=>cw v&&cd r
def ao (tm:Env):X->AV
 | .t i=>ah tm i
 | .c v=>v
def cX (tm:Env):List X->List AV
 | []=>[]
 | x::r=>ao tm x::cX tm r
def slice (o n:Nat) (cs:List AV):List AV:=(cs.drop o).take n
def over (o:Nat) (new cs:List AV):List AV:=cs.take o++new++cs.drop (o+new.length)
mutual
def freeze:Nat->Hp->AV->Option (AV×Hp)
 | 0,_,_=>none
 | n+1,hp,v=>
  match v with
  | .ay id o k=>
   match n5 n hp id with
   | some (ex,sz,cs,an)=>
    bif yx (o+k*sz) cs.length then
     some (.aq (ex&&yF 0 sz&&ym (o+k*sz) cs.length) k (slice o (k*sz) cs),an)
    else none
   | none=>none
  | .ptr id o=>
   match n5 n hp id with
   | some (_,_,cs,an)=>some (.bR (cs.drop o),an)
   | none=>none
  | .map id=>
   match ap hp id with
   | some (.mp _ ks vs)=>bif aC ks&&aC vs then some (.iP ks vs,a6 hp id (.mp false ks vs)) else none
   | _=>none
  | .fn (.f g) first cap=>
   match cm n hp first with
   | some (UC,bi)=>
    match cm n bi cap with
    | some (Jo,kR)=>some (.fn (.f g) UC Jo,kR)
    | none=>none
   | none=>none
  | .agg cs=>match cm n hp cs with | some (b8,an)=>some (.agg b8,an) | none=>none
  | .av cs=>match cm n hp cs with | some (b8,an)=>some (.av b8,an) | none=>none
  | v=>bif aX v then some (v,hp) else none
def n5:Nat->Hp->Nat->Option (Bool×Nat×List AV×Hp)
 | 0,_,_=>none
 | n+1,hp,id=>
  match ap hp id with
  | some (.cells rw pu ex sz cs)=>
   bif pu then some (ex,sz,cs,bif rw then a6 hp id (.cells false true ex sz cs) else hp)
   else match cm n hp cs with
    | some (b8,an)=>some (ex,sz,b8,a6 an id (.cells false false ex sz cs))
    | none=>none
  | _=>none
def cm:Nat->Hp->List AV->Option (List AV×Hp)
 | 0,_,_=>none
 | _+1,hp,[]=>some ([],hp)
 | n+1,hp,v::r=>
  match freeze n hp v with
  | some (v',bi)=>
   match cm n bi r with
   | some (r',kR)=>some (v'::r',kR)
   | none=>none
  | none=>none
end
def pL (n:Nat) (hp:Hp) (v:AV):Option (AV×Hp):=
 match v with
 | .ay id o k=>
  match ap hp id with
  | some (.cells true true ex sz cs)=>
   bif yx (o+k*sz) cs.length then
    some (.cx (ex&&yF 0 sz&&ym (o+k*sz) cs.length) sz k (slice o (k*sz) cs),dc hp id)
   else none
  | _=>freeze n hp v
 | _=>freeze n hp v
def IR:List AV->Option (List Nat)
 | []=>some []
 | .ay id _ _::r=>match IR r with | some l=>bif l.any (ym id) then none else some (id::l) | none=>none
 | v::r=>bif aX v then IR r else none
def zP (n:Nat):Hp->List AV->Option (List AV×Hp)
 | hp,[]=>some ([],hp)
 | hp,v::r=>
  match pL n hp v with
  | some (v',bi)=>match zP n bi r with | some (r',kR)=>some (v'::r',kR) | none=>none
  | none=>none
def deep:Nat:=1000
def result (hp:Hp) (v:AV):Option AV:=
 match v with
 | .av vs=>
  match IR vs with
  | some _=>match zP deep hp vs with | some (dA,_)=>some (.av dA) | none=>none
  | none=>match freeze deep hp v with | some (v',_)=>some v' | none=>none
 | v=>match pL deep hp v with | some (v',_)=>some v' | none=>none
def bG:AV->AV
 | .cx ex _ n cs=> .aq ex n cs
 | v=>v
def Ak:List AV->List AV
 | []=>[]
 | v::r=>bG v::Ak r
def shut:AV->AV
 | .cx ex _ n cs=> .aq ex n cs
 | .av vs=> .av (Ak vs)
 | v=>v
def et (hp:Hp) (ct:Nat):AV->AV×Hp×Nat
 | .cx ex sz n cs=>(.ay ct 0 n,(ct,.cells true true ex sz cs)::hp,ct+1)
 | v=>(v,hp,ct)
def iz:Hp->Nat->List AV->List AV×Hp×Nat
 | hp,ct,[]=>([],hp,ct)
 | hp,ct,v::r=>((et hp ct v).1::(iz (et hp ct v).2.1 (et hp ct v).2.2 r).1,(iz (et hp ct v).2.1 (et hp ct v).2.2 r).2)
def own (hp:Hp) (ct:Nat):AV->AV×Hp×Nat
 | .av vs=>(.av (iz hp ct vs).1,(iz hp ct vs).2)
 | v=>et hp ct v
mutual
def refs:AV->List Nat
 | .ptr id _=>[id]
 | .ay id _ _=>[id]
 | .map id=>[id]
 | .it id=>[id]
 | .fn (.f _) first cap=>hX first++hX cap
 | .fn (.y l) _ _=>[l]
 | .agg cs=>hX cs
 | .av cs=>hX cs
 | _=>[]
def hX:List AV->List Nat
 | []=>[]
 | v::r=>refs v++hX r
end
def hZ:Env->List Nat
 | []=>[]
 | (_,v)::r=>refs v++hZ r
def mF:Obj->List Nat
 | .cells _ pu _ _ cs=>bif pu then [] else hX cs
 | .mp _ ks vs=>hX ks++hX vs
 | .si _ _=>[]
 | .lp tm _ _ _ _ _=>hZ tm
mutual
def bJ (f:Nat->Option Nat):AV->AV
 | .ptr id o=>match f id with | some j=> .ptr j o | none=> .undef
 | .ay id o n=>match f id with | some j=> .ay j o n | none=> .undef
 | .map id=>match f id with | some j=> .map j | none=> .undef
 | .it id=>match f id with | some j=> .it j | none=> .undef
 | .fn (.f g) first cap=> .fn (.f g) (eG f first) (eG f cap)
 | .fn (.y l) first cap=>match f l with | some j=> .fn (.y j) (eG f first) (eG f cap) | none=> .undef
 | .agg cs=> .agg (eG f cs)
 | .av cs=> .av (eG f cs)
 | v=>v
def eG (f:Nat->Option Nat):List AV->List AV
 | []=>[]
 | v::r=>bJ f v::eG f r
end
def jf (f:Nat->Option Nat):Env->Env
 | []=>[]
 | (i,v)::r=>(i,bJ f v)::jf f r
def jC (f:Nat->Option Nat):Obj->Obj
 | .cells rw pu ex sz cs=> .cells rw pu ex sz (bif pu then cs else eG f cs)
 | .mp rw ks vs=> .mp rw (eG f ks) (eG f vs)
 | .si s pos=> .si s pos
 | .lp tm ps cf body st pe=> .lp (jf f tm) ps cf body st pe
def dd (tm:Env):List Nat->Env
 | []=>[]
 | i::r=>(i,ah tm i)::dd tm r
def jD (i:Nat):List Nat->Bool
 | []=>false
 | j::r=>bif ym j i then true else jD i r
def reach (hp:Hp) (base:Nat):Nat->List Nat->List Nat->List Nat
 | 0,_,seen=>seen
 | _+1,[],seen=>seen
 | n+1,id::gL,seen=>
  bif yF id base||jD id seen then reach hp base n gL seen
  else match ap hp id with
   | some o=>reach hp base n (mF o++gL) (seen++[id])
   | none=>reach hp base n gL seen
def gY (base:Nat):Hp->List Nat
 | []=>[]
 | (id,o)::r=>bif yF id base then mF o++gY base r else gY base r
def jE (i:Nat):List Nat->Nat->Option Nat
 | [],_=>none
 | j::r,k=>bif ym j i then some k else jE i r (k+1)
def ja (base:Nat) (seen:List Nat) (id:Nat):Option Nat:=bif yF id base then some id else jE id seen base
def jY (base:Nat) (f:Nat->Option Nat):Hp->Hp
 | []=>[]
 | (id,o)::r=>bif yF id base then (id,jC f o)::jY base f r else jY base f r
def jb (hp:Hp) (f:Nat->Option Nat):List Nat->Nat->Hp->Hp
 | [],_,acc=>acc
 | id::r,k,acc=>match ap hp id with | some o=>jb hp f r (k+1) ((k,jC f o)::acc) | none=>jb hp f r (k+1) acc
def aV (live:List Nat) (s:St):St:=
 let tm:=dd s.tm live
 let seen:=reach s.hp s.base 100000 (hZ tm++gY s.base s.hp) []
 let f:=ja s.base seen
 {tm:=jf f tm,hp:=jb s.hp f seen s.base (jY s.base f s.hp),ct:=s.base+seen.length,base:=s.base}
def jt (hp:Hp) (sz:Nat):AV->Option (Nat×List AV)
 | .af=>some (0,[])
 | .aq _ n cs=>bif ym cs.length (n*sz) then some (n,cs) else none
 | .ay id o n=>
  match ap hp id with
  | some (.cells _ _ _ _ cs)=>bif yx (o+n*sz) cs.length then some (n,slice o (n*sz) cs) else none
  | _=>none
 | _=>none
def Iu:List Nat->List AV
 | []=>[]
 | b::r=> .int .u8 b::Iu r
def sR:List Nat->List Nat->Bool
 | _,[]=>false
 | [],_::_=>true
 | a::x,b::y=>yF a b||(ym a b&&sR x y)
def bV:List Nat->List Nat->Bool
 | [],[]=>true
 | a::x,b::y=>ym a b&&bV x y
 | _,_=>false
def cG:List Nat->List AV->List AV->Option Bool
 | [],[],[]=>some true
 | 0::ks,.bool a::x,.bool b::y=>match cG ks x y with | some r=>some ((a==b)&&r) | none=>none
 | 1::ks,.int k a::x,.int k' b::y=>if k=k' then (match cG ks x y with | some r=>some ((a==b)&&r) | none=>none) else none
 | 2::ks,.str a::x,.str b::y=>match cG ks x y with | some r=>some (bV a b&&r) | none=>none
 | _,_,_=>none
def ib:Kj->AV->AV->Option Bool
 | .b,.bool a,.bool b=>some (a==b)
 | .sl,.af,.af=>some true
 | .sl,.af,.aq _ _ _=>some false
 | .sl,.af,.ay _ _ _=>some false
 | .sl,.aq _ _ _,.af=>some false
 | .sl,.ay _ _ _,.af=>some false
 | .fn,.gK,.gK=>some true
 | .fn,.gK,.fn _ _ _=>some false
 | .fn,.fn _ _ _,.gK=>some false
 | .ag ks,.agg a,.agg b=>cG ks a b
 | _,_,_=>none
def intCmp (op:wj) (x y:Int):Option Bool:=
 match op with
 | .eql=>some (x==y)
 | .neq=>some (x !=y)
 | .lss=>some (decide (x<y))
 | .leq=>some (decide (x<=y))
 | .gtr=>some (decide (x>y))
 | .geq=>some (decide (x>=y))
 | _=>none
def jy (op:wj) (k:yV) (x y:Int):Option AV:=
 match op with
 | .add=>some (.int k (k.wrap (x+y)))
 | .sub=>some (.int k (k.wrap (x-y)))
 | .mul=>some (.int k (k.wrap (x*y)))
 | .quo=>if y=0 then none else some (.int k (k.wrap (x.tdiv y)))
 | .rem=>if y=0 then none else some (.int k (x.tmod y))
 | .and=>some (.int k (k.wrap (xD k.bits x&&&xD k.bits y).toNat))
 | .or=>some (.int k (k.wrap (xD k.bits x|||xD k.bits y).toNat))
 | .xor=>some (.int k (k.wrap (xD k.bits x^^^xD k.bits y).toNat))
 | .andNot=>some (.int k (k.wrap (xD k.bits x&&&~~~(xD k.bits y)).toNat))
 | .shl | .shr=>none
 | op=>match intCmp op x y with | some b=>some (.bool b) | none=>none
def zQ (op:wj) (k:yV) (x y:Int):Option AV:=
 if y<0 then none else
 match op with
 | .shl=>some (.int k (k.wrap (x*2^(min y.toNat k.bits))))
 | .shr=>some (.int k (x.fdiv (2^(min y.toNat k.bits))))
 | _=>none
def Ff (op:wj) (x y:List Nat):Option AV:=
 match op with
 | .add=>bif yx (x.length+y.length) 9223372036854775807 then some (.str (x++y)) else none
 | .eql=>some (.bool (bV x y))
 | .neq=>some (.bool (!bV x y))
 | .lss=>some (.bool (sR x y))
 | .leq=>some (.bool (sR x y||bV x y))
 | .gtr=>some (.bool (!(sR x y||bV x y)))
 | .geq=>some (.bool (!sR x y))
 | _=>none
def Nc (op:wj) (k:xV) (x y:Nat):Option AV:=
 let c:=k.format.order x y
 let ar (r:Option Nat):Option AV:=match r with | some b=>some (.aD k b) | none=>none
 match op with
 | .add=>ar (k.format.add x y)
 | .sub=>ar (k.format.sub x y)
 | .mul=>ar (k.format.mul x y)
 | .quo=>ar (k.format.div x y)
 | .eql=>some (.bool (c==some .eq))
 | .neq=>some (.bool (c !=some .eq))
 | .lss=>some (.bool (c==some .lt))
 | .leq=>some (.bool (c==some .lt||c==some .eq))
 | .gtr=>some (.bool (c==some .gt))
 | .geq=>some (.bool (c==some .gt||c==some .eq))
 | _=>none
def oO (op:wj) (k:xV) (x y:Nat):Option Nat:=
 match op with
 | .add=>k.format.add x y
 | .sub=>k.format.sub x y
 | .mul=>k.format.mul x y
 | _=>none
def Nf (op:wj) (k:xV) (a b c d:Nat):Option AV:=
 match op with
 | .eql=>some (.bool (k.format.order a c==some .eq&&k.format.order b d==some .eq))
 | .neq=>some (.bool (!(k.format.order a c==some .eq&&k.format.order b d==some .eq)))
 | .add=>match oO .add k a c,oO .add k b d with | some r,some i=>some (.c9 k r i) | _,_=>none
 | .sub=>match oO .sub k a c,oO .sub k b d with | some r,some i=>some (.c9 k r i) | _,_=>none
 | _=>none
def U8 (x y:AV):Option AV:=
 match x,y with
 | .aD k a,.aD k' b=>if k=k' then some (.c9 k a b) else none
 | _,_=>none
def binOp (op:wj) (x y:AV):Option AV:=
 match x,y with
 | .int k a,.int k' b=>
  match op with
  | .shl | .shr=>zQ op k a b
  | _=>if k=k' then jy op k a b else none
 | .aD k a,.aD k' b=>if k=k' then Nc op k a b else none
 | .str a,.str b=>Ff op a b
 | .c9 k a b,.c9 k' c d=>if k=k' then Nf op k a b c d else none
 | _,_=>none
def unOp (op:ybc) (x:AV):Option AV:=
 match op,x with
 | .neg,.int k n=>some (.int k (k.wrap (0-n)))
 | .xor,.int k n=>jy .xor k (if k.signed then -1 else k.max) n
 | .not,.bool b=>some (.bool !b)
 | .neg,.aD k b=>some (.aD k (b^^^2^(k.format.exponentBits+k.format.fractionBits)))
 | _,_=>none
def kL (c:Conv) (x:AV):Option AV:=
 match c,x with
 | .toInt k,.int _ n=>some (.int k (k.wrap n))
 | .toFlt k,.int _ n=>some (.aD k (k.nearest n))
 | .toInt k,.aD s b=>
  match (s.decode b).toInt .zero with
  | some n=>if k.min<=n/\n<=k.max then some (.int k n) else none
  | none=>none
 | .toFlt k,.aD s b=>
  if s=k then some (.aD k b) else
  match s.decode b with
  | .number sg m e=>if (k.decode (k.encode (.number sg m e))).isInfinity then none else some (.aD k (k.encode (.number sg m e)))
  | _=>none
 | .str,.str s=>some (.str s)
 | .re,.c9 k a _=>some (.aD k a)
 | .im,.c9 k _ b=>some (.aD k b)
 | _,_=>none
def fQ (sz:Nat) (ag:Bool) (cs:List AV):Option AV:=
 bif ag then (bif yx sz cs.length then some (.agg (cs.take sz)) else none)
 else match cs with | v::_=>some v | []=>none
def db (x:AV):Option Nat:=
 match x with
 | .int _ n=>match n with | .ofNat k=>some k | .negSucc _=>none
 | _=>none
def cL (tm:Env) (d:Nat):Option X->Option Nat
 | none=>some d
 | some x=>db (ao tm x)
def eB (hp:Hp) (k:Cut) (x:AV) (tm:Env) (lo hi:Option X):Option AV:=
 match k,x with
 | .str,.str s=>
  match cL tm 0 lo,cL tm s.length hi with
  | some l,some h=>bif yx l h&&yx h s.length then some (.str ((s.take h).drop l)) else none
  | _,_=>none
 | .sl _,.af=>
  match cL tm 0 lo,cL tm 0 hi with
  | some 0,some 0=>some .af
  | _,_=>none
 | .sl sz,.aq ex n cs=>
  match cL tm 0 lo,cL tm n hi with
  | some l,some h=>bif yx l h&&yx h n then some (.aq (ex&&ym h n) (h-l) (slice (l*sz) ((h-l)*sz) cs)) else none
  | _,_=>none
 | .sl sz,.ay id o n=>
  match ap hp id with
  | some (.cells _ _ _ z _)=>
   match cL tm 0 lo,cL tm n hi with
   | some l,some h=>
    bif yx l h&&yx h n&&ym z sz then
     bif ym l h&& !ym l 0 then some (.aq false 0 []) else some (.ay id (o+l*sz) (h-l))
    else none
   | _,_=>none
  | _=>none
 | _,_=>none
def fill (tm:Env):List AV->List (Nat×Nat×X)->Option (List AV)
 | cs,[]=>some cs
 | cs,(o,sz,x)::r=>
  let new:=cellsOf (ao tm x)
  bif ym new.length sz&&yx (o+sz) cs.length&&cd new then fill tm (over o new cs) r else none
def lJ:AV->AV->Option Bool
 | .int k a,.int k' b=>if k=k' then some (a==b) else none
 | .str a,.str b=>some (bV a b)
 | .bool a,.bool b=>some (a==b)
 | .agg a,.agg b=>cG (yC a.length 1) a b
 | _,_=>none
def lz:Nat->AV->Bool
 | 0,.bool _=>true
 | 1,.int _ _=>true
 | 2,.str _=>true
 | n+3,.agg cs=>ym cs.length n
 | _,_=>false
def Al (k:AV):List AV->List AV->Option (Option AV)
 | [],_=>some none
 | k'::ks,v::vs=>match lJ k k' with | some true=>some (some v) | some false=>Al k ks vs | none=>none
 | _::_,[]=>none
def qd (k v:AV):List AV->List AV->Option (List AV×List AV)
 | [],[]=>some ([k],[v])
 | k'::ks,u::us=>
  match lJ k k' with
  | some true=>some (k'::ks,v::us)
  | some false=>match qd k v ks us with | some (iS,Gq)=>some (k'::iS,u::Gq) | none=>none
  | none=>none
 | _,_=>none
def min2:AV->AV->Option AV
 | .int k x,.int _ y=>some (.int k (if y<x then y else x))
 | .aD k x,.aD _ y=>
  match k.format.order x y with
  | none=>none
  | some .lt=>some (.aD k x)
  | some .gt=>some (.aD k y)
  | some .eq=>some (.aD k (if (k.decode x).neg then x else y))
 | _,_=>none
def max2:AV->AV->Option AV
 | .int k x,.int _ y=>some (.int k (if y>x then y else x))
 | .aD k x,.aD _ y=>
  match k.format.order x y with
  | none=>none
  | some .lt=>some (.aD k y)
  | some .gt=>some (.aD k x)
  | some .eq=>some (.aD k (if (k.decode x).neg then y else x))
 | _,_=>none
def r5 (f:AV->AV->Option AV):AV->List AV->Option AV
 | a,[]=>some a
 | a,b::r=>match f a b with | some c=>r5 f c r | none=>none
def room:Nat:=1099511627776
abbrev fj:=Option (AV×Hp×Nat)
def eM (hp:Hp) (sz:Nat) (ag:Bool):AV->Option AV
 | .ptr id o=>match ap hp id with | some (.cells _ _ _ _ cs)=>fQ sz ag (cs.drop o) | _=>none
 | .bR cs=>fQ sz ag cs
 | _=>none
def Fg (k:Nat):AV->Option AV
 | .ptr id o=>some (.ptr id (o+k))
 | .bR cs=>bif yx k cs.length then some (.bR (cs.drop k)) else none
 | _=>none
def I7 (o sz:Nat) (ag:Bool):AV->Option AV
 | .agg cs=>fQ sz ag (cs.drop o)
 | _=>none
def iv (sz i:Nat):AV->Option AV
 | .ay id o n=>bif yF i n then some (.ptr id (o+i*sz)) else none
 | .aq _ n cs=>bif yF i n then some (.bR (cs.drop (i*sz))) else none
 | _=>none
def r7 (len sz i:Nat):AV->Option AV
 | .ptr id o=>bif yF i len then some (.ptr id (o+i*sz)) else none
 | .bR cs=>bif yF i len then some (.bR (cs.drop (i*sz))) else none
 | _=>none
def kI (i:Nat):AV->Option AV
 | .str s=>match s[i]? with | some b=>some (.int .u8 b) | none=>none
 | _=>none
def I8 (len sz:Nat) (ag:Bool) (i:Nat):AV->Option AV
 | .agg cs=>bif yF i len then fQ sz ag (cs.drop (i*sz)) else none
 | _=>none
def r8 (hp:Hp) (k:AV):AV->Option (Option AV)
 | .iO=>some none
 | .map id=>match ap hp id with | some (.mp _ ks vs)=>Al k ks vs | _=>none
 | .iP ks vs=>Al k ks vs
 | _=>none
def gF (hp:Hp):Nat->AV->Option AV
 | 0,.str s=>some (.int .i64 s.length)
 | 1,.af=>some (.int .i64 0)
 | 1,.aq _ n _=>some (.int .i64 n)
 | 1,.ay _ _ n=>some (.int .i64 n)
 | 2,.iO=>some (.int .i64 0)
 | 2,.iP ks _=>some (.int .i64 ks.length)
 | 2,.map id=>match ap hp id with | some (.mp _ ks _)=>some (.int .i64 ks.length) | _=>none
 | _,_=>none
def a7 (tm:Env) (hp:Hp):Op->Option AV
 | .nO x=>some (ao tm x)
 | .pick c a b=>match ao tm c with | .bool t=>some (bif t then ao tm a else ao tm b) | _=>none
 | .Aj zero parts=>match fill tm zero parts with | some cs=>some (.agg cs) | none=>none
 | .ld sz ag x=>eM hp sz ag (ao tm x)
 | .FB x=>
  match ao tm x with
  | .ptr id o=>some (.ptr id o)
  | .bR cs=>some (.bR cs)
  | .fn f a b=>some (.fn f a b)
  | _=>none
 | .bin op x y=>binOp op (ao tm x) (ao tm y)
 | .eq ne k x y=>match ib k (ao tm x) (ao tm y) with | some r=>some (.bool (ne !=r)) | none=>none
 | .un op x=>unOp op (ao tm x)
 | .cv k x=>kL k (ao tm x)
 | .Gp x y=>U8 (ao tm x) (ao tm y)
 | .lV n sz zero parts=>
  match fill tm zero parts with
  | some cs=>bif ym cs.length (n*sz)&&(yF 0 sz&&aC cs) then some (.aq true n cs) else none
  | none=>none
 | .CF f first cap=>some (.fn f (cX tm first) (cX tm cap))
 | .mR k x lo hi=>eB hp k (ao tm x) tm lo hi
 | .off k x=>Fg k (ao tm x)
 | .Gn o sz ag x=>I7 o sz ag (ao tm x)
 | .bt sz x i=>match db (ao tm i) with | some j=>iv sz j (ao tm x) | none=>none
 | .sQ len sz x i=>match db (ao tm i) with | some j=>r7 len sz j (ao tm x) | none=>none
 | .CG x i=>match db (ao tm i) with | some j=>kI j (ao tm x) | none=>none
 | .CH len sz ag x i=>match db (ao tm i) with | some j=>I8 len sz ag j (ao tm x) | none=>none
 | .Kk kk zero ok m k=>
  bif lz kk (ao tm k) then
   match r8 hp (ao tm k) (ao tm m) with
   | some (some v)=>some (bif ok then .av [v,.bool true] else v)
   | some none=>some (bif ok then .av [zero,.bool false] else zero)
   | none=>none
  else none
 | .ext i x=>match ao tm x with | .av vs=>vs[i]? | _=>none
 | .len k x=>gF hp k (ao tm x)
 | .mn xs=>match cX tm xs with | a::r=>r5 min2 a r | []=>none
 | .mx xs=>match cX tm xs with | a::r=>r5 max2 a r | []=>none
 | _=>none
def ck (tm:Env) (hp:Hp) (ct:Nat):Op->Option (AV×Obj)
 | .box sz x=>
  let cs:=cellsOf (ao tm x)
  bif ym cs.length sz&&cd cs then some (.ptr ct 0,.cells true (aC cs) true sz cs) else none
 | .fB n sz zero parts=>
  match fill tm zero parts with
  | some cs=>bif ym cs.length (n*sz) then some (.ay ct 0 n,.cells true (aC cs) true sz cs) else none
  | none=>none
 | .lU sz bytes zero len cap=>
  match db (ao tm len),db (ao tm cap) with
  | some l,some c=>
   bif yx l c&&(yx c room&&(yx (c*bytes) room&&(ym zero.length sz&&cd zero))) then
    some (.ay ct 0 l,.cells true (aC zero) (ym l c) sz (yC l zero).flatten)
   else none
  | _,_=>none
 | .qJ=>some (.map ct,.mp true [] [])
 | .mT x=>match ao tm x with | .str s=>some (.it ct,.si s 0) | _=>none
 | _=>none
def decodeL (s:List Nat) (i:Nat):Nat×Nat:=
 let at' (k:Nat):Nat:=s.getD (i+k) 0
 let cont (k:Nat):Bool:=decide (i+k<s.length)&&at' k/64==2
 let b0:=at' 0
 if b0<0x80 then (b0,1)
 else if b0/32==6&&cont 1 then
  let c:=(b0%32)*64+at' 1%64
  if c>=0x80 then (c,2) else (vz,1)
 else if b0/16==14&&cont 1&&cont 2 then
  let c:=(b0%16)*4096+(at' 1%64)*64+at' 2%64
  if c>=0x800&&tR c then (c,3) else (vz,1)
 else if b0/8==30&&cont 1&&cont 2&&cont 3 then
  let c:=(b0%8)*262144+(at' 1%64)*4096+(at' 2%64)*64+at' 3%64
  if c>=0x10000&&tR c then (c,4) else (vz,1)
 else (vz,1)
def fW (hp:Hp) (sz:Nat):AV->Option (Nat×List AV)
 | .str b=>bif ym sz 1 then some (b.length,Iu b) else none
 | v=>jt hp sz v
def ow (hp:Hp) (ct sz bytes:Nat) (s:AV) (src:Option (Nat×List AV)):Option (AV×Obj):=
 match src with
 | none=>none
 | some (m,new)=>
  match s with
  | .ay id o n=>
   match ap hp id with
   | some (.cells _ pu true z cs)=>
    bif ym z sz&&(yF 0 m&&(yx (n+m) room&&(yx ((n+m)*bytes) room&&(ym (o+n*sz) cs.length&&yF 0 sz)))) then
     some (.ay ct 0 (n+m),.cells true (pu&&aC new) false sz (slice o (n*sz) cs++new))
    else none
   | _=>none
  | _=>none
def bT (tm:Env) (hp:Hp) (ct:Nat):Op->fj
 | .st sz x v=>
  let new:=cellsOf (ao tm v)
  match ao tm x with
  | .ptr id o=>
   match ap hp id with
   | some (.cells true pu ex z cs)=>
    bif ym new.length sz&&yx (o+sz) cs.length&&cd new then
     some (.av [],a6 hp id (.cells true (pu&&aC new) ex z (over o new cs)),ct)
    else none
   | _=>none
  | _=>none
 | .mS kk m k v=>
  match ao tm m with
  | .map id=>
   match ap hp id with
   | some (.mp true ks vs)=>bif !lz kk (ao tm k) then none else match qd (ao tm k) (ao tm v) ks vs with | some (iS,dA)=>some (.av [],a6 hp id (.mp true iS dA),ct) | none=>none
   | _=>none
  | _=>none
 | .mU x=>
  match ao tm x with
  | .it id=>
   match ap hp id with
   | some (.si s pos)=>
    bif yF pos s.length then
     match decodeL s pos with
     | (c,wd)=>some (.av [.bool true,.int .i64 pos,.int .i32 c],a6 hp id (.si s (pos+wd)),ct)
    else some (.av [.bool false],hp,ct)
   | _=>none
  | _=>none
 | .cD sz bytes s x=>
  match fW hp sz (ao tm x) with
  | none=>none
  | some (m,new)=>
   match ao tm s with
   | .af=>
    bif ym m 0 then some (.af,hp,ct)
    else bif yx m room&&(yx (m*bytes) room&&yF 0 sz) then some (.ay ct 0 m,(ct,.cells true (aC new) false sz new)::hp,ct+1) else none
   | .aq true n cs=>
    bif ym m 0 then some (.aq true n cs,hp,ct)
    else bif yx (n+m) room&&(yx ((n+m)*bytes) room&&(ym cs.length (n*sz)&&yF 0 sz)) then some (.ay ct 0 (n+m),(ct,.cells true (aC cs&&aC new) false sz (cs++new))::hp,ct+1) else none
   | .ay id o n=>
    match ap hp id with
    | some (.cells true pu _ z cs)=>
     bif ym z sz&&(yx (n+m) room&&(yx ((n+m)*bytes) room&&(yx (o+n*sz) cs.length&&(yF 0 sz&&cd new)))) then
      some (.ay ct 0 (n+m),(ct,.cells true (pu&&aC new) false sz (slice o (n*sz) cs++new))::dc hp id,ct+1)
     else none
    | _=>none
   | _=>none
 | .mW sz d s=>
  match jt hp sz (ao tm s),ao tm d with
  | some (m,new),.ay id o n=>
   match ap hp id with
   | some (.cells true pu ex z cs)=>
    bif ym z sz&&(yx (o+n*sz) cs.length&&cd new) then
     some (.int .i64 (min m n:Nat),a6 hp id (.cells true (pu&&aC new) ex z (over o (new.take (min m n*sz)) cs)),ct)
    else none
   | _=>none
  | _,_=>none
 | _=>none
def gG:X->List Nat | .t i=>[i] | .c _=>[]
def pM:List X->List Nat
 | []=>[]
 | x::r=>gG x++pM r
def Fh:Option X->List Nat | some x=>gG x | none=>[]
def Fi:List (Nat×Nat×X)->List Nat
 | []=>[]
 | (_,_,x)::r=>gG x++Fi r
def ir:Op->List Nat
 | .nO x | .box _ x | .ld _ _ x | .FB x | .un _ x | .cv _ x | .off _ x | .Gn _ _ _ x | .mT x | .mU x | .ext _ x | .len _ x=>gG x
 | .pick a b c | .mS _ a b c=>gG a++(gG b++gG c)
 | .Aj _ ps | .fB _ _ _ ps | .lV _ _ _ ps=>Fi ps
 | .st _ a b | .bin _ a b | .Gp a b | .eq _ _ a b | .bt _ a b | .sQ _ _ a b | .CG a b | .CH _ _ _ a b | .Kk _ _ _ a b | .cD _ _ a b | .mV _ _ a b | .mW _ a b=>gG a++gG b
 | .CF _ a b=>pM a++pM b
 | .qJ=>[]
 | .lU _ _ _ a b=>gG a++gG b
 | .mR _ x a b=>gG x++(Fh a++Fh b)
 | .call _ f xs=>gG f++pM xs
 | .gE _ f xs=>gG f++pM xs
 | .iR _ _ a b=>gG a++gG b
 | .jj _ _ _ a b=>gG a++gG b
 | .mn xs | .mx xs=>pM xs
def a8:Op->Nat
 | .nO _ | .pick _ _ _ | .Aj _ _ | .FB _ | .bin _ _ _ | .eq _ _ _ _ | .un _ _ | .cv _ _ | .CF _ _ _ | .off _ _ | .Gn _ _ _ _ | .bt _ _ _ | .sQ _ _ _ _ | .CG _ _ | .CH _ _ _ _ _ | .ext _ _ | .mn _ | .mx _ | .Gp _ _ | .lV _ _ _ _=>0
 | .mR .str _ _ _ | .len 0 _ | .len 1 _=>0
 | .st _ _ _ | .mS _ _ _ _ | .mU _ | .cD _ _ _ _ | .mW _ _ _ | .gE _ _ _ | .iR _ _ _ _ | .jj _ _ _ _ _ | .call .heap _ _ | .call .dyn _ _=>2
 | _=>1
def Ng:Option (Nat×Bool)->List Nat | some (t,_)=>[t] | none=>[]
def zV (o:aM):List Nat:=Ng o.guard++ir o.op
def B9 (d:Option Nat) (l:List Nat):Bool:=match d with | some i=>jD i l | none=>false
def Nh (d e:Option Nat):Bool:=match d,e with | some i,some j=>ym i j | _,_=>false
def H7 (a b:aM):Bool:=B9 a.dst (zV b)||B9 b.dst (zV a)||Nh a.dst b.dst
def Ax (sz:Nat) (ag:Bool) (t:Nat):List (Nat×Bool×Nat)->Bool
 | []=>false
 | (s,g,u)::r=>(ym s sz&&(g==ag&&ym u t))||Ax sz ag t r
def Am (t:Nat):List aM->Bool
 | []=>true
 | o::r=> !B9 o.dst [t]&&Am t r
def Ew (a b:aM) (r:List aM):Bool:=
 match a.guard,a.op,b.op with
 | none,.ld sz ag (.t t),.gE rs _ _=>Ax sz ag t rs&&Am t (a::r)
 | none,.ld sz ag (.t t),.iR rs _ _ _=>Ax sz ag t rs&&Am t (a::r)
 | none,.ld sz ag (.t t),.jj rs _ _ _ _=>Ax sz ag t rs&&Am t (a::r)
 | _,_,_=>false
def Ed (a b:aM):Bool:=
 match a8 a.op,a8 b.op with
 | 1,2 | 2,1 | 2,2=>true
 | _,_=>false
def H8 (m:Nat) (b:aM):List aM->Nat->Bool
 | [],_=>true
 | a::r,i=>(wA m i|| !(H7 a b||(Ed a b&& !Ew a b r)))&&H8 m b r (i+1)
def mu (done:List aM):List aM->List Nat->Bool
 | [],_=>true
 | b::r,m::ms=>H8 m b done 0&&mu (done++[b]) r ms
 | _::_,[]=>false
def Ey (m:Nat):List aM->Nat->List (Nat×Bool×Nat)
 | [],_=>[]
 | a::r,i=>
  match wA m i,a with
  | false,⟨_,none,.ld sz ag (.t t)⟩=>(sz,ag,t)::Ey m r (i+1)
  | _,_=>Ey m r (i+1)
def stOp (rs:List (Nat×Bool×Nat)) (sz:Nat) (x v:X):Op:=match rs with | []=> .st sz x v | rs=> .iR rs sz x v
def Wo (rs:List (Nat×Bool×Nat)) (sz b:Nat) (x v:X):Op:=match rs with | []=> .cD sz b x v | rs=> .jj rs sz b x v
def iL (done:List aM):List aM->List Nat->List aM
 | ⟨d,g,.gE _ f xs⟩::r,m::ms=>let o:aM:=⟨d,g,.gE (Ey m done 0) f xs⟩;o::iL (done++[o]) r ms
 | ⟨d,g,.st sz x v⟩::r,m::ms=>let o:aM:=⟨d,g,stOp (Ey m done 0) sz x v⟩;o::iL (done++[o]) r ms
 | ⟨d,g,.cD sz b x v⟩::r,m::ms=>let o:aM:=⟨d,g,Wo (Ey m done 0) sz b x v⟩;o::iL (done++[o]) r ms
 | o::r,_::ms=>o::iL (done++[o]) r ms
 | l,_=>l
def UD (done:List aM):X->Bool
 | .t i=>done.any fun o=>match o.dst,o.op with | some j,.fB _ _ _ _=>ym i j | _,_=>false
 | _=>false
def B1 (done:List aM):List aM->List aM
 | []=>[]
 | o::r=>(match o.op with | .cD sz b x v=>bif UD done x then ⟨o.dst,o.guard,.mV sz b x v⟩ else o | _=>o)::B1 (done++[o]) r
def IS (d:Option Nat):List aM->Bool
 | []=>false
 | ⟨_,_,.cD _ _ _ (.t i)⟩::r=>Nh d (some i)||IS d r
 | _::r=>IS d r
def An (all:List aM):List aM->List aM
 | []=>[]
 | o::r=>(match o.op with | .fB n sz z ps=>bif IS o.dst all then ⟨o.dst,o.guard,.lV n sz z ps⟩ else o | _=>o)::An all r
def waits (m:Nat):List aM->Nat->Bool
 | [],_=>false
 | o::r,i=>(wA m i&&ym (a8 o.op) 2)||waits m r (i+1)
def early (all:List aM):List aM->List Nat->Nat->List Nat
 | o::r,m::ms,i=>bif !ym (a8 o.op) 2&& !waits m all 0 then i::early all r ms (i+1) else early all r ms (i+1)
 | _,_,_=>[]
def late (all:List aM):List aM->List Nat->Nat->List Nat
 | o::r,m::ms,i=>bif !ym (a8 o.op) 2&& !waits m all 0 then late all r ms (i+1) else i::late all r ms (i+1)
 | _,_,_=>[]
def places (l:List aM) (ms:List Nat):List Nat:=early l l ms 0++late l l ms 0
def BJ (m:Nat):List Nat->Nat->Nat
 | [],_=>0
 | x::r,i=>(bif wA m x then 2^i else 0)|||BJ m r (i+1)
def r9 (l:List aM):List Nat->List aM
 | []=>[]
 | x::r=>match l[x]? with | some o=>o::r9 l r | none=>r9 l r
def rK (ms pm all:List Nat):List Nat->List Nat
 | []=>[]
 | x::r=>BJ (ms.getD x 0) pm 0::rK ms pm all r
def EJ (n:Nat) (pm inv:List Nat):Bool:=
 ym pm.length n&&(wL n).all fun i=>yF (pm.getD i i) n&&(yF (inv.getD i i) n&&(ym (inv.getD (pm.getD i i) i) i&&ym (pm.getD (inv.getD i i) i) i))
def oz (pm:List Nat) (n:Nat):List Nat:=(wL n).map fun x=>(jE x pm 0).getD x
abbrev aR:=Nat->Option aF
structure Lib where
 pure:Nat->Option (List AV->Option AV)
 heap:Nat->Option (Hp->Nat->List AV->fj)
abbrev bZ:=VC->St->Option (Ex×St)
def eE:Nat->List AV->Env
 | _,[]=>[]
 | i,v::r=>(i,v)::eE (i+1) r
def results1 (s:St):RV->Option AV
 | .t i=>some (ah s.tm i)
 | .cell i sz ag=>
  match ah s.tm i with
  | .ptr id o=>match ap s.hp id with | some (.cells _ _ _ _ cs)=>fQ sz ag (cs.drop o) | _=>none
  | .bR cs=>fQ sz ag cs
  | _=>none
def jq (s:St):List RV->Option (List AV)
 | []=>some []
 | r::rest=>match results1 s r,jq s rest with | some v,some vs=>some (v::vs) | _,_=>none
def gA (s:St) (rs:List RV):Option AV:=
 match jq s rs with
 | some [v]=>some v
 | some vs=>some (.av vs)
 | none=>none
def bA (P:aR) (L:Lib) (self:bZ) (n:Nat) (aj:List AV):Option AV:=
 match L.pure n with
 | some sp=>sp aj
 | none=>
  match P n with
  | none=>none
  | some F=>
   match self F.body ⟨eE 0 aj,[],0,0⟩ with
   | some (.normal,s) | some (.ret,s)=>match gA s F.eT with | some v=>result s.hp v | none=>none
   | _=>none
def MO:Ex->qc
 | .normal=> .none
 | .ret=> .ret
 | .exit id=> .exit id
def oe:Env->List Nat->List AV->Option Env
 | tm,[],[]=>some tm
 | tm,p::ps,v::vs=>oe ((p,v)::tm) ps vs
 | _,_,_=>none
def gD (P:aR) (L:Lib) (self:bZ) (hp:Hp) (ct:Nat) (n:Nat) (aj:List AV):fj:=
 match L.heap n with
 | some sp=>sp hp ct aj
 | none=>
  match P n with
  | none=>none
  | some F=>
   match self F.body ⟨eE 0 aj,hp,ct,ct⟩ with
   | some (.normal,s) | some (.ret,s)=>match gA s F.eT with | some v=>some (v,s.hp,s.ct) | none=>none
   | _=>none
def lA (self:bZ) (hp:Hp) (ct:Nat) (l:Nat) (xs:List AV):fj:=
 match ap hp l with
 | some (.lp tm ps cf body 0 _)=>
  match oe tm ps xs with
  | none=>none
  | some bS=>
   match self cf ⟨bS,hp,ct,ct⟩ with
   | some (.normal,s1)=>
    match ap s1.hp l with
    | some (.lp iA AT AU Ao 0 qK)=>
     match self body ⟨s1.tm,a6 s1.hp l (.lp iA AT AU Ao 1 qK),s1.ct,s1.ct⟩ with
     | some (ex,s2)=>
      match ap s2.hp l with
      | some (.lp oP Gr Gs Fj 1 _)=>
       match ex with
       | .normal=>some (.bool true,a6 s2.hp l (.lp oP Gr Gs Fj 0 .none),s2.ct)
       | ex=>some (.bool false,a6 s2.hp l (.lp oP Gr Gs Fj 2 (MO ex)),s2.ct)
      | _=>none
     | none=>none
    | _=>none
   | _=>none
 | _=>none
def dO (P:aR) (L:Lib) (self:bZ) (hp:Hp) (ct:Nat) (m:Md) (fv:AV) (xs:List AV):fj:=
 match fv with
 | .fn (.f n) first cap=>
  match m with
  | .pure=>
   match cm deep hp (first++(xs++cap)) with
   | some (aj,bi)=>match bA P L self n aj with | some r=>some (shut r,bi,ct) | none=>none
   | none=>none
  | .own=>
   match cm deep hp (first++(xs++cap)) with
   | some (aj,bi)=>match bA P L self n aj with | some r=>some (own bi ct r) | none=>none
   | none=>none
  | .heap=>gD P L self hp ct n (first++(xs++cap))
  | .dyn=>
   bif aC (first++(xs++cap)) then
    match bA P L self n (first++(xs++cap)) with | some r=>some (shut r,hp,ct) | none=>none
   else gD P L self hp ct n (first++(xs++cap))
 | .fn (.y l) _ _=>
  match m with
  | .heap | .dyn=>lA self hp ct l xs
  | _=>none
 | _=>none
def NH:AV->AV->Bool
 | .int k a,.int k' b=>decide (k=k')&&a==b
 | .bool a,.bool b=>a==b
 | .str a,.str b=>bV a b
 | .af,.af=>true
 | .jB,.jB=>true
 | .ptr i o,.ptr j p=>ym i j&&ym o p
 | .ay i o n,.ay j p m=>ym i j&&(ym o p&&ym n m)
 | .map i,.map j=>ym i j
 | _,_=>false
def mv (tm:Env) (hp an:Hp):List (Nat×Bool×Nat)->Bool
 | []=>true
 | (sz,ag,x)::r=>
  match eM hp sz ag (ah tm x),eM an sz ag (ah tm x) with
  | some a,some b=>NH a b&&mv tm hp an r
  | _,_=>false
def jw (tm:Env) (id:Nat):List (Nat×Bool×Nat)->Bool
 | []=>true
 | (_,_,x)::r=>(match ah tm x with | .ptr j _=> !ym j id | .bR _=>true | _=>false)&&jw tm id r
def Ca (tm:Env) (s:AV) (rs:List (Nat×Bool×Nat)):Bool:=
 match s with
 | .ay id _ _=>jw tm id rs
 | .af | .aq _ _ _=>true
 | _=>false
def aW (P:aR) (L:Lib) (self:bZ) (tm:Env) (hp:Hp) (ct:Nat) (o:Op):fj:=
 match o with
 | .call m f xs=>dO P L self hp ct m (ao tm f) (cX tm xs)
 | .gE rs f xs=>
  match dO P L self hp ct .dyn (ao tm f) (cX tm xs) with
  | some (v,an,aT)=>bif mv tm hp an rs then some (v,an,aT) else none
  | none=>none
 | .iR rs sz x v=>
  match ao tm x with
  | .ptr id _=>bif jw tm id rs then bT tm hp ct (.st sz x v) else none
  | _=>none
 | .mV sz b x v=>
  match ow hp ct sz b (ao tm x) (fW hp sz (ao tm v)) with
  | some (v,b)=>some (v,(ct,b)::hp,ct+1)
  | none=>none
 | .jj rs sz b x v=>
  match bT tm hp ct (.cD sz b x v) with
  | some (v,an,aT)=>bif Ca tm (ao tm x) rs||mv tm hp an rs then some (v,an,aT) else none
  | none=>none
 | .st .. | .mS .. | .mU .. | .cD .. | .mW .. =>bT tm hp ct o
 | .box .. | .fB .. | .lU .. | .qJ | .mT .. =>match ck tm hp ct o with | some (v,b)=>some (v,(ct,b)::hp,ct+1) | none=>none
 | o=>match a7 tm hp o with | some v=>some (v,hp,ct) | none=>none
def put (d:Option Nat) (v:AV) (tm:Env):Env:=
 match d with
 | some i=>(i,v)::tm
 | none=>tm
def cI (P:aR) (L:Lib) (self:bZ):List aM->St->Option St
 | [],s=>some s
 | ⟨d,g,o⟩::r,s=>
  let want:=match g with | none=>some true | some (t,b)=>match ah s.tm t with | .bool c=>some (c==b) | .av []=>some false | _=>none
  match want with
  | some true=>
   match aW P L self s.tm s.hp s.ct o with
   | some (v,hp,ct)=>cI P L self r {s with tm:=put d v s.tm,hp:=hp,ct:=ct}
   | none=>none
  | some false=>cI P L self r {s with tm:=put d (.av []) s.tm}
  | none=>none
def mG:List Nat->St->Option St
 | [],s=>some s
 | t::r,s=>
  match freeze deep s.hp (ah s.tm t) with
  | some (v,hp)=>mG r {s with tm:=(t,v)::s.tm,hp:=hp}
  | none=>none
def bk (P:aR) (L:Lib) (self:bZ):VC->St->Option (Ex×St)
 | .skip,s=>some (.normal,s)
 | .jM ops,s=>match cI P L self ops s with | some s'=>some (.normal,s') | none=>none
 | .seq a b,s=>
  match bk P L self a s with
  | some (.normal,s1)=>bk P L self b s1
  | r=>r
 | .cond x a b,s=>
  match ao s.tm x with
  | .bool t=>bif t then bk P L self a s else bk P L self b s
  | _=>none
 | .cT id a,s=>
  match bk P L self a s with
  | some (.exit j,s1)=>bif ym j id then some (.normal,s1) else some (.exit j,s1)
  | r=>r
 | .kp live,s=>some (.normal,aV live s)
 | .fz ts,s=>match mG ts s with | some s'=>some (.normal,s') | none=>none
 | .loop live a,s=>
  match bk P L self a (aV live s) with
  | some (.normal,s1)=>self (.loop live a) s1
  | r=>r
 | .rf f ps cf body,s=>
  match ao s.tm f with
  | .fn (.f n) first cap=>
   match L.heap n with
   | some _=>none
   | none=>
    match gD P L self ((s.ct,.lp s.tm ps cf body 0 .none)::s.hp) (s.ct+1) n (first++(.fn (.y s.ct) [] []::cap)) with
    | some (_,hp,ct)=>
     match ap hp s.ct with
     | some (.lp _ _ _ _ st pe)=>
      bif ym st 1 then none else
      match pe with
      | .none=>some (.normal,{s with hp:=dc hp s.ct,ct:=ct})
      | .ret=>some (.ret,{s with hp:=dc hp s.ct,ct:=ct})
      | .exit id=>some (.exit id,{s with hp:=dc hp s.ct,ct:=ct})
     | _=>none
    | none=>none
  | _=>none
 | .exit id,s=>some (.exit id,s)
 | .ret,s=>some (.ret,s)
def ev (P:aR) (L:Lib) (n:Nat):bZ:=Nat.rec (fun _ _=>none) (fun _ ih=>bk P L ih) n
def OU (P:aR) (L:Lib) (n:Nat) (f:Nat) (aj:List AV):Option AV:=bA P L (ev P L n) f aj
end
section
open Go
structure Pl where
 b:Nat
 o:Nat
 e:Nat
 z:Nat
abbrev Mp:=Nat->Option Pl
section
variable (ab:Nat->Nat) (m:Mp) (S:Nat->Prop) (w:yh)
mutual
def ae:AV->yg->Prop
 | .int k n,v=>v= .int k n
 | .bool b,v=>v= .bool b
 | .aD k b,v=>v= .float k b
 | .c9 k a b,v=>v= .complex k a b
 | .str s,v=>∃t:ByteArray,v= .string t/\t.data.toList.map yZ=s
 | .jB,v=>v= .pointer none
 | .ptr id o,v=>∃p,m id=some p/\v= .pointer (some ⟨p.b,p.o+o,none⟩)
 | .bR cs,v=>∃b o,v= .pointer (some ⟨b,o,none⟩)/\(cs=[]\/S b)/\aC cs=true/\bF cs b o
 | .af,v=>v= .slice none 0 0
 | .aq ex n cs,v=>(∃b o c,v= .slice (some ⟨b,o,none⟩) n c/\n<=c/\(ex=true->c=n)/\(cs=[]\/S b)/\aC cs=true/\bF cs b o)\/(∃a,v= .slice (some a) 0 0/\n=0/\cs=[])
 | .cx _ _ _ _,_=>False
 | .ay id o n,v=>∃p c,m id=some p/\v= .slice (some ⟨p.b,p.o+o,none⟩) n c/\n<=c/\o+c*p.z=p.e
 | .fn (.f g) first cap,v=>∃fi ca:Array yg,v= .func (.func (ab g)) fi ca/\au first fi.toList/\au cap ca.toList
 | .fn (.y l) _ _,v=>∃p,m l=some p/\v= .func (.yield p.b) #[] #[]
 | .gK,v=>v= .nilFunc
 | .iO,v=>v= .map none
 | .map id,v=>∃p,m id=some p/\v= .map (some p.b)
 | .iP ks vs,v=>∃b es clock,v= .map (some b)/\S b/\aC ks=true/\aC vs=true/\w.heap[b]? =some (.map es clock)/\
   au ks (es.toList.map (·.key))/\au vs (es.toList.map (·.val))
 | .it id,v=>∃p,m id=some p/\v= .pointer (some ⟨p.b,0,none⟩)
 | .agg cs,v=>∃xs:Array yg,v= .agg xs/\au cs xs.toList
 | .av cs,v=>∃xs:Array yg,v= .tuple xs/\au cs xs.toList
 | .undef,_=>True
def au:List AV->List yg->Prop
 | [],us=>us=[]
 | c::cs,us=>∃u r,us=u::r/\ae c u/\au cs r
def bF:List AV->Nat->Nat->Prop
 | [],_,_=>True
 | c::cs,b,o=>(∃u,w.cell? ⟨b,o,none⟩=some u/\ae c u)/\bF cs b (o+1)
end
end
def eF (S:Nat->Prop) (w w':yh):Prop:=∀b,S b->w'.heap[b]? =w.heap[b]?
def Ht {w w':yh} {b o:Nat} (h:w'.heap[b]? =w.heap[b]?):w'.cell? ⟨b,o,none⟩=w.cell? ⟨b,o,none⟩:=by
 simp only [World.cell?,h]
section
variable {ab:Nat->Nat} {m m':Mp} {S S':Nat->Prop} {w w':yh}
mutual
def jr (hm:∀id p,m id=some p->m' id=some p) (hS:∀b,S b->S' b) (hw:eF S w w'):
  ∀(v:AV) (u:yg),ae ab m S w v u->ae ab m' S' w' v u
 | .int _ _,_,h | .bool _,_,h | .aD _ _,_,h | .c9 _ _ _,_,h | .str _,_,h | .jB,_,h | .af,_,h | .gK,_,h | .iO,_,h | .undef,_,h=>by
  simpa only [ae] using h
 | .ptr id o,u,h=>by
  simp only [ae] at h ⊢;obtain ⟨p,h1,h2⟩:=h;exact ⟨p,hm _ _ h1,h2⟩
 | .bR cs,u,h=>by
  simp only [ae] at h ⊢;obtain ⟨b,o,h1,h2,h3,h4⟩:=h;refine ⟨b,o,h1,h2.imp id (hS b),h3,?_⟩;rcases h2 with rfl | h2
  ·simp only [bF]
  ·exact Ln hm hS hw cs b o h2 h4
 | .aq ex n cs,u,h=>by
  simp only [ae] at h ⊢;rcases h with ⟨b,o,c,h1,h2,h3,h4,h5,h6⟩ | h
  ·refine .inl ⟨b,o,c,h1,h2,h3,h4.imp id (hS b),h5,?_⟩;rcases h4 with rfl | h4
   ·simp only [bF]
   ·exact Ln hm hS hw cs b o h4 h6
  ·exact .inr h
 | .cx _ _ _ _,u,h=>by simp only [ae] at h
 | .ay id o n,u,h=>by
  simp only [ae] at h ⊢;obtain ⟨p,c,h1,h2⟩:=h;exact ⟨p,c,hm _ _ h1,h2⟩
 | .fn (.f g) first cap,u,h=>by
  simp only [ae] at h ⊢;obtain ⟨fi,ca,h1,h2,h3⟩:=h;exact ⟨fi,ca,h1,fu hm hS hw first _ h2,fu hm hS hw cap _ h3⟩
 | .fn (.y l) _ _,u,h=>by
  simp only [ae] at h ⊢;obtain ⟨p,h1,h2⟩:=h;exact ⟨p,hm _ _ h1,h2⟩
 | .map id,u,h=>by
  simp only [ae] at h ⊢;obtain ⟨p,h1,h2⟩:=h;exact ⟨p,hm _ _ h1,h2⟩
 | .iP ks vs,u,h=>by
  simp only [ae] at h ⊢;obtain ⟨b,es,clock,h1,h2,h3,h4,h5,h6,h7⟩:=h;exact ⟨b,es,clock,h1,hS b h2,h3,h4,(hw b h2).trans h5,fu hm hS hw ks _ h6,fu hm hS hw vs _ h7⟩
 | .it id,u,h=>by
  simp only [ae] at h ⊢;obtain ⟨p,h1,h2⟩:=h;exact ⟨p,hm _ _ h1,h2⟩
 | .agg cs,u,h=>by
  simp only [ae] at h ⊢;obtain ⟨xs,h1,h2⟩:=h;exact ⟨xs,h1,fu hm hS hw cs _ h2⟩
 | .av cs,u,h=>by
  simp only [ae] at h ⊢;obtain ⟨xs,h1,h2⟩:=h;exact ⟨xs,h1,fu hm hS hw cs _ h2⟩
def fu (hm:∀id p,m id=some p->m' id=some p) (hS:∀b,S b->S' b) (hw:eF S w w'):
  ∀(vs:List AV) (us:List yg),au ab m S w vs us->au ab m' S' w' vs us
 | [],us,h=>by simpa only [au] using h
 | v::r,us,h=>by
  simp only [au] at h ⊢;obtain ⟨u,t,h1,h2,h3⟩:=h;exact ⟨u,t,h1,jr hm hS hw v u h2,fu hm hS hw r t h3⟩
def Ln (hm:∀id p,m id=some p->m' id=some p) (hS:∀b,S b->S' b) (hw:eF S w w'):
  ∀(cs:List AV) (b o:Nat),S b->bF ab m S w cs b o->bF ab m' S' w' cs b o
 | [],_,_,_,_=>by simp only [bF]
 | c::cs,b,o,hb,h=>by
  simp only [bF] at h ⊢;obtain ⟨⟨u,h1,h2⟩,h3⟩:=h;exact ⟨⟨u,(Ht (hw b hb)).trans h1,jr hm hS hw c u h2⟩,Ln hm hS hw cs b (o+1) hb h3⟩
end
end
end
section
open Go
structure Hint where
 n:Nat
 bJ:FuncId->Option Nat
 live:Nat->List Nat
 out:Nat->Option (List Nat)
 mode:Nat->Md
 fz:Nat->List Nat
section
variable (P:yK) (H:Hint)
mutual
def dP:yg->AV
 | .int k n=> .int k n
 | .bool b=> .bool b
 | .float k b=> .aD k b
 | .complex k a b=> .c9 k a b
 | .string s=> .str (s.data.toList.map yZ)
 | .pointer none=> .jB
 | .slice none 0 0=> .af
 | .map none=> .iO
 | .nilFunc=> .gK
 | .agg ⟨cs⟩=> .agg (BK cs)
 | .tuple ⟨cs⟩=> .av (BK cs)
 | _=> .undef
def BK:List yg->List AV
 | []=>[]
 | v::r=>dP v::BK r
end
def aH:xe->X
 | .tmp t=> .t t
 | .const v=> .c (dP v)
 | .global _=> .c .undef
 | .func f=>match H.bJ f with | some g=> .c (.fn (.f g) [] []) | none=> .c .undef
def fC:List xe->List X
 | []=>[]
 | x::r=>aH H x::fC r
def bX (t:yq):Option Nat:=match P.info? t with | some i=>some i.size | none=>none
def oQ (t:yq):Option Nat:=match P.info? t with | some i=>some i.bytes | none=>none
def jz (t:yq):Option AV:=match P.info? t with | some i=>(match i.zero with | some v=>some (dP v) | none=>none) | none=>none
def cQ (t:yq):Option Bool:=match P.underlying t with | some (.struct _) | some (.array _ _)=>some true | some _=>some false | none=>none
def bad:Op:= .call .pure (.c .undef) []
def partsOf (place:Nat->Option (Nat×Nat)):List (Nat×xe)->Option (List (Nat×Nat×X))
 | []=>some []
 | (i,x)::r=>
  match place i,partsOf place r with
  | some (o,s),some l=>some ((o,s,aH H x)::l)
  | _,_=>none
def lj (self:yq->Option (List Nat)):List Field->Nat->Option (List Nat)
 | [],_=>some []
 | f::r,o=>
  match self f.type,bX P f.type with
  | some ks,some s=>
   bif f.name != "_"&&ym f.offset o&&ym ks.length s&& !P.stoodInHeld f.type then
    (match lj self r (o+s) with | some l=>some (ks++l) | none=>none)
   else none
  | _,_=>none
def kinds:Nat->yq->Option (List Nat)
 | 0,_=>none
 | n+1,t=>
  match P.underlying t with
  | some .bool=>some [0]
  | some (.int _)=>some [1]
  | some .string=>some [2]
  | some (.struct fs)=>lj P (fun u=>kinds n u) fs.toList 0
  | some (.array k e)=>
   match kinds n e,bX P e with
   | some ks,some s=>bif ym ks.length s&& !P.stoodInHeld e then some (yC k ks).flatten else none
   | _,_=>none
  | _=>none
def qg (t:yq):Bool:=match P.underlying t with | some (.int _)=>true | _=>false
def keyOf (t:yq):Option Nat:=
 match P.underlying t with
 | some .bool=>some 0
 | some (.int _)=>some 1
 | some .string=>some 2
 | some (.struct fs)=>bif fs.toList.all (fun f=>qg P f.type)&& !P.stoodInHeld t then
   (match kinds P 20 t with | some ks=>(bif ym ks.length fs.size then some (fs.size+3) else none) | none=>none) else none
 | _=>none
def lB (ne:Bool) (t:yq) (a b:xe):Op:=
 match kinds P 20 t with
 | some ks=>bif P.stoodInHeld t||P.eqGuardType P.depth t then bad else .eq ne (.ag ks) (aH H a) (aH H b)
 | none=>bad
def kF (ne:Bool) (op:wj) (t:yq) (a b:xe):Op:=
 match P.underlying t with
 | some (.int _) | some .string | some (.float _) | some (.complex _)=> .bin op (aH H a) (aH H b)
 | some .bool=> .eq ne .b (aH H a) (aH H b)
 | some (.slice _)=> .eq ne .sl (aH H a) (aH H b)
 | some (.func _ _ _)=> .eq ne .fn (aH H a) (aH H b)
 | some (.struct _) | some (.array _ _)=>lB P H ne t a b
 | _=>bad
def aJ (k:Nat) (o:yL):Op:=
 let x (y:xe):X:=aH H y
 match o.op with
 | .move a | .assign a=> .nO (x a)
 | .pick c a b=> .pick (x c) (x a) (x b)
 | .alloc t=>match bX P t,jz P t with | some s,some z=> .box s (.c z) | _,_=>bad
 | .box t v=>match bX P t with | some s=> .box s (x v) | none=>bad
 | .build t parts=>
  match P.underlying t,jz P t with
  | some (.struct fs),some (.agg z)=>
   match fs.toList.mapM (fun f=>(P.info? f.type).map fun i=>(f.offset,i.size)) with
   | some pl=>(match partsOf H (fun i=>pl[i]?) parts.toList with | some ps=> .Aj z ps | none=>bad)
   | none=>bad
  | some (.array _ e),some (.agg z)=>
   match bX P e with
   | some s=>(match partsOf H (fun i=>some (i*s,s)) parts.toList with | some ps=> .Aj z ps | none=>bad)
   | none=>bad
  | _,_=>bad
 | .buildSlice t n parts=>
  match P.underlying t with
  | some (.slice e)=>
   match bX P e,jz P e with
   | some s,some z=>
    bif yx (n*s) 16777216 then
     (match partsOf H (fun i=>some (i*s,s)) parts.toList with | some ps=> .fB n s (yC n (cellsOf z)).flatten ps | none=>bad)
    else bad
   | _,_=>bad
  | _=>bad
 | .load t a=>match bX P t,cQ P t with | some s,some ag=> .ld s ag (x a) | _,_=>bad
 | .store t a v=>match bX P t with | some s=> .st s (x a) (x v) | none=>bad
 | .nilCheck a=> .FB (x a)
 | .binOp op t a b _=>
  match op with
  | .eql=>kF P H false op t a b
  | .neq=>kF P H true op t a b
  | _=> .bin op (x a) (x b)
 | .unOp op _ a=> .un op (x a)
 | .convert s d a=>
  match P.underlying s,P.underlying d with
  | some (.int _),some (.int k) | some (.float _),some (.int k)=> .cv (.toInt k) (x a)
  | some (.int _),some (.float k) | some (.float _),some (.float k)=> .cv (.toFlt k) (x a)
  | some .string,some .string=> .cv .str (x a)
  | _,_=>bad
 | .makeFunc (.func f) first cap=>match H.bJ f with | some g=> .CF (.f g) (fC H first.toList) (fC H cap.toList) | none=>bad
 | .makeMap t none=>match P.underlying t with | some (.map ke _)=>(match keyOf P ke with | some _=> .qJ | none=>bad) | _=>bad
 | .makeSlice t l c=>
  match P.underlying t with
  | some (.slice e)=>(match bX P e,oQ P e,jz P e with | some s,some b,some z=> .lU s b (cellsOf z) (x l) (x c) | _,_,_=>bad)
  | _=>bad
 | .slice t a lo hi none=>
  match P.underlying t with
  | some .string=> .mR .str (x a) (lo.map x) (hi.map x)
  | some (.slice e)=>(match bX P e with | some s=> .mR (.sl s) (x a) (lo.map x) (hi.map x) | none=>bad)
  | some (.array n e)=>(match bX P e with | some s=> .mR (.ar n s) (x a) (lo.map x) (hi.map x) | none=>bad)
  | _=>bad
 | .fieldAddr t a i=>
  match P.underlying t with
  | some (.struct fs)=>
   match fs[i]? with
   | some f=>(match bX P f.type with | some (_+1)=> .off f.offset (x a) | _=>bad)
   | none=>bad
  | _=>bad
 | .field t a i=>
  match P.underlying t with
  | some (.struct fs)=>
   match fs[i]? with
   | some f=>(match bX P f.type,cQ P f.type with | some s,some ag=> .Gn f.offset s ag (x a) | _,_=>bad)
   | none=>bad
  | _=>bad
 | .indexAddr t a i=>
  match P.underlying t with
  | some (.slice e)=>(match bX P e with | some s=> .bt s (x a) (x i) | none=>bad)
  | some (.array n e)=>(match bX P e with | some s=> .sQ n s (x a) (x i) | none=>bad)
  | _=>bad
 | .index t a i=>
  match P.underlying t with
  | some .string=> .CG (x a) (x i)
  | some (.array n e)=>(match bX P e,cQ P e with | some s,some ag=> .CH n s ag (x a) (x i) | _,_=>bad)
  | _=>bad
 | .lookup t a i ok=>
  match P.underlying t with
  | some (.map ke e)=>(match keyOf P ke,jz P e with | some kk,some z=> .Kk kk z ok (x a) (x i) | _,_=>bad)
  | _=>bad
 | .mapUpdate t a i v | .insert t a i v=>
  match P.underlying t with
  | some (.map ke _)=>(match keyOf P ke with | some kk=> .mS kk (x a) (x i) (x v) | none=>bad)
  | _=>bad
 | .range t a=>match P.underlying t with | some .string=> .mT (x a) | _=>bad
 | .next it true=> .mU (x it)
 | .extract t i=> .ext i (x t)
 | .call c=>
  match c.callee with
  | .value f=>(match H.mode k with | .dyn=> .gE [] (x f) (fC H c.args.toList) | md=> .call md (x f) (fC H c.args.toList))
  | .builtin b=>
   match b,c.args.toList,c.argTypes.toList with
   | .append,[s,a],[t,u]=>
    match P.underlying t,P.underlying u with
    | some (.slice e),some (.slice _) | some (.slice e),some .string=>
     (match bX P e,oQ P e,jz P e with | some sz,some by',some z=>(bif ym (cellsOf z).length sz then .cD sz by' (x s) (x a) else bad) | _,_,_=>bad)
    | _,_=>bad
   | .len,[a],[t]=>
    match P.underlying t with
    | some (.array n _)=> .nO (.c (.int .i64 n))
    | some .string=> .len 0 (x a)
    | some (.slice _)=> .len 1 (x a)
    | some (.map _ _)=> .len 2 (x a)
    | _=>bad
   | .copy,[d,s],[t,_]=>
    match P.underlying t with
    | some (.slice e)=>(match bX P e with | some sz=> .mW sz (x d) (x s) | none=>bad)
    | _=>bad
   | .min,l,_=> .mn (fC H l)
   | .max,l,_=> .mx (fC H l)
   | .real,[a],_=> .cv .re (x a)
   | .imag,[a],_=> .cv .im (x a)
   | .complex,[a,b],_=> .Gp (x a) (x b)
   | _,_,_=>bad
  | _=>bad
 | _=>bad
def MP (o:yL):Bool:=match o.op with | .call {callee:= .value _,..}=>true | _=>false
def Fk (d:Option Nat):Bool:=match d with | some i=>yF i H.n | none=>true
def pU (n:Nat):List Nat->Bool
 | []=>true
 | i::r=>yF i n&&pU n r
def zR (ops:Array yL):List yL->Nat->List aM×Nat
 | [],k=>([],k)
 | o::r,k=>
  let g:=match o.guard with
   | none=>some none
   | some (j,b)=>match (ops[j]?).bind (·.dst) with | some t=>some (some (t,b)) | none=>none
  match zR ops r (k+(bif MP o then 1 else 0)) with
  | (l,k')=>
   match g,Fk H o.dst with
   | some g,true=>(⟨o.dst,g,aJ P H k o⟩::l,k')
   | _,_=>(⟨o.dst,none,bad⟩::l,k')
def rQ (acc:List Nat):List Edge->Nat
 | []=>0
 | e::r=>bif Region.binds .any e then (2^e.on|||acc.getD e.on 0)|||rQ acc r else rQ acc r
def ia (acc:List Nat):List yL->List Nat
 | []=>acc
 | o::r=>ia (acc++[rQ acc o.after.toList]) r
def kB:List yL->Nat->Bool
 | [],_=>true
 | o::r,i=>o.after.toList.all (fun e=> !Region.binds .any e||yF e.on i)&&kB r (i+1)
def Iv (ops:Array yL) (draw:Bool) (k:Nat):List aM×Nat:=
 match zR P H ops ops.toList k with
 | (l,k')=>
  bif draw then
   (let ms:=ia [] ops.toList
    let l':=iL [] l ms
    bif kB ops.toList 0&&mu [] l' ms then (l',k') else bif kB ops.toList 0&&mu [] (B1 [] l') ms then (B1 [] l',k') else
    (let pm:=places l ms
    let nP:=rK ms pm pm pm
    let l2:=iL [] (r9 (An l l) pm) nP
    bif kB ops.toList 0&&(EJ ops.size pm (oz pm ops.size)&&mu [] l2 nP) then (l2,k') else ([⟨none,none,bad⟩],k')))
  else (l,k')
def ahB:wF->Bool
 | .loop _=>true
 | _=>false
def comp:wF->Nat->Nat->VC×Nat×Nat
 | .skip,l,k | .label _,l,k=>(.skip,l,k)
 | .region i ops d,l,k=>match Iv P H ops d k with | (r,k')=>((match H.fz i with | []=> .jM r | t::ts=> .seq (.fz (t::ts)) (.jM r)),l,k')
 | .seq a b,l,k=>match comp a l k with | (a',l1,k1)=>match comp b l1 k1 with | (b',l2,k2)=>(.seq a' b',l2,k2)
 | .cond c a b,l,k=>
  match comp a (l+1) k with
  | (a',l1,k1)=>
   match comp b l1 k1 with
   | (b',l2,k2)=>(match H.out l with | some o=> .seq (.cond (aH H c) a' b') (.kp o) | none=> .cond (aH H c) a' b',l2,k2)
 | .block id a,l,k=>
  match comp a l k with
  | (a',r)=>(match ahB a,H.out l with | true,some o=> .seq (.cT id a') (.kp o) | _,_=> .cT id a',r)
 | .loop a,l,k=>match comp a (l+1) k with | (a',r)=>(.loop (H.live l) a',r)
 | .rangeFunc f ps cf body,l,k=>
  match comp cf l k with | (as',l1,k1)=>match comp body l1 k1 with | (b',l2,k2)=>(bif pU H.n ps.toList then .rf (aH H f) ps.toList as' b' else .jM [⟨none,none,bad⟩],l2,k2)
 | .exit id,l,k=>(.exit id,l,k)
 | .scope a,l,k=>comp a l k
 | .ret,l,k=>(.ret,l,k)
 | .goto _,l,k | .refuse _,l,k=>(.jM [⟨none,none,bad⟩],l,k)
def mw:List ResultVar->Option (List RV)
 | []=>some []
 | .tmp t::r=>match mw r with | some l=>some (.t t::l) | none=>none
 | .cell a t::r=>match bX P t,cQ P t,mw r with | some s,some ag,some l=>some (.cell a s ag::l) | _,_,_=>none
def BL (fn:Func):Option aF:=
 match fn.body,mw P fn.results.toList with
 | some c,some rs=>bif yx H.n fn.ntmps then some ⟨rs,(comp P H c 0 0).1⟩ else none
 | _,_=>none
end
end
section
open Go
structure bh where
 P:yK
 aG:Lib
 ab:Nat->Nat
 prog:aR
 hint:Nat->Hint
 w0:yh
def sS (P:yK) (H:Hint) (v:VC) (c:wF):Prop:=∃l k,(comp P H c l k).1=v
def sA:Nat->LoopState
 | 0=> .ready
 | 1=> .busy
 | 2=> .done
 | _=> .exhausted
def pN:qc->Option wF
 | .none=>none
 | .ret=>some .ret
 | .exit id=>some (.exit id)
section
variable (O:bh) (m:Mp) (S:Nat->Prop) (w:yh)
def bH (tm:Env) (tmps:Array yg):Prop:=∀i,ae O.ab m S w (ah tm i) (tmps.getD i undef)
def dX (id:Nat):Obj->Prop
 | .cells rw pu ex sz cs=>∃p arr t,m id=some p/\w.heap[p.b]? =some (.cells arr t (0,0))/\p.z=sz/\cs.length<=p.e/\p.o+p.e<=arr.size/\
   (ex=true->cs.length=p.e)/\bF O.ab m S w cs p.b p.o/\(pu=true->aC cs=true)/\(rw=true->¬S p.b)/\(rw=false->S p.b)
 | .mp rw ks vs=>∃p es clock,m id=some p/\w.heap[p.b]? =some (.map es clock)/\au O.ab m S w ks (es.toList.map (·.key))/\au O.ab m S w vs (es.toList.map (·.val))/\
   (rw=true->¬S p.b)/\(rw=false->S p.b)
 | .si s pos=>∃p t,m id=some p/\w.heap[p.b]? =some (.stringIter t pos)/\t.data.toList.map yZ=s/\¬S p.b
 | .lp tm ps cf body st pe=>∃p l h,m id=some p/\w.heap[p.b]? =some (.loop l)/\¬S p.b/\l.state=sA st/\st<=2/\l.pending=pN pe/\bH O m S w tm l.tmps/\
   l.params.toList=ps/\sS O.P (O.hint h) cf l.assign/\sS O.P (O.hint h) body l.body/\(O.hint h).n<=l.tmps.size/\pU (O.hint h).n ps=true
structure aQ (hp:Hp) (ct:Nat):Prop where
 obj:∀id o p,ap hp id=some o->m id=some p->dX O m S w id o
 lt:∀id p,m id=some p->id<ct
 inj:∀i j oi oj pi pj,ap hp i=some oi->ap hp j=some oj->m i=some pi->m j=some pj->pi.b=pj.b->i=j
 slt:∀b,S b->b<w.heap.size
 blt:∀id p,m id=some p->p.b<w.heap.size
 low:∀id p,m id=some p->O.w0.heap.size<=p.b
 jF:∀b,b<O.w0.heap.size->w.heap[b]? =O.w0.heap[b]?
 eK:O.w0.heap.size<=w.heap.size
 aO:∀id o,ap hp id=some o->id<ct
end
def dB (m:Mp) (hp:Hp) (b:Nat):Prop:=∃id o p,ap hp id=some o/\m id=some p/\p.b=b
structure bM (m:Mp) (S:Nat->Prop) (w:yh) (hp:Hp) (m':Mp) (S':Nat->Prop) (w':yh) (an:Hp) (base:Nat):Prop where
 os:w'.os=w.os
 tape:w'.tape=w.tape
 output:w'.output=w.output
 size:w.heap.size<=w'.heap.size
 same:∀b,b<w.heap.size->¬dB m hp b->w'.heap[b]? =w.heap[b]?
 sub:∀b,S b->S' b
 still:∀b,S b->w'.heap[b]? =w.heap[b]?
 new:∀b,S' b->S b\/dB m hp b\/w.heap.size<=b
 own:∀b,dB m' an b->dB m hp b\/w.heap.size<=b
 old:∀id p,id<base->m id=some p->m' id=some p
 loops:∀(b:Nat) (r:Loop),w.heap[b]? =some (.loop r)->∃r':Loop,w'.heap[b]? =some (.loop r')
def bM.refl {m:Mp} {S:Nat->Prop} {w:yh} {hp:Hp} {base:Nat}:bM m S w hp m S w hp base:=
 ⟨rfl,rfl,rfl,yv _,fun _ _ _=>rfl,fun _ h=>h,fun _ _=>rfl,fun _ h=> .inl h,fun _ h=> .inl h,fun _ _ _ h=>h,fun _ r h=>⟨r,h⟩⟩
def bM.trans {m m' Gt:Mp} {S S' sT:Nat->Prop} {w w' Kl:yh} {hp an FC:Hp} {base:Nat}
  (h:bM m S w hp m' S' w' an base) (k:bM m' S' w' an Gt sT Kl FC base):bM m S w hp Gt sT Kl FC base where
 os:=k.os.trans h.os
 tape:=k.tape.trans h.tape
 output:=k.output.trans h.output
 size:=xi h.size k.size
 same b hb ho:=(k.same b (Nat.lt_of_lt_of_le hb h.size) (fun gi=>(h.own b gi).elim ho (fun h1=>by omega))).trans (h.same b hb ho)
 sub b hb:=k.sub b (h.sub b hb)
 still b hb:=(k.still b (h.sub b hb)).trans (h.still b hb)
 new b hb:=by
  rcases k.new b hb with h1 | h1 | h1
  ·exact h.new b h1
  ·rcases h.own b h1 with h2 | h2
   ·grind
   ·grind
  ·exact .inr (.inr (xi h.size h1))
 own b hb:=by
  rcases k.own b hb with h1 | h1
  ·exact h.own b h1
  ·exact .inr (xi h.size h1)
 old id p hid hp:=k.old id p hid (h.old id p hid hp)
 loops b r hb:=let ⟨r',h1⟩:=h.loops b r hb;k.loops b r' h1
end
section
open Go
section
variable {ab:Nat->Nat} {m:Mp} {S:Nat->Prop} {w:yh}
mutual
def Iw:∀v:yg,ae ab m S w (dP v) v
 | .int _ _ | .bool _ | .float _ _ | .complex _ _ _=>by simp only [dP,ae]
 | .string s=>by simp only [dP,ae];exact ⟨s,rfl,rfl⟩
 | .pointer none=>by simp only [dP,ae]
 | .pointer (some _)=>by simp only [dP,ae]
 | .slice none 0 0=>by simp only [dP,ae]
 | .slice none 0 (_+1)=>by simp only [dP,ae]
 | .slice none (_+1) _=>by simp only [dP,ae]
 | .slice (some _) _ _=>by simp only [dP,ae]
 | .map none=>by simp only [dP,ae]
 | .map (some _)=>by simp only [dP,ae]
 | .nilFunc=>by simp only [dP,ae]
 | .agg ⟨cs⟩=>by simp only [dP,ae];exact ⟨⟨cs⟩,rfl,LX cs⟩
 | .tuple ⟨cs⟩=>by simp only [dP,ae];exact ⟨⟨cs⟩,rfl,LX cs⟩
 | .chan _ | .func _ _ _ | .iface _ _ | .nilIface=>by simp only [dP,ae]
def LX:∀l:List yg,au ab m S w (BK l) l
 | []=>by simp only [BK,au]
 | v::r=>by simp only [BK,au];exact ⟨v,r,rfl,Iw v,LX r⟩
end
end
def dZ (O:bh) (H:Hint):Prop:=∀f g,H.bJ f=some g->O.ab g=f
section
variable {O:bh} {H:Hint} {m:Mp} {S:Nat->Prop} {w:yh} {tm:Env} {a:Act}
def bI (hH:dZ O H) (ht:bH O m S w tm a.tmps) (x:xe):ae O.ab m S w (ao tm (aH H x)) (a.eval x):=by
 cases x with
 | tmp t=>exact ht t
 | const v=>simp only [aH,ao,Act.eval];exact Iw v
 | global g=>simp only [aH,ao,ae]
 | func f=>
  simp only [aH,Act.eval]
  cases hr:H.bJ f with
  | none=>simp only [ao,ae]
  | some g=>simp only [ao,ae,hH f g hr,au];exact ⟨#[],#[],rfl,rfl,rfl⟩
def zW (hH:dZ O H) (ht:bH O m S w tm a.tmps):∀l:List xe,au O.ab m S w (cX tm (fC H l)) (l.map a.eval)
 | []=>by simp only [fC,cX,List.map_nil,au]
 | x::r=>by simp only [fC,cX,yW,au];exact ⟨_,_,rfl,bI hH ht x,zW hH ht r⟩
end
section
variable {O:bh} {m:Mp} {S:Nat->Prop} {w:yh}
def ns {ab:Nat->Nat}:∀(k:Nat) (cs:List AV) (b o:Nat),bF ab m S w cs b o->bF ab m S w (cs.drop k) b (o+k)
 | 0,cs,b,o,h=>by simpa using h
 | k+1,[],b,o,_=>by simp only [List.drop_nil,bF]
 | k+1,c::cs,b,o,h=>by
  have:=ns k cs b (o+1) h.2
  grind
def rz {ab:Nat->Nat}:∀(k:Nat) (cs:List AV) (b o:Nat),bF ab m S w cs b o->bF ab m S w (cs.take k) b o
 | 0,cs,b,o,_=>by simp only [List.take_zero,bF]
 | k+1,[],b,o,_=>by simp only [List.take_nil,bF]
 | k+1,c::cs,b,o,h=>by
  exact ⟨h.1,rz k cs b (o+1) h.2⟩
def nZ {ab:Nat->Nat}:∀(cs:List AV) (b o:Nat),bF ab m S w cs b o->
  ∃us:List yg,au ab m S w cs us/\us.length=cs.length/\∀j u,us[j]? =some u->w.cell? ⟨b,o+j,none⟩=some u
 | [],b,o,_=>⟨[],by simp only [au],rfl,fun j u h=>by simp at h⟩
 | c::cs,b,o,h=>by
  obtain ⟨⟨u,h1,h2⟩,h3⟩:=h;obtain ⟨us,h4,h5,h6⟩:=nZ cs b (o+1) h3;refine ⟨u::us,by simp only [au];exact ⟨u,us,rfl,h2,h4⟩,by simp [h5],fun j v hv=>?_⟩
  cases j with
  | zero=>simp at hv;subst hv;simpa using h1
  | succ j=>simp at hv;have:=h6 j v hv;rw [show o+(j+1)=o+1+j by omega];exact this
def eZ {ab:Nat->Nat}:∀(cs:List AV) (us:List yg),au ab m S w cs us->us.length=cs.length
 | [],us,h=>by simp only [au] at h;subst h;rfl
 | c::cs,us,h=>by
  obtain ⟨u,r,rfl,_,h3⟩:=h;simp [eZ cs r h3]
end
end
section
open Go
def lD (b o j:Nat):(⟨b,o,none⟩:vM).add j=⟨b,o+j,none⟩:=by
 unfold Addr.add;split<;>simp_all
section
variable {P:yK} {w:yh}
def aad (t:yq) (b o:Nat) (us:List yg) (ha:cQ P t=some true) (hz:bX P t=some us.length)
  (h:∀j u,us[j]? =some u->w.cell? ⟨b,o+j,none⟩=some u):(loadVar t ⟨b,o,none⟩).run P w= .ok (.agg us.toArray) w:=by
 have hl:=run_loadCells_list (P:=P) w ⟨b,o,none⟩ us (fun j u hu=>by rw [lD];exact h j u hu)
 unfold bX at hz
 cases hi:P.info? t with
 | none=>simp [hi] at hz
 | some i=>
  unfold cQ at ha
  cases hu:P.underlying t with
  | none=>simp [hu] at ha
  | some d=>cases d<;>simp_all [loadVar,isAgg,vD,typeInfo,underlying]
def aae (t:yq) (b o:Nat) (u:yg) (ha:cQ P t=some false)
  (h:w.cell? ⟨b,o,none⟩=some u):(loadVar t ⟨b,o,none⟩).run P w= .ok u w:=by
 unfold cQ at ha
 cases hu:P.underlying t with
 | none=>simp [hu] at ha
 | some d=>cases d<;>simp_all [loadVar,isAgg,underlying]
end
section
variable {O:bh} {m:Mp} {S:Nat->Prop} {w:yh}
def Ix {t:yq} {sz:Nat} {ag:Bool} {cs:List AV} {b o:Nat} {v:AV} (hz:bX O.P t=some sz) (ha:cQ O.P t=some ag)
  (hr:bF O.ab m S w cs b o) (hv:fQ sz ag cs=some v):∃u,(loadVar t ⟨b,o,none⟩).run O.P w= .ok u w/\ae O.ab m S w v u:=by
 cases ag with
 | true=>
  simp only [fQ,yp] at hv
  cases hle:yx sz cs.length with
  | false=>simp only [hle,yI] at hv;cases hv
  | true=>
   simp only [hle,yp,yb] at hv;subst hv;obtain ⟨us,h1,h2,h3⟩:=nZ _ _ _ (rz sz cs b o hr);have hlen:us.length=sz:=by
    simp_all
   refine ⟨.agg us.toArray,aad t b o us ha (by rw [hlen];exact hz) h3,?_⟩
   simp only [ae]
   grind
 | false=>
  simp only [fQ,yI] at hv
  cases cs with
  | nil=>simp at hv
  | cons c cs=>
   simp only [yb] at hv;subst hv;obtain ⟨⟨u,h1,h2⟩,_⟩:=hr;exact ⟨u,aae t b o u ha h1,h2⟩
def TF {t:yq} {sz o:Nat} {ag:Bool} {cs:List AV} {xs:Array yg} {v:AV} (hz:bX O.P t=some sz) (ha:cQ O.P t=some ag)
  (hr:au O.ab m S w cs xs.toList) (hv:fQ sz ag (cs.drop o)=some v):∃u,(part t xs o).run O.P w= .ok u w/\ae O.ab m S w v u:=by
 have hd:∀(k:Nat) (cs:List AV) (us:List yg),au O.ab m S w cs us->au O.ab m S w (cs.drop k) (us.drop k):=by
  intro k
  induction k with
  | zero=>intro cs us h;simpa using h
  | succ k ih=>
   intro cs us h
   cases cs with
   | nil=>simp only [au] at h;subst h;simp [au]
   | cons c cs=>simp only [au] at h;obtain ⟨u,r,rfl,_,h3⟩:=h;simpa using ih cs r h3
 have dQ:∀(k:Nat) (cs:List AV) (us:List yg),au O.ab m S w cs us->au O.ab m S w (cs.take k) (us.take k):=by
  intro k
  induction k with
  | zero=>intro cs us h;simp [au]
  | succ k ih=>
   intro cs us h
   cases cs with
   | nil=>simp only [au] at h;subst h;simp [au]
   | cons c cs=>simp only [au] at h;obtain ⟨u,r,rfl,h2,h3⟩:=h;simp only [wN,au];exact ⟨u,_,rfl,h2,ih cs r h3⟩
 have Wp:(isAgg t).run O.P w= .ok ag w:=by
  unfold cQ at ha
  cases hu:O.P.underlying t with
  | none=>simp [hu] at ha
  | some d=>cases d<;>simp_all [isAgg,underlying]
 have dM:(vD t).run O.P w= .ok sz w:=by
  unfold bX at hz
  cases hi:O.P.info? t with
  | none=>simp [hi] at hz
  | some i=>simp_all [vD,typeInfo]
 have b9:=hd o cs xs.toList hr
 cases ag with
 | true=>
  simp only [fQ,yp] at hv
  cases hle:yx sz (cs.drop o).length with
  | false=>simp only [hle,yI] at hv;cases hv
  | true=>
   simp only [hle,yp,yb] at hv;subst hv;refine ⟨.agg (xs.extract o (o+sz)),by simp [part,Sem.run_bind,Wp,dM],?_⟩;simp only [ae]
   simp_all
 | false=>
  simp only [fQ,yI] at hv
  cases hc:cs.drop o with
  | nil=>simp [hc] at hv
  | cons c r=>
   simp only [hc,yb] at hv;subst hv;rw [hc] at b9;simp only [au] at b9;obtain ⟨u,us,h1,h2,_⟩:=b9;have hx:xs[o]? =some u:=by
    have:xs.toList[o]? =some u:=by
     have:=congrArg (fun l=>l[0]?) h1
     simpa using this
    simpa using this
   exact ⟨u,by simp [part,Sem.run_bind,Wp,hx],h2⟩
end
end
section
open Go
def jU (t:ByteArray):List Nat:=t.data.toList.map yZ
def TG:∀a b:List UInt8,bV (a.map yZ) (b.map yZ)=(a==b)
 | [],[]=>rfl
 | [],_::_=>rfl
 | _::_,[]=>rfl
 | a::x,b::y=>by
  have h:ym a.toNat b.toNat=(a==b):=by
   rw [uF,ybm,uf];exact tS
  simp only [yW,bV,TG x y,h,List.cons_beq_cons]
def TH:∀a b:List UInt8,sR (a.map yZ) (b.map yZ)=Op.bytesLess a b
 | [],[]=>rfl
 | [],_::_=>rfl
 | _::_,[]=>rfl
 | a::x,b::y=>by
  have h:ym a.toNat b.toNat=(a==b):=by
   rw [uF,ybm,uf];exact tS
  have h2:yF a.toNat b.toNat=decide (a<b):=by
   rw [uF];simp only [yF,Nat.ble_eq,vl,UInt8.lt_iff_toNat_lt];omega
  simp only [yW,sR,Op.bytesLess,TH x y,h,h2]
def RM (s t:ByteArray):bV (jU s) (jU t)=(s.toList==t.toList):=by
 rw [jU,jU,TG,ByteArray.toList_eq,ByteArray.toList_eq]
def abB (s t:ByteArray):sR (jU s) (jU t)=Op.bytesLess s.toList t.toList:=by
 rw [jU,jU,TH,ByteArray.toList_eq,ByteArray.toList_eq]
def RN (s:ByteArray):(jU s).length=s.size:=by
 rw [jU,List.length_map,Lib.size_eq]
section
variable {ab:Nat->Nat} {P:yK} {m:Mp} {S:Nat->Prop} {w:yh} {t:yq}
def adm {op:wj} {k:yV} {x y:Int} {v:AV} (h:jy op k x y=some v):
  ∃u,(xF op t (.int k x) (.int k y)).run P w= .ok u w/\ae ab m S w v u:=by
 cases op<;>simp only [jy,intCmp,yb] at h
 case quo=>
  by_cases hy:y=0
  ·grind
  ·simp only [hy,y8,yb] at h;subst h;exact ⟨_,by simp [xF,Op.intDiv,hy];rfl,by simp [ae]⟩
 case rem=>
  by_cases hy:y=0
  ·grind
  ·simp only [hy,y8,yb] at h;subst h;exact ⟨_,by simp [xF,Op.intDiv,hy];rfl,by simp [ae]⟩
 case shl=>cases h
 case shr=>cases h
 all_goals
  subst h;exact ⟨_,by simp [xF,Op.intCmp];rfl,by simp [ae]⟩
def QX {op:wj} {k k':yV} {x y:Int} {v:AV} (h:zQ op k x y=some v):
  ∃u,(xF op t (.int k x) (.int k' y)).run P w= .ok u w/\ae ab m S w v u:=by
 unfold zQ at h;by_cases hy:y<0
 ·grind
 ·simp only [hy,y8] at h;cases op<;>simp only [yb] at h
  case shl=>subst h;exact ⟨_,by simp [xF,Op.shift,hy];rfl,by simp [ae]⟩
  case shr=>subst h;exact ⟨_,by simp [xF,Op.shift,hy];rfl,by simp [ae]⟩
  all_goals cases h
def adn {op:wj} {x y:ByteArray} {v:AV} (h:Ff op (jU x) (jU y)=some v):
  ∃u,(xF op t (.string x) (.string y)).run P w= .ok u w/\ae ab m S w v u:=by
 cases op<;>simp only [Ff,RM,abB,RN,yb] at h
 case add=>
  cases hle:yx (x.size+y.size) 9223372036854775807 with
  | false=>rw [hle] at h;cases h
  | true=>
   rw [hle] at h;simp only [yp,yb] at h;subst h;have aru:=yr hle;have ame:¬(((x.size+y.size:Nat):Int)>IntKind.i64.max):=by
    have:IntKind.i64.max=9223372036854775807:=by decide
    grind
   refine ⟨.string (x++y),?_,?_⟩
   ·simp only [xF,Op.stringOp,yE ame,Sem.run_pure]
   ·simp only [ae];exact ⟨x++y,rfl,by simp [jU]⟩
 all_goals first
  | (cases h;done)
  | (subst h;exact ⟨_,by simp [xF,Op.stringOp];rfl,by simp [ae]⟩)
def ado {op:wj} {k:xV} {x y:Nat} {v:AV} (h:Nc op k x y=some v):
  ∃u,(xF op t (.float k x) (.float k y)).run P w= .ok u w/\ae ab m S w v u:=by
 cases op<;>simp only [Nc,yb] at h
 case add=>
  cases hr:k.format.add x y with
  | none=>simp [hr] at h
  | some r=>simp only [hr,yb] at h;subst h;exact ⟨.float k r,by simp [xF,Op.floatArith,hr],by simp [ae]⟩
 case sub=>
  cases hr:k.format.sub x y with
  | none=>simp [hr] at h
  | some r=>simp only [hr,yb] at h;subst h;exact ⟨.float k r,by simp [xF,Op.floatArith,hr],by simp [ae]⟩
 case mul=>
  cases hr:k.format.mul x y with
  | none=>simp [hr] at h
  | some r=>simp only [hr,yb] at h;subst h;exact ⟨.float k r,by simp [xF,Op.floatArith,hr],by simp [ae]⟩
 case quo=>
  cases hr:k.format.div x y with
  | none=>simp [hr] at h
  | some r=>simp only [hr,yb] at h;subst h;exact ⟨.float k r,by simp [xF,Op.floatArith,hr],by simp [ae]⟩
 all_goals first
  | (cases h;done)
  | (subst h;exact ⟨_,by simp [xF,Op.floatCmp];rfl,by simp [ae]⟩)
def TI (k:xV) (x y:Nat):(Op.Complex.cmp .eql k x y).run P w= .ok (k.format.order x y==some .eq) w:=by
 simp [Op.Complex.cmp,Op.floatCmp,asBool]
def IT {op:wj} {k:xV} {x y r:Nat} (h:oO op k x y=some r):(Op.Complex.arith op k x y).run P w= .ok r w:=by
 unfold oO at h
 split at h
 ·simp [Op.Complex.arith,Op.floatArith,h]
 ·simp [Op.Complex.arith,Op.floatArith,h]
 ·simp [Op.Complex.arith,Op.floatArith,h]
 ·cases h
def adp {op:wj} {k:xV} {a b c d:Nat} {v:AV} (h:Nf op k a b c d=some v):
  ∃u,(xF op t (.complex k a b) (.complex k c d)).run P w= .ok u w/\ae ab m S w v u:=by
 cases op<;>simp only [Nf,yb,reduceCtorEq] at h
 case add=>
  cases h1:oO .add k a c with
  | none=>simp [h1] at h
  | some r=>
   cases h2:oO .add k b d with
   | none=>simp [h1,h2] at h
   | some i=>
    simp only [h1,h2,yb] at h;subst h;exact ⟨.complex k r i,by simp [xF,Op.complexOp,IT h1,IT h2],by simp [ae]⟩
 case sub=>
  cases h1:oO .sub k a c with
  | none=>simp [h1] at h
  | some r=>
   cases h2:oO .sub k b d with
   | none=>simp [h1,h2] at h
   | some i=>
    simp only [h1,h2,yb] at h;subst h;exact ⟨.complex k r i,by simp [xF,Op.complexOp,IT h1,IT h2],by simp [ae]⟩
 case eql=>subst h;exact ⟨_,by simp [xF,Op.complexOp,TI];rfl,by simp [ae]⟩
 case neq=>subst h;exact ⟨_,by simp [xF,Op.complexOp,TI];rfl,by simp [ae]⟩
def adq {op:wj} {vx vy v:AV} {x y:yg} (hx:ae ab m S w vx x) (hy:ae ab m S w vy y) (h:VE.binOp op vx vy=some v):
  ∃u,(xF op t x y).run P w= .ok u w/\ae ab m S w v u:=by
 unfold VE.binOp at h
 split at h
 ·rename_i k a k' b;simp only [ae] at hx hy;subst hx;subst hy
  split at h
  ·exact QX h
  ·exact QX h
  ·by_cases hk:k=k'
   ·subst hk;simp only [xm] at h;exact adm h
   ·simp [hk] at h
 ·rename_i k a k' b;simp only [ae] at hx hy;subst hx;subst hy;by_cases hk:k=k'
  ·subst hk;simp only [xm] at h;exact ado h
  ·simp [hk] at h
 ·rename_i a b;simp only [ae] at hx hy;obtain ⟨s,rfl,rfl⟩:=hx;obtain ⟨s',rfl,rfl⟩:=hy;exact adn h
 ·rename_i k a b k' c d;simp only [ae] at hx hy;subst hx;subst hy;by_cases hk:k=k'
  ·subst hk;simp only [xm] at h;exact adp h
  ·simp [hk] at h
 ·cases h
end
end
section
open Go
section
variable {ab:Nat->Nat} {P:yK} {m:Mp} {S:Nat->Prop} {w:yh} {t:yq}
def aaK {op:wj} {x y:xe} {a b:yg} (h:P.eqGuardType P.depth t=false\/∀xs ys,¬(a= .agg xs/\b= .agg ys)) (hn:a≠.nilIface):
  (eqGuard op t x y a b).run P w= .ok () w:=by
 unfold eqGuard;cases op
 all_goals first
  | rfl
  | (
    cases a
    all_goals first
     | rfl
     | exact absurd rfl hn
     | (
      cases b
      all_goals first
       | rfl
       | (
         rcases h with h | h
         ·simp [h]
         ·exact absurd ⟨rfl,rfl⟩ (h _ _))))
def ahC {d:Nat} {p q:Bool} (ht:P.underlying t=some .bool):(Op.equalIn (d+1) t (.bool p) (.bool q)).run P w= .ok (p==q) w:=by
 simp [Op.equalIn,underlying,ht]
def Ni {d:Nat} {e:yq} (ht:P.underlying t=some (.slice e)) (y:Option vM) (n c n' c':Nat):
  (Op.equalIn (d+1) t (.slice none n c) (.slice y n' c')).run P w= .ok y.isNone w:=by simp [Op.equalIn,underlying,ht]
def U9 {d:Nat} {e:yq} (ht:P.underlying t=some (.slice e)) (x:vM) (n c n' c':Nat):
  (Op.equalIn (d+1) t (.slice (some x) n c) (.slice none n' c')).run P w= .ok false w:=by simp [Op.equalIn,underlying,ht]
def akL {d:Nat} {ps rs:Array yq} {vr:Bool} (ht:P.underlying t=some (.func ps rs vr)):
  (Op.equalIn (d+1) t .nilFunc .nilFunc).run P w= .ok true w:=by simp [Op.equalIn,underlying,ht]
def Va {d:Nat} {ps rs:Array yq} {vr:Bool} (ht:P.underlying t=some (.func ps rs vr)) (f:Go.Fn) (a b:Array yg):
  (Op.equalIn (d+1) t .nilFunc (.func f a b)).run P w= .ok false w:=by simp [Op.equalIn,underlying,ht]
def Vb {d:Nat} {ps rs:Array yq} {vr:Bool} (ht:P.underlying t=some (.func ps rs vr)) (f:Go.Fn) (a b:Array yg):
  (Op.equalIn (d+1) t (.func f a b) .nilFunc).run P w= .ok false w:=by simp [Op.equalIn,underlying,ht]
def LY (x y:yg):Op.equal t x y=Op.equalIn (9999+1) t x y:=rfl
def afw {vx vy:AV} {x y:yg} {r:Bool} {e:yq} (ht:P.underlying t=some (.slice e)) (hx:ae ab m S w vx x) (hy:ae ab m S w vy y)
  (h:ib .sl vx vy=some r):(Op.equal t x y).run P w= .ok r w:=by
 unfold ib at h
 split at h<;>simp_all only [yb,reduceCtorEq]
 all_goals subst h
 ·subst hx;subst hy;exact Ni ht _ _ _ _ _
 ·rcases hy with ⟨b,o,c,rfl,_⟩ | ⟨_,rfl,_⟩<;>(subst hx;exact Ni ht _ _ _ _ _)
 ·obtain ⟨p,c,_,rfl,_⟩:=hy;subst hx;exact Ni ht _ _ _ _ _
 ·rcases hx with ⟨b,o,c,rfl,_⟩ | ⟨_,rfl,_⟩<;>(subst hy;exact U9 ht _ _ _ _ _)
 ·obtain ⟨p,c,_,rfl,_⟩:=hx;subst hy;exact U9 ht _ _ _ _ _
def afx {vx vy:AV} {x y:yg} {r:Bool} {ps rs:Array yq} {vr:Bool} (ht:P.underlying t=some (.func ps rs vr)) (hx:ae ab m S w vx x) (hy:ae ab m S w vy y)
  (h:ib .fn vx vy=some r):(Op.equal t x y).run P w= .ok r w:=by
 unfold ib at h
 split at h<;>simp_all only [yb,reduceCtorEq]
 all_goals subst h
 ·simp only [ae] at hx hy;subst hx;subst hy;exact akL ht
 ·rename_i f _ _
  cases f with
  | f g=>simp only [ae] at hx hy;obtain ⟨fi,ca,rfl,_⟩:=hy;subst hx;exact Va ht _ _ _
  | y l=>simp only [ae] at hx hy;obtain ⟨p,_,rfl⟩:=hy;subst hx;exact Va ht _ _ _
 ·rename_i f _ _
  cases f with
  | f g=>simp only [ae] at hx hy;obtain ⟨fi,ca,rfl,_⟩:=hx;subst hy;exact Vb ht _ _ _
  | y l=>simp only [ae] at hx hy;obtain ⟨p,_,rfl⟩:=hx;subst hy;exact Vb ht _ _ _
def afy {op:ybc} {vx v:AV} {x:yg} (hx:ae ab m S w vx x) (h:VE.unOp op vx=some v):∃u,(Op.unary op x).run P w= .ok u w/\ae ab m S w v u:=by
 unfold VE.unOp at h
 split at h
 ·rename_i k n;subst hx;simp only [yb] at h;subst h;exact ⟨_,by simp [Op.unary,Op.intArith];rfl,by simp [ae]⟩
 ·rename_i k n;subst hx;simp only [jy,yb] at h;subst h;exact ⟨_,by simp [Op.unary,Op.intBits];rfl,by simp [ae]⟩
 ·rename_i b;subst hx;simp only [yb] at h;subst h;exact ⟨_,by simp [Op.unary];rfl,by simp [ae]⟩
 ·rename_i k b;subst hx;simp only [yb] at h;subst h;exact ⟨_,by simp [Op.unary,Op.negFloat];rfl,by simp [ae]⟩
 ·cases h
def SF {s d:yq} {k:yV} {vx v:AV} {x:yg} (hd:P.underlying d=some (.int k)) (hs:(∃k',P.underlying s=some (.int k'))\/∃k',P.underlying s=some (.float k'))
  (hx:ae ab m S w vx x) (h:kL (.toInt k) vx=some v):∃u,(convert s d x).run P w= .ok u w/\ae ab m S w v u:=by
 cases vx<;>simp only [kL,reduceCtorEq] at h
 case int k0 n=>
  simp only [ae] at hx;subst hx;simp only [yb] at h;subst h;refine ⟨.int k (k.wrap n),?_,by simp [ae]⟩;rcases hs with ⟨k',h'⟩ | ⟨k',h'⟩<;>simp [convert,underlying,Conv.intToInt,hd,h']
 case aD sk b=>
  subst hx
  cases hi:(sk.decode b).toInt .zero with
  | none=>simp [hi] at h
  | some n=>
   simp only [hi] at h;by_cases hr:k.min<=n/\n<=k.max
   ·simp only [hr,and_self,xm,yb] at h;subst h;refine ⟨.int k n,?_,by simp [ae]⟩;rcases hs with ⟨k',h'⟩ | ⟨k',h'⟩<;>simp [convert,underlying,Conv.floatToInt,hd,h',hi,hr]
   ·grind
def SG {s d:yq} {k:xV} {vx v:AV} {x:yg} (hd:P.underlying d=some (.float k)) (hs:(∃k',P.underlying s=some (.int k'))\/∃k',P.underlying s=some (.float k'))
  (hx:ae ab m S w vx x) (h:kL (.toFlt k) vx=some v):∃u,(convert s d x).run P w= .ok u w/\ae ab m S w v u:=by
 cases vx<;>simp only [kL,reduceCtorEq] at h
 case int k0 n=>
  simp only [ae] at hx;subst hx;simp only [yb] at h;subst h;refine ⟨.float k (k.nearest n),?_,by simp [ae]⟩;rcases hs with ⟨k',h'⟩ | ⟨k',h'⟩<;>simp [convert,underlying,Conv.intToFloat,hd,h']
 case aD sk b=>
  simp only [ae] at hx;subst hx;by_cases he:sk=k
  ·subst he;simp only [xm,yb] at h;subst h;refine ⟨.float sk b,?_,by simp [ae]⟩;rcases hs with ⟨k',h'⟩ | ⟨k',h'⟩<;>simp [convert,underlying,Conv.floatToFloat,hd,h']
  ·simp only [he,y8] at h
   cases Jp:sk.decode b with
   | nan _ _=>simp [Jp] at h
   | infinity _=>simp [Jp] at h
   | number sg mm ee=>
    simp only [Jp] at h
    cases NI:(k.decode (k.encode (.number sg mm ee))).isInfinity with
    | true=>simp [NI] at h
    | false=>
     simp only [NI,yB,y8,yb] at h;subst h;refine ⟨.float k (k.encode (.number sg mm ee)),?_,by simp [ae]⟩;rcases hs with ⟨k',h'⟩ | ⟨k',h'⟩<;>simp [convert,underlying,Conv.floatToFloat,hd,h',he,Jp,NI]
def adr {s d:yq} {vx v:AV} {x:yg} (hd:P.underlying d=some .string) (hs:P.underlying s=some .string)
  (hx:ae ab m S w vx x) (h:kL .str vx=some v):∃u,(convert s d x).run P w= .ok u w/\ae ab m S w v u:=by
 cases vx<;>simp only [kL,reduceCtorEq] at h
 simp only [yb] at h;subst h;obtain ⟨b,rfl,hb⟩:=hx;exact ⟨.string b,by simp [convert,underlying,hs,hd],by simp only [ae];exact ⟨b,rfl,hb⟩⟩
end
end
section
open Go
def abC {v:AV} {k:Nat} (h:db v=some k):∃kd,v= .int kd (k:Int):=by
 cases v<;>simp only [db,reduceCtorEq] at h
 rename_i kd n
 cases n with
 | ofNat j=>simp only [yb] at h;subst h;exact ⟨kd,rfl⟩
 | negSucc j=>cases h
section
variable {O:bh} {H:Hint} {m:Mp} {S:Nat->Prop} {w:yh} {tm:Env} {a:Act}
def pJ {ab:Nat->Nat} {v:AV} {x:yg} {k:Nat} (hx:ae ab m S w v x) (h:db v=some k):∃kd,x= .int kd (k:Int):=by
 obtain ⟨kd,rfl⟩:=abC h;simp only [ae] at hx
 grind
def run_sliceBound {P:yK} {kd:yV} {k y:Nat} {code:BoundsCode} (h:k<=y):(Instr.sliceBound (.int kd (k:Int)) y code).run P w= .ok k w:=by
 have:(0:Int)<=(k:Int)/\(k:Int)<=(y:Int):=by omega
 simp [Instr.sliceBound,asIntOf,this]
def RO {P:yK} {isSlice:Bool} {len cap l h:Nat} {lo hi:Option xe} (hH:dZ O H) (ht:bH O m S w tm a.tmps)
  (hl:cL tm 0 (lo.map (aH H))=some l) (hh:cL tm len (hi.map (aH H))=some h) (h1:l<=h) (h2:h<=cap):
  (Instr.sliceBounds isSlice len cap (lo.map a.eval) (hi.map a.eval) none).run P w= .ok (l,h,cap) w:=by
 cases lo with
 | none=>
  simp only [ve,cL,yb] at hl;subst hl
  cases hi with
  | none=>
   simp only [ve,cL,yb] at hh;subst hh;simp [Instr.sliceBounds]
  | some y=>
   obtain ⟨kd,e⟩:=pJ (bI hH ht y) hh;simp only [Instr.sliceBounds,ve,wv,e,Sem.run_bind,Sem.run_pure,Result.andThen_ok,run_sliceBound h2]
 | some x=>
  obtain ⟨kd,e⟩:=pJ (bI hH ht x) hl
  cases hi with
  | none=>
   simp only [ve,cL,yb] at hh;subst hh;simp only [Instr.sliceBounds,ve,wv,e,Sem.run_bind,Sem.run_pure,Result.andThen_ok,run_sliceBound h1]
  | some y=>
   obtain ⟨OV,e'⟩:=pJ (bI hH ht y) hh;simp only [Instr.sliceBounds,wv,e,e',Sem.run_bind,Sem.run_pure,Result.andThen_ok,run_sliceBound h2,run_sliceBound h1]
def abD {t:yq} {lo hi:Option xe} {vx v:AV} {x:yg} (hH:dZ O H) (ht:bH O m S w tm a.tmps) (hu:O.P.underlying t=some .string)
  (hx:ae O.ab m S w vx x) {hp:Hp} (h:eB hp .str vx tm (lo.map (aH H)) (hi.map (aH H))=some v):
  ∃u,(Instr.sliceAt t x (lo.map a.eval) (hi.map a.eval) none).run O.P w= .ok u w/\ae O.ab m S w v u:=by
 cases vx<;>simp only [eB,reduceCtorEq] at h
 obtain ⟨b,rfl,rfl⟩:=hx
 cases hl:cL tm 0 (lo.map (aH H)) with
 | none=>simp [hl] at h
 | some l=>
  simp only [hl] at h
  cases hh:cL tm (b.data.toList.map yZ).length (hi.map (aH H)) with
  | none=>rw [hh] at h;cases h
  | some g=>
   rw [hh] at h;simp only at h
   cases hc:(yx l g&&yx g (b.data.toList.map yZ).length) with
   | false=>rw [hc] at h;cases h
   | true=>
    rw [hc] at h;simp only [yp,yb] at h;subst h;simp only [yf] at hc;have h1:=yr hc.1;have h2:=yr hc.2;have hlen:(b.data.toList.map yZ).length=b.size:=RN b;rw [hlen] at hh h2;refine ⟨.string (b.extract l g),?_,?_⟩
    ·simp only [Instr.sliceAt,Sem.run_bind,run_underlying hu,Result.andThen_ok,Instr.slice,Option.isSome_none,yB,y8,Sem.run_pure,
      RO (P:=O.P) (isSlice:=false) (len:=b.size) (cap:=b.size) hH ht hl hh h1 h2]
    ·simp only [ae];refine ⟨_,rfl,?_⟩;rw [Lib.extract_data,List.map_take,List.map_drop,List.drop_take]
def ads {t e:yq} {sz:Nat} {lo hi:Option xe} {vx v:AV} {x:yg} (hH:dZ O H) (ht:bH O m S w tm a.tmps) (hu:O.P.underlying t=some (.slice e)) (hz:bX O.P e=some sz)
  {hp:Hp} {ct:Nat} (hh:aQ O m S w hp ct)
  (hx:ae O.ab m S w vx x) (h:eB hp (.sl sz) vx tm (lo.map (aH H)) (hi.map (aH H))=some v):
  ∃u,(Instr.sliceAt t x (lo.map a.eval) (hi.map a.eval) none).run O.P w= .ok u w/\ae O.ab m S w v u:=by
 have dM:(vD e).run O.P w= .ok sz w:=by
  unfold bX at hz
  cases hi:O.P.info? e with
  | none=>simp [hi] at hz
  | some i=>simp_all [vD,typeInfo]
 have EK:∀(ad:Option vM) (n c l g:Nat),cL tm 0 (lo.map (aH H))=some l->cL tm n (hi.map (aH H))=some g->l<=g->g<=c->
   (Instr.sliceAt t (.slice ad n c) (lo.map a.eval) (hi.map a.eval) none).run O.P w= .ok (.slice (if c=l then ad else ad.map (·.add (l*sz))) (g-l) (c-l)) w:=by
  intro ad n c l g hl hg h1 h2
  simp only [Instr.sliceAt,Sem.run_bind,run_underlying hu,Result.andThen_ok,Instr.slice,Sem.run_pure,dM,
   RO (P:=O.P) (isSlice:=true) (len:=n) (cap:=c) hH ht hl hg h1 h2]
 cases vx<;>simp only [eB,reduceCtorEq] at h
 case af=>
  simp only [ae] at hx;subst hx
  cases hl:cL tm 0 (lo.map (aH H)) with
  | none=>simp [hl] at h
  | some l=>
   cases l with
   | succ l=>simp [hl] at h
   | zero=>
    simp only [hl] at h
    cases hh:cL tm 0 (hi.map (aH H)) with
    | none=>simp [hh] at h
    | some g=>
     cases g with
     | succ g=>simp [hh] at h
     | zero=>
      simp only [hh,yb] at h;subst h;exact ⟨_,EK none 0 0 0 0 hl hh (yv _) (yv _),by simp [ae]⟩
 case aq ex n cs=>
  simp only [ae] at hx;rcases hx with ⟨b,o,c,rfl,Gu,hex,hS,gj,AW⟩ | ⟨ad,rfl,rfl,rfl⟩
  case inr=>
   cases hl:cL tm 0 (lo.map (aH H)) with
   | none=>simp [hl] at h
   | some l=>
    simp only [hl] at h
    cases hh:cL tm 0 (hi.map (aH H)) with
    | none=>simp [hh] at h
    | some g=>
     simp only [hh] at h
     cases hc:(yx l g&&yx g 0) with
     | false=>rw [hc] at h;cases h
     | true=>
      rw [hc] at h;simp only [yp,yb] at h;subst h;simp only [yf] at hc;have h1:=yr hc.1;have h2:=yr hc.2;have hg:g=0:=by omega
      subst hg;have iT:l=0:=by omega
      subst iT;refine ⟨_,EK (some ad) 0 0 0 0 hl hh h1 h2,?_⟩;simp only [ae];exact .inr ⟨ad,by simp,by simp,by simp [slice]⟩
  cases hl:cL tm 0 (lo.map (aH H)) with
  | none=>simp [hl] at h
  | some l=>
   simp only [hl] at h
   cases hh:cL tm n (hi.map (aH H)) with
   | none=>simp [hh] at h
   | some g=>
    simp only [hh] at h
    cases hc:(yx l g&&yx g n) with
    | false=>rw [hc] at h;cases h
    | true=>
     rw [hc] at h;simp only [yp,yb] at h;subst h;simp only [yf] at hc;have h1:=yr hc.1;have h2:=yr hc.2;refine ⟨_,EK (some ⟨b,o,none⟩) n c l g hl hh h1 (by omega),?_⟩;have Ap:aC (slice (l*sz) ((g-l)*sz) cs)=true:=by
      have pd:∀(k:Nat) (cs:List AV),aC cs=true->aC (cs.drop k)=true:=by
       intro k
       induction k with
       | zero=>intro cs h;simpa using h
       | succ k ih=>intro cs h;cases cs with
        | nil=>simpa using h
        | cons c cs=>simp only [aC,yf] at h;simpa using ih cs h.2
      have pt:∀(k:Nat) (cs:List AV),aC cs=true->aC (cs.take k)=true:=by
       intro k
       induction k with
       | zero=>intro cs h;simp [aC]
       | succ k ih=>intro cs h;cases cs with
        | nil=>simp [aC]
        | cons c cs=>simp only [aC,yf,wN] at h ⊢;exact ⟨h.1,ih cs h.2⟩
      exact pt _ _ (pd _ _ gj)
     have Wq:(ex&&ym g n)=true->c-l=g-l:=by
      intro hq;simp only [yf] at hq
      have:=hex hq.1
      have:=yi hq.2
      omega
     simp only [ae];by_cases dR:c=l
     ·have h0:g-l=0:=by omega
      have qM:slice (l*sz) ((g-l)*sz) cs=[]:=by simp [slice,h0]
      rw [qM];exact .inl ⟨b,o,c-l,by simp [dR],by omega,Wq,.inl rfl,rfl,by simp [bF]⟩
     ·refine .inl ⟨b,o+l*sz,c-l,by simp [dR,lD],by omega,Wq,?_,Ap,?_⟩
      ·rcases hS with rfl | hS
       ·exact .inl (by simp [slice])
       ·exact .inr hS
      ·exact rz _ _ _ _ (ns _ _ _ _ AW)
 case ay id o n=>
  simp only [ae] at hx;obtain ⟨p,c,hm,rfl,Gu,Km⟩:=hx
  split at h
  case h_2=>cases h
  rename_i OW pu0 oR z0 XU Aq;obtain ⟨p',arr,t',gk,_,fF,_⟩:=hh.obj id _ _ Aq hm;rw [hm] at gk;injection gk with gk
  subst gk
  cases hl:cL tm 0 (lo.map (aH H)) with
  | none=>simp [hl] at h
  | some l=>
   simp only [hl] at h
   cases hh:cL tm n (hi.map (aH H)) with
   | none=>simp [hh] at h
   | some g=>
    simp only [hh] at h
    cases hc:(yx l g&&yx g n&&ym z0 sz) with
    | false=>rw [hc] at h;cases h
    | true=>
     rw [hc] at h;simp only [yp] at h;simp only [yf] at hc;have h1:=yr hc.1.1;have h2:=yr hc.1.2;have hpz:p.z=sz:=fF.trans (yi hc.2)
     cases he:(ym l g&& !ym l 0) with
     | true=>
      rw [he] at h;simp only [yp,yb] at h;subst h;simp only [yf] at he;have AX:=yi he.1;refine ⟨_,EK (some ⟨p.b,p.o+o,none⟩) n c l g hl hh h1 (by omega),?_⟩;simp only [ae];by_cases dR:c=l
      ·exact .inl ⟨p.b,p.o+o,c-l,by simp [dR];omega,by omega,by simp,by simp,by simp [aC],by simp [bF]⟩
      ·exact .inl ⟨p.b,p.o+o+l*sz,c-l,by simp [dR,lD];omega,by omega,by simp,by simp,by simp [aC],by simp [bF]⟩
     | false=>
      rw [he] at h;simp only [yI,yb] at h;subst h;have dR:c=l->l=0:=by
       intro dR;have AX:l=g:=by omega
       cases iT:ym l 0 with
       | true=>exact yi iT
       | false=>rw [AX,Nat.beq_refl,<-AX,iT] at he;cases he
      refine ⟨_,EK (some ⟨p.b,p.o+o,none⟩) n c l g hl hh h1 (by omega),?_⟩;simp only [ae];refine ⟨p,c-l,hm,?_,by omega,?_⟩
      ·by_cases NJ:c=l
       ·have:=dR NJ;subst this;subst NJ;simp
       ·simp [NJ,lD,Nat.add_assoc]
      ·rw [hpz] at Km ⊢
       have:c*sz=l*sz+(c-l)*sz:=by rw [<-Nat.add_mul];congr 1;omega
       omega
end
end
end VE
