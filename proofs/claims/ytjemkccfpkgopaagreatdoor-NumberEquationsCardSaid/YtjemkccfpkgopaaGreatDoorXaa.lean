import GoSem.Core.Code
import GoSem.Core.Float
import GoSem.Core.Utf8
import Derived.CallsIn
import Derived.Laws.World
import GoSem.Op.Equal
import GoSem.Core.Region
import Derived.Below
import Derived.Laws.AppendOwn
import Derived.Laws.Rows
import Derived.WalkKit
import Derived.Laws.CopyRow
import Derived.Laws.Cells
import Derived.Laws.Strings
import Derived.Lib.Strings
import Derived.WideLaws
import Derived.Maps.Keyed
import Derived.ChangeKeysEq
set_option linter.all false
set_option maxRecDepth 100000
open BitVec renaming ofInt→xL
open Bool renaming and_assoc→tA,and_eq_true→ye,eq_iff_iff→uA,false_eq_true→yN,not_eq_true'→uB
open Go renaming Addr→uz,BinOp→wY,Code→wX,Field→uL,FloatKind→vW,IntKind→y9,MapEntry→uO,Oper→yX,Operand→xp,Program→y5,TypeDesc→vJ,TypeId→yC,UnOp→ybB,Value→yg,World→yi,binOp→xJ,sizeOf→vL
open Go.Utf8 renaming runeError→ub,valid→yaB
open List.cons renaming injEq→uW
open List renaming cons_append→xm,drop_drop→vT,extract_eq_take_drop→tD,getElem?_eq_getElem→xU,length_cons→yz,length_take→yI,map_cons→xc,replicate→ym,take_succ_cons→wz,take_zero→tZ
open Nat renaming add_assoc→uT,add_mul→wL,beq→yu,beq_eq→ybN,ble→yE,ble_eq→ybO,blt→yR,eq_of_beq_eq_true→yj,le_of_ble_eq_true→yv,le_refl→yr,le_trans→xi,testBit→uI
open Option renaming map_none→vS,map_some→wP
open Option.some renaming injEq→yd
open UInt8 renaming toNat→xb,toNat_inj→yaC
def vz:=@and_true
def yam:=@beq_iff_eq
def tT:=@beq_self_eq_true
def yS:=@cond_false
def yA:=@cond_true
def xa:=@decide_eq_false
def vm:=@decide_eq_false_iff_not
def xo:=@decide_eq_true
def xI:=@decide_eq_true_eq
def yy:=@decide_false
def yq:=@decide_true
def ybu:=@false_or
def xf:=@if_false
def yB:=@if_neg
def yQ:=@if_pos
def xC:=@if_true
def ybP:=@not_true_eq_false
def th:=@true_and
namespace VE
section
open Go (IntKind FloatKind BinOp UnOp)
inductive Fr where
 | f (n:Nat)
 | y (l:Nat)
 deriving DecidableEq,Inhabited
inductive AV where
 | int (k:y9) (n:Int)
 | bool (b:Bool)
 | bS (k:vW) (bits:Nat)
 | str (s:List Nat)
 | kN
 | ptr (id off:Nat)
 | b5 (cells:List AV)
 | aa
 | aA (ex:Bool) (n:Nat) (cells:List AV)
 | bD (ex:Bool) (sz n:Nat) (cells:List AV)
 | aB (id off n:Nat)
 | fn (f:Fr) (first cap:List AV)
 | iS
 | j0
 | map (id:Nat)
 | jw (ks vs:List AV)
 | it (id:Nat)
 | agg (cells:List AV)
 | ae (vs:List AV)
 | undef
 deriving Inhabited
inductive X where
 | t (i:Nat)
 | c (v:AV)
 deriving Inhabited
inductive Conv where
 | toInt (k:y9)
 | toFlt (k:vW)
 | str
 deriving Inhabited
inductive Md where
 | pure | own | heap | dyn
 deriving Inhabited
inductive Cut where
 | str
 | sl (sz:Nat)
 | ar (len sz:Nat)
 deriving Inhabited
inductive Pf where
 | b | sl | fn | ag (ks:List Nat)
 deriving Inhabited
inductive Op where
 | cu (x:X)
 | pick (c a b:X)
 | box (sz:Nat) (x:X)
 | fO (zero:List AV) (parts:List (Nat×Nat×X))
 | cZ (n sz:Nat) (zero:List AV) (parts:List (Nat×Nat×X))
 | ld (sz:Nat) (ag:Bool) (x:X)
 | st (sz:Nat) (x v:X)
 | Jg (x:X)
 | bin (op:wY) (x y:X)
 | eq (ne:Bool) (k:Pf) (x y:X)
 | un (op:ybB) (x:X)
 | cv (k:Conv) (x:X)
 | Dl (f:Fr) (first cap:List X)
 | zY
 | gj (sz bytes:Nat) (zero:List AV) (len cap:X)
 | dS (k:Cut) (x:X) (lo hi:Option X)
 | off (k:Nat) (x:X)
 | Ko (o sz:Nat) (ag:Bool) (x:X)
 | aQ (sz:Nat) (x i:X)
 | FQ (len sz:Nat) (x i:X)
 | kT (x i:X)
 | FR (len sz:Nat) (ag:Bool) (x i:X)
 | Pg (kk:Nat) (zero:AV) (ok:Bool) (m k:X)
 | pK (kk:Nat) (m k v:X)
 | pL (x:X)
 | pM (x:X)
 | ext (i:Nat) (x:X)
 | call (m:Md) (f:X) (xs:List X)
 | iM (rs:List (Nat×Bool×Nat)) (f:X) (xs:List X)
 | jA (rs:List (Nat×Bool×Nat)) (sz:Nat) (x v:X)
 | kU (rs:List (Nat×Bool×Nat)) (sz bytes:Nat) (s x:X)
 | aO (sz bytes:Nat) (s x:X)
 | pN (sz bytes:Nat) (s x:X)
 | mJ (sz:Nat) (d s:X)
 | len (k:Nat) (x:X)
 | mn (xs:List X)
 | mx (xs:List X)
 deriving Inhabited
structure a8 where
 dst:Option Nat
 guard:Option (Nat×Bool)
 op:Op
 deriving Inhabited
inductive VC where
 | skip
 | aM (ops:List a8)
 | seq (a b:VC)
 | cond (x:X) (a b:VC)
 | aF (id:Nat) (a:VC)
 | kp (live:List Nat)
 | fz (ts:List Nat)
 | loop (live:List Nat) (a:VC)
 | rf (f:X) (ps:List Nat) (assign body:VC)
 | exit (id:Nat)
 | ret
 deriving Inhabited
inductive RV where
 | t (i:Nat)
 | cell (i sz:Nat) (ag:Bool)
 deriving Inhabited
structure aZ where
 gk:List RV
 body:VC
 deriving Inhabited
inductive zE where
 | none | ret | exit (id:Nat)
 deriving Inhabited,DecidableEq
abbrev Env:=List (Nat×AV)
inductive Obj where
 | cells (rw pu ex:Bool) (sz:Nat) (cs:List AV)
 | mp (rw:Bool) (ks vs:List AV)
 | si (s:List Nat) (pos:Nat)
 | lp (tm:Env) (ps:List Nat) (assign body:VC) (state:Nat) (pending:zE)
 deriving Inhabited
abbrev Hp:=List (Nat×Obj)
structure St where
 tm:Env
 hp:Hp
 ct:Nat
 base:Nat
 deriving Inhabited
inductive Ex where
 | normal
 | ret
 | exit (id:Nat)
 deriving Inhabited,DecidableEq
def ai:Env->Nat->AV
 | [],_=> .undef
 | (j,v)::r,i=>bif yu j i then v else ai r i
def aq:Hp->Nat->Option Obj
 | [],_=>none
 | (j,o)::r,i=>bif yu j i then some o else aq r i
def bc:Hp->Nat->Obj->Hp
 | [],_,_=>[]
 | (j,o)::r,i,u=>bif yu j i then (j,u)::r else (j,o)::bc r i u
def dP:Hp->Nat->Hp
 | [],_=>[]
 | (j,o)::r,i=>bif yu j i then dP r i else (j,o)::dP r i
mutual
def a6:AV->Bool
 | .ptr _ _ | .aB _ _ _ | .map _ | .it _ | .bD _ _ _ _=>false
 | .fn (.y _) _ _=>false
 | .fn (.f _) first cap=>aG first&&aG cap
 | .agg cs=>aG cs
 | .ae vs=>aG vs
 | _=>true
def aG:List AV->Bool
 | []=>true
 | v::r=>a6 v&&aG r
end
def cellsOf:AV->List AV
 | .agg cs=>cs
 | v=>[v]
def dh:AV->Bool
 | .agg _ | .ae _ | .undef | .bD _ _ _ _=>false
 | _=>true
def cy:List AV->Bool
 | []=>true
 | v::r=>dh v&&cy r
def aD (tm:Env):X->AV
 | .t i=>ai tm i
 | .c v=>v
def dw (tm:Env):List X->List AV
 | []=>[]
 | x::r=>aD tm x::dw tm r
def slice (o n:Nat) (cs:List AV):List AV:=(cs.drop o).take n
def over (o:Nat) (new cs:List AV):List AV:=cs.take o++new++cs.drop (o+new.length)
mutual
def freeze:Nat->Hp->AV->Option (AV×Hp)
 | 0,_,_=>none
 | n+1,hp,v=>
  match v with
  | .aB id o k=>
   match qc n hp id with
   | some (ex,sz,cs,ap)=>
    bif yE (o+k*sz) cs.length then
     some (.aA (ex&&yR 0 sz&&yu (o+k*sz) cs.length) k (slice o (k*sz) cs),ap)
    else none
   | none=>none
  | .ptr id o=>
   match qc n hp id with
   | some (_,_,cs,ap)=>some (.b5 (cs.drop o),ap)
   | none=>none
  | .map id=>
   match aq hp id with
   | some (.mp _ ks vs)=>bif aG ks&&aG vs then some (.jw ks vs,bc hp id (.mp false ks vs)) else none
   | _=>none
  | .fn (.f g) first cap=>
   match cI n hp first with
   | some (ag8,bj)=>
    match cI n bj cap with
    | some (Nt,jJ)=>some (.fn (.f g) ag8 Nt,jJ)
    | none=>none
   | none=>none
  | .agg cs=>match cI n hp cs with | some (dF,ap)=>some (.agg dF,ap) | none=>none
  | .ae cs=>match cI n hp cs with | some (dF,ap)=>some (.ae dF,ap) | none=>none
  | v=>bif a6 v then some (v,hp) else none
def qc:Nat->Hp->Nat->Option (Bool×Nat×List AV×Hp)
 | 0,_,_=>none
 | n+1,hp,id=>
  match aq hp id with
  | some (.cells rw pu ex sz cs)=>
   bif pu then some (ex,sz,cs,bif rw then bc hp id (.cells false true ex sz cs) else hp)
   else match cI n hp cs with
    | some (dF,ap)=>some (ex,sz,dF,bc ap id (.cells false false ex sz cs))
    | none=>none
  | _=>none
def cI:Nat->Hp->List AV->Option (List AV×Hp)
 | 0,_,_=>none
 | _+1,hp,[]=>some ([],hp)
 | n+1,hp,v::r=>
  match freeze n hp v with
  | some (v',bj)=>
   match cI n bj r with
   | some (r',jJ)=>some (v'::r',jJ)
   | none=>none
  | none=>none
end
def pc (n:Nat) (hp:Hp) (v:AV):Option (AV×Hp):=
 match v with
 | .aB id o k=>
  match aq hp id with
  | some (.cells true true ex sz cs)=>
   bif yE (o+k*sz) cs.length then
    some (.bD (ex&&yR 0 sz&&yu (o+k*sz) cs.length) sz k (slice o (k*sz) cs),dP hp id)
   else none
  | _=>freeze n hp v
 | _=>freeze n hp v
def Em:List AV->Option (List Nat)
 | []=>some []
 | .aB id _ _::r=>match Em r with | some l=>bif l.any (yu id) then none else some (id::l) | none=>none
 | v::r=>bif a6 v then Em r else none
def sY (n:Nat):Hp->List AV->Option (List AV×Hp)
 | hp,[]=>some ([],hp)
 | hp,v::r=>
  match pc n hp v with
  | some (v',bj)=>match sY n bj r with | some (r',jJ)=>some (v'::r',jJ) | none=>none
  | none=>none
def deep:Nat:=1000
def result (hp:Hp) (v:AV):Option AV:=
 match v with
 | .ae vs=>
  match Em vs with
  | some _=>match sY deep hp vs with | some (dZ,_)=>some (.ae dZ) | none=>none
  | none=>match freeze deep hp v with | some (v',_)=>some v' | none=>none
 | v=>match pc deep hp v with | some (v',_)=>some v' | none=>none
def bH:AV->AV
 | .bD ex _ n cs=> .aA ex n cs
 | v=>v
def CP:List AV->List AV
 | []=>[]
 | v::r=>bH v::CP r
def shut:AV->AV
 | .bD ex _ n cs=> .aA ex n cs
 | .ae vs=> .ae (CP vs)
 | v=>v
def fe (hp:Hp) (ct:Nat):AV->AV×Hp×Nat
 | .bD ex sz n cs=>(.aB ct 0 n,(ct,.cells true true ex sz cs)::hp,ct+1)
 | v=>(v,hp,ct)
def jH:Hp->Nat->List AV->List AV×Hp×Nat
 | hp,ct,[]=>([],hp,ct)
 | hp,ct,v::r=>((fe hp ct v).1::(jH (fe hp ct v).2.1 (fe hp ct v).2.2 r).1,(jH (fe hp ct v).2.1 (fe hp ct v).2.2 r).2)
def own (hp:Hp) (ct:Nat):AV->AV×Hp×Nat
 | .ae vs=>(.ae (jH hp ct vs).1,(jH hp ct vs).2)
 | v=>fe hp ct v
mutual
def refs:AV->List Nat
 | .ptr id _=>[id]
 | .aB id _ _=>[id]
 | .map id=>[id]
 | .it id=>[id]
 | .fn (.f _) first cap=>fZ first++fZ cap
 | .fn (.y l) _ _=>[l]
 | .agg cs=>fZ cs
 | .ae cs=>fZ cs
 | _=>[]
def fZ:List AV->List Nat
 | []=>[]
 | v::r=>refs v++fZ r
end
def gF:Env->List Nat
 | []=>[]
 | (_,v)::r=>refs v++gF r
def kF:Obj->List Nat
 | .cells _ pu _ _ cs=>bif pu then [] else fZ cs
 | .mp _ ks vs=>fZ ks++fZ vs
 | .si _ _=>[]
 | .lp tm _ _ _ _ _=>gF tm
mutual
def cd (f:Nat->Option Nat):AV->AV
 | .ptr id o=>match f id with | some j=> .ptr j o | none=> .undef
 | .aB id o n=>match f id with | some j=> .aB j o n | none=> .undef
 | .map id=>match f id with | some j=> .map j | none=> .undef
 | .it id=>match f id with | some j=> .it j | none=> .undef
 | .fn (.f g) first cap=> .fn (.f g) (eK f first) (eK f cap)
 | .fn (.y l) first cap=>match f l with | some j=> .fn (.y j) (eK f first) (eK f cap) | none=> .undef
 | .agg cs=> .agg (eK f cs)
 | .ae cs=> .ae (eK f cs)
 | v=>v
def eK (f:Nat->Option Nat):List AV->List AV
 | []=>[]
 | v::r=>cd f v::eK f r
end
def iT (f:Nat->Option Nat):Env->Env
 | []=>[]
 | (i,v)::r=>(i,cd f v)::iT f r
def jx (f:Nat->Option Nat):Obj->Obj
 | .cells rw pu ex sz cs=> .cells rw pu ex sz (bif pu then cs else eK f cs)
 | .mp rw ks vs=> .mp rw (eK f ks) (eK f vs)
 | .si s pos=> .si s pos
 | .lp tm ps cK body st pe=> .lp (iT f tm) ps cK body st pe
def da (tm:Env):List Nat->Env
 | []=>[]
 | i::r=>(i,ai tm i)::da tm r
def jy (i:Nat):List Nat->Bool
 | []=>false
 | j::r=>bif yu j i then true else jy i r
def reach (hp:Hp) (base:Nat):Nat->List Nat->List Nat->List Nat
 | 0,_,seen=>seen
 | _+1,[],seen=>seen
 | n+1,id::fB,seen=>
  bif yR id base||jy id seen then reach hp base n fB seen
  else match aq hp id with
   | some o=>reach hp base n (kF o++fB) (seen++[id])
   | none=>reach hp base n fB seen
def jq (base:Nat):Hp->List Nat
 | []=>[]
 | (id,o)::r=>bif yR id base then kF o++jq base r else jq base r
def hX (i:Nat):List Nat->Nat->Option Nat
 | [],_=>none
 | j::r,k=>bif yu j i then some k else hX i r (k+1)
def kG (base:Nat) (seen:List Nat) (id:Nat):Option Nat:=bif yR id base then some id else hX id seen base
def mv (base:Nat) (f:Nat->Option Nat):Hp->Hp
 | []=>[]
 | (id,o)::r=>bif yR id base then (id,jx f o)::mv base f r else mv base f r
def gG (hp:Hp) (f:Nat->Option Nat):List Nat->Nat->Hp->Hp
 | [],_,acc=>acc
 | id::r,k,acc=>match aq hp id with | some o=>gG hp f r (k+1) ((k,jx f o)::acc) | none=>gG hp f r (k+1) acc
def aS (live:List Nat) (s:St):St:=
 let tm:=da s.tm live
 let seen:=reach s.hp s.base 100000 (gF tm++jq s.base s.hp) []
 let f:=kG s.base seen
 {tm:=iT f tm,hp:=gG s.hp f seen s.base (mv s.base f s.hp),ct:=s.base+seen.length,base:=s.base}
def jD (hp:Hp) (sz:Nat):AV->Option (Nat×List AV)
 | .aa=>some (0,[])
 | .aA _ n cs=>bif yu cs.length (n*sz) then some (n,cs) else none
 | .aB id o n=>
  match aq hp id with
  | some (.cells _ _ _ _ cs)=>bif yE (o+n*sz) cs.length then some (n,slice o (n*sz) cs) else none
  | _=>none
 | _=>none
def Mo:List Nat->List AV
 | []=>[]
 | b::r=> .int .u8 b::Mo r
def BE:List Nat->List Nat->Bool
 | _,[]=>false
 | [],_::_=>true
 | a::x,b::y=>yR a b||(yu a b&&BE x y)
def cV:List Nat->List Nat->Bool
 | [],[]=>true
 | a::x,b::y=>yu a b&&cV x y
 | _,_=>false
def ej:List Nat->List AV->List AV->Option Bool
 | [],[],[]=>some true
 | 0::ks,.bool a::x,.bool b::y=>match ej ks x y with | some r=>some ((a==b)&&r) | none=>none
 | 1::ks,.int k a::x,.int k' b::y=>if k=k' then (match ej ks x y with | some r=>some ((a==b)&&r) | none=>none) else none
 | 2::ks,.str a::x,.str b::y=>match ej ks x y with | some r=>some (cV a b&&r) | none=>none
 | _,_,_=>none
def jI:Pf->AV->AV->Option Bool
 | .b,.bool a,.bool b=>some (a==b)
 | .sl,.aa,.aa=>some true
 | .sl,.aa,.aA _ _ _=>some false
 | .sl,.aa,.aB _ _ _=>some false
 | .sl,.aA _ _ _,.aa=>some false
 | .sl,.aB _ _ _,.aa=>some false
 | .fn,.iS,.iS=>some true
 | .fn,.iS,.fn _ _ _=>some false
 | .fn,.fn _ _ _,.iS=>some false
 | .ag ks,.agg a,.agg b=>ej ks a b
 | _,_,_=>none
def intCmp (op:wY) (x y:Int):Option Bool:=
 match op with
 | .eql=>some (x==y)
 | .neq=>some (x !=y)
 | .lss=>some (decide (x<y))
 | .leq=>some (decide (x<=y))
 | .gtr=>some (decide (x>y))
 | .geq=>some (decide (x>=y))
 | _=>none
def lG (op:wY) (k:y9) (x y:Int):Option AV:=
 match op with
 | .add=>some (.int k (k.wrap (x+y)))
 | .sub=>some (.int k (k.wrap (x-y)))
 | .mul=>some (.int k (k.wrap (x*y)))
 | .quo=>if y=0 then none else some (.int k (k.wrap (x.tdiv y)))
 | .rem=>if y=0 then none else some (.int k (x.tmod y))
 | .and=>some (.int k (k.wrap (xL k.bits x&&&xL k.bits y).toNat))
 | .or=>some (.int k (k.wrap (xL k.bits x|||xL k.bits y).toNat))
 | .xor=>some (.int k (k.wrap (xL k.bits x^^^xL k.bits y).toNat))
 | .andNot=>some (.int k (k.wrap (xL k.bits x&&&~~~(xL k.bits y)).toNat))
 | .shl | .shr=>none
 | op=>match intCmp op x y with | some b=>some (.bool b) | none=>none
def Cn (op:wY) (k:y9) (x y:Int):Option AV:=
 if y<0 then none else
 match op with
 | .shl=>some (.int k (k.wrap (x*2^(min y.toNat k.bits))))
 | .shr=>some (.int k (x.fdiv (2^(min y.toNat k.bits))))
 | _=>none
def IV (op:wY) (x y:List Nat):Option AV:=
 match op with
 | .add=>bif yE (x.length+y.length) 9223372036854775807 then some (.str (x++y)) else none
 | .eql=>some (.bool (cV x y))
 | .neq=>some (.bool (!cV x y))
 | .lss=>some (.bool (BE x y))
 | .leq=>some (.bool (BE x y||cV x y))
 | .gtr=>some (.bool (!(BE x y||cV x y)))
 | .geq=>some (.bool (!BE x y))
 | _=>none
def SE (op:wY) (k:vW) (x y:Nat):Option AV:=
 let c:=k.format.order x y
 let ar (r:Option Nat):Option AV:=match r with | some b=>some (.bS k b) | none=>none
 match op with
 | .add=>ar (k.format.add x y)
 | .sub=>ar (k.format.sub x y)
 | .mul=>ar (k.format.mul x y)
 | .quo=>ar (k.format.div x y)
 | .eql=>some (.bool (c==some .eq))
 | .neq=>some (.bool (c !=some .eq))
 | .lss=>some (.bool (c==some .lt))
 | .leq=>some (.bool (c==some .lt||c==some .eq))
 | .gtr=>some (.bool (c==some .gt))
 | .geq=>some (.bool (c==some .gt||c==some .eq))
 | _=>none
def binOp (op:wY) (x y:AV):Option AV:=
 match x,y with
 | .int k a,.int k' b=>
  match op with
  | .shl | .shr=>Cn op k a b
  | _=>if k=k' then lG op k a b else none
 | .bS k a,.bS k' b=>if k=k' then SE op k a b else none
 | .str a,.str b=>IV op a b
 | _,_=>none
def unOp (op:ybB) (x:AV):Option AV:=
 match op,x with
 | .neg,.int k n=>some (.int k (k.wrap (0-n)))
 | .xor,.int k n=>lG .xor k (if k.signed then -1 else k.max) n
 | .not,.bool b=>some (.bool !b)
 | .neg,.bS k b=>some (.bS k (b^^^2^(k.format.exponentBits+k.format.fractionBits)))
 | _,_=>none
def pw (c:Conv) (x:AV):Option AV:=
 match c,x with
 | .toInt k,.int _ n=>some (.int k (k.wrap n))
 | .toFlt k,.int _ n=>some (.bS k (k.nearest n))
 | .toInt k,.bS s b=>
  match (s.decode b).toInt .zero with
  | some n=>if k.min<=n/\n<=k.max then some (.int k n) else none
  | none=>none
 | .toFlt k,.bS s b=>
  if s=k then some (.bS k b) else
  match s.decode b with
  | .number sg m e=>if (k.decode (k.encode (.number sg m e))).isInfinity then none else some (.bS k (k.encode (.number sg m e)))
  | _=>none
 | .str,.str s=>some (.str s)
 | _,_=>none
def ib (sz:Nat) (ag:Bool) (cs:List AV):Option AV:=
 bif ag then (bif yE sz cs.length then some (.agg (cs.take sz)) else none)
 else match cs with | v::_=>some v | []=>none
def dz (x:AV):Option Nat:=
 match x with
 | .int _ n=>match n with | .ofNat k=>some k | .negSucc _=>none
 | _=>none
def cY (tm:Env) (d:Nat):Option X->Option Nat
 | none=>some d
 | some x=>dz (aD tm x)
def eV (hp:Hp) (k:Cut) (x:AV) (tm:Env) (lo hi:Option X):Option AV:=
 match k,x with
 | .str,.str s=>
  match cY tm 0 lo,cY tm s.length hi with
  | some l,some h=>bif yE l h&&yE h s.length then some (.str ((s.take h).drop l)) else none
  | _,_=>none
 | .sl _,.aa=>
  match cY tm 0 lo,cY tm 0 hi with
  | some 0,some 0=>some .aa
  | _,_=>none
 | .sl sz,.aA ex n cs=>
  match cY tm 0 lo,cY tm n hi with
  | some l,some h=>bif yE l h&&yE h n then some (.aA (ex&&yu h n) (h-l) (slice (l*sz) ((h-l)*sz) cs)) else none
  | _,_=>none
 | .sl sz,.aB id o n=>
  match aq hp id with
  | some (.cells _ _ _ z _)=>
   match cY tm 0 lo,cY tm n hi with
   | some l,some h=>
    bif yE l h&&yE h n&&yu z sz then
     bif yu l h&& !yu l 0 then some (.aA false 0 []) else some (.aB id (o+l*sz) (h-l))
    else none
   | _,_=>none
  | _=>none
 | _,_=>none
def fill (tm:Env):List AV->List (Nat×Nat×X)->Option (List AV)
 | cs,[]=>some cs
 | cs,(o,sz,x)::r=>
  let new:=cellsOf (aD tm x)
  bif yu new.length sz&&yE (o+sz) cs.length&&cy new then fill tm (over o new cs) r else none
def EQ:AV->AV->Option Bool
 | .int k a,.int k' b=>if k=k' then some (a==b) else none
 | .str a,.str b=>some (cV a b)
 | .bool a,.bool b=>some (a==b)
 | _,_=>none
def sZ:Nat->AV->Bool
 | 0,.bool _=>true
 | 1,.int _ _=>true
 | 2,.str _=>true
 | _,_=>false
def CQ (k:AV):List AV->List AV->Option (Option AV)
 | [],_=>some none
 | k'::ks,v::vs=>match EQ k k' with | some true=>some (some v) | some false=>CQ k ks vs | none=>none
 | _::_,[]=>none
def Be (k v:AV):List AV->List AV->Option (List AV×List AV)
 | [],[]=>some ([k],[v])
 | k'::ks,u::us=>
  match EQ k k' with
  | some true=>some (k'::ks,v::us)
  | some false=>match Be k v ks us with | some (j8,Yz)=>some (k'::j8,u::Yz) | none=>none
  | none=>none
 | _,_=>none
def min2:AV->AV->Option AV
 | .int k x,.int _ y=>some (.int k (if y<x then y else x))
 | .bS k x,.bS _ y=>
  match k.format.order x y with
  | none=>none
  | some .lt=>some (.bS k x)
  | some .gt=>some (.bS k y)
  | some .eq=>some (.bS k (if (k.decode x).neg then x else y))
 | _,_=>none
def max2:AV->AV->Option AV
 | .int k x,.int _ y=>some (.int k (if y>x then y else x))
 | .bS k x,.bS _ y=>
  match k.format.order x y with
  | none=>none
  | some .lt=>some (.bS k y)
  | some .gt=>some (.bS k x)
  | some .eq=>some (.bS k (if (k.decode x).neg then y else x))
 | _,_=>none
def A1 (f:AV->AV->Option AV):AV->List AV->Option AV
 | a,[]=>some a
 | a,b::r=>match f a b with | some c=>A1 f c r | none=>none
def room:Nat:=1099511627776
abbrev fS:=Option (AV×Hp×Nat)
def iU (hp:Hp) (sz:Nat) (ag:Bool):AV->Option AV
 | .ptr id o=>match aq hp id with | some (.cells _ _ _ _ cs)=>ib sz ag (cs.drop o) | _=>none
 | .b5 cs=>ib sz ag cs
 | _=>none
def IW (k:Nat):AV->Option AV
 | .ptr id o=>some (.ptr id (o+k))
 | .b5 cs=>bif yE k cs.length then some (.b5 (cs.drop k)) else none
 | _=>none
def M1 (o sz:Nat) (ag:Bool):AV->Option AV
 | .agg cs=>ib sz ag (cs.drop o)
 | _=>none
def iN (sz i:Nat):AV->Option AV
 | .aB id o n=>bif yR i n then some (.ptr id (o+i*sz)) else none
 | .aA _ n cs=>bif yR i n then some (.b5 (cs.drop (i*sz))) else none
 | _=>none
def M2 (len sz i:Nat):AV->Option AV
 | .ptr id o=>bif yR i len then some (.ptr id (o+i*sz)) else none
 | .b5 cs=>bif yR i len then some (.b5 (cs.drop (i*sz))) else none
 | _=>none
def mY (i:Nat):AV->Option AV
 | .str s=>match s[i]? with | some b=>some (.int .u8 b) | none=>none
 | _=>none
def M3 (len sz:Nat) (ag:Bool) (i:Nat):AV->Option AV
 | .agg cs=>bif yR i len then ib sz ag (cs.drop (i*sz)) else none
 | _=>none
def A2 (hp:Hp) (k:AV):AV->Option (Option AV)
 | .j0=>some none
 | .map id=>match aq hp id with | some (.mp _ ks vs)=>CQ k ks vs | _=>none
 | .jw ks vs=>CQ k ks vs
 | _=>none
def fP (hp:Hp):Nat->AV->Option AV
 | 0,.str s=>some (.int .i64 s.length)
 | 1,.aa=>some (.int .i64 0)
 | 1,.aA _ n _=>some (.int .i64 n)
 | 1,.aB _ _ n=>some (.int .i64 n)
 | 2,.j0=>some (.int .i64 0)
 | 2,.jw ks _=>some (.int .i64 ks.length)
 | 2,.map id=>match aq hp id with | some (.mp _ ks _)=>some (.int .i64 ks.length) | _=>none
 | _,_=>none
def bw (tm:Env) (hp:Hp):Op->Option AV
 | .cu x=>some (aD tm x)
 | .pick c a b=>match aD tm c with | .bool t=>some (bif t then aD tm a else aD tm b) | _=>none
 | .fO zero parts=>match fill tm zero parts with | some cs=>some (.agg cs) | none=>none
 | .ld sz ag x=>iU hp sz ag (aD tm x)
 | .Jg x=>
  match aD tm x with
  | .ptr id o=>some (.ptr id o)
  | .b5 cs=>some (.b5 cs)
  | .fn f a b=>some (.fn f a b)
  | _=>none
 | .bin op x y=>binOp op (aD tm x) (aD tm y)
 | .eq ne k x y=>match jI k (aD tm x) (aD tm y) with | some r=>some (.bool (ne !=r)) | none=>none
 | .un op x=>unOp op (aD tm x)
 | .cv k x=>pw k (aD tm x)
 | .Dl f first cap=>some (.fn f (dw tm first) (dw tm cap))
 | .dS k x lo hi=>eV hp k (aD tm x) tm lo hi
 | .off k x=>IW k (aD tm x)
 | .Ko o sz ag x=>M1 o sz ag (aD tm x)
 | .aQ sz x i=>match dz (aD tm i) with | some j=>iN sz j (aD tm x) | none=>none
 | .FQ len sz x i=>match dz (aD tm i) with | some j=>M2 len sz j (aD tm x) | none=>none
 | .kT x i=>match dz (aD tm i) with | some j=>mY j (aD tm x) | none=>none
 | .FR len sz ag x i=>match dz (aD tm i) with | some j=>M3 len sz ag j (aD tm x) | none=>none
 | .Pg kk zero ok m k=>
  bif sZ kk (aD tm k) then
   match A2 hp (aD tm k) (aD tm m) with
   | some (some v)=>some (bif ok then .ae [v,.bool true] else v)
   | some none=>some (bif ok then .ae [zero,.bool false] else zero)
   | none=>none
  else none
 | .ext i x=>match aD tm x with | .ae vs=>vs[i]? | _=>none
 | .len k x=>fP hp k (aD tm x)
 | .mn xs=>match dw tm xs with | a::r=>A1 min2 a r | []=>none
 | .mx xs=>match dw tm xs with | a::r=>A1 max2 a r | []=>none
 | _=>none
def cP (tm:Env) (hp:Hp) (ct:Nat):Op->Option (AV×Obj)
 | .box sz x=>
  let cs:=cellsOf (aD tm x)
  bif yu cs.length sz&&cy cs then some (.ptr ct 0,.cells true (aG cs) true sz cs) else none
 | .cZ n sz zero parts=>
  match fill tm zero parts with
  | some cs=>bif yu cs.length (n*sz) then some (.aB ct 0 n,.cells true (aG cs) true sz cs) else none
  | none=>none
 | .gj sz bytes zero len cap=>
  match dz (aD tm len),dz (aD tm cap) with
  | some l,some c=>
   bif yE l c&&(yE c room&&(yE (c*bytes) room&&(yu zero.length sz&&cy zero))) then
    some (.aB ct 0 l,.cells true (aG zero) (yu l c) sz (ym l zero).flatten)
   else none
  | _,_=>none
 | .zY=>some (.map ct,.mp true [] [])
 | .pL x=>match aD tm x with | .str s=>some (.it ct,.si s 0) | _=>none
 | _=>none
def decodeL (s:List Nat) (i:Nat):Nat×Nat:=
 let at' (k:Nat):Nat:=s.getD (i+k) 0
 let cont (k:Nat):Bool:=decide (i+k<s.length)&&at' k/64==2
 let b0:=at' 0
 if b0<0x80 then (b0,1)
 else if b0/32==6&&cont 1 then
  let c:=(b0%32)*64+at' 1%64
  if c>=0x80 then (c,2) else (ub,1)
 else if b0/16==14&&cont 1&&cont 2 then
  let c:=(b0%16)*4096+(at' 1%64)*64+at' 2%64
  if c>=0x800&&yaB c then (c,3) else (ub,1)
 else if b0/8==30&&cont 1&&cont 2&&cont 3 then
  let c:=(b0%8)*262144+(at' 1%64)*4096+(at' 2%64)*64+at' 3%64
  if c>=0x10000&&yaB c then (c,4) else (ub,1)
 else (ub,1)
def jt (hp:Hp) (sz:Nat):AV->Option (Nat×List AV)
 | .str b=>bif yu sz 1 then some (b.length,Mo b) else none
 | v=>jD hp sz v
def rK (hp:Hp) (ct sz bytes:Nat) (s:AV) (src:Option (Nat×List AV)):Option (AV×Obj):=
 match src with
 | none=>none
 | some (m,new)=>
  match s with
  | .aB id o n=>
   match aq hp id with
   | some (.cells _ pu true z cs)=>
    bif yu z sz&&(yR 0 m&&(yE (n+m) room&&(yE ((n+m)*bytes) room&&(yu (o+n*sz) cs.length&&yR 0 sz)))) then
     some (.aB ct 0 (n+m),.cells true (pu&&aG new) false sz (slice o (n*sz) cs++new))
    else none
   | _=>none
  | _=>none
def cJ (tm:Env) (hp:Hp) (ct:Nat):Op->fS
 | .st sz x v=>
  let new:=cellsOf (aD tm v)
  match aD tm x with
  | .ptr id o=>
   match aq hp id with
   | some (.cells true pu ex z cs)=>
    bif yu new.length sz&&yE (o+sz) cs.length&&cy new then
     some (.ae [],bc hp id (.cells true (pu&&aG new) ex z (over o new cs)),ct)
    else none
   | _=>none
  | _=>none
 | .pK kk m k v=>
  match aD tm m with
  | .map id=>
   match aq hp id with
   | some (.mp true ks vs)=>bif !sZ kk (aD tm k) then none else match Be (aD tm k) (aD tm v) ks vs with | some (j8,dZ)=>some (.ae [],bc hp id (.mp true j8 dZ),ct) | none=>none
   | _=>none
  | _=>none
 | .pM x=>
  match aD tm x with
  | .it id=>
   match aq hp id with
   | some (.si s pos)=>
    bif yR pos s.length then
     match decodeL s pos with
     | (c,wd)=>some (.ae [.bool true,.int .i64 pos,.int .i32 c],bc hp id (.si s (pos+wd)),ct)
    else some (.ae [.bool false],hp,ct)
   | _=>none
  | _=>none
 | .aO sz bytes s x=>
  match jt hp sz (aD tm x) with
  | none=>none
  | some (m,new)=>
   match aD tm s with
   | .aa=>
    bif yu m 0 then some (.aa,hp,ct)
    else bif yE m room&&(yE (m*bytes) room&&yR 0 sz) then some (.aB ct 0 m,(ct,.cells true (aG new) false sz new)::hp,ct+1) else none
   | .aA true n cs=>
    bif yu m 0 then some (.aA true n cs,hp,ct)
    else bif yE (n+m) room&&(yE ((n+m)*bytes) room&&(yu cs.length (n*sz)&&yR 0 sz)) then some (.aB ct 0 (n+m),(ct,.cells true (aG cs&&aG new) false sz (cs++new))::hp,ct+1) else none
   | .aB id o n=>
    match aq hp id with
    | some (.cells true pu _ z cs)=>
     bif yu z sz&&(yE (n+m) room&&(yE ((n+m)*bytes) room&&(yE (o+n*sz) cs.length&&(yR 0 sz&&cy new)))) then
      some (.aB ct 0 (n+m),(ct,.cells true (pu&&aG new) false sz (slice o (n*sz) cs++new))::dP hp id,ct+1)
     else none
    | _=>none
   | _=>none
 | .mJ sz d s=>
  match jD hp sz (aD tm s),aD tm d with
  | some (m,new),.aB id o n=>
   match aq hp id with
   | some (.cells true pu ex z cs)=>
    bif yu z sz&&(yE (o+n*sz) cs.length&&cy new) then
     some (.int .i64 (min m n:Nat),bc hp id (.cells true (pu&&aG new) ex z (over o (new.take (min m n*sz)) cs)),ct)
    else none
   | _=>none
  | _,_=>none
 | _=>none
def iO:X->List Nat | .t i=>[i] | .c _=>[]
def zh:List X->List Nat
 | []=>[]
 | x::r=>iO x++zh r
def IX:Option X->List Nat | some x=>iO x | none=>[]
def IY:List (Nat×Nat×X)->List Nat
 | []=>[]
 | (_,_,x)::r=>iO x++IY r
def jW:Op->List Nat
 | .cu x | .box _ x | .ld _ _ x | .Jg x | .un _ x | .cv _ x | .off _ x | .Ko _ _ _ x | .pL x | .pM x | .ext _ x | .len _ x=>iO x
 | .pick a b c | .pK _ a b c=>iO a++(iO b++iO c)
 | .fO _ ps | .cZ _ _ _ ps=>IY ps
 | .st _ a b | .bin _ a b | .eq _ _ a b | .aQ _ a b | .FQ _ _ a b | .kT a b | .FR _ _ _ a b | .Pg _ _ _ a b | .aO _ _ a b | .pN _ _ a b | .mJ _ a b=>iO a++iO b
 | .Dl _ a b=>zh a++zh b
 | .zY=>[]
 | .gj _ _ _ a b=>iO a++iO b
 | .dS _ x a b=>iO x++(IX a++IX b)
 | .call _ f xs=>iO f++zh xs
 | .iM _ f xs=>iO f++zh xs
 | .jA _ _ a b=>iO a++iO b
 | .kU _ _ _ a b=>iO a++iO b
 | .mn xs | .mx xs=>zh xs
def bA:Op->Nat
 | .cu _ | .pick _ _ _ | .fO _ _ | .Jg _ | .bin _ _ _ | .eq _ _ _ _ | .un _ _ | .cv _ _ | .Dl _ _ _ | .off _ _ | .Ko _ _ _ _ | .aQ _ _ _ | .FQ _ _ _ _ | .kT _ _ | .FR _ _ _ _ _ | .ext _ _ | .mn _ | .mx _=>0
 | .dS .str _ _ _ | .len 0 _ | .len 1 _=>0
 | .st _ _ _ | .pK _ _ _ _ | .pM _ | .aO _ _ _ _ | .mJ _ _ _ | .iM _ _ _ | .jA _ _ _ _ | .kU _ _ _ _ _ | .call .heap _ _ | .call .dyn _ _=>2
 | _=>1
def SF:Option (Nat×Bool)->List Nat | some (t,_)=>[t] | none=>[]
def Cu (o:a8):List Nat:=SF o.guard++jW o.op
def E1 (d:Option Nat) (l:List Nat):Bool:=match d with | some i=>jy i l | none=>false
def ais (d e:Option Nat):Bool:=match d,e with | some i,some j=>yu i j | _,_=>false
def L3 (a b:a8):Bool:=E1 a.dst (Cu b)||E1 b.dst (Cu a)||ais a.dst b.dst
def CY (sz:Nat) (ag:Bool) (t:Nat):List (Nat×Bool×Nat)->Bool
 | []=>false
 | (s,g,u)::r=>(yu s sz&&(g==ag&&yu u t))||CY sz ag t r
def CR (t:Nat):List a8->Bool
 | []=>true
 | o::r=> !E1 o.dst [t]&&CR t r
def H7 (a b:a8) (r:List a8):Bool:=
 match a.guard,a.op,b.op with
 | none,.ld sz ag (.t t),.iM rs _ _=>CY sz ag t rs&&CR t (a::r)
 | none,.ld sz ag (.t t),.jA rs _ _ _=>CY sz ag t rs&&CR t (a::r)
 | none,.ld sz ag (.t t),.kU rs _ _ _ _=>CY sz ag t rs&&CR t (a::r)
 | _,_,_=>false
def HJ (a b:a8):Bool:=
 match bA a.op,bA b.op with
 | 1,2 | 2,1 | 2,2=>true
 | _,_=>false
def L4 (m:Nat) (b:a8):List a8->Nat->Bool
 | [],_=>true
 | a::r,i=>(uI m i|| !(L3 a b||(HJ a b&& !H7 a b r)))&&L4 m b r (i+1)
def za (done:List a8):List a8->List Nat->Bool
 | [],_=>true
 | b::r,m::ms=>L4 m b done 0&&za (done++[b]) r ms
 | _::_,[]=>false
def H8 (m:Nat):List a8->Nat->List (Nat×Bool×Nat)
 | [],_=>[]
 | a::r,i=>
  match uI m i,a with
  | false,⟨_,none,.ld sz ag (.t t)⟩=>(sz,ag,t)::H8 m r (i+1)
  | _,_=>H8 m r (i+1)
def stOp (rs:List (Nat×Bool×Nat)) (sz:Nat) (x v:X):Op:=match rs with | []=> .st sz x v | rs=> .jA rs sz x v
def ajf (rs:List (Nat×Bool×Nat)) (sz b:Nat) (x v:X):Op:=match rs with | []=> .aO sz b x v | rs=> .kU rs sz b x v
def mZ (done:List a8):List a8->List Nat->List a8
 | ⟨d,g,.iM _ f xs⟩::r,m::ms=>let o:a8:=⟨d,g,.iM (H8 m done 0) f xs⟩;o::mZ (done++[o]) r ms
 | ⟨d,g,.st sz x v⟩::r,m::ms=>let o:a8:=⟨d,g,stOp (H8 m done 0) sz x v⟩;o::mZ (done++[o]) r ms
 | ⟨d,g,.aO sz b x v⟩::r,m::ms=>let o:a8:=⟨d,g,ajf (H8 m done 0) sz b x v⟩;o::mZ (done++[o]) r ms
 | o::r,_::ms=>o::mZ (done++[o]) r ms
 | l,_=>l
def ag9 (done:List a8):X->Bool
 | .t i=>done.any fun o=>match o.dst,o.op with | some j,.cZ _ _ _ _=>yu i j | _,_=>false
 | _=>false
def ER (done:List a8):List a8->List a8
 | []=>[]
 | o::r=>(match o.op with | .aO sz b x v=>bif ag9 done x then ⟨o.dst,o.guard,.pN sz b x v⟩ else o | _=>o)::ER (done++[o]) r
abbrev aI:=Nat->Option aZ
structure Lib where
 pure:Nat->Option (List AV->Option AV)
 heap:Nat->Option (Hp->Nat->List AV->fS)
abbrev cA:=VC->St->Option (Ex×St)
def eh:Nat->List AV->Env
 | _,[]=>[]
 | i,v::r=>(i,v)::eh (i+1) r
def results1 (s:St):RV->Option AV
 | .t i=>some (ai s.tm i)
 | .cell i sz ag=>
  match ai s.tm i with
  | .ptr id o=>match aq s.hp id with | some (.cells _ _ _ _ cs)=>ib sz ag (cs.drop o) | _=>none
  | .b5 cs=>ib sz ag cs
  | _=>none
def lk (s:St):List RV->Option (List AV)
 | []=>some []
 | r::rest=>match results1 s r,lk s rest with | some v,some vs=>some (v::vs) | _,_=>none
def iJ (s:St) (rs:List RV):Option AV:=
 match lk s rs with
 | some [v]=>some v
 | some vs=>some (.ae vs)
 | none=>none
def bO (P:aI) (L:Lib) (self:cA) (n:Nat) (av:List AV):Option AV:=
 match L.pure n with
 | some sp=>sp av
 | none=>
  match P n with
  | none=>none
  | some F=>
   match self F.body ⟨eh 0 av,[],0,0⟩ with
   | some (.normal,s) | some (.ret,s)=>match iJ s F.gk with | some v=>result s.hp v | none=>none
   | _=>none
def Sb:Ex->zE
 | .normal=> .none
 | .ret=> .ret
 | .exit id=> .exit id
def rF:Env->List Nat->List AV->Option Env
 | tm,[],[]=>some tm
 | tm,p::ps,v::vs=>rF ((p,v)::tm) ps vs
 | _,_,_=>none
def iL (P:aI) (L:Lib) (self:cA) (hp:Hp) (ct:Nat) (n:Nat) (av:List AV):fS:=
 match L.heap n with
 | some sp=>sp hp ct av
 | none=>
  match P n with
  | none=>none
  | some F=>
   match self F.body ⟨eh 0 av,hp,ct,ct⟩ with
   | some (.normal,s) | some (.ret,s)=>match iJ s F.gk with | some v=>some (v,s.hp,s.ct) | none=>none
   | _=>none
def nJ (self:cA) (hp:Hp) (ct:Nat) (l:Nat) (xs:List AV):fS:=
 match aq hp l with
 | some (.lp tm ps cK body 0 _)=>
  match rF tm ps xs with
  | none=>none
  | some tm'=>
   match self cK ⟨tm',hp,ct,ct⟩ with
   | some (.normal,s1)=>
    match aq s1.hp l with
    | some (.lp jK Dm BF CS 0 zZ)=>
     match self body ⟨s1.tm,bc s1.hp l (.lp jK Dm BF CS 1 zZ),s1.ct,s1.ct⟩ with
     | some (ex,s2)=>
      match aq s2.hp l with
      | some (.lp sd Kp Kq IZ 1 _)=>
       match ex with
       | .normal=>some (.bool true,bc s2.hp l (.lp sd Kp Kq IZ 0 .none),s2.ct)
       | ex=>some (.bool false,bc s2.hp l (.lp sd Kp Kq IZ 2 (Sb ex)),s2.ct)
      | _=>none
     | none=>none
    | _=>none
   | _=>none
 | _=>none
def eJ (P:aI) (L:Lib) (self:cA) (hp:Hp) (ct:Nat) (m:Md) (fv:AV) (xs:List AV):fS:=
 match fv with
 | .fn (.f n) first cap=>
  match m with
  | .pure=>
   match cI deep hp (first++(xs++cap)) with
   | some (av,bj)=>match bO P L self n av with | some r=>some (shut r,bj,ct) | none=>none
   | none=>none
  | .own=>
   match cI deep hp (first++(xs++cap)) with
   | some (av,bj)=>match bO P L self n av with | some r=>some (own bj ct r) | none=>none
   | none=>none
  | .heap=>iL P L self hp ct n (first++(xs++cap))
  | .dyn=>
   bif aG (first++(xs++cap)) then
    match bO P L self n (first++(xs++cap)) with | some r=>some (shut r,hp,ct) | none=>none
   else iL P L self hp ct n (first++(xs++cap))
 | .fn (.y l) _ _=>
  match m with
  | .heap | .dyn=>nJ self hp ct l xs
  | _=>none
 | _=>none
def S4:AV->AV->Bool
 | .int k a,.int k' b=>decide (k=k')&&a==b
 | .bool a,.bool b=>a==b
 | .str a,.str b=>cV a b
 | .aa,.aa=>true
 | .kN,.kN=>true
 | .ptr i o,.ptr j p=>yu i j&&yu o p
 | .aB i o n,.aB j p m=>yu i j&&(yu o p&&yu n m)
 | .map i,.map j=>yu i j
 | _,_=>false
def oT (tm:Env) (hp ap:Hp):List (Nat×Bool×Nat)->Bool
 | []=>true
 | (sz,ag,x)::r=>
  match iU hp sz ag (ai tm x),iU ap sz ag (ai tm x) with
  | some a,some b=>S4 a b&&oT tm hp ap r
  | _,_=>false
def nL (tm:Env) (id:Nat):List (Nat×Bool×Nat)->Bool
 | []=>true
 | (_,_,x)::r=>(match ai tm x with | .ptr j _=> !yu j id | .b5 _=>true | _=>false)&&nL tm id r
def bf (P:aI) (L:Lib) (self:cA) (tm:Env) (hp:Hp) (ct:Nat) (o:Op):fS:=
 match o with
 | .call m f xs=>eJ P L self hp ct m (aD tm f) (dw tm xs)
 | .iM rs f xs=>
  match eJ P L self hp ct .dyn (aD tm f) (dw tm xs) with
  | some (v,ap,a7)=>bif oT tm hp ap rs then some (v,ap,a7) else none
  | none=>none
 | .jA rs sz x v=>
  match aD tm x with
  | .ptr id _=>bif nL tm id rs then cJ tm hp ct (.st sz x v) else none
  | _=>none
 | .pN sz b x v=>
  match rK hp ct sz b (aD tm x) (jt hp sz (aD tm v)) with
  | some (v,b)=>some (v,(ct,b)::hp,ct+1)
  | none=>none
 | .kU rs sz b x v=>
  match cJ tm hp ct (.aO sz b x v) with
  | some (v,ap,a7)=>bif oT tm hp ap rs then some (v,ap,a7) else none
  | none=>none
 | .st .. | .pK .. | .pM .. | .aO .. | .mJ .. =>cJ tm hp ct o
 | .box .. | .cZ .. | .gj .. | .zY | .pL .. =>match cP tm hp ct o with | some (v,b)=>some (v,(ct,b)::hp,ct+1) | none=>none
 | o=>match bw tm hp o with | some v=>some (v,hp,ct) | none=>none
def put (d:Option Nat) (v:AV) (tm:Env):Env:=
 match d with
 | some i=>(i,v)::tm
 | none=>tm
def dC (P:aI) (L:Lib) (self:cA):List a8->St->Option St
 | [],s=>some s
 | ⟨d,g,o⟩::r,s=>
  let want:=match g with | none=>some true | some (t,b)=>match ai s.tm t with | .bool c=>some (c==b) | .ae []=>some false | _=>none
  match want with
  | some true=>
   match bf P L self s.tm s.hp s.ct o with
   | some (v,hp,ct)=>dC P L self r {s with tm:=put d v s.tm,hp:=hp,ct:=ct}
   | none=>none
  | some false=>dC P L self r {s with tm:=put d (.ae []) s.tm}
  | none=>none
def pk:List Nat->St->Option St
 | [],s=>some s
 | t::r,s=>
  match freeze deep s.hp (ai s.tm t) with
  | some (v,hp)=>pk r {s with tm:=(t,v)::s.tm,hp:=hp}
  | none=>none
def bM (P:aI) (L:Lib) (self:cA):VC->St->Option (Ex×St)
 | .skip,s=>some (.normal,s)
 | .aM ops,s=>match dC P L self ops s with | some s'=>some (.normal,s') | none=>none
 | .seq a b,s=>
  match bM P L self a s with
  | some (.normal,s1)=>bM P L self b s1
  | r=>r
 | .cond x a b,s=>
  match aD s.tm x with
  | .bool t=>bif t then bM P L self a s else bM P L self b s
  | _=>none
 | .aF id a,s=>
  match bM P L self a s with
  | some (.exit j,s1)=>bif yu j id then some (.normal,s1) else some (.exit j,s1)
  | r=>r
 | .kp live,s=>some (.normal,aS live s)
 | .fz ts,s=>match pk ts s with | some s'=>some (.normal,s') | none=>none
 | .loop live a,s=>
  match bM P L self a (aS live s) with
  | some (.normal,s1)=>self (.loop live a) s1
  | r=>r
 | .rf f ps cK body,s=>
  match aD s.tm f with
  | .fn (.f n) first cap=>
   match L.heap n with
   | some _=>none
   | none=>
    match iL P L self ((s.ct,.lp s.tm ps cK body 0 .none)::s.hp) (s.ct+1) n (first++(.fn (.y s.ct) [] []::cap)) with
    | some (_,hp,ct)=>
     match aq hp s.ct with
     | some (.lp _ _ _ _ st pe)=>
      bif yu st 1 then none else
      match pe with
      | .none=>some (.normal,{s with hp:=dP hp s.ct,ct:=ct})
      | .ret=>some (.ret,{s with hp:=dP hp s.ct,ct:=ct})
      | .exit id=>some (.exit id,{s with hp:=dP hp s.ct,ct:=ct})
     | _=>none
    | none=>none
  | _=>none
 | .exit id,s=>some (.exit id,s)
 | .ret,s=>some (.ret,s)
def ev (P:aI) (L:Lib) (n:Nat):cA:=Nat.rec (fun _ _=>none) (fun _ ih=>bM P L ih) n
def YA (P:aI) (L:Lib) (n:Nat) (f:Nat) (av:List AV):Option AV:=bO P L (ev P L n) f av
end
section
open Go
structure Pl where
 b:Nat
 o:Nat
 e:Nat
 z:Nat
abbrev Mp:=Nat->Option Pl
section
variable (af:Nat->Nat) (m:Mp) (S:Nat->Prop) (w:yi)
mutual
def ah:AV->yg->Prop
 | .int k n,v=>v= .int k n
 | .bool b,v=>v= .bool b
 | .bS k b,v=>v= .float k b
 | .str s,v=>∃t:ByteArray,v= .string t/\t.data.toList.map xb=s
 | .kN,v=>v= .pointer none
 | .ptr id o,v=>∃p,m id=some p/\v= .pointer (some ⟨p.b,p.o+o,none⟩)
 | .b5 cs,v=>∃b o,v= .pointer (some ⟨b,o,none⟩)/\(cs=[]\/S b)/\aG cs=true/\bT cs b o
 | .aa,v=>v= .slice none 0 0
 | .aA ex n cs,v=>(∃b o c,v= .slice (some ⟨b,o,none⟩) n c/\n<=c/\(ex=true->c=n)/\(cs=[]\/S b)/\aG cs=true/\bT cs b o)\/(∃a,v= .slice (some a) 0 0/\n=0/\cs=[])
 | .bD _ _ _ _,_=>False
 | .aB id o n,v=>∃p c,m id=some p/\v= .slice (some ⟨p.b,p.o+o,none⟩) n c/\n<=c/\o+c*p.z=p.e
 | .fn (.f g) first cap,v=>∃fi ca:Array yg,v= .func (.func (af g)) fi ca/\az first fi.toList/\az cap ca.toList
 | .fn (.y l) _ _,v=>∃p,m l=some p/\v= .func (.yield p.b) #[] #[]
 | .iS,v=>v= .nilFunc
 | .j0,v=>v= .map none
 | .map id,v=>∃p,m id=some p/\v= .map (some p.b)
 | .jw ks vs,v=>∃b es clock,v= .map (some b)/\S b/\aG ks=true/\aG vs=true/\w.heap[b]? =some (.map es clock)/\
   az ks (es.toList.map (·.key))/\az vs (es.toList.map (·.val))
 | .it id,v=>∃p,m id=some p/\v= .pointer (some ⟨p.b,0,none⟩)
 | .agg cs,v=>∃xs:Array yg,v= .agg xs/\az cs xs.toList
 | .ae cs,v=>∃xs:Array yg,v= .tuple xs/\az cs xs.toList
 | .undef,_=>True
def az:List AV->List yg->Prop
 | [],us=>us=[]
 | c::cs,us=>∃u r,us=u::r/\ah c u/\az cs r
def bT:List AV->Nat->Nat->Prop
 | [],_,_=>True
 | c::cs,b,o=>(∃u,w.cell? ⟨b,o,none⟩=some u/\ah c u)/\bT cs b (o+1)
end
end
def fA (S:Nat->Prop) (w w':yi):Prop:=∀b,S b->w'.heap[b]? =w.heap[b]?
def Lo {w w':yi} {b o:Nat} (h:w'.heap[b]? =w.heap[b]?):w'.cell? ⟨b,o,none⟩=w.cell? ⟨b,o,none⟩:=by
 simp only [World.cell?,h]
section
variable {af:Nat->Nat} {m m':Mp} {S S':Nat->Prop} {w w':yi}
mutual
def lz (hm:∀id p,m id=some p->m' id=some p) (hS:∀b,S b->S' b) (hw:fA S w w'):
  ∀(v:AV) (u:yg),ah af m S w v u->ah af m' S' w' v u
 | .int _ _,_,h | .bool _,_,h | .bS _ _,_,h | .str _,_,h | .kN,_,h | .aa,_,h | .iS,_,h | .j0,_,h | .undef,_,h=>by
  simpa only [ah] using h
 | .ptr id o,u,h=>by
  simp only [ah] at h ⊢;obtain ⟨p,h1,h2⟩:=h;exact ⟨p,hm _ _ h1,h2⟩
 | .b5 cs,u,h=>by
  simp only [ah] at h ⊢;obtain ⟨b,o,h1,h2,h3,h4⟩:=h;refine ⟨b,o,h1,h2.imp id (hS b),h3,?_⟩;rcases h2 with rfl | h2
  ·simp only [bT]
  ·exact Qp hm hS hw cs b o h2 h4
 | .aA ex n cs,u,h=>by
  simp only [ah] at h ⊢;rcases h with ⟨b,o,c,h1,h2,h3,h4,h5,h6⟩ | h
  ·refine .inl ⟨b,o,c,h1,h2,h3,h4.imp id (hS b),h5,?_⟩;rcases h4 with rfl | h4
   ·simp only [bT]
   ·exact Qp hm hS hw cs b o h4 h6
  ·exact .inr h
 | .bD _ _ _ _,u,h=>by simp only [ah] at h
 | .aB id o n,u,h=>by
  simp only [ah] at h ⊢;obtain ⟨p,c,h1,h2⟩:=h;exact ⟨p,c,hm _ _ h1,h2⟩
 | .fn (.f g) first cap,u,h=>by
  simp only [ah] at h ⊢;obtain ⟨fi,ca,h1,h2,h3⟩:=h;exact ⟨fi,ca,h1,gB hm hS hw first _ h2,gB hm hS hw cap _ h3⟩
 | .fn (.y l) _ _,u,h=>by
  simp only [ah] at h ⊢;obtain ⟨p,h1,h2⟩:=h;exact ⟨p,hm _ _ h1,h2⟩
 | .map id,u,h=>by
  simp only [ah] at h ⊢;obtain ⟨p,h1,h2⟩:=h;exact ⟨p,hm _ _ h1,h2⟩
 | .jw ks vs,u,h=>by
  simp only [ah] at h ⊢;obtain ⟨b,es,clock,h1,h2,h3,h4,h5,h6,h7⟩:=h;exact ⟨b,es,clock,h1,hS b h2,h3,h4,(hw b h2).trans h5,gB hm hS hw ks _ h6,gB hm hS hw vs _ h7⟩
 | .it id,u,h=>by
  simp only [ah] at h ⊢;obtain ⟨p,h1,h2⟩:=h;exact ⟨p,hm _ _ h1,h2⟩
 | .agg cs,u,h=>by
  simp only [ah] at h ⊢;obtain ⟨xs,h1,h2⟩:=h;exact ⟨xs,h1,gB hm hS hw cs _ h2⟩
 | .ae cs,u,h=>by
  simp only [ah] at h ⊢;obtain ⟨xs,h1,h2⟩:=h;exact ⟨xs,h1,gB hm hS hw cs _ h2⟩
def gB (hm:∀id p,m id=some p->m' id=some p) (hS:∀b,S b->S' b) (hw:fA S w w'):
  ∀(vs:List AV) (us:List yg),az af m S w vs us->az af m' S' w' vs us
 | [],us,h=>by simpa only [az] using h
 | v::r,us,h=>by
  simp only [az] at h ⊢;obtain ⟨u,t,h1,h2,h3⟩:=h;exact ⟨u,t,h1,lz hm hS hw v u h2,gB hm hS hw r t h3⟩
def Qp (hm:∀id p,m id=some p->m' id=some p) (hS:∀b,S b->S' b) (hw:fA S w w'):
  ∀(cs:List AV) (b o:Nat),S b->bT af m S w cs b o->bT af m' S' w' cs b o
 | [],_,_,_,_=>by simp only [bT]
 | c::cs,b,o,hb,h=>by
  simp only [bT] at h ⊢;obtain ⟨⟨u,h1,h2⟩,h3⟩:=h;exact ⟨⟨u,(Lo (hw b hb)).trans h1,lz hm hS hw c u h2⟩,Qp hm hS hw cs b (o+1) hb h3⟩
end
end
end
section
open Go
structure Hint where
 n:Nat
 cd:FuncId->Option Nat
 live:Nat->List Nat
 out:Nat->Option (List Nat)
 mode:Nat->Md
 fz:Nat->List Nat
section
variable (P:y5) (H:Hint)
mutual
def eB:yg->AV
 | .int k n=> .int k n
 | .bool b=> .bool b
 | .float k b=> .bS k b
 | .string s=> .str (s.data.toList.map xb)
 | .pointer none=> .kN
 | .slice none 0 0=> .aa
 | .map none=> .j0
 | .nilFunc=> .iS
 | .agg ⟨cs⟩=> .agg (En cs)
 | .tuple ⟨cs⟩=> .ae (En cs)
 | _=> .undef
def En:List yg->List AV
 | []=>[]
 | v::r=>eB v::En r
end
def aK:xp->X
 | .tmp t=> .t t
 | .const v=> .c (eB v)
 | .global _=> .c .undef
 | .func f=>match H.cd f with | some g=> .c (.fn (.f g) [] []) | none=> .c .undef
def gL:List xp->List X
 | []=>[]
 | x::r=>aK H x::gL r
def cE (t:yC):Option Nat:=match P.info? t with | some i=>some i.size | none=>none
def se (t:yC):Option Nat:=match P.info? t with | some i=>some i.bytes | none=>none
def lH (t:yC):Option AV:=match P.info? t with | some i=>(match i.zero with | some v=>some (eB v) | none=>none) | none=>none
def dQ (t:yC):Option Bool:=match P.underlying t with | some (.struct _) | some (.array _ _)=>some true | some _=>some false | none=>none
def bad:Op:= .call .pure (.c .undef) []
def partsOf (place:Nat->Option (Nat×Nat)):List (Nat×xp)->Option (List (Nat×Nat×X))
 | []=>some []
 | (i,x)::r=>
  match place i,partsOf place r with
  | some (o,s),some l=>some ((o,s,aK H x)::l)
  | _,_=>none
def DZ (self:yC->Option (List Nat)):List uL->Nat->Option (List Nat)
 | [],_=>some []
 | f::r,o=>
  match self f.type,cE P f.type with
  | some ks,some s=>
   bif f.name != "_"&&yu f.offset o&&yu ks.length s&& !P.stoodInHeld f.type then
    (match DZ self r (o+s) with | some l=>some (ks++l) | none=>none)
   else none
  | _,_=>none
def kinds:Nat->yC->Option (List Nat)
 | 0,_=>none
 | n+1,t=>
  match P.underlying t with
  | some .bool=>some [0]
  | some (.int _)=>some [1]
  | some .string=>some [2]
  | some (.struct fs)=>DZ P (fun u=>kinds n u) fs.toList 0
  | some (.array k e)=>
   match kinds n e,cE P e with
   | some ks,some s=>bif yu ks.length s&& !P.stoodInHeld e then some (ym k ks).flatten else none
   | _,_=>none
  | _=>none
def keyOf (t:yC):Option Nat:=
 match P.underlying t with
 | some .bool=>some 0
 | some (.int _)=>some 1
 | some .string=>some 2
 | _=>none
def oU (ne:Bool) (t:yC) (a b:xp):Op:=
 match kinds P 20 t with
 | some ks=>bif P.stoodInHeld t||P.eqGuardType P.depth t then bad else .eq ne (.ag ks) (aK H a) (aK H b)
 | none=>bad
def nM (ne:Bool) (op:wY) (t:yC) (a b:xp):Op:=
 match P.underlying t with
 | some (.int _) | some .string | some (.float _)=> .bin op (aK H a) (aK H b)
 | some .bool=> .eq ne .b (aK H a) (aK H b)
 | some (.slice _)=> .eq ne .sl (aK H a) (aK H b)
 | some (.func _ _ _)=> .eq ne .fn (aK H a) (aK H b)
 | some (.struct _) | some (.array _ _)=>oU P H ne t a b
 | _=>bad
def aW (k:Nat) (o:yX):Op:=
 let x (y:xp):X:=aK H y
 match o.op with
 | .move a | .assign a=> .cu (x a)
 | .pick c a b=> .pick (x c) (x a) (x b)
 | .alloc t=>match cE P t,lH P t with | some s,some z=> .box s (.c z) | _,_=>bad
 | .box t v=>match cE P t with | some s=> .box s (x v) | none=>bad
 | .build t parts=>
  match P.underlying t,lH P t with
  | some (.struct fs),some (.agg z)=>
   match fs.toList.mapM (fun f=>(P.info? f.type).map fun i=>(f.offset,i.size)) with
   | some pl=>(match partsOf H (fun i=>pl[i]?) parts.toList with | some ps=> .fO z ps | none=>bad)
   | none=>bad
  | some (.array _ e),some (.agg z)=>
   match cE P e with
   | some s=>(match partsOf H (fun i=>some (i*s,s)) parts.toList with | some ps=> .fO z ps | none=>bad)
   | none=>bad
  | _,_=>bad
 | .buildSlice t n parts=>
  match P.underlying t with
  | some (.slice e)=>
   match cE P e,lH P e with
   | some s,some z=>
    bif yE (n*s) 16777216 then
     (match partsOf H (fun i=>some (i*s,s)) parts.toList with | some ps=> .cZ n s (ym n (cellsOf z)).flatten ps | none=>bad)
    else bad
   | _,_=>bad
  | _=>bad
 | .load t a=>match cE P t,dQ P t with | some s,some ag=> .ld s ag (x a) | _,_=>bad
 | .store t a v=>match cE P t with | some s=> .st s (x a) (x v) | none=>bad
 | .nilCheck a=> .Jg (x a)
 | .binOp op t a b _=>
  match op with
  | .eql=>nM P H false op t a b
  | .neq=>nM P H true op t a b
  | _=> .bin op (x a) (x b)
 | .unOp op _ a=> .un op (x a)
 | .convert s d a=>
  match P.underlying s,P.underlying d with
  | some (.int _),some (.int k) | some (.float _),some (.int k)=> .cv (.toInt k) (x a)
  | some (.int _),some (.float k) | some (.float _),some (.float k)=> .cv (.toFlt k) (x a)
  | some .string,some .string=> .cv .str (x a)
  | _,_=>bad
 | .makeFunc (.func f) first cap=>match H.cd f with | some g=> .Dl (.f g) (gL H first.toList) (gL H cap.toList) | none=>bad
 | .makeMap t none=>match P.underlying t with | some (.map ke _)=>(match keyOf P ke with | some _=> .zY | none=>bad) | _=>bad
 | .makeSlice t l c=>
  match P.underlying t with
  | some (.slice e)=>(match cE P e,se P e,lH P e with | some s,some b,some z=> .gj s b (cellsOf z) (x l) (x c) | _,_,_=>bad)
  | _=>bad
 | .slice t a lo hi none=>
  match P.underlying t with
  | some .string=> .dS .str (x a) (lo.map x) (hi.map x)
  | some (.slice e)=>(match cE P e with | some s=> .dS (.sl s) (x a) (lo.map x) (hi.map x) | none=>bad)
  | some (.array n e)=>(match cE P e with | some s=> .dS (.ar n s) (x a) (lo.map x) (hi.map x) | none=>bad)
  | _=>bad
 | .fieldAddr t a i=>
  match P.underlying t with
  | some (.struct fs)=>
   match fs[i]? with
   | some f=>(match cE P f.type with | some (_+1)=> .off f.offset (x a) | _=>bad)
   | none=>bad
  | _=>bad
 | .field t a i=>
  match P.underlying t with
  | some (.struct fs)=>
   match fs[i]? with
   | some f=>(match cE P f.type,dQ P f.type with | some s,some ag=> .Ko f.offset s ag (x a) | _,_=>bad)
   | none=>bad
  | _=>bad
 | .indexAddr t a i=>
  match P.underlying t with
  | some (.slice e)=>(match cE P e with | some s=> .aQ s (x a) (x i) | none=>bad)
  | some (.array n e)=>(match cE P e with | some s=> .FQ n s (x a) (x i) | none=>bad)
  | _=>bad
 | .index t a i=>
  match P.underlying t with
  | some .string=> .kT (x a) (x i)
  | some (.array n e)=>(match cE P e,dQ P e with | some s,some ag=> .FR n s ag (x a) (x i) | _,_=>bad)
  | _=>bad
 | .lookup t a i ok=>
  match P.underlying t with
  | some (.map ke e)=>(match keyOf P ke,lH P e with | some kk,some z=> .Pg kk z ok (x a) (x i) | _,_=>bad)
  | _=>bad
 | .mapUpdate t a i v | .insert t a i v=>
  match P.underlying t with
  | some (.map ke _)=>(match keyOf P ke with | some kk=> .pK kk (x a) (x i) (x v) | none=>bad)
  | _=>bad
 | .range t a=>match P.underlying t with | some .string=> .pL (x a) | _=>bad
 | .next it true=> .pM (x it)
 | .extract t i=> .ext i (x t)
 | .call c=>
  match c.callee with
  | .value f=>(match H.mode k with | .dyn=> .iM [] (x f) (gL H c.args.toList) | md=> .call md (x f) (gL H c.args.toList))
  | .builtin b=>
   match b,c.args.toList,c.argTypes.toList with
   | .append,[s,a],[t,u]=>
    match P.underlying t,P.underlying u with
    | some (.slice e),some (.slice _) | some (.slice e),some .string=>
     (match cE P e,se P e,lH P e with | some sz,some by',some z=>(bif yu (cellsOf z).length sz then .aO sz by' (x s) (x a) else bad) | _,_,_=>bad)
    | _,_=>bad
   | .len,[a],[t]=>
    match P.underlying t with
    | some (.array n _)=> .cu (.c (.int .i64 n))
    | some .string=> .len 0 (x a)
    | some (.slice _)=> .len 1 (x a)
    | some (.map _ _)=> .len 2 (x a)
    | _=>bad
   | .copy,[d,s],[t,_]=>
    match P.underlying t with
    | some (.slice e)=>(match cE P e with | some sz=> .mJ sz (x d) (x s) | none=>bad)
    | _=>bad
   | .min,l,_=> .mn (gL H l)
   | .max,l,_=> .mx (gL H l)
   | _,_,_=>bad
  | _=>bad
 | _=>bad
def Sc (o:yX):Bool:=match o.op with | .call {callee:= .value _,..}=>true | _=>false
def I0 (d:Option Nat):Bool:=match d with | some i=>yR i H.n | none=>true
def zp (n:Nat):List Nat->Bool
 | []=>true
 | i::r=>yR i n&&zp n r
def Co (ops:Array yX):List yX->Nat->List a8×Nat
 | [],k=>([],k)
 | o::r,k=>
  let g:=match o.guard with
   | none=>some none
   | some (j,b)=>match (ops[j]?).bind (·.dst) with | some t=>some (some (t,b)) | none=>none
  match Co ops r (k+(bif Sc o then 1 else 0)) with
  | (l,k')=>
   match g,I0 H o.dst with
   | some g,true=>(⟨o.dst,g,aW P H k o⟩::l,k')
   | _,_=>(⟨o.dst,none,bad⟩::l,k')
def AP (acc:List Nat):List Edge->Nat
 | []=>0
 | e::r=>bif Region.binds .any e then (2^e.on|||acc.getD e.on 0)|||AP acc r else AP acc r
def kH (acc:List Nat):List yX->List Nat
 | []=>acc
 | o::r=>kH (acc++[AP acc o.after.toList]) r
def Ay:List yX->Nat->Bool
 | [],_=>true
 | o::r,i=>o.after.toList.all (fun e=> !Region.binds .any e||yR e.on i)&&Ay r (i+1)
def Mq (ops:Array yX) (draw:Bool) (k:Nat):List a8×Nat:=
 match Co P H ops ops.toList k with
 | (l,k')=>
  bif draw then
   (let ms:=kH [] ops.toList
    let l':=mZ [] l ms
    bif Ay ops.toList 0&&za [] l' ms then (l',k') else bif Ay ops.toList 0&&za [] (ER [] l') ms then (ER [] l',k') else ([⟨none,none,bad⟩],k'))
  else (l,k')
def avd:wX->Bool
 | .loop _=>true
 | _=>false
def comp:wX->Nat->Nat->VC×Nat×Nat
 | .skip,l,k | .label _,l,k=>(.skip,l,k)
 | .region i ops d,l,k=>match Mq P H ops d k with | (r,k')=>((match H.fz i with | []=> .aM r | t::ts=> .seq (.fz (t::ts)) (.aM r)),l,k')
 | .seq a b,l,k=>match comp a l k with | (a',l1,k1)=>match comp b l1 k1 with | (b',l2,k2)=>(.seq a' b',l2,k2)
 | .cond c a b,l,k=>
  match comp a (l+1) k with
  | (a',l1,k1)=>
   match comp b l1 k1 with
   | (b',l2,k2)=>(match H.out l with | some o=> .seq (.cond (aK H c) a' b') (.kp o) | none=> .cond (aK H c) a' b',l2,k2)
 | .block id a,l,k=>
  match comp a l k with
  | (a',r)=>(match avd a,H.out l with | true,some o=> .seq (.aF id a') (.kp o) | _,_=> .aF id a',r)
 | .loop a,l,k=>match comp a (l+1) k with | (a',r)=>(.loop (H.live l) a',r)
 | .rangeFunc f ps cK body,l,k=>
  match comp cK l k with | (as',l1,k1)=>match comp body l1 k1 with | (b',l2,k2)=>(bif zp H.n ps.toList then .rf (aK H f) ps.toList as' b' else .aM [⟨none,none,bad⟩],l2,k2)
 | .exit id,l,k=>(.exit id,l,k)
 | .scope a,l,k=>comp a l k
 | .ret,l,k=>(.ret,l,k)
 | .goto _,l,k | .refuse _,l,k=>(.aM [⟨none,none,bad⟩],l,k)
def oW:List ResultVar->Option (List RV)
 | []=>some []
 | .tmp t::r=>match oW r with | some l=>some (.t t::l) | none=>none
 | .cell a t::r=>match cE P t,dQ P t,oW r with | some s,some ag,some l=>some (.cell a s ag::l) | _,_,_=>none
def Eo (fn:Func):Option aZ:=
 match fn.body,oW P fn.results.toList with
 | some c,some rs=>bif yE H.n fn.ntmps then some ⟨rs,(comp P H c 0 0).1⟩ else none
 | _,_=>none
end
end
section
open Go
structure bk where
 P:y5
 aE:Lib
 af:Nat->Nat
 prog:aI
 hint:Nat->Hint
 w0:yi
def BG (P:y5) (H:Hint) (v:VC) (c:wX):Prop:=∃l k,(comp P H c l k).1=v
def Bf:Nat->LoopState
 | 0=> .ready
 | 1=> .busy
 | 2=> .done
 | _=> .exhausted
def zi:zE->Option wX
 | .none=>none
 | .ret=>some .ret
 | .exit id=>some (.exit id)
section
variable (O:bk) (m:Mp) (S:Nat->Prop) (w:yi)
def b9 (tm:Env) (tmps:Array yg):Prop:=∀i,ah O.af m S w (ai tm i) (tmps.getD i undef)
def eW (id:Nat):Obj->Prop
 | .cells rw pu ex sz cs=>∃p arr t,m id=some p/\w.heap[p.b]? =some (.cells arr t (0,0))/\p.z=sz/\cs.length<=p.e/\p.o+p.e<=arr.size/\
   (ex=true->cs.length=p.e)/\bT O.af m S w cs p.b p.o/\(pu=true->aG cs=true)/\(rw=true->¬S p.b)/\(rw=false->S p.b)
 | .mp rw ks vs=>∃p es clock,m id=some p/\w.heap[p.b]? =some (.map es clock)/\az O.af m S w ks (es.toList.map (·.key))/\az O.af m S w vs (es.toList.map (·.val))/\
   (rw=true->¬S p.b)/\(rw=false->S p.b)
 | .si s pos=>∃p t,m id=some p/\w.heap[p.b]? =some (.stringIter t pos)/\t.data.toList.map xb=s/\¬S p.b
 | .lp tm ps cK body st pe=>∃p l h,m id=some p/\w.heap[p.b]? =some (.loop l)/\¬S p.b/\l.state=Bf st/\st<=2/\l.pending=zi pe/\b9 O m S w tm l.tmps/\
   l.params.toList=ps/\BG O.P (O.hint h) cK l.assign/\BG O.P (O.hint h) body l.body/\(O.hint h).n<=l.tmps.size/\zp (O.hint h).n ps=true
structure aU (hp:Hp) (ct:Nat):Prop where
 obj:∀id o p,aq hp id=some o->m id=some p->eW O m S w id o
 lt:∀id p,m id=some p->id<ct
 inj:∀i j oi oj pi pj,aq hp i=some oi->aq hp j=some oj->m i=some pi->m j=some pj->pi.b=pj.b->i=j
 slt:∀b,S b->b<w.heap.size
 blt:∀id p,m id=some p->p.b<w.heap.size
 low:∀id p,m id=some p->O.w0.heap.size<=p.b
 lJ:∀b,b<O.w0.heap.size->w.heap[b]? =O.w0.heap[b]?
 fF:O.w0.heap.size<=w.heap.size
 aX:∀id o,aq hp id=some o->id<ct
end
def eb (m:Mp) (hp:Hp) (b:Nat):Prop:=∃id o p,aq hp id=some o/\m id=some p/\p.b=b
structure ck (m:Mp) (S:Nat->Prop) (w:yi) (hp:Hp) (m':Mp) (S':Nat->Prop) (w':yi) (ap:Hp) (base:Nat):Prop where
 os:w'.os=w.os
 tape:w'.tape=w.tape
 output:w'.output=w.output
 size:w.heap.size<=w'.heap.size
 same:∀b,b<w.heap.size->¬eb m hp b->w'.heap[b]? =w.heap[b]?
 sub:∀b,S b->S' b
 still:∀b,S b->w'.heap[b]? =w.heap[b]?
 new:∀b,S' b->S b\/eb m hp b\/w.heap.size<=b
 own:∀b,eb m' ap b->eb m hp b\/w.heap.size<=b
 old:∀id p,id<base->m id=some p->m' id=some p
 loops:∀(b:Nat) (r:Loop),w.heap[b]? =some (.loop r)->∃r':Loop,w'.heap[b]? =some (.loop r')
def ck.refl {m:Mp} {S:Nat->Prop} {w:yi} {hp:Hp} {base:Nat}:ck m S w hp m S w hp base:=
 ⟨rfl,rfl,rfl,yr _,fun _ _ _=>rfl,fun _ h=>h,fun _ _=>rfl,fun _ h=> .inl h,fun _ h=> .inl h,fun _ _ _ h=>h,fun _ r h=>⟨r,h⟩⟩
def ck.trans {m m' Kr:Mp} {S S' BH:Nat->Prop} {w w' Ph:yi} {hp ap Jh:Hp} {base:Nat}
  (h:ck m S w hp m' S' w' ap base) (k:ck m' S' w' ap Kr BH Ph Jh base):ck m S w hp Kr BH Ph Jh base where
 os:=k.os.trans h.os
 tape:=k.tape.trans h.tape
 output:=k.output.trans h.output
 size:=xi h.size k.size
 same b hb ho:=(k.same b (Nat.lt_of_lt_of_le hb h.size) (fun jL=>(h.own b jL).elim ho (fun h1=>by omega))).trans (h.same b hb ho)
 sub b hb:=k.sub b (h.sub b hb)
 still b hb:=(k.still b (h.sub b hb)).trans (h.still b hb)
 new b hb:=by
  rcases k.new b hb with h1 | h1 | h1
  ·exact h.new b h1
  ·rcases h.own b h1 with h2 | h2
   ·exact .inr (.inl h2)
   ·exact .inr (.inr h2)
  ·exact .inr (.inr (xi h.size h1))
 own b hb:=by
  rcases k.own b hb with h1 | h1
  ·exact h.own b h1
  ·exact .inr (xi h.size h1)
 old id p hid hp:=k.old id p hid (h.old id p hid hp)
 loops b r hb:=let ⟨r',h1⟩:=h.loops b r hb;k.loops b r' h1
end
section
open Go
section
variable {af:Nat->Nat} {m:Mp} {S:Nat->Prop} {w:yi}
mutual
def Mr:∀v:yg,ah af m S w (eB v) v
 | .int _ _ | .bool _ | .float _ _=>by simp only [eB,ah]
 | .string s=>by simp only [eB,ah];exact ⟨s,rfl,rfl⟩
 | .pointer none=>by simp only [eB,ah]
 | .pointer (some _)=>by simp only [eB,ah]
 | .slice none 0 0=>by simp only [eB,ah]
 | .slice none 0 (_+1)=>by simp only [eB,ah]
 | .slice none (_+1) _=>by simp only [eB,ah]
 | .slice (some _) _ _=>by simp only [eB,ah]
 | .map none=>by simp only [eB,ah]
 | .map (some _)=>by simp only [eB,ah]
 | .nilFunc=>by simp only [eB,ah]
 | .agg ⟨cs⟩=>by simp only [eB,ah];exact ⟨⟨cs⟩,rfl,Q1 cs⟩
 | .tuple ⟨cs⟩=>by simp only [eB,ah];exact ⟨⟨cs⟩,rfl,Q1 cs⟩
 | .complex _ _ _ | .chan _ | .func _ _ _ | .iface _ _ | .nilIface=>by simp only [eB,ah]
def Q1:∀l:List yg,az af m S w (En l) l
 | []=>by simp only [En,az]
 | v::r=>by simp only [En,az];exact ⟨v,r,rfl,Mr v,Q1 r⟩
end
end
def fc (O:bk) (H:Hint):Prop:=∀f g,H.cd f=some g->O.af g=f
section
variable {O:bk} {H:Hint} {m:Mp} {S:Nat->Prop} {w:yi} {tm:Env} {a:Act}
def cz (hH:fc O H) (ht:b9 O m S w tm a.tmps) (x:xp):ah O.af m S w (aD tm (aK H x)) (a.eval x):=by
 cases x with
 | tmp t=>exact ht t
 | const v=>simp only [aK,aD,Act.eval];exact Mr v
 | global g=>simp only [aK,aD,ah]
 | func f=>
  simp only [aK,Act.eval]
  cases hr:H.cd f with
  | none=>simp only [aD,ah]
  | some g=>simp only [aD,ah,hH f g hr,az];exact ⟨#[],#[],rfl,rfl,rfl⟩
def Cv (hH:fc O H) (ht:b9 O m S w tm a.tmps):∀l:List xp,az O.af m S w (dw tm (gL H l)) (l.map a.eval)
 | []=>by simp only [gL,dw,List.map_nil,az]
 | x::r=>by simp only [gL,dw,xc,az];exact ⟨_,_,rfl,cz hH ht x,Cv hH ht r⟩
end
section
variable {O:bk} {m:Mp} {S:Nat->Prop} {w:yi}
def p8 {af:Nat->Nat}:∀(k:Nat) (cs:List AV) (b o:Nat),bT af m S w cs b o->bT af m S w (cs.drop k) b (o+k)
 | 0,cs,b,o,h=>by simpa using h
 | k+1,[],b,o,_=>by simp only [List.drop_nil,bT]
 | k+1,c::cs,b,o,h=>by
  simp only [bT] at h
  have:=p8 k cs b (o+1) h.2
  rw [List.drop_succ_cons,show o+(k+1)=o+1+k by omega];exact this
def Av {af:Nat->Nat}:∀(k:Nat) (cs:List AV) (b o:Nat),bT af m S w cs b o->bT af m S w (cs.take k) b o
 | 0,cs,b,o,_=>by simp only [tZ,bT]
 | k+1,[],b,o,_=>by simp only [List.take_nil,bT]
 | k+1,c::cs,b,o,h=>by
  simp only [bT,wz] at h ⊢;exact ⟨h.1,Av k cs b (o+1) h.2⟩
def rh {af:Nat->Nat}:∀(cs:List AV) (b o:Nat),bT af m S w cs b o->
  ∃us:List yg,az af m S w cs us/\us.length=cs.length/\∀j u,us[j]? =some u->w.cell? ⟨b,o+j,none⟩=some u
 | [],b,o,_=>⟨[],by simp only [az],rfl,fun j u h=>by simp at h⟩
 | c::cs,b,o,h=>by
  simp only [bT] at h;obtain ⟨⟨u,h1,h2⟩,h3⟩:=h;obtain ⟨us,h4,h5,h6⟩:=rh cs b (o+1) h3;refine ⟨u::us,by simp only [az];exact ⟨u,us,rfl,h2,h4⟩,by simp [h5],fun j v hv=>?_⟩
  cases j with
  | zero=>simp at hv;subst hv;simpa using h1
  | succ j=>simp at hv;have:=h6 j v hv;rw [show o+(j+1)=o+1+j by omega];exact this
def gC {af:Nat->Nat}:∀(cs:List AV) (us:List yg),az af m S w cs us->us.length=cs.length
 | [],us,h=>by simp only [az] at h;subst h;rfl
 | c::cs,us,h=>by
  simp only [az] at h;obtain ⟨u,r,rfl,_,h3⟩:=h;simp [gC cs r h3]
end
end
section
open Go
def nN (b o j:Nat):(⟨b,o,none⟩:uz).add j=⟨b,o+j,none⟩:=by
 unfold Addr.add;split<;>simp_all
section
variable {P:y5} {w:yi}
def anK (t:yC) (b o:Nat) (us:List yg) (ha:dQ P t=some true) (hz:cE P t=some us.length)
  (h:∀j u,us[j]? =some u->w.cell? ⟨b,o+j,none⟩=some u):(loadVar t ⟨b,o,none⟩).run P w= .ok (.agg us.toArray) w:=by
 have hl:=run_loadCells_list (P:=P) w ⟨b,o,none⟩ us (fun j u hu=>by rw [nN];exact h j u hu)
 unfold cE at hz
 cases hi:P.info? t with
 | none=>simp [hi] at hz
 | some i=>
  simp only [hi,yd] at hz;unfold dQ at ha
  cases hu:P.underlying t with
  | none=>simp [hu] at ha
  | some d=>cases d<;>simp_all [loadVar,isAgg,vL,typeInfo,underlying]
def anL (t:yC) (b o:Nat) (u:yg) (ha:dQ P t=some false)
  (h:w.cell? ⟨b,o,none⟩=some u):(loadVar t ⟨b,o,none⟩).run P w= .ok u w:=by
 unfold dQ at ha
 cases hu:P.underlying t with
 | none=>simp [hu] at ha
 | some d=>cases d<;>simp_all [loadVar,isAgg,underlying]
end
section
variable {O:bk} {m:Mp} {S:Nat->Prop} {w:yi}
def Ms {t:yC} {sz:Nat} {ag:Bool} {cs:List AV} {b o:Nat} {v:AV} (hz:cE O.P t=some sz) (ha:dQ O.P t=some ag)
  (hr:bT O.af m S w cs b o) (hv:ib sz ag cs=some v):∃u,(loadVar t ⟨b,o,none⟩).run O.P w= .ok u w/\ah O.af m S w v u:=by
 cases ag with
 | true=>
  simp only [ib,yA] at hv
  cases hle:yE sz cs.length with
  | false=>simp only [hle,yS] at hv;cases hv
  | true=>
   simp only [hle,yA,yd] at hv;subst hv;obtain ⟨us,h1,h2,h3⟩:=rh _ _ _ (Av sz cs b o hr);have hlen:us.length=sz:=by
    rw [h2,yI];have:=yv hle;omega
   refine ⟨.agg us.toArray,anK t b o us ha (by rw [hlen];exact hz) h3,?_⟩
   simp only [ah];exact ⟨us.toArray,rfl,by simpa using h1⟩
 | false=>
  simp only [ib,yS] at hv
  cases cs with
  | nil=>simp at hv
  | cons c cs=>
   simp only [yd] at hv;subst hv;simp only [bT] at hr;obtain ⟨⟨u,h1,h2⟩,_⟩:=hr;exact ⟨u,anL t b o u ha h1,h2⟩
def adD {t:yC} {sz o:Nat} {ag:Bool} {cs:List AV} {xs:Array yg} {v:AV} (hz:cE O.P t=some sz) (ha:dQ O.P t=some ag)
  (hr:az O.af m S w cs xs.toList) (hv:ib sz ag (cs.drop o)=some v):∃u,(part t xs o).run O.P w= .ok u w/\ah O.af m S w v u:=by
 have hd:∀(k:Nat) (cs:List AV) (us:List yg),az O.af m S w cs us->az O.af m S w (cs.drop k) (us.drop k):=by
  intro k
  induction k with
  | zero=>intro cs us h;simpa using h
  | succ k ih=>
   intro cs us h
   cases cs with
   | nil=>simp only [az] at h;subst h;simp [az]
   | cons c cs=>simp only [az] at h;obtain ⟨u,r,rfl,_,h3⟩:=h;simpa using ih cs r h3
 have eF:∀(k:Nat) (cs:List AV) (us:List yg),az O.af m S w cs us->az O.af m S w (cs.take k) (us.take k):=by
  intro k
  induction k with
  | zero=>intro cs us h;simp [az]
  | succ k ih=>
   intro cs us h
   cases cs with
   | nil=>simp only [az] at h;subst h;simp [az]
   | cons c cs=>simp only [az] at h;obtain ⟨u,r,rfl,h2,h3⟩:=h;simp only [wz,az];exact ⟨u,_,rfl,h2,ih cs r h3⟩
 have ajg:(isAgg t).run O.P w= .ok ag w:=by
  unfold dQ at ha
  cases hu:O.P.underlying t with
  | none=>simp [hu] at ha
  | some d=>cases d<;>simp_all [isAgg,underlying]
 have eG:(vL t).run O.P w= .ok sz w:=by
  unfold cE at hz
  cases hi:O.P.info? t with
  | none=>simp [hi] at hz
  | some i=>simp_all [vL,typeInfo]
 have bn:=hd o cs xs.toList hr
 cases ag with
 | true=>
  simp only [ib,yA] at hv
  cases hle:yE sz (cs.drop o).length with
  | false=>simp only [hle,yS] at hv;cases hv
  | true=>
   simp only [hle,yA,yd] at hv;subst hv;refine ⟨.agg (xs.extract o (o+sz)),by simp [part,Sem.run_bind,ajg,eG],?_⟩;simp only [ah];refine ⟨_,rfl,?_⟩
   have:=eF sz _ _ bn
   rw [show (xs.extract o (o+sz)).toList=(xs.toList.drop o).take sz by simp [Array.toList_extract,tD]];exact this
 | false=>
  simp only [ib,yS] at hv
  cases hc:cs.drop o with
  | nil=>simp [hc] at hv
  | cons c r=>
   simp only [hc,yd] at hv;subst hv;rw [hc] at bn;simp only [az] at bn;obtain ⟨u,us,h1,h2,_⟩:=bn;have hx:xs[o]? =some u:=by
    have:xs.toList[o]? =some u:=by
     have:=congrArg (fun l=>l[0]?) h1
     simpa using this
    simpa using this
   exact ⟨u,by simp [part,Sem.run_bind,ajg,hx],h2⟩
end
end
section
open Go
def mj (t:ByteArray):List Nat:=t.data.toList.map xb
def adE:∀a b:List UInt8,cV (a.map xb) (b.map xb)=(a==b)
 | [],[]=>rfl
 | [],_::_=>rfl
 | _::_,[]=>rfl
 | a::x,b::y=>by
  have h:yu a.toNat b.toNat=(a==b):=by
   rw [uA,ybN,yam];exact yaC
  simp only [xc,cV,adE x y,h,List.cons_beq_cons]
def adF:∀a b:List UInt8,BE (a.map xb) (b.map xb)=Op.bytesLess a b
 | [],[]=>rfl
 | [],_::_=>rfl
 | _::_,[]=>rfl
 | a::x,b::y=>by
  have h:yu a.toNat b.toNat=(a==b):=by
   rw [uA,ybN,yam];exact yaC
  have h2:yR a.toNat b.toNat=decide (a<b):=by
   rw [uA];simp only [yR,ybO,xI,UInt8.lt_iff_toNat_lt];omega
  simp only [xc,BE,Op.bytesLess,adF x y,h,h2]
def abt (s t:ByteArray):cV (mj s) (mj t)=(s.toList==t.toList):=by
 rw [mj,mj,adE,ByteArray.toList_eq,ByteArray.toList_eq]
def ao2 (s t:ByteArray):BE (mj s) (mj t)=Op.bytesLess s.toList t.toList:=by
 rw [mj,mj,adF,ByteArray.toList_eq,ByteArray.toList_eq]
def abu (s:ByteArray):(mj s).length=s.size:=by
 rw [mj,List.length_map,Lib.size_eq]
section
variable {af:Nat->Nat} {P:y5} {m:Mp} {S:Nat->Prop} {w:yi} {t:yC}
def aqJ {op:wY} {k:y9} {x y:Int} {v:AV} (h:lG op k x y=some v):
  ∃u,(xJ op t (.int k x) (.int k y)).run P w= .ok u w/\ah af m S w v u:=by
 cases op<;>simp only [lG,intCmp,yd] at h
 case add=>subst h;exact ⟨_,by simp [xJ,Op.intArith];rfl,by simp [ah]⟩
 case sub=>subst h;exact ⟨_,by simp [xJ,Op.intArith];rfl,by simp [ah]⟩
 case mul=>subst h;exact ⟨_,by simp [xJ,Op.intArith];rfl,by simp [ah]⟩
 case quo=>
  by_cases hy:y=0
  ·simp [hy] at h
  ·simp only [hy,xf,yd] at h;subst h;exact ⟨_,by simp [xJ,Op.intDiv,hy];rfl,by simp [ah]⟩
 case rem=>
  by_cases hy:y=0
  ·simp [hy] at h
  ·simp only [hy,xf,yd] at h;subst h;exact ⟨_,by simp [xJ,Op.intDiv,hy];rfl,by simp [ah]⟩
 case and=>subst h;exact ⟨_,by simp [xJ,Op.intBits];rfl,by simp [ah]⟩
 case or=>subst h;exact ⟨_,by simp [xJ,Op.intBits];rfl,by simp [ah]⟩
 case xor=>subst h;exact ⟨_,by simp [xJ,Op.intBits];rfl,by simp [ah]⟩
 case andNot=>subst h;exact ⟨_,by simp [xJ,Op.intBits];rfl,by simp [ah]⟩
 case shl=>cases h
 case shr=>cases h
 all_goals
  subst h;exact ⟨_,by simp [xJ,Op.intCmp];rfl,by simp [ah]⟩
def aaM {op:wY} {k k':y9} {x y:Int} {v:AV} (h:Cn op k x y=some v):
  ∃u,(xJ op t (.int k x) (.int k' y)).run P w= .ok u w/\ah af m S w v u:=by
 unfold Cn at h;by_cases hy:y<0
 ·simp [hy] at h
 ·simp only [hy,xf] at h;cases op<;>simp only [yd] at h
  case shl=>subst h;exact ⟨_,by simp [xJ,Op.shift,hy];rfl,by simp [ah]⟩
  case shr=>subst h;exact ⟨_,by simp [xJ,Op.shift,hy];rfl,by simp [ah]⟩
  all_goals cases h
def aqK {op:wY} {x y:ByteArray} {v:AV} (h:IV op (mj x) (mj y)=some v):
  ∃u,(xJ op t (.string x) (.string y)).run P w= .ok u w/\ah af m S w v u:=by
 cases op<;>simp only [IV,abt,ao2,abu,yd] at h
 case add=>
  cases hle:yE (x.size+y.size) 9223372036854775807 with
  | false=>rw [hle] at h;cases h
  | true=>
   rw [hle] at h;simp only [yA,yd] at h;subst h;have aHO:=yv hle;have aAD:¬(((x.size+y.size:Nat):Int)>IntKind.i64.max):=by
    have:IntKind.i64.max=9223372036854775807:=by decide
    rw [this];omega
   refine ⟨.string (x++y),?_,?_⟩
   ·simp only [xJ,Op.stringOp,yB aAD,Sem.run_pure]
   ·simp only [ah];exact ⟨x++y,rfl,by simp [mj]⟩
 all_goals first
  | (cases h;done)
  | (subst h;exact ⟨_,by simp [xJ,Op.stringOp];rfl,by simp [ah]⟩)
def aqL {op:wY} {k:vW} {x y:Nat} {v:AV} (h:SE op k x y=some v):
  ∃u,(xJ op t (.float k x) (.float k y)).run P w= .ok u w/\ah af m S w v u:=by
 cases op<;>simp only [SE,yd] at h
 case add=>
  cases hr:k.format.add x y with
  | none=>simp [hr] at h
  | some r=>simp only [hr,yd] at h;subst h;exact ⟨.float k r,by simp [xJ,Op.floatArith,hr],by simp [ah]⟩
 case sub=>
  cases hr:k.format.sub x y with
  | none=>simp [hr] at h
  | some r=>simp only [hr,yd] at h;subst h;exact ⟨.float k r,by simp [xJ,Op.floatArith,hr],by simp [ah]⟩
 case mul=>
  cases hr:k.format.mul x y with
  | none=>simp [hr] at h
  | some r=>simp only [hr,yd] at h;subst h;exact ⟨.float k r,by simp [xJ,Op.floatArith,hr],by simp [ah]⟩
 case quo=>
  cases hr:k.format.div x y with
  | none=>simp [hr] at h
  | some r=>simp only [hr,yd] at h;subst h;exact ⟨.float k r,by simp [xJ,Op.floatArith,hr],by simp [ah]⟩
 all_goals first
  | (cases h;done)
  | (subst h;exact ⟨_,by simp [xJ,Op.floatCmp];rfl,by simp [ah]⟩)
def aqM {op:wY} {vx vy v:AV} {x y:yg} (hx:ah af m S w vx x) (hy:ah af m S w vy y) (h:VE.binOp op vx vy=some v):
  ∃u,(xJ op t x y).run P w= .ok u w/\ah af m S w v u:=by
 unfold VE.binOp at h
 split at h
 ·rename_i k a k' b;simp only [ah] at hx hy;subst hx;subst hy
  split at h
  ·exact aaM h
  ·exact aaM h
  ·by_cases hk:k=k'
   ·subst hk;simp only [xC] at h;exact aqJ h
   ·simp [hk] at h
 ·rename_i k a k' b;simp only [ah] at hx hy;subst hx;subst hy;by_cases hk:k=k'
  ·subst hk;simp only [xC] at h;exact aqL h
  ·simp [hk] at h
 ·rename_i a b;simp only [ah] at hx hy;obtain ⟨s,rfl,rfl⟩:=hx;obtain ⟨s',rfl,rfl⟩:=hy;exact aqK h
 ·cases h
end
end
section
open Go
section
variable {af:Nat->Nat} {P:y5} {m:Mp} {S:Nat->Prop} {w:yi} {t:yC}
def aog {op:wY} {x y:xp} {a b:yg} (h:P.eqGuardType P.depth t=false\/∀xs ys,¬(a= .agg xs/\b= .agg ys)) (hn:a≠.nilIface):
  (eqGuard op t x y a b).run P w= .ok () w:=by
 unfold eqGuard;cases op
 all_goals first
  | rfl
  | (
    cases a
    all_goals first
     | rfl
     | exact absurd rfl hn
     | (
      cases b
      all_goals first
       | rfl
       | (
         rcases h with h | h
         ·simp [h]
         ·exact absurd ⟨rfl,rfl⟩ (h _ _))))
def ave {d:Nat} {p q:Bool} (ht:P.underlying t=some .bool):(Op.equalIn (d+1) t (.bool p) (.bool q)).run P w= .ok (p==q) w:=by
 simp [Op.equalIn,underlying,ht]
def SG {d:Nat} {e:yC} (ht:P.underlying t=some (.slice e)) (y:Option uz) (n c n' c':Nat):
  (Op.equalIn (d+1) t (.slice none n c) (.slice y n' c')).run P w= .ok y.isNone w:=by simp [Op.equalIn,underlying,ht]
def ait {d:Nat} {e:yC} (ht:P.underlying t=some (.slice e)) (x:uz) (n c n' c':Nat):
  (Op.equalIn (d+1) t (.slice (some x) n c) (.slice none n' c')).run P w= .ok false w:=by simp [Op.equalIn,underlying,ht]
def ay7 {d:Nat} {ps rs:Array yC} {vr:Bool} (ht:P.underlying t=some (.func ps rs vr)):
  (Op.equalIn (d+1) t .nilFunc .nilFunc).run P w= .ok true w:=by simp [Op.equalIn,underlying,ht]
def aiu {d:Nat} {ps rs:Array yC} {vr:Bool} (ht:P.underlying t=some (.func ps rs vr)) (f:Go.Fn) (a b:Array yg):
  (Op.equalIn (d+1) t .nilFunc (.func f a b)).run P w= .ok false w:=by simp [Op.equalIn,underlying,ht]
def aiv {d:Nat} {ps rs:Array yC} {vr:Bool} (ht:P.underlying t=some (.func ps rs vr)) (f:Go.Fn) (a b:Array yg):
  (Op.equalIn (d+1) t (.func f a b) .nilFunc).run P w= .ok false w:=by simp [Op.equalIn,underlying,ht]
def L5 (x y:yg):Op.equal t x y=Op.equalIn (9999+1) t x y:=rfl
def asS {vx vy:AV} {x y:yg} {r:Bool} {e:yC} (ht:P.underlying t=some (.slice e)) (hx:ah af m S w vx x) (hy:ah af m S w vy y)
  (h:jI .sl vx vy=some r):(Op.equal t x y).run P w= .ok r w:=by
 rw [L5];unfold jI at h
 split at h<;>simp_all only [yd,reduceCtorEq]
 all_goals subst h
 all_goals simp only [ah] at hx hy
 ·subst hx;subst hy;exact SG ht _ _ _ _ _
 ·rcases hy with ⟨b,o,c,rfl,_⟩ | ⟨_,rfl,_⟩<;>(subst hx;exact SG ht _ _ _ _ _)
 ·obtain ⟨p,c,_,rfl,_⟩:=hy;subst hx;exact SG ht _ _ _ _ _
 ·rcases hx with ⟨b,o,c,rfl,_⟩ | ⟨_,rfl,_⟩<;>(subst hy;exact ait ht _ _ _ _ _)
 ·obtain ⟨p,c,_,rfl,_⟩:=hx;subst hy;exact ait ht _ _ _ _ _
def asT {vx vy:AV} {x y:yg} {r:Bool} {ps rs:Array yC} {vr:Bool} (ht:P.underlying t=some (.func ps rs vr)) (hx:ah af m S w vx x) (hy:ah af m S w vy y)
  (h:jI .fn vx vy=some r):(Op.equal t x y).run P w= .ok r w:=by
 rw [L5];unfold jI at h
 split at h<;>simp_all only [yd,reduceCtorEq]
 all_goals subst h
 ·simp only [ah] at hx hy;subst hx;subst hy;exact ay7 ht
 ·rename_i f _ _
  cases f with
  | f g=>simp only [ah] at hx hy;obtain ⟨fi,ca,rfl,_⟩:=hy;subst hx;exact aiu ht _ _ _
  | y l=>simp only [ah] at hx hy;obtain ⟨p,_,rfl⟩:=hy;subst hx;exact aiu ht _ _ _
 ·rename_i f _ _
  cases f with
  | f g=>simp only [ah] at hx hy;obtain ⟨fi,ca,rfl,_⟩:=hx;subst hy;exact aiv ht _ _ _
  | y l=>simp only [ah] at hx hy;obtain ⟨p,_,rfl⟩:=hx;subst hy;exact aiv ht _ _ _
def asU {op:ybB} {vx v:AV} {x:yg} (hx:ah af m S w vx x) (h:VE.unOp op vx=some v):∃u,(Op.unary op x).run P w= .ok u w/\ah af m S w v u:=by
 unfold VE.unOp at h
 split at h
 ·rename_i k n;simp only [ah] at hx;subst hx;simp only [yd] at h;subst h;exact ⟨_,by simp [Op.unary,Op.intArith];rfl,by simp [ah]⟩
 ·rename_i k n;simp only [ah] at hx;subst hx;simp only [lG,yd] at h;subst h;exact ⟨_,by simp [Op.unary,Op.intBits];rfl,by simp [ah]⟩
 ·rename_i b;simp only [ah] at hx;subst hx;simp only [yd] at h;subst h;exact ⟨_,by simp [Op.unary];rfl,by simp [ah]⟩
 ·rename_i k b;simp only [ah] at hx;subst hx;simp only [yd] at h;subst h;exact ⟨_,by simp [Op.unary,Op.negFloat];rfl,by simp [ah]⟩
 ·cases h
def acr {s d:yC} {k:y9} {vx v:AV} {x:yg} (hd:P.underlying d=some (.int k)) (hs:(∃k',P.underlying s=some (.int k'))\/∃k',P.underlying s=some (.float k'))
  (hx:ah af m S w vx x) (h:pw (.toInt k) vx=some v):∃u,(convert s d x).run P w= .ok u w/\ah af m S w v u:=by
 cases vx<;>simp only [pw,reduceCtorEq] at h
 case int k0 n=>
  simp only [ah] at hx;subst hx;simp only [yd] at h;subst h;refine ⟨.int k (k.wrap n),?_,by simp [ah]⟩;rcases hs with ⟨k',h'⟩ | ⟨k',h'⟩<;>simp [convert,underlying,Conv.intToInt,hd,h']
 case bS sk b=>
  simp only [ah] at hx;subst hx
  cases hi:(sk.decode b).toInt .zero with
  | none=>simp [hi] at h
  | some n=>
   simp only [hi] at h;by_cases hr:k.min<=n/\n<=k.max
   ·simp only [hr,and_self,xC,yd] at h;subst h;refine ⟨.int k n,?_,by simp [ah]⟩;rcases hs with ⟨k',h'⟩ | ⟨k',h'⟩<;>simp [convert,underlying,Conv.floatToInt,hd,h',hi,hr]
   ·simp [hr] at h
def acs {s d:yC} {k:vW} {vx v:AV} {x:yg} (hd:P.underlying d=some (.float k)) (hs:(∃k',P.underlying s=some (.int k'))\/∃k',P.underlying s=some (.float k'))
  (hx:ah af m S w vx x) (h:pw (.toFlt k) vx=some v):∃u,(convert s d x).run P w= .ok u w/\ah af m S w v u:=by
 cases vx<;>simp only [pw,reduceCtorEq] at h
 case int k0 n=>
  simp only [ah] at hx;subst hx;simp only [yd] at h;subst h;refine ⟨.float k (k.nearest n),?_,by simp [ah]⟩;rcases hs with ⟨k',h'⟩ | ⟨k',h'⟩<;>simp [convert,underlying,Conv.intToFloat,hd,h']
 case bS sk b=>
  simp only [ah] at hx;subst hx;by_cases he:sk=k
  ·subst he;simp only [xC,yd] at h;subst h;refine ⟨.float sk b,?_,by simp [ah]⟩;rcases hs with ⟨k',h'⟩ | ⟨k',h'⟩<;>simp [convert,underlying,Conv.floatToFloat,hd,h']
  ·simp only [he,xf] at h
   cases Nv:sk.decode b with
   | nan _ _=>simp [Nv] at h
   | infinity _=>simp [Nv] at h
   | number sg mm ee=>
    simp only [Nv] at h
    cases S5:(k.decode (k.encode (.number sg mm ee))).isInfinity with
    | true=>simp [S5] at h
    | false=>
     simp only [S5,yN,xf,yd] at h;subst h;refine ⟨.float k (k.encode (.number sg mm ee)),?_,by simp [ah]⟩;rcases hs with ⟨k',h'⟩ | ⟨k',h'⟩<;>simp [convert,underlying,Conv.floatToFloat,hd,h',he,Nv,S5]
def aqN {s d:yC} {vx v:AV} {x:yg} (hd:P.underlying d=some .string) (hs:P.underlying s=some .string)
  (hx:ah af m S w vx x) (h:pw .str vx=some v):∃u,(convert s d x).run P w= .ok u w/\ah af m S w v u:=by
 cases vx<;>simp only [pw,reduceCtorEq] at h
 simp only [yd] at h;subst h;simp only [ah] at hx;obtain ⟨b,rfl,hb⟩:=hx;exact ⟨.string b,by simp [convert,underlying,hs,hd],by simp only [ah];exact ⟨b,rfl,hb⟩⟩
end
end
section
open Go
def ao3 {v:AV} {k:Nat} (h:dz v=some k):∃kd,v= .int kd (k:Int):=by
 cases v<;>simp only [dz,reduceCtorEq] at h
 rename_i kd n
 cases n with
 | ofNat j=>simp only [yd] at h;subst h;exact ⟨kd,rfl⟩
 | negSucc j=>cases h
section
variable {O:bk} {H:Hint} {m:Mp} {S:Nat->Prop} {w:yi} {tm:Env} {a:Act}
def zb {af:Nat->Nat} {v:AV} {x:yg} {k:Nat} (hx:ah af m S w v x) (h:dz v=some k):∃kd,x= .int kd (k:Int):=by
 obtain ⟨kd,rfl⟩:=ao3 h;simp only [ah] at hx
 grind
def run_sliceBound {P:y5} {kd:y9} {k y:Nat} {code:BoundsCode} (h:k<=y):(Instr.sliceBound (.int kd (k:Int)) y code).run P w= .ok k w:=by
 have:(0:Int)<=(k:Int)/\(k:Int)<=(y:Int):=by omega
 simp [Instr.sliceBound,asIntOf,this]
def abv {P:y5} {isSlice:Bool} {len cap l h:Nat} {lo hi:Option xp} (hH:fc O H) (ht:b9 O m S w tm a.tmps)
  (hl:cY tm 0 (lo.map (aK H))=some l) (hh:cY tm len (hi.map (aK H))=some h) (h1:l<=h) (h2:h<=cap):
  (Instr.sliceBounds isSlice len cap (lo.map a.eval) (hi.map a.eval) none).run P w= .ok (l,h,cap) w:=by
 cases lo with
 | none=>
  simp only [vS,cY,yd] at hl;subst hl
  cases hi with
  | none=>
   simp only [vS,cY,yd] at hh;subst hh;simp [Instr.sliceBounds]
  | some y=>
   obtain ⟨kd,e⟩:=zb (cz hH ht y) hh;simp only [Instr.sliceBounds,vS,wP,e,Sem.run_bind,Sem.run_pure,Result.andThen_ok,run_sliceBound h2]
 | some x=>
  obtain ⟨kd,e⟩:=zb (cz hH ht x) hl
  cases hi with
  | none=>
   simp only [vS,cY,yd] at hh;subst hh;simp only [Instr.sliceBounds,vS,wP,e,Sem.run_bind,Sem.run_pure,Result.andThen_ok,run_sliceBound h1]
  | some y=>
   obtain ⟨YB,e'⟩:=zb (cz hH ht y) hh;simp only [Instr.sliceBounds,wP,e,e',Sem.run_bind,Sem.run_pure,Result.andThen_ok,run_sliceBound h2,run_sliceBound h1]
def ao4 {t:yC} {lo hi:Option xp} {vx v:AV} {x:yg} (hH:fc O H) (ht:b9 O m S w tm a.tmps) (hu:O.P.underlying t=some .string)
  (hx:ah O.af m S w vx x) {hp:Hp} (h:eV hp .str vx tm (lo.map (aK H)) (hi.map (aK H))=some v):
  ∃u,(Instr.sliceAt t x (lo.map a.eval) (hi.map a.eval) none).run O.P w= .ok u w/\ah O.af m S w v u:=by
 cases vx<;>simp only [eV,reduceCtorEq] at h
 obtain ⟨b,rfl,rfl⟩:=hx
 cases hl:cY tm 0 (lo.map (aK H)) with
 | none=>simp [hl] at h
 | some l=>
  simp only [hl] at h
  cases hh:cY tm (b.data.toList.map xb).length (hi.map (aK H)) with
  | none=>rw [hh] at h;cases h
  | some g=>
   rw [hh] at h;simp only at h
   cases hc:(yE l g&&yE g (b.data.toList.map xb).length) with
   | false=>rw [hc] at h;cases h
   | true=>
    rw [hc] at h;simp only [yA,yd] at h;subst h;simp only [ye] at hc;have h1:=yv hc.1;have h2:=yv hc.2;have hlen:(b.data.toList.map xb).length=b.size:=abu b;rw [hlen] at hh h2;refine ⟨.string (b.extract l g),?_,?_⟩
    ·simp only [Instr.sliceAt,Sem.run_bind,run_underlying hu,Result.andThen_ok,Instr.slice,Option.isSome_none,yN,xf,Sem.run_pure,
      abv (P:=O.P) (isSlice:=false) (len:=b.size) (cap:=b.size) hH ht hl hh h1 h2]
    ·simp only [ah];refine ⟨_,rfl,?_⟩;rw [Lib.extract_data,List.map_take,List.map_drop,List.drop_take]
def aqO {t e:yC} {sz:Nat} {lo hi:Option xp} {vx v:AV} {x:yg} (hH:fc O H) (ht:b9 O m S w tm a.tmps) (hu:O.P.underlying t=some (.slice e)) (hz:cE O.P e=some sz)
  {hp:Hp} {ct:Nat} (hh:aU O m S w hp ct)
  (hx:ah O.af m S w vx x) (h:eV hp (.sl sz) vx tm (lo.map (aK H)) (hi.map (aK H))=some v):
  ∃u,(Instr.sliceAt t x (lo.map a.eval) (hi.map a.eval) none).run O.P w= .ok u w/\ah O.af m S w v u:=by
 have eG:(vL e).run O.P w= .ok sz w:=by
  unfold cE at hz
  cases hi:O.P.info? e with
  | none=>simp [hi] at hz
  | some i=>simp_all [vL,typeInfo]
 have Im:∀(ad:Option uz) (n c l g:Nat),cY tm 0 (lo.map (aK H))=some l->cY tm n (hi.map (aK H))=some g->l<=g->g<=c->
   (Instr.sliceAt t (.slice ad n c) (lo.map a.eval) (hi.map a.eval) none).run O.P w= .ok (.slice (if c=l then ad else ad.map (·.add (l*sz))) (g-l) (c-l)) w:=by
  intro ad n c l g hl hg h1 h2
  simp only [Instr.sliceAt,Sem.run_bind,run_underlying hu,Result.andThen_ok,Instr.slice,Sem.run_pure,eG,
   abv (P:=O.P) (isSlice:=true) (len:=n) (cap:=c) hH ht hl hg h1 h2]
 cases vx<;>simp only [eV,reduceCtorEq] at h
 case aa=>
  simp only [ah] at hx;subst hx
  cases hl:cY tm 0 (lo.map (aK H)) with
  | none=>simp [hl] at h
  | some l=>
   cases l with
   | succ l=>simp [hl] at h
   | zero=>
    simp only [hl] at h
    cases hh:cY tm 0 (hi.map (aK H)) with
    | none=>simp [hh] at h
    | some g=>
     cases g with
     | succ g=>simp [hh] at h
     | zero=>
      simp only [hh,yd] at h;subst h;exact ⟨_,Im none 0 0 0 0 hl hh (yr _) (yr _),by simp [ah]⟩
 case aA ex n cs=>
  simp only [ah] at hx;rcases hx with ⟨b,o,c,rfl,Ks,hex,hS,iC,og⟩ | ⟨ad,rfl,rfl,rfl⟩
  case inr=>
   cases hl:cY tm 0 (lo.map (aK H)) with
   | none=>simp [hl] at h
   | some l=>
    simp only [hl] at h
    cases hh:cY tm 0 (hi.map (aK H)) with
    | none=>simp [hh] at h
    | some g=>
     simp only [hh] at h
     cases hc:(yE l g&&yE g 0) with
     | false=>rw [hc] at h;cases h
     | true=>
      rw [hc] at h;simp only [yA,yd] at h;subst h;simp only [ye] at hc;have h1:=yv hc.1;have h2:=yv hc.2;have hg:g=0:=by omega
      subst hg;have j9:l=0:=by omega
      subst j9;refine ⟨_,Im (some ad) 0 0 0 0 hl hh h1 h2,?_⟩;simp only [ah];exact .inr ⟨ad,by simp,by simp,by simp [slice]⟩
  cases hl:cY tm 0 (lo.map (aK H)) with
  | none=>simp [hl] at h
  | some l=>
   simp only [hl] at h
   cases hh:cY tm n (hi.map (aK H)) with
   | none=>simp [hh] at h
   | some g=>
    simp only [hh] at h
    cases hc:(yE l g&&yE g n) with
    | false=>rw [hc] at h;cases h
    | true=>
     rw [hc] at h;simp only [yA,yd] at h;subst h;simp only [ye] at hc;have h1:=yv hc.1;have h2:=yv hc.2;refine ⟨_,Im (some ⟨b,o,none⟩) n c l g hl hh h1 (by omega),?_⟩;have CT:aG (slice (l*sz) ((g-l)*sz) cs)=true:=by
      have pd:∀(k:Nat) (cs:List AV),aG cs=true->aG (cs.drop k)=true:=by
       intro k
       induction k with
       | zero=>intro cs h;simpa using h
       | succ k ih=>intro cs h;cases cs with
        | nil=>simpa using h
        | cons c cs=>simp only [aG,ye] at h;simpa using ih cs h.2
      have pt:∀(k:Nat) (cs:List AV),aG cs=true->aG (cs.take k)=true:=by
       intro k
       induction k with
       | zero=>intro cs h;simp [aG]
       | succ k ih=>intro cs h;cases cs with
        | nil=>simp [aG]
        | cons c cs=>simp only [aG,ye,wz] at h ⊢;exact ⟨h.1,ih cs h.2⟩
      exact pt _ _ (pd _ _ iC)
     have ajh:(ex&&yu g n)=true->c-l=g-l:=by
      intro hq;simp only [ye] at hq
      have:=hex hq.1
      have:=yj hq.2
      omega
     simp only [ah];by_cases gP:c=l
     ·have h0:g-l=0:=by omega
      have z6:slice (l*sz) ((g-l)*sz) cs=[]:=by simp [slice,h0]
      rw [z6];exact .inl ⟨b,o,c-l,by simp [gP],by omega,ajh,.inl rfl,rfl,by simp [bT]⟩
     ·refine .inl ⟨b,o+l*sz,c-l,by simp [gP,nN],by omega,ajh,?_,CT,?_⟩
      ·rcases hS with rfl | hS
       ·exact .inl (by simp [slice])
       ·exact .inr hS
      ·exact Av _ _ _ _ (p8 _ _ _ _ og)
 case aB id o n=>
  simp only [ah] at hx;obtain ⟨p,c,hm,rfl,Ks,Pj⟩:=hx
  split at h
  case h_2=>cases h
  rename_i YC pu0 sf z0 cs0 CU;obtain ⟨p',arr,t',iD,_,eY,_⟩:=hh.obj id _ _ CU hm;rw [hm] at iD;injection iD with iD
  subst iD
  cases hl:cY tm 0 (lo.map (aK H)) with
  | none=>simp [hl] at h
  | some l=>
   simp only [hl] at h
   cases hh:cY tm n (hi.map (aK H)) with
   | none=>simp [hh] at h
   | some g=>
    simp only [hh] at h
    cases hc:(yE l g&&yE g n&&yu z0 sz) with
    | false=>rw [hc] at h;cases h
    | true=>
     rw [hc] at h;simp only [yA] at h;simp only [ye] at hc;have h1:=yv hc.1.1;have h2:=yv hc.1.2;have hpz:p.z=sz:=eY.trans (yj hc.2)
     cases he:(yu l g&& !yu l 0) with
     | true=>
      rw [he] at h;simp only [yA,yd] at h;subst h;simp only [ye] at he;have z7:=yj he.1;refine ⟨_,Im (some ⟨p.b,p.o+o,none⟩) n c l g hl hh h1 (by omega),?_⟩;simp only [ah];by_cases gP:c=l
      ·exact .inl ⟨p.b,p.o+o,c-l,by simp [gP];omega,by omega,by simp,by simp,by simp [aG],by simp [bT]⟩
      ·exact .inl ⟨p.b,p.o+o+l*sz,c-l,by simp [gP,nN];omega,by omega,by simp,by simp,by simp [aG],by simp [bT]⟩
     | false=>
      rw [he] at h;simp only [yS,yd] at h;subst h;have gP:c=l->l=0:=by
       intro gP;have z7:l=g:=by omega
       cases j9:yu l 0 with
       | true=>exact yj j9
       | false=>rw [z7,Nat.beq_refl,<-z7,j9] at he;cases he
      refine ⟨_,Im (some ⟨p.b,p.o+o,none⟩) n c l g hl hh h1 (by omega),?_⟩;simp only [ah];refine ⟨p,c-l,hm,?_,by omega,?_⟩
      ·by_cases S6:c=l
       ·have:=gP S6;subst this;subst S6;simp
       ·simp [S6,nN,uT]
      ·rw [hpz] at Pj ⊢
       have:c*sz=l*sz+(c-l)*sz:=by rw [<-wL];congr 1;omega
       omega
end
end
section
open Go
def nG {P:y5} {w:yi} {t:yC} {sz:Nat} (hz:cE P t=some sz):(vL t).run P w= .ok sz w:=by
 unfold cE at hz
 cases hi:P.info? t with
 | none=>simp [hi] at hz
 | some i=>simp_all [vL,typeInfo]
section
variable {O:bk} {H:Hint} {m:Mp} {S:Nat->Prop} {w:yi} {tm:Env} {a:Act} {hp:Hp} {ct:Nat}
def Q2 {id o n:Nat} {rw pu ex:Bool} {sz:Nat} {cs:List AV} {p:Pl} (hh:aU O m S w hp ct) (hg:aq hp id=some (.cells rw pu ex sz cs)) (hm:m id=some p):
  bT O.af m S w cs p.b p.o:=by
 obtain ⟨p',arr,t',iD,_,_,_,_,_,hr,_⟩:=hh.obj id _ _ hg hm
 grind
def ay8 {t:yC} {sz:Nat} {ag:Bool} {vx v:AV} {x:yg} (hh:aU O m S w hp ct) (hz:cE O.P t=some sz) (ha:dQ O.P t=some ag) (hx:ah O.af m S w vx x)
  (h:iU hp sz ag vx=some v):∃u,(Instr.loadAt t x).run O.P w= .ok u w/\ah O.af m S w v u:=by
 cases vx<;>simp only [iU,reduceCtorEq] at h
 case ptr id o=>
  obtain ⟨p,hm,rfl⟩:=hx
  split at h
  case h_2=>cases h
  rename_i YC pu0 sf z0 cs0 CU;have hr:=Q2 (id:=id) (o:=0) (n:=0) hh CU hm;obtain ⟨u,h1,h2⟩:=Ms hz ha (p8 o cs0 p.b p.o hr) h;exact ⟨u,by simp only [Instr.loadAt,Instr.sureAddr,Sem.run_bind,Sem.run_pure,Result.andThen_ok];exact h1,h2⟩
 case b5 cs=>
  obtain ⟨b,o,rfl,_,_,hr⟩:=hx;obtain ⟨u,h1,h2⟩:=Ms hz ha hr h;exact ⟨u,by simp only [Instr.loadAt,Instr.sureAddr,Sem.run_bind,Sem.run_pure,Result.andThen_ok];exact h1,h2⟩
def sO:∀(k:Nat) (cs:List AV),aG cs=true->aG (cs.drop k)=true
 | 0,cs,h=>by simpa using h
 | k+1,[],h=>by simpa using h
 | k+1,c::cs,h=>by simp only [aG,ye] at h;simpa using sO k cs h.2
def QF {cs:List AV} {b o k:Nat} (h2:cs=[]\/S b) (h3:aG cs=true) (h4:bT O.af m S w cs b o):ah O.af m S w (.b5 (cs.drop k)) (.pointer (some ⟨b,o+k,none⟩)):=by
 refine ⟨b,o+k,rfl,?_,sO k cs h3,p8 k cs b o h4⟩
 grind
def avf {t:yC} {fs:Array uL} {i:Nat} {f:uL} {sz:Nat} {vx v:AV} {x:yg} (hu:O.P.underlying t=some (.struct fs)) (hf:fs[i]? =some f) (hz:cE O.P f.type=some (sz+1))
  (hx:ah O.af m S w vx x)
  (h:IW f.offset vx=some v):∃u,(Instr.fieldAt t x i).run O.P w= .ok u w/\ah O.af m S w v u:=by
 have aiw:∀(b o:Nat),(Instr.fieldAt t (.pointer (some ⟨b,o,none⟩)) i).run O.P w= .ok (.pointer (some ⟨b,o+f.offset,none⟩)) w:=by
  intro b o;simp only [Instr.fieldAt,Sem.run_bind,run_underlying hu,Result.andThen_ok,hf,Instr.sureAddr,Sem.run_pure,fieldPlace,nG hz,Nat.succ_ne_zero,xf,nN]
 cases vx<;>simp only [IW,reduceCtorEq] at h
 case ptr id o=>
  obtain ⟨p,hm,rfl⟩:=hx;simp only [yd] at h;subst h;exact ⟨_,aiw _ _,by simp only [ah];exact ⟨p,hm,by rw [uT]⟩⟩
 case b5 cs=>
  obtain ⟨b,o,rfl,h2,h3,h4⟩:=hx
  cases hc:yE f.offset cs.length with
  | false=>rw [hc] at h;cases h
  | true=>
   rw [hc] at h;simp only [yA,yd] at h;subst h;exact ⟨_,aiw _ _,QF h2 h3 h4⟩
def avg {t:yC} {fs:Array uL} {i:Nat} {f:uL} {sz:Nat} {ag:Bool} {vx v:AV} {x:yg} (hu:O.P.underlying t=some (.struct fs)) (hf:fs[i]? =some f)
  (hz:cE O.P f.type=some sz) (ha:dQ O.P f.type=some ag) (hx:ah O.af m S w vx x)
  (h:M1 f.offset sz ag vx=some v):∃u,(Instr.field t x i).run O.P w= .ok u w/\ah O.af m S w v u:=by
 cases vx<;>simp only [M1,reduceCtorEq] at h
 obtain ⟨xs,rfl,hr⟩:=hx;obtain ⟨u,h1,h2⟩:=adD hz ha hr h;exact ⟨u,by simp only [Instr.field,Sem.run_bind,run_underlying hu,Result.andThen_ok,hf,asAgg,Sem.run_pure];exact h1,h2⟩
def avh {t e:yC} {sz k:Nat} {vx vi v:AV} {x i:yg} (hu:O.P.underlying t=some (.slice e)) (hz:cE O.P e=some sz) (hx:ah O.af m S w vx x) (hi:ah O.af m S w vi i)
  (hk:dz vi=some k)
  (h:iN sz k vx=some v):∃u,(Instr.indexAt t x i).run O.P w= .ok u w/\ah O.af m S w v u:=by
 obtain ⟨kd,rfl⟩:=zb hi hk;have I1:∀(b o n c:Nat),k<n->(Instr.indexAt t (.slice (some ⟨b,o,none⟩) n c) (.int kd (k:Int))).run O.P w= .ok (.pointer (some ⟨b,o+k*sz,none⟩)) w:=by
  intro b o n c sj;have hr:(0:Int)<=(k:Int)/\(k:Int)<(n:Int):=by omega
  simp [Instr.indexAt,asIntOf,run_underlying hu,nG hz,hr,nN]
  grind
 cases vx<;>simp only [iN,reduceCtorEq] at h
 case aB id o n=>
  obtain ⟨p,c,hm,rfl,Ks,Pj⟩:=hx
  cases hc:yR k n with
  | false=>rw [hc] at h;cases h
  | true=>
   rw [hc] at h;simp only [yA,yd] at h;subst h;have sj:k<n:=by simp_all
   exact ⟨_,I1 _ _ _ _ sj,by simp only [ah];exact ⟨p,hm,by rw [uT]⟩⟩
 case aA ex n cs=>
  rcases hx with ⟨b,o,c,rfl,Ks,hex,h2,h3,h4⟩ | ⟨a,rfl,rfl,rfl⟩
  case inr=>
   have:yR k 0=false:=by cases hq:yR k 0 with | false=>rfl | true=>simp only [yR,ybO] at hq;omega
   grind
  cases hc:yR k n with
  | false=>rw [hc] at h;cases h
  | true=>
   rw [hc] at h;simp only [yA,yd] at h;subst h;have sj:k<n:=by simp_all
   exact ⟨_,I1 _ _ _ _ sj,QF h2 h3 h4⟩
def avi {t e:yC} {len sz k:Nat} {vx vi v:AV} {x i:yg} (hu:O.P.underlying t=some (.array len e)) (hz:cE O.P e=some sz) (hx:ah O.af m S w vx x) (hi:ah O.af m S w vi i)
  (hk:dz vi=some k)
  (h:M2 len sz k vx=some v):∃u,(Instr.indexAt t x i).run O.P w= .ok u w/\ah O.af m S w v u:=by
 obtain ⟨kd,rfl⟩:=zb hi hk;have I1:∀(b o:Nat),k<len->(Instr.indexAt t (.pointer (some ⟨b,o,none⟩)) (.int kd (k:Int))).run O.P w= .ok (.pointer (some ⟨b,o+k*sz,none⟩)) w:=by
  intro b o sj;have hr:(0:Int)<=(k:Int)/\(k:Int)<(len:Int):=by omega
  simp [Instr.indexAt,asIntOf,run_underlying hu,nG hz,hr,nN,Instr.sureAddr]
  grind
 cases vx<;>simp only [M2,reduceCtorEq] at h
 case ptr id o=>
  obtain ⟨p,hm,rfl⟩:=hx
  cases hc:yR k len with
  | false=>rw [hc] at h;cases h
  | true=>
   rw [hc] at h;simp only [yA,yd] at h;subst h;have sj:k<len:=by simp_all
   exact ⟨_,I1 _ _ sj,by simp only [ah];exact ⟨p,hm,by rw [uT]⟩⟩
 case b5 cs=>
  obtain ⟨b,o,rfl,h2,h3,h4⟩:=hx
  cases hc:yR k len with
  | false=>rw [hc] at h;cases h
  | true=>
   rw [hc] at h;simp only [yA,yd] at h;subst h;have sj:k<len:=by simp_all
   exact ⟨_,I1 _ _ sj,QF h2 h3 h4⟩
def avj {t e:yC} {len sz k:Nat} {ag:Bool} {vx vi v:AV} {x i:yg} (hu:O.P.underlying t=some (.array len e)) (hz:cE O.P e=some sz) (ha:dQ O.P e=some ag)
  (hx:ah O.af m S w vx x) (hi:ah O.af m S w vi i) (hk:dz vi=some k)
  (h:M3 len sz ag k vx=some v):
  ∃u,(Instr.index t x i).run O.P w= .ok u w/\ah O.af m S w v u:=by
 obtain ⟨kd,rfl⟩:=zb hi hk;cases vx<;>simp only [M3,reduceCtorEq] at h
 obtain ⟨xs,rfl,hr⟩:=hx
 cases hc:yR k len with
 | false=>rw [hc] at h;cases h
 | true=>
  rw [hc] at h;have sj:k<len:=by simp_all
  obtain ⟨u,h1,h2⟩:=adD hz ha hr h;have bn:(0:Int)<=(k:Int)/\(k:Int)<(len:Int):=by omega
  exact ⟨u,by simp [Instr.index,asIntOf,run_underlying hu,nG hz,bn,h1];intro hle;exact absurd hle (by omega),h2⟩
def avk {t:yC} {k:Nat} {vx vi v:AV} {x i:yg} (hu:O.P.underlying t=some .string) (hx:ah O.af m S w vx x) (hi:ah O.af m S w vi i) (hk:dz vi=some k)
  (h:mY k vx=some v):
  ∃u,(Instr.index t x i).run O.P w= .ok u w/\ah O.af m S w v u:=by
 obtain ⟨kd,rfl⟩:=zb hi hk;cases vx<;>simp only [mY,reduceCtorEq] at h
 obtain ⟨b,rfl,rfl⟩:=hx
 cases hs:(b.data.toList.map xb)[k]? with
 | none=>rw [hs] at h;cases h
 | some q=>
  rw [hs] at h;simp only [yd] at h;subst h;rw [List.getElem?_map] at hs
  cases hb:b.data.toList[k]? with
  | none=>rw [hb] at hs;cases hs
  | some c=>
   rw [hb] at hs;simp only [wP,yd] at hs;subst hs;have cw:b[k]? =some c:=by
    have aX:k<b.data.toList.length:=by
     grind
    have eG:k<b.size:=by simp_all
    rw [getElem?_pos b k eG];rw [xU aX] at hb;rw [<-hb];rfl
   refine ⟨.int .u8 c.toNat,?_,by simp [ah]⟩;simp [Instr.index,asIntOf,run_underlying hu,cw]
end
end
section
open Go
section
variable {af:Nat->Nat} {m:Mp} {S:Nat->Prop} {w:yi}
def QG:∀{v:AV} {u:yg},ah af m S w v u->cy (cellsOf v)=true->az af m S w (cellsOf v) u.cells.toList:=by
 intro v u h h1;cases v
 case agg cs=>
  simp only [ah] at h;obtain ⟨xs,rfl,hr⟩:=h;exact hr
 case ae vs=>simp [cellsOf,cy,dh] at h1
 case undef=>simp [cellsOf,cy,dh] at h1
 case bD=>simp [cellsOf,cy,dh] at h1
 case fn f a b=>
  cases f with
  | f g=>have h':=h;simp only [ah] at h';obtain ⟨fi,ca,rfl,_⟩:=h';simp only [cellsOf,Value.cells,az];exact ⟨_,_,rfl,h,rfl⟩
  | y l=>have h':=h;simp only [ah] at h';obtain ⟨p,_,rfl⟩:=h';simp only [cellsOf,Value.cells,az];exact ⟨_,_,rfl,h,rfl⟩
 case str s=>have h':=h;simp only [ah] at h';obtain ⟨b,rfl,_⟩:=h';simp only [cellsOf,Value.cells,az];exact ⟨_,_,rfl,h,rfl⟩
 case ptr id o=>have h':=h;simp only [ah] at h';obtain ⟨b,_,rfl⟩:=h';simp only [cellsOf,Value.cells,az];exact ⟨_,_,rfl,h,rfl⟩
 case b5 cs=>have h':=h;simp only [ah] at h';obtain ⟨b,o,rfl,_⟩:=h';simp only [cellsOf,Value.cells,az];exact ⟨_,_,rfl,h,rfl⟩
 case aA e n cs=>have h':=h;simp only [ah] at h';rcases h' with ⟨b,o,c,rfl,_⟩ | ⟨a,rfl,_,_⟩<;>(simp only [cellsOf,Value.cells,az];exact ⟨_,_,rfl,h,rfl⟩)
 case aB id o n=>have h':=h;simp only [ah] at h';obtain ⟨p,c,_,rfl,_⟩:=h';simp only [cellsOf,Value.cells,az];exact ⟨_,_,rfl,h,rfl⟩
 case map id=>have h':=h;simp only [ah] at h';obtain ⟨p,_,rfl⟩:=h';simp only [cellsOf,Value.cells,az];exact ⟨_,_,rfl,h,rfl⟩
 case jw ks vs=>have h':=h;simp only [ah] at h';obtain ⟨b,es,cl,rfl,_⟩:=h';simp only [cellsOf,Value.cells,az];exact ⟨_,_,rfl,h,rfl⟩
 case it id=>have h':=h;simp only [ah] at h';obtain ⟨p,_,rfl⟩:=h';simp only [cellsOf,Value.cells,az];exact ⟨_,_,rfl,h,rfl⟩
 all_goals
  have h':=h;simp only [ah] at h';subst h';simp only [cellsOf,Value.cells,az];exact ⟨_,_,rfl,h,rfl⟩
def Cc (v:yg):az af m S w (cellsOf (eB v)) v.cells.toList:=by
 have h:=Mr (af:=af) (m:=m) (S:=S) (w:=w) v;cases v
 case agg xs=>
  obtain ⟨l⟩:=xs;simp only [eB,ah] at h ⊢;obtain ⟨xs,e,hr⟩:=h;injection e with e
  subst e;exact hr
 case tuple xs=>obtain ⟨l⟩:=xs;simp only [eB] at h ⊢;simp only [cellsOf,Value.cells,az];exact ⟨_,_,rfl,h,rfl⟩
 case pointer p=>cases p<;>(simp only [eB] at h ⊢;simp only [cellsOf,Value.cells,az];exact ⟨_,_,rfl,h,rfl⟩)
 case map p=>cases p<;>(simp only [eB] at h ⊢;simp only [cellsOf,Value.cells,az];exact ⟨_,_,rfl,h,rfl⟩)
 case slice p n c=>
  cases p
  ·cases n
   ·cases c<;>(simp only [eB] at h ⊢;simp only [cellsOf,Value.cells,az];exact ⟨_,_,rfl,h,rfl⟩)
   ·simp only [eB] at h ⊢;simp only [cellsOf,Value.cells,az];exact ⟨_,_,rfl,h,rfl⟩
  ·simp only [eB] at h ⊢;simp only [cellsOf,Value.cells,az];exact ⟨_,_,rfl,h,rfl⟩
 all_goals (simp only [eB] at h ⊢;simp only [cellsOf,Value.cells,az];exact ⟨_,_,rfl,h,rfl⟩)
def lj:∀{a b:List AV} {x y:List yg},az af m S w a x->az af m S w b y->az af m S w (a++b) (x++y)
 | [],b,x,y,h,k=>by simp only [az] at h;subst h;simpa using k
 | c::a,b,x,y,h,k=>by
  simp only [az] at h;obtain ⟨u,r,rfl,h2,h3⟩:=h;simp only [xm,az];exact ⟨u,r++y,rfl,h2,lj h3 k⟩
def HK:∀(k:Nat) {cs:List AV} {us:List yg},az af m S w cs us->az af m S w (cs.drop k) (us.drop k)
 | 0,cs,us,h=>by simpa using h
 | k+1,[],us,h=>by simp only [az] at h;subst h;simp [az]
 | k+1,c::cs,us,h=>by simp only [az] at h;obtain ⟨u,r,rfl,_,h3⟩:=h;simpa using HK k h3
def D4:∀(k:Nat) {cs:List AV} {us:List yg},az af m S w cs us->az af m S w (cs.take k) (us.take k)
 | 0,cs,us,h=>by simp [az]
 | k+1,[],us,h=>by simp only [az] at h;subst h;simp [az]
 | k+1,c::cs,us,h=>by
  simp only [az] at h;obtain ⟨u,r,rfl,h2,h3⟩:=h;simp only [wz,az];exact ⟨u,_,rfl,h2,D4 k h3⟩
def Q3:∀{cs:List AV} {us:List yg} {i:Nat} {v:AV},az af m S w cs us->cs[i]? =some v->∃u,us[i]? =some u/\ah af m S w v u
 | [],us,i,v,_,h=>by simp at h
 | c::cs,us,0,v,h,e=>by
  simp only [az] at h;obtain ⟨u,r,rfl,h2,h3⟩:=h;simp at e;subst e;exact ⟨u,rfl,h2⟩
 | c::cs,us,i+1,v,h,e=>by
  simp only [az] at h;obtain ⟨u,r,rfl,h2,h3⟩:=h;simp at e;simpa using Q3 h3 e
end
def abw (off:Nat):∀(new:List yg) (j:Nat) (cells:Array yg),off+j+new.length<=cells.size->
  ((new.zipIdx j).foldl (fun (cs:Array yg) (p:yg×Nat)=>cs.setIfInBounds (off+p.2) p.1) cells).toList=
   cells.toList.take (off+j)++new++cells.toList.drop (off+j+new.length)
 | [],j,cells,_=>by simp
 | v::r,j,cells,h=>by
  simp only [yz] at h;have ih:=abw off r (j+1) (cells.setIfInBounds (off+j) v) (by simp;omega);simp only [List.zipIdx_cons,List.foldl_cons];rw [ih];have aX:off+j<cells.toList.length:=by simp;omega
  have h1:(cells.setIfInBounds (off+j) v).toList=cells.toList.set (off+j) v:=by simp
  rw [h1,show off+(j+1)=off+j+1 by omega];have h2:(cells.toList.set (off+j) v).take (off+j+1)=cells.toList.take (off+j)++[v]:=by
   rw [List.take_succ_eq_append_getElem (by simpa using aX)];simp [List.take_set_of_le]
  have h3:(cells.toList.set (off+j) v).drop (off+j+1+r.length)=cells.toList.drop (off+j+(r.length+1)):=by
   rw [List.drop_set_of_lt (by omega)];congr 1;omega
  rw [h2,h3]
  simp
section
variable {O:bk} {H:Hint} {m:Mp} {S:Nat->Prop} {w:yi} {tm:Env} {a:Act}
def Mt (hH:fc O H) (ht:b9 O m S w tm a.tmps) {place:Nat->Option (Nat×Nat)}:∀(parts:List (Nat×xp)) (ps:List (Nat×Nat×X)) (zero cs:List AV) (cells:Array yg),
  partsOf H place parts=some ps->az O.af m S w zero cells.toList->fill tm zero ps=some cs->
  ∃out,Instr.fill place cells (parts.map fun p=>(p.1,a.eval p.2))=some out/\az O.af m S w cs out.toList
 | [],ps,zero,cs,cells,hp,hz,hf=>by
  simp only [partsOf,yd] at hp;subst hp;simp only [fill,yd] at hf;subst hf;exact ⟨cells,rfl,hz⟩
 | (i,x)::r,ps,zero,cs,cells,hp,hz,hf=>by
  simp only [partsOf] at hp
  cases gQ:place i with
  | none=>simp [gQ] at hp
  | some q=>
   obtain ⟨o,s⟩:=q;simp only [gQ] at hp
   cases ic:partsOf H place r with
   | none=>simp [ic] at hp
   | some l=>
    simp only [ic,yd] at hp;subst hp;simp only [fill] at hf
    cases hc:(yu (cellsOf (aD tm (aK H x))).length s&&yE (o+s) zero.length&&cy (cellsOf (aD tm (aK H x)))) with
    | false=>rw [hc] at hf;cases hf
    | true=>
     rw [hc] at hf;simp only [yA] at hf;simp only [ye] at hc;have hs:=yj hc.1.1;have hle:=yv hc.1.2;have hrx:=QG (cz hH ht x) hc.2;have nn:=gC _ _ hrx;have oh:=gC _ _ hz;have eG:(a.eval x).cells.size=s:=by rw [<-hs,<-nn];simp
     have jM:cells.size=zero.length:=by rw [<-oh];simp
     have ay9:=abw o (a.eval x).cells.toList 0 cells (by simp;omega);have eY:az O.af m S w (over o (cellsOf (aD tm (aK H x))) zero)
       ((a.eval x).cells.zipIdx.foldl (fun (cs:Array yg) (p:yg×Nat)=>cs.setIfInBounds (o+p.2) p.1) cells).toList:=by
      rw [<-Array.foldl_toList,Array.toList_zipIdx,ay9];simp only [over,Nat.add_zero];rw [show (a.eval x).cells.toList.length=(cellsOf (aD tm (aK H x))).length from nn];exact lj (lj (D4 o hz) hrx) (HK _ hz)
     obtain ⟨out,h1,h2⟩:=Mt hH ht r l _ cs _ ic eY hf;refine ⟨out,?_,h2⟩;simp only [xc,Instr.fill,gQ,eG];rw [yB (by simp;omega)];exact h1
end
end
section
open Go
def abx (p q:ByteArray):(p==q)=cV (mj p) (mj q):=by
 have h:(p==q)=(p.data==q.data):=by cases p;cases q;rfl
 rw [h,abt,ByteArray.toList_eq,ByteArray.toList_eq];rw [uA,yam,yam];constructor
 ·intro e;rw [e]
 ·intro e;have:=congrArg List.toArray e;simpa using this
def Nw:vJ->Bool
 | .bool | .int _ | .string=>true
 | _=>false
def fits (d:vJ) (v:AV):Bool:=
 match d,v with
 | .int _,.int _ _ | .string,.str _ | .bool,.bool _=>true
 | _,_=>false
def Found (af:Nat->Nat) (m:Mp) (S:Nat->Prop) (w:yi) (f:Option (Option (Nat×yg))):Option AV->Prop
 | none=>f=some none
 | some v=>∃j u,f=some (some (j,u))/\ah af m S w v u
section
variable {O:bk} {af:Nat->Nat} {m:Mp} {S:Nat->Prop} {w:yi}
def acu {vk vk':AV} {k k':yg} {r:Bool} {d:vJ} (hk:ah af m S w vk k) (sn:ah af m S w vk' k') (h:EQ vk vk'=some r)
  (hd:fits d vk=true):Instr.sameNow d k k'=some r:=by
 unfold EQ at h
 split at h
 ·rename_i j x j' y;simp only [ah] at hk sn;subst hk;subst sn;by_cases hj:j=j'
  ·simp only [hj,xC,yd] at h;subst hj;cases d<;>simp [fits] at hd
   simpa [Instr.sameNow] using h
  ·simp [hj] at h
 ·simp only [ah] at hk sn;obtain ⟨s,rfl,rfl⟩:=hk;obtain ⟨s',rfl,rfl⟩:=sn;simp only [yd] at h;cases d<;>simp [fits] at hd
  simp only [Instr.sameNow,abx];rw [<-h];rfl
 ·simp only [ah] at hk sn;subst hk;subst sn;simp only [yd] at h;cases d<;>simp [fits] at hd
  simp [Instr.sameNow,h]
 ·cases h
def Q4 {vk:AV} {k:yg} {d:vJ} (hk:ah af m S w vk k)
  (hd:fits d vk=true):∀(ks vs:List AV) (es:List uO) (i:Nat) (r:Option AV),
  az af m S w ks (es.map (·.key))->az af m S w vs (es.map (·.val))->CQ vk ks vs=some r->Found af m S w (Instr.findNow d k es i) r
 | [],vs,es,i,r,h1,h2,h=>by
  simp only [az,List.map_eq_nil_iff] at h1;subst h1;simp only [CQ,yd] at h;subst h;rfl
 | c::ks,[],es,i,r,h1,h2,h=>by simp only [CQ] at h;cases h
 | c::ks,v::vs,es,i,r,h1,h2,h=>by
  cases es with
  | nil=>simp [az] at h1
  | cons e es=>
   simp only [xc,az,uW] at h1 h2;obtain ⟨u,t,⟨rfl,rfl⟩,hc,Pk⟩:=h1;obtain ⟨u',t',⟨rfl,rfl⟩,hv,z8⟩:=h2;simp only [CQ] at h
   cases mK:EQ vk c with
   | none=>simp [mK] at h
   | some b=>
    have hs:=acu (d:=d) hk hc mK hd
    cases b with
    | true=>
     simp only [mK,yd] at h;subst h;exact ⟨i,e.val,by simp [Instr.findNow,hs],hv⟩
    | false=>
     simp only [mK] at h;have ih:=Q4 hk hd ks vs es (i+1) r Pk z8 h;simpa [Instr.findNow,hs] using ih
def Lm {P:y5} {kt:yC} {d:vJ} (hu:P.underlying kt=some d) (hd:Nw d=true) (b:Bool) (k:yg):(Instr.checkKey b 10000 kt k).run P w= .ok () w:=by
 have:∀n,(Instr.checkKey b (n+1) kt k).run P w= .ok () w:=by
  intro n;cases d<;>simp [Nw] at hd<;>simp [Instr.checkKey,run_underlying hu]
 exact this 9999
def avl {t kt e:yC} {d:vJ} {ok:Bool} {hp:Hp} {ct:Nat} {vx vk v:AV} {x k zero:yg} (hh:aU O m S w hp ct) (hu:O.P.underlying t=some (.map kt e)) (hk:O.P.underlying kt=some d) (hd:Nw d=true)
  (hdk:fits d vk=true)
  (hz:(zeroValue e).run O.P w= .ok zero w) (hx:ah O.af m S w vx x) (FT:ah O.af m S w vk k) {z:AV} (YD:ah O.af m S w z zero)
  {r:Option AV}
  (hr:A2 hp vk vx=some r)
  (hv:(match r with | some u=>(bif ok then AV.ae [u,.bool true] else u) | none=>(bif ok then AV.ae [z,.bool false] else z))=v):
  ∃u,(Instr.lookup t x k ok).run O.P w= .ok u w/\ah O.af m S w v u:=by
 have fin:∀(u:AV) (uu:yg) (b:Bool),ah O.af m S w u uu->ah O.af m S w (bif ok then AV.ae [u,.bool b] else u) (if ok then .tuple #[uu,.bool b] else uu):=by
  intro u uu b h
  cases ok with
  | true=>simp only [yA,xC,ah,az];exact ⟨_,rfl,_,_,rfl,h,_,_,rfl,rfl,rfl⟩
  | false=>simpa using h
 have body:∀(x':yg) (es:Array uO),((x'= .map none/\es=#[])\/∃b clock,x'= .map (some b)/\w.heap[b]? =some (.map es clock))->Found O.af m S w (Instr.findNow d k es.toList 0) r->
   ∃u,(Instr.lookup t x' k ok).run O.P w= .ok u w/\ah O.af m S w v u:=by
  intro x' es hl hf
  cases r with
  | none=>
   have BI:Instr.findNow d k es.toList 0=some none:=hf;refine ⟨if ok then .tuple #[zero,.bool false] else zero,?_,by rw [<-hv];exact fin z zero false YD⟩
   rcases hl with ⟨rfl,rfl⟩ | ⟨b,clock,rfl,hb⟩
   ·have S7:Instr.findNow d k [] 0=some none:=rfl;simp [Instr.lookup,run_underlying hu,Lm hk hd,Instr.findKey,run_underlying hk,S7,hz]
   ·simp [Instr.lookup,run_underlying hu,getObj,Sem.run,hb,Lm hk hd,Instr.findKey,run_underlying hk,BI,hz]
  | some v'=>
   obtain ⟨j,u,h1,h2⟩:=hf;refine ⟨if ok then .tuple #[u,.bool true] else u,?_,by rw [<-hv];exact fin v' u true h2⟩
   rcases hl with ⟨rfl,rfl⟩ | ⟨b,clock,rfl,hb⟩
   ·have S7:Instr.findNow d k [] 0=some none:=rfl;rw [show (#[]:Array uO).toList=[] from rfl,S7] at h1;cases h1
   ·simp [Instr.lookup,run_underlying hu,getObj,Sem.run,hb,Lm hk hd,Instr.findKey,run_underlying hk,h1]
 cases vx<;>simp only [A2,reduceCtorEq] at hr
 case j0=>
  simp only [yd] at hr;subst hr;simp only [ah] at hx;subst hx;exact body _ #[] (.inl ⟨rfl,rfl⟩) rfl
 case map id=>
  simp only [ah] at hx;obtain ⟨p,hm,rfl⟩:=hx
  split at hr
  case h_2=>cases hr
  rename_i YC ks vs CU;obtain ⟨p',es,clock,iD,hb,h1,h2,_⟩:=hh.obj id _ _ CU hm;rw [hm] at iD;injection iD with iD;subst iD
  exact body _ es (.inr ⟨_,_,rfl,hb⟩) (Q4 FT hdk ks vs es.toList 0 r h1 h2 hr)
 case jw ks vs=>
  simp only [ah] at hx;obtain ⟨b,es,clock,rfl,_,_,_,hb,h1,h2⟩:=hx;exact body _ es (.inr ⟨_,_,rfl,hb⟩) (Q4 FT hdk ks vs es.toList 0 r h1 h2 hr)
end
end
section
open Go
def Hu:∀(k1 k2:List Nat) (a b:List AV) (r:Bool),ej (k1++k2) a b=some r->
  ∃r1 r2,ej k1 (a.take k1.length) (b.take k1.length)=some r1/\ej k2 (a.drop k1.length) (b.drop k1.length)=some r2/\r=(r1&&r2)
 | [],k2,a,b,r,h=>⟨true,r,by simp [ej],by simpa using h,by simp⟩
 | k::k1,k2,[],b,r,h=>by
  simp only [xm] at h;unfold ej at h
  grind
 | k::k1,k2,x::a,[],r,h=>by
  unfold ej at h
  grind
 | k::k1,k2,x::a,y::b,r,h=>by
  have step:∀(q:Bool) (f:Bool->Bool),(match ej (k1++k2) a b with | some r=>some (f r) | none=>none)=some q->∃r0,ej (k1++k2) a b=some r0/\q=f r0:=by grind
  unfold ej at h
  split at h
  ·grind
  ·rename_i e1 e2 e3;obtain ⟨rfl,rfl⟩:=e1;obtain ⟨rfl,rfl⟩:=e2;obtain ⟨rfl,rfl⟩:=e3;obtain ⟨r0,h0,rfl⟩:=step r _ h;obtain ⟨r1,r2,h1,h2,rfl⟩:=Hu k1 k2 _ _ r0 h0;exact ⟨_,r2,by simp only [yz,wz,ej,h1],by simpa using h2,(tA _ _ _).symm⟩
  ·rename_i e1 e2 e3;obtain ⟨rfl,rfl⟩:=e1;obtain ⟨rfl,rfl⟩:=e2;obtain ⟨rfl,rfl⟩:=e3
   split at h
   ·rename_i hk;obtain ⟨r0,h0,rfl⟩:=step r _ h;obtain ⟨r1,r2,h1,h2,rfl⟩:=Hu k1 k2 _ _ r0 h0;exact ⟨_,r2,by simp only [yz,wz,ej,h1,hk,xC],by simpa using h2,(tA _ _ _).symm⟩
   ·cases h
  ·rename_i e1 e2 e3;obtain ⟨rfl,rfl⟩:=e1;obtain ⟨rfl,rfl⟩:=e2;obtain ⟨rfl,rfl⟩:=e3;obtain ⟨r0,h0,rfl⟩:=step r _ h;obtain ⟨r1,r2,h1,h2,rfl⟩:=Hu k1 k2 _ _ r0 h0;exact ⟨_,r2,by simp only [yz,wz,ej,h1],by simpa using h2,(tA _ _ _).symm⟩
  ·cases h
def aat:∀(ks:List Nat) (a b:List AV) (r:Bool),ej ks a b=some r->a.length=ks.length/\b.length=ks.length
 | [],a,b,r,h=>by
  unfold ej at h
  grind
 | k::ks,[],b,r,h=>by
  unfold ej at h
  grind
 | k::ks,x::a,[],r,h=>by
  unfold ej at h
  grind
 | k::ks,x::a,y::b,r,h=>by
  have:∃r0,ej ks a b=some r0:=by
   cases he:ej ks a b with
   | some r0=>exact ⟨r0,rfl⟩
   | none=>unfold ej at h;split at h<;>simp_all
  obtain ⟨r0,h0⟩:=this
  have:=aat ks a b r0 h0
  simp [this]
def FU (P:y5) (t:yC) (x:yg) (xs:List yg):Prop:=(dQ P t=some true/\x= .agg xs.toArray)\/(dQ P t=some false/\xs=[x])
section
variable {P:y5} {af:Nat->Nat} {m:Mp} {S:Nat->Prop} {w:yi}
def Qq {t:yC} {ag:Bool} (ha:dQ P t=some ag):(isAgg t).run P w= .ok ag w:=by
 unfold dQ at ha
 cases hu:P.underlying t with
 | none=>simp [hu] at ha
 | some d=>cases d<;>simp_all [isAgg,underlying]
def aqP {t:yC} {s o:Nat} {xs:List yg} (hz:cE P t=some s) (ha:∃ag,dQ P t=some ag) (h1:dQ P t=some false->s=1) (hl:o+s<=xs.length):
  ∃u,(part t xs.toArray o).run P w= .ok u w/\FU P t u ((xs.drop o).take s):=by
 obtain ⟨ag,ha⟩:=ha
 cases ag with
 | true=>
  refine ⟨.agg ((xs.drop o).take s).toArray,?_,.inl ⟨ha,rfl⟩⟩;simp [part,Qq ha,nG hz,tD]
 | false=>
  have hs:=h1 ha;subst hs;have aX:o<xs.length:=by omega
  refine ⟨xs[o],?_,.inr ⟨ha,?_⟩⟩
  ·simp [part,Qq ha,xU aX]
  ·rw [List.drop_eq_getElem_cons aX,wz,tZ]
def ao5 {n:Nat} {t:yC} {ks:List Nat} (h:kinds P n t=some ks):∃ag,dQ P t=some ag/\(ag=false->ks.length=1):=by
 cases n with
 | zero=>simp [kinds] at h
 | succ n=>
  unfold kinds at h;unfold dQ
  split at h<;>simp_all
  all_goals (rw [<-h];rfl)
def SH (P:y5) (af:Nat->Nat) (m:Mp) (S:Nat->Prop) (w:yi) (n:Nat):Prop:=
 ∀(t:yC) (ks:List Nat),kinds P n t=some ks->P.stoodInHeld t=false->∀(d:Nat),n<=d->∀(xs ys:List yg) (cs dF:List AV) (r:Bool) (x y:yg),
  az af m S w cs xs->az af m S w dF ys->ej ks cs dF=some r->FU P t x xs->FU P t y ys->(Op.equalIn d t x y).run P w= .ok r w
def aby {n:Nat} (ih:SH P af m S w n) {t:yC} {ks:List Nat} {s o d:Nat} (hk:kinds P n t=some ks) (aR:P.stoodInHeld t=false) (hz:cE P t=some s) (hs:ks.length=s) (hd:n<=d)
  {xs ys:List yg} {cs dF:List AV} (h1:az af m S w cs xs) (h2:az af m S w dF ys) {r:Bool} (he:ej ks ((cs.drop o).take s) ((dF.drop o).take s)=some r):
  ∃u u',(part t xs.toArray o).run P w= .ok u w/\(part t ys.toArray o).run P w= .ok u' w/\(Op.equalIn d t u u').run P w= .ok r w:=by
 obtain ⟨ag,ha,h1s⟩:=ao5 hk;obtain ⟨l1,l2⟩:=aat _ _ _ _ he;have q1:=gC _ _ h1;have q2:=gC _ _ h2;simp only [yI,List.length_drop] at l1 l2;have ns:dQ P t=some false->s=1:=fun h=>by
  grind
 have nn:o+s<=xs.length\/s=0:=by omega
 have oh:o+s<=ys.length\/s=0:=by omega
 have get:∀(zs:List yg),(o+s<=zs.length\/s=0)->∃u,(part t zs.toArray o).run P w= .ok u w/\FU P t u ((zs.drop o).take s):=by
  intro zs hl;rcases hl with hl | hl
  ·exact aqP hz ⟨ag,ha⟩ ns hl
  ·subst hl
   cases ag with
   | false=>have:=ns ha;omega
   | true=>
    refine ⟨.agg ((zs.drop o).take 0).toArray,?_,.inl ⟨ha,rfl⟩⟩;simp [part,Qq ha,nG hz]
 obtain ⟨u,p1,v1⟩:=get xs nn;obtain ⟨u',p2,v2⟩:=get ys oh;exact ⟨u,u',p1,p2,ih t ks hk aR d hd _ _ _ _ r u u' (D4 s (HK o h1)) (D4 s (HK o h2)) he v1 v2⟩
def aau {n:Nat} (ih:SH P af m S w n) {d:Nat} (hd:n<=d) {xs ys:List yg} {cs dF:List AV} (h1:az af m S w cs xs) (h2:az af m S w dF ys):
  ∀(fs:List uL) (o:Nat) (ks:List Nat) (r:Bool),DZ P (fun u=>kinds P n u) fs o=some ks->ej ks (cs.drop o) (dF.drop o)=some r->(Op.eqFields d xs.toArray ys.toArray fs).run P w= .ok r w
 | [],o,ks,r,h,he=>by
  simp only [DZ,yd] at h;unfold ej at he
  split at he<;>simp_all [Op.eqFields]
 | f::fs,o,ks,r,h,he=>by
  simp only [DZ] at h
  cases hk:kinds P n f.type with
  | none=>simp [hk] at h
  | some kf=>
   cases hz:cE P f.type with
   | none=>simp [hk,hz] at h
   | some s=>
    simp only [hk,hz] at h
    cases hc:(f.name != "_"&&yu f.offset o&&yu kf.length s&& !P.stoodInHeld f.type) with
    | false=>rw [hc] at h;cases h
    | true=>
     rw [hc] at h;simp only [yA] at h;simp only [ye,bne_iff_ne,uB] at hc;obtain ⟨⟨⟨hn,ho⟩,hl⟩,aR⟩:=hc;have ho:=yj ho;have hl:=yj hl
     cases hr:DZ P (fun u=>kinds P n u) fs (o+s) with
     | none=>simp [hr] at h
     | some kr=>
      simp only [hr,yd] at h;subst h;obtain ⟨r1,r2,e1,e2,rfl⟩:=Hu _ _ _ _ _ he;rw [hl] at e1 e2;rw [vT,vT] at e2;obtain ⟨u,u',p1,p2,p3⟩:=aby ih (o:=o) hk aR hz hl hd h1 h2 e1;have rest:=aau ih hd h1 h2 fs (o+s) kr r2 hr e2;subst ho;simp only [Op.eqFields]
      cases r1 with
      | true=>simp [hn,p1,p2,p3,rest]
      | false=>simp [hn,p1,p2,p3]
def aaN {n:Nat} (ih:SH P af m S w n) {d:Nat} (hd:n<=d) {xs ys:List yg} {cs dF:List AV} (h1:az af m S w cs xs) (h2:az af m S w dF ys)
  {e:yC} {ks:List Nat} {s:Nat} (hk:kinds P n e=some ks) (aR:P.stoodInHeld e=false) (hz:cE P e=some s) (hl:ks.length=s):
  ∀(k j:Nat) (r:Bool),ej (ym k ks).flatten (cs.drop (j*s)) (dF.drop (j*s))=some r->(Op.eqItems d e s xs.toArray ys.toArray (List.range' j k)).run P w= .ok r w
 | 0,j,r,he=>by
  unfold ej at he
  split at he<;>simp_all [Op.eqItems]
 | k+1,j,r,he=>by
  obtain ⟨r1,r2,e1,e2,rfl⟩:=Hu _ _ _ _ _ he;rw [hl] at e1 e2;rw [vT,vT,show j*s+s=(j+1)*s by rw [wL,Nat.one_mul]] at e2;obtain ⟨u,u',p1,p2,p3⟩:=aby ih (o:=j*s) hk aR hz hl hd h1 h2 e1;have rest:=aaN ih hd h1 h2 hk aR hz hl k (j+1) r2 e2;rw [List.range'_succ];simp only [Op.eqItems]
  cases r1 with
  | true=>simp [p1,p2,p3,rest]
  | false=>simp [p1,p2,p3]
def Sd:∀(n:Nat) (t:yC) (ks:List Nat),kinds P n t=some ks->P.stoodInHeld t=false->∀(d:Nat),n<=d->∀(xs ys:List yg) (cs dF:List AV) (r:Bool) (x y:yg),
  az af m S w cs xs->az af m S w dF ys->ej ks cs dF=some r->FU P t x xs->FU P t y ys->(Op.equalIn d t x y).run P w= .ok r w
 | 0,t,ks,h,_,_,_,_,_,_,_,_,_,_,_,_,_,_,_=>by simp [kinds] at h
 | n+1,t,ks,h,aR,0,hd,_,_,_,_,_,_,_,_,_,_,_,_=>by omega
 | n+1,t,ks,h,aR,d+1,hd,xs,ys,cs,dF,r,x,y,h1,h2,he,hx,hy=>by
  unfold kinds at h;have one:∀{k:Nat},ks=[k]->dQ P t=some false->∃c c',cs=[c]/\dF=[c']/\ah af m S w c x/\ah af m S w c' y:=by
   intro k hk ha;rcases hx with ⟨hx,_⟩ | ⟨_,rfl⟩
   ·grind
   rcases hy with ⟨hy,_⟩ | ⟨_,rfl⟩
   ·grind
   have l1:=gC _ _ h1;have l2:=gC _ _ h2
   match cs,dF,l1,l2 with
   | [c],[c'],_,_=>
    simp only [az] at h1 h2
    grind
  split at h
  ·rename_i hu;simp only [yd] at h;have ha:dQ P t=some false:=by simp [dQ,hu]
   obtain ⟨c,c',rfl,rfl,r1,r2⟩:=one h.symm ha;subst h;unfold ej at he
   split at he<;>simp_all [ej]
   subst he;simp only [ah] at r1 r2;subst r1;subst r2;simp [Op.equalIn,run_underlying hu]
  ·rename_i k0 hu;simp only [yd] at h;have ha:dQ P t=some false:=by simp [dQ,hu]
   obtain ⟨c,c',rfl,rfl,r1,r2⟩:=one h.symm ha;subst h;unfold ej at he
   split at he<;>simp_all [ej]
   obtain ⟨hk,he⟩:=he;subst he;simp only [ah] at r1 r2;subst r1;subst r2;simp [Op.equalIn,run_underlying hu]
  ·rename_i hu;simp only [yd] at h;have ha:dQ P t=some false:=by simp [dQ,hu]
   obtain ⟨c,c',rfl,rfl,r1,r2⟩:=one h.symm ha;subst h;unfold ej at he
   split at he<;>simp_all [ej]
   subst he;simp only [ah] at r1 r2;obtain ⟨s,rfl,rfl⟩:=r1;obtain ⟨s',rfl,rfl⟩:=r2;simp only [Op.equalIn,Sem.run_bind,run_underlying hu,Result.andThen_ok,Sem.run_pure,abx];rfl
  ·rename_i fs hu;have ha:dQ P t=some true:=by simp [dQ,hu]
   rcases hx with ⟨_,rfl⟩ | ⟨hx,_⟩
   ·rcases hy with ⟨_,rfl⟩ | ⟨hy,_⟩
    ·have hf:P.fieldsOf t=fs:=by simp [Program.fieldsOf,hu]
     rw [run_equalIn_struct w d t _ _ (by rw [hf];exact hu) aR,hf]
     exact aau (Sd n) (by omega) h1 h2 fs.toList 0 ks r h (by simpa using he)
    ·rw [ha] at hy;cases hy
   ·rw [ha] at hx;cases hx
  ·rename_i k e hu;have ha:dQ P t=some true:=by simp [dQ,hu]
   rcases hx with ⟨_,rfl⟩ | ⟨hx,_⟩
   ·rcases hy with ⟨_,rfl⟩ | ⟨hy,_⟩
    ·cases hk:kinds P n e with
     | none=>simp [hk] at h
     | some ke=>
      cases hz:cE P e with
      | none=>simp [hk,hz] at h
      | some s=>
       simp only [hk,hz] at h
       cases hc:(yu ke.length s&& !P.stoodInHeld e) with
       | false=>rw [hc] at h;cases h
       | true=>
        rw [hc] at h;simp only [yA,yd] at h;subst h;simp only [ye,uB] at hc;have eY:=hz;unfold cE at eY
        cases hi:P.info? e with
        | none=>simp [hi] at eY
        | some i=>
         simp only [hi,yd] at eY;have jM:P.cellsOf e=s:=by simp [Program.cellsOf,hi,eY]
         rw [run_equalIn_array w d _ _ hu hi,jM,List.range_eq_range'];exact aaN (Sd n) (by omega) h1 h2 hk hc.2 hz (yj hc.1) k 0 r (by simpa using he)
    ·rw [ha] at hy;cases hy
   ·rw [ha] at hx;cases hx
  ·cases h
end
end
section
open Go
def dH {tm:Env} {hp:Hp} {v:AV} (h:bw tm hp bad=some v):False:=by simp [bad,bw] at h
section
variable {O:bk} {H:Hint} {m:Mp} {S:Nat->Prop} {w:yi} {tm:Env} {a:Act} {hp:Hp} {ct:Nat}
def asV {af:Nat->Nat} {va vb v:AV} {x y:yg} (hx:ah af m S w va x) (hy:ah af m S w vb y) (h:VE.min2 va vb=some v):∃u,(Builtin.min2 x y).run O.P w= .ok u w/\ah af m S w v u:=by
 unfold VE.min2 at h
 split at h
 ·simp only [ah] at hx hy;subst hx;subst hy;simp only [yd] at h;subst h;exact ⟨_,by simp only [Builtin.min2,Sem.run_pure];rfl,by simp only [ah]⟩
 ·rename_i k p k' q;simp only [ah] at hx hy;subst hx;subst hy
  cases ho:k.format.order p q with
  | none=>simp [ho] at h
  | some c=>cases c<;>(simp only [ho,yd] at h;subst h;exact ⟨_,by simp only [Builtin.min2,ho,Sem.run_pure];rfl,by simp only [ah]⟩)
 ·cases h
def asW {af:Nat->Nat} {va vb v:AV} {x y:yg} (hx:ah af m S w va x) (hy:ah af m S w vb y) (h:VE.max2 va vb=some v):∃u,(Builtin.max2 x y).run O.P w= .ok u w/\ah af m S w v u:=by
 unfold VE.max2 at h
 split at h
 ·simp only [ah] at hx hy;subst hx;subst hy;simp only [yd] at h;subst h;exact ⟨_,by simp only [Builtin.max2,Sem.run_pure];rfl,by simp only [ah]⟩
 ·rename_i k p k' q;simp only [ah] at hx hy;subst hx;subst hy
  cases ho:k.format.order p q with
  | none=>simp [ho] at h
  | some c=>cases c<;>(simp only [ho,yd] at h;subst h;exact ⟨_,by simp only [Builtin.max2,ho,Sem.run_pure];rfl,by simp only [ah]⟩)
 ·cases h
def RJ {af:Nat->Nat} {f:AV->AV->Option AV} {g:yg->yg->Sem yg} (hfg:∀va vb v x y,ah af m S w va x->ah af m S w vb y->f va vb=some v->∃u,(g x y).run O.P w= .ok u w/\ah af m S w v u):
  ∀(l:List AV) (us:List yg) (va v:AV) (x:yg),ah af m S w va x->az af m S w l us->A1 f va l=some v->∃u,(us.foldlM g x).run O.P w= .ok u w/\ah af m S w v u
 | [],us,va,v,x,hx,hl,h=>by
  simp only [az] at hl;subst hl;simp only [A1,yd] at h;subst h;exact ⟨x,by simp,hx⟩
 | b::l,us,va,v,x,hx,hl,h=>by
  simp only [az] at hl;obtain ⟨u,r,rfl,hu,hr⟩:=hl;simp only [A1] at h
  cases hf:f va b with
  | none=>simp [hf] at h
  | some c=>
   simp only [hf] at h;obtain ⟨u1,h1,h2⟩:=hfg _ _ _ _ _ hx hu hf;obtain ⟨u2,h3,h4⟩:=RJ hfg l r c v u1 h2 hr h;exact ⟨u2,by simp [h1,h3],h4⟩
def Se {t:yC} {vx v:AV} {x:yg} {ty:yC} (hh:aU O m S w hp ct) (hx:ah O.af m S w vx x)
  {k:Nat} (hu:(k=0/\O.P.underlying t=some .string)\/(k=1/\∃e,O.P.underlying t=some (.slice e))\/(k=2/\∃kt e,O.P.underlying t=some (.map kt e)))
  (h:fP hp k vx=some v):∃u,(Builtin.len_ #[t] ty #[x]).run O.P w= .ok u w/\ah O.af m S w v u:=by
 rcases hu with ⟨rfl,hu⟩ | ⟨rfl,e,hu⟩ | ⟨rfl,kt,e,hu⟩
 all_goals cases vx<;>simp only [fP,reduceCtorEq] at h
 case inl.str s=>
  simp only [ah] at hx;obtain ⟨b,rfl,rfl⟩:=hx;simp only [yd] at h;subst h;refine ⟨_,by simp [Builtin.len_,run_underlying hu];rfl,?_⟩
  simp only [ah,goInt];rw [Lib.size_eq];simp
 case inr.inl.aa=>
  simp only [ah] at hx;subst hx;simp only [yd] at h;subst h;exact ⟨_,by simp [Builtin.len_,run_underlying hu];rfl,by simp [ah,goInt]⟩
 case inr.inl.aA ex n cs=>
  simp only [ah] at hx;rcases hx with ⟨b,o,c,rfl,_⟩ | ⟨a,rfl,rfl,rfl⟩
  all_goals
   simp only [yd] at h;subst h;exact ⟨_,by simp [Builtin.len_,run_underlying hu];rfl,by simp [ah,goInt]⟩
 case inr.inl.aB id o n=>
  simp only [ah] at hx;obtain ⟨p,c,_,rfl,_⟩:=hx;simp only [yd] at h;subst h;exact ⟨_,by simp [Builtin.len_,run_underlying hu];rfl,by simp [ah,goInt]⟩
 case inr.inr.j0=>
  simp only [ah] at hx;subst hx;simp only [yd] at h;subst h;exact ⟨_,by simp [Builtin.len_,run_underlying hu];rfl,by simp [ah,goInt]⟩
 case inr.inr.jw ks vs=>
  simp only [ah] at hx;obtain ⟨b,es,clock,rfl,_,_,_,hb,h1,_⟩:=hx;simp only [yd] at h;subst h;refine ⟨_,by simp [Builtin.len_,run_underlying hu,getObj,Sem.run,hb];rfl,?_⟩
  have:=gC _ _ h1
  simp only [ah,goInt];rw [<-this];simp
 case inr.inr.map id=>
  simp only [ah] at hx;obtain ⟨p,hm,rfl⟩:=hx
  split at h
  case h_2=>cases h
  rename_i YC ks vs CU;simp only [yd] at h;subst h;obtain ⟨p',es,clock,iD,hb,h1,_⟩:=hh.obj id _ _ CU hm;rw [hm] at iD;injection iD with iD;subst iD
  refine ⟨_,by simp [Builtin.len_,run_underlying hu,getObj,Sem.run,hb];rfl,?_⟩
  have:=gC _ _ h1
  simp only [ah,goInt];rw [<-this];simp
end
end
section
open Go
section
variable {O:bk} {H:Hint} {m:Mp} {S:Nat->Prop} {w:yi} {tm:Env} {a:Act} {hp:Hp} {ct:Nat}
def Ee {t:yC} {z:AV} (h:lH O.P t=some z):∃v,(zeroValue t).run O.P w= .ok v w/\z=eB v:=by
 unfold lH at h
 cases hi:O.P.info? t with
 | none=>simp [hi] at h
 | some i=>
  simp only [hi] at h
  cases hz:i.zero with
  | none=>simp [hz] at h
  | some v=>
   simp only [hz,yd] at h;exact ⟨v,by simp [zeroValue,typeInfo,hi,hz],h.symm⟩
def Reads (O:bk) (m:Mp) (S:Nat->Prop) (w:yi) (a:Act) (o:yX) (v:AV):Prop:=
 ∃u,(execOp a.eval o).run O.P w= .ok (.value u) w/\ah O.af m S w v u
def jU {o:yX} {v:AV} {s:Sem yg} (he:execOp a.eval o=(do pure (.value (<-s)):Sem Next)) (h:∃u,s.run O.P w= .ok u w/\ah O.af m S w v u):Reads O m S w a o v:=by
 obtain ⟨u,h1,h2⟩:=h;exact ⟨u,by rw [he];simp [h1],h2⟩
def aqQ {o:yX} {op:wY} {t ty:yC} {x y:xp} {k:Nat} {v:AV} (hH:fc O H) (ht:b9 O m S w tm a.tmps) (ho:o.op= .binOp op t x y ty)
  (hv:bw tm hp (aW O.P H k o)=some v):Reads O m S w a o v:=by
 have rx:=cz hH ht x;have ry:=cz hH ht y;have guard:∀{u:yg},(∀xs ys,¬(a.eval x= .agg xs/\a.eval y= .agg ys))\/O.P.eqGuardType O.P.depth t=false->a.eval x≠.nilIface->(xJ op t (a.eval x) (a.eval y)).run O.P w= .ok u w->
   (do eqGuard op t x y (a.eval x) (a.eval y);xJ op t (a.eval x) (a.eval y):Sem yg).run O.P w= .ok u w:=by
  intro u h1 h2 h3
  simp only [Sem.run_bind,aog (P:=O.P) (w:=w) (t:=t) (op:=op) (x:=x) (y:=y) (h1.symm) h2,Result.andThen_ok,h3]
 have plain:bw tm hp (.bin op (aK H x) (aK H y))=some v->Reads O m S w a o v:=by
  intro hv;simp only [bw] at hv;obtain ⟨u,h1,h2⟩:=aqM (P:=O.P) (t:=t) rx ry hv
  refine jU (s:=do eqGuard op t x y (a.eval x) (a.eval y);xJ op t (a.eval x) (a.eval y)) (by simp only [execOp,ho]) ⟨u,guard (.inl ?_) ?_ h1,h2⟩
  ·rintro xs ys ⟨e1,e2⟩;rw [e1] at rx;unfold VE.binOp at hv
   split at hv
   ·rename_i h3 _;rw [h3] at rx;simp [ah] at rx
   ·rename_i h3 _;rw [h3] at rx;simp [ah] at rx
   ·rename_i h3 _;rw [h3] at rx;simp [ah] at rx
   ·cases hv
  ·intro e1;rw [e1] at rx;unfold VE.binOp at hv
   split at hv
   ·rename_i h3 _;rw [h3] at rx;simp [ah] at rx
   ·rename_i h3 _;rw [h3] at rx;simp [ah] at rx
   ·rename_i h3 _;rw [h3] at rx;simp [ah] at rx
   ·cases hv
 have other:∀(ne:Bool) (kd:VE.Pf),(op= .eql/\ne=false\/op= .neq/\ne=true)->(∀r,jI kd (aD tm (aK H x)) (aD tm (aK H y))=some r->(Op.equal t (a.eval x) (a.eval y)).run O.P w= .ok r w/\
    ((∀xs ys,¬(a.eval x= .agg xs/\a.eval y= .agg ys))\/O.P.eqGuardType O.P.depth t=false)/\a.eval x≠.nilIface/\
    ∀q:Bool,(op= .eql->xJ op t (a.eval x) (a.eval y)=(do pure (.bool (<-Op.equal t (a.eval x) (a.eval y)))))/\(op= .neq->xJ op t (a.eval x) (a.eval y)=(do pure (.bool (!(<-Op.equal t (a.eval x) (a.eval y)))))))->
   bw tm hp (.eq ne kd (aK H x) (aK H y))=some v->Reads O m S w a o v:=by
  intro ne kd ja my hv;simp only [bw] at hv
  cases he:jI kd (aD tm (aK H x)) (aD tm (aK H y)) with
  | none=>simp [he] at hv
  | some r=>
   simp only [he,yd] at hv;subst hv;obtain ⟨h1,h2,h3,h4⟩:=my r he;obtain ⟨h5,h6⟩:=h4 true
   refine jU (s:=do eqGuard op t x y (a.eval x) (a.eval y);xJ op t (a.eval x) (a.eval y)) (by simp only [execOp,ho]) ⟨.bool (ne !=r),guard h2 h3 ?_,by simp [ah]⟩
   rcases ja with ⟨rfl,rfl⟩ | ⟨rfl,rfl⟩
   ·rw [h5 rfl];simp [h1]
   ·rw [h6 rfl];simp [h1]
 have pB:O.P.underlying t=some .bool->∀r,jI .b (aD tm (aK H x)) (aD tm (aK H y))=some r->∃p q,a.eval x= .bool p/\a.eval y= .bool q/\(Op.equal t (a.eval x) (a.eval y)).run O.P w= .ok r w:=by
  intro hu r he;cases hx:aD tm (aK H x)<;>cases hy:aD tm (aK H y)<;>rw [hx,hy] at he<;>simp only [jI,reduceCtorEq] at he
  rw [hx] at rx;rw [hy] at ry;simp only [ah] at rx ry;simp only [yd] at he;refine ⟨_,_,rx,ry,?_⟩;rw [rx,ry,L5,<-he];exact ave hu
 have pS:∀e,O.P.underlying t=some (.slice e)->∀r,jI .sl (aD tm (aK H x)) (aD tm (aK H y))=some r->∃p n c q n' c',a.eval x= .slice p n c/\a.eval y= .slice q n' c'/\(Op.equal t (a.eval x) (a.eval y)).run O.P w= .ok r w:=by
  intro e hu r he;have h1:=asS hu rx ry he;have sl:∀{v:AV} {u:yg},ah O.af m S w v u->(v= .aa\/(∃a b c,v= .aA a b c)\/∃a b c,v= .aB a b c)->∃p n c,u= .slice p n c:=by
   intro v u hr hv;rcases hv with rfl | ⟨_,_,_,rfl⟩ | ⟨_,_,_,rfl⟩
   ·simp only [ah] at hr;exact ⟨_,_,_,hr⟩
   ·simp only [ah] at hr;rcases hr with ⟨b,o,c,hr,_⟩ | ⟨_,hr,_⟩<;>exact ⟨_,_,_,hr⟩
   ·simp only [ah] at hr;obtain ⟨b,c,_,hr,_⟩:=hr;exact ⟨_,_,_,hr⟩
  have dB:(aD tm (aK H x)= .aa\/(∃a b c,aD tm (aK H x)= .aA a b c)\/∃a b c,aD tm (aK H x)= .aB a b c)/\
    (aD tm (aK H y)= .aa\/(∃a b c,aD tm (aK H y)= .aA a b c)\/∃a b c,aD tm (aK H y)= .aB a b c):=by
   cases hx:aD tm (aK H x)<;>cases hy:aD tm (aK H y)<;>rw [hx,hy] at he<;>simp [jI] at he ⊢
  obtain ⟨p,n,c,e1⟩:=sl rx dB.1;obtain ⟨q,n',c',e2⟩:=sl ry dB.2;exact ⟨p,n,c,q,n',c',e1,e2,h1⟩
 have pF:∀ps rs vr,O.P.underlying t=some (.func ps rs vr)->∀r,jI .fn (aD tm (aK H x)) (aD tm (aK H y))=some r->
   ((a.eval x= .nilFunc\/∃f p q,a.eval x= .func f p q)/\(a.eval y= .nilFunc\/∃f p q,a.eval y= .func f p q))/\(Op.equal t (a.eval x) (a.eval y)).run O.P w= .ok r w:=by
  intro ps rs vr hu r he;have h1:=asT hu rx ry he;have sl:∀{v:AV} {u:yg},ah O.af m S w v u->(v= .iS\/(∃a b c,v= .fn a b c))->(u= .nilFunc\/∃f p q,u= .func f p q):=by
   intro v u hr hv;rcases hv with rfl | ⟨f,_,_,rfl⟩
   ·simp only [ah] at hr;exact .inl hr
   ·cases f with
    | f g=>simp only [ah] at hr;obtain ⟨b,c,hr,_⟩:=hr;exact .inr ⟨_,_,_,hr⟩
    | y l=>simp only [ah] at hr;obtain ⟨b,_,hr⟩:=hr;exact .inr ⟨_,_,_,hr⟩
  have dB:(aD tm (aK H x)= .iS\/(∃a b c,aD tm (aK H x)= .fn a b c))/\(aD tm (aK H y)= .iS\/(∃a b c,aD tm (aK H y)= .fn a b c)):=by
   cases hx:aD tm (aK H x)<;>cases hy:aD tm (aK H y)<;>rw [hx,hy] at he<;>simp [jI] at he ⊢
  exact ⟨⟨sl rx dB.1,sl ry dB.2⟩,h1⟩
 have pA:∀ks,kinds O.P 20 t=some ks->dQ O.P t=some true->O.P.stoodInHeld t=false->∀r,jI (.ag ks) (aD tm (aK H x)) (aD tm (aK H y))=some r->∃p q,a.eval x= .agg p/\a.eval y= .agg q/\(Op.equal t (a.eval x) (a.eval y)).run O.P w= .ok r w:=by
  intro ks hk ha aR r he;cases hx:aD tm (aK H x)<;>cases hy:aD tm (aK H y)<;>rw [hx,hy] at he<;>simp only [jI,reduceCtorEq] at he
  rw [hx] at rx;rw [hy] at ry;simp only [ah] at rx ry;obtain ⟨p,e1,h1⟩:=rx;obtain ⟨q,e2,h2⟩:=ry;refine ⟨p,q,e1,e2,?_⟩;rw [e1,e2,L5];exact Sd 20 t ks hk aR 10000 (by omega) _ _ _ _ r _ _ h1 h2 he (.inl ⟨ha,by simp⟩) (.inl ⟨ha,by simp⟩)
 have eqs:∀(ne:Bool),(op= .eql/\ne=false\/op= .neq/\ne=true)->bw tm hp (nM O.P H ne op t x y)=some v->Reads O m S w a o v:=by
  intro ne ja hv;have agg:dQ O.P t=some true->bw tm hp (oU O.P H ne t x y)=some v->Reads O m S w a o v:=by
   intro ha hv;unfold oU at hv
   cases hk:kinds O.P 20 t with
   | none=>rw [hk] at hv;exact (dH hv).elim
   | some ks=>
    simp only [hk] at hv
    cases hc:(O.P.stoodInHeld t||O.P.eqGuardType O.P.depth t) with
    | true=>rw [hc] at hv;exact (dH hv).elim
    | false=>
     rw [hc] at hv;simp only [yS] at hv;simp only [Bool.or_eq_false_iff] at hc;refine other ne (.ag ks) ja (fun r hr=>?_) hv;obtain ⟨p,q,e1,e2,h1⟩:=pA ks hk ha hc.1 r hr;refine ⟨h1,.inr hc.2,by rw [e1];simp,fun _=>?_⟩
     rw [e1,e2];exact ⟨fun e=>by subst e;rfl,fun e=>by subst e;rfl⟩
  unfold nM at hv
  split at hv
  ·exact plain hv
  ·exact plain hv
  ·exact plain hv
  ·rename_i hu;refine other ne .b ja (fun r hr=>?_) hv;obtain ⟨p,q,e1,e2,h1⟩:=pB hu r hr;refine ⟨h1,.inl (by rw [e1];simp),by rw [e1];simp,fun _=>?_⟩
   rw [e1,e2];exact ⟨fun e=>by subst e;rfl,fun e=>by subst e;rfl⟩
  ·rename_i e hu;refine other ne .sl ja (fun r hr=>?_) hv;obtain ⟨p,n,c,q,n',c',e1,e2,h1⟩:=pS e hu r hr;refine ⟨h1,.inl (by rw [e1];simp),by rw [e1];simp,fun _=>?_⟩
   rw [e1,e2];exact ⟨fun e=>by subst e;rfl,fun e=>by subst e;rfl⟩
  ·rename_i ps rs vr hu;refine other ne .fn ja (fun r hr=>?_) hv;obtain ⟨⟨e1,e2⟩,h1⟩:=pF ps rs vr hu r hr;refine ⟨h1,.inl ?_,?_,fun _=>?_⟩
   ·rcases e1 with e1 | ⟨_,_,_,e1⟩<;>rw [e1]<;>simp
   ·rcases e1 with e1 | ⟨_,_,_,e1⟩<;>rw [e1]<;>simp
   ·rcases e1 with e1 | ⟨_,_,_,e1⟩<;>rcases e2 with e2 | ⟨_,_,_,e2⟩<;>rw [e1,e2]<;>exact ⟨fun e=>by subst e;rfl,fun e=>by subst e;rfl⟩
  ·rename_i fs hu;exact agg (by simp [dQ,hu]) hv
  ·rename_i k0 e hu;exact agg (by simp [dQ,hu]) hv
  ·exact (dH hv).elim
 cases op
 case eql=>exact eqs false (.inl ⟨rfl,rfl⟩) (by simpa only [aW,ho] using hv)
 case neq=>exact eqs true (.inr ⟨rfl,rfl⟩) (by simpa only [aW,ho] using hv)
 all_goals exact plain (by simpa only [aW,ho] using hv)
end
end
end VE
