import GoSem.Core.Code
import GoSem.Core.Float
import GoSem.Core.Utf8
import Derived.CallsIn
import Derived.Laws.World
import GoSem.Op.Equal
import GoSem.Core.Region
import Derived.Below
import Derived.Laws.AppendOwn
import Derived.Laws.Rows
import Derived.WalkKit
import Derived.Laws.CopyRow
import Derived.Laws.Cells
import Derived.Laws.Strings
import Derived.Lib.Strings
set_option linter.all false
set_option maxRecDepth 100000
open BitVec renaming ofInt→xF
open Bool renaming eq_iff_iff→uK
open Go renaming BinOp→wU,Code→wI,FloatKind→vU,IntKind→yU,Oper→yY,Operand→xB,Program→y5,TypeId→yx,Value→ye,World→yh,binOp→xI,sizeOf→vX
open Go.Utf8 renaming runeError→vL,valid→yas
open List renaming map_cons→y9,replicate→yA,take_succ_cons→wm
open Nat renaming beq→yr,beq_eq→ybO,ble→yE,blt→yG,le_of_ble_eq_true→yt,le_trans→xi,testBit→ua
open Option.some renaming injEq→yc
open UInt8 renaming toNat→yW,toNat_inj→yat
def wF:=@and_true
def yaa:=@beq_iff_eq
def tx:=@beq_self_eq_true
def yB:=@cond_false
def ym:=@cond_true
def yM:=@decide_eq_false
def yV:=@decide_eq_true
def wN:=@decide_eq_true_eq
def yp:=@decide_false
def yq:=@decide_true
def ybu:=@false_or
def yR:=@if_false
def yz:=@if_neg
def yJ:=@if_pos
def y7:=@if_true
def tB:=@ne_eq
def td:=@not_false_eq_true
def wO:=@not_true_eq_false
def ybx:=@or_false
def uF:=@true_and
namespace VE
section
open Go (IntKind FloatKind BinOp UnOp)
inductive Fr where
 | f (n:Nat)
 | y (l:Nat)
 deriving DecidableEq,Inhabited
inductive AV where
 | int (k:yU) (n:Int)
 | bool (b:Bool)
 | dB (k:vU) (bits:Nat)
 | str (s:List Nat)
 | jT
 | ptr (id off:Nat)
 | aF (cells:List AV)
 | ab
 | aE (ex:Bool) (n:Nat) (cells:List AV)
 | cG (ex:Bool) (sz n:Nat) (cells:List AV)
 | ak (id off n:Nat)
 | fn (f:Fr) (first cap:List AV)
 | hO
 | jz
 | map (id:Nat)
 | jf (ks vs:List AV)
 | it (id:Nat)
 | agg (cells:List AV)
 | aq (vs:List AV)
 | undef
 deriving Inhabited
inductive X where
 | t (i:Nat)
 | c (v:AV)
 deriving Inhabited
inductive Conv where
 | toInt (k:yU)
 | toFlt (k:vU)
 | str
 deriving Inhabited
inductive Md where
 | pure | own | heap | dyn
 deriving Inhabited
inductive Cut where
 | str
 | sl (sz:Nat)
 | ar (len sz:Nat)
 deriving Inhabited
inductive N7 where
 | b | sl | fn | ag (ks:List Nat)
 deriving Inhabited
inductive Op where
 | cg (x:X)
 | pick (c a b:X)
 | box (sz:Nat) (x:X)
 | dj (zero:List AV) (parts:List (Nat×Nat×X))
 | bV (n sz:Nat) (zero:List AV) (parts:List (Nat×Nat×X))
 | ld (sz:Nat) (ag:Bool) (x:X)
 | st (sz:Nat) (x v:X)
 | IK (x:X)
 | bin (op:wU) (x y:X)
 | eq (ne:Bool) (k:N7) (x y:X)
 | un (op:UnOp) (x:X)
 | cv (k:Conv) (x:X)
 | oW (f:Fr) (first cap:List X)
 | zS
 | gP (sz bytes:Nat) (zero:List AV) (len cap:X)
 | ef (k:Cut) (x:X) (lo hi:Option X)
 | off (k:Nat) (x:X)
 | Jy (o sz:Nat) (ag:Bool) (x:X)
 | bj (sz:Nat) (x i:X)
 | Bw (len sz:Nat) (x i:X)
 | kU (x i:X)
 | zT (len sz:Nat) (ag:Bool) (x i:X)
 | N8 (kk:Nat) (zero:AV) (ok:Bool) (m k:X)
 | oX (kk:Nat) (m k v:X)
 | oY (x:X)
 | oZ (x:X)
 | ext (i:Nat) (x:X)
 | call (m:Md) (f:X) (xs:List X)
 | gY (rs:List (Nat×Bool×Nat)) (f:X) (xs:List X)
 | jE (rs:List (Nat×Bool×Nat)) (sz:Nat) (x v:X)
 | dH (sz bytes:Nat) (s x:X)
 | pc (sz:Nat) (d s:X)
 | len (k:Nat) (x:X)
 | mn (xs:List X)
 | mx (xs:List X)
 deriving Inhabited
structure bl where
 dst:Option Nat
 guard:Option (Nat×Bool)
 op:Op
 deriving Inhabited
inductive VC where
 | skip
 | aV (ops:List bl)
 | seq (a b:VC)
 | cond (x:X) (a b:VC)
 | aO (id:Nat) (a:VC)
 | kp (live:List Nat)
 | fz (ts:List Nat)
 | loop (live:List Nat) (a:VC)
 | rf (f:X) (ps:List Nat) (assign body:VC)
 | exit (id:Nat)
 | ret
 deriving Inhabited
inductive RV where
 | t (i:Nat)
 | cell (i sz:Nat) (ag:Bool)
 deriving Inhabited
structure aI where
 dn:List RV
 body:VC
 deriving Inhabited
inductive rq where
 | none | ret | exit (id:Nat)
 deriving Inhabited,DecidableEq
abbrev Env:=List (Nat×AV)
inductive Obj where
 | cells (rw pu ex:Bool) (sz:Nat) (cs:List AV)
 | mp (rw:Bool) (ks vs:List AV)
 | si (s:List Nat) (pos:Nat)
 | lp (tm:Env) (ps:List Nat) (assign body:VC) (state:Nat) (pending:rq)
 deriving Inhabited
abbrev Hp:=List (Nat×Obj)
structure St where
 tm:Env
 hp:Hp
 ct:Nat
 base:Nat
 deriving Inhabited
inductive Ex where
 | normal
 | ret
 | exit (id:Nat)
 deriving Inhabited,DecidableEq
def af:Env->Nat->AV
 | [],_=> .undef
 | (j,v)::r,i=>bif yr j i then v else af r i
def ap:Hp->Nat->Option Obj
 | [],_=>none
 | (j,o)::r,i=>bif yr j i then some o else ap r i
def aY:Hp->Nat->Obj->Hp
 | [],_,_=>[]
 | (j,o)::r,i,u=>bif yr j i then (j,u)::r else (j,o)::aY r i u
def dz:Hp->Nat->Hp
 | [],_=>[]
 | (j,o)::r,i=>bif yr j i then dz r i else (j,o)::dz r i
mutual
def aS:AV->Bool
 | .ptr _ _ | .ak _ _ _ | .map _ | .it _ | .cG _ _ _ _=>false
 | .fn (.y _) _ _=>false
 | .fn (.f _) first cap=>aJ first&&aJ cap
 | .agg cs=>aJ cs
 | .aq vs=>aJ vs
 | _=>true
def aJ:List AV->Bool
 | []=>true
 | v::r=>aS v&&aJ r
end
def cellsOf:AV->List AV
 | .agg cs=>cs
 | v=>[v]
def bA:AV->Bool
 | .agg _ | .aq _ | .undef | .cG _ _ _ _=>false
 | _=>true
def bQ:List AV->Bool
 | []=>true
 | v::r=>bA v&&bQ r
def az (tm:Env):X->AV
 | .t i=>af tm i
 | .c v=>v
def dD (tm:Env):List X->List AV
 | []=>[]
 | x::r=>az tm x::dD tm r
def slice (o n:Nat) (cs:List AV):List AV:=(cs.drop o).take n
def over (o:Nat) (new cs:List AV):List AV:=cs.take o++new++cs.drop (o+new.length)
mutual
def freeze:Nat->Hp->AV->Option (AV×Hp)
 | 0,_,_=>none
 | n+1,hp,v=>
  match v with
  | .ak id o k=>
   match qO n hp id with
   | some (ex,sz,cs,ao)=>
    bif yE (o+k*sz) cs.length then
     some (.aE (ex&&yG 0 sz&&yr (o+k*sz) cs.length) k (slice o (k*sz) cs),ao)
    else none
   | none=>none
  | .ptr id o=>
   match qO n hp id with
   | some (_,_,cs,ao)=>some (.aF (cs.drop o),ao)
   | none=>none
  | .map id=>
   match ap hp id with
   | some (.mp _ ks vs)=>bif aJ ks&&aJ vs then some (.jf ks vs,aY hp id (.mp false ks vs)) else none
   | _=>none
  | .fn (.f g) first cap=>
   match cN n hp first with
   | some (abn,bD)=>
    match cN n bD cap with
    | some (MS,ji)=>some (.fn (.f g) abn MS,ji)
    | none=>none
   | none=>none
  | .agg cs=>match cN n hp cs with | some (dK,ao)=>some (.agg dK,ao) | none=>none
  | .aq cs=>match cN n hp cs with | some (dK,ao)=>some (.aq dK,ao) | none=>none
  | v=>bif aS v then some (v,hp) else none
def qO:Nat->Hp->Nat->Option (Bool×Nat×List AV×Hp)
 | 0,_,_=>none
 | n+1,hp,id=>
  match ap hp id with
  | some (.cells rw pu ex sz cs)=>
   bif pu then some (ex,sz,cs,bif rw then aY hp id (.cells false true ex sz cs) else hp)
   else match cN n hp cs with
    | some (dK,ao)=>some (ex,sz,dK,aY ao id (.cells false false ex sz cs))
    | none=>none
  | _=>none
def cN:Nat->Hp->List AV->Option (List AV×Hp)
 | 0,_,_=>none
 | _+1,hp,[]=>some ([],hp)
 | n+1,hp,v::r=>
  match freeze n hp v with
  | some (v',bD)=>
   match cN n bD r with
   | some (r',ji)=>some (v'::r',ji)
   | none=>none
  | none=>none
end
def oC (n:Nat) (hp:Hp) (v:AV):Option (AV×Hp):=
 match v with
 | .ak id o k=>
  match ap hp id with
  | some (.cells true true ex sz cs)=>
   bif yE (o+k*sz) cs.length then
    some (.cG (ex&&yG 0 sz&&yr (o+k*sz) cs.length) sz k (slice o (k*sz) cs),dz hp id)
   else none
  | _=>freeze n hp v
 | _=>freeze n hp v
def AN:List AV->Option (List Nat)
 | []=>some []
 | .ak id _ _::r=>match AN r with | some l=>bif l.any (yr id) then none else some (id::l) | none=>none
 | v::r=>bif aS v then AN r else none
def qW (n:Nat):Hp->List AV->Option (List AV×Hp)
 | hp,[]=>some ([],hp)
 | hp,v::r=>
  match oC n hp v with
  | some (v',bD)=>match qW n bD r with | some (r',ji)=>some (v'::r',ji) | none=>none
  | none=>none
def deep:Nat:=1000
def result (hp:Hp) (v:AV):Option AV:=
 match v with
 | .aq vs=>
  match AN vs with
  | some _=>match qW deep hp vs with | some (eh,_)=>some (.aq eh) | none=>none
  | none=>match freeze deep hp v with | some (v',_)=>some v' | none=>none
 | v=>match oC deep hp v with | some (v',_)=>some v' | none=>none
def bO:AV->AV
 | .cG ex _ n cs=> .aE ex n cs
 | v=>v
def Cz:List AV->List AV
 | []=>[]
 | v::r=>bO v::Cz r
def shut:AV->AV
 | .cG ex _ n cs=> .aE ex n cs
 | .aq vs=> .aq (Cz vs)
 | v=>v
def fu (hp:Hp) (ct:Nat):AV->AV×Hp×Nat
 | .cG ex sz n cs=>(.ak ct 0 n,(ct,.cells true true ex sz cs)::hp,ct+1)
 | v=>(v,hp,ct)
def jA:Hp->Nat->List AV->List AV×Hp×Nat
 | hp,ct,[]=>([],hp,ct)
 | hp,ct,v::r=>((fu hp ct v).1::(jA (fu hp ct v).2.1 (fu hp ct v).2.2 r).1,(jA (fu hp ct v).2.1 (fu hp ct v).2.2 r).2)
def own (hp:Hp) (ct:Nat):AV->AV×Hp×Nat
 | .aq vs=>(.aq (jA hp ct vs).1,(jA hp ct vs).2)
 | v=>fu hp ct v
mutual
def refs:AV->List Nat
 | .ptr id _=>[id]
 | .ak id _ _=>[id]
 | .map id=>[id]
 | .it id=>[id]
 | .fn (.f _) first cap=>eI first++eI cap
 | .fn (.y l) _ _=>[l]
 | .agg cs=>eI cs
 | .aq cs=>eI cs
 | _=>[]
def eI:List AV->List Nat
 | []=>[]
 | v::r=>refs v++eI r
end
def fb:Env->List Nat
 | []=>[]
 | (_,v)::r=>refs v++fb r
def fc:Obj->List Nat
 | .cells _ pu _ _ cs=>bif pu then [] else eI cs
 | .mp _ ks vs=>eI ks++eI vs
 | .si _ _=>[]
 | .lp tm _ _ _ _ _=>fb tm
mutual
def cm (f:Nat->Option Nat):AV->AV
 | .ptr id o=>match f id with | some j=> .ptr j o | none=> .undef
 | .ak id o n=>match f id with | some j=> .ak j o n | none=> .undef
 | .map id=>match f id with | some j=> .map j | none=> .undef
 | .it id=>match f id with | some j=> .it j | none=> .undef
 | .fn (.f g) first cap=> .fn (.f g) (fG f first) (fG f cap)
 | .fn (.y l) first cap=>match f l with | some j=> .fn (.y j) (fG f first) (fG f cap) | none=> .undef
 | .agg cs=> .agg (fG f cs)
 | .aq cs=> .aq (fG f cs)
 | v=>v
def fG (f:Nat->Option Nat):List AV->List AV
 | []=>[]
 | v::r=>cm f v::fG f r
end
def kM (f:Nat->Option Nat):Env->Env
 | []=>[]
 | (i,v)::r=>(i,cm f v)::kM f r
def lC (f:Nat->Option Nat):Obj->Obj
 | .cells rw pu ex sz cs=> .cells rw pu ex sz (bif pu then cs else fG f cs)
 | .mp rw ks vs=> .mp rw (fG f ks) (fG f vs)
 | .si s pos=> .si s pos
 | .lp tm ps as_ body st pe=> .lp (kM f tm) ps as_ body st pe
def cX (tm:Env):List Nat->Env
 | []=>[]
 | i::r=>(i,af tm i)::cX tm r
def lD (i:Nat):List Nat->Bool
 | []=>false
 | j::r=>bif yr j i then true else lD i r
def reach (hp:Hp) (base:Nat):Nat->List Nat->List Nat->List Nat
 | 0,_,seen=>seen
 | _+1,[],seen=>seen
 | n+1,id::iJ,seen=>
  bif yG id base||lD id seen then reach hp base n iJ seen
  else match ap hp id with
   | some o=>reach hp base n (fc o++iJ) (seen++[id])
   | none=>reach hp base n iJ seen
def du (base:Nat):Hp->List Nat
 | []=>[]
 | (id,o)::r=>bif yG id base then fc o++du base r else du base r
def mo (i:Nat):List Nat->Nat->Option Nat
 | [],_=>none
 | j::r,k=>bif yr j i then some k else mo i r (k+1)
def kF (base:Nat) (seen:List Nat) (id:Nat):Option Nat:=bif yG id base then some id else mo id seen base
def mg (base:Nat) (f:Nat->Option Nat):Hp->Hp
 | []=>[]
 | (id,o)::r=>bif yG id base then (id,lC f o)::mg base f r else mg base f r
def kG (hp:Hp) (f:Nat->Option Nat):List Nat->Nat->Hp->Hp
 | [],_,acc=>acc
 | id::r,k,acc=>match ap hp id with | some o=>kG hp f r (k+1) ((k,lC f o)::acc) | none=>kG hp f r (k+1) acc
def bH (live:List Nat) (s:St):St:=
 let tm:=cX s.tm live
 let seen:=reach s.hp s.base 100000 (fb tm++du s.base s.hp) []
 let f:=kF s.base seen
 {tm:=kM f tm,hp:=kG s.hp f seen s.base (mg s.base f s.hp),ct:=s.base+seen.length,base:=s.base}
def pM (hp:Hp) (sz:Nat):AV->Option (Nat×List AV)
 | .ab=>some (0,[])
 | .aE _ n cs=>bif yr cs.length (n*sz) then some (n,cs) else none
 | .ak id o n=>
  match ap hp id with
  | some (.cells _ _ _ _ cs)=>bif yE (o+n*sz) cs.length then some (n,slice o (n*sz) cs) else none
  | _=>none
 | _=>none
def LF:List Nat->List AV
 | []=>[]
 | b::r=> .int .u8 b::LF r
def Bx:List Nat->List Nat->Bool
 | _,[]=>false
 | [],_::_=>true
 | a::x,b::y=>yG a b||(yr a b&&Bx x y)
def cI:List Nat->List Nat->Bool
 | [],[]=>true
 | a::x,b::y=>yr a b&&cI x y
 | _,_=>false
def dN:List Nat->List AV->List AV->Option Bool
 | [],[],[]=>some true
 | 0::ks,.bool a::x,.bool b::y=>match dN ks x y with | some r=>some ((a==b)&&r) | none=>none
 | 1::ks,.int k a::x,.int k' b::y=>if k=k' then (match dN ks x y with | some r=>some ((a==b)&&r) | none=>none) else none
 | 2::ks,.str a::x,.str b::y=>match dN ks x y with | some r=>some (cI a b&&r) | none=>none
 | _,_,_=>none
def im:N7->AV->AV->Option Bool
 | .b,.bool a,.bool b=>some (a==b)
 | .sl,.ab,.ab=>some true
 | .sl,.ab,.aE _ _ _=>some false
 | .sl,.ab,.ak _ _ _=>some false
 | .sl,.aE _ _ _,.ab=>some false
 | .sl,.ak _ _ _,.ab=>some false
 | .fn,.hO,.hO=>some true
 | .fn,.hO,.fn _ _ _=>some false
 | .fn,.fn _ _ _,.hO=>some false
 | .ag ks,.agg a,.agg b=>dN ks a b
 | _,_,_=>none
def intCmp (op:wU) (x y:Int):Option Bool:=
 match op with
 | .eql=>some (x==y)
 | .neq=>some (x !=y)
 | .lss=>some (decide (x<y))
 | .leq=>some (decide (x<=y))
 | .gtr=>some (decide (x>y))
 | .geq=>some (decide (x>=y))
 | _=>none
def lz (op:wU) (k:yU) (x y:Int):Option AV:=
 match op with
 | .add=>some (.int k (k.wrap (x+y)))
 | .sub=>some (.int k (k.wrap (x-y)))
 | .mul=>some (.int k (k.wrap (x*y)))
 | .quo=>if y=0 then none else some (.int k (k.wrap (x.tdiv y)))
 | .rem=>if y=0 then none else some (.int k (x.tmod y))
 | .and=>some (.int k (k.wrap (xF k.bits x&&&xF k.bits y).toNat))
 | .or=>some (.int k (k.wrap (xF k.bits x|||xF k.bits y).toNat))
 | .xor=>some (.int k (k.wrap (xF k.bits x^^^xF k.bits y).toNat))
 | .andNot=>some (.int k (k.wrap (xF k.bits x&&&~~~(xF k.bits y)).toNat))
 | .shl | .shr=>none
 | op=>match intCmp op x y with | some b=>some (.bool b) | none=>none
def Cf (op:wU) (k:yU) (x y:Int):Option AV:=
 if y<0 then none else
 match op with
 | .shl=>some (.int k (k.wrap (x*2^(min y.toNat k.bits))))
 | .shr=>some (.int k (x.fdiv (2^(min y.toNat k.bits))))
 | _=>none
def Iq (op:wU) (x y:List Nat):Option AV:=
 match op with
 | .add=>bif yE (x.length+y.length) 9223372036854775807 then some (.str (x++y)) else none
 | .eql=>some (.bool (cI x y))
 | .neq=>some (.bool (!cI x y))
 | .lss=>some (.bool (Bx x y))
 | .leq=>some (.bool (Bx x y||cI x y))
 | .gtr=>some (.bool (!(Bx x y||cI x y)))
 | .geq=>some (.bool (!Bx x y))
 | _=>none
def R2 (op:wU) (k:vU) (x y:Nat):Option AV:=
 let c:=k.format.order x y
 let ar (r:Option Nat):Option AV:=match r with | some b=>some (.dB k b) | none=>none
 match op with
 | .add=>ar (k.format.add x y)
 | .sub=>ar (k.format.sub x y)
 | .mul=>ar (k.format.mul x y)
 | .quo=>ar (k.format.div x y)
 | .eql=>some (.bool (c==some .eq))
 | .neq=>some (.bool (c !=some .eq))
 | .lss=>some (.bool (c==some .lt))
 | .leq=>some (.bool (c==some .lt||c==some .eq))
 | .gtr=>some (.bool (c==some .gt))
 | .geq=>some (.bool (c==some .gt||c==some .eq))
 | _=>none
def binOp (op:wU) (x y:AV):Option AV:=
 match x,y with
 | .int k a,.int k' b=>
  match op with
  | .shl | .shr=>Cf op k a b
  | _=>if k=k' then lz op k a b else none
 | .dB k a,.dB k' b=>if k=k' then R2 op k a b else none
 | .str a,.str b=>Iq op a b
 | _,_=>none
def unOp (op:UnOp) (x:AV):Option AV:=
 match op,x with
 | .neg,.int k n=>some (.int k (k.wrap (0-n)))
 | .xor,.int k n=>lz .xor k (if k.signed then -1 else k.max) n
 | .not,.bool b=>some (.bool !b)
 | .neg,.dB k b=>some (.dB k (b^^^2^(k.format.exponentBits+k.format.fractionBits)))
 | _,_=>none
def mY (c:Conv) (x:AV):Option AV:=
 match c,x with
 | .toInt k,.int _ n=>some (.int k (k.wrap n))
 | .toFlt k,.int _ n=>some (.dB k (k.nearest n))
 | .toInt k,.dB s b=>
  match (s.decode b).toInt .zero with
  | some n=>if k.min<=n/\n<=k.max then some (.int k n) else none
  | none=>none
 | .toFlt k,.dB s b=>
  if s=k then some (.dB k b) else
  match s.decode b with
  | .number sg m e=>if (k.decode (k.encode (.number sg m e))).isInfinity then none else some (.dB k (k.encode (.number sg m e)))
  | _=>none
 | .str,.str s=>some (.str s)
 | _,_=>none
def eX (sz:Nat) (ag:Bool) (cs:List AV):Option AV:=
 bif ag then (bif yE sz cs.length then some (.agg (cs.take sz)) else none)
 else match cs with | v::_=>some v | []=>none
def dV (x:AV):Option Nat:=
 match x with
 | .int _ n=>match n with | .ofNat k=>some k | .negSucc _=>none
 | _=>none
def cV (tm:Env) (d:Nat):Option X->Option Nat
 | none=>some d
 | some x=>dV (az tm x)
def fA (hp:Hp) (k:Cut) (x:AV) (tm:Env) (lo hi:Option X):Option AV:=
 match k,x with
 | .str,.str s=>
  match cV tm 0 lo,cV tm s.length hi with
  | some l,some h=>bif yE l h&&yE h s.length then some (.str ((s.take h).drop l)) else none
  | _,_=>none
 | .sl _,.ab=>
  match cV tm 0 lo,cV tm 0 hi with
  | some 0,some 0=>some .ab
  | _,_=>none
 | .sl sz,.aE ex n cs=>
  match cV tm 0 lo,cV tm n hi with
  | some l,some h=>bif yE l h&&yE h n then some (.aE (ex&&yr h n) (h-l) (slice (l*sz) ((h-l)*sz) cs)) else none
  | _,_=>none
 | .sl sz,.ak id o n=>
  match ap hp id with
  | some (.cells _ _ _ z _)=>
   match cV tm 0 lo,cV tm n hi with
   | some l,some h=>
    bif yE l h&&yE h n&&yr z sz then
     bif yr l h&& !yr l 0 then some (.aE false 0 []) else some (.ak id (o+l*sz) (h-l))
    else none
   | _,_=>none
  | _=>none
 | _,_=>none
def fill (tm:Env):List AV->List (Nat×Nat×X)->Option (List AV)
 | cs,[]=>some cs
 | cs,(o,sz,x)::r=>
  let new:=cellsOf (az tm x)
  bif yr new.length sz&&yE (o+sz) cs.length&&bQ new then fill tm (over o new cs) r else none
def Er:AV->AV->Option Bool
 | .int k a,.int k' b=>if k=k' then some (a==b) else none
 | .str a,.str b=>some (cI a b)
 | .bool a,.bool b=>some (a==b)
 | _,_=>none
def sL:Nat->AV->Bool
 | 0,.bool _=>true
 | 1,.int _ _=>true
 | 2,.str _=>true
 | _,_=>false
def CA (k:AV):List AV->List AV->Option (Option AV)
 | [],_=>some none
 | k'::ks,v::vs=>match Er k k' with | some true=>some (some v) | some false=>CA k ks vs | none=>none
 | _::_,[]=>none
def Ba (k v:AV):List AV->List AV->Option (List AV×List AV)
 | [],[]=>some ([k],[v])
 | k'::ks,u::us=>
  match Er k k' with
  | some true=>some (k'::ks,v::us)
  | some false=>match Ba k v ks us with | some (jY,Uh)=>some (k'::jY,u::Uh) | none=>none
  | none=>none
 | _,_=>none
def min2:AV->AV->Option AV
 | .int k x,.int _ y=>some (.int k (if y<x then y else x))
 | .dB k x,.dB _ y=>
  match k.format.order x y with
  | none=>none
  | some .lt=>some (.dB k x)
  | some .gt=>some (.dB k y)
  | some .eq=>some (.dB k (if (k.decode x).neg then x else y))
 | _,_=>none
def max2:AV->AV->Option AV
 | .int k x,.int _ y=>some (.int k (if y>x then y else x))
 | .dB k x,.dB _ y=>
  match k.format.order x y with
  | none=>none
  | some .lt=>some (.dB k y)
  | some .gt=>some (.dB k x)
  | some .eq=>some (.dB k (if (k.decode x).neg then y else x))
 | _,_=>none
def AX (f:AV->AV->Option AV):AV->List AV->Option AV
 | a,[]=>some a
 | a,b::r=>match f a b with | some c=>AX f c r | none=>none
def room:Nat:=1099511627776
abbrev fQ:=Option (AV×Hp×Nat)
def iK (hp:Hp) (sz:Nat) (ag:Bool):AV->Option AV
 | .ptr id o=>match ap hp id with | some (.cells _ _ _ _ cs)=>eX sz ag (cs.drop o) | _=>none
 | .aF cs=>eX sz ag cs
 | _=>none
def Es (k:Nat):AV->Option AV
 | .ptr id o=>some (.ptr id (o+k))
 | .aF cs=>bif yE k cs.length then some (.aF (cs.drop k)) else none
 | _=>none
def Mo (o sz:Nat) (ag:Bool):AV->Option AV
 | .agg cs=>eX sz ag (cs.drop o)
 | _=>none
def gZ (sz i:Nat):AV->Option AV
 | .ak id o n=>bif yG i n then some (.ptr id (o+i*sz)) else none
 | .aE _ n cs=>bif yG i n then some (.aF (cs.drop (i*sz))) else none
 | _=>none
def Et (len sz i:Nat):AV->Option AV
 | .ptr id o=>bif yG i len then some (.ptr id (o+i*sz)) else none
 | .aF cs=>bif yG i len then some (.aF (cs.drop (i*sz))) else none
 | _=>none
def mR (i:Nat):AV->Option AV
 | .str s=>match s[i]? with | some b=>some (.int .u8 b) | none=>none
 | _=>none
def Ir (len sz:Nat) (ag:Bool) (i:Nat):AV->Option AV
 | .agg cs=>bif yG i len then eX sz ag (cs.drop (i*sz)) else none
 | _=>none
def AY (hp:Hp) (k:AV):AV->Option (Option AV)
 | .jz=>some none
 | .map id=>match ap hp id with | some (.mp _ ks vs)=>CA k ks vs | _=>none
 | .jf ks vs=>CA k ks vs
 | _=>none
def gK (hp:Hp):Nat->AV->Option AV
 | 0,.str s=>some (.int .i64 s.length)
 | 1,.ab=>some (.int .i64 0)
 | 1,.aE _ n _=>some (.int .i64 n)
 | 1,.ak _ _ n=>some (.int .i64 n)
 | 2,.jz=>some (.int .i64 0)
 | 2,.jf ks _=>some (.int .i64 ks.length)
 | 2,.map id=>match ap hp id with | some (.mp _ ks _)=>some (.int .i64 ks.length) | _=>none
 | _,_=>none
def bC (tm:Env) (hp:Hp):Op->Option AV
 | .cg x=>some (az tm x)
 | .pick c a b=>match az tm c with | .bool t=>some (bif t then az tm a else az tm b) | _=>none
 | .dj zero parts=>match fill tm zero parts with | some cs=>some (.agg cs) | none=>none
 | .ld sz ag x=>iK hp sz ag (az tm x)
 | .IK x=>
  match az tm x with
  | .ptr id o=>some (.ptr id o)
  | .aF cs=>some (.aF cs)
  | .fn f a b=>some (.fn f a b)
  | _=>none
 | .bin op x y=>binOp op (az tm x) (az tm y)
 | .eq ne k x y=>match im k (az tm x) (az tm y) with | some r=>some (.bool (ne !=r)) | none=>none
 | .un op x=>unOp op (az tm x)
 | .cv k x=>mY k (az tm x)
 | .oW f first cap=>some (.fn f (dD tm first) (dD tm cap))
 | .ef k x lo hi=>fA hp k (az tm x) tm lo hi
 | .off k x=>Es k (az tm x)
 | .Jy o sz ag x=>Mo o sz ag (az tm x)
 | .bj sz x i=>match dV (az tm i) with | some j=>gZ sz j (az tm x) | none=>none
 | .Bw len sz x i=>match dV (az tm i) with | some j=>Et len sz j (az tm x) | none=>none
 | .kU x i=>match dV (az tm i) with | some j=>mR j (az tm x) | none=>none
 | .zT len sz ag x i=>match dV (az tm i) with | some j=>Ir len sz ag j (az tm x) | none=>none
 | .N8 kk zero ok m k=>
  bif sL kk (az tm k) then
   match AY hp (az tm k) (az tm m) with
   | some (some v)=>some (bif ok then .aq [v,.bool true] else v)
   | some none=>some (bif ok then .aq [zero,.bool false] else zero)
   | none=>none
  else none
 | .ext i x=>match az tm x with | .aq vs=>vs[i]? | _=>none
 | .len k x=>gK hp k (az tm x)
 | .mn xs=>match dD tm xs with | a::r=>AX min2 a r | []=>none
 | .mx xs=>match dD tm xs with | a::r=>AX max2 a r | []=>none
 | _=>none
def cU (tm:Env) (hp:Hp) (ct:Nat):Op->Option (AV×Obj)
 | .box sz x=>
  let cs:=cellsOf (az tm x)
  bif yr cs.length sz&&bQ cs then some (.ptr ct 0,.cells true (aJ cs) true sz cs) else none
 | .bV n sz zero parts=>
  match fill tm zero parts with
  | some cs=>bif yr cs.length (n*sz) then some (.ak ct 0 n,.cells true (aJ cs) true sz cs) else none
  | none=>none
 | .gP sz bytes zero len cap=>
  match dV (az tm len),dV (az tm cap) with
  | some l,some c=>
   bif yE l c&&(yE c room&&(yE (c*bytes) room&&(yr zero.length sz&&bQ zero))) then
    some (.ak ct 0 l,.cells true (aJ zero) (yr l c) sz (yA l zero).flatten)
   else none
  | _,_=>none
 | .zS=>some (.map ct,.mp true [] [])
 | .oY x=>match az tm x with | .str s=>some (.it ct,.si s 0) | _=>none
 | _=>none
def decodeL (s:List Nat) (i:Nat):Nat×Nat:=
 let at' (k:Nat):Nat:=s.getD (i+k) 0
 let cont (k:Nat):Bool:=decide (i+k<s.length)&&at' k/64==2
 let b0:=at' 0
 if b0<0x80 then (b0,1)
 else if b0/32==6&&cont 1 then
  let c:=(b0%32)*64+at' 1%64
  if c>=0x80 then (c,2) else (vL,1)
 else if b0/16==14&&cont 1&&cont 2 then
  let c:=(b0%16)*4096+(at' 1%64)*64+at' 2%64
  if c>=0x800&&yas c then (c,3) else (vL,1)
 else if b0/8==30&&cont 1&&cont 2&&cont 3 then
  let c:=(b0%8)*262144+(at' 1%64)*4096+(at' 2%64)*64+at' 3%64
  if c>=0x10000&&yas c then (c,4) else (vL,1)
 else (vL,1)
def sS (hp:Hp) (sz:Nat):AV->Option (Nat×List AV)
 | .str b=>bif yr sz 1 then some (b.length,LF b) else none
 | v=>pM hp sz v
def dc (tm:Env) (hp:Hp) (ct:Nat):Op->fQ
 | .st sz x v=>
  let new:=cellsOf (az tm v)
  match az tm x with
  | .ptr id o=>
   match ap hp id with
   | some (.cells true pu ex z cs)=>
    bif yr new.length sz&&yE (o+sz) cs.length&&bQ new then
     some (.aq [],aY hp id (.cells true (pu&&aJ new) ex z (over o new cs)),ct)
    else none
   | _=>none
  | _=>none
 | .oX kk m k v=>
  match az tm m with
  | .map id=>
   match ap hp id with
   | some (.mp true ks vs)=>bif !sL kk (az tm k) then none else match Ba (az tm k) (az tm v) ks vs with | some (jY,eh)=>some (.aq [],aY hp id (.mp true jY eh),ct) | none=>none
   | _=>none
  | _=>none
 | .oZ x=>
  match az tm x with
  | .it id=>
   match ap hp id with
   | some (.si s pos)=>
    bif yG pos s.length then
     match decodeL s pos with
     | (c,wd)=>some (.aq [.bool true,.int .i64 pos,.int .i32 c],aY hp id (.si s (pos+wd)),ct)
    else some (.aq [.bool false],hp,ct)
   | _=>none
  | _=>none
 | .dH sz bytes s x=>
  match sS hp sz (az tm x) with
  | none=>none
  | some (m,new)=>
   match az tm s with
   | .ab=>
    bif yr m 0 then some (.ab,hp,ct)
    else bif yE m room&&(yE (m*bytes) room&&yG 0 sz) then some (.ak ct 0 m,(ct,.cells true (aJ new) false sz new)::hp,ct+1) else none
   | .aE true n cs=>
    bif yr m 0 then some (.aE true n cs,hp,ct)
    else bif yE (n+m) room&&(yE ((n+m)*bytes) room&&(yr cs.length (n*sz)&&yG 0 sz)) then some (.ak ct 0 (n+m),(ct,.cells true (aJ cs&&aJ new) false sz (cs++new))::hp,ct+1) else none
   | .ak id o n=>
    match ap hp id with
    | some (.cells true pu _ z cs)=>
     bif yr z sz&&(yE (n+m) room&&(yE ((n+m)*bytes) room&&(yE (o+n*sz) cs.length&&(yG 0 sz&&bQ new)))) then
      some (.ak ct 0 (n+m),(ct,.cells true (pu&&aJ new) false sz (slice o (n*sz) cs++new))::dz hp id,ct+1)
     else none
    | _=>none
   | _=>none
 | .pc sz d s=>
  match pM hp sz (az tm s),az tm d with
  | some (m,new),.ak id o n=>
   match ap hp id with
   | some (.cells true pu ex z cs)=>
    bif yr z sz&&(yE (o+n*sz) cs.length&&bQ new) then
     some (.int .i64 (min m n:Nat),aY hp id (.cells true (pu&&aJ new) ex z (over o (new.take (min m n*sz)) cs)),ct)
    else none
   | _=>none
  | _,_=>none
 | _=>none
def ju:X->List Nat | .t i=>[i] | .c _=>[]
def sT:List X->List Nat
 | []=>[]
 | x::r=>ju x++sT r
def Is:Option X->List Nat | some x=>ju x | none=>[]
def It:List (Nat×Nat×X)->List Nat
 | []=>[]
 | (_,_,x)::r=>ju x++It r
def kE:Op->List Nat
 | .cg x | .box _ x | .ld _ _ x | .IK x | .un _ x | .cv _ x | .off _ x | .Jy _ _ _ x | .oY x | .oZ x | .ext _ x | .len _ x=>ju x
 | .pick a b c | .oX _ a b c=>ju a++(ju b++ju c)
 | .dj _ ps | .bV _ _ _ ps=>It ps
 | .st _ a b | .bin _ a b | .eq _ _ a b | .bj _ a b | .Bw _ _ a b | .kU a b | .zT _ _ _ a b | .N8 _ _ _ a b | .dH _ _ a b | .pc _ a b=>ju a++ju b
 | .oW _ a b=>sT a++sT b
 | .zS=>[]
 | .gP _ _ _ a b=>ju a++ju b
 | .ef _ x a b=>ju x++(Is a++Is b)
 | .call _ f xs=>ju f++sT xs
 | .gY _ f xs=>ju f++sT xs
 | .jE _ _ a b=>ju a++ju b
 | .mn xs | .mx xs=>sT xs
def bG:Op->Nat
 | .cg _ | .pick _ _ _ | .dj _ _ | .IK _ | .bin _ _ _ | .eq _ _ _ _ | .un _ _ | .cv _ _ | .oW _ _ _ | .off _ _ | .Jy _ _ _ _ | .bj _ _ _ | .Bw _ _ _ _ | .kU _ _ | .zT _ _ _ _ _ | .ext _ _ | .mn _ | .mx _=>0
 | .ef .str _ _ _ | .len 0 _ | .len 1 _=>0
 | .st _ _ _ | .oX _ _ _ _ | .oZ _ | .dH _ _ _ _ | .pc _ _ _ | .gY _ _ _ | .jE _ _ _ _ | .call .heap _ _ | .call .dyn _ _=>2
 | _=>1
def R3:Option (Nat×Bool)->List Nat | some (t,_)=>[t] | none=>[]
def Cl (o:bl):List Nat:=R3 o.guard++kE o.op
def EF (d:Option Nat) (l:List Nat):Bool:=match d with | some i=>lD i l | none=>false
def adf (d e:Option Nat):Bool:=match d,e with | some i,some j=>yr i j | _,_=>false
def Lg (a b:bl):Bool:=EF a.dst (Cl b)||EF b.dst (Cl a)||adf a.dst b.dst
def EG (sz:Nat) (ag:Bool) (t:Nat):List (Nat×Bool×Nat)->Bool
 | []=>false
 | (s,g,u)::r=>(yr s sz&&(g==ag&&yr u t))||EG sz ag t r
def Eu (t:Nat):List bl->Bool
 | []=>true
 | o::r=> !EF o.dst [t]&&Eu t r
def HC (a b:bl) (r:List bl):Bool:=
 match a.guard,a.op,b.op with
 | none,.ld sz ag (.t t),.gY rs _ _=>EG sz ag t rs&&Eu t (a::r)
 | none,.ld sz ag (.t t),.jE rs _ _ _=>EG sz ag t rs&&Eu t (a::r)
 | _,_,_=>false
def Hd (a b:bl):Bool:=
 match bG a.op,bG b.op with
 | 1,2 | 2,1 | 2,2=>true
 | _,_=>false
def Lh (m:Nat) (b:bl):List bl->Nat->Bool
 | [],_=>true
 | a::r,i=>(ua m i|| !(Lg a b||(Hd a b&& !HC a b r)))&&Lh m b r (i+1)
def DW (done:List bl):List bl->List Nat->Bool
 | [],_=>true
 | b::r,m::ms=>Lh m b done 0&&DW (done++[b]) r ms
 | _::_,[]=>false
def LH (m:Nat):List bl->Nat->List (Nat×Bool×Nat)
 | [],_=>[]
 | a::r,i=>
  match ua m i,a with
  | false,⟨_,none,.ld sz ag (.t t)⟩=>(sz,ag,t)::LH m r (i+1)
  | _,_=>LH m r (i+1)
def stOp (rs:List (Nat×Bool×Nat)) (sz:Nat) (x v:X):Op:=match rs with | []=> .st sz x v | rs=> .jE rs sz x v
def zd (done:List bl):List bl->List Nat->List bl
 | ⟨d,g,.gY _ f xs⟩::r,m::ms=>let o:bl:=⟨d,g,.gY (LH m done 0) f xs⟩;o::zd (done++[o]) r ms
 | ⟨d,g,.st sz x v⟩::r,m::ms=>let o:bl:=⟨d,g,stOp (LH m done 0) sz x v⟩;o::zd (done++[o]) r ms
 | o::r,_::ms=>o::zd (done++[o]) r ms
 | l,_=>l
abbrev aK:=Nat->Option aI
structure Lib where
 pure:Nat->Option (List AV->Option AV)
 heap:Nat->Option (Hp->Nat->List AV->fQ)
abbrev cJ:=VC->St->Option (Ex×St)
def fp:Nat->List AV->Env
 | _,[]=>[]
 | i,v::r=>(i,v)::fp (i+1) r
def results1 (s:St):RV->Option AV
 | .t i=>some (af s.tm i)
 | .cell i sz ag=>
  match af s.tm i with
  | .ptr id o=>match ap s.hp id with | some (.cells _ _ _ _ cs)=>eX sz ag (cs.drop o) | _=>none
  | .aF cs=>eX sz ag cs
  | _=>none
def lj (s:St):List RV->Option (List AV)
 | []=>some []
 | r::rest=>match results1 s r,lj s rest with | some v,some vs=>some (v::vs) | _,_=>none
def gh (s:St) (rs:List RV):Option AV:=
 match lj s rs with
 | some [v]=>some v
 | some vs=>some (.aq vs)
 | none=>none
def bR (P:aK) (L:Lib) (self:cJ) (n:Nat) (vals:List AV):Option AV:=
 match L.pure n with
 | some sp=>sp vals
 | none=>
  match P n with
  | none=>none
  | some F=>
   match self F.body ⟨fp 0 vals,[],0,0⟩ with
   | some (.normal,s) | some (.ret,s)=>match gh s F.dn with | some v=>result s.hp v | none=>none
   | _=>none
def Rv:Ex->rq
 | .normal=> .none
 | .ret=> .ret
 | .exit id=> .exit id
def pP:Env->List Nat->List AV->Option Env
 | tm,[],[]=>some tm
 | tm,p::ps,v::vs=>pP ((p,v)::tm) ps vs
 | _,_,_=>none
def ik (P:aK) (L:Lib) (self:cJ) (hp:Hp) (ct:Nat) (n:Nat) (vals:List AV):fQ:=
 match L.heap n with
 | some sp=>sp hp ct vals
 | none=>
  match P n with
  | none=>none
  | some F=>
   match self F.body ⟨fp 0 vals,hp,ct,ct⟩ with
   | some (.normal,s) | some (.ret,s)=>match gh s F.dn with | some v=>some (v,s.hp,s.ct) | none=>none
   | _=>none
def iT (self:cJ) (hp:Hp) (ct:Nat) (l:Nat) (xs:List AV):fQ:=
 match ap hp l with
 | some (.lp tm ps as_ body 0 _)=>
  match pP tm ps xs with
  | none=>none
  | some tm'=>
   match self as_ ⟨tm',hp,ct,ct⟩ with
   | some (.normal,s1)=>
    match ap s1.hp l with
    | some (.lp iw rO C6 CB 0 pf)=>
     match self body ⟨s1.tm,aY s1.hp l (.lp iw rO C6 CB 1 pf),s1.ct,s1.ct⟩ with
     | some (ex,s2)=>
      match ap s2.hp l with
      | some (.lp nQ By Jz Iu 1 _)=>
       match ex with
       | .normal=>some (.bool true,aY s2.hp l (.lp nQ By Jz Iu 0 .none),s2.ct)
       | ex=>some (.bool false,aY s2.hp l (.lp nQ By Jz Iu 2 (Rv ex)),s2.ct)
      | _=>none
     | none=>none
    | _=>none
   | _=>none
 | _=>none
def dC (P:aK) (L:Lib) (self:cJ) (hp:Hp) (ct:Nat) (m:Md) (fv:AV) (xs:List AV):fQ:=
 match fv with
 | .fn (.f n) first cap=>
  match m with
  | .pure=>
   match cN deep hp (first++(xs++cap)) with
   | some (vals,bD)=>match bR P L self n vals with | some r=>some (shut r,bD,ct) | none=>none
   | none=>none
  | .own=>
   match cN deep hp (first++(xs++cap)) with
   | some (vals,bD)=>match bR P L self n vals with | some r=>some (own bD ct r) | none=>none
   | none=>none
  | .heap=>ik P L self hp ct n (first++(xs++cap))
  | .dyn=>
   bif aJ (first++(xs++cap)) then
    match bR P L self n (first++(xs++cap)) with | some r=>some (shut r,hp,ct) | none=>none
   else ik P L self hp ct n (first++(xs++cap))
 | .fn (.y l) _ _=>
  match m with
  | .heap | .dyn=>iT self hp ct l xs
  | _=>none
 | _=>none
def MT:AV->AV->Bool
 | .int k a,.int k' b=>decide (k=k')&&a==b
 | .bool a,.bool b=>a==b
 | .str a,.str b=>cI a b
 | .ab,.ab=>true
 | .jT,.jT=>true
 | .ptr i o,.ptr j p=>yr i j&&yr o p
 | .ak i o n,.ak j p m=>yr i j&&(yr o p&&yr n m)
 | .map i,.map j=>yr i j
 | _,_=>false
def pN (tm:Env) (hp ao:Hp):List (Nat×Bool×Nat)->Bool
 | []=>true
 | (sz,ag,x)::r=>
  match iK hp sz ag (af tm x),iK ao sz ag (af tm x) with
  | some a,some b=>MT a b&&pN tm hp ao r
  | _,_=>false
def oD (tm:Env) (id:Nat):List (Nat×Bool×Nat)->Bool
 | []=>true
 | (_,_,x)::r=>(match af tm x with | .ptr j _=> !yr j id | .aF _=>true | _=>false)&&oD tm id r
def bt (P:aK) (L:Lib) (self:cJ) (tm:Env) (hp:Hp) (ct:Nat) (o:Op):fQ:=
 match o with
 | .call m f xs=>dC P L self hp ct m (az tm f) (dD tm xs)
 | .gY rs f xs=>
  match dC P L self hp ct .dyn (az tm f) (dD tm xs) with
  | some (v,ao,bh)=>bif pN tm hp ao rs then some (v,ao,bh) else none
  | none=>none
 | .jE rs sz x v=>
  match az tm x with
  | .ptr id _=>bif oD tm id rs then dc tm hp ct (.st sz x v) else none
  | _=>none
 | .st .. | .oX .. | .oZ .. | .dH .. | .pc .. =>dc tm hp ct o
 | .box .. | .bV .. | .gP .. | .zS | .oY .. =>match cU tm hp ct o with | some (v,b)=>some (v,(ct,b)::hp,ct+1) | none=>none
 | o=>match bC tm hp o with | some v=>some (v,hp,ct) | none=>none
def put (d:Option Nat) (v:AV) (tm:Env):Env:=
 match d with
 | some i=>(i,v)::tm
 | none=>tm
def dP (P:aK) (L:Lib) (self:cJ):List bl->St->Option St
 | [],s=>some s
 | ⟨d,g,o⟩::r,s=>
  let want:=match g with | none=>some true | some (t,b)=>match af s.tm t with | .bool c=>some (c==b) | .aq []=>some false | _=>none
  match want with
  | some true=>
   match bt P L self s.tm s.hp s.ct o with
   | some (v,hp,ct)=>dP P L self r {s with tm:=put d v s.tm,hp:=hp,ct:=ct}
   | none=>none
  | some false=>dP P L self r {s with tm:=put d (.aq []) s.tm}
  | none=>none
def oH:List Nat->St->Option St
 | [],s=>some s
 | t::r,s=>
  match freeze deep s.hp (af s.tm t) with
  | some (v,hp)=>oH r {s with tm:=(t,v)::s.tm,hp:=hp}
  | none=>none
def bI (P:aK) (L:Lib) (self:cJ):VC->St->Option (Ex×St)
 | .skip,s=>some (.normal,s)
 | .aV ops,s=>match dP P L self ops s with | some s'=>some (.normal,s') | none=>none
 | .seq a b,s=>
  match bI P L self a s with
  | some (.normal,s1)=>bI P L self b s1
  | r=>r
 | .cond x a b,s=>
  match az s.tm x with
  | .bool t=>bif t then bI P L self a s else bI P L self b s
  | _=>none
 | .aO id a,s=>
  match bI P L self a s with
  | some (.exit j,s1)=>bif yr j id then some (.normal,s1) else some (.exit j,s1)
  | r=>r
 | .kp live,s=>some (.normal,bH live s)
 | .fz ts,s=>match oH ts s with | some s'=>some (.normal,s') | none=>none
 | .loop live a,s=>
  match bI P L self a (bH live s) with
  | some (.normal,s1)=>self (.loop live a) s1
  | r=>r
 | .rf f ps as_ body,s=>
  match az s.tm f with
  | .fn (.f n) first cap=>
   match L.heap n with
   | some _=>none
   | none=>
    match ik P L self ((s.ct,.lp s.tm ps as_ body 0 .none)::s.hp) (s.ct+1) n (first++(.fn (.y s.ct) [] []::cap)) with
    | some (_,hp,ct)=>
     match ap hp s.ct with
     | some (.lp _ _ _ _ st pe)=>
      bif yr st 1 then none else
      match pe with
      | .none=>some (.normal,{s with hp:=dz hp s.ct,ct:=ct})
      | .ret=>some (.ret,{s with hp:=dz hp s.ct,ct:=ct})
      | .exit id=>some (.exit id,{s with hp:=dz hp s.ct,ct:=ct})
     | _=>none
    | none=>none
  | _=>none
 | .exit id,s=>some (.exit id,s)
 | .ret,s=>some (.ret,s)
def ev (P:aK) (L:Lib) (n:Nat):cJ:=Nat.rec (fun _ _=>none) (fun _ ih=>bI P L ih) n
def Ui (P:aK) (L:Lib) (n:Nat) (f:Nat) (vals:List AV):Option AV:=bR P L (ev P L n) f vals
end
section
open Go
structure Pl where
 b:Nat
 o:Nat
 e:Nat
 z:Nat
abbrev Mp:=Nat->Option Pl
section
variable (ah:Nat->Nat) (m:Mp) (S:Nat->Prop) (w:yh)
mutual
def aj:AV->ye->Prop
 | .int k n,v=>v= .int k n
 | .bool b,v=>v= .bool b
 | .dB k b,v=>v= .float k b
 | .str s,v=>∃t:ByteArray,v= .string t/\t.data.toList.map yW=s
 | .jT,v=>v= .pointer none
 | .ptr id o,v=>∃p,m id=some p/\v= .pointer (some ⟨p.b,p.o+o,none⟩)
 | .aF cs,v=>∃b o,v= .pointer (some ⟨b,o,none⟩)/\(cs=[]\/S b)/\aJ cs=true/\bT cs b o
 | .ab,v=>v= .slice none 0 0
 | .aE ex n cs,v=>(∃b o c,v= .slice (some ⟨b,o,none⟩) n c/\n<=c/\(ex=true->c=n)/\(cs=[]\/S b)/\aJ cs=true/\bT cs b o)\/(∃a,v= .slice (some a) 0 0/\n=0/\cs=[])
 | .cG _ _ _ _,_=>False
 | .ak id o n,v=>∃p c,m id=some p/\v= .slice (some ⟨p.b,p.o+o,none⟩) n c/\n<=c/\o+c*p.z=p.e
 | .fn (.f g) first cap,v=>∃fi ca:Array ye,v= .func (.func (ah g)) fi ca/\au first fi.toList/\au cap ca.toList
 | .fn (.y l) _ _,v=>∃p,m l=some p/\v= .func (.yield p.b) #[] #[]
 | .hO,v=>v= .nilFunc
 | .jz,v=>v= .map none
 | .map id,v=>∃p,m id=some p/\v= .map (some p.b)
 | .jf ks vs,v=>∃b es clock,v= .map (some b)/\S b/\aJ ks=true/\aJ vs=true/\w.heap[b]? =some (.map es clock)/\
   au ks (es.toList.map (·.key))/\au vs (es.toList.map (·.val))
 | .it id,v=>∃p,m id=some p/\v= .pointer (some ⟨p.b,0,none⟩)
 | .agg cs,v=>∃xs:Array ye,v= .agg xs/\au cs xs.toList
 | .aq cs,v=>∃xs:Array ye,v= .tuple xs/\au cs xs.toList
 | .undef,_=>True
def au:List AV->List ye->Prop
 | [],us=>us=[]
 | c::cs,us=>∃u r,us=u::r/\aj c u/\au cs r
def bT:List AV->Nat->Nat->Prop
 | [],_,_=>True
 | c::cs,b,o=>(∃u,w.cell? ⟨b,o,none⟩=some u/\aj c u)/\bT cs b (o+1)
end
end
def fO (S:Nat->Prop) (w w':yh):Prop:=∀b,S b->w'.heap[b]? =w.heap[b]?
def KC {w w':yh} {b o:Nat} (h:w'.heap[b]? =w.heap[b]?):w'.cell? ⟨b,o,none⟩=w.cell? ⟨b,o,none⟩:=by
 simp only [World.cell?,h]
section
variable {ah:Nat->Nat} {m m':Mp} {S S':Nat->Prop} {w w':yh}
mutual
def lX (hm:∀id p,m id=some p->m' id=some p) (hS:∀b,S b->S' b) (hw:fO S w w'):
  ∀(v:AV) (u:ye),aj ah m S w v u->aj ah m' S' w' v u
 | .int _ _,_,h | .bool _,_,h | .dB _ _,_,h | .str _,_,h | .jT,_,h | .ab,_,h | .hO,_,h | .jz,_,h | .undef,_,h=>by
  simpa only [aj] using h
 | .ptr id o,u,h=>by
  simp only [aj] at h ⊢;obtain ⟨p,h1,h2⟩:=h;exact ⟨p,hm _ _ h1,h2⟩
 | .aF cs,u,h=>by
  simp only [aj] at h ⊢;obtain ⟨b,o,h1,h2,h3,h4⟩:=h;refine ⟨b,o,h1,h2.imp id (hS b),h3,?_⟩;rcases h2 with rfl | h2
  ·simp only [bT]
  ·exact PF hm hS hw cs b o h2 h4
 | .aE ex n cs,u,h=>by
  simp only [aj] at h ⊢;rcases h with ⟨b,o,c,h1,h2,h3,h4,h5,h6⟩ | h
  ·refine .inl ⟨b,o,c,h1,h2,h3,h4.imp id (hS b),h5,?_⟩;rcases h4 with rfl | h4
   ·simp only [bT]
   ·exact PF hm hS hw cs b o h4 h6
  ·exact .inr h
 | .cG _ _ _ _,u,h=>by simp only [aj] at h
 | .ak id o n,u,h=>by
  simp only [aj] at h ⊢;obtain ⟨p,c,h1,h2⟩:=h;exact ⟨p,c,hm _ _ h1,h2⟩
 | .fn (.f g) first cap,u,h=>by
  simp only [aj] at h ⊢;obtain ⟨fi,ca,h1,h2,h3⟩:=h;exact ⟨fi,ca,h1,gT hm hS hw first _ h2,gT hm hS hw cap _ h3⟩
 | .fn (.y l) _ _,u,h=>by
  simp only [aj] at h ⊢;obtain ⟨p,h1,h2⟩:=h;exact ⟨p,hm _ _ h1,h2⟩
 | .map id,u,h=>by
  simp only [aj] at h ⊢;obtain ⟨p,h1,h2⟩:=h;exact ⟨p,hm _ _ h1,h2⟩
 | .jf ks vs,u,h=>by
  simp only [aj] at h ⊢;obtain ⟨b,es,clock,h1,h2,h3,h4,h5,h6,h7⟩:=h;exact ⟨b,es,clock,h1,hS b h2,h3,h4,(hw b h2).trans h5,gT hm hS hw ks _ h6,gT hm hS hw vs _ h7⟩
 | .it id,u,h=>by
  simp only [aj] at h ⊢;obtain ⟨p,h1,h2⟩:=h;exact ⟨p,hm _ _ h1,h2⟩
 | .agg cs,u,h=>by
  simp only [aj] at h ⊢;obtain ⟨xs,h1,h2⟩:=h;exact ⟨xs,h1,gT hm hS hw cs _ h2⟩
 | .aq cs,u,h=>by
  simp only [aj] at h ⊢;obtain ⟨xs,h1,h2⟩:=h;exact ⟨xs,h1,gT hm hS hw cs _ h2⟩
def gT (hm:∀id p,m id=some p->m' id=some p) (hS:∀b,S b->S' b) (hw:fO S w w'):
  ∀(vs:List AV) (us:List ye),au ah m S w vs us->au ah m' S' w' vs us
 | [],us,h=>by simpa only [au] using h
 | v::r,us,h=>by
  simp only [au] at h ⊢;obtain ⟨u,t,h1,h2,h3⟩:=h;exact ⟨u,t,h1,lX hm hS hw v u h2,gT hm hS hw r t h3⟩
def PF (hm:∀id p,m id=some p->m' id=some p) (hS:∀b,S b->S' b) (hw:fO S w w'):
  ∀(cs:List AV) (b o:Nat),S b->bT ah m S w cs b o->bT ah m' S' w' cs b o
 | [],_,_,_,_=>by simp only [bT]
 | c::cs,b,o,hb,h=>by
  simp only [bT] at h ⊢;obtain ⟨⟨u,h1,h2⟩,h3⟩:=h;exact ⟨⟨u,(KC (hw b hb)).trans h1,lX hm hS hw c u h2⟩,PF hm hS hw cs b (o+1) hb h3⟩
end
end
end
section
open Go
structure Hint where
 n:Nat
 cm:FuncId->Option Nat
 live:Nat->List Nat
 out:Nat->Option (List Nat)
 mode:Nat->Md
 fz:Nat->List Nat
section
variable (P:y5) (H:Hint)
mutual
def eJ:ye->AV
 | .int k n=> .int k n
 | .bool b=> .bool b
 | .float k b=> .dB k b
 | .string s=> .str (s.data.toList.map yW)
 | .pointer none=> .jT
 | .slice none 0 0=> .ab
 | .map none=> .jz
 | .nilFunc=> .hO
 | .agg ⟨cs⟩=> .agg (D5 cs)
 | .tuple ⟨cs⟩=> .aq (D5 cs)
 | _=> .undef
def D5:List ye->List AV
 | []=>[]
 | v::r=>eJ v::D5 r
end
def aR:xB->X
 | .tmp t=> .t t
 | .const v=> .c (eJ v)
 | .global _=> .c .undef
 | .func f=>match H.cm f with | some g=> .c (.fn (.f g) [] []) | none=> .c .undef
def gN:List xB->List X
 | []=>[]
 | x::r=>aR H x::gN r
def cP (t:yx):Option Nat:=match P.info? t with | some i=>some i.size | none=>none
def Bz (t:yx):Option Nat:=match P.info? t with | some i=>some i.bytes | none=>none
def mS (t:yx):Option AV:=match P.info? t with | some i=>(match i.zero with | some v=>some (eJ v) | none=>none) | none=>none
def dW (t:yx):Option Bool:=match P.underlying t with | some (.struct _) | some (.array _ _)=>some true | some _=>some false | none=>none
def bad:Op:= .call .pure (.c .undef) []
def partsOf (place:Nat->Option (Nat×Nat)):List (Nat×xB)->Option (List (Nat×Nat×X))
 | []=>some []
 | (i,x)::r=>
  match place i,partsOf place r with
  | some (o,s),some l=>some ((o,s,aR H x)::l)
  | _,_=>none
def DI (self:yx->Option (List Nat)):List Field->Nat->Option (List Nat)
 | [],_=>some []
 | f::r,o=>
  match self f.type,cP P f.type with
  | some ks,some s=>
   bif f.name != "_"&&yr f.offset o&&yr ks.length s&& !P.stoodInHeld f.type then
    (match DI self r (o+s) with | some l=>some (ks++l) | none=>none)
   else none
  | _,_=>none
def kinds:Nat->yx->Option (List Nat)
 | 0,_=>none
 | n+1,t=>
  match P.underlying t with
  | some .bool=>some [0]
  | some (.int _)=>some [1]
  | some .string=>some [2]
  | some (.struct fs)=>DI P (fun u=>kinds n u) fs.toList 0
  | some (.array k e)=>
   match kinds n e,cP P e with
   | some ks,some s=>bif yr ks.length s&& !P.stoodInHeld e then some (yA k ks).flatten else none
   | _,_=>none
  | _=>none
def keyOf (t:yx):Option Nat:=
 match P.underlying t with
 | some .bool=>some 0
 | some (.int _)=>some 1
 | some .string=>some 2
 | _=>none
def sM (ne:Bool) (t:yx) (a b:xB):Op:=
 match kinds P 20 t with
 | some ks=>bif P.stoodInHeld t||P.eqGuardType P.depth t then bad else .eq ne (.ag ks) (aR H a) (aR H b)
 | none=>bad
def qZ (ne:Bool) (op:wU) (t:yx) (a b:xB):Op:=
 match P.underlying t with
 | some (.int _) | some .string | some (.float _)=> .bin op (aR H a) (aR H b)
 | some .bool=> .eq ne .b (aR H a) (aR H b)
 | some (.slice _)=> .eq ne .sl (aR H a) (aR H b)
 | some (.func _ _ _)=> .eq ne .fn (aR H a) (aR H b)
 | some (.struct _) | some (.array _ _)=>sM P H ne t a b
 | _=>bad
def br (k:Nat) (o:yY):Op:=
 let x (y:xB):X:=aR H y
 match o.op with
 | .move a | .assign a=> .cg (x a)
 | .pick c a b=> .pick (x c) (x a) (x b)
 | .alloc t=>match cP P t,mS P t with | some s,some z=> .box s (.c z) | _,_=>bad
 | .box t v=>match cP P t with | some s=> .box s (x v) | none=>bad
 | .build t parts=>
  match P.underlying t,mS P t with
  | some (.struct fs),some (.agg z)=>
   match fs.toList.mapM (fun f=>(P.info? f.type).map fun i=>(f.offset,i.size)) with
   | some pl=>(match partsOf H (fun i=>pl[i]?) parts.toList with | some ps=> .dj z ps | none=>bad)
   | none=>bad
  | some (.array _ e),some (.agg z)=>
   match cP P e with
   | some s=>(match partsOf H (fun i=>some (i*s,s)) parts.toList with | some ps=> .dj z ps | none=>bad)
   | none=>bad
  | _,_=>bad
 | .buildSlice t n parts=>
  match P.underlying t with
  | some (.slice e)=>
   match cP P e,mS P e with
   | some s,some z=>
    bif yE (n*s) 16777216 then
     (match partsOf H (fun i=>some (i*s,s)) parts.toList with | some ps=> .bV n s (yA n (cellsOf z)).flatten ps | none=>bad)
    else bad
   | _,_=>bad
  | _=>bad
 | .load t a=>match cP P t,dW P t with | some s,some ag=> .ld s ag (x a) | _,_=>bad
 | .store t a v=>match cP P t with | some s=> .st s (x a) (x v) | none=>bad
 | .nilCheck a=> .IK (x a)
 | .binOp op t a b _=>
  match op with
  | .eql=>qZ P H false op t a b
  | .neq=>qZ P H true op t a b
  | _=> .bin op (x a) (x b)
 | .unOp op _ a=> .un op (x a)
 | .convert s d a=>
  match P.underlying s,P.underlying d with
  | some (.int _),some (.int k) | some (.float _),some (.int k)=> .cv (.toInt k) (x a)
  | some (.int _),some (.float k) | some (.float _),some (.float k)=> .cv (.toFlt k) (x a)
  | some .string,some .string=> .cv .str (x a)
  | _,_=>bad
 | .makeFunc (.func f) first cap=>match H.cm f with | some g=> .oW (.f g) (gN H first.toList) (gN H cap.toList) | none=>bad
 | .makeMap t none=>match P.underlying t with | some (.map ke _)=>(match keyOf P ke with | some _=> .zS | none=>bad) | _=>bad
 | .makeSlice t l c=>
  match P.underlying t with
  | some (.slice e)=>(match cP P e,Bz P e,mS P e with | some s,some b,some z=> .gP s b (cellsOf z) (x l) (x c) | _,_,_=>bad)
  | _=>bad
 | .slice t a lo hi none=>
  match P.underlying t with
  | some .string=> .ef .str (x a) (lo.map x) (hi.map x)
  | some (.slice e)=>(match cP P e with | some s=> .ef (.sl s) (x a) (lo.map x) (hi.map x) | none=>bad)
  | some (.array n e)=>(match cP P e with | some s=> .ef (.ar n s) (x a) (lo.map x) (hi.map x) | none=>bad)
  | _=>bad
 | .fieldAddr t a i=>
  match P.underlying t with
  | some (.struct fs)=>
   match fs[i]? with
   | some f=>(match cP P f.type with | some (_+1)=> .off f.offset (x a) | _=>bad)
   | none=>bad
  | _=>bad
 | .field t a i=>
  match P.underlying t with
  | some (.struct fs)=>
   match fs[i]? with
   | some f=>(match cP P f.type,dW P f.type with | some s,some ag=> .Jy f.offset s ag (x a) | _,_=>bad)
   | none=>bad
  | _=>bad
 | .indexAddr t a i=>
  match P.underlying t with
  | some (.slice e)=>(match cP P e with | some s=> .bj s (x a) (x i) | none=>bad)
  | some (.array n e)=>(match cP P e with | some s=> .Bw n s (x a) (x i) | none=>bad)
  | _=>bad
 | .index t a i=>
  match P.underlying t with
  | some .string=> .kU (x a) (x i)
  | some (.array n e)=>(match cP P e,dW P e with | some s,some ag=> .zT n s ag (x a) (x i) | _,_=>bad)
  | _=>bad
 | .lookup t a i ok=>
  match P.underlying t with
  | some (.map ke e)=>(match keyOf P ke,mS P e with | some kk,some z=> .N8 kk z ok (x a) (x i) | _,_=>bad)
  | _=>bad
 | .mapUpdate t a i v | .insert t a i v=>
  match P.underlying t with
  | some (.map ke _)=>(match keyOf P ke with | some kk=> .oX kk (x a) (x i) (x v) | none=>bad)
  | _=>bad
 | .range t a=>match P.underlying t with | some .string=> .oY (x a) | _=>bad
 | .next it true=> .oZ (x it)
 | .extract t i=> .ext i (x t)
 | .call c=>
  match c.callee with
  | .value f=>(match H.mode k with | .dyn=> .gY [] (x f) (gN H c.args.toList) | md=> .call md (x f) (gN H c.args.toList))
  | .builtin b=>
   match b,c.args.toList,c.argTypes.toList with
   | .append,[s,a],[t,u]=>
    match P.underlying t,P.underlying u with
    | some (.slice e),some (.slice _) | some (.slice e),some .string=>
     (match cP P e,Bz P e,mS P e with | some sz,some by',some z=>(bif yr (cellsOf z).length sz then .dH sz by' (x s) (x a) else bad) | _,_,_=>bad)
    | _,_=>bad
   | .len,[a],[t]=>
    match P.underlying t with
    | some (.array n _)=> .cg (.c (.int .i64 n))
    | some .string=> .len 0 (x a)
    | some (.slice _)=> .len 1 (x a)
    | some (.map _ _)=> .len 2 (x a)
    | _=>bad
   | .copy,[d,s],[t,_]=>
    match P.underlying t with
    | some (.slice e)=>(match cP P e with | some sz=> .pc sz (x d) (x s) | none=>bad)
    | _=>bad
   | .min,l,_=> .mn (gN H l)
   | .max,l,_=> .mx (gN H l)
   | _,_,_=>bad
  | _=>bad
 | _=>bad
def Rw (o:yY):Bool:=match o.op with | .call {callee:= .value _,..}=>true | _=>false
def Iv (d:Option Nat):Bool:=match d with | some i=>yG i H.n | none=>true
def ze (n:Nat):List Nat->Bool
 | []=>true
 | i::r=>yG i n&&ze n r
def Cg (ops:Array yY):List yY->Nat->List bl×Nat
 | [],k=>([],k)
 | o::r,k=>
  let g:=match o.guard with
   | none=>some none
   | some (j,b)=>match (ops[j]?).bind (·.dst) with | some t=>some (some (t,b)) | none=>none
  match Cg ops r (k+(bif Rw o then 1 else 0)) with
  | (l,k')=>
   match g,Iv H o.dst with
   | some g,true=>(⟨o.dst,g,br P H k o⟩::l,k')
   | _,_=>(⟨o.dst,none,bad⟩::l,k')
def AO (acc:List Nat):List Edge->Nat
 | []=>0
 | e::r=>bif Region.binds .any e then (2^e.on|||acc.getD e.on 0)|||AO acc r else AO acc r
def mh (acc:List Nat):List yY->List Nat
 | []=>acc
 | o::r=>mh (acc++[AO acc o.after.toList]) r
def He:List yY->Nat->Bool
 | [],_=>true
 | o::r,i=>o.after.toList.all (fun e=> !Region.binds .any e||yG e.on i)&&He r (i+1)
def LI (ops:Array yY) (draw:Bool) (k:Nat):List bl×Nat:=
 match Cg P H ops ops.toList k with
 | (l,k')=>
  bif draw then
   (let ms:=mh [] ops.toList
    let l':=zd [] l ms
    bif He ops.toList 0&&DW [] l' ms then (l',k') else ([⟨none,none,bad⟩],k'))
  else (l,k')
def apP:wI->Bool
 | .loop _=>true
 | _=>false
def comp:wI->Nat->Nat->VC×Nat×Nat
 | .skip,l,k | .label _,l,k=>(.skip,l,k)
 | .region i ops d,l,k=>match LI P H ops d k with | (r,k')=>((match H.fz i with | []=> .aV r | t::ts=> .seq (.fz (t::ts)) (.aV r)),l,k')
 | .seq a b,l,k=>match comp a l k with | (a',l1,k1)=>match comp b l1 k1 with | (b',l2,k2)=>(.seq a' b',l2,k2)
 | .cond c a b,l,k=>
  match comp a (l+1) k with
  | (a',l1,k1)=>
   match comp b l1 k1 with
   | (b',l2,k2)=>(match H.out l with | some o=> .seq (.cond (aR H c) a' b') (.kp o) | none=> .cond (aR H c) a' b',l2,k2)
 | .block id a,l,k=>
  match comp a l k with
  | (a',r)=>(match apP a,H.out l with | true,some o=> .seq (.aO id a') (.kp o) | _,_=> .aO id a',r)
 | .loop a,l,k=>match comp a (l+1) k with | (a',r)=>(.loop (H.live l) a',r)
 | .rangeFunc f ps as_ body,l,k=>
  match comp as_ l k with | (as',l1,k1)=>match comp body l1 k1 with | (b',l2,k2)=>(bif ze H.n ps.toList then .rf (aR H f) ps.toList as' b' else .aV [⟨none,none,bad⟩],l2,k2)
 | .exit id,l,k=>(.exit id,l,k)
 | .scope a,l,k=>comp a l k
 | .ret,l,k=>(.ret,l,k)
 | .goto _,l,k | .refuse _,l,k=>(.aV [⟨none,none,bad⟩],l,k)
def ow:List ResultVar->Option (List RV)
 | []=>some []
 | .tmp t::r=>match ow r with | some l=>some (.t t::l) | none=>none
 | .cell a t::r=>match cP P t,dW P t,ow r with | some s,some ag,some l=>some (.cell a s ag::l) | _,_,_=>none
def D6 (fn:Func):Option aI:=
 match fn.body,ow P fn.results.toList with
 | some c,some rs=>bif yE H.n fn.ntmps then some ⟨rs,(comp P H c 0 0).1⟩ else none
 | _,_=>none
end
end
section
open Go
structure bw where
 P:y5
 aU:Lib
 ah:Nat->Nat
 prog:aK
 hint:Nat->Hint
 w0:yh
def BA (P:y5) (H:Hint) (v:VC) (c:wI):Prop:=∃l k,(comp P H c l k).1=v
def Bb:Nat->LoopState
 | 0=> .ready
 | 1=> .busy
 | 2=> .done
 | _=> .exhausted
def sU:rq->Option wI
 | .none=>none
 | .ret=>some .ret
 | .exit id=>some (.exit id)
section
variable (O:bw) (m:Mp) (S:Nat->Prop) (w:yh)
def cp (tm:Env) (tmps:Array ye):Prop:=∀i,aj O.ah m S w (af tm i) (tmps.getD i undef)
def fB (id:Nat):Obj->Prop
 | .cells rw pu ex sz cs=>∃p arr t,m id=some p/\w.heap[p.b]? =some (.cells arr t (0,0))/\p.z=sz/\cs.length<=p.e/\p.o+p.e<=arr.size/\
   (ex=true->cs.length=p.e)/\bT O.ah m S w cs p.b p.o/\(pu=true->aJ cs=true)/\(rw=true->¬S p.b)/\(rw=false->S p.b)
 | .mp rw ks vs=>∃p es clock,m id=some p/\w.heap[p.b]? =some (.map es clock)/\au O.ah m S w ks (es.toList.map (·.key))/\au O.ah m S w vs (es.toList.map (·.val))/\
   (rw=true->¬S p.b)/\(rw=false->S p.b)
 | .si s pos=>∃p t,m id=some p/\w.heap[p.b]? =some (.stringIter t pos)/\t.data.toList.map yW=s/\¬S p.b
 | .lp tm ps as_ body st pe=>∃p l h,m id=some p/\w.heap[p.b]? =some (.loop l)/\¬S p.b/\l.state=Bb st/\st<=2/\l.pending=sU pe/\cp O m S w tm l.tmps/\
   l.params.toList=ps/\BA O.P (O.hint h) as_ l.assign/\BA O.P (O.hint h) body l.body/\(O.hint h).n<=l.tmps.size/\ze (O.hint h).n ps=true
structure aZ (hp:Hp) (ct:Nat):Prop where
 obj:∀id o p,ap hp id=some o->m id=some p->fB O m S w id o
 lt:∀id p,m id=some p->id<ct
 inj:∀i j oi oj pi pj,ap hp i=some oi->ap hp j=some oj->m i=some pi->m j=some pj->pi.b=pj.b->i=j
 slt:∀b,S b->b<w.heap.size
 blt:∀id p,m id=some p->p.b<w.heap.size
 low:∀id p,m id=some p->O.w0.heap.size<=p.b
 lE:∀b,b<O.w0.heap.size->w.heap[b]? =O.w0.heap[b]?
 fP:O.w0.heap.size<=w.heap.size
 bi:∀id o,ap hp id=some o->id<ct
end
def ej (m:Mp) (hp:Hp) (b:Nat):Prop:=∃id o p,ap hp id=some o/\m id=some p/\p.b=b
structure cu (m:Mp) (S:Nat->Prop) (w:yh) (hp:Hp) (m':Mp) (S':Nat->Prop) (w':yh) (ao:Hp) (base:Nat):Prop where
 os:w'.os=w.os
 tape:w'.tape=w.tape
 output:w'.output=w.output
 size:w.heap.size<=w'.heap.size
 same:∀b,b<w.heap.size->¬ej m hp b->w'.heap[b]? =w.heap[b]?
 sub:∀b,S b->S' b
 still:∀b,S b->w'.heap[b]? =w.heap[b]?
 new:∀b,S' b->S b\/ej m hp b\/w.heap.size<=b
 own:∀b,ej m' ao b->ej m hp b\/w.heap.size<=b
 old:∀id p,id<base->m id=some p->m' id=some p
 loops:∀(b:Nat) (r:Loop),w.heap[b]? =some (.loop r)->∃r':Loop,w'.heap[b]? =some (.loop r')
def cu.refl {m:Mp} {S:Nat->Prop} {w:yh} {hp:Hp} {base:Nat}:cu m S w hp m S w hp base:=
 ⟨rfl,rfl,rfl,Nat.le_refl _,fun _ _ _=>rfl,fun _ h=>h,fun _ _=>rfl,fun _ h=> .inl h,fun _ h=> .inl h,fun _ _ _ h=>h,fun _ r h=>⟨r,h⟩⟩
def cu.trans {m m' JA:Mp} {S S' BB:Nat->Prop} {w w' C7:yh} {hp ao IL:Hp} {base:Nat}
  (h:cu m S w hp m' S' w' ao base) (k:cu m' S' w' ao JA BB C7 IL base):cu m S w hp JA BB C7 IL base where
 os:=k.os.trans h.os
 tape:=k.tape.trans h.tape
 output:=k.output.trans h.output
 size:=xi h.size k.size
 same b hb ho:=(k.same b (Nat.lt_of_lt_of_le hb h.size) (fun kV=>(h.own b kV).elim ho (fun h1=>by omega))).trans (h.same b hb ho)
 sub b hb:=k.sub b (h.sub b hb)
 still b hb:=(k.still b (h.sub b hb)).trans (h.still b hb)
 new b hb:=by
  rcases k.new b hb with h1 | h1 | h1
  ·exact h.new b h1
  ·rcases h.own b h1 with h2 | h2
   ·exact .inr (.inl h2)
   ·exact .inr (.inr h2)
  ·exact .inr (.inr (xi h.size h1))
 own b hb:=by
  rcases k.own b hb with h1 | h1
  ·exact h.own b h1
  ·exact .inr (xi h.size h1)
 old id p hid hp:=k.old id p hid (h.old id p hid hp)
 loops b r hb:=let ⟨r',h1⟩:=h.loops b r hb;k.loops b r' h1
end
section
open Go
section
variable {ah:Nat->Nat} {m:Mp} {S:Nat->Prop} {w:yh}
mutual
def LJ:∀v:ye,aj ah m S w (eJ v) v
 | .int _ _ | .bool _ | .float _ _=>by simp only [eJ,aj]
 | .string s=>by simp only [eJ,aj];exact ⟨s,rfl,rfl⟩
 | .pointer none=>by simp only [eJ,aj]
 | .pointer (some _)=>by simp only [eJ,aj]
 | .slice none 0 0=>by simp only [eJ,aj]
 | .slice none 0 (_+1)=>by simp only [eJ,aj]
 | .slice none (_+1) _=>by simp only [eJ,aj]
 | .slice (some _) _ _=>by simp only [eJ,aj]
 | .map none=>by simp only [eJ,aj]
 | .map (some _)=>by simp only [eJ,aj]
 | .nilFunc=>by simp only [eJ,aj]
 | .agg ⟨cs⟩=>by simp only [eJ,aj];exact ⟨⟨cs⟩,rfl,Qo cs⟩
 | .tuple ⟨cs⟩=>by simp only [eJ,aj];exact ⟨⟨cs⟩,rfl,Qo cs⟩
 | .complex _ _ _ | .chan _ | .func _ _ _ | .iface _ _ | .nilIface=>by simp only [eJ,aj]
def Qo:∀l:List ye,au ah m S w (D5 l) l
 | []=>by simp only [D5,au]
 | v::r=>by simp only [D5,au];exact ⟨v,r,rfl,LJ v,Qo r⟩
end
end
def fF (O:bw) (H:Hint):Prop:=∀f g,H.cm f=some g->O.ah g=f
section
variable {O:bw} {H:Hint} {m:Mp} {S:Nat->Prop} {w:yh} {tm:Env} {a:Act}
def cF (hH:fF O H) (ht:cp O m S w tm a.tmps) (x:xB):aj O.ah m S w (az tm (aR H x)) (a.eval x):=by
 cases x with
 | tmp t=>exact ht t
 | const v=>simp only [aR,az,Act.eval];exact LJ v
 | global g=>simp only [aR,az,aj]
 | func f=>
  simp only [aR,Act.eval]
  cases hr:H.cm f with
  | none=>simp only [az,aj]
  | some g=>simp only [az,aj,hH f g hr,au];exact ⟨#[],#[],rfl,rfl,rfl⟩
def Cm (hH:fF O H) (ht:cp O m S w tm a.tmps):∀l:List xB,au O.ah m S w (dD tm (gN H l)) (l.map a.eval)
 | []=>by simp only [gN,dD,List.map_nil,au]
 | x::r=>by simp only [gN,dD,y9,au];exact ⟨_,_,rfl,cF hH ht x,Cm hH ht r⟩
end
section
variable {O:bw} {m:Mp} {S:Nat->Prop} {w:yh}
def qM {ah:Nat->Nat}:∀(k:Nat) (cs:List AV) (b o:Nat),bT ah m S w cs b o->bT ah m S w (cs.drop k) b (o+k)
 | 0,cs,b,o,h=>by simpa using h
 | k+1,[],b,o,_=>by simp only [List.drop_nil,bT]
 | k+1,c::cs,b,o,h=>by
  simp only [bT] at h
  have:=qM k cs b (o+1) h.2
  rw [List.drop_succ_cons,show o+(k+1)=o+1+k by omega];exact this
def B8 {ah:Nat->Nat}:∀(k:Nat) (cs:List AV) (b o:Nat),bT ah m S w cs b o->bT ah m S w (cs.take k) b o
 | 0,cs,b,o,_=>by simp only [List.take_zero,bT]
 | k+1,[],b,o,_=>by simp only [List.take_nil,bT]
 | k+1,c::cs,b,o,h=>by
  simp only [bT,wm] at h ⊢;exact ⟨h.1,B8 k cs b (o+1) h.2⟩
def sE {ah:Nat->Nat}:∀(cs:List AV) (b o:Nat),bT ah m S w cs b o->
  ∃us:List ye,au ah m S w cs us/\us.length=cs.length/\∀j u,us[j]? =some u->w.cell? ⟨b,o+j,none⟩=some u
 | [],b,o,_=>⟨[],by simp only [au],rfl,fun j u h=>by simp at h⟩
 | c::cs,b,o,h=>by
  simp only [bT] at h;obtain ⟨⟨u,h1,h2⟩,h3⟩:=h;obtain ⟨us,h4,h5,h6⟩:=sE cs b (o+1) h3;refine ⟨u::us,by simp only [au];exact ⟨u,us,rfl,h2,h4⟩,by simp [h5],fun j v hv=>?_⟩
  cases j with
  | zero=>simp at hv;subst hv;simpa using h1
  | succ j=>simp at hv;have:=h6 j v hv;rw [show o+(j+1)=o+1+j by omega];exact this
def iF {ah:Nat->Nat}:∀(cs:List AV) (us:List ye),au ah m S w cs us->us.length=cs.length
 | [],us,h=>by simp only [au] at h;subst h;rfl
 | c::cs,us,h=>by
  simp only [au] at h;obtain ⟨u,r,rfl,_,h3⟩:=h;simp [iF cs r h3]
end
end
section
open Go
def oE (b o j:Nat):(⟨b,o,none⟩:Addr).add j=⟨b,o+j,none⟩:=by
 unfold Addr.add;split<;>simp_all
section
variable {P:y5} {w:yh}
def ahQ (t:yx) (b o:Nat) (us:List ye) (ha:dW P t=some true) (hz:cP P t=some us.length)
  (h:∀j u,us[j]? =some u->w.cell? ⟨b,o+j,none⟩=some u):(loadVar t ⟨b,o,none⟩).run P w= .ok (.agg us.toArray) w:=by
 have hl:=run_loadCells_list (P:=P) w ⟨b,o,none⟩ us (fun j u hu=>by rw [oE];exact h j u hu)
 unfold cP at hz
 cases hi:P.info? t with
 | none=>simp [hi] at hz
 | some i=>
  simp only [hi,yc] at hz;unfold dW at ha
  cases hu:P.underlying t with
  | none=>simp [hu] at ha
  | some d=>cases d<;>simp_all [loadVar,isAgg,vX,typeInfo,underlying]
def ahR (t:yx) (b o:Nat) (u:ye) (ha:dW P t=some false)
  (h:w.cell? ⟨b,o,none⟩=some u):(loadVar t ⟨b,o,none⟩).run P w= .ok u w:=by
 unfold dW at ha
 cases hu:P.underlying t with
 | none=>simp [hu] at ha
 | some d=>cases d<;>simp_all [loadVar,isAgg,underlying]
end
section
variable {O:bw} {m:Mp} {S:Nat->Prop} {w:yh}
def LK {t:yx} {sz:Nat} {ag:Bool} {cs:List AV} {b o:Nat} {v:AV} (hz:cP O.P t=some sz) (ha:dW O.P t=some ag)
  (hr:bT O.ah m S w cs b o) (hv:eX sz ag cs=some v):∃u,(loadVar t ⟨b,o,none⟩).run O.P w= .ok u w/\aj O.ah m S w v u:=by
 cases ag with
 | true=>
  simp only [eX,ym] at hv
  cases hle:yE sz cs.length with
  | false=>simp only [hle,yB] at hv;cases hv
  | true=>
   simp only [hle,ym,yc] at hv;subst hv;obtain ⟨us,h1,h2,h3⟩:=sE _ _ _ (B8 sz cs b o hr);have hlen:us.length=sz:=by
    rw [h2,List.length_take];have:=yt hle;omega
   refine ⟨.agg us.toArray,ahQ t b o us ha (by rw [hlen];exact hz) h3,?_⟩
   simp only [aj];exact ⟨us.toArray,rfl,by simpa using h1⟩
 | false=>
  simp only [eX,yB] at hv
  cases cs with
  | nil=>simp at hv
  | cons c cs=>
   simp only [yc] at hv;subst hv;simp only [bT] at hr;obtain ⟨⟨u,h1,h2⟩,_⟩:=hr;exact ⟨u,ahR t b o u ha h1,h2⟩
def aas {t:yx} {sz o:Nat} {ag:Bool} {cs:List AV} {xs:Array ye} {v:AV} (hz:cP O.P t=some sz) (ha:dW O.P t=some ag)
  (hr:au O.ah m S w cs xs.toList) (hv:eX sz ag (cs.drop o)=some v):∃u,(part t xs o).run O.P w= .ok u w/\aj O.ah m S w v u:=by
 have hd:∀(k:Nat) (cs:List AV) (us:List ye),au O.ah m S w cs us->au O.ah m S w (cs.drop k) (us.drop k):=by
  intro k
  induction k with
  | zero=>intro cs us h;simpa using h
  | succ k ih=>
   intro cs us h
   cases cs with
   | nil=>simp only [au] at h;subst h;simp [au]
   | cons c cs=>simp only [au] at h;obtain ⟨u,r,rfl,_,h3⟩:=h;simpa using ih cs r h3
 have ep:∀(k:Nat) (cs:List AV) (us:List ye),au O.ah m S w cs us->au O.ah m S w (cs.take k) (us.take k):=by
  intro k
  induction k with
  | zero=>intro cs us h;simp [au]
  | succ k ih=>
   intro cs us h
   cases cs with
   | nil=>simp only [au] at h;subst h;simp [au]
   | cons c cs=>simp only [au] at h;obtain ⟨u,r,rfl,h2,h3⟩:=h;simp only [wm,au];exact ⟨u,_,rfl,h2,ih cs r h3⟩
 have aeR:(isAgg t).run O.P w= .ok ag w:=by
  unfold dW at ha
  cases hu:O.P.underlying t with
  | none=>simp [hu] at ha
  | some d=>cases d<;>simp_all [isAgg,underlying]
 have eQ:(vX t).run O.P w= .ok sz w:=by
  unfold cP at hz
  cases hi:O.P.info? t with
  | none=>simp [hi] at hz
  | some i=>simp_all [vX,typeInfo]
 have bX:=hd o cs xs.toList hr
 cases ag with
 | true=>
  simp only [eX,ym] at hv
  cases hle:yE sz (cs.drop o).length with
  | false=>simp only [hle,yB] at hv;cases hv
  | true=>
   simp only [hle,ym,yc] at hv;subst hv;refine ⟨.agg (xs.extract o (o+sz)),by simp [part,Sem.run_bind,aeR,eQ],?_⟩;simp only [aj];refine ⟨_,rfl,?_⟩
   have:=ep sz _ _ bX
   rw [show (xs.extract o (o+sz)).toList=(xs.toList.drop o).take sz by simp [Array.toList_extract,List.extract_eq_take_drop]];exact this
 | false=>
  simp only [eX,yB] at hv
  cases hc:cs.drop o with
  | nil=>simp [hc] at hv
  | cons c r=>
   simp only [hc,yc] at hv;subst hv;rw [hc] at bX;simp only [au] at bX;obtain ⟨u,us,h1,h2,_⟩:=bX;have hx:xs[o]? =some u:=by
    have:xs.toList[o]? =some u:=by
     have:=congrArg (fun l=>l[0]?) h1
     simpa using this
    simpa using this
   exact ⟨u,by simp [part,Sem.run_bind,aeR,hx],h2⟩
end
end
section
open Go
def mb (t:ByteArray):List Nat:=t.data.toList.map yW
def aat:∀a b:List UInt8,cI (a.map yW) (b.map yW)=(a==b)
 | [],[]=>rfl
 | [],_::_=>rfl
 | _::_,[]=>rfl
 | a::x,b::y=>by
  have h:yr a.toNat b.toNat=(a==b):=by
   rw [uK,ybO,yaa];exact yat
  simp only [y9,cI,aat x y,h,List.cons_beq_cons]
def aau:∀a b:List UInt8,Bx (a.map yW) (b.map yW)=Op.bytesLess a b
 | [],[]=>rfl
 | [],_::_=>rfl
 | _::_,[]=>rfl
 | a::x,b::y=>by
  have h:yr a.toNat b.toNat=(a==b):=by
   rw [uK,ybO,yaa];exact yat
  have h2:yG a.toNat b.toNat=decide (a<b):=by
   rw [uK];simp only [yG,Nat.ble_eq,wN,UInt8.lt_iff_toNat_lt];omega
  simp only [y9,Bx,Op.bytesLess,aau x y,h,h2]
def Yp (s t:ByteArray):cI (mb s) (mb t)=(s.toList==t.toList):=by
 rw [mb,mb,aat,ByteArray.toList_eq,ByteArray.toList_eq]
def ajj (s t:ByteArray):Bx (mb s) (mb t)=Op.bytesLess s.toList t.toList:=by
 rw [mb,mb,aau,ByteArray.toList_eq,ByteArray.toList_eq]
def Yq (s:ByteArray):(mb s).length=s.size:=by
 rw [mb,List.length_map,Lib.size_eq]
section
variable {ah:Nat->Nat} {P:y5} {m:Mp} {S:Nat->Prop} {w:yh} {t:yx}
def alb {op:wU} {k:yU} {x y:Int} {v:AV} (h:lz op k x y=some v):
  ∃u,(xI op t (.int k x) (.int k y)).run P w= .ok u w/\aj ah m S w v u:=by
 cases op<;>simp only [lz,intCmp,yc] at h
 case add=>subst h;exact ⟨_,by simp [xI,Op.intArith];rfl,by simp [aj]⟩
 case sub=>subst h;exact ⟨_,by simp [xI,Op.intArith];rfl,by simp [aj]⟩
 case mul=>subst h;exact ⟨_,by simp [xI,Op.intArith];rfl,by simp [aj]⟩
 case quo=>
  by_cases hy:y=0
  ·simp [hy] at h
  ·simp only [hy,yR,yc] at h;subst h;exact ⟨_,by simp [xI,Op.intDiv,hy];rfl,by simp [aj]⟩
 case rem=>
  by_cases hy:y=0
  ·simp [hy] at h
  ·simp only [hy,yR,yc] at h;subst h;exact ⟨_,by simp [xI,Op.intDiv,hy];rfl,by simp [aj]⟩
 case and=>subst h;exact ⟨_,by simp [xI,Op.intBits];rfl,by simp [aj]⟩
 case or=>subst h;exact ⟨_,by simp [xI,Op.intBits];rfl,by simp [aj]⟩
 case xor=>subst h;exact ⟨_,by simp [xI,Op.intBits];rfl,by simp [aj]⟩
 case andNot=>subst h;exact ⟨_,by simp [xI,Op.intBits];rfl,by simp [aj]⟩
 case shl=>cases h
 case shr=>cases h
 all_goals
  subst h;exact ⟨_,by simp [xI,Op.intCmp];rfl,by simp [aj]⟩
def XG {op:wU} {k k':yU} {x y:Int} {v:AV} (h:Cf op k x y=some v):
  ∃u,(xI op t (.int k x) (.int k' y)).run P w= .ok u w/\aj ah m S w v u:=by
 unfold Cf at h;by_cases hy:y<0
 ·simp [hy] at h
 ·simp only [hy,yR] at h;cases op<;>simp only [yc] at h
  case shl=>subst h;exact ⟨_,by simp [xI,Op.shift,hy];rfl,by simp [aj]⟩
  case shr=>subst h;exact ⟨_,by simp [xI,Op.shift,hy];rfl,by simp [aj]⟩
  all_goals cases h
def alc {op:wU} {x y:ByteArray} {v:AV} (h:Iq op (mb x) (mb y)=some v):
  ∃u,(xI op t (.string x) (.string y)).run P w= .ok u w/\aj ah m S w v u:=by
 cases op<;>simp only [Iq,Yp,ajj,Yq,yc] at h
 case add=>
  cases hle:yE (x.size+y.size) 9223372036854775807 with
  | false=>rw [hle] at h;cases h
  | true=>
   rw [hle] at h;simp only [ym,yc] at h;subst h;have azB:=yt hle;have atO:¬(((x.size+y.size:Nat):Int)>IntKind.i64.max):=by
    have:IntKind.i64.max=9223372036854775807:=by decide
    rw [this];omega
   refine ⟨.string (x++y),?_,?_⟩
   ·simp only [xI,Op.stringOp,yz atO,Sem.run_pure]
   ·simp only [aj];exact ⟨x++y,rfl,by simp [mb]⟩
 all_goals first
  | (cases h;done)
  | (subst h;exact ⟨_,by simp [xI,Op.stringOp];rfl,by simp [aj]⟩)
def ald {op:wU} {k:vU} {x y:Nat} {v:AV} (h:R2 op k x y=some v):
  ∃u,(xI op t (.float k x) (.float k y)).run P w= .ok u w/\aj ah m S w v u:=by
 cases op<;>simp only [R2,yc] at h
 case add=>
  cases hr:k.format.add x y with
  | none=>simp [hr] at h
  | some r=>simp only [hr,yc] at h;subst h;exact ⟨.float k r,by simp [xI,Op.floatArith,hr],by simp [aj]⟩
 case sub=>
  cases hr:k.format.sub x y with
  | none=>simp [hr] at h
  | some r=>simp only [hr,yc] at h;subst h;exact ⟨.float k r,by simp [xI,Op.floatArith,hr],by simp [aj]⟩
 case mul=>
  cases hr:k.format.mul x y with
  | none=>simp [hr] at h
  | some r=>simp only [hr,yc] at h;subst h;exact ⟨.float k r,by simp [xI,Op.floatArith,hr],by simp [aj]⟩
 case quo=>
  cases hr:k.format.div x y with
  | none=>simp [hr] at h
  | some r=>simp only [hr,yc] at h;subst h;exact ⟨.float k r,by simp [xI,Op.floatArith,hr],by simp [aj]⟩
 all_goals first
  | (cases h;done)
  | (subst h;exact ⟨_,by simp [xI,Op.floatCmp];rfl,by simp [aj]⟩)
def ale {op:wU} {vx vy v:AV} {x y:ye} (hx:aj ah m S w vx x) (hy:aj ah m S w vy y) (h:VE.binOp op vx vy=some v):
  ∃u,(xI op t x y).run P w= .ok u w/\aj ah m S w v u:=by
 unfold VE.binOp at h
 split at h
 ·rename_i k a k' b;simp only [aj] at hx hy;subst hx;subst hy
  split at h
  ·exact XG h
  ·exact XG h
  ·by_cases hk:k=k'
   ·subst hk;simp only [y7] at h;exact alb h
   ·simp [hk] at h
 ·rename_i k a k' b;simp only [aj] at hx hy;subst hx;subst hy;by_cases hk:k=k'
  ·subst hk;simp only [y7] at h;exact ald h
  ·simp [hk] at h
 ·rename_i a b;simp only [aj] at hx hy;obtain ⟨s,rfl,rfl⟩:=hx;obtain ⟨s',rfl,rfl⟩:=hy;exact alc h
 ·cases h
end
end
end VE
