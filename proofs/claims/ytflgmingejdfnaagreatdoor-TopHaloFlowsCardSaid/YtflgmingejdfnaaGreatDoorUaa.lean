import GoSem.Core.Code
import GoSem.Core.Float
import GoSem.Core.Utf8
import Derived.CallsIn
import Derived.Laws.World
import GoSem.Op.Equal
import GoSem.Core.Region
import Derived.Below
import Derived.Laws.AppendOwn
import Derived.Laws.Rows
import Derived.WalkKit
import Derived.Laws.CopyRow
import Derived.Laws.Cells
import Derived.Laws.Strings
import Derived.Lib.Strings
set_option linter.all false
set_option maxRecDepth 100000
open BitVec renaming ofInt→xG
open Bool renaming eq_iff_iff→uT
open Go renaming BinOp→wX,Code→wM,FloatKind→ud,IntKind→yU,Oper→yY,Operand→xB,Program→y7,TypeId→yv,Value→yf,World→yh,binOp→xI,sizeOf→uj
open Go.Utf8 renaming runeError→vS,valid→yaE
open List renaming map_cons→y8,replicate→yz,take_succ_cons→wm
open Nat renaming beq→yx,beq_eq→ych,ble→yE,blt→yJ,le_of_ble_eq_true→yC,le_trans→xp,testBit→uo
open Option.some renaming injEq→yc
open UInt8 renaming toNat→yX,toNat_inj→yaF
def wF:=@and_true
def yai:=@beq_iff_eq
def tG:=@beq_self_eq_true
def yD:=@cond_false
def ym:=@cond_true
def yR:=@decide_eq_false
def xi:=@decide_eq_true
def wN:=@decide_eq_true_eq
def yp:=@decide_false
def yq:=@decide_true
def ybL:=@false_or
def yN:=@if_false
def yr:=@if_neg
def yF:=@if_pos
def yV:=@if_true
def uZ:=@ne_eq
def ux:=@not_false_eq_true
def wD:=@not_true_eq_false
def ybO:=@or_false
def uN:=@true_and
namespace VE
section
open Go (IntKind FloatKind BinOp UnOp)
inductive Fr where
 | f (n:Nat)
 | y (l:Nat)
 deriving DecidableEq,Inhabited
inductive AV where
 | int (k:yU) (n:Int)
 | bool (b:Bool)
 | dP (k:ud) (bits:Nat)
 | str (s:List Nat)
 | lm
 | ptr (id off:Nat)
 | bi (cells:List AV)
 | ae
 | aO (ex:Bool) (n:Nat) (cells:List AV)
 | cR (ex:Bool) (sz n:Nat) (cells:List AV)
 | ak (id off n:Nat)
 | fn (f:Fr) (first cap:List AV)
 | iH
 | kF
 | map (id:Nat)
 | jS (ks vs:List AV)
 | it (id:Nat)
 | agg (cells:List AV)
 | aw (vs:List AV)
 | undef
 deriving Inhabited
inductive X where
 | t (i:Nat)
 | c (v:AV)
 deriving Inhabited
inductive Conv where
 | toInt (k:yU)
 | toFlt (k:ud)
 | str
 deriving Inhabited
inductive Md where
 | pure | own | heap | dyn
 deriving Inhabited
inductive Cut where
 | str
 | sl (sz:Nat)
 | ar (len sz:Nat)
 deriving Inhabited
inductive Ql where
 | b | sl | fn | ag (ks:List Nat)
 deriving Inhabited
inductive Op where
 | cm (x:X)
 | pick (c a b:X)
 | box (sz:Nat) (x:X)
 | eB (zero:List AV) (parts:List (Nat×Nat×X))
 | dI (n sz:Nat) (zero:List AV) (parts:List (Nat×Nat×X))
 | ld (sz:Nat) (ag:Bool) (x:X)
 | st (sz:Nat) (x v:X)
 | KD (x:X)
 | bin (op:wX) (x y:X)
 | eq (ne:Bool) (k:Ql) (x y:X)
 | un (op:UnOp) (x:X)
 | cv (k:Conv) (x:X)
 | oe (f:Fr) (first cap:List X)
 | Ba
 | iw (sz bytes:Nat) (zero:List AV) (len cap:X)
 | eJ (k:Cut) (x:X) (lo hi:Option X)
 | off (k:Nat) (x:X)
 | Lz (o sz:Nat) (ag:Bool) (x:X)
 | aY (sz:Nat) (x i:X)
 | He (len sz:Nat) (x i:X)
 | mj (x i:X)
 | Bb (len sz:Nat) (ag:Bool) (x i:X)
 | Qm (kk:Nat) (zero:AV) (ok:Bool) (m k:X)
 | qF (kk:Nat) (m k v:X)
 | qG (x:X)
 | qH (x:X)
 | ext (i:Nat) (x:X)
 | call (m:Md) (f:X) (xs:List X)
 | iE (rs:List (Nat×Bool×Nat)) (f:X) (xs:List X)
 | jf (rs:List (Nat×Bool×Nat)) (sz:Nat) (x v:X)
 | dV (sz bytes:Nat) (s x:X)
 | qI (sz:Nat) (d s:X)
 | len (k:Nat) (x:X)
 | mn (xs:List X)
 | mx (xs:List X)
 deriving Inhabited
structure br where
 dst:Option Nat
 guard:Option (Nat×Bool)
 op:Op
 deriving Inhabited
inductive VC where
 | skip
 | aT (ops:List br)
 | seq (a b:VC)
 | cond (x:X) (a b:VC)
 | aP (id:Nat) (a:VC)
 | kp (live:List Nat)
 | fz (ts:List Nat)
 | loop (live:List Nat) (a:VC)
 | rf (f:X) (ps:List Nat) (assign body:VC)
 | exit (id:Nat)
 | ret
 deriving Inhabited
inductive RV where
 | t (i:Nat)
 | cell (i sz:Nat) (ag:Bool)
 deriving Inhabited
structure aJ where
 dM:List RV
 body:VC
 deriving Inhabited
inductive zg where
 | none | ret | exit (id:Nat)
 deriving Inhabited,DecidableEq
abbrev Env:=List (Nat×AV)
inductive Obj where
 | cells (rw pu ex:Bool) (sz:Nat) (cs:List AV)
 | mp (rw:Bool) (ks vs:List AV)
 | si (s:List Nat) (pos:Nat)
 | lp (tm:Env) (ps:List Nat) (assign body:VC) (state:Nat) (pending:zg)
 deriving Inhabited
abbrev Hp:=List (Nat×Obj)
structure St where
 tm:Env
 hp:Hp
 ct:Nat
 base:Nat
 deriving Inhabited
inductive Ex where
 | normal
 | ret
 | exit (id:Nat)
 deriving Inhabited,DecidableEq
def ab:Env->Nat->AV
 | [],_=> .undef
 | (j,v)::r,i=>bif yx j i then v else ab r i
def ap:Hp->Nat->Option Obj
 | [],_=>none
 | (j,o)::r,i=>bif yx j i then some o else ap r i
def bf:Hp->Nat->Obj->Hp
 | [],_,_=>[]
 | (j,o)::r,i,u=>bif yx j i then (j,u)::r else (j,o)::bf r i u
def dL:Hp->Nat->Hp
 | [],_=>[]
 | (j,o)::r,i=>bif yx j i then dL r i else (j,o)::dL r i
mutual
def aS:AV->Bool
 | .ptr _ _ | .ak _ _ _ | .map _ | .it _ | .cR _ _ _ _=>false
 | .fn (.y _) _ _=>false
 | .fn (.f _) first cap=>aK first&&aK cap
 | .agg cs=>aK cs
 | .aw vs=>aK vs
 | _=>true
def aK:List AV->Bool
 | []=>true
 | v::r=>aS v&&aK r
end
def cellsOf:AV->List AV
 | .agg cs=>cs
 | v=>[v]
def bE:AV->Bool
 | .agg _ | .aw _ | .undef | .cR _ _ _ _=>false
 | _=>true
def cf:List AV->Bool
 | []=>true
 | v::r=>bE v&&cf r
def aC (tm:Env):X->AV
 | .t i=>ab tm i
 | .c v=>v
def dS (tm:Env):List X->List AV
 | []=>[]
 | x::r=>aC tm x::dS tm r
def slice (o n:Nat) (cs:List AV):List AV:=(cs.drop o).take n
def over (o:Nat) (new cs:List AV):List AV:=cs.take o++new++cs.drop (o+new.length)
mutual
def freeze:Nat->Hp->AV->Option (AV×Hp)
 | 0,_,_=>none
 | n+1,hp,v=>
  match v with
  | .ak id o k=>
   match sH n hp id with
   | some (ex,sz,cs,ao)=>
    bif yE (o+k*sz) cs.length then
     some (.aO (ex&&yJ 0 sz&&yx (o+k*sz) cs.length) k (slice o (k*sz) cs),ao)
    else none
   | none=>none
  | .ptr id o=>
   match sH n hp id with
   | some (_,_,cs,ao)=>some (.bi (cs.drop o),ao)
   | none=>none
  | .map id=>
   match ap hp id with
   | some (.mp _ ks vs)=>bif aK ks&&aK vs then some (.jS ks vs,bf hp id (.mp false ks vs)) else none
   | _=>none
  | .fn (.f g) first cap=>
   match cW n hp first with
   | some (aer,bI)=>
    match cW n bI cap with
    | some (Pf,jV)=>some (.fn (.f g) aer Pf,jV)
    | none=>none
   | none=>none
  | .agg cs=>match cW n hp cs with | some (dZ,ao)=>some (.agg dZ,ao) | none=>none
  | .aw cs=>match cW n hp cs with | some (dZ,ao)=>some (.aw dZ,ao) | none=>none
  | v=>bif aS v then some (v,hp) else none
def sH:Nat->Hp->Nat->Option (Bool×Nat×List AV×Hp)
 | 0,_,_=>none
 | n+1,hp,id=>
  match ap hp id with
  | some (.cells rw pu ex sz cs)=>
   bif pu then some (ex,sz,cs,bif rw then bf hp id (.cells false true ex sz cs) else hp)
   else match cW n hp cs with
    | some (dZ,ao)=>some (ex,sz,dZ,bf ao id (.cells false false ex sz cs))
    | none=>none
  | _=>none
def cW:Nat->Hp->List AV->Option (List AV×Hp)
 | 0,_,_=>none
 | _+1,hp,[]=>some ([],hp)
 | n+1,hp,v::r=>
  match freeze n hp v with
  | some (v',bI)=>
   match cW n bI r with
   | some (r',jV)=>some (v'::r',jV)
   | none=>none
  | none=>none
end
def pP (n:Nat) (hp:Hp) (v:AV):Option (AV×Hp):=
 match v with
 | .ak id o k=>
  match ap hp id with
  | some (.cells true true ex sz cs)=>
   bif yE (o+k*sz) cs.length then
    some (.cR (ex&&yJ 0 sz&&yx (o+k*sz) cs.length) sz k (slice o (k*sz) cs),dL hp id)
   else none
  | _=>freeze n hp v
 | _=>freeze n hp v
def B2:List AV->Option (List Nat)
 | []=>some []
 | .ak id _ _::r=>match B2 r with | some l=>bif l.any (yx id) then none else some (id::l) | none=>none
 | v::r=>bif aS v then B2 r else none
def sP (n:Nat):Hp->List AV->Option (List AV×Hp)
 | hp,[]=>some ([],hp)
 | hp,v::r=>
  match pP n hp v with
  | some (v',bI)=>match sP n bI r with | some (r',jV)=>some (v'::r',jV) | none=>none
  | none=>none
def deep:Nat:=1000
def result (hp:Hp) (v:AV):Option AV:=
 match v with
 | .aw vs=>
  match B2 vs with
  | some _=>match sP deep hp vs with | some (eK,_)=>some (.aw eK) | none=>none
  | none=>match freeze deep hp v with | some (v',_)=>some v' | none=>none
 | v=>match pP deep hp v with | some (v',_)=>some v' | none=>none
def bN:AV->AV
 | .cR ex _ n cs=> .aO ex n cs
 | v=>v
def D0:List AV->List AV
 | []=>[]
 | v::r=>bN v::D0 r
def shut:AV->AV
 | .cR ex _ n cs=> .aO ex n cs
 | .aw vs=> .aw (D0 vs)
 | v=>v
def fO (hp:Hp) (ct:Nat):AV->AV×Hp×Nat
 | .cR ex sz n cs=>(.ak ct 0 n,(ct,.cells true true ex sz cs)::hp,ct+1)
 | v=>(v,hp,ct)
def kG:Hp->Nat->List AV->List AV×Hp×Nat
 | hp,ct,[]=>([],hp,ct)
 | hp,ct,v::r=>((fO hp ct v).1::(kG (fO hp ct v).2.1 (fO hp ct v).2.2 r).1,(kG (fO hp ct v).2.1 (fO hp ct v).2.2 r).2)
def own (hp:Hp) (ct:Nat):AV->AV×Hp×Nat
 | .aw vs=>(.aw (kG hp ct vs).1,(kG hp ct vs).2)
 | v=>fO hp ct v
mutual
def refs:AV->List Nat
 | .ptr id _=>[id]
 | .ak id _ _=>[id]
 | .map id=>[id]
 | .it id=>[id]
 | .fn (.f _) first cap=>eV first++eV cap
 | .fn (.y l) _ _=>[l]
 | .agg cs=>eV cs
 | .aw cs=>eV cs
 | _=>[]
def eV:List AV->List Nat
 | []=>[]
 | v::r=>refs v++eV r
end
def fo:Env->List Nat
 | []=>[]
 | (_,v)::r=>refs v++fo r
def fA:Obj->List Nat
 | .cells _ pu _ _ cs=>bif pu then [] else eV cs
 | .mp _ ks vs=>eV ks++eV vs
 | .si _ _=>[]
 | .lp tm _ _ _ _ _=>fo tm
mutual
def cE (f:Nat->Option Nat):AV->AV
 | .ptr id o=>match f id with | some j=> .ptr j o | none=> .undef
 | .ak id o n=>match f id with | some j=> .ak j o n | none=> .undef
 | .map id=>match f id with | some j=> .map j | none=> .undef
 | .it id=>match f id with | some j=> .it j | none=> .undef
 | .fn (.f g) first cap=> .fn (.f g) (gm f first) (gm f cap)
 | .fn (.y l) first cap=>match f l with | some j=> .fn (.y j) (gm f first) (gm f cap) | none=> .undef
 | .agg cs=> .agg (gm f cs)
 | .aw cs=> .aw (gm f cs)
 | v=>v
def gm (f:Nat->Option Nat):List AV->List AV
 | []=>[]
 | v::r=>cE f v::gm f r
end
def ma (f:Nat->Option Nat):Env->Env
 | []=>[]
 | (i,v)::r=>(i,cE f v)::ma f r
def mE (f:Nat->Option Nat):Obj->Obj
 | .cells rw pu ex sz cs=> .cells rw pu ex sz (bif pu then cs else gm f cs)
 | .mp rw ks vs=> .mp rw (gm f ks) (gm f vs)
 | .si s pos=> .si s pos
 | .lp tm ps as_ body st pe=> .lp (ma f tm) ps as_ body st pe
def dE (tm:Env):List Nat->Env
 | []=>[]
 | i::r=>(i,ab tm i)::dE tm r
def mF (i:Nat):List Nat->Bool
 | []=>false
 | j::r=>bif yx j i then true else mF i r
def reach (hp:Hp) (base:Nat):Nat->List Nat->List Nat->List Nat
 | 0,_,seen=>seen
 | _+1,[],seen=>seen
 | n+1,id::jv,seen=>
  bif yJ id base||mF id seen then reach hp base n jv seen
  else match ap hp id with
   | some o=>reach hp base n (fA o++jv) (seen++[id])
   | none=>reach hp base n jv seen
def dC (base:Nat):Hp->List Nat
 | []=>[]
 | (id,o)::r=>bif yJ id base then fA o++dC base r else dC base r
def ns (i:Nat):List Nat->Nat->Option Nat
 | [],_=>none
 | j::r,k=>bif yx j i then some k else ns i r (k+1)
def lQ (base:Nat) (seen:List Nat) (id:Nat):Option Nat:=bif yJ id base then some id else ns id seen base
def nj (base:Nat) (f:Nat->Option Nat):Hp->Hp
 | []=>[]
 | (id,o)::r=>bif yJ id base then (id,mE f o)::nj base f r else nj base f r
def lR (hp:Hp) (f:Nat->Option Nat):List Nat->Nat->Hp->Hp
 | [],_,acc=>acc
 | id::r,k,acc=>match ap hp id with | some o=>lR hp f r (k+1) ((k,mE f o)::acc) | none=>lR hp f r (k+1) acc
def bA (live:List Nat) (s:St):St:=
 let tm:=dE s.tm live
 let seen:=reach s.hp s.base 100000 (fo tm++dC s.base s.hp) []
 let f:=lQ s.base seen
 {tm:=ma f tm,hp:=lR s.hp f seen s.base (nj s.base f s.hp),ct:=s.base+seen.length,base:=s.base}
def ru (hp:Hp) (sz:Nat):AV->Option (Nat×List AV)
 | .ae=>some (0,[])
 | .aO _ n cs=>bif yx cs.length (n*sz) then some (n,cs) else none
 | .ak id o n=>
  match ap hp id with
  | some (.cells _ _ _ _ cs)=>bif yE (o+n*sz) cs.length then some (n,slice o (n*sz) cs) else none
  | _=>none
 | _=>none
def NX:List Nat->List AV
 | []=>[]
 | b::r=> .int .u8 b::NX r
def CP:List Nat->List Nat->Bool
 | _,[]=>false
 | [],_::_=>true
 | a::x,b::y=>yJ a b||(yx a b&&CP x y)
def cN:List Nat->List Nat->Bool
 | [],[]=>true
 | a::x,b::y=>yx a b&&cN x y
 | _,_=>false
def ef:List Nat->List AV->List AV->Option Bool
 | [],[],[]=>some true
 | 0::ks,.bool a::x,.bool b::y=>match ef ks x y with | some r=>some ((a==b)&&r) | none=>none
 | 1::ks,.int k a::x,.int k' b::y=>if k=k' then (match ef ks x y with | some r=>some ((a==b)&&r) | none=>none) else none
 | 2::ks,.str a::x,.str b::y=>match ef ks x y with | some r=>some (cN a b&&r) | none=>none
 | _,_,_=>none
def iV:Ql->AV->AV->Option Bool
 | .b,.bool a,.bool b=>some (a==b)
 | .sl,.ae,.ae=>some true
 | .sl,.ae,.aO _ _ _=>some false
 | .sl,.ae,.ak _ _ _=>some false
 | .sl,.aO _ _ _,.ae=>some false
 | .sl,.ak _ _ _,.ae=>some false
 | .fn,.iH,.iH=>some true
 | .fn,.iH,.fn _ _ _=>some false
 | .fn,.fn _ _ _,.iH=>some false
 | .ag ks,.agg a,.agg b=>ef ks a b
 | _,_,_=>none
def intCmp (op:wX) (x y:Int):Option Bool:=
 match op with
 | .eql=>some (x==y)
 | .neq=>some (x !=y)
 | .lss=>some (decide (x<y))
 | .leq=>some (decide (x<=y))
 | .gtr=>some (decide (x>y))
 | .geq=>some (decide (x>=y))
 | _=>none
def mB (op:wX) (k:yU) (x y:Int):Option AV:=
 match op with
 | .add=>some (.int k (k.wrap (x+y)))
 | .sub=>some (.int k (k.wrap (x-y)))
 | .mul=>some (.int k (k.wrap (x*y)))
 | .quo=>if y=0 then none else some (.int k (k.wrap (x.tdiv y)))
 | .rem=>if y=0 then none else some (.int k (x.tmod y))
 | .and=>some (.int k (k.wrap (xG k.bits x&&&xG k.bits y).toNat))
 | .or=>some (.int k (k.wrap (xG k.bits x|||xG k.bits y).toNat))
 | .xor=>some (.int k (k.wrap (xG k.bits x^^^xG k.bits y).toNat))
 | .andNot=>some (.int k (k.wrap (xG k.bits x&&&~~~(xG k.bits y)).toNat))
 | .shl | .shr=>none
 | op=>match intCmp op x y with | some b=>some (.bool b) | none=>none
def DE (op:wX) (k:yU) (x y:Int):Option AV:=
 if y<0 then none else
 match op with
 | .shl=>some (.int k (k.wrap (x*2^(min y.toNat k.bits))))
 | .shr=>some (.int k (x.fdiv (2^(min y.toNat k.bits))))
 | _=>none
def Kl (op:wX) (x y:List Nat):Option AV:=
 match op with
 | .add=>bif yE (x.length+y.length) 9223372036854775807 then some (.str (x++y)) else none
 | .eql=>some (.bool (cN x y))
 | .neq=>some (.bool (!cN x y))
 | .lss=>some (.bool (CP x y))
 | .leq=>some (.bool (CP x y||cN x y))
 | .gtr=>some (.bool (!(CP x y||cN x y)))
 | .geq=>some (.bool (!CP x y))
 | _=>none
def UP (op:wX) (k:ud) (x y:Nat):Option AV:=
 let c:=k.format.order x y
 let ar (r:Option Nat):Option AV:=match r with | some b=>some (.dP k b) | none=>none
 match op with
 | .add=>ar (k.format.add x y)
 | .sub=>ar (k.format.sub x y)
 | .mul=>ar (k.format.mul x y)
 | .quo=>ar (k.format.div x y)
 | .eql=>some (.bool (c==some .eq))
 | .neq=>some (.bool (c !=some .eq))
 | .lss=>some (.bool (c==some .lt))
 | .leq=>some (.bool (c==some .lt||c==some .eq))
 | .gtr=>some (.bool (c==some .gt))
 | .geq=>some (.bool (c==some .gt||c==some .eq))
 | _=>none
def binOp (op:wX) (x y:AV):Option AV:=
 match x,y with
 | .int k a,.int k' b=>
  match op with
  | .shl | .shr=>DE op k a b
  | _=>if k=k' then mB op k a b else none
 | .dP k a,.dP k' b=>if k=k' then UP op k a b else none
 | .str a,.str b=>Kl op a b
 | _,_=>none
def unOp (op:UnOp) (x:AV):Option AV:=
 match op,x with
 | .neg,.int k n=>some (.int k (k.wrap (0-n)))
 | .xor,.int k n=>mB .xor k (if k.signed then -1 else k.max) n
 | .not,.bool b=>some (.bool !b)
 | .neg,.dP k b=>some (.dP k (b^^^2^(k.format.exponentBits+k.format.fractionBits)))
 | _,_=>none
def oP (c:Conv) (x:AV):Option AV:=
 match c,x with
 | .toInt k,.int _ n=>some (.int k (k.wrap n))
 | .toFlt k,.int _ n=>some (.dP k (k.nearest n))
 | .toInt k,.dP s b=>
  match (s.decode b).toInt .zero with
  | some n=>if k.min<=n/\n<=k.max then some (.int k n) else none
  | none=>none
 | .toFlt k,.dP s b=>
  if s=k then some (.dP k b) else
  match s.decode b with
  | .number sg m e=>if (k.decode (k.encode (.number sg m e))).isInfinity then none else some (.dP k (k.encode (.number sg m e)))
  | _=>none
 | .str,.str s=>some (.str s)
 | _,_=>none
def eY (sz:Nat) (ag:Bool) (cs:List AV):Option AV:=
 bif ag then (bif yE sz cs.length then some (.agg (cs.take sz)) else none)
 else match cs with | v::_=>some v | []=>none
def eC (x:AV):Option Nat:=
 match x with
 | .int _ n=>match n with | .ofNat k=>some k | .negSucc _=>none
 | _=>none
def de (tm:Env) (d:Nat):Option X->Option Nat
 | none=>some d
 | some x=>eC (aC tm x)
def fT (hp:Hp) (k:Cut) (x:AV) (tm:Env) (lo hi:Option X):Option AV:=
 match k,x with
 | .str,.str s=>
  match de tm 0 lo,de tm s.length hi with
  | some l,some h=>bif yE l h&&yE h s.length then some (.str ((s.take h).drop l)) else none
  | _,_=>none
 | .sl _,.ae=>
  match de tm 0 lo,de tm 0 hi with
  | some 0,some 0=>some .ae
  | _,_=>none
 | .sl sz,.aO ex n cs=>
  match de tm 0 lo,de tm n hi with
  | some l,some h=>bif yE l h&&yE h n then some (.aO (ex&&yx h n) (h-l) (slice (l*sz) ((h-l)*sz) cs)) else none
  | _,_=>none
 | .sl sz,.ak id o n=>
  match ap hp id with
  | some (.cells _ _ _ z _)=>
   match de tm 0 lo,de tm n hi with
   | some l,some h=>
    bif yE l h&&yE h n&&yx z sz then
     bif yx l h&& !yx l 0 then some (.aO false 0 []) else some (.ak id (o+l*sz) (h-l))
    else none
   | _,_=>none
  | _=>none
 | _,_=>none
def fill (tm:Env):List AV->List (Nat×Nat×X)->Option (List AV)
 | cs,[]=>some cs
 | cs,(o,sz,x)::r=>
  let new:=cellsOf (aC tm x)
  bif yx new.length sz&&yE (o+sz) cs.length&&cf new then fill tm (over o new cs) r else none
def Gl:AV->AV->Option Bool
 | .int k a,.int k' b=>if k=k' then some (a==b) else none
 | .str a,.str b=>some (cN a b)
 | .bool a,.bool b=>some (a==b)
 | _,_=>none
def Ak:Nat->AV->Bool
 | 0,.bool _=>true
 | 1,.int _ _=>true
 | 2,.str _=>true
 | _,_=>false
def D1 (k:AV):List AV->List AV->Option (Option AV)
 | [],_=>some none
 | k'::ks,v::vs=>match Gl k k' with | some true=>some (some v) | some false=>D1 k ks vs | none=>none
 | _::_,[]=>none
def Cs (k v:AV):List AV->List AV->Option (List AV×List AV)
 | [],[]=>some ([k],[v])
 | k'::ks,u::us=>
  match Gl k k' with
  | some true=>some (k'::ks,v::us)
  | some false=>match Cs k v ks us with | some (lD,WR)=>some (k'::lD,u::WR) | none=>none
  | none=>none
 | _,_=>none
def min2:AV->AV->Option AV
 | .int k x,.int _ y=>some (.int k (if y<x then y else x))
 | .dP k x,.dP _ y=>
  match k.format.order x y with
  | none=>none
  | some .lt=>some (.dP k x)
  | some .gt=>some (.dP k y)
  | some .eq=>some (.dP k (if (k.decode x).neg then x else y))
 | _,_=>none
def max2:AV->AV->Option AV
 | .int k x,.int _ y=>some (.int k (if y>x then y else x))
 | .dP k x,.dP _ y=>
  match k.format.order x y with
  | none=>none
  | some .lt=>some (.dP k y)
  | some .gt=>some (.dP k x)
  | some .eq=>some (.dP k (if (k.decode x).neg then y else x))
 | _,_=>none
def Cf (f:AV->AV->Option AV):AV->List AV->Option AV
 | a,[]=>some a
 | a,b::r=>match f a b with | some c=>Cf f c r | none=>none
def room:Nat:=1099511627776
abbrev gM:=Option (AV×Hp×Nat)
def jx (hp:Hp) (sz:Nat) (ag:Bool):AV->Option AV
 | .ptr id o=>match ap hp id with | some (.cells _ _ _ _ cs)=>eY sz ag (cs.drop o) | _=>none
 | .bi cs=>eY sz ag cs
 | _=>none
def Gm (k:Nat):AV->Option AV
 | .ptr id o=>some (.ptr id (o+k))
 | .bi cs=>bif yE k cs.length then some (.bi (cs.drop k)) else none
 | _=>none
def OB (o sz:Nat) (ag:Bool):AV->Option AV
 | .agg cs=>eY sz ag (cs.drop o)
 | _=>none
def iF (sz i:Nat):AV->Option AV
 | .ak id o n=>bif yJ i n then some (.ptr id (o+i*sz)) else none
 | .aO _ n cs=>bif yJ i n then some (.bi (cs.drop (i*sz))) else none
 | _=>none
def OC (len sz i:Nat):AV->Option AV
 | .ptr id o=>bif yJ i len then some (.ptr id (o+i*sz)) else none
 | .bi cs=>bif yJ i len then some (.bi (cs.drop (i*sz))) else none
 | _=>none
def nX (i:Nat):AV->Option AV
 | .str s=>match s[i]? with | some b=>some (.int .u8 b) | none=>none
 | _=>none
def Km (len sz:Nat) (ag:Bool) (i:Nat):AV->Option AV
 | .agg cs=>bif yJ i len then eY sz ag (cs.drop (i*sz)) else none
 | _=>none
def Cg (hp:Hp) (k:AV):AV->Option (Option AV)
 | .kF=>some none
 | .map id=>match ap hp id with | some (.mp _ ks vs)=>D1 k ks vs | _=>none
 | .jS ks vs=>D1 k ks vs
 | _=>none
def im (hp:Hp):Nat->AV->Option AV
 | 0,.str s=>some (.int .i64 s.length)
 | 1,.ae=>some (.int .i64 0)
 | 1,.aO _ n _=>some (.int .i64 n)
 | 1,.ak _ _ n=>some (.int .i64 n)
 | 2,.kF=>some (.int .i64 0)
 | 2,.jS ks _=>some (.int .i64 ks.length)
 | 2,.map id=>match ap hp id with | some (.mp _ ks _)=>some (.int .i64 ks.length) | _=>none
 | _,_=>none
def bH (tm:Env) (hp:Hp):Op->Option AV
 | .cm x=>some (aC tm x)
 | .pick c a b=>match aC tm c with | .bool t=>some (bif t then aC tm a else aC tm b) | _=>none
 | .eB zero parts=>match fill tm zero parts with | some cs=>some (.agg cs) | none=>none
 | .ld sz ag x=>jx hp sz ag (aC tm x)
 | .KD x=>
  match aC tm x with
  | .ptr id o=>some (.ptr id o)
  | .bi cs=>some (.bi cs)
  | .fn f a b=>some (.fn f a b)
  | _=>none
 | .bin op x y=>binOp op (aC tm x) (aC tm y)
 | .eq ne k x y=>match iV k (aC tm x) (aC tm y) with | some r=>some (.bool (ne !=r)) | none=>none
 | .un op x=>unOp op (aC tm x)
 | .cv k x=>oP k (aC tm x)
 | .oe f first cap=>some (.fn f (dS tm first) (dS tm cap))
 | .eJ k x lo hi=>fT hp k (aC tm x) tm lo hi
 | .off k x=>Gm k (aC tm x)
 | .Lz o sz ag x=>OB o sz ag (aC tm x)
 | .aY sz x i=>match eC (aC tm i) with | some j=>iF sz j (aC tm x) | none=>none
 | .He len sz x i=>match eC (aC tm i) with | some j=>OC len sz j (aC tm x) | none=>none
 | .mj x i=>match eC (aC tm i) with | some j=>nX j (aC tm x) | none=>none
 | .Bb len sz ag x i=>match eC (aC tm i) with | some j=>Km len sz ag j (aC tm x) | none=>none
 | .Qm kk zero ok m k=>
  bif Ak kk (aC tm k) then
   match Cg hp (aC tm k) (aC tm m) with
   | some (some v)=>some (bif ok then .aw [v,.bool true] else v)
   | some none=>some (bif ok then .aw [zero,.bool false] else zero)
   | none=>none
  else none
 | .ext i x=>match aC tm x with | .aw vs=>vs[i]? | _=>none
 | .len k x=>im hp k (aC tm x)
 | .mn xs=>match dS tm xs with | a::r=>Cf min2 a r | []=>none
 | .mx xs=>match dS tm xs with | a::r=>Cf max2 a r | []=>none
 | _=>none
def dt (tm:Env) (hp:Hp) (ct:Nat):Op->Option (AV×Obj)
 | .box sz x=>
  let cs:=cellsOf (aC tm x)
  bif yx cs.length sz&&cf cs then some (.ptr ct 0,.cells true (aK cs) true sz cs) else none
 | .dI n sz zero parts=>
  match fill tm zero parts with
  | some cs=>bif yx cs.length (n*sz) then some (.ak ct 0 n,.cells true (aK cs) true sz cs) else none
  | none=>none
 | .iw sz bytes zero len cap=>
  match eC (aC tm len),eC (aC tm cap) with
  | some l,some c=>
   bif yE l c&&(yE c room&&(yE (c*bytes) room&&(yx zero.length sz&&cf zero))) then
    some (.ak ct 0 l,.cells true (aK zero) (yx l c) sz (yz l zero).flatten)
   else none
  | _,_=>none
 | .Ba=>some (.map ct,.mp true [] [])
 | .qG x=>match aC tm x with | .str s=>some (.it ct,.si s 0) | _=>none
 | _=>none
def decodeL (s:List Nat) (i:Nat):Nat×Nat:=
 let at' (k:Nat):Nat:=s.getD (i+k) 0
 let cont (k:Nat):Bool:=decide (i+k<s.length)&&at' k/64==2
 let b0:=at' 0
 if b0<0x80 then (b0,1)
 else if b0/32==6&&cont 1 then
  let c:=(b0%32)*64+at' 1%64
  if c>=0x80 then (c,2) else (vS,1)
 else if b0/16==14&&cont 1&&cont 2 then
  let c:=(b0%16)*4096+(at' 1%64)*64+at' 2%64
  if c>=0x800&&yaE c then (c,3) else (vS,1)
 else if b0/8==30&&cont 1&&cont 2&&cont 3 then
  let c:=(b0%8)*262144+(at' 1%64)*4096+(at' 2%64)*64+at' 3%64
  if c>=0x10000&&yaE c then (c,4) else (vS,1)
 else (vS,1)
def Ar (hp:Hp) (sz:Nat):AV->Option (Nat×List AV)
 | .str b=>bif yx sz 1 then some (b.length,NX b) else none
 | v=>ru hp sz v
def dG (tm:Env) (hp:Hp) (ct:Nat):Op->gM
 | .st sz x v=>
  let new:=cellsOf (aC tm v)
  match aC tm x with
  | .ptr id o=>
   match ap hp id with
   | some (.cells true pu ex z cs)=>
    bif yx new.length sz&&yE (o+sz) cs.length&&cf new then
     some (.aw [],bf hp id (.cells true (pu&&aK new) ex z (over o new cs)),ct)
    else none
   | _=>none
  | _=>none
 | .qF kk m k v=>
  match aC tm m with
  | .map id=>
   match ap hp id with
   | some (.mp true ks vs)=>bif !Ak kk (aC tm k) then none else match Cs (aC tm k) (aC tm v) ks vs with | some (lD,eK)=>some (.aw [],bf hp id (.mp true lD eK),ct) | none=>none
   | _=>none
  | _=>none
 | .qH x=>
  match aC tm x with
  | .it id=>
   match ap hp id with
   | some (.si s pos)=>
    bif yJ pos s.length then
     match decodeL s pos with
     | (c,wd)=>some (.aw [.bool true,.int .i64 pos,.int .i32 c],bf hp id (.si s (pos+wd)),ct)
    else some (.aw [.bool false],hp,ct)
   | _=>none
  | _=>none
 | .dV sz bytes s x=>
  match Ar hp sz (aC tm x) with
  | none=>none
  | some (m,new)=>
   match aC tm s with
   | .ae=>
    bif yx m 0 then some (.ae,hp,ct)
    else bif yE m room&&(yE (m*bytes) room&&yJ 0 sz) then some (.ak ct 0 m,(ct,.cells true (aK new) false sz new)::hp,ct+1) else none
   | .aO true n cs=>
    bif yx m 0 then some (.aO true n cs,hp,ct)
    else bif yE (n+m) room&&(yE ((n+m)*bytes) room&&(yx cs.length (n*sz)&&yJ 0 sz)) then some (.ak ct 0 (n+m),(ct,.cells true (aK cs&&aK new) false sz (cs++new))::hp,ct+1) else none
   | .ak id o n=>
    match ap hp id with
    | some (.cells true pu _ z cs)=>
     bif yx z sz&&(yE (n+m) room&&(yE ((n+m)*bytes) room&&(yE (o+n*sz) cs.length&&(yJ 0 sz&&cf new)))) then
      some (.ak ct 0 (n+m),(ct,.cells true (pu&&aK new) false sz (slice o (n*sz) cs++new))::dL hp id,ct+1)
     else none
    | _=>none
   | _=>none
 | .qI sz d s=>
  match ru hp sz (aC tm s),aC tm d with
  | some (m,new),.ak id o n=>
   match ap hp id with
   | some (.cells true pu ex z cs)=>
    bif yx z sz&&(yE (o+n*sz) cs.length&&cf new) then
     some (.int .i64 (min m n:Nat),bf hp id (.cells true (pu&&aK new) ex z (over o (new.take (min m n*sz)) cs)),ct)
    else none
   | _=>none
  | _,_=>none
 | _=>none
def kB:X->List Nat | .t i=>[i] | .c _=>[]
def As:List X->List Nat
 | []=>[]
 | x::r=>kB x++As r
def Kn:Option X->List Nat | some x=>kB x | none=>[]
def Ko:List (Nat×Nat×X)->List Nat
 | []=>[]
 | (_,_,x)::r=>kB x++Ko r
def lO:Op->List Nat
 | .cm x | .box _ x | .ld _ _ x | .KD x | .un _ x | .cv _ x | .off _ x | .Lz _ _ _ x | .qG x | .qH x | .ext _ x | .len _ x=>kB x
 | .pick a b c | .qF _ a b c=>kB a++(kB b++kB c)
 | .eB _ ps | .dI _ _ _ ps=>Ko ps
 | .st _ a b | .bin _ a b | .eq _ _ a b | .aY _ a b | .He _ _ a b | .mj a b | .Bb _ _ _ a b | .Qm _ _ _ a b | .dV _ _ a b | .qI _ a b=>kB a++kB b
 | .oe _ a b=>As a++As b
 | .Ba=>[]
 | .iw _ _ _ a b=>kB a++kB b
 | .eJ _ x a b=>kB x++(Kn a++Kn b)
 | .call _ f xs=>kB f++As xs
 | .iE _ f xs=>kB f++As xs
 | .jf _ _ a b=>kB a++kB b
 | .mn xs | .mx xs=>As xs
def bK:Op->Nat
 | .cm _ | .pick _ _ _ | .eB _ _ | .KD _ | .bin _ _ _ | .eq _ _ _ _ | .un _ _ | .cv _ _ | .oe _ _ _ | .off _ _ | .Lz _ _ _ _ | .aY _ _ _ | .He _ _ _ _ | .mj _ _ | .Bb _ _ _ _ _ | .ext _ _ | .mn _ | .mx _=>0
 | .eJ .str _ _ _ | .len 0 _ | .len 1 _=>0
 | .st _ _ _ | .qF _ _ _ _ | .qH _ | .dV _ _ _ _ | .qI _ _ _ | .iE _ _ _ | .jf _ _ _ _ | .call .heap _ _ | .call .dyn _ _=>2
 | _=>1
def UQ:Option (Nat×Bool)->List Nat | some (t,_)=>[t] | none=>[]
def DK (o:br):List Nat:=UQ o.guard++lO o.op
def GB (d:Option Nat) (l:List Nat):Bool:=match d with | some i=>mF i l | none=>false
def agd (d e:Option Nat):Bool:=match d,e with | some i,some j=>yx i j | _,_=>false
def NB (a b:br):Bool:=GB a.dst (DK b)||GB b.dst (DK a)||agd a.dst b.dst
def GC (sz:Nat) (ag:Bool) (t:Nat):List (Nat×Bool×Nat)->Bool
 | []=>false
 | (s,g,u)::r=>(yx s sz&&(g==ag&&yx u t))||GC sz ag t r
def Gn (t:Nat):List br->Bool
 | []=>true
 | o::r=> !GB o.dst [t]&&Gn t r
def JC (a b:br) (r:List br):Bool:=
 match a.guard,a.op,b.op with
 | none,.ld sz ag (.t t),.iE rs _ _=>GC sz ag t rs&&Gn t (a::r)
 | none,.ld sz ag (.t t),.jf rs _ _ _=>GC sz ag t rs&&Gn t (a::r)
 | _,_,_=>false
def Ji (a b:br):Bool:=
 match bK a.op,bK b.op with
 | 1,2 | 2,1 | 2,2=>true
 | _,_=>false
def NC (m:Nat) (b:br):List br->Nat->Bool
 | [],_=>true
 | a::r,i=>(uo m i|| !(NB a b||(Ji a b&& !JC a b r)))&&NC m b r (i+1)
def FG (done:List br):List br->List Nat->Bool
 | [],_=>true
 | b::r,m::ms=>NC m b done 0&&FG (done++[b]) r ms
 | _::_,[]=>false
def NY (m:Nat):List br->Nat->List (Nat×Bool×Nat)
 | [],_=>[]
 | a::r,i=>
  match uo m i,a with
  | false,⟨_,none,.ld sz ag (.t t)⟩=>(sz,ag,t)::NY m r (i+1)
  | _,_=>NY m r (i+1)
def stOp (rs:List (Nat×Bool×Nat)) (sz:Nat) (x v:X):Op:=match rs with | []=> .st sz x v | rs=> .jf rs sz x v
def AF (done:List br):List br->List Nat->List br
 | ⟨d,g,.iE _ f xs⟩::r,m::ms=>let o:br:=⟨d,g,.iE (NY m done 0) f xs⟩;o::AF (done++[o]) r ms
 | ⟨d,g,.st sz x v⟩::r,m::ms=>let o:br:=⟨d,g,stOp (NY m done 0) sz x v⟩;o::AF (done++[o]) r ms
 | o::r,_::ms=>o::AF (done++[o]) r ms
 | l,_=>l
abbrev aI:=Nat->Option aJ
structure Lib where
 pure:Nat->Option (List AV->Option AV)
 heap:Nat->Option (Hp->Nat->List AV->gM)
abbrev cT:=VC->St->Option (Ex×St)
def fM:Nat->List AV->Env
 | _,[]=>[]
 | i,v::r=>(i,v)::fM (i+1) r
def results1 (s:St):RV->Option AV
 | .t i=>some (ab s.tm i)
 | .cell i sz ag=>
  match ab s.tm i with
  | .ptr id o=>match ap s.hp id with | some (.cells _ _ _ _ cs)=>eY sz ag (cs.drop o) | _=>none
  | .bi cs=>eY sz ag cs
  | _=>none
def mw (s:St):List RV->Option (List AV)
 | []=>some []
 | r::rest=>match results1 s r,mw s rest with | some v,some vs=>some (v::vs) | _,_=>none
def gX (s:St) (rs:List RV):Option AV:=
 match mw s rs with
 | some [v]=>some v
 | some vs=>some (.aw vs)
 | none=>none
def bY (P:aI) (L:Lib) (self:cT) (n:Nat) (vals:List AV):Option AV:=
 match L.pure n with
 | some sp=>sp vals
 | none=>
  match P n with
  | none=>none
  | some F=>
   match self F.body ⟨fM 0 vals,[],0,0⟩ with
   | some (.normal,s) | some (.ret,s)=>match gX s F.dM with | some v=>result s.hp v | none=>none
   | _=>none
def Uk:Ex->zg
 | .normal=> .none
 | .ret=> .ret
 | .exit id=> .exit id
def rB:Env->List Nat->List AV->Option Env
 | tm,[],[]=>some tm
 | tm,p::ps,v::vs=>rB ((p,v)::tm) ps vs
 | _,_,_=>none
def iS (P:aI) (L:Lib) (self:cT) (hp:Hp) (ct:Nat) (n:Nat) (vals:List AV):gM:=
 match L.heap n with
 | some sp=>sp hp ct vals
 | none=>
  match P n with
  | none=>none
  | some F=>
   match self F.body ⟨fM 0 vals,hp,ct,ct⟩ with
   | some (.normal,s) | some (.ret,s)=>match gX s F.dM with | some v=>some (v,s.hp,s.ct) | none=>none
   | _=>none
def jq (self:cT) (hp:Hp) (ct:Nat) (l:Nat) (xs:List AV):gM:=
 match ap hp l with
 | some (.lp tm ps as_ body 0 _)=>
  match rB tm ps xs with
  | none=>none
  | some tm'=>
   match self as_ ⟨tm',hp,ct,ct⟩ with
   | some (.normal,s1)=>
    match ap s1.hp l with
    | some (.lp iL zF EE D2 0 qJ)=>
     match self body ⟨s1.tm,bf s1.hp l (.lp iL zF EE D2 1 qJ),s1.ct,s1.ct⟩ with
     | some (ex,s2)=>
      match ap s2.hp l with
      | some (.lp oZ CQ LA Kp 1 _)=>
       match ex with
       | .normal=>some (.bool true,bf s2.hp l (.lp oZ CQ LA Kp 0 .none),s2.ct)
       | ex=>some (.bool false,bf s2.hp l (.lp oZ CQ LA Kp 2 (Uk ex)),s2.ct)
      | _=>none
     | none=>none
    | _=>none
   | _=>none
 | _=>none
def dR (P:aI) (L:Lib) (self:cT) (hp:Hp) (ct:Nat) (m:Md) (fv:AV) (xs:List AV):gM:=
 match fv with
 | .fn (.f n) first cap=>
  match m with
  | .pure=>
   match cW deep hp (first++(xs++cap)) with
   | some (vals,bI)=>match bY P L self n vals with | some r=>some (shut r,bI,ct) | none=>none
   | none=>none
  | .own=>
   match cW deep hp (first++(xs++cap)) with
   | some (vals,bI)=>match bY P L self n vals with | some r=>some (own bI ct r) | none=>none
   | none=>none
  | .heap=>iS P L self hp ct n (first++(xs++cap))
  | .dyn=>
   bif aK (first++(xs++cap)) then
    match bY P L self n (first++(xs++cap)) with | some r=>some (shut r,hp,ct) | none=>none
   else iS P L self hp ct n (first++(xs++cap))
 | .fn (.y l) _ _=>
  match m with
  | .heap | .dyn=>jq self hp ct l xs
  | _=>none
 | _=>none
def Pg:AV->AV->Bool
 | .int k a,.int k' b=>decide (k=k')&&a==b
 | .bool a,.bool b=>a==b
 | .str a,.str b=>cN a b
 | .ae,.ae=>true
 | .lm,.lm=>true
 | .ptr i o,.ptr j p=>yx i j&&yx o p
 | .ak i o n,.ak j p m=>yx i j&&(yx o p&&yx n m)
 | .map i,.map j=>yx i j
 | _,_=>false
def rz (tm:Env) (hp ao:Hp):List (Nat×Bool×Nat)->Bool
 | []=>true
 | (sz,ag,x)::r=>
  match jx hp sz ag (ab tm x),jx ao sz ag (ab tm x) with
  | some a,some b=>Pg a b&&rz tm hp ao r
  | _,_=>false
def pQ (tm:Env) (id:Nat):List (Nat×Bool×Nat)->Bool
 | []=>true
 | (_,_,x)::r=>(match ab tm x with | .ptr j _=> !yx j id | .bi _=>true | _=>false)&&pQ tm id r
def bC (P:aI) (L:Lib) (self:cT) (tm:Env) (hp:Hp) (ct:Nat) (o:Op):gM:=
 match o with
 | .call m f xs=>dR P L self hp ct m (aC tm f) (dS tm xs)
 | .iE rs f xs=>
  match dR P L self hp ct .dyn (aC tm f) (dS tm xs) with
  | some (v,ao,bj)=>bif rz tm hp ao rs then some (v,ao,bj) else none
  | none=>none
 | .jf rs sz x v=>
  match aC tm x with
  | .ptr id _=>bif pQ tm id rs then dG tm hp ct (.st sz x v) else none
  | _=>none
 | .st .. | .qF .. | .qH .. | .dV .. | .qI .. =>dG tm hp ct o
 | .box .. | .dI .. | .iw .. | .Ba | .qG .. =>match dt tm hp ct o with | some (v,b)=>some (v,(ct,b)::hp,ct+1) | none=>none
 | o=>match bH tm hp o with | some v=>some (v,hp,ct) | none=>none
def put (d:Option Nat) (v:AV) (tm:Env):Env:=
 match d with
 | some i=>(i,v)::tm
 | none=>tm
def ej (P:aI) (L:Lib) (self:cT):List br->St->Option St
 | [],s=>some s
 | ⟨d,g,o⟩::r,s=>
  let want:=match g with | none=>some true | some (t,b)=>match ab s.tm t with | .bool c=>some (c==b) | .aw []=>some false | _=>none
  match want with
  | some true=>
   match bC P L self s.tm s.hp s.ct o with
   | some (v,hp,ct)=>ej P L self r {s with tm:=put d v s.tm,hp:=hp,ct:=ct}
   | none=>none
  | some false=>ej P L self r {s with tm:=put d (.aw []) s.tm}
  | none=>none
def pX:List Nat->St->Option St
 | [],s=>some s
 | t::r,s=>
  match freeze deep s.hp (ab s.tm t) with
  | some (v,hp)=>pX r {s with tm:=(t,v)::s.tm,hp:=hp}
  | none=>none
def bL (P:aI) (L:Lib) (self:cT):VC->St->Option (Ex×St)
 | .skip,s=>some (.normal,s)
 | .aT ops,s=>match ej P L self ops s with | some s'=>some (.normal,s') | none=>none
 | .seq a b,s=>
  match bL P L self a s with
  | some (.normal,s1)=>bL P L self b s1
  | r=>r
 | .cond x a b,s=>
  match aC s.tm x with
  | .bool t=>bif t then bL P L self a s else bL P L self b s
  | _=>none
 | .aP id a,s=>
  match bL P L self a s with
  | some (.exit j,s1)=>bif yx j id then some (.normal,s1) else some (.exit j,s1)
  | r=>r
 | .kp live,s=>some (.normal,bA live s)
 | .fz ts,s=>match pX ts s with | some s'=>some (.normal,s') | none=>none
 | .loop live a,s=>
  match bL P L self a (bA live s) with
  | some (.normal,s1)=>self (.loop live a) s1
  | r=>r
 | .rf f ps as_ body,s=>
  match aC s.tm f with
  | .fn (.f n) first cap=>
   match L.heap n with
   | some _=>none
   | none=>
    match iS P L self ((s.ct,.lp s.tm ps as_ body 0 .none)::s.hp) (s.ct+1) n (first++(.fn (.y s.ct) [] []::cap)) with
    | some (_,hp,ct)=>
     match ap hp s.ct with
     | some (.lp _ _ _ _ st pe)=>
      bif yx st 1 then none else
      match pe with
      | .none=>some (.normal,{s with hp:=dL hp s.ct,ct:=ct})
      | .ret=>some (.ret,{s with hp:=dL hp s.ct,ct:=ct})
      | .exit id=>some (.exit id,{s with hp:=dL hp s.ct,ct:=ct})
     | _=>none
    | none=>none
  | _=>none
 | .exit id,s=>some (.exit id,s)
 | .ret,s=>some (.ret,s)
def ev (P:aI) (L:Lib) (n:Nat):cT:=Nat.rec (fun _ _=>none) (fun _ ih=>bL P L ih) n
def WS (P:aI) (L:Lib) (n:Nat) (f:Nat) (vals:List AV):Option AV:=bY P L (ev P L n) f vals
end
section
open Go
structure Pl where
 b:Nat
 o:Nat
 e:Nat
 z:Nat
abbrev Mp:=Nat->Option Pl
section
variable (ai:Nat->Nat) (m:Mp) (S:Nat->Prop) (w:yh)
mutual
def aj:AV->yf->Prop
 | .int k n,v=>v= .int k n
 | .bool b,v=>v= .bool b
 | .dP k b,v=>v= .float k b
 | .str s,v=>∃t:ByteArray,v= .string t/\t.data.toList.map yX=s
 | .lm,v=>v= .pointer none
 | .ptr id o,v=>∃p,m id=some p/\v= .pointer (some ⟨p.b,p.o+o,none⟩)
 | .bi cs,v=>∃b o,v= .pointer (some ⟨b,o,none⟩)/\(cs=[]\/S b)/\aK cs=true/\ck cs b o
 | .ae,v=>v= .slice none 0 0
 | .aO ex n cs,v=>(∃b o c,v= .slice (some ⟨b,o,none⟩) n c/\n<=c/\(ex=true->c=n)/\(cs=[]\/S b)/\aK cs=true/\ck cs b o)\/(∃a,v= .slice (some a) 0 0/\n=0/\cs=[])
 | .cR _ _ _ _,_=>False
 | .ak id o n,v=>∃p c,m id=some p/\v= .slice (some ⟨p.b,p.o+o,none⟩) n c/\n<=c/\o+c*p.z=p.e
 | .fn (.f g) first cap,v=>∃fi ca:Array yf,v= .func (.func (ai g)) fi ca/\au first fi.toList/\au cap ca.toList
 | .fn (.y l) _ _,v=>∃p,m l=some p/\v= .func (.yield p.b) #[] #[]
 | .iH,v=>v= .nilFunc
 | .kF,v=>v= .map none
 | .map id,v=>∃p,m id=some p/\v= .map (some p.b)
 | .jS ks vs,v=>∃b es clock,v= .map (some b)/\S b/\aK ks=true/\aK vs=true/\w.heap[b]? =some (.map es clock)/\
   au ks (es.toList.map (·.key))/\au vs (es.toList.map (·.val))
 | .it id,v=>∃p,m id=some p/\v= .pointer (some ⟨p.b,0,none⟩)
 | .agg cs,v=>∃xs:Array yf,v= .agg xs/\au cs xs.toList
 | .aw cs,v=>∃xs:Array yf,v= .tuple xs/\au cs xs.toList
 | .undef,_=>True
def au:List AV->List yf->Prop
 | [],us=>us=[]
 | c::cs,us=>∃u r,us=u::r/\aj c u/\au cs r
def ck:List AV->Nat->Nat->Prop
 | [],_,_=>True
 | c::cs,b,o=>(∃u,w.cell? ⟨b,o,none⟩=some u/\aj c u)/\ck cs b (o+1)
end
end
def gI (S:Nat->Prop) (w w':yh):Prop:=∀b,S b->w'.heap[b]? =w.heap[b]?
def MS {w w':yh} {b o:Nat} (h:w'.heap[b]? =w.heap[b]?):w'.cell? ⟨b,o,none⟩=w.cell? ⟨b,o,none⟩:=by
 simp only [World.cell?,h]
section
variable {ai:Nat->Nat} {m m':Mp} {S S':Nat->Prop} {w w':yh}
mutual
def mY (hm:∀id p,m id=some p->m' id=some p) (hS:∀b,S b->S' b) (hw:gI S w w'):
  ∀(v:AV) (u:yf),aj ai m S w v u->aj ai m' S' w' v u
 | .int _ _,_,h | .bool _,_,h | .dP _ _,_,h | .str _,_,h | .lm,_,h | .ae,_,h | .iH,_,h | .kF,_,h | .undef,_,h=>by
  simpa only [aj] using h
 | .ptr id o,u,h=>by
  simp only [aj] at h ⊢;obtain ⟨p,h1,h2⟩:=h;exact ⟨p,hm _ _ h1,h2⟩
 | .bi cs,u,h=>by
  simp only [aj] at h ⊢;obtain ⟨b,o,h1,h2,h3,h4⟩:=h;refine ⟨b,o,h1,h2.imp id (hS b),h3,?_⟩;rcases h2 with rfl | h2
  ·simp only [ck]
  ·exact R6 hm hS hw cs b o h2 h4
 | .aO ex n cs,u,h=>by
  simp only [aj] at h ⊢;rcases h with ⟨b,o,c,h1,h2,h3,h4,h5,h6⟩ | h
  ·refine .inl ⟨b,o,c,h1,h2,h3,h4.imp id (hS b),h5,?_⟩;rcases h4 with rfl | h4
   ·simp only [ck]
   ·exact R6 hm hS hw cs b o h4 h6
  ·exact .inr h
 | .cR _ _ _ _,u,h=>by simp only [aj] at h
 | .ak id o n,u,h=>by
  simp only [aj] at h ⊢;obtain ⟨p,c,h1,h2⟩:=h;exact ⟨p,c,hm _ _ h1,h2⟩
 | .fn (.f g) first cap,u,h=>by
  simp only [aj] at h ⊢;obtain ⟨fi,ca,h1,h2,h3⟩:=h;exact ⟨fi,ca,h1,iB hm hS hw first _ h2,iB hm hS hw cap _ h3⟩
 | .fn (.y l) _ _,u,h=>by
  simp only [aj] at h ⊢;obtain ⟨p,h1,h2⟩:=h;exact ⟨p,hm _ _ h1,h2⟩
 | .map id,u,h=>by
  simp only [aj] at h ⊢;obtain ⟨p,h1,h2⟩:=h;exact ⟨p,hm _ _ h1,h2⟩
 | .jS ks vs,u,h=>by
  simp only [aj] at h ⊢;obtain ⟨b,es,clock,h1,h2,h3,h4,h5,h6,h7⟩:=h;exact ⟨b,es,clock,h1,hS b h2,h3,h4,(hw b h2).trans h5,iB hm hS hw ks _ h6,iB hm hS hw vs _ h7⟩
 | .it id,u,h=>by
  simp only [aj] at h ⊢;obtain ⟨p,h1,h2⟩:=h;exact ⟨p,hm _ _ h1,h2⟩
 | .agg cs,u,h=>by
  simp only [aj] at h ⊢;obtain ⟨xs,h1,h2⟩:=h;exact ⟨xs,h1,iB hm hS hw cs _ h2⟩
 | .aw cs,u,h=>by
  simp only [aj] at h ⊢;obtain ⟨xs,h1,h2⟩:=h;exact ⟨xs,h1,iB hm hS hw cs _ h2⟩
def iB (hm:∀id p,m id=some p->m' id=some p) (hS:∀b,S b->S' b) (hw:gI S w w'):
  ∀(vs:List AV) (us:List yf),au ai m S w vs us->au ai m' S' w' vs us
 | [],us,h=>by simpa only [au] using h
 | v::r,us,h=>by
  simp only [au] at h ⊢;obtain ⟨u,t,h1,h2,h3⟩:=h;exact ⟨u,t,h1,mY hm hS hw v u h2,iB hm hS hw r t h3⟩
def R6 (hm:∀id p,m id=some p->m' id=some p) (hS:∀b,S b->S' b) (hw:gI S w w'):
  ∀(cs:List AV) (b o:Nat),S b->ck ai m S w cs b o->ck ai m' S' w' cs b o
 | [],_,_,_,_=>by simp only [ck]
 | c::cs,b,o,hb,h=>by
  simp only [ck] at h ⊢;obtain ⟨⟨u,h1,h2⟩,h3⟩:=h;exact ⟨⟨u,(MS (hw b hb)).trans h1,mY hm hS hw c u h2⟩,R6 hm hS hw cs b (o+1) hb h3⟩
end
end
end
section
open Go
structure Hint where
 n:Nat
 cE:FuncId->Option Nat
 live:Nat->List Nat
 out:Nat->Option (List Nat)
 mode:Nat->Md
 fz:Nat->List Nat
section
variable (P:y7) (H:Hint)
mutual
def fe:yf->AV
 | .int k n=> .int k n
 | .bool b=> .bool b
 | .float k b=> .dP k b
 | .string s=> .str (s.data.toList.map yX)
 | .pointer none=> .lm
 | .slice none 0 0=> .ae
 | .map none=> .kF
 | .nilFunc=> .iH
 | .agg ⟨cs⟩=> .agg (FP cs)
 | .tuple ⟨cs⟩=> .aw (FP cs)
 | _=> .undef
def FP:List yf->List AV
 | []=>[]
 | v::r=>fe v::FP r
end
def aV:xB->X
 | .tmp t=> .t t
 | .const v=> .c (fe v)
 | .global _=> .c .undef
 | .func f=>match H.cE f with | some g=> .c (.fn (.f g) [] []) | none=> .c .undef
def ir:List xB->List X
 | []=>[]
 | x::r=>aV H x::ir r
def da (t:yv):Option Nat:=match P.info? t with | some i=>some i.size | none=>none
def CR (t:yv):Option Nat:=match P.info? t with | some i=>some i.bytes | none=>none
def nY (t:yv):Option AV:=match P.info? t with | some i=>(match i.zero with | some v=>some (fe v) | none=>none) | none=>none
def eD (t:yv):Option Bool:=match P.underlying t with | some (.struct _) | some (.array _ _)=>some true | some _=>some false | none=>none
def bad:Op:= .call .pure (.c .undef) []
def partsOf (place:Nat->Option (Nat×Nat)):List (Nat×xB)->Option (List (Nat×Nat×X))
 | []=>some []
 | (i,x)::r=>
  match place i,partsOf place r with
  | some (o,s),some l=>some ((o,s,aV H x)::l)
  | _,_=>none
def Fm (self:yv->Option (List Nat)):List Field->Nat->Option (List Nat)
 | [],_=>some []
 | f::r,o=>
  match self f.type,da P f.type with
  | some ks,some s=>
   bif f.name != "_"&&yx f.offset o&&yx ks.length s&& !P.stoodInHeld f.type then
    (match Fm self r (o+s) with | some l=>some (ks++l) | none=>none)
   else none
  | _,_=>none
def kinds:Nat->yv->Option (List Nat)
 | 0,_=>none
 | n+1,t=>
  match P.underlying t with
  | some .bool=>some [0]
  | some (.int _)=>some [1]
  | some .string=>some [2]
  | some (.struct fs)=>Fm P (fun u=>kinds n u) fs.toList 0
  | some (.array k e)=>
   match kinds n e,da P e with
   | some ks,some s=>bif yx ks.length s&& !P.stoodInHeld e then some (yz k ks).flatten else none
   | _,_=>none
  | _=>none
def keyOf (t:yv):Option Nat:=
 match P.underlying t with
 | some .bool=>some 0
 | some (.int _)=>some 1
 | some .string=>some 2
 | _=>none
def Al (ne:Bool) (t:yv) (a b:xB):Op:=
 match kinds P 20 t with
 | some ks=>bif P.stoodInHeld t||P.eqGuardType P.depth t then bad else .eq ne (.ag ks) (aV H a) (aV H b)
 | none=>bad
def sS (ne:Bool) (op:wX) (t:yv) (a b:xB):Op:=
 match P.underlying t with
 | some (.int _) | some .string | some (.float _)=> .bin op (aV H a) (aV H b)
 | some .bool=> .eq ne .b (aV H a) (aV H b)
 | some (.slice _)=> .eq ne .sl (aV H a) (aV H b)
 | some (.func _ _ _)=> .eq ne .fn (aV H a) (aV H b)
 | some (.struct _) | some (.array _ _)=>Al P H ne t a b
 | _=>bad
def bw (k:Nat) (o:yY):Op:=
 let x (y:xB):X:=aV H y
 match o.op with
 | .move a | .assign a=> .cm (x a)
 | .pick c a b=> .pick (x c) (x a) (x b)
 | .alloc t=>match da P t,nY P t with | some s,some z=> .box s (.c z) | _,_=>bad
 | .box t v=>match da P t with | some s=> .box s (x v) | none=>bad
 | .build t parts=>
  match P.underlying t,nY P t with
  | some (.struct fs),some (.agg z)=>
   match fs.toList.mapM (fun f=>(P.info? f.type).map fun i=>(f.offset,i.size)) with
   | some pl=>(match partsOf H (fun i=>pl[i]?) parts.toList with | some ps=> .eB z ps | none=>bad)
   | none=>bad
  | some (.array _ e),some (.agg z)=>
   match da P e with
   | some s=>(match partsOf H (fun i=>some (i*s,s)) parts.toList with | some ps=> .eB z ps | none=>bad)
   | none=>bad
  | _,_=>bad
 | .buildSlice t n parts=>
  match P.underlying t with
  | some (.slice e)=>
   match da P e,nY P e with
   | some s,some z=>
    bif yE (n*s) 16777216 then
     (match partsOf H (fun i=>some (i*s,s)) parts.toList with | some ps=> .dI n s (yz n (cellsOf z)).flatten ps | none=>bad)
    else bad
   | _,_=>bad
  | _=>bad
 | .load t a=>match da P t,eD P t with | some s,some ag=> .ld s ag (x a) | _,_=>bad
 | .store t a v=>match da P t with | some s=> .st s (x a) (x v) | none=>bad
 | .nilCheck a=> .KD (x a)
 | .binOp op t a b _=>
  match op with
  | .eql=>sS P H false op t a b
  | .neq=>sS P H true op t a b
  | _=> .bin op (x a) (x b)
 | .unOp op _ a=> .un op (x a)
 | .convert s d a=>
  match P.underlying s,P.underlying d with
  | some (.int _),some (.int k) | some (.float _),some (.int k)=> .cv (.toInt k) (x a)
  | some (.int _),some (.float k) | some (.float _),some (.float k)=> .cv (.toFlt k) (x a)
  | some .string,some .string=> .cv .str (x a)
  | _,_=>bad
 | .makeFunc (.func f) first cap=>match H.cE f with | some g=> .oe (.f g) (ir H first.toList) (ir H cap.toList) | none=>bad
 | .makeMap t none=>match P.underlying t with | some (.map ke _)=>(match keyOf P ke with | some _=> .Ba | none=>bad) | _=>bad
 | .makeSlice t l c=>
  match P.underlying t with
  | some (.slice e)=>(match da P e,CR P e,nY P e with | some s,some b,some z=> .iw s b (cellsOf z) (x l) (x c) | _,_,_=>bad)
  | _=>bad
 | .slice t a lo hi none=>
  match P.underlying t with
  | some .string=> .eJ .str (x a) (lo.map x) (hi.map x)
  | some (.slice e)=>(match da P e with | some s=> .eJ (.sl s) (x a) (lo.map x) (hi.map x) | none=>bad)
  | some (.array n e)=>(match da P e with | some s=> .eJ (.ar n s) (x a) (lo.map x) (hi.map x) | none=>bad)
  | _=>bad
 | .fieldAddr t a i=>
  match P.underlying t with
  | some (.struct fs)=>
   match fs[i]? with
   | some f=>(match da P f.type with | some (_+1)=> .off f.offset (x a) | _=>bad)
   | none=>bad
  | _=>bad
 | .field t a i=>
  match P.underlying t with
  | some (.struct fs)=>
   match fs[i]? with
   | some f=>(match da P f.type,eD P f.type with | some s,some ag=> .Lz f.offset s ag (x a) | _,_=>bad)
   | none=>bad
  | _=>bad
 | .indexAddr t a i=>
  match P.underlying t with
  | some (.slice e)=>(match da P e with | some s=> .aY s (x a) (x i) | none=>bad)
  | some (.array n e)=>(match da P e with | some s=> .He n s (x a) (x i) | none=>bad)
  | _=>bad
 | .index t a i=>
  match P.underlying t with
  | some .string=> .mj (x a) (x i)
  | some (.array n e)=>(match da P e,eD P e with | some s,some ag=> .Bb n s ag (x a) (x i) | _,_=>bad)
  | _=>bad
 | .lookup t a i ok=>
  match P.underlying t with
  | some (.map ke e)=>(match keyOf P ke,nY P e with | some kk,some z=> .Qm kk z ok (x a) (x i) | _,_=>bad)
  | _=>bad
 | .mapUpdate t a i v | .insert t a i v=>
  match P.underlying t with
  | some (.map ke _)=>(match keyOf P ke with | some kk=> .qF kk (x a) (x i) (x v) | none=>bad)
  | _=>bad
 | .range t a=>match P.underlying t with | some .string=> .qG (x a) | _=>bad
 | .next it true=> .qH (x it)
 | .extract t i=> .ext i (x t)
 | .call c=>
  match c.callee with
  | .value f=>(match H.mode k with | .dyn=> .iE [] (x f) (ir H c.args.toList) | md=> .call md (x f) (ir H c.args.toList))
  | .builtin b=>
   match b,c.args.toList,c.argTypes.toList with
   | .append,[s,a],[t,u]=>
    match P.underlying t,P.underlying u with
    | some (.slice e),some (.slice _) | some (.slice e),some .string=>
     (match da P e,CR P e,nY P e with | some sz,some by',some z=>(bif yx (cellsOf z).length sz then .dV sz by' (x s) (x a) else bad) | _,_,_=>bad)
    | _,_=>bad
   | .len,[a],[t]=>
    match P.underlying t with
    | some (.array n _)=> .cm (.c (.int .i64 n))
    | some .string=> .len 0 (x a)
    | some (.slice _)=> .len 1 (x a)
    | some (.map _ _)=> .len 2 (x a)
    | _=>bad
   | .copy,[d,s],[t,_]=>
    match P.underlying t with
    | some (.slice e)=>(match da P e with | some sz=> .qI sz (x d) (x s) | none=>bad)
    | _=>bad
   | .min,l,_=> .mn (ir H l)
   | .max,l,_=> .mx (ir H l)
   | _,_,_=>bad
  | _=>bad
 | _=>bad
def Ul (o:yY):Bool:=match o.op with | .call {callee:= .value _,..}=>true | _=>false
def Kq (d:Option Nat):Bool:=match d with | some i=>yJ i H.n | none=>true
def AG (n:Nat):List Nat->Bool
 | []=>true
 | i::r=>yJ i n&&AG n r
def DF (ops:Array yY):List yY->Nat->List br×Nat
 | [],k=>([],k)
 | o::r,k=>
  let g:=match o.guard with
   | none=>some none
   | some (j,b)=>match (ops[j]?).bind (·.dst) with | some t=>some (some (t,b)) | none=>none
  match DF ops r (k+(bif Ul o then 1 else 0)) with
  | (l,k')=>
   match g,Kq H o.dst with
   | some g,true=>(⟨o.dst,g,bw P H k o⟩::l,k')
   | _,_=>(⟨o.dst,none,bad⟩::l,k')
def B3 (acc:List Nat):List Edge->Nat
 | []=>0
 | e::r=>bif Region.binds .any e then (2^e.on|||acc.getD e.on 0)|||B3 acc r else B3 acc r
def nk (acc:List Nat):List yY->List Nat
 | []=>acc
 | o::r=>nk (acc++[B3 acc o.after.toList]) r
def Jj:List yY->Nat->Bool
 | [],_=>true
 | o::r,i=>o.after.toList.all (fun e=> !Region.binds .any e||yJ e.on i)&&Jj r (i+1)
def NZ (ops:Array yY) (draw:Bool) (k:Nat):List br×Nat:=
 match DF P H ops ops.toList k with
 | (l,k')=>
  bif draw then
   (let ms:=nk [] ops.toList
    let l':=AF [] l ms
    bif Jj ops.toList 0&&FG [] l' ms then (l',k') else ([⟨none,none,bad⟩],k'))
  else (l,k')
def asC:wM->Bool
 | .loop _=>true
 | _=>false
def comp:wM->Nat->Nat->VC×Nat×Nat
 | .skip,l,k | .label _,l,k=>(.skip,l,k)
 | .region i ops d,l,k=>match NZ P H ops d k with | (r,k')=>((match H.fz i with | []=> .aT r | t::ts=> .seq (.fz (t::ts)) (.aT r)),l,k')
 | .seq a b,l,k=>match comp a l k with | (a',l1,k1)=>match comp b l1 k1 with | (b',l2,k2)=>(.seq a' b',l2,k2)
 | .cond c a b,l,k=>
  match comp a (l+1) k with
  | (a',l1,k1)=>
   match comp b l1 k1 with
   | (b',l2,k2)=>(match H.out l with | some o=> .seq (.cond (aV H c) a' b') (.kp o) | none=> .cond (aV H c) a' b',l2,k2)
 | .block id a,l,k=>
  match comp a l k with
  | (a',r)=>(match asC a,H.out l with | true,some o=> .seq (.aP id a') (.kp o) | _,_=> .aP id a',r)
 | .loop a,l,k=>match comp a (l+1) k with | (a',r)=>(.loop (H.live l) a',r)
 | .rangeFunc f ps as_ body,l,k=>
  match comp as_ l k with | (as',l1,k1)=>match comp body l1 k1 with | (b',l2,k2)=>(bif AG H.n ps.toList then .rf (aV H f) ps.toList as' b' else .aT [⟨none,none,bad⟩],l2,k2)
 | .exit id,l,k=>(.exit id,l,k)
 | .scope a,l,k=>comp a l k
 | .ret,l,k=>(.ret,l,k)
 | .goto _,l,k | .refuse _,l,k=>(.aT [⟨none,none,bad⟩],l,k)
def pL:List ResultVar->Option (List RV)
 | []=>some []
 | .tmp t::r=>match pL r with | some l=>some (.t t::l) | none=>none
 | .cell a t::r=>match da P t,eD P t,pL r with | some s,some ag,some l=>some (.cell a s ag::l) | _,_,_=>none
def FQ (fn:Func):Option aJ:=
 match fn.body,pL P fn.results.toList with
 | some c,some rs=>bif yE H.n fn.ntmps then some ⟨rs,(comp P H c 0 0).1⟩ else none
 | _,_=>none
end
end
section
open Go
structure bD where
 P:y7
 aU:Lib
 ai:Nat->Nat
 prog:aI
 hint:Nat->Hint
 w0:yh
def CS (P:y7) (H:Hint) (v:VC) (c:wM):Prop:=∃l k,(comp P H c l k).1=v
def Ct:Nat->LoopState
 | 0=> .ready
 | 1=> .busy
 | 2=> .done
 | _=> .exhausted
def At:zg->Option wM
 | .none=>none
 | .ret=>some .ret
 | .exit id=>some (.exit id)
section
variable (O:bD) (m:Mp) (S:Nat->Prop) (w:yh)
def cF (tm:Env) (tmps:Array yf):Prop:=∀i,aj O.ai m S w (ab tm i) (tmps.getD i undef)
def fV (id:Nat):Obj->Prop
 | .cells rw pu ex sz cs=>∃p arr t,m id=some p/\w.heap[p.b]? =some (.cells arr t (0,0))/\p.z=sz/\cs.length<=p.e/\p.o+p.e<=arr.size/\
   (ex=true->cs.length=p.e)/\ck O.ai m S w cs p.b p.o/\(pu=true->aK cs=true)/\(rw=true->¬S p.b)/\(rw=false->S p.b)
 | .mp rw ks vs=>∃p es clock,m id=some p/\w.heap[p.b]? =some (.map es clock)/\au O.ai m S w ks (es.toList.map (·.key))/\au O.ai m S w vs (es.toList.map (·.val))/\
   (rw=true->¬S p.b)/\(rw=false->S p.b)
 | .si s pos=>∃p t,m id=some p/\w.heap[p.b]? =some (.stringIter t pos)/\t.data.toList.map yX=s/\¬S p.b
 | .lp tm ps as_ body st pe=>∃p l h,m id=some p/\w.heap[p.b]? =some (.loop l)/\¬S p.b/\l.state=Ct st/\st<=2/\l.pending=At pe/\cF O m S w tm l.tmps/\
   l.params.toList=ps/\CS O.P (O.hint h) as_ l.assign/\CS O.P (O.hint h) body l.body/\(O.hint h).n<=l.tmps.size/\AG (O.hint h).n ps=true
structure bg (hp:Hp) (ct:Nat):Prop where
 obj:∀id o p,ap hp id=some o->m id=some p->fV O m S w id o
 lt:∀id p,m id=some p->id<ct
 inj:∀i j oi oj pi pj,ap hp i=some oi->ap hp j=some oj->m i=some pi->m j=some pj->pi.b=pj.b->i=j
 slt:∀b,S b->b<w.heap.size
 blt:∀id p,m id=some p->p.b<w.heap.size
 low:∀id p,m id=some p->O.w0.heap.size<=p.b
 mG:∀b,b<O.w0.heap.size->w.heap[b]? =O.w0.heap[b]?
 gK:O.w0.heap.size<=w.heap.size
 bm:∀id o,ap hp id=some o->id<ct
end
def eL (m:Mp) (hp:Hp) (b:Nat):Prop:=∃id o p,ap hp id=some o/\m id=some p/\p.b=b
structure cG (m:Mp) (S:Nat->Prop) (w:yh) (hp:Hp) (m':Mp) (S':Nat->Prop) (w':yh) (ao:Hp) (base:Nat):Prop where
 os:w'.os=w.os
 tape:w'.tape=w.tape
 output:w'.output=w.output
 size:w.heap.size<=w'.heap.size
 same:∀b,b<w.heap.size->¬eL m hp b->w'.heap[b]? =w.heap[b]?
 sub:∀b,S b->S' b
 still:∀b,S b->w'.heap[b]? =w.heap[b]?
 new:∀b,S' b->S b\/eL m hp b\/w.heap.size<=b
 own:∀b,eL m' ao b->eL m hp b\/w.heap.size<=b
 old:∀id p,id<base->m id=some p->m' id=some p
 loops:∀(b:Nat) (r:Loop),w.heap[b]? =some (.loop r)->∃r':Loop,w'.heap[b]? =some (.loop r')
def cG.refl {m:Mp} {S:Nat->Prop} {w:yh} {hp:Hp} {base:Nat}:cG m S w hp m S w hp base:=
 ⟨rfl,rfl,rfl,Nat.le_refl _,fun _ _ _=>rfl,fun _ h=>h,fun _ _=>rfl,fun _ h=> .inl h,fun _ h=> .inl h,fun _ _ _ h=>h,fun _ r h=>⟨r,h⟩⟩
def cG.trans {m m' LB:Mp} {S S' CT:Nat->Prop} {w w' EF:yh} {hp ao KE:Hp} {base:Nat}
  (h:cG m S w hp m' S' w' ao base) (k:cG m' S' w' ao LB CT EF KE base):cG m S w hp LB CT EF KE base where
 os:=k.os.trans h.os
 tape:=k.tape.trans h.tape
 output:=k.output.trans h.output
 size:=xp h.size k.size
 same b hb ho:=(k.same b (Nat.lt_of_lt_of_le hb h.size) (fun ml=>(h.own b ml).elim ho (fun h1=>by omega))).trans (h.same b hb ho)
 sub b hb:=k.sub b (h.sub b hb)
 still b hb:=(k.still b (h.sub b hb)).trans (h.still b hb)
 new b hb:=by
  rcases k.new b hb with h1 | h1 | h1
  ·exact h.new b h1
  ·rcases h.own b h1 with h2 | h2
   ·exact .inr (.inl h2)
   ·exact .inr (.inr h2)
  ·exact .inr (.inr (xp h.size h1))
 own b hb:=by
  rcases k.own b hb with h1 | h1
  ·exact h.own b h1
  ·exact .inr (xp h.size h1)
 old id p hid hp:=k.old id p hid (h.old id p hid hp)
 loops b r hb:=let ⟨r',h1⟩:=h.loops b r hb;k.loops b r' h1
end
section
open Go
section
variable {ai:Nat->Nat} {m:Mp} {S:Nat->Prop} {w:yh}
mutual
def N1:∀v:yf,aj ai m S w (fe v) v
 | .int _ _ | .bool _ | .float _ _=>by simp only [fe,aj]
 | .string s=>by simp only [fe,aj];exact ⟨s,rfl,rfl⟩
 | .pointer none=>by simp only [fe,aj]
 | .pointer (some _)=>by simp only [fe,aj]
 | .slice none 0 0=>by simp only [fe,aj]
 | .slice none 0 (_+1)=>by simp only [fe,aj]
 | .slice none (_+1) _=>by simp only [fe,aj]
 | .slice (some _) _ _=>by simp only [fe,aj]
 | .map none=>by simp only [fe,aj]
 | .map (some _)=>by simp only [fe,aj]
 | .nilFunc=>by simp only [fe,aj]
 | .agg ⟨cs⟩=>by simp only [fe,aj];exact ⟨⟨cs⟩,rfl,SW cs⟩
 | .tuple ⟨cs⟩=>by simp only [fe,aj];exact ⟨⟨cs⟩,rfl,SW cs⟩
 | .complex _ _ _ | .chan _ | .func _ _ _ | .iface _ _ | .nilIface=>by simp only [fe,aj]
def SW:∀l:List yf,au ai m S w (FP l) l
 | []=>by simp only [FP,au]
 | v::r=>by simp only [FP,au];exact ⟨v,r,rfl,N1 v,SW r⟩
end
end
def gl (O:bD) (H:Hint):Prop:=∀f g,H.cE f=some g->O.ai g=f
section
variable {O:bD} {H:Hint} {m:Mp} {S:Nat->Prop} {w:yh} {tm:Env} {a:Act}
def cQ (hH:gl O H) (ht:cF O m S w tm a.tmps) (x:xB):aj O.ai m S w (aC tm (aV H x)) (a.eval x):=by
 cases x with
 | tmp t=>exact ht t
 | const v=>simp only [aV,aC,Act.eval];exact N1 v
 | global g=>simp only [aV,aC,aj]
 | func f=>
  simp only [aV,Act.eval]
  cases hr:H.cE f with
  | none=>simp only [aC,aj]
  | some g=>simp only [aC,aj,hH f g hr,au];exact ⟨#[],#[],rfl,rfl,rfl⟩
def DL (hH:gl O H) (ht:cF O m S w tm a.tmps):∀l:List xB,au O.ai m S w (dS tm (ir H l)) (l.map a.eval)
 | []=>by simp only [ir,dS,List.map_nil,au]
 | x::r=>by simp only [ir,dS,y8,au];exact ⟨_,_,rfl,cQ hH ht x,DL hH ht r⟩
end
section
variable {O:bD} {m:Mp} {S:Nat->Prop} {w:yh}
def sG {ai:Nat->Nat}:∀(k:Nat) (cs:List AV) (b o:Nat),ck ai m S w cs b o->ck ai m S w (cs.drop k) b (o+k)
 | 0,cs,b,o,h=>by simpa using h
 | k+1,[],b,o,_=>by simp only [List.drop_nil,ck]
 | k+1,c::cs,b,o,h=>by
  simp only [ck] at h
  have:=sG k cs b (o+1) h.2
  rw [List.drop_succ_cons,show o+(k+1)=o+1+k by omega];exact this
def Dw {ai:Nat->Nat}:∀(k:Nat) (cs:List AV) (b o:Nat),ck ai m S w cs b o->ck ai m S w (cs.take k) b o
 | 0,cs,b,o,_=>by simp only [List.take_zero,ck]
 | k+1,[],b,o,_=>by simp only [List.take_nil,ck]
 | k+1,c::cs,b,o,h=>by
  simp only [ck,wm] at h ⊢;exact ⟨h.1,Dw k cs b (o+1) h.2⟩
def Aa {ai:Nat->Nat}:∀(cs:List AV) (b o:Nat),ck ai m S w cs b o->
  ∃us:List yf,au ai m S w cs us/\us.length=cs.length/\∀j u,us[j]? =some u->w.cell? ⟨b,o+j,none⟩=some u
 | [],b,o,_=>⟨[],by simp only [au],rfl,fun j u h=>by simp at h⟩
 | c::cs,b,o,h=>by
  simp only [ck] at h;obtain ⟨⟨u,h1,h2⟩,h3⟩:=h;obtain ⟨us,h4,h5,h6⟩:=Aa cs b (o+1) h3;refine ⟨u::us,by simp only [au];exact ⟨u,us,rfl,h2,h4⟩,by simp [h5],fun j v hv=>?_⟩
  cases j with
  | zero=>simp at hv;subst hv;simpa using h1
  | succ j=>simp at hv;have:=h6 j v hv;rw [show o+(j+1)=o+1+j by omega];exact this
def jo {ai:Nat->Nat}:∀(cs:List AV) (us:List yf),au ai m S w cs us->us.length=cs.length
 | [],us,h=>by simp only [au] at h;subst h;rfl
 | c::cs,us,h=>by
  simp only [au] at h;obtain ⟨u,r,rfl,_,h3⟩:=h;simp [jo cs r h3]
end
end
section
open Go
def pR (b o j:Nat):(⟨b,o,none⟩:Addr).add j=⟨b,o+j,none⟩:=by
 unfold Addr.add;split<;>simp_all
section
variable {P:y7} {w:yh}
def akx (t:yv) (b o:Nat) (us:List yf) (ha:eD P t=some true) (hz:da P t=some us.length)
  (h:∀j u,us[j]? =some u->w.cell? ⟨b,o+j,none⟩=some u):(loadVar t ⟨b,o,none⟩).run P w= .ok (.agg us.toArray) w:=by
 have hl:=run_loadCells_list (P:=P) w ⟨b,o,none⟩ us (fun j u hu=>by rw [pR];exact h j u hu)
 unfold da at hz
 cases hi:P.info? t with
 | none=>simp [hi] at hz
 | some i=>
  simp only [hi,yc] at hz;unfold eD at ha
  cases hu:P.underlying t with
  | none=>simp [hu] at ha
  | some d=>cases d<;>simp_all [loadVar,isAgg,uj,typeInfo,underlying]
def aky (t:yv) (b o:Nat) (u:yf) (ha:eD P t=some false)
  (h:w.cell? ⟨b,o,none⟩=some u):(loadVar t ⟨b,o,none⟩).run P w= .ok u w:=by
 unfold eD at ha
 cases hu:P.underlying t with
 | none=>simp [hu] at ha
 | some d=>cases d<;>simp_all [loadVar,isAgg,underlying]
end
section
variable {O:bD} {m:Mp} {S:Nat->Prop} {w:yh}
def N2 {t:yv} {sz:Nat} {ag:Bool} {cs:List AV} {b o:Nat} {v:AV} (hz:da O.P t=some sz) (ha:eD O.P t=some ag)
  (hr:ck O.ai m S w cs b o) (hv:eY sz ag cs=some v):∃u,(loadVar t ⟨b,o,none⟩).run O.P w= .ok u w/\aj O.ai m S w v u:=by
 cases ag with
 | true=>
  simp only [eY,ym] at hv
  cases hle:yE sz cs.length with
  | false=>simp only [hle,yD] at hv;cases hv
  | true=>
   simp only [hle,ym,yc] at hv;subst hv;obtain ⟨us,h1,h2,h3⟩:=Aa _ _ _ (Dw sz cs b o hr);have hlen:us.length=sz:=by
    rw [h2,List.length_take];have:=yC hle;omega
   refine ⟨.agg us.toArray,akx t b o us ha (by rw [hlen];exact hz) h3,?_⟩
   simp only [aj];exact ⟨us.toArray,rfl,by simpa using h1⟩
 | false=>
  simp only [eY,yD] at hv
  cases cs with
  | nil=>simp at hv
  | cons c cs=>
   simp only [yc] at hv;subst hv;simp only [ck] at hr;obtain ⟨⟨u,h1,h2⟩,_⟩:=hr;exact ⟨u,aky t b o u ha h1,h2⟩
def ac0 {t:yv} {sz o:Nat} {ag:Bool} {cs:List AV} {xs:Array yf} {v:AV} (hz:da O.P t=some sz) (ha:eD O.P t=some ag)
  (hr:au O.ai m S w cs xs.toList) (hv:eY sz ag (cs.drop o)=some v):∃u,(part t xs o).run O.P w= .ok u w/\aj O.ai m S w v u:=by
 have hd:∀(k:Nat) (cs:List AV) (us:List yf),au O.ai m S w cs us->au O.ai m S w (cs.drop k) (us.drop k):=by
  intro k
  induction k with
  | zero=>intro cs us h;simpa using h
  | succ k ih=>
   intro cs us h
   cases cs with
   | nil=>simp only [au] at h;subst h;simp [au]
   | cons c cs=>simp only [au] at h;obtain ⟨u,r,rfl,_,h3⟩:=h;simpa using ih cs r h3
 have eM:∀(k:Nat) (cs:List AV) (us:List yf),au O.ai m S w cs us->au O.ai m S w (cs.take k) (us.take k):=by
  intro k
  induction k with
  | zero=>intro cs us h;simp [au]
  | succ k ih=>
   intro cs us h
   cases cs with
   | nil=>simp only [au] at h;subst h;simp [au]
   | cons c cs=>simp only [au] at h;obtain ⟨u,r,rfl,h2,h3⟩:=h;simp only [wm,au];exact ⟨u,_,rfl,h2,ih cs r h3⟩
 have aho:(isAgg t).run O.P w= .ok ag w:=by
  unfold eD at ha
  cases hu:O.P.underlying t with
  | none=>simp [hu] at ha
  | some d=>cases d<;>simp_all [isAgg,underlying]
 have fk:(uj t).run O.P w= .ok sz w:=by
  unfold da at hz
  cases hi:O.P.info? t with
  | none=>simp [hi] at hz
  | some i=>simp_all [uj,typeInfo]
 have bW:=hd o cs xs.toList hr
 cases ag with
 | true=>
  simp only [eY,ym] at hv
  cases hle:yE sz (cs.drop o).length with
  | false=>simp only [hle,yD] at hv;cases hv
  | true=>
   simp only [hle,ym,yc] at hv;subst hv;refine ⟨.agg (xs.extract o (o+sz)),by simp [part,Sem.run_bind,aho,fk],?_⟩;simp only [aj];refine ⟨_,rfl,?_⟩
   have:=eM sz _ _ bW
   rw [show (xs.extract o (o+sz)).toList=(xs.toList.drop o).take sz by simp [Array.toList_extract,List.extract_eq_take_drop]];exact this
 | false=>
  simp only [eY,yD] at hv
  cases hc:cs.drop o with
  | nil=>simp [hc] at hv
  | cons c r=>
   simp only [hc,yc] at hv;subst hv;rw [hc] at bW;simp only [au] at bW;obtain ⟨u,us,h1,h2,_⟩:=bW;have hx:xs[o]? =some u:=by
    have:xs.toList[o]? =some u:=by
     have:=congrArg (fun l=>l[0]?) h1
     simpa using this
    simpa using this
   exact ⟨u,by simp [part,Sem.run_bind,aho,hx],h2⟩
end
end
section
open Go
def nd (t:ByteArray):List Nat:=t.data.toList.map yX
def ac1:∀a b:List UInt8,cN (a.map yX) (b.map yX)=(a==b)
 | [],[]=>rfl
 | [],_::_=>rfl
 | _::_,[]=>rfl
 | a::x,b::y=>by
  have h:yx a.toNat b.toNat=(a==b):=by
   rw [uT,ych,yai];exact yaF
  simp only [y8,cN,ac1 x y,h,List.cons_beq_cons]
def ac2:∀a b:List UInt8,CP (a.map yX) (b.map yX)=Op.bytesLess a b
 | [],[]=>rfl
 | [],_::_=>rfl
 | _::_,[]=>rfl
 | a::x,b::y=>by
  have h:yx a.toNat b.toNat=(a==b):=by
   rw [uT,ych,yai];exact yaF
  have h2:yJ a.toNat b.toNat=decide (a<b):=by
   rw [uT];simp only [yJ,Nat.ble_eq,wN,UInt8.lt_iff_toNat_lt];omega
  simp only [y8,CP,Op.bytesLess,ac2 x y,h,h2]
def aaM (s t:ByteArray):cN (nd s) (nd t)=(s.toList==t.toList):=by
 rw [nd,nd,ac1,ByteArray.toList_eq,ByteArray.toList_eq]
def alZ (s t:ByteArray):CP (nd s) (nd t)=Op.bytesLess s.toList t.toList:=by
 rw [nd,nd,ac2,ByteArray.toList_eq,ByteArray.toList_eq]
def aaN (s:ByteArray):(nd s).length=s.size:=by
 rw [nd,List.length_map,Lib.size_eq]
section
variable {ai:Nat->Nat} {P:y7} {m:Mp} {S:Nat->Prop} {w:yh} {t:yv}
def anQ {op:wX} {k:yU} {x y:Int} {v:AV} (h:mB op k x y=some v):
  ∃u,(xI op t (.int k x) (.int k y)).run P w= .ok u w/\aj ai m S w v u:=by
 cases op<;>simp only [mB,intCmp,yc] at h
 case add=>subst h;exact ⟨_,by simp [xI,Op.intArith];rfl,by simp [aj]⟩
 case sub=>subst h;exact ⟨_,by simp [xI,Op.intArith];rfl,by simp [aj]⟩
 case mul=>subst h;exact ⟨_,by simp [xI,Op.intArith];rfl,by simp [aj]⟩
 case quo=>
  by_cases hy:y=0
  ·simp [hy] at h
  ·simp only [hy,yN,yc] at h;subst h;exact ⟨_,by simp [xI,Op.intDiv,hy];rfl,by simp [aj]⟩
 case rem=>
  by_cases hy:y=0
  ·simp [hy] at h
  ·simp only [hy,yN,yc] at h;subst h;exact ⟨_,by simp [xI,Op.intDiv,hy];rfl,by simp [aj]⟩
 case and=>subst h;exact ⟨_,by simp [xI,Op.intBits];rfl,by simp [aj]⟩
 case or=>subst h;exact ⟨_,by simp [xI,Op.intBits];rfl,by simp [aj]⟩
 case xor=>subst h;exact ⟨_,by simp [xI,Op.intBits];rfl,by simp [aj]⟩
 case andNot=>subst h;exact ⟨_,by simp [xI,Op.intBits];rfl,by simp [aj]⟩
 case shl=>cases h
 case shr=>cases h
 all_goals
  subst h;exact ⟨_,by simp [xI,Op.intCmp];rfl,by simp [aj]⟩
def Z2 {op:wX} {k k':yU} {x y:Int} {v:AV} (h:DE op k x y=some v):
  ∃u,(xI op t (.int k x) (.int k' y)).run P w= .ok u w/\aj ai m S w v u:=by
 unfold DE at h;by_cases hy:y<0
 ·simp [hy] at h
 ·simp only [hy,yN] at h;cases op<;>simp only [yc] at h
  case shl=>subst h;exact ⟨_,by simp [xI,Op.shift,hy];rfl,by simp [aj]⟩
  case shr=>subst h;exact ⟨_,by simp [xI,Op.shift,hy];rfl,by simp [aj]⟩
  all_goals cases h
def anR {op:wX} {x y:ByteArray} {v:AV} (h:Kl op (nd x) (nd y)=some v):
  ∃u,(xI op t (.string x) (.string y)).run P w= .ok u w/\aj ai m S w v u:=by
 cases op<;>simp only [Kl,aaM,alZ,aaN,yc] at h
 case add=>
  cases hle:yE (x.size+y.size) 9223372036854775807 with
  | false=>rw [hle] at h;cases h
  | true=>
   rw [hle] at h;simp only [ym,yc] at h;subst h;have aCl:=yC hle;have awX:¬(((x.size+y.size:Nat):Int)>IntKind.i64.max):=by
    have:IntKind.i64.max=9223372036854775807:=by decide
    rw [this];omega
   refine ⟨.string (x++y),?_,?_⟩
   ·simp only [xI,Op.stringOp,yr awX,Sem.run_pure]
   ·simp only [aj];exact ⟨x++y,rfl,by simp [nd]⟩
 all_goals first
  | (cases h;done)
  | (subst h;exact ⟨_,by simp [xI,Op.stringOp];rfl,by simp [aj]⟩)
def anS {op:wX} {k:ud} {x y:Nat} {v:AV} (h:UP op k x y=some v):
  ∃u,(xI op t (.float k x) (.float k y)).run P w= .ok u w/\aj ai m S w v u:=by
 cases op<;>simp only [UP,yc] at h
 case add=>
  cases hr:k.format.add x y with
  | none=>simp [hr] at h
  | some r=>simp only [hr,yc] at h;subst h;exact ⟨.float k r,by simp [xI,Op.floatArith,hr],by simp [aj]⟩
 case sub=>
  cases hr:k.format.sub x y with
  | none=>simp [hr] at h
  | some r=>simp only [hr,yc] at h;subst h;exact ⟨.float k r,by simp [xI,Op.floatArith,hr],by simp [aj]⟩
 case mul=>
  cases hr:k.format.mul x y with
  | none=>simp [hr] at h
  | some r=>simp only [hr,yc] at h;subst h;exact ⟨.float k r,by simp [xI,Op.floatArith,hr],by simp [aj]⟩
 case quo=>
  cases hr:k.format.div x y with
  | none=>simp [hr] at h
  | some r=>simp only [hr,yc] at h;subst h;exact ⟨.float k r,by simp [xI,Op.floatArith,hr],by simp [aj]⟩
 all_goals first
  | (cases h;done)
  | (subst h;exact ⟨_,by simp [xI,Op.floatCmp];rfl,by simp [aj]⟩)
def anT {op:wX} {vx vy v:AV} {x y:yf} (hx:aj ai m S w vx x) (hy:aj ai m S w vy y) (h:VE.binOp op vx vy=some v):
  ∃u,(xI op t x y).run P w= .ok u w/\aj ai m S w v u:=by
 unfold VE.binOp at h
 split at h
 ·rename_i k a k' b;simp only [aj] at hx hy;subst hx;subst hy
  split at h
  ·exact Z2 h
  ·exact Z2 h
  ·by_cases hk:k=k'
   ·subst hk;simp only [yV] at h;exact anQ h
   ·simp [hk] at h
 ·rename_i k a k' b;simp only [aj] at hx hy;subst hx;subst hy;by_cases hk:k=k'
  ·subst hk;simp only [yV] at h;exact anS h
  ·simp [hk] at h
 ·rename_i a b;simp only [aj] at hx hy;obtain ⟨s,rfl,rfl⟩:=hx;obtain ⟨s',rfl,rfl⟩:=hy;exact anR h
 ·cases h
end
end
end VE
