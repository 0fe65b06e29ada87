import GoSem.Core.Code
import GoSem.Core.Float
import GoSem.Core.Utf8
import Derived.CallsIn
import Derived.Laws.World
import GoSem.Op.Equal
import GoSem.Core.Region
import Derived.Below
import Derived.Laws.AppendOwn
import Derived.Laws.Rows
import Derived.WalkKit
import Derived.Laws.CopyRow
import Derived.Laws.Cells
import Derived.Laws.Strings
import Derived.Lib.Strings
set_option linter.all false
set_option maxRecDepth 100000
open BitVec renaming ofInt→wh
open Bool renaming eq_iff_iff→vW
open Go renaming BinOp→wk,Code→vz,FloatKind→w8,IntKind→yJ,Oper→yL,Operand→xh,Program→yM,TypeId→yp,Value→ye,World→yg,binOp→xo,sizeOf→vm
open Go.Utf8 renaming runeError→wT,valid→tF
open List renaming map_cons→yV,replicate→yx,take_succ_cons→xK
open Nat renaming beq→yq,beq_eq→yaQ,ble→yA,blt→yB,le_of_ble_eq_true→yr,le_trans→xz,testBit→vn
open Option.some renaming injEq→yb
open UInt8 renaming toNat→yN,toNat_inj→tG
def ta:=@beq_iff_eq
def yu:=@cond_false
def ym:=@cond_true
def vR:=@decide_eq_true
def yaR:=@decide_eq_true_eq
def yF:=@decide_false
def yE:=@decide_true
def yay:=@false_or
def yG:=@if_false
def yD:=@if_neg
def yS:=@if_pos
def yQ:=@if_true
def uH:=@ne_eq
def vt:=@not_false_eq_true
def wq:=@not_true_eq_false
namespace VE
section
open Go (IntKind FloatKind BinOp UnOp)
inductive Fr where
 | f (n:Nat)
 | y (l:Nat)
 deriving DecidableEq,Inhabited
inductive AV where
 | int (k:yJ) (n:Int)
 | bool (b:Bool)
 | cu (k:w8) (bits:Nat)
 | str (s:List Nat)
 | gM
 | ptr (id off:Nat)
 | aO (cells:List AV)
 | ab
 | aC (ex:Bool) (n:Nat) (cells:List AV)
 | bS (ex:Bool) (sz n:Nat) (cells:List AV)
 | aq (id off n:Nat)
 | fn (f:Fr) (first cap:List AV)
 | eZ
 | gm
 | map (id:Nat)
 | fS (ks vs:List AV)
 | it (id:Nat)
 | agg (cells:List AV)
 | ay (vs:List AV)
 | undef
 deriving Inhabited
inductive X where
 | t (i:Nat)
 | c (v:AV)
 deriving Inhabited
inductive Conv where
 | toInt (k:yJ)
 | toFlt (k:w8)
 | str
 deriving Inhabited
inductive Md where
 | pure | own | heap | dyn
 deriving Inhabited
inductive Cut where
 | str
 | sl (sz:Nat)
 | ar (len sz:Nat)
 deriving Inhabited
inductive FI where
 | b | sl | fn | ag (ks:List Nat)
 deriving Inhabited
inductive Op where
 | br (x:X)
 | pick (c a b:X)
 | box (sz:Nat) (x:X)
 | df (zero:List AV) (parts:List (Nat×Nat×X))
 | cd (n sz:Nat) (zero:List AV) (parts:List (Nat×Nat×X))
 | ld (sz:Nat) (ag:Bool) (x:X)
 | st (sz:Nat) (x v:X)
 | B0 (x:X)
 | bin (op:wk) (x y:X)
 | eq (ne:Bool) (k:FI) (x y:X)
 | un (op:UnOp) (x:X)
 | cv (k:Conv) (x:X)
 | jr (f:Fr) (first cap:List X)
 | nZ
 | eT (sz bytes:Nat) (zero:List AV) (len cap:X)
 | cV (k:Cut) (x:X) (lo hi:Option X)
 | off (k:Nat) (x:X)
 | Cq (o sz:Nat) (ag:Bool) (x:X)
 | a7 (sz:Nat) (x i:X)
 | zU (len sz:Nat) (x i:X)
 | ik (x i:X)
 | pE (len sz:Nat) (ag:Bool) (x i:X)
 | FJ (kk:Nat) (zero:AV) (ok:Bool) (m k:X)
 | kO (kk:Nat) (m k v:X)
 | kP (x:X)
 | kQ (x:X)
 | ext (i:Nat) (x:X)
 | call (m:Md) (f:X) (xs:List X)
 | eX (rs:List (Nat×Bool×Nat)) (f:X) (xs:List X)
 | gP (rs:List (Nat×Bool×Nat)) (sz:Nat) (x v:X)
 | cC (sz bytes:Nat) (s x:X)
 | kR (sz:Nat) (d s:X)
 | len (k:Nat) (x:X)
 | mn (xs:List X)
 | mx (xs:List X)
 deriving Inhabited
structure aR where
 dst:Option Nat
 guard:Option (Nat×Bool)
 op:Op
 deriving Inhabited
inductive VC where
 | skip
 | aB (ops:List aR)
 | seq (a b:VC)
 | cond (x:X) (a b:VC)
 | aw (id:Nat) (a:VC)
 | kp (live:List Nat)
 | fz (ts:List Nat)
 | loop (live:List Nat) (a:VC)
 | rf (f:X) (ps:List Nat) (assign body:VC)
 | exit (id:Nat)
 | ret
 deriving Inhabited
inductive RV where
 | t (i:Nat)
 | cell (i sz:Nat) (ag:Bool)
 deriving Inhabited
structure av where
 bF:List RV
 body:VC
 deriving Inhabited
inductive mE where
 | none | ret | exit (id:Nat)
 deriving Inhabited,DecidableEq
abbrev Env:=List (Nat×AV)
inductive Obj where
 | cells (rw pu ex:Bool) (sz:Nat) (cs:List AV)
 | mp (rw:Bool) (ks vs:List AV)
 | si (s:List Nat) (pos:Nat)
 | lp (tm:Env) (ps:List Nat) (assign body:VC) (state:Nat) (pending:mE)
 deriving Inhabited
abbrev Hp:=List (Nat×Obj)
structure St where
 tm:Env
 hp:Hp
 ct:Nat
 base:Nat
 deriving Inhabited
inductive Ex where
 | normal
 | ret
 | exit (id:Nat)
 deriving Inhabited,DecidableEq
def ah:Env->Nat->AV
 | [],_=> .undef
 | (j,v)::r,i=>bif yq j i then v else ah r i
def aj:Hp->Nat->Option Obj
 | [],_=>none
 | (j,o)::r,i=>bif yq j i then some o else aj r i
def aW:Hp->Nat->Obj->Hp
 | [],_,_=>[]
 | (j,o)::r,i,u=>bif yq j i then (j,u)::r else (j,o)::aW r i u
def cp:Hp->Nat->Hp
 | [],_=>[]
 | (j,o)::r,i=>bif yq j i then cp r i else (j,o)::cp r i
mutual
def aG:AV->Bool
 | .ptr _ _ | .aq _ _ _ | .map _ | .it _ | .bS _ _ _ _=>false
 | .fn (.y _) _ _=>false
 | .fn (.f _) first cap=>ax first&&ax cap
 | .agg cs=>ax cs
 | .ay vs=>ax vs
 | _=>true
def ax:List AV->Bool
 | []=>true
 | v::r=>aG v&&ax r
end
def cellsOf:AV->List AV
 | .agg cs=>cs
 | v=>[v]
def cg:AV->Bool
 | .agg _ | .ay _ | .undef | .bS _ _ _ _=>false
 | _=>true
def bT:List AV->Bool
 | []=>true
 | v::r=>cg v&&bT r
def ao (tm:Env):X->AV
 | .t i=>ah tm i
 | .c v=>v
def cx (tm:Env):List X->List AV
 | []=>[]
 | x::r=>ao tm x::cx tm r
def slice (o n:Nat) (cs:List AV):List AV:=(cs.drop o).take n
def over (o:Nat) (new cs:List AV):List AV:=cs.take o++new++cs.drop (o+new.length)
mutual
def freeze:Nat->Hp->AV->Option (AV×Hp)
 | 0,_,_=>none
 | n+1,hp,v=>
  match v with
  | .aq id o k=>
   match mj n hp id with
   | some (ex,sz,cs,ai)=>
    bif yA (o+k*sz) cs.length then
     some (.aC (ex&&yB 0 sz&&yq (o+k*sz) cs.length) k (slice o (k*sz) cs),ai)
    else none
   | none=>none
  | .ptr id o=>
   match mj n hp id with
   | some (_,_,cs,ai)=>some (.aO (cs.drop o),ai)
   | none=>none
  | .map id=>
   match aj hp id with
   | some (.mp _ ks vs)=>bif ax ks&&ax vs then some (.fS ks vs,aW hp id (.mp false ks vs)) else none
   | _=>none
  | .fn (.f g) first cap=>
   match bO n hp first with
   | some (P3,bl)=>
    match bO n bl cap with
    | some (E5,lR)=>some (.fn (.f g) P3 E5,lR)
    | none=>none
   | none=>none
  | .agg cs=>match bO n hp cs with | some (cK,ai)=>some (.agg cK,ai) | none=>none
  | .ay cs=>match bO n hp cs with | some (cK,ai)=>some (.ay cK,ai) | none=>none
  | v=>bif aG v then some (v,hp) else none
def mj:Nat->Hp->Nat->Option (Bool×Nat×List AV×Hp)
 | 0,_,_=>none
 | n+1,hp,id=>
  match aj hp id with
  | some (.cells rw pu ex sz cs)=>
   bif pu then some (ex,sz,cs,bif rw then aW hp id (.cells false true ex sz cs) else hp)
   else match bO n hp cs with
    | some (cK,ai)=>some (ex,sz,cK,aW ai id (.cells false false ex sz cs))
    | none=>none
  | _=>none
def bO:Nat->Hp->List AV->Option (List AV×Hp)
 | 0,_,_=>none
 | _+1,hp,[]=>some ([],hp)
 | n+1,hp,v::r=>
  match freeze n hp v with
  | some (v',bl)=>
   match bO n bl r with
   | some (r',lR)=>some (v'::r',lR)
   | none=>none
  | none=>none
end
def nt (n:Nat) (hp:Hp) (v:AV):Option (AV×Hp):=
 match v with
 | .aq id o k=>
  match aj hp id with
  | some (.cells true true ex sz cs)=>
   bif yA (o+k*sz) cs.length then
    some (.bS (ex&&yB 0 sz&&yq (o+k*sz) cs.length) sz k (slice o (k*sz) cs),cp hp id)
   else none
  | _=>freeze n hp v
 | _=>freeze n hp v
def Ep:List AV->Option (List Nat)
 | []=>some []
 | .aq id _ _::r=>match Ep r with | some l=>bif l.any (yq id) then none else some (id::l) | none=>none
 | v::r=>bif aG v then Ep r else none
def qJ (n:Nat):Hp->List AV->Option (List AV×Hp)
 | hp,[]=>some ([],hp)
 | hp,v::r=>
  match nt n hp v with
  | some (v',bl)=>match qJ n bl r with | some (r',lR)=>some (v'::r',lR) | none=>none
  | none=>none
def deep:Nat:=1000
def result (hp:Hp) (v:AV):Option AV:=
 match v with
 | .ay vs=>
  match Ep vs with
  | some _=>match qJ deep hp vs with | some (cW,_)=>some (.ay cW) | none=>none
  | none=>match freeze deep hp v with | some (v',_)=>some v' | none=>none
 | v=>match nt deep hp v with | some (v',_)=>some v' | none=>none
def bg:AV->AV
 | .bS ex _ n cs=> .aC ex n cs
 | v=>v
def q9:List AV->List AV
 | []=>[]
 | v::r=>bg v::q9 r
def shut:AV->AV
 | .bS ex _ n cs=> .aC ex n cs
 | .ay vs=> .ay (q9 vs)
 | v=>v
def dL (hp:Hp) (ct:Nat):AV->AV×Hp×Nat
 | .bS ex sz n cs=>(.aq ct 0 n,(ct,.cells true true ex sz cs)::hp,ct+1)
 | v=>(v,hp,ct)
def gn:Hp->Nat->List AV->List AV×Hp×Nat
 | hp,ct,[]=>([],hp,ct)
 | hp,ct,v::r=>((dL hp ct v).1::(gn (dL hp ct v).2.1 (dL hp ct v).2.2 r).1,(gn (dL hp ct v).2.1 (dL hp ct v).2.2 r).2)
def own (hp:Hp) (ct:Nat):AV->AV×Hp×Nat
 | .ay vs=>(.ay (gn hp ct vs).1,(gn hp ct vs).2)
 | v=>dL hp ct v
mutual
def refs:AV->List Nat
 | .ptr id _=>[id]
 | .aq id _ _=>[id]
 | .map id=>[id]
 | .it id=>[id]
 | .fn (.f _) first cap=>dh first++dh cap
 | .fn (.y l) _ _=>[l]
 | .agg cs=>dh cs
 | .ay cs=>dh cs
 | _=>[]
def dh:List AV->List Nat
 | []=>[]
 | v::r=>refs v++dh r
end
def dB:Env->List Nat
 | []=>[]
 | (_,v)::r=>refs v++dB r
def dC:Obj->List Nat
 | .cells _ pu _ _ cs=>bif pu then [] else dh cs
 | .mp _ ks vs=>dh ks++dh vs
 | .si _ _=>[]
 | .lp tm _ _ _ _ _=>dB tm
mutual
def bE (f:Nat->Option Nat):AV->AV
 | .ptr id o=>match f id with | some j=> .ptr j o | none=> .undef
 | .aq id o n=>match f id with | some j=> .aq j o n | none=> .undef
 | .map id=>match f id with | some j=> .map j | none=> .undef
 | .it id=>match f id with | some j=> .it j | none=> .undef
 | .fn (.f g) first cap=> .fn (.f g) (dY f first) (dY f cap)
 | .fn (.y l) first cap=>match f l with | some j=> .fn (.y j) (dY f first) (dY f cap) | none=> .undef
 | .agg cs=> .agg (dY f cs)
 | .ay cs=> .ay (dY f cs)
 | v=>v
def dY (f:Nat->Option Nat):List AV->List AV
 | []=>[]
 | v::r=>bE f v::dY f r
end
def hZ (f:Nat->Option Nat):Env->Env
 | []=>[]
 | (i,v)::r=>(i,bE f v)::hZ f r
def iz (f:Nat->Option Nat):Obj->Obj
 | .cells rw pu ex sz cs=> .cells rw pu ex sz (bif pu then cs else dY f cs)
 | .mp rw ks vs=> .mp rw (dY f ks) (dY f vs)
 | .si s pos=> .si s pos
 | .lp tm ps as_ body st pe=> .lp (hZ f tm) ps as_ body st pe
def cz (tm:Env):List Nat->Env
 | []=>[]
 | i::r=>(i,ah tm i)::cz tm r
def iA (i:Nat):List Nat->Bool
 | []=>false
 | j::r=>bif yq j i then true else iA i r
def reach (hp:Hp) (base:Nat):Nat->List Nat->List Nat->List Nat
 | 0,_,seen=>seen
 | _+1,[],seen=>seen
 | n+1,id::fE,seen=>
  bif yB id base||iA id seen then reach hp base n fE seen
  else match aj hp id with
   | some o=>reach hp base n (dC o++fE) (seen++[id])
   | none=>reach hp base n fE seen
def b7 (base:Nat):Hp->List Nat
 | []=>[]
 | (id,o)::r=>bif yB id base then dC o++b7 base r else b7 base r
def iS (i:Nat):List Nat->Nat->Option Nat
 | [],_=>none
 | j::r,k=>bif yq j i then some k else iS i r (k+1)
def hJ (base:Nat) (seen:List Nat) (id:Nat):Option Nat:=bif yB id base then some id else iS id seen base
def iQ (base:Nat) (f:Nat->Option Nat):Hp->Hp
 | []=>[]
 | (id,o)::r=>bif yB id base then (id,iz f o)::iQ base f r else iQ base f r
def hX (hp:Hp) (f:Nat->Option Nat):List Nat->Nat->Hp->Hp
 | [],_,acc=>acc
 | id::r,k,acc=>match aj hp id with | some o=>hX hp f r (k+1) ((k,iz f o)::acc) | none=>hX hp f r (k+1) acc
def bw (live:List Nat) (s:St):St:=
 let tm:=cz s.tm live
 let seen:=reach s.hp s.base 100000 (dB tm++b7 s.base s.hp) []
 let f:=hJ s.base seen
 {tm:=hZ f tm,hp:=hX s.hp f seen s.base (iQ s.base f s.hp),ct:=s.base+seen.length,base:=s.base}
def lD (hp:Hp) (sz:Nat):AV->Option (Nat×List AV)
 | .ab=>some (0,[])
 | .aC _ n cs=>bif yq cs.length (n*sz) then some (n,cs) else none
 | .aq id o n=>
  match aj hp id with
  | some (.cells _ _ _ _ cs)=>bif yA (o+n*sz) cs.length then some (n,slice o (n*sz) cs) else none
  | _=>none
 | _=>none
def D7:List Nat->List AV
 | []=>[]
 | b::r=> .int .u8 b::D7 r
def pG:List Nat->List Nat->Bool
 | _,[]=>false
 | [],_::_=>true
 | a::x,b::y=>yB a b||(yq a b&&pG x y)
def dI:List Nat->List Nat->Bool
 | [],[]=>true
 | a::x,b::y=>yq a b&&dI x y
 | _,_=>false
def dd:List Nat->List AV->List AV->Option Bool
 | [],[],[]=>some true
 | 0::ks,.bool a::x,.bool b::y=>match dd ks x y with | some r=>some ((a==b)&&r) | none=>none
 | 1::ks,.int k a::x,.int k' b::y=>if k=k' then (match dd ks x y with | some r=>some ((a==b)&&r) | none=>none) else none
 | 2::ks,.str a::x,.str b::y=>match dd ks x y with | some r=>some (dI a b&&r) | none=>none
 | _,_,_=>none
def gN:FI->AV->AV->Option Bool
 | .b,.bool a,.bool b=>some (a==b)
 | .sl,.ab,.ab=>some true
 | .sl,.ab,.aC _ _ _=>some false
 | .sl,.ab,.aq _ _ _=>some false
 | .sl,.aC _ _ _,.ab=>some false
 | .sl,.aq _ _ _,.ab=>some false
 | .fn,.eZ,.eZ=>some true
 | .fn,.eZ,.fn _ _ _=>some false
 | .fn,.fn _ _ _,.eZ=>some false
 | .ag ks,.agg a,.agg b=>dd ks a b
 | _,_,_=>none
def intCmp (op:wk) (x y:Int):Option Bool:=
 match op with
 | .eql=>some (x==y)
 | .neq=>some (x !=y)
 | .lss=>some (decide (x<y))
 | .leq=>some (decide (x<=y))
 | .gtr=>some (decide (x>y))
 | .geq=>some (decide (x>=y))
 | _=>none
def iw (op:wk) (k:yJ) (x y:Int):Option AV:=
 match op with
 | .add=>some (.int k (k.wrap (x+y)))
 | .sub=>some (.int k (k.wrap (x-y)))
 | .mul=>some (.int k (k.wrap (x*y)))
 | .quo=>if y=0 then none else some (.int k (k.wrap (x.tdiv y)))
 | .rem=>if y=0 then none else some (.int k (x.tmod y))
 | .and=>some (.int k (k.wrap (wh k.bits x&&&wh k.bits y).toNat))
 | .or=>some (.int k (k.wrap (wh k.bits x|||wh k.bits y).toNat))
 | .xor=>some (.int k (k.wrap (wh k.bits x^^^wh k.bits y).toNat))
 | .andNot=>some (.int k (k.wrap (wh k.bits x&&&~~~(wh k.bits y)).toNat))
 | .shl | .shr=>none
 | op=>match intCmp op x y with | some b=>some (.bool b) | none=>none
def Is (op:wk) (k:yJ) (x y:Int):Option AV:=
 if y<0 then none else
 match op with
 | .shl=>some (.int k (k.wrap (x*2^(min y.toNat k.bits))))
 | .shr=>some (.int k (x.fdiv (2^(min y.toNat k.bits))))
 | _=>none
def BD (op:wk) (x y:List Nat):Option AV:=
 match op with
 | .add=>bif yA (x.length+y.length) 9223372036854775807 then some (.str (x++y)) else none
 | .eql=>some (.bool (dI x y))
 | .neq=>some (.bool (!dI x y))
 | .lss=>some (.bool (pG x y))
 | .leq=>some (.bool (pG x y||dI x y))
 | .gtr=>some (.bool (!(pG x y||dI x y)))
 | .geq=>some (.bool (!pG x y))
 | _=>none
def I1 (op:wk) (k:w8) (x y:Nat):Option AV:=
 let c:=k.format.order x y
 let ar (r:Option Nat):Option AV:=match r with | some b=>some (.cu k b) | none=>none
 match op with
 | .add=>ar (k.format.add x y)
 | .sub=>ar (k.format.sub x y)
 | .mul=>ar (k.format.mul x y)
 | .quo=>ar (k.format.div x y)
 | .eql=>some (.bool (c==some .eq))
 | .neq=>some (.bool (c !=some .eq))
 | .lss=>some (.bool (c==some .lt))
 | .leq=>some (.bool (c==some .lt||c==some .eq))
 | .gtr=>some (.bool (c==some .gt))
 | .geq=>some (.bool (c==some .gt||c==some .eq))
 | _=>none
def binOp (op:wk) (x y:AV):Option AV:=
 match x,y with
 | .int k a,.int k' b=>
  match op with
  | .shl | .shr=>Is op k a b
  | _=>if k=k' then iw op k a b else none
 | .cu k a,.cu k' b=>if k=k' then I1 op k a b else none
 | .str a,.str b=>BD op a b
 | _,_=>none
def unOp (op:UnOp) (x:AV):Option AV:=
 match op,x with
 | .neg,.int k n=>some (.int k (k.wrap (0-n)))
 | .xor,.int k n=>iw .xor k (if k.signed then -1 else k.max) n
 | .not,.bool b=>some (.bool !b)
 | .neg,.cu k b=>some (.cu k (b^^^2^(k.format.exponentBits+k.format.fractionBits)))
 | _,_=>none
def lL (c:Conv) (x:AV):Option AV:=
 match c,x with
 | .toInt k,.int _ n=>some (.int k (k.wrap n))
 | .toFlt k,.int _ n=>some (.cu k (k.nearest n))
 | .toInt k,.cu s b=>
  match (s.decode b).toInt .zero with
  | some n=>if k.min<=n/\n<=k.max then some (.int k n) else none
  | none=>none
 | .toFlt k,.cu s b=>
  if s=k then some (.cu k b) else
  match s.decode b with
  | .number sg m e=>if (k.decode (k.encode (.number sg m e))).isInfinity then none else some (.cu k (k.encode (.number sg m e)))
  | _=>none
 | .str,.str s=>some (.str s)
 | _,_=>none
def gB (sz:Nat) (ag:Bool) (cs:List AV):Option AV:=
 bif ag then (bif yA sz cs.length then some (.agg (cs.take sz)) else none)
 else match cs with | v::_=>some v | []=>none
def cP (x:AV):Option Nat:=
 match x with
 | .int _ n=>match n with | .ofNat k=>some k | .negSucc _=>none
 | _=>none
def cI (tm:Env) (d:Nat):Option X->Option Nat
 | none=>some d
 | some x=>cP (ao tm x)
def fg (hp:Hp) (k:Cut) (x:AV) (tm:Env) (lo hi:Option X):Option AV:=
 match k,x with
 | .str,.str s=>
  match cI tm 0 lo,cI tm s.length hi with
  | some l,some h=>bif yA l h&&yA h s.length then some (.str ((s.take h).drop l)) else none
  | _,_=>none
 | .sl _,.ab=>
  match cI tm 0 lo,cI tm 0 hi with
  | some 0,some 0=>some .ab
  | _,_=>none
 | .sl sz,.aC ex n cs=>
  match cI tm 0 lo,cI tm n hi with
  | some l,some h=>bif yA l h&&yA h n then some (.aC (ex&&yq h n) (h-l) (slice (l*sz) ((h-l)*sz) cs)) else none
  | _,_=>none
 | .sl sz,.aq id o n=>
  match aj hp id with
  | some (.cells _ _ _ z _)=>
   match cI tm 0 lo,cI tm n hi with
   | some l,some h=>
    bif yA l h&&yA h n&&yq z sz then
     bif yq l h&& !yq l 0 then some (.aC false 0 []) else some (.aq id (o+l*sz) (h-l))
    else none
   | _,_=>none
  | _=>none
 | _,_=>none
def fill (tm:Env):List AV->List (Nat×Nat×X)->Option (List AV)
 | cs,[]=>some cs
 | cs,(o,sz,x)::r=>
  let new:=cellsOf (ao tm x)
  bif yq new.length sz&&yA (o+sz) cs.length&&bT new then fill tm (over o new cs) r else none
def zi:AV->AV->Option Bool
 | .int k a,.int k' b=>if k=k' then some (a==b) else none
 | .str a,.str b=>some (dI a b)
 | .bool a,.bool b=>some (a==b)
 | _,_=>none
def nk:Nat->AV->Bool
 | 0,.bool _=>true
 | 1,.int _ _=>true
 | 2,.str _=>true
 | _,_=>false
def rb (k:AV):List AV->List AV->Option (Option AV)
 | [],_=>some none
 | k'::ks,v::vs=>match zi k k' with | some true=>some (some v) | some false=>rb k ks vs | none=>none
 | _::_,[]=>none
def pg (k v:AV):List AV->List AV->Option (List AV×List AV)
 | [],[]=>some ([k],[v])
 | k'::ks,u::us=>
  match zi k k' with
  | some true=>some (k'::ks,v::us)
  | some false=>match pg k v ks us with | some (gQ,JY)=>some (k'::gQ,u::JY) | none=>none
  | none=>none
 | _,_=>none
def min2:AV->AV->Option AV
 | .int k x,.int _ y=>some (.int k (if y<x then y else x))
 | .cu k x,.cu _ y=>
  match k.format.order x y with
  | none=>none
  | some .lt=>some (.cu k x)
  | some .gt=>some (.cu k y)
  | some .eq=>some (.cu k (if (k.decode x).neg then x else y))
 | _,_=>none
def max2:AV->AV->Option AV
 | .int k x,.int _ y=>some (.int k (if y>x then y else x))
 | .cu k x,.cu _ y=>
  match k.format.order x y with
  | none=>none
  | some .lt=>some (.cu k y)
  | some .gt=>some (.cu k x)
  | some .eq=>some (.cu k (if (k.decode x).neg then y else x))
 | _,_=>none
def o6 (f:AV->AV->Option AV):AV->List AV->Option AV
 | a,[]=>some a
 | a,b::r=>match f a b with | some c=>o6 f c r | none=>none
def room:Nat:=1099511627776
abbrev ez:=Option (AV×Hp×Nat)
def fT (hp:Hp) (sz:Nat) (ag:Bool):AV->Option AV
 | .ptr id o=>match aj hp id with | some (.cells _ _ _ _ cs)=>gB sz ag (cs.drop o) | _=>none
 | .aO cs=>gB sz ag cs
 | _=>none
def BE (k:Nat):AV->Option AV
 | .ptr id o=>some (.ptr id (o+k))
 | .aO cs=>bif yA k cs.length then some (.aO (cs.drop k)) else none
 | _=>none
def ED (o sz:Nat) (ag:Bool):AV->Option AV
 | .agg cs=>gB sz ag (cs.drop o)
 | _=>none
def fh (sz i:Nat):AV->Option AV
 | .aq id o n=>bif yB i n then some (.ptr id (o+i*sz)) else none
 | .aC _ n cs=>bif yB i n then some (.aO (cs.drop (i*sz))) else none
 | _=>none
def EE (len sz i:Nat):AV->Option AV
 | .ptr id o=>bif yB i len then some (.ptr id (o+i*sz)) else none
 | .aO cs=>bif yB i len then some (.aO (cs.drop (i*sz))) else none
 | _=>none
def lH (i:Nat):AV->Option AV
 | .str s=>match s[i]? with | some b=>some (.int .u8 b) | none=>none
 | _=>none
def BF (len sz:Nat) (ag:Bool) (i:Nat):AV->Option AV
 | .agg cs=>bif yB i len then gB sz ag (cs.drop (i*sz)) else none
 | _=>none
def o7 (hp:Hp) (k:AV):AV->Option (Option AV)
 | .gm=>some none
 | .map id=>match aj hp id with | some (.mp _ ks vs)=>rb k ks vs | _=>none
 | .fS ks vs=>rb k ks vs
 | _=>none
def eY (hp:Hp):Nat->AV->Option AV
 | 0,.str s=>some (.int .i64 s.length)
 | 1,.ab=>some (.int .i64 0)
 | 1,.aC _ n _=>some (.int .i64 n)
 | 1,.aq _ _ n=>some (.int .i64 n)
 | 2,.gm=>some (.int .i64 0)
 | 2,.fS ks _=>some (.int .i64 ks.length)
 | 2,.map id=>match aj hp id with | some (.mp _ ks _)=>some (.int .i64 ks.length) | _=>none
 | _,_=>none
def bc (tm:Env) (hp:Hp):Op->Option AV
 | .br x=>some (ao tm x)
 | .pick c a b=>match ao tm c with | .bool t=>some (bif t then ao tm a else ao tm b) | _=>none
 | .df zero parts=>match fill tm zero parts with | some cs=>some (.agg cs) | none=>none
 | .ld sz ag x=>fT hp sz ag (ao tm x)
 | .B0 x=>
  match ao tm x with
  | .ptr id o=>some (.ptr id o)
  | .aO cs=>some (.aO cs)
  | .fn f a b=>some (.fn f a b)
  | _=>none
 | .bin op x y=>binOp op (ao tm x) (ao tm y)
 | .eq ne k x y=>match gN k (ao tm x) (ao tm y) with | some r=>some (.bool (ne !=r)) | none=>none
 | .un op x=>unOp op (ao tm x)
 | .cv k x=>lL k (ao tm x)
 | .jr f first cap=>some (.fn f (cx tm first) (cx tm cap))
 | .cV k x lo hi=>fg hp k (ao tm x) tm lo hi
 | .off k x=>BE k (ao tm x)
 | .Cq o sz ag x=>ED o sz ag (ao tm x)
 | .a7 sz x i=>match cP (ao tm i) with | some j=>fh sz j (ao tm x) | none=>none
 | .zU len sz x i=>match cP (ao tm i) with | some j=>EE len sz j (ao tm x) | none=>none
 | .ik x i=>match cP (ao tm i) with | some j=>lH j (ao tm x) | none=>none
 | .pE len sz ag x i=>match cP (ao tm i) with | some j=>BF len sz ag j (ao tm x) | none=>none
 | .FJ kk zero ok m k=>
  bif nk kk (ao tm k) then
   match o7 hp (ao tm k) (ao tm m) with
   | some (some v)=>some (bif ok then .ay [v,.bool true] else v)
   | some none=>some (bif ok then .ay [zero,.bool false] else zero)
   | none=>none
  else none
 | .ext i x=>match ao tm x with | .ay vs=>vs[i]? | _=>none
 | .len k x=>eY hp k (ao tm x)
 | .mn xs=>match cx tm xs with | a::r=>o6 min2 a r | []=>none
 | .mx xs=>match cx tm xs with | a::r=>o6 max2 a r | []=>none
 | _=>none
def bV (tm:Env) (hp:Hp) (ct:Nat):Op->Option (AV×Obj)
 | .box sz x=>
  let cs:=cellsOf (ao tm x)
  bif yq cs.length sz&&bT cs then some (.ptr ct 0,.cells true (ax cs) true sz cs) else none
 | .cd n sz zero parts=>
  match fill tm zero parts with
  | some cs=>bif yq cs.length (n*sz) then some (.aq ct 0 n,.cells true (ax cs) true sz cs) else none
  | none=>none
 | .eT sz bytes zero len cap=>
  match cP (ao tm len),cP (ao tm cap) with
  | some l,some c=>
   bif yA l c&&(yA c room&&(yA (c*bytes) room&&(yq zero.length sz&&bT zero))) then
    some (.aq ct 0 l,.cells true (ax zero) (yq l c) sz (yx l zero).flatten)
   else none
  | _,_=>none
 | .nZ=>some (.map ct,.mp true [] [])
 | .kP x=>match ao tm x with | .str s=>some (.it ct,.si s 0) | _=>none
 | _=>none
def decodeL (s:List Nat) (i:Nat):Nat×Nat:=
 let at' (k:Nat):Nat:=s.getD (i+k) 0
 let cont (k:Nat):Bool:=decide (i+k<s.length)&&at' k/64==2
 let b0:=at' 0
 if b0<0x80 then (b0,1)
 else if b0/32==6&&cont 1 then
  let c:=(b0%32)*64+at' 1%64
  if c>=0x80 then (c,2) else (wT,1)
 else if b0/16==14&&cont 1&&cont 2 then
  let c:=(b0%16)*4096+(at' 1%64)*64+at' 2%64
  if c>=0x800&&tF c then (c,3) else (wT,1)
 else if b0/8==30&&cont 1&&cont 2&&cont 3 then
  let c:=(b0%8)*262144+(at' 1%64)*4096+(at' 2%64)*64+at' 3%64
  if c>=0x10000&&tF c then (c,4) else (wT,1)
 else (wT,1)
def nu (hp:Hp) (sz:Nat):AV->Option (Nat×List AV)
 | .str b=>bif yq sz 1 then some (b.length,D7 b) else none
 | v=>lD hp sz v
def b8 (tm:Env) (hp:Hp) (ct:Nat):Op->ez
 | .st sz x v=>
  let new:=cellsOf (ao tm v)
  match ao tm x with
  | .ptr id o=>
   match aj hp id with
   | some (.cells true pu ex z cs)=>
    bif yq new.length sz&&yA (o+sz) cs.length&&bT new then
     some (.ay [],aW hp id (.cells true (pu&&ax new) ex z (over o new cs)),ct)
    else none
   | _=>none
  | _=>none
 | .kO kk m k v=>
  match ao tm m with
  | .map id=>
   match aj hp id with
   | some (.mp true ks vs)=>bif !nk kk (ao tm k) then none else match pg (ao tm k) (ao tm v) ks vs with | some (gQ,cW)=>some (.ay [],aW hp id (.mp true gQ cW),ct) | none=>none
   | _=>none
  | _=>none
 | .kQ x=>
  match ao tm x with
  | .it id=>
   match aj hp id with
   | some (.si s pos)=>
    bif yB pos s.length then
     match decodeL s pos with
     | (c,wd)=>some (.ay [.bool true,.int .i64 pos,.int .i32 c],aW hp id (.si s (pos+wd)),ct)
    else some (.ay [.bool false],hp,ct)
   | _=>none
  | _=>none
 | .cC sz bytes s x=>
  match nu hp sz (ao tm x) with
  | none=>none
  | some (m,new)=>
   match ao tm s with
   | .ab=>
    bif yq m 0 then some (.ab,hp,ct)
    else bif yA m room&&(yA (m*bytes) room&&yB 0 sz) then some (.aq ct 0 m,(ct,.cells true (ax new) false sz new)::hp,ct+1) else none
   | .aC true n cs=>
    bif yq m 0 then some (.aC true n cs,hp,ct)
    else bif yA (n+m) room&&(yA ((n+m)*bytes) room&&(yq cs.length (n*sz)&&yB 0 sz)) then some (.aq ct 0 (n+m),(ct,.cells true (ax cs&&ax new) false sz (cs++new))::hp,ct+1) else none
   | .aq id o n=>
    match aj hp id with
    | some (.cells true pu _ z cs)=>
     bif yq z sz&&(yA (n+m) room&&(yA ((n+m)*bytes) room&&(yA (o+n*sz) cs.length&&(yB 0 sz&&bT new)))) then
      some (.aq ct 0 (n+m),(ct,.cells true (pu&&ax new) false sz (slice o (n*sz) cs++new))::cp hp id,ct+1)
     else none
    | _=>none
   | _=>none
 | .kR sz d s=>
  match lD hp sz (ao tm s),ao tm d with
  | some (m,new),.aq id o n=>
   match aj hp id with
   | some (.cells true pu ex z cs)=>
    bif yq z sz&&(yA (o+n*sz) cs.length&&bT new) then
     some (.int .i64 (min m n:Nat),aW hp id (.cells true (pu&&ax new) ex z (over o (new.take (min m n*sz)) cs)),ct)
    else none
   | _=>none
  | _,_=>none
 | _=>none
def gh:X->List Nat | .t i=>[i] | .c _=>[]
def nv:List X->List Nat
 | []=>[]
 | x::r=>gh x++nv r
def BG:Option X->List Nat | some x=>gh x | none=>[]
def BH:List (Nat×Nat×X)->List Nat
 | []=>[]
 | (_,_,x)::r=>gh x++BH r
def gZ:Op->List Nat
 | .br x | .box _ x | .ld _ _ x | .B0 x | .un _ x | .cv _ x | .off _ x | .Cq _ _ _ x | .kP x | .kQ x | .ext _ x | .len _ x=>gh x
 | .pick a b c | .kO _ a b c=>gh a++(gh b++gh c)
 | .df _ ps | .cd _ _ _ ps=>BH ps
 | .st _ a b | .bin _ a b | .eq _ _ a b | .a7 _ a b | .zU _ _ a b | .ik a b | .pE _ _ _ a b | .FJ _ _ _ a b | .cC _ _ a b | .kR _ a b=>gh a++gh b
 | .jr _ a b=>nv a++nv b
 | .nZ=>[]
 | .eT _ _ _ a b=>gh a++gh b
 | .cV _ x a b=>gh x++(BG a++BG b)
 | .call _ f xs=>gh f++nv xs
 | .eX _ f xs=>gh f++nv xs
 | .gP _ _ a b=>gh a++gh b
 | .mn xs | .mx xs=>nv xs
def bf:Op->Nat
 | .br _ | .pick _ _ _ | .df _ _ | .B0 _ | .bin _ _ _ | .eq _ _ _ _ | .un _ _ | .cv _ _ | .jr _ _ _ | .off _ _ | .Cq _ _ _ _ | .a7 _ _ _ | .zU _ _ _ _ | .ik _ _ | .pE _ _ _ _ _ | .ext _ _ | .mn _ | .mx _=>0
 | .cV .str _ _ _ | .len 0 _ | .len 1 _=>0
 | .st _ _ _ | .kO _ _ _ _ | .kQ _ | .cC _ _ _ _ | .kR _ _ _ | .eX _ _ _ | .gP _ _ _ _ | .call .heap _ _ | .call .dyn _ _=>2
 | _=>1
def I2:Option (Nat×Bool)->List Nat | some (t,_)=>[t] | none=>[]
def qO (o:aR):List Nat:=I2 o.guard++gZ o.op
def zu (d:Option Nat) (l:List Nat):Bool:=match d with | some i=>iA i l | none=>false
def RO (d e:Option Nat):Bool:=match d,e with | some i,some j=>yq i j | _,_=>false
def DS (a b:aR):Bool:=zu a.dst (qO b)||zu b.dst (qO a)||RO a.dst b.dst
def zx (sz:Nat) (ag:Bool) (t:Nat):List (Nat×Bool×Nat)->Bool
 | []=>false
 | (s,g,u)::r=>(yq s sz&&(g==ag&&yq u t))||zx sz ag t r
def zj (t:Nat):List aR->Bool
 | []=>true
 | o::r=> !zu o.dst [t]&&zj t r
def A2 (a b:aR) (r:List aR):Bool:=
 match a.guard,a.op,b.op with
 | none,.ld sz ag (.t t),.eX rs _ _=>zx sz ag t rs&&zj t (a::r)
 | none,.ld sz ag (.t t),.gP rs _ _ _=>zx sz ag t rs&&zj t (a::r)
 | _,_,_=>false
def AL (a b:aR):Bool:=
 match bf a.op,bf b.op with
 | 1,2 | 2,1 | 2,2=>true
 | _,_=>false
def DT (m:Nat) (b:aR):List aR->Nat->Bool
 | [],_=>true
 | a::r,i=>(vn m i|| !(DS a b||(AL a b&& !A2 a b r)))&&DT m b r (i+1)
def sS (done:List aR):List aR->List Nat->Bool
 | [],_=>true
 | b::r,m::ms=>DT m b done 0&&sS (done++[b]) r ms
 | _::_,[]=>false
def D8 (m:Nat):List aR->Nat->List (Nat×Bool×Nat)
 | [],_=>[]
 | a::r,i=>
  match vn m i,a with
  | false,⟨_,none,.ld sz ag (.t t)⟩=>(sz,ag,t)::D8 m r (i+1)
  | _,_=>D8 m r (i+1)
def stOp (rs:List (Nat×Bool×Nat)) (sz:Nat) (x v:X):Op:=match rs with | []=> .st sz x v | rs=> .gP rs sz x v
def nF (done:List aR):List aR->List Nat->List aR
 | ⟨d,g,.eX _ f xs⟩::r,m::ms=>let o:aR:=⟨d,g,.eX (D8 m done 0) f xs⟩;o::nF (done++[o]) r ms
 | ⟨d,g,.st sz x v⟩::r,m::ms=>let o:aR:=⟨d,g,stOp (D8 m done 0) sz x v⟩;o::nF (done++[o]) r ms
 | o::r,_::ms=>o::nF (done++[o]) r ms
 | l,_=>l
abbrev aA:=Nat->Option av
structure Lib where
 pure:Nat->Option (List AV->Option AV)
 heap:Nat->Option (Hp->Nat->List AV->ez)
abbrev bZ:=VC->St->Option (Ex×St)
def eE:Nat->List AV->Env
 | _,[]=>[]
 | i,v::r=>(i,v)::eE (i+1) r
def results1 (s:St):RV->Option AV
 | .t i=>some (ah s.tm i)
 | .cell i sz ag=>
  match ah s.tm i with
  | .ptr id o=>match aj s.hp id with | some (.cells _ _ _ _ cs)=>gB sz ag (cs.drop o) | _=>none
  | .aO cs=>gB sz ag cs
  | _=>none
def ir (s:St):List RV->Option (List AV)
 | []=>some []
 | r::rest=>match results1 s r,ir s rest with | some v,some vs=>some (v::vs) | _,_=>none
def fe (s:St) (rs:List RV):Option AV:=
 match ir s rs with
 | some [v]=>some v
 | some vs=>some (.ay vs)
 | none=>none
def cf (P:aA) (L:Lib) (self:bZ) (n:Nat) (vals:List AV):Option AV:=
 match L.pure n with
 | some sp=>sp vals
 | none=>
  match P n with
  | none=>none
  | some F=>
   match self F.body ⟨eE 0 vals,[],0,0⟩ with
   | some (.normal,s) | some (.ret,s)=>match fe s F.bF with | some v=>result s.hp v | none=>none
   | _=>none
def IK:Ex->mE
 | .normal=> .none
 | .ret=> .ret
 | .exit id=> .exit id
def lG:Env->List Nat->List AV->Option Env
 | tm,[],[]=>some tm
 | tm,p::ps,v::vs=>lG ((p,v)::tm) ps vs
 | _,_,_=>none
def fA (P:aA) (L:Lib) (self:bZ) (hp:Hp) (ct:Nat) (n:Nat) (vals:List AV):ez:=
 match L.heap n with
 | some sp=>sp hp ct vals
 | none=>
  match P n with
  | none=>none
  | some F=>
   match self F.body ⟨eE 0 vals,hp,ct,ct⟩ with
   | some (.normal,s) | some (.ret,s)=>match fe s F.bF with | some v=>some (v,s.hp,s.ct) | none=>none
   | _=>none
def fy (self:bZ) (hp:Hp) (ct:Nat) (l:Nat) (xs:List AV):ez:=
 match aj hp l with
 | some (.lp tm ps as_ body 0 _)=>
  match lG tm ps xs with
  | none=>none
  | some tm'=>
   match self as_ ⟨tm',hp,ct,ct⟩ with
   | some (.normal,s1)=>
    match aj s1.hp l with
    | some (.lp lT mM rT re 0 kS)=>
     match self body ⟨s1.tm,aW s1.hp l (.lp lT mM rT re 1 kS),s1.ct,s1.ct⟩ with
     | some (ex,s2)=>
      match aj s2.hp l with
      | some (.lp mN pH Cr BI 1 _)=>
       match ex with
       | .normal=>some (.bool true,aW s2.hp l (.lp mN pH Cr BI 0 .none),s2.ct)
       | ex=>some (.bool false,aW s2.hp l (.lp mN pH Cr BI 2 (IK ex)),s2.ct)
      | _=>none
     | none=>none
    | _=>none
   | _=>none
 | _=>none
def cw (P:aA) (L:Lib) (self:bZ) (hp:Hp) (ct:Nat) (m:Md) (fv:AV) (xs:List AV):ez:=
 match fv with
 | .fn (.f n) first cap=>
  match m with
  | .pure=>
   match bO deep hp (first++(xs++cap)) with
   | some (vals,bl)=>match cf P L self n vals with | some r=>some (shut r,bl,ct) | none=>none
   | none=>none
  | .own=>
   match bO deep hp (first++(xs++cap)) with
   | some (vals,bl)=>match cf P L self n vals with | some r=>some (own bl ct r) | none=>none
   | none=>none
  | .heap=>fA P L self hp ct n (first++(xs++cap))
  | .dyn=>
   bif ax (first++(xs++cap)) then
    match cf P L self n (first++(xs++cap)) with | some r=>some (shut r,hp,ct) | none=>none
   else fA P L self hp ct n (first++(xs++cap))
 | .fn (.y l) _ _=>
  match m with
  | .heap | .dyn=>fy self hp ct l xs
  | _=>none
 | _=>none
def E6:AV->AV->Bool
 | .int k a,.int k' b=>decide (k=k')&&a==b
 | .bool a,.bool b=>a==b
 | .str a,.str b=>dI a b
 | .ab,.ab=>true
 | .gM,.gM=>true
 | .ptr i o,.ptr j p=>yq i j&&yq o p
 | .aq i o n,.aq j p m=>yq i j&&(yq o p&&yq n m)
 | .map i,.map j=>yq i j
 | _,_=>false
def lE (tm:Env) (hp ai:Hp):List (Nat×Bool×Nat)->Bool
 | []=>true
 | (sz,ag,x)::r=>
  match fT hp sz ag (ah tm x),fT ai sz ag (ah tm x) with
  | some a,some b=>E6 a b&&lE tm hp ai r
  | _,_=>false
def sY (tm:Env) (id:Nat):List (Nat×Bool×Nat)->Bool
 | []=>true
 | (_,_,x)::r=>(match ah tm x with | .ptr j _=> !yq j id | .aO _=>true | _=>false)&&sY tm id r
def aY (P:aA) (L:Lib) (self:bZ) (tm:Env) (hp:Hp) (ct:Nat) (o:Op):ez:=
 match o with
 | .call m f xs=>cw P L self hp ct m (ao tm f) (cx tm xs)
 | .eX rs f xs=>
  match cw P L self hp ct .dyn (ao tm f) (cx tm xs) with
  | some (v,ai,aK)=>bif lE tm hp ai rs then some (v,ai,aK) else none
  | none=>none
 | .gP rs sz x v=>
  match ao tm x with
  | .ptr id _=>bif sY tm id rs then b8 tm hp ct (.st sz x v) else none
  | _=>none
 | .st .. | .kO .. | .kQ .. | .cC .. | .kR .. =>b8 tm hp ct o
 | .box .. | .cd .. | .eT .. | .nZ | .kP .. =>match bV tm hp ct o with | some (v,b)=>some (v,(ct,b)::hp,ct+1) | none=>none
 | o=>match bc tm hp o with | some v=>some (v,hp,ct) | none=>none
def put (d:Option Nat) (v:AV) (tm:Env):Env:=
 match d with
 | some i=>(i,v)::tm
 | none=>tm
def cN (P:aA) (L:Lib) (self:bZ):List aR->St->Option St
 | [],s=>some s
 | ⟨d,g,o⟩::r,s=>
  let want:=match g with | none=>some true | some (t,b)=>match ah s.tm t with | .bool c=>some (c==b) | .ay []=>some false | _=>none
  match want with
  | some true=>
   match aY P L self s.tm s.hp s.ct o with
   | some (v,hp,ct)=>cN P L self r {s with tm:=put d v s.tm,hp:=hp,ct:=ct}
   | none=>none
  | some false=>cN P L self r {s with tm:=put d (.ay []) s.tm}
  | none=>none
def kA:List Nat->St->Option St
 | [],s=>some s
 | t::r,s=>
  match freeze deep s.hp (ah s.tm t) with
  | some (v,hp)=>kA r {s with tm:=(t,v)::s.tm,hp:=hp}
  | none=>none
def bh (P:aA) (L:Lib) (self:bZ):VC->St->Option (Ex×St)
 | .skip,s=>some (.normal,s)
 | .aB ops,s=>match cN P L self ops s with | some s'=>some (.normal,s') | none=>none
 | .seq a b,s=>
  match bh P L self a s with
  | some (.normal,s1)=>bh P L self b s1
  | r=>r
 | .cond x a b,s=>
  match ao s.tm x with
  | .bool t=>bif t then bh P L self a s else bh P L self b s
  | _=>none
 | .aw id a,s=>
  match bh P L self a s with
  | some (.exit j,s1)=>bif yq j id then some (.normal,s1) else some (.exit j,s1)
  | r=>r
 | .kp live,s=>some (.normal,bw live s)
 | .fz ts,s=>match kA ts s with | some s'=>some (.normal,s') | none=>none
 | .loop live a,s=>
  match bh P L self a (bw live s) with
  | some (.normal,s1)=>self (.loop live a) s1
  | r=>r
 | .rf f ps as_ body,s=>
  match ao s.tm f with
  | .fn (.f n) first cap=>
   match L.heap n with
   | some _=>none
   | none=>
    match fA P L self ((s.ct,.lp s.tm ps as_ body 0 .none)::s.hp) (s.ct+1) n (first++(.fn (.y s.ct) [] []::cap)) with
    | some (_,hp,ct)=>
     match aj hp s.ct with
     | some (.lp _ _ _ _ st pe)=>
      bif yq st 1 then none else
      match pe with
      | .none=>some (.normal,{s with hp:=cp hp s.ct,ct:=ct})
      | .ret=>some (.ret,{s with hp:=cp hp s.ct,ct:=ct})
      | .exit id=>some (.exit id,{s with hp:=cp hp s.ct,ct:=ct})
     | _=>none
    | none=>none
  | _=>none
 | .exit id,s=>some (.exit id,s)
 | .ret,s=>some (.ret,s)
def ev (P:aA) (L:Lib) (n:Nat):bZ:=Nat.rec (fun _ _=>none) (fun _ ih=>bh P L ih) n
def JZ (P:aA) (L:Lib) (n:Nat) (f:Nat) (vals:List AV):Option AV:=cf P L (ev P L n) f vals
end
section
open Go
structure Pl where
 b:Nat
 o:Nat
 e:Nat
 z:Nat
abbrev Mp:=Nat->Option Pl
section
variable (ae:Nat->Nat) (m:Mp) (S:Nat->Prop) (w:yg)
mutual
def af:AV->ye->Prop
 | .int k n,v=>v= .int k n
 | .bool b,v=>v= .bool b
 | .cu k b,v=>v= .float k b
 | .str s,v=>∃t:ByteArray,v= .string t/\t.data.toList.map yN=s
 | .gM,v=>v= .pointer none
 | .ptr id o,v=>∃p,m id=some p/\v= .pointer (some ⟨p.b,p.o+o,none⟩)
 | .aO cs,v=>∃b o,v= .pointer (some ⟨b,o,none⟩)/\(cs=[]\/S b)/\ax cs=true/\bt cs b o
 | .ab,v=>v= .slice none 0 0
 | .aC ex n cs,v=>(∃b o c,v= .slice (some ⟨b,o,none⟩) n c/\n<=c/\(ex=true->c=n)/\(cs=[]\/S b)/\ax cs=true/\bt cs b o)\/(∃a,v= .slice (some a) 0 0/\n=0/\cs=[])
 | .bS _ _ _ _,_=>False
 | .aq id o n,v=>∃p c,m id=some p/\v= .slice (some ⟨p.b,p.o+o,none⟩) n c/\n<=c/\o+c*p.z=p.e
 | .fn (.f g) first cap,v=>∃fi ca:Array ye,v= .func (.func (ae g)) fi ca/\ak first fi.toList/\ak cap ca.toList
 | .fn (.y l) _ _,v=>∃p,m l=some p/\v= .func (.yield p.b) #[] #[]
 | .eZ,v=>v= .nilFunc
 | .gm,v=>v= .map none
 | .map id,v=>∃p,m id=some p/\v= .map (some p.b)
 | .fS ks vs,v=>∃b es clock,v= .map (some b)/\S b/\ax ks=true/\ax vs=true/\w.heap[b]? =some (.map es clock)/\
   ak ks (es.toList.map (·.key))/\ak vs (es.toList.map (·.val))
 | .it id,v=>∃p,m id=some p/\v= .pointer (some ⟨p.b,0,none⟩)
 | .agg cs,v=>∃xs:Array ye,v= .agg xs/\ak cs xs.toList
 | .ay cs,v=>∃xs:Array ye,v= .tuple xs/\ak cs xs.toList
 | .undef,_=>True
def ak:List AV->List ye->Prop
 | [],us=>us=[]
 | c::cs,us=>∃u r,us=u::r/\af c u/\ak cs r
def bt:List AV->Nat->Nat->Prop
 | [],_,_=>True
 | c::cs,b,o=>(∃u,w.cell? ⟨b,o,none⟩=some u/\af c u)/\bt cs b (o+1)
end
end
def eh (S:Nat->Prop) (w w':yg):Prop:=∀b,S b->w'.heap[b]? =w.heap[b]?
def Dk {w w':yg} {b o:Nat} (h:w'.heap[b]? =w.heap[b]?):w'.cell? ⟨b,o,none⟩=w.cell? ⟨b,o,none⟩:=by
 simp only [World.cell?,h]
section
variable {ae:Nat->Nat} {m m':Mp} {S S':Nat->Prop} {w w':yg}
mutual
def iN (hm:∀id p,m id=some p->m' id=some p) (hS:∀b,S b->S' b) (hw:eh S w w'):
  ∀(v:AV) (u:ye),af ae m S w v u->af ae m' S' w' v u
 | .int _ _,_,h | .bool _,_,h | .cu _ _,_,h | .str _,_,h | .gM,_,h | .ab,_,h | .eZ,_,h | .gm,_,h | .undef,_,h=>by
  simpa only [af] using h
 | .ptr id o,u,h=>by
  simp only [af] at h ⊢;obtain ⟨p,h1,h2⟩:=h;exact ⟨p,hm _ _ h1,h2⟩
 | .aO cs,u,h=>by
  simp only [af] at h ⊢;obtain ⟨b,o,h1,h2,h3,h4⟩:=h;refine ⟨b,o,h1,h2.imp id (hS b),h3,?_⟩;rcases h2 with rfl | h2
  ·simp only [bt]
  ·exact G4 hm hS hw cs b o h2 h4
 | .aC ex n cs,u,h=>by
  simp only [af] at h ⊢;rcases h with ⟨b,o,c,h1,h2,h3,h4,h5,h6⟩ | h
  ·refine .inl ⟨b,o,c,h1,h2,h3,h4.imp id (hS b),h5,?_⟩;rcases h4 with rfl | h4
   ·simp only [bt]
   ·exact G4 hm hS hw cs b o h4 h6
  ·exact .inr h
 | .bS _ _ _ _,u,h=>by simp only [af] at h
 | .aq id o n,u,h=>by
  simp only [af] at h ⊢;obtain ⟨p,c,h1,h2⟩:=h;exact ⟨p,c,hm _ _ h1,h2⟩
 | .fn (.f g) first cap,u,h=>by
  simp only [af] at h ⊢;obtain ⟨fi,ca,h1,h2,h3⟩:=h;exact ⟨fi,ca,h1,eV hm hS hw first _ h2,eV hm hS hw cap _ h3⟩
 | .fn (.y l) _ _,u,h=>by
  simp only [af] at h ⊢;obtain ⟨p,h1,h2⟩:=h;exact ⟨p,hm _ _ h1,h2⟩
 | .map id,u,h=>by
  simp only [af] at h ⊢;obtain ⟨p,h1,h2⟩:=h;exact ⟨p,hm _ _ h1,h2⟩
 | .fS ks vs,u,h=>by
  simp only [af] at h ⊢;obtain ⟨b,es,clock,h1,h2,h3,h4,h5,h6,h7⟩:=h;exact ⟨b,es,clock,h1,hS b h2,h3,h4,(hw b h2).trans h5,eV hm hS hw ks _ h6,eV hm hS hw vs _ h7⟩
 | .it id,u,h=>by
  simp only [af] at h ⊢;obtain ⟨p,h1,h2⟩:=h;exact ⟨p,hm _ _ h1,h2⟩
 | .agg cs,u,h=>by
  simp only [af] at h ⊢;obtain ⟨xs,h1,h2⟩:=h;exact ⟨xs,h1,eV hm hS hw cs _ h2⟩
 | .ay cs,u,h=>by
  simp only [af] at h ⊢;obtain ⟨xs,h1,h2⟩:=h;exact ⟨xs,h1,eV hm hS hw cs _ h2⟩
def eV (hm:∀id p,m id=some p->m' id=some p) (hS:∀b,S b->S' b) (hw:eh S w w'):
  ∀(vs:List AV) (us:List ye),ak ae m S w vs us->ak ae m' S' w' vs us
 | [],us,h=>by simpa only [ak] using h
 | v::r,us,h=>by
  simp only [ak] at h ⊢;obtain ⟨u,t,h1,h2,h3⟩:=h;exact ⟨u,t,h1,iN hm hS hw v u h2,eV hm hS hw r t h3⟩
def G4 (hm:∀id p,m id=some p->m' id=some p) (hS:∀b,S b->S' b) (hw:eh S w w'):
  ∀(cs:List AV) (b o:Nat),S b->bt ae m S w cs b o->bt ae m' S' w' cs b o
 | [],_,_,_,_=>by simp only [bt]
 | c::cs,b,o,hb,h=>by
  simp only [bt] at h ⊢;obtain ⟨⟨u,h1,h2⟩,h3⟩:=h;exact ⟨⟨u,(Dk (hw b hb)).trans h1,iN hm hS hw c u h2⟩,G4 hm hS hw cs b (o+1) hb h3⟩
end
end
end
section
open Go
structure Hint where
 n:Nat
 bE:FuncId->Option Nat
 live:Nat->List Nat
 out:Nat->Option (List Nat)
 mode:Nat->Md
 fz:Nat->List Nat
section
variable (P:yM) (H:Hint)
mutual
def dl:ye->AV
 | .int k n=> .int k n
 | .bool b=> .bool b
 | .float k b=> .cu k b
 | .string s=> .str (s.data.toList.map yN)
 | .pointer none=> .gM
 | .slice none 0 0=> .ab
 | .map none=> .gm
 | .nilFunc=> .eZ
 | .agg ⟨cs⟩=> .agg (sZ cs)
 | .tuple ⟨cs⟩=> .ay (sZ cs)
 | _=> .undef
def sZ:List ye->List AV
 | []=>[]
 | v::r=>dl v::sZ r
end
def aF:xh->X
 | .tmp t=> .t t
 | .const v=> .c (dl v)
 | .global _=> .c .undef
 | .func f=>match H.bE f with | some g=> .c (.fn (.f g) [] []) | none=> .c .undef
def eQ:List xh->List X
 | []=>[]
 | x::r=>aF H x::eQ r
def bQ (t:yp):Option Nat:=match P.info? t with | some i=>some i.size | none=>none
def pI (t:yp):Option Nat:=match P.info? t with | some i=>some i.bytes | none=>none
def jh (t:yp):Option AV:=match P.info? t with | some i=>(match i.zero with | some v=>some (dl v) | none=>none) | none=>none
def cQ (t:yp):Option Bool:=match P.underlying t with | some (.struct _) | some (.array _ _)=>some true | some _=>some false | none=>none
def bad:Op:= .call .pure (.c .undef) []
def partsOf (place:Nat->Option (Nat×Nat)):List (Nat×xh)->Option (List (Nat×Nat×X))
 | []=>some []
 | (i,x)::r=>
  match place i,partsOf place r with
  | some (o,s),some l=>some ((o,s,aF H x)::l)
  | _,_=>none
def sI (self:yp->Option (List Nat)):List Field->Nat->Option (List Nat)
 | [],_=>some []
 | f::r,o=>
  match self f.type,bQ P f.type with
  | some ks,some s=>
   bif f.name != "_"&&yq f.offset o&&yq ks.length s&& !P.stoodInHeld f.type then
    (match sI self r (o+s) with | some l=>some (ks++l) | none=>none)
   else none
  | _,_=>none
def kinds:Nat->yp->Option (List Nat)
 | 0,_=>none
 | n+1,t=>
  match P.underlying t with
  | some .bool=>some [0]
  | some (.int _)=>some [1]
  | some .string=>some [2]
  | some (.struct fs)=>sI P (fun u=>kinds n u) fs.toList 0
  | some (.array k e)=>
   match kinds n e,bQ P e with
   | some ks,some s=>bif yq ks.length s&& !P.stoodInHeld e then some (yx k ks).flatten else none
   | _,_=>none
  | _=>none
def keyOf (t:yp):Option Nat:=
 match P.underlying t with
 | some .bool=>some 0
 | some (.int _)=>some 1
 | some .string=>some 2
 | _=>none
def nl (ne:Bool) (t:yp) (a b:xh):Op:=
 match kinds P 20 t with
 | some ks=>bif P.stoodInHeld t||P.eqGuardType P.depth t then bad else .eq ne (.ag ks) (aF H a) (aF H b)
 | none=>bad
def mv (ne:Bool) (op:wk) (t:yp) (a b:xh):Op:=
 match P.underlying t with
 | some (.int _) | some .string | some (.float _)=> .bin op (aF H a) (aF H b)
 | some .bool=> .eq ne .b (aF H a) (aF H b)
 | some (.slice _)=> .eq ne .sl (aF H a) (aF H b)
 | some (.func _ _ _)=> .eq ne .fn (aF H a) (aF H b)
 | some (.struct _) | some (.array _ _)=>nl P H ne t a b
 | _=>bad
def aV (k:Nat) (o:yL):Op:=
 let x (y:xh):X:=aF H y
 match o.op with
 | .move a | .assign a=> .br (x a)
 | .pick c a b=> .pick (x c) (x a) (x b)
 | .alloc t=>match bQ P t,jh P t with | some s,some z=> .box s (.c z) | _,_=>bad
 | .box t v=>match bQ P t with | some s=> .box s (x v) | none=>bad
 | .build t parts=>
  match P.underlying t,jh P t with
  | some (.struct fs),some (.agg z)=>
   match fs.toList.mapM (fun f=>(P.info? f.type).map fun i=>(f.offset,i.size)) with
   | some pl=>(match partsOf H (fun i=>pl[i]?) parts.toList with | some ps=> .df z ps | none=>bad)
   | none=>bad
  | some (.array _ e),some (.agg z)=>
   match bQ P e with
   | some s=>(match partsOf H (fun i=>some (i*s,s)) parts.toList with | some ps=> .df z ps | none=>bad)
   | none=>bad
  | _,_=>bad
 | .buildSlice t n parts=>
  match P.underlying t with
  | some (.slice e)=>
   match bQ P e,jh P e with
   | some s,some z=>
    bif yA (n*s) 16777216 then
     (match partsOf H (fun i=>some (i*s,s)) parts.toList with | some ps=> .cd n s (yx n (cellsOf z)).flatten ps | none=>bad)
    else bad
   | _,_=>bad
  | _=>bad
 | .load t a=>match bQ P t,cQ P t with | some s,some ag=> .ld s ag (x a) | _,_=>bad
 | .store t a v=>match bQ P t with | some s=> .st s (x a) (x v) | none=>bad
 | .nilCheck a=> .B0 (x a)
 | .binOp op t a b _=>
  match op with
  | .eql=>mv P H false op t a b
  | .neq=>mv P H true op t a b
  | _=> .bin op (x a) (x b)
 | .unOp op _ a=> .un op (x a)
 | .convert s d a=>
  match P.underlying s,P.underlying d with
  | some (.int _),some (.int k) | some (.float _),some (.int k)=> .cv (.toInt k) (x a)
  | some (.int _),some (.float k) | some (.float _),some (.float k)=> .cv (.toFlt k) (x a)
  | some .string,some .string=> .cv .str (x a)
  | _,_=>bad
 | .makeFunc (.func f) first cap=>match H.bE f with | some g=> .jr (.f g) (eQ H first.toList) (eQ H cap.toList) | none=>bad
 | .makeMap t none=>match P.underlying t with | some (.map ke _)=>(match keyOf P ke with | some _=> .nZ | none=>bad) | _=>bad
 | .makeSlice t l c=>
  match P.underlying t with
  | some (.slice e)=>(match bQ P e,pI P e,jh P e with | some s,some b,some z=> .eT s b (cellsOf z) (x l) (x c) | _,_,_=>bad)
  | _=>bad
 | .slice t a lo hi none=>
  match P.underlying t with
  | some .string=> .cV .str (x a) (lo.map x) (hi.map x)
  | some (.slice e)=>(match bQ P e with | some s=> .cV (.sl s) (x a) (lo.map x) (hi.map x) | none=>bad)
  | some (.array n e)=>(match bQ P e with | some s=> .cV (.ar n s) (x a) (lo.map x) (hi.map x) | none=>bad)
  | _=>bad
 | .fieldAddr t a i=>
  match P.underlying t with
  | some (.struct fs)=>
   match fs[i]? with
   | some f=>(match bQ P f.type with | some (_+1)=> .off f.offset (x a) | _=>bad)
   | none=>bad
  | _=>bad
 | .field t a i=>
  match P.underlying t with
  | some (.struct fs)=>
   match fs[i]? with
   | some f=>(match bQ P f.type,cQ P f.type with | some s,some ag=> .Cq f.offset s ag (x a) | _,_=>bad)
   | none=>bad
  | _=>bad
 | .indexAddr t a i=>
  match P.underlying t with
  | some (.slice e)=>(match bQ P e with | some s=> .a7 s (x a) (x i) | none=>bad)
  | some (.array n e)=>(match bQ P e with | some s=> .zU n s (x a) (x i) | none=>bad)
  | _=>bad
 | .index t a i=>
  match P.underlying t with
  | some .string=> .ik (x a) (x i)
  | some (.array n e)=>(match bQ P e,cQ P e with | some s,some ag=> .pE n s ag (x a) (x i) | _,_=>bad)
  | _=>bad
 | .lookup t a i ok=>
  match P.underlying t with
  | some (.map ke e)=>(match keyOf P ke,jh P e with | some kk,some z=> .FJ kk z ok (x a) (x i) | _,_=>bad)
  | _=>bad
 | .mapUpdate t a i v | .insert t a i v=>
  match P.underlying t with
  | some (.map ke _)=>(match keyOf P ke with | some kk=> .kO kk (x a) (x i) (x v) | none=>bad)
  | _=>bad
 | .range t a=>match P.underlying t with | some .string=> .kP (x a) | _=>bad
 | .next it true=> .kQ (x it)
 | .extract t i=> .ext i (x t)
 | .call c=>
  match c.callee with
  | .value f=>(match H.mode k with | .dyn=> .eX [] (x f) (eQ H c.args.toList) | md=> .call md (x f) (eQ H c.args.toList))
  | .builtin b=>
   match b,c.args.toList,c.argTypes.toList with
   | .append,[s,a],[t,u]=>
    match P.underlying t,P.underlying u with
    | some (.slice e),some (.slice _) | some (.slice e),some .string=>
     (match bQ P e,pI P e,jh P e with | some sz,some by',some z=>(bif yq (cellsOf z).length sz then .cC sz by' (x s) (x a) else bad) | _,_,_=>bad)
    | _,_=>bad
   | .len,[a],[t]=>
    match P.underlying t with
    | some (.array n _)=> .br (.c (.int .i64 n))
    | some .string=> .len 0 (x a)
    | some (.slice _)=> .len 1 (x a)
    | some (.map _ _)=> .len 2 (x a)
    | _=>bad
   | .copy,[d,s],[t,_]=>
    match P.underlying t with
    | some (.slice e)=>(match bQ P e with | some sz=> .kR sz (x d) (x s) | none=>bad)
    | _=>bad
   | .min,l,_=> .mn (eQ H l)
   | .max,l,_=> .mx (eQ H l)
   | _,_,_=>bad
  | _=>bad
 | _=>bad
def IL (o:yL):Bool:=match o.op with | .call {callee:= .value _,..}=>true | _=>false
def BJ (d:Option Nat):Bool:=match d with | some i=>yB i H.n | none=>true
def nG (n:Nat):List Nat->Bool
 | []=>true
 | i::r=>yB i n&&nG n r
def qK (ops:Array yL):List yL->Nat->List aR×Nat
 | [],k=>([],k)
 | o::r,k=>
  let g:=match o.guard with
   | none=>some none
   | some (j,b)=>match (ops[j]?).bind (·.dst) with | some t=>some (some (t,b)) | none=>none
  match qK ops r (k+(bif IL o then 1 else 0)) with
  | (l,k')=>
   match g,BJ H o.dst with
   | some g,true=>(⟨o.dst,g,aV P H k o⟩::l,k')
   | _,_=>(⟨o.dst,none,bad⟩::l,k')
def oV (acc:List Nat):List Edge->Nat
 | []=>0
 | e::r=>bif Region.binds .any e then (2^e.on|||acc.getD e.on 0)|||oV acc r else oV acc r
def iR (acc:List Nat):List yL->List Nat
 | []=>acc
 | o::r=>iR (acc++[oV acc o.after.toList]) r
def AM:List yL->Nat->Bool
 | [],_=>true
 | o::r,i=>o.after.toList.all (fun e=> !Region.binds .any e||yB e.on i)&&AM r (i+1)
def D9 (ops:Array yL) (draw:Bool) (k:Nat):List aR×Nat:=
 match qK P H ops ops.toList k with
 | (l,k')=>
  bif draw then
   (let ms:=iR [] ops.toList
    let l':=nF [] l ms
    bif AM ops.toList 0&&sS [] l' ms then (l',k') else ([⟨none,none,bad⟩],k'))
  else (l,k')
def aej:vz->Bool
 | .loop _=>true
 | _=>false
def comp:vz->Nat->Nat->VC×Nat×Nat
 | .skip,l,k | .label _,l,k=>(.skip,l,k)
 | .region i ops d,l,k=>match D9 P H ops d k with | (r,k')=>((match H.fz i with | []=> .aB r | t::ts=> .seq (.fz (t::ts)) (.aB r)),l,k')
 | .seq a b,l,k=>match comp a l k with | (a',l1,k1)=>match comp b l1 k1 with | (b',l2,k2)=>(.seq a' b',l2,k2)
 | .cond c a b,l,k=>
  match comp a (l+1) k with
  | (a',l1,k1)=>
   match comp b l1 k1 with
   | (b',l2,k2)=>(match H.out l with | some o=> .seq (.cond (aF H c) a' b') (.kp o) | none=> .cond (aF H c) a' b',l2,k2)
 | .block id a,l,k=>
  match comp a l k with
  | (a',r)=>(match aej a,H.out l with | true,some o=> .seq (.aw id a') (.kp o) | _,_=> .aw id a',r)
 | .loop a,l,k=>match comp a (l+1) k with | (a',r)=>(.loop (H.live l) a',r)
 | .rangeFunc f ps as_ body,l,k=>
  match comp as_ l k with | (as',l1,k1)=>match comp body l1 k1 with | (b',l2,k2)=>(bif nG H.n ps.toList then .rf (aF H f) ps.toList as' b' else .aB [⟨none,none,bad⟩],l2,k2)
 | .exit id,l,k=>(.exit id,l,k)
 | .scope a,l,k=>comp a l k
 | .ret,l,k=>(.ret,l,k)
 | .goto _,l,k | .refuse _,l,k=>(.aB [⟨none,none,bad⟩],l,k)
def j0:List ResultVar->Option (List RV)
 | []=>some []
 | .tmp t::r=>match j0 r with | some l=>some (.t t::l) | none=>none
 | .cell a t::r=>match bQ P t,cQ P t,j0 r with | some s,some ag,some l=>some (.cell a s ag::l) | _,_,_=>none
def s7 (fn:Func):Option av:=
 match fn.body,j0 P fn.results.toList with
 | some c,some rs=>bif yA H.n fn.ntmps then some ⟨rs,(comp P H c 0 0).1⟩ else none
 | _,_=>none
end
end
section
open Go
structure aZ where
 P:yM
 aI:Lib
 ae:Nat->Nat
 prog:aA
 hint:Nat->Hint
 w0:yg
def pJ (P:yM) (H:Hint) (v:VC) (c:vz):Prop:=∃l k,(comp P H c l k).1=v
def ph:Nat->LoopState
 | 0=> .ready
 | 1=> .busy
 | 2=> .done
 | _=> .exhausted
def nw:mE->Option vz
 | .none=>none
 | .ret=>some .ret
 | .exit id=>some (.exit id)
section
variable (O:aZ) (m:Mp) (S:Nat->Prop) (w:yg)
def bJ (tm:Env) (tmps:Array ye):Prop:=∀i,af O.ae m S w (ah tm i) (tmps.getD i undef)
def dQ (id:Nat):Obj->Prop
 | .cells rw pu ex sz cs=>∃p arr t,m id=some p/\w.heap[p.b]? =some (.cells arr t (0,0))/\p.z=sz/\cs.length<=p.e/\p.o+p.e<=arr.size/\
   (ex=true->cs.length=p.e)/\bt O.ae m S w cs p.b p.o/\(pu=true->ax cs=true)/\(rw=true->¬S p.b)/\(rw=false->S p.b)
 | .mp rw ks vs=>∃p es clock,m id=some p/\w.heap[p.b]? =some (.map es clock)/\ak O.ae m S w ks (es.toList.map (·.key))/\ak O.ae m S w vs (es.toList.map (·.val))/\
   (rw=true->¬S p.b)/\(rw=false->S p.b)
 | .si s pos=>∃p t,m id=some p/\w.heap[p.b]? =some (.stringIter t pos)/\t.data.toList.map yN=s/\¬S p.b
 | .lp tm ps as_ body st pe=>∃p l h,m id=some p/\w.heap[p.b]? =some (.loop l)/\¬S p.b/\l.state=ph st/\st<=2/\l.pending=nw pe/\bJ O m S w tm l.tmps/\
   l.params.toList=ps/\pJ O.P (O.hint h) as_ l.assign/\pJ O.P (O.hint h) body l.body/\(O.hint h).n<=l.tmps.size/\nG (O.hint h).n ps=true
structure aH (hp:Hp) (ct:Nat):Prop where
 obj:∀id o p,aj hp id=some o->m id=some p->dQ O m S w id o
 lt:∀id p,m id=some p->id<ct
 inj:∀i j oi oj pi pj,aj hp i=some oi->aj hp j=some oj->m i=some pi->m j=some pj->pi.b=pj.b->i=j
 slt:∀b,S b->b<w.heap.size
 blt:∀id p,m id=some p->p.b<w.heap.size
 low:∀id p,m id=some p->O.w0.heap.size<=p.b
 iB:∀b,b<O.w0.heap.size->w.heap[b]? =O.w0.heap[b]?
 eG:O.w0.heap.size<=w.heap.size
 aU:∀id o,aj hp id=some o->id<ct
end
def cX (m:Mp) (hp:Hp) (b:Nat):Prop:=∃id o p,aj hp id=some o/\m id=some p/\p.b=b
structure bH (m:Mp) (S:Nat->Prop) (w:yg) (hp:Hp) (m':Mp) (S':Nat->Prop) (w':yg) (ai:Hp) (base:Nat):Prop where
 os:w'.os=w.os
 tape:w'.tape=w.tape
 output:w'.output=w.output
 size:w.heap.size<=w'.heap.size
 same:∀b,b<w.heap.size->¬cX m hp b->w'.heap[b]? =w.heap[b]?
 sub:∀b,S b->S' b
 still:∀b,S b->w'.heap[b]? =w.heap[b]?
 new:∀b,S' b->S b\/cX m hp b\/w.heap.size<=b
 own:∀b,cX m' ai b->cX m hp b\/w.heap.size<=b
 old:∀id p,id<base->m id=some p->m' id=some p
 loops:∀(b:Nat) (r:Loop),w.heap[b]? =some (.loop r)->∃r':Loop,w'.heap[b]? =some (.loop r')
def bH.refl {m:Mp} {S:Nat->Prop} {w:yg} {hp:Hp} {base:Nat}:bH m S w hp m S w hp base:=
 ⟨rfl,rfl,rfl,Nat.le_refl _,fun _ _ _=>rfl,fun _ h=>h,fun _ _=>rfl,fun _ h=> .inl h,fun _ h=> .inl h,fun _ _ _ h=>h,fun _ r h=>⟨r,h⟩⟩
def bH.trans {m m' Cs:Mp} {S S' pK:Nat->Prop} {w w' rU:yg} {hp ai B1:Hp} {base:Nat}
  (h:bH m S w hp m' S' w' ai base) (k:bH m' S' w' ai Cs pK rU B1 base):bH m S w hp Cs pK rU B1 base where
 os:=k.os.trans h.os
 tape:=k.tape.trans h.tape
 output:=k.output.trans h.output
 size:=xz h.size k.size
 same b hb ho:=(k.same b (Nat.lt_of_lt_of_le hb h.size) (fun js=>(h.own b js).elim ho (fun h1=>by omega))).trans (h.same b hb ho)
 sub b hb:=k.sub b (h.sub b hb)
 still b hb:=(k.still b (h.sub b hb)).trans (h.still b hb)
 new b hb:=by
  rcases k.new b hb with h1 | h1 | h1
  ·exact h.new b h1
  ·rcases h.own b h1 with h2 | h2
   ·exact .inr (.inl h2)
   ·exact .inr (.inr h2)
  ·exact .inr (.inr (xz h.size h1))
 own b hb:=by
  rcases k.own b hb with h1 | h1
  ·exact h.own b h1
  ·exact .inr (xz h.size h1)
 old id p hid hp:=k.old id p hid (h.old id p hid hp)
 loops b r hb:=let ⟨r',h1⟩:=h.loops b r hb;k.loops b r' h1
end
section
open Go
section
variable {ae:Nat->Nat} {m:Mp} {S:Nat->Prop} {w:yg}
mutual
def Ea:∀v:ye,af ae m S w (dl v) v
 | .int _ _ | .bool _ | .float _ _=>by simp only [dl,af]
 | .string s=>by simp only [dl,af];exact ⟨s,rfl,rfl⟩
 | .pointer none=>by simp only [dl,af]
 | .pointer (some _)=>by simp only [dl,af]
 | .slice none 0 0=>by simp only [dl,af]
 | .slice none 0 (_+1)=>by simp only [dl,af]
 | .slice none (_+1) _=>by simp only [dl,af]
 | .slice (some _) _ _=>by simp only [dl,af]
 | .map none=>by simp only [dl,af]
 | .map (some _)=>by simp only [dl,af]
 | .nilFunc=>by simp only [dl,af]
 | .agg ⟨cs⟩=>by simp only [dl,af];exact ⟨⟨cs⟩,rfl,HR cs⟩
 | .tuple ⟨cs⟩=>by simp only [dl,af];exact ⟨⟨cs⟩,rfl,HR cs⟩
 | .complex _ _ _ | .chan _ | .func _ _ _ | .iface _ _ | .nilIface=>by simp only [dl,af]
def HR:∀l:List ye,ak ae m S w (sZ l) l
 | []=>by simp only [sZ,ak]
 | v::r=>by simp only [sZ,ak];exact ⟨v,r,rfl,Ea v,HR r⟩
end
end
def dW (O:aZ) (H:Hint):Prop:=∀f g,H.bE f=some g->O.ae g=f
section
variable {O:aZ} {H:Hint} {m:Mp} {S:Nat->Prop} {w:yg} {tm:Env} {a:Act}
def bN (hH:dW O H) (ht:bJ O m S w tm a.tmps) (x:xh):af O.ae m S w (ao tm (aF H x)) (a.eval x):=by
 cases x with
 | tmp t=>exact ht t
 | const v=>simp only [aF,ao,Act.eval];exact Ea v
 | global g=>simp only [aF,ao,af]
 | func f=>
  simp only [aF,Act.eval]
  cases hr:H.bE f with
  | none=>simp only [ao,af]
  | some g=>simp only [ao,af,hH f g hr,ak];exact ⟨#[],#[],rfl,rfl,rfl⟩
def qP (hH:dW O H) (ht:bJ O m S w tm a.tmps):∀l:List xh,ak O.ae m S w (cx tm (eQ H l)) (l.map a.eval)
 | []=>by simp only [eQ,cx,List.map_nil,ak]
 | x::r=>by simp only [eQ,cx,yV,ak];exact ⟨_,_,rfl,bN hH ht x,qP hH ht r⟩
end
section
variable {O:aZ} {m:Mp} {S:Nat->Prop} {w:yg}
def mh {ae:Nat->Nat}:∀(k:Nat) (cs:List AV) (b o:Nat),bt ae m S w cs b o->bt ae m S w (cs.drop k) b (o+k)
 | 0,cs,b,o,h=>by simpa using h
 | k+1,[],b,o,_=>by simp only [List.drop_nil,bt]
 | k+1,c::cs,b,o,h=>by
  simp only [bt] at h
  have:=mh k cs b (o+1) h.2
  rw [List.drop_succ_cons,show o+(k+1)=o+1+k by omega];exact this
def qt {ae:Nat->Nat}:∀(k:Nat) (cs:List AV) (b o:Nat),bt ae m S w cs b o->bt ae m S w (cs.take k) b o
 | 0,cs,b,o,_=>by simp only [List.take_zero,bt]
 | k+1,[],b,o,_=>by simp only [List.take_nil,bt]
 | k+1,c::cs,b,o,h=>by
  simp only [bt,xK] at h ⊢;exact ⟨h.1,qt k cs b (o+1) h.2⟩
def nf {ae:Nat->Nat}:∀(cs:List AV) (b o:Nat),bt ae m S w cs b o->
  ∃us:List ye,ak ae m S w cs us/\us.length=cs.length/\∀j u,us[j]? =some u->w.cell? ⟨b,o+j,none⟩=some u
 | [],b,o,_=>⟨[],by simp only [ak],rfl,fun j u h=>by simp at h⟩
 | c::cs,b,o,h=>by
  simp only [bt] at h;obtain ⟨⟨u,h1,h2⟩,h3⟩:=h;obtain ⟨us,h4,h5,h6⟩:=nf cs b (o+1) h3;refine ⟨u::us,by simp only [ak];exact ⟨u,us,rfl,h2,h4⟩,by simp [h5],fun j v hv=>?_⟩
  cases j with
  | zero=>simp at hv;subst hv;simpa using h1
  | succ j=>simp at hv;have:=h6 j v hv;rw [show o+(j+1)=o+1+j by omega];exact this
def fI {ae:Nat->Nat}:∀(cs:List AV) (us:List ye),ak ae m S w cs us->us.length=cs.length
 | [],us,h=>by simp only [ak] at h;subst h;rfl
 | c::cs,us,h=>by
  simp only [ak] at h;obtain ⟨u,r,rfl,_,h3⟩:=h;simp [fI cs r h3]
end
end
section
open Go
def j8 (b o j:Nat):(⟨b,o,none⟩:Addr).add j=⟨b,o+j,none⟩:=by
 unfold Addr.add;split<;>simp_all
section
variable {P:yM} {w:yg}
def W3 (t:yp) (b o:Nat) (us:List ye) (ha:cQ P t=some true) (hz:bQ P t=some us.length)
  (h:∀j u,us[j]? =some u->w.cell? ⟨b,o+j,none⟩=some u):(loadVar t ⟨b,o,none⟩).run P w= .ok (.agg us.toArray) w:=by
 have hl:=run_loadCells_list (P:=P) w ⟨b,o,none⟩ us (fun j u hu=>by rw [j8];exact h j u hu)
 unfold bQ at hz
 cases hi:P.info? t with
 | none=>simp [hi] at hz
 | some i=>
  simp only [hi,yb] at hz;unfold cQ at ha
  cases hu:P.underlying t with
  | none=>simp [hu] at ha
  | some d=>cases d<;>simp_all [loadVar,isAgg,vm,typeInfo,underlying]
def W4 (t:yp) (b o:Nat) (u:ye) (ha:cQ P t=some false)
  (h:w.cell? ⟨b,o,none⟩=some u):(loadVar t ⟨b,o,none⟩).run P w= .ok u w:=by
 unfold cQ at ha
 cases hu:P.underlying t with
 | none=>simp [hu] at ha
 | some d=>cases d<;>simp_all [loadVar,isAgg,underlying]
end
section
variable {O:aZ} {m:Mp} {S:Nat->Prop} {w:yg}
def Eb {t:yp} {sz:Nat} {ag:Bool} {cs:List AV} {b o:Nat} {v:AV} (hz:bQ O.P t=some sz) (ha:cQ O.P t=some ag)
  (hr:bt O.ae m S w cs b o) (hv:gB sz ag cs=some v):∃u,(loadVar t ⟨b,o,none⟩).run O.P w= .ok u w/\af O.ae m S w v u:=by
 cases ag with
 | true=>
  simp only [gB,ym] at hv
  cases hle:yA sz cs.length with
  | false=>simp only [hle,yu] at hv;cases hv
  | true=>
   simp only [hle,ym,yb] at hv;subst hv;obtain ⟨us,h1,h2,h3⟩:=nf _ _ _ (qt sz cs b o hr);have hlen:us.length=sz:=by
    rw [h2,List.length_take];have:=yr hle;omega
   refine ⟨.agg us.toArray,W3 t b o us ha (by rw [hlen];exact hz) h3,?_⟩
   simp only [af];exact ⟨us.toArray,rfl,by simpa using h1⟩
 | false=>
  simp only [gB,yu] at hv
  cases cs with
  | nil=>simp at hv
  | cons c cs=>
   simp only [yb] at hv;subst hv;simp only [bt] at hr;obtain ⟨⟨u,h1,h2⟩,_⟩:=hr;exact ⟨u,W4 t b o u ha h1,h2⟩
def ON {t:yp} {sz o:Nat} {ag:Bool} {cs:List AV} {xs:Array ye} {v:AV} (hz:bQ O.P t=some sz) (ha:cQ O.P t=some ag)
  (hr:ak O.ae m S w cs xs.toList) (hv:gB sz ag (cs.drop o)=some v):∃u,(part t xs o).run O.P w= .ok u w/\af O.ae m S w v u:=by
 have hd:∀(k:Nat) (cs:List AV) (us:List ye),ak O.ae m S w cs us->ak O.ae m S w (cs.drop k) (us.drop k):=by
  intro k
  induction k with
  | zero=>intro cs us h;simpa using h
  | succ k ih=>
   intro cs us h
   cases cs with
   | nil=>simp only [ak] at h;subst h;simp [ak]
   | cons c cs=>simp only [ak] at h;obtain ⟨u,r,rfl,_,h3⟩:=h;simpa using ih cs r h3
 have iV:∀(k:Nat) (cs:List AV) (us:List ye),ak O.ae m S w cs us->ak O.ae m S w (cs.take k) (us.take k):=by
  intro k
  induction k with
  | zero=>intro cs us h;simp [ak]
  | succ k ih=>
   intro cs us h
   cases cs with
   | nil=>simp only [ak] at h;subst h;simp [ak]
   | cons c cs=>simp only [ak] at h;obtain ⟨u,r,rfl,h2,h3⟩:=h;simp only [xK,ak];exact ⟨u,_,rfl,h2,ih cs r h3⟩
 have SS:(isAgg t).run O.P w= .ok ag w:=by
  unfold cQ at ha
  cases hu:O.P.underlying t with
  | none=>simp [hu] at ha
  | some d=>cases d<;>simp_all [isAgg,underlying]
 have eU:(vm t).run O.P w= .ok sz w:=by
  unfold bQ at hz
  cases hi:O.P.info? t with
  | none=>simp [hi] at hz
  | some i=>simp_all [vm,typeInfo]
 have dj:=hd o cs xs.toList hr
 cases ag with
 | true=>
  simp only [gB,ym] at hv
  cases hle:yA sz (cs.drop o).length with
  | false=>simp only [hle,yu] at hv;cases hv
  | true=>
   simp only [hle,ym,yb] at hv;subst hv;refine ⟨.agg (xs.extract o (o+sz)),by simp [part,Sem.run_bind,SS,eU],?_⟩;simp only [af];refine ⟨_,rfl,?_⟩
   have:=iV sz _ _ dj
   rw [show (xs.extract o (o+sz)).toList=(xs.toList.drop o).take sz by simp [Array.toList_extract,List.extract_eq_take_drop]];exact this
 | false=>
  simp only [gB,yu] at hv
  cases hc:cs.drop o with
  | nil=>simp [hc] at hv
  | cons c r=>
   simp only [hc,yb] at hv;subst hv;rw [hc] at dj;simp only [ak] at dj;obtain ⟨u,us,h1,h2,_⟩:=dj;have hx:xs[o]? =some u:=by
    have:xs.toList[o]? =some u:=by
     have:=congrArg (fun l=>l[0]?) h1
     simpa using this
    simpa using this
   exact ⟨u,by simp [part,Sem.run_bind,SS,hx],h2⟩
end
end
section
open Go
def iO (t:ByteArray):List Nat:=t.data.toList.map yN
def OO:∀a b:List UInt8,dI (a.map yN) (b.map yN)=(a==b)
 | [],[]=>rfl
 | [],_::_=>rfl
 | _::_,[]=>rfl
 | a::x,b::y=>by
  have h:yq a.toNat b.toNat=(a==b):=by
   rw [vW,yaQ,ta];exact tG
  simp only [yV,dI,OO x y,h,List.cons_beq_cons]
def OP:∀a b:List UInt8,pG (a.map yN) (b.map yN)=Op.bytesLess a b
 | [],[]=>rfl
 | [],_::_=>rfl
 | _::_,[]=>rfl
 | a::x,b::y=>by
  have h:yq a.toNat b.toNat=(a==b):=by
   rw [vW,yaQ,ta];exact tG
  have h2:yB a.toNat b.toNat=decide (a<b):=by
   rw [vW];simp only [yB,Nat.ble_eq,yaR,UInt8.lt_iff_toNat_lt];omega
  simp only [yV,pG,Op.bytesLess,OP x y,h,h2]
def ML (s t:ByteArray):dI (iO s) (iO t)=(s.toList==t.toList):=by
 rw [iO,iO,OO,ByteArray.toList_eq,ByteArray.toList_eq]
def Yq (s t:ByteArray):pG (iO s) (iO t)=Op.bytesLess s.toList t.toList:=by
 rw [iO,iO,OP,ByteArray.toList_eq,ByteArray.toList_eq]
def MM (s:ByteArray):(iO s).length=s.size:=by
 rw [iO,List.length_map,Lib.size_eq]
section
variable {ae:Nat->Nat} {P:yM} {m:Mp} {S:Nat->Prop} {w:yg} {t:yp}
def Z1 {op:wk} {k:yJ} {x y:Int} {v:AV} (h:iw op k x y=some v):
  ∃u,(xo op t (.int k x) (.int k y)).run P w= .ok u w/\af ae m S w v u:=by
 cases op<;>simp only [iw,intCmp,yb] at h
 case add=>subst h;exact ⟨_,by simp [xo,Op.intArith];rfl,by simp [af]⟩
 case sub=>subst h;exact ⟨_,by simp [xo,Op.intArith];rfl,by simp [af]⟩
 case mul=>subst h;exact ⟨_,by simp [xo,Op.intArith];rfl,by simp [af]⟩
 case quo=>
  by_cases hy:y=0
  ·simp [hy] at h
  ·simp only [hy,yG,yb] at h;subst h;exact ⟨_,by simp [xo,Op.intDiv,hy];rfl,by simp [af]⟩
 case rem=>
  by_cases hy:y=0
  ·simp [hy] at h
  ·simp only [hy,yG,yb] at h;subst h;exact ⟨_,by simp [xo,Op.intDiv,hy];rfl,by simp [af]⟩
 case and=>subst h;exact ⟨_,by simp [xo,Op.intBits];rfl,by simp [af]⟩
 case or=>subst h;exact ⟨_,by simp [xo,Op.intBits];rfl,by simp [af]⟩
 case xor=>subst h;exact ⟨_,by simp [xo,Op.intBits];rfl,by simp [af]⟩
 case andNot=>subst h;exact ⟨_,by simp [xo,Op.intBits];rfl,by simp [af]⟩
 case shl=>cases h
 case shr=>cases h
 all_goals
  subst h;exact ⟨_,by simp [xo,Op.intCmp];rfl,by simp [af]⟩
def L2 {op:wk} {k k':yJ} {x y:Int} {v:AV} (h:Is op k x y=some v):
  ∃u,(xo op t (.int k x) (.int k' y)).run P w= .ok u w/\af ae m S w v u:=by
 unfold Is at h;by_cases hy:y<0
 ·simp [hy] at h
 ·simp only [hy,yG] at h;cases op<;>simp only [yb] at h
  case shl=>subst h;exact ⟨_,by simp [xo,Op.shift,hy];rfl,by simp [af]⟩
  case shr=>subst h;exact ⟨_,by simp [xo,Op.shift,hy];rfl,by simp [af]⟩
  all_goals cases h
def Z2 {op:wk} {x y:ByteArray} {v:AV} (h:BD op (iO x) (iO y)=some v):
  ∃u,(xo op t (.string x) (.string y)).run P w= .ok u w/\af ae m S w v u:=by
 cases op<;>simp only [BD,ML,Yq,MM,yb] at h
 case add=>
  cases hle:yA (x.size+y.size) 9223372036854775807 with
  | false=>rw [hle] at h;cases h
  | true=>
   rw [hle] at h;simp only [ym,yb] at h;subst h;have amM:=yr hle;have aiu:¬(((x.size+y.size:Nat):Int)>IntKind.i64.max):=by
    have:IntKind.i64.max=9223372036854775807:=by decide
    rw [this];omega
   refine ⟨.string (x++y),?_,?_⟩
   ·simp only [xo,Op.stringOp,yD aiu,Sem.run_pure]
   ·simp only [af];exact ⟨x++y,rfl,by simp [iO]⟩
 all_goals first
  | (cases h;done)
  | (subst h;exact ⟨_,by simp [xo,Op.stringOp];rfl,by simp [af]⟩)
def Z3 {op:wk} {k:w8} {x y:Nat} {v:AV} (h:I1 op k x y=some v):
  ∃u,(xo op t (.float k x) (.float k y)).run P w= .ok u w/\af ae m S w v u:=by
 cases op<;>simp only [I1,yb] at h
 case add=>
  cases hr:k.format.add x y with
  | none=>simp [hr] at h
  | some r=>simp only [hr,yb] at h;subst h;exact ⟨.float k r,by simp [xo,Op.floatArith,hr],by simp [af]⟩
 case sub=>
  cases hr:k.format.sub x y with
  | none=>simp [hr] at h
  | some r=>simp only [hr,yb] at h;subst h;exact ⟨.float k r,by simp [xo,Op.floatArith,hr],by simp [af]⟩
 case mul=>
  cases hr:k.format.mul x y with
  | none=>simp [hr] at h
  | some r=>simp only [hr,yb] at h;subst h;exact ⟨.float k r,by simp [xo,Op.floatArith,hr],by simp [af]⟩
 case quo=>
  cases hr:k.format.div x y with
  | none=>simp [hr] at h
  | some r=>simp only [hr,yb] at h;subst h;exact ⟨.float k r,by simp [xo,Op.floatArith,hr],by simp [af]⟩
 all_goals first
  | (cases h;done)
  | (subst h;exact ⟨_,by simp [xo,Op.floatCmp];rfl,by simp [af]⟩)
def Z4 {op:wk} {vx vy v:AV} {x y:ye} (hx:af ae m S w vx x) (hy:af ae m S w vy y) (h:VE.binOp op vx vy=some v):
  ∃u,(xo op t x y).run P w= .ok u w/\af ae m S w v u:=by
 unfold VE.binOp at h
 split at h
 ·rename_i k a k' b;simp only [af] at hx hy;subst hx;subst hy
  split at h
  ·exact L2 h
  ·exact L2 h
  ·by_cases hk:k=k'
   ·subst hk;simp only [yQ] at h;exact Z1 h
   ·simp [hk] at h
 ·rename_i k a k' b;simp only [af] at hx hy;subst hx;subst hy;by_cases hk:k=k'
  ·subst hk;simp only [yQ] at h;exact Z3 h
  ·simp [hk] at h
 ·rename_i a b;simp only [af] at hx hy;obtain ⟨s,rfl,rfl⟩:=hx;obtain ⟨s',rfl,rfl⟩:=hy;exact Z2 h
 ·cases h
end
end
end VE
