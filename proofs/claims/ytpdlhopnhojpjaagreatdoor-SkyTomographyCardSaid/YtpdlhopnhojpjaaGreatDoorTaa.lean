import GoSem.Core.Code
import GoSem.Core.Float
import GoSem.Core.Utf8
import Derived.CallsIn
import Derived.Laws.World
import GoSem.Op.Equal
import GoSem.Core.Region
import Derived.Below
import Derived.Laws.AppendOwn
import Derived.Laws.Rows
import Derived.WalkKit
import Derived.Laws.CopyRow
import Derived.Laws.Cells
import Derived.Laws.Strings
import Derived.Lib.Strings
import Derived.WideLaws
import Derived.Maps.Keyed
import Derived.ChangeKeysEq
set_option linter.all false
set_option maxRecDepth 100000
open BitVec renaming ofInt→xV
open Bool renaming and_assoc→tP,and_eq_true→yi,eq_iff_iff→uN,false_eq_true→yN,not_eq_true'→uo
open Go renaming Addr→uK,BinOp→vt,Code→vn,Field→uX,FloatKind→ug,IntKind→xc,MapEntry→tf,Oper→yZ,Operand→xC,Program→xa,TypeDesc→vO,TypeId→yH,UnOp→ybW,Value→yj,World→ym,binOp→xR,sizeOf→vR
open Go.Utf8 renaming runeError→um,valid→yaY
open List renaming cons_append→xr,drop_drop→vS,extract_eq_take_drop→tW,getElem?_eq_getElem→y9,length_cons→yy,length_take→yI,map_cons→xd,replicate→yf,take_succ_cons→wI,take_zero→yat
open Nat renaming add_assoc→tk,add_mul→wS,beq→yz,beq_eq→ych,ble→yK,ble_eq→yci,blt→yQ,eq_of_beq_eq_true→yt,le_of_ble_eq_true→yB,le_refl→yq,le_trans→xv,testBit→uT
open Option renaming map_none→ud,map_some→wV
open Option.some renaming injEq→ye
open UInt8 renaming toNat→xf,toNat_inj→yaZ
def vG:=@and_true
def yaG:=@beq_iff_eq
def yam:=@beq_self_eq_true
def yW:=@cond_false
def yD:=@cond_true
def vQ:=@decide_eq_decide
def xb:=@decide_eq_false
def wR:=@decide_eq_false_iff_not
def xq:=@decide_eq_true
def wz:=@decide_eq_true_eq
def yv:=@decide_false
def yu:=@decide_true
def ybN:=@false_or
def xn:=@if_false
def yo:=@if_neg
def yA:=@if_pos
def xE:=@if_true
def uj:=@ne_eq
def xz:=@not_false_eq_true
def ycj:=@not_true_eq_false
def tE:=@true_and
namespace VE
section
open Go (IntKind FloatKind BinOp UnOp)
inductive Fr where
 | f (n:Nat)
 | y (l:Nat)
 deriving DecidableEq,Inhabited
inductive AV where
 | int (k:xc) (n:Int)
 | bool (b:Bool)
 | dD (k:ug) (bits:Nat)
 | str (s:List Nat)
 | mH
 | ptr (id off:Nat)
 | aO (cells:List AV)
 | ab
 | aE (ex:Bool) (n:Nat) (cells:List AV)
 | bV (ex:Bool) (sz n:Nat) (cells:List AV)
 | ak (id off n:Nat)
 | fn (f:Fr) (first cap:List AV)
 | jy
 | lh
 | map (id:Nat)
 | ko (ks vs:List AV)
 | it (id:Nat)
 | agg (cells:List AV)
 | az (vs:List AV)
 | undef
 deriving Inhabited
inductive X where
 | t (i:Nat)
 | c (v:AV)
 deriving Inhabited
inductive Conv where
 | toInt (k:xc)
 | toFlt (k:ug)
 | str
 deriving Inhabited
inductive Md where
 | pure | own | heap | dyn
 deriving Inhabited
inductive Cut where
 | str
 | sl (sz:Nat)
 | ar (len sz:Nat)
 deriving Inhabited
inductive Qy where
 | b | sl | fn | ag (ks:List Nat)
 deriving Inhabited
inductive Op where
 | rW (x:X)
 | pick (c a b:X)
 | box (sz:Nat) (x:X)
 | B4 (zero:List AV) (parts:List (Nat×Nat×X))
 | nl (n sz:Nat) (zero:List AV) (parts:List (Nat×Nat×X))
 | ld (sz:Nat) (ag:Bool) (x:X)
 | st (sz:Nat) (x v:X)
 | KY (x:X)
 | bin (op:vt) (x y:X)
 | eq (ne:Bool) (k:Qy) (x y:X)
 | un (op:ybW) (x:X)
 | cv (k:Conv) (x:X)
 | G9 (f:Fr) (first cap:List X)
 | A2
 | pE (sz bytes:Nat) (zero:List AV) (len cap:X)
 | qZ (k:Cut) (x:X) (lo hi:Option X)
 | off (k:Nat) (x:X)
 | LU (o sz:Nat) (ag:Bool) (x:X)
 | bi (sz:Nat) (x i:X)
 | Ha (len sz:Nat) (x i:X)
 | Hb (x i:X)
 | Hc (len sz:Nat) (ag:Bool) (x i:X)
 | Qz (kk:Nat) (zero:AV) (ok:Bool) (m k:X)
 | q8 (kk:Nat) (m k v:X)
 | q9 (x:X)
 | rb (x:X)
 | ext (i:Nat) (x:X)
 | call (m:Md) (f:X) (xs:List X)
 | jv (rs:List (Nat×Bool×Nat)) (f:X) (xs:List X)
 | lB (rs:List (Nat×Bool×Nat)) (sz:Nat) (x v:X)
 | mg (rs:List (Nat×Bool×Nat)) (sz bytes:Nat) (s x:X)
 | cX (sz bytes:Nat) (s x:X)
 | pG (sz bytes:Nat) (s x:X)
 | oA (sz:Nat) (d s:X)
 | len (k:Nat) (x:X)
 | mn (xs:List X)
 | mx (xs:List X)
 deriving Inhabited
structure bf where
 dst:Option Nat
 guard:Option (Nat×Bool)
 op:Op
 deriving Inhabited
inductive VC where
 | skip
 | mh (ops:List bf)
 | seq (a b:VC)
 | cond (x:X) (a b:VC)
 | ef (id:Nat) (a:VC)
 | kp (live:List Nat)
 | fz (ts:List Nat)
 | loop (live:List Nat) (a:VC)
 | rf (f:X) (ps:List Nat) (assign body:VC)
 | exit (id:Nat)
 | ret
 deriving Inhabited
inductive RV where
 | t (i:Nat)
 | cell (i sz:Nat) (ag:Bool)
 deriving Inhabited
structure av where
 fm:List RV
 body:VC
 deriving Inhabited
inductive AI where
 | none | ret | exit (id:Nat)
 deriving Inhabited,DecidableEq
abbrev Env:=List (Nat×AV)
inductive Obj where
 | cells (rw pu ex:Bool) (sz:Nat) (cs:List AV)
 | mp (rw:Bool) (ks vs:List AV)
 | si (s:List Nat) (pos:Nat)
 | lp (tm:Env) (ps:List Nat) (assign body:VC) (state:Nat) (pending:AI)
 deriving Inhabited
abbrev Hp:=List (Nat×Obj)
structure St where
 tm:Env
 hp:Hp
 ct:Nat
 base:Nat
 deriving Inhabited
inductive Ex where
 | normal
 | ret
 | exit (id:Nat)
 deriving Inhabited,DecidableEq
def af:Env->Nat->AV
 | [],_=> .undef
 | (j,v)::r,i=>bif yz j i then v else af r i
def ao:Hp->Nat->Option Obj
 | [],_=>none
 | (j,o)::r,i=>bif yz j i then some o else ao r i
def aT:Hp->Nat->Obj->Hp
 | [],_,_=>[]
 | (j,o)::r,i,u=>bif yz j i then (j,u)::r else (j,o)::aT r i u
def dJ:Hp->Nat->Hp
 | [],_=>[]
 | (j,o)::r,i=>bif yz j i then dJ r i else (j,o)::dJ r i
mutual
def a7:AV->Bool
 | .ptr _ _ | .ak _ _ _ | .map _ | .it _ | .bV _ _ _ _=>false
 | .fn (.y _) _ _=>false
 | .fn (.f _) first cap=>aH first&&aH cap
 | .agg cs=>aH cs
 | .az vs=>aH vs
 | _=>true
def aH:List AV->Bool
 | []=>true
 | v::r=>a7 v&&aH r
end
def cellsOf:AV->List AV
 | .agg cs=>cs
 | v=>[v]
def dG:AV->Bool
 | .agg _ | .az _ | .undef | .bV _ _ _ _=>false
 | _=>true
def cw:List AV->Bool
 | []=>true
 | v::r=>dG v&&cw r
def aC (tm:Env):X->AV
 | .t i=>af tm i
 | .c v=>v
def dH (tm:Env):List X->List AV
 | []=>[]
 | x::r=>aC tm x::dH tm r
def slice (o n:Nat) (cs:List AV):List AV:=(cs.drop o).take n
def over (o:Nat) (new cs:List AV):List AV:=cs.take o++new++cs.drop (o+new.length)
mutual
def freeze:Nat->Hp->AV->Option (AV×Hp)
 | 0,_,_=>none
 | n+1,hp,v=>
  match v with
  | .ak id o k=>
   match nT n hp id with
   | some (ex,sz,cs,ah)=>
    bif yK (o+k*sz) cs.length then
     some (.aE (ex&&yQ 0 sz&&yz (o+k*sz) cs.length) k (slice o (k*sz) cs),ah)
    else none
   | none=>none
  | .ptr id o=>
   match nT n hp id with
   | some (_,_,cs,ah)=>some (.aO (cs.drop o),ah)
   | none=>none
  | .map id=>
   match ao hp id with
   | some (.mp _ ks vs)=>bif aH ks&&aH vs then some (.ko ks vs,aT hp id (.mp false ks vs)) else none
   | _=>none
  | .fn (.f g) first cap=>
   match cD n hp first with
   | some (adg,a6)=>
    match cD n a6 cap with
    | some (PE,fD)=>some (.fn (.f g) adg PE,fD)
    | none=>none
   | none=>none
  | .agg cs=>match cD n hp cs with | some (dL,ah)=>some (.agg dL,ah) | none=>none
  | .az cs=>match cD n hp cs with | some (dL,ah)=>some (.az dL,ah) | none=>none
  | v=>bif a7 v then some (v,hp) else none
def nT:Nat->Hp->Nat->Option (Bool×Nat×List AV×Hp)
 | 0,_,_=>none
 | n+1,hp,id=>
  match ao hp id with
  | some (.cells rw pu ex sz cs)=>
   bif pu then some (ex,sz,cs,bif rw then aT hp id (.cells false true ex sz cs) else hp)
   else match cD n hp cs with
    | some (dL,ah)=>some (ex,sz,dL,aT ah id (.cells false false ex sz cs))
    | none=>none
  | _=>none
def cD:Nat->Hp->List AV->Option (List AV×Hp)
 | 0,_,_=>none
 | _+1,hp,[]=>some ([],hp)
 | n+1,hp,v::r=>
  match freeze n hp v with
  | some (v',a6)=>
   match cD n a6 r with
   | some (r',fD)=>some (v'::r',fD)
   | none=>none
  | none=>none
end
def mZ (n:Nat) (hp:Hp) (v:AV):Option (AV×Hp):=
 match v with
 | .ak id o k=>
  match ao hp id with
  | some (.cells true true ex sz cs)=>
   bif yK (o+k*sz) cs.length then
    some (.bV (ex&&yQ 0 sz&&yz (o+k*sz) cs.length) sz k (slice o (k*sz) cs),dJ hp id)
   else none
  | _=>freeze n hp v
 | _=>freeze n hp v
def FM:List AV->Option (List Nat)
 | []=>some []
 | .ak id _ _::r=>match FM r with | some l=>bif l.any (yz id) then none else some (id::l) | none=>none
 | v::r=>bif a7 v then FM r else none
def Aa (n:Nat):Hp->List AV->Option (List AV×Hp)
 | hp,[]=>some ([],hp)
 | hp,v::r=>
  match mZ n hp v with
  | some (v',a6)=>match Aa n a6 r with | some (r',fD)=>some (v'::r',fD) | none=>none
  | none=>none
def deep:Nat:=1000
def result (hp:Hp) (v:AV):Option AV:=
 match v with
 | .az vs=>
  match FM vs with
  | some _=>match Aa deep hp vs with | some (eD,_)=>some (.az eD) | none=>none
  | none=>match freeze deep hp v with | some (v',_)=>some v' | none=>none
 | v=>match mZ deep hp v with | some (v',_)=>some v' | none=>none
def bZ:AV->AV
 | .bV ex _ n cs=> .aE ex n cs
 | v=>v
def DW:List AV->List AV
 | []=>[]
 | v::r=>bZ v::DW r
def shut:AV->AV
 | .bV ex _ n cs=> .aE ex n cs
 | .az vs=> .az (DW vs)
 | v=>v
def fQ (hp:Hp) (ct:Nat):AV->AV×Hp×Nat
 | .bV ex sz n cs=>(.ak ct 0 n,(ct,.cells true true ex sz cs)::hp,ct+1)
 | v=>(v,hp,ct)
def ku:Hp->Nat->List AV->List AV×Hp×Nat
 | hp,ct,[]=>([],hp,ct)
 | hp,ct,v::r=>((fQ hp ct v).1::(ku (fQ hp ct v).2.1 (fQ hp ct v).2.2 r).1,(ku (fQ hp ct v).2.1 (fQ hp ct v).2.2 r).2)
def own (hp:Hp) (ct:Nat):AV->AV×Hp×Nat
 | .az vs=>(.az (ku hp ct vs).1,(ku hp ct vs).2)
 | v=>fQ hp ct v
mutual
def refs:AV->List Nat
 | .ptr id _=>[id]
 | .ak id _ _=>[id]
 | .map id=>[id]
 | .it id=>[id]
 | .fn (.f _) first cap=>gG first++gG cap
 | .fn (.y l) _ _=>[l]
 | .agg cs=>gG cs
 | .az cs=>gG cs
 | _=>[]
def gG:List AV->List Nat
 | []=>[]
 | v::r=>refs v++gG r
end
def et:Env->List Nat
 | []=>[]
 | (_,v)::r=>refs v++et r
def iR:Obj->List Nat
 | .cells _ pu _ _ cs=>bif pu then [] else gG cs
 | .mp _ ks vs=>gG ks++gG vs
 | .si _ _=>[]
 | .lp tm _ _ _ _ _=>et tm
mutual
def b8 (f:Nat->Option Nat):AV->AV
 | .ptr id o=>match f id with | some j=> .ptr j o | none=> .undef
 | .ak id o n=>match f id with | some j=> .ak j o n | none=> .undef
 | .map id=>match f id with | some j=> .map j | none=> .undef
 | .it id=>match f id with | some j=> .it j | none=> .undef
 | .fn (.f g) first cap=> .fn (.f g) (eH f first) (eH f cap)
 | .fn (.y l) first cap=>match f l with | some j=> .fn (.y j) (eH f first) (eH f cap) | none=> .undef
 | .agg cs=> .agg (eH f cs)
 | .az cs=> .az (eH f cs)
 | v=>v
def eH (f:Nat->Option Nat):List AV->List AV
 | []=>[]
 | v::r=>b8 f v::eH f r
end
def fe (f:Nat->Option Nat):Env->Env
 | []=>[]
 | (i,v)::r=>(i,b8 f v)::fe f r
def iT (f:Nat->Option Nat):Obj->Obj
 | .cells rw pu ex sz cs=> .cells rw pu ex sz (bif pu then cs else eH f cs)
 | .mp rw ks vs=> .mp rw (eH f ks) (eH f vs)
 | .si s pos=> .si s pos
 | .lp tm ps cT body st pe=> .lp (fe f tm) ps cT body st pe
def bP (tm:Env):List Nat->Env
 | []=>[]
 | i::r=>(i,af tm i)::bP tm r
def jR (i:Nat):List Nat->Bool
 | []=>false
 | j::r=>bif yz j i then true else jR i r
def reach (hp:Hp) (base:Nat):Nat->List Nat->List Nat->List Nat
 | 0,_,seen=>seen
 | _+1,[],seen=>seen
 | n+1,id::gh,seen=>
  bif yQ id base||jR id seen then reach hp base n gh seen
  else match ao hp id with
   | some o=>reach hp base n (iR o++gh) (seen++[id])
   | none=>reach hp base n gh seen
def jN (base:Nat):Hp->List Nat
 | []=>[]
 | (id,o)::r=>bif yQ id base then iR o++jN base r else jN base r
def dc (i:Nat):List Nat->Nat->Option Nat
 | [],_=>none
 | j::r,k=>bif yz j i then some k else dc i r (k+1)
def lS (base:Nat) (seen:List Nat) (id:Nat):Option Nat:=bif yQ id base then some id else dc id seen base
def ni (base:Nat) (f:Nat->Option Nat):Hp->Hp
 | []=>[]
 | (id,o)::r=>bif yQ id base then (id,iT f o)::ni base f r else ni base f r
def iz (hp:Hp) (f:Nat->Option Nat):List Nat->Nat->Hp->Hp
 | [],_,acc=>acc
 | id::r,k,acc=>match ao hp id with | some o=>iz hp f r (k+1) ((k,iT f o)::acc) | none=>iz hp f r (k+1) acc
def aG (live:List Nat) (s:St):St:=
 let tm:=bP s.tm live
 let seen:=reach s.hp s.base 100000 (et tm++jN s.base s.hp) []
 let f:=lS s.base seen
 {tm:=fe f tm,hp:=iz s.hp f seen s.base (ni s.base f s.hp),ct:=s.base+seen.length,base:=s.base}
def iN (hp:Hp) (sz:Nat):AV->Option (Nat×List AV)
 | .ab=>some (0,[])
 | .aE _ n cs=>bif yz cs.length (n*sz) then some (n,cs) else none
 | .ak id o n=>
  match ao hp id with
  | some (.cells _ _ _ _ cs)=>bif yK (o+n*sz) cs.length then some (n,slice o (n*sz) cs) else none
  | _=>none
 | _=>none
def Ok:List Nat->List AV
 | []=>[]
 | b::r=> .int .u8 b::Ok r
def CF:List Nat->List Nat->Bool
 | _,[]=>false
 | [],_::_=>true
 | a::x,b::y=>yQ a b||(yz a b&&CF x y)
def de:List Nat->List Nat->Bool
 | [],[]=>true
 | a::x,b::y=>yz a b&&de x y
 | _,_=>false
def eM:List Nat->List AV->List AV->Option Bool
 | [],[],[]=>some true
 | 0::ks,.bool a::x,.bool b::y=>match eM ks x y with | some r=>some ((a==b)&&r) | none=>none
 | 1::ks,.int k a::x,.int k' b::y=>if k=k' then (match eM ks x y with | some r=>some ((a==b)&&r) | none=>none) else none
 | 2::ks,.str a::x,.str b::y=>match eM ks x y with | some r=>some (de a b&&r) | none=>none
 | _,_,_=>none
def kv:Qy->AV->AV->Option Bool
 | .b,.bool a,.bool b=>some (a==b)
 | .sl,.ab,.ab=>some true
 | .sl,.ab,.aE _ _ _=>some false
 | .sl,.ab,.ak _ _ _=>some false
 | .sl,.aE _ _ _,.ab=>some false
 | .sl,.ak _ _ _,.ab=>some false
 | .fn,.jy,.jy=>some true
 | .fn,.jy,.fn _ _ _=>some false
 | .fn,.fn _ _ _,.jy=>some false
 | .ag ks,.agg a,.agg b=>eM ks a b
 | _,_,_=>none
def intCmp (op:vt) (x y:Int):Option Bool:=
 match op with
 | .eql=>some (x==y)
 | .neq=>some (x !=y)
 | .lss=>some (decide (x<y))
 | .leq=>some (decide (x<=y))
 | .gtr=>some (decide (x>y))
 | .geq=>some (decide (x>=y))
 | _=>none
def mB (op:vt) (k:xc) (x y:Int):Option AV:=
 match op with
 | .add=>some (.int k (k.wrap (x+y)))
 | .sub=>some (.int k (k.wrap (x-y)))
 | .mul=>some (.int k (k.wrap (x*y)))
 | .quo=>if y=0 then none else some (.int k (k.wrap (x.tdiv y)))
 | .rem=>if y=0 then none else some (.int k (x.tmod y))
 | .and=>some (.int k (k.wrap (xV k.bits x&&&xV k.bits y).toNat))
 | .or=>some (.int k (k.wrap (xV k.bits x|||xV k.bits y).toNat))
 | .xor=>some (.int k (k.wrap (xV k.bits x^^^xV k.bits y).toNat))
 | .andNot=>some (.int k (k.wrap (xV k.bits x&&&~~~(xV k.bits y)).toNat))
 | .shl | .shr=>none
 | op=>match intCmp op x y with | some b=>some (.bool b) | none=>none
def Dr (op:vt) (k:xc) (x y:Int):Option AV:=
 if y<0 then none else
 match op with
 | .shl=>some (.int k (k.wrap (x*2^(min y.toNat k.bits))))
 | .shr=>some (.int k (x.fdiv (2^(min y.toNat k.bits))))
 | _=>none
def Kq (op:vt) (x y:List Nat):Option AV:=
 match op with
 | .add=>bif yK (x.length+y.length) 9223372036854775807 then some (.str (x++y)) else none
 | .eql=>some (.bool (de x y))
 | .neq=>some (.bool (!de x y))
 | .lss=>some (.bool (CF x y))
 | .leq=>some (.bool (CF x y||de x y))
 | .gtr=>some (.bool (!(CF x y||de x y)))
 | .geq=>some (.bool (!CF x y))
 | _=>none
def UH (op:vt) (k:ug) (x y:Nat):Option AV:=
 let c:=k.format.order x y
 let ar (r:Option Nat):Option AV:=match r with | some b=>some (.dD k b) | none=>none
 match op with
 | .add=>ar (k.format.add x y)
 | .sub=>ar (k.format.sub x y)
 | .mul=>ar (k.format.mul x y)
 | .quo=>ar (k.format.div x y)
 | .eql=>some (.bool (c==some .eq))
 | .neq=>some (.bool (c !=some .eq))
 | .lss=>some (.bool (c==some .lt))
 | .leq=>some (.bool (c==some .lt||c==some .eq))
 | .gtr=>some (.bool (c==some .gt))
 | .geq=>some (.bool (c==some .gt||c==some .eq))
 | _=>none
def binOp (op:vt) (x y:AV):Option AV:=
 match x,y with
 | .int k a,.int k' b=>
  match op with
  | .shl | .shr=>Dr op k a b
  | _=>if k=k' then mB op k a b else none
 | .dD k a,.dD k' b=>if k=k' then UH op k a b else none
 | .str a,.str b=>Kq op a b
 | _,_=>none
def unOp (op:ybW) (x:AV):Option AV:=
 match op,x with
 | .neg,.int k n=>some (.int k (k.wrap (0-n)))
 | .xor,.int k n=>mB .xor k (if k.signed then -1 else k.max) n
 | .not,.bool b=>some (.bool !b)
 | .neg,.dD k b=>some (.dD k (b^^^2^(k.format.exponentBits+k.format.fractionBits)))
 | _,_=>none
def qO (c:Conv) (x:AV):Option AV:=
 match c,x with
 | .toInt k,.int _ n=>some (.int k (k.wrap n))
 | .toFlt k,.int _ n=>some (.dD k (k.nearest n))
 | .toInt k,.dD s b=>
  match (s.decode b).toInt .zero with
  | some n=>if k.min<=n/\n<=k.max then some (.int k n) else none
  | none=>none
 | .toFlt k,.dD s b=>
  if s=k then some (.dD k b) else
  match s.decode b with
  | .number sg m e=>if (k.decode (k.encode (.number sg m e))).isInfinity then none else some (.dD k (k.encode (.number sg m e)))
  | _=>none
 | .str,.str s=>some (.str s)
 | _,_=>none
def iX (sz:Nat) (ag:Bool) (cs:List AV):Option AV:=
 bif ag then (bif yK sz cs.length then some (.agg (cs.take sz)) else none)
 else match cs with | v::_=>some v | []=>none
def dI (x:AV):Option Nat:=
 match x with
 | .int _ n=>match n with | .ofNat k=>some k | .negSucc _=>none
 | _=>none
def dl (tm:Env) (d:Nat):Option X->Option Nat
 | none=>some d
 | some x=>dI (aC tm x)
def fG (hp:Hp) (k:Cut) (x:AV) (tm:Env) (lo hi:Option X):Option AV:=
 match k,x with
 | .str,.str s=>
  match dl tm 0 lo,dl tm s.length hi with
  | some l,some h=>bif yK l h&&yK h s.length then some (.str ((s.take h).drop l)) else none
  | _,_=>none
 | .sl _,.ab=>
  match dl tm 0 lo,dl tm 0 hi with
  | some 0,some 0=>some .ab
  | _,_=>none
 | .sl sz,.aE ex n cs=>
  match dl tm 0 lo,dl tm n hi with
  | some l,some h=>bif yK l h&&yK h n then some (.aE (ex&&yz h n) (h-l) (slice (l*sz) ((h-l)*sz) cs)) else none
  | _,_=>none
 | .sl sz,.ak id o n=>
  match ao hp id with
  | some (.cells _ _ _ z _)=>
   match dl tm 0 lo,dl tm n hi with
   | some l,some h=>
    bif yK l h&&yK h n&&yz z sz then
     bif yz l h&& !yz l 0 then some (.aE false 0 []) else some (.ak id (o+l*sz) (h-l))
    else none
   | _,_=>none
  | _=>none
 | _,_=>none
def fill (tm:Env):List AV->List (Nat×Nat×X)->Option (List AV)
 | cs,[]=>some cs
 | cs,(o,sz,x)::r=>
  let new:=cellsOf (aC tm x)
  bif yz new.length sz&&yK (o+sz) cs.length&&cw new then fill tm (over o new cs) r else none
def Gj:AV->AV->Option Bool
 | .int k a,.int k' b=>if k=k' then some (a==b) else none
 | .str a,.str b=>some (de a b)
 | .bool a,.bool b=>some (a==b)
 | _,_=>none
def Ab:Nat->AV->Bool
 | 0,.bool _=>true
 | 1,.int _ _=>true
 | 2,.str _=>true
 | _,_=>false
def DX (k:AV):List AV->List AV->Option (Option AV)
 | [],_=>some none
 | k'::ks,v::vs=>match Gj k k' with | some true=>some (some v) | some false=>DX k ks vs | none=>none
 | _::_,[]=>none
def Cg (k v:AV):List AV->List AV->Option (List AV×List AV)
 | [],[]=>some ([k],[v])
 | k'::ks,u::us=>
  match Gj k k' with
  | some true=>some (k'::ks,v::us)
  | some false=>match Cg k v ks us with | some (lC,WU)=>some (k'::lC,u::WU) | none=>none
  | none=>none
 | _,_=>none
def min2:AV->AV->Option AV
 | .int k x,.int _ y=>some (.int k (if y<x then y else x))
 | .dD k x,.dD _ y=>
  match k.format.order x y with
  | none=>none
  | some .lt=>some (.dD k x)
  | some .gt=>some (.dD k y)
  | some .eq=>some (.dD k (if (k.decode x).neg then x else y))
 | _,_=>none
def max2:AV->AV->Option AV
 | .int k x,.int _ y=>some (.int k (if y>x then y else x))
 | .dD k x,.dD _ y=>
  match k.format.order x y with
  | none=>none
  | some .lt=>some (.dD k y)
  | some .gt=>some (.dD k x)
  | some .eq=>some (.dD k (if (k.decode x).neg then y else x))
 | _,_=>none
def B5 (f:AV->AV->Option AV):AV->List AV->Option AV
 | a,[]=>some a
 | a,b::r=>match f a b with | some c=>B5 f c r | none=>none
def room:Nat:=1099511627776
abbrev gM:=Option (AV×Hp×Nat)
def jz (hp:Hp) (sz:Nat) (ag:Bool):AV->Option AV
 | .ptr id o=>match ao hp id with | some (.cells _ _ _ _ cs)=>iX sz ag (cs.drop o) | _=>none
 | .aO cs=>iX sz ag cs
 | _=>none
def Kr (k:Nat):AV->Option AV
 | .ptr id o=>some (.ptr id (o+k))
 | .aO cs=>bif yK k cs.length then some (.aO (cs.drop k)) else none
 | _=>none
def O8 (o sz:Nat) (ag:Bool):AV->Option AV
 | .agg cs=>iX sz ag (cs.drop o)
 | _=>none
def kX (sz i:Nat):AV->Option AV
 | .ak id o n=>bif yQ i n then some (.ptr id (o+i*sz)) else none
 | .aE _ n cs=>bif yQ i n then some (.aO (cs.drop (i*sz))) else none
 | _=>none
def O9 (len sz i:Nat):AV->Option AV
 | .ptr id o=>bif yQ i len then some (.ptr id (o+i*sz)) else none
 | .aO cs=>bif yQ i len then some (.aO (cs.drop (i*sz))) else none
 | _=>none
def n7 (i:Nat):AV->Option AV
 | .str s=>match s[i]? with | some b=>some (.int .u8 b) | none=>none
 | _=>none
def Pa (len sz:Nat) (ag:Bool) (i:Nat):AV->Option AV
 | .agg cs=>bif yQ i len then iX sz ag (cs.drop (i*sz)) else none
 | _=>none
def B6 (hp:Hp) (k:AV):AV->Option (Option AV)
 | .lh=>some none
 | .map id=>match ao hp id with | some (.mp _ ks vs)=>DX k ks vs | _=>none
 | .ko ks vs=>DX k ks vs
 | _=>none
def gg (hp:Hp):Nat->AV->Option AV
 | 0,.str s=>some (.int .i64 s.length)
 | 1,.ab=>some (.int .i64 0)
 | 1,.aE _ n _=>some (.int .i64 n)
 | 1,.ak _ _ n=>some (.int .i64 n)
 | 2,.lh=>some (.int .i64 0)
 | 2,.ko ks _=>some (.int .i64 ks.length)
 | 2,.map id=>match ao hp id with | some (.mp _ ks _)=>some (.int .i64 ks.length) | _=>none
 | _,_=>none
def bB (tm:Env) (hp:Hp):Op->Option AV
 | .rW x=>some (aC tm x)
 | .pick c a b=>match aC tm c with | .bool t=>some (bif t then aC tm a else aC tm b) | _=>none
 | .B4 zero parts=>match fill tm zero parts with | some cs=>some (.agg cs) | none=>none
 | .ld sz ag x=>jz hp sz ag (aC tm x)
 | .KY x=>
  match aC tm x with
  | .ptr id o=>some (.ptr id o)
  | .aO cs=>some (.aO cs)
  | .fn f a b=>some (.fn f a b)
  | _=>none
 | .bin op x y=>binOp op (aC tm x) (aC tm y)
 | .eq ne k x y=>match kv k (aC tm x) (aC tm y) with | some r=>some (.bool (ne !=r)) | none=>none
 | .un op x=>unOp op (aC tm x)
 | .cv k x=>qO k (aC tm x)
 | .G9 f first cap=>some (.fn f (dH tm first) (dH tm cap))
 | .qZ k x lo hi=>fG hp k (aC tm x) tm lo hi
 | .off k x=>Kr k (aC tm x)
 | .LU o sz ag x=>O8 o sz ag (aC tm x)
 | .bi sz x i=>match dI (aC tm i) with | some j=>kX sz j (aC tm x) | none=>none
 | .Ha len sz x i=>match dI (aC tm i) with | some j=>O9 len sz j (aC tm x) | none=>none
 | .Hb x i=>match dI (aC tm i) with | some j=>n7 j (aC tm x) | none=>none
 | .Hc len sz ag x i=>match dI (aC tm i) with | some j=>Pa len sz ag j (aC tm x) | none=>none
 | .Qz kk zero ok m k=>
  bif Ab kk (aC tm k) then
   match B6 hp (aC tm k) (aC tm m) with
   | some (some v)=>some (bif ok then .az [v,.bool true] else v)
   | some none=>some (bif ok then .az [zero,.bool false] else zero)
   | none=>none
  else none
 | .ext i x=>match aC tm x with | .az vs=>vs[i]? | _=>none
 | .len k x=>gg hp k (aC tm x)
 | .mn xs=>match dH tm xs with | a::r=>B5 min2 a r | []=>none
 | .mx xs=>match dH tm xs with | a::r=>B5 max2 a r | []=>none
 | _=>none
def cW (tm:Env) (hp:Hp) (ct:Nat):Op->Option (AV×Obj)
 | .box sz x=>
  let cs:=cellsOf (aC tm x)
  bif yz cs.length sz&&cw cs then some (.ptr ct 0,.cells true (aH cs) true sz cs) else none
 | .nl n sz zero parts=>
  match fill tm zero parts with
  | some cs=>bif yz cs.length (n*sz) then some (.ak ct 0 n,.cells true (aH cs) true sz cs) else none
  | none=>none
 | .pE sz bytes zero len cap=>
  match dI (aC tm len),dI (aC tm cap) with
  | some l,some c=>
   bif yK l c&&(yK c room&&(yK (c*bytes) room&&(yz zero.length sz&&cw zero))) then
    some (.ak ct 0 l,.cells true (aH zero) (yz l c) sz (yf l zero).flatten)
   else none
  | _,_=>none
 | .A2=>some (.map ct,.mp true [] [])
 | .q9 x=>match aC tm x with | .str s=>some (.it ct,.si s 0) | _=>none
 | _=>none
def decodeL (s:List Nat) (i:Nat):Nat×Nat:=
 let at' (k:Nat):Nat:=s.getD (i+k) 0
 let cont (k:Nat):Bool:=decide (i+k<s.length)&&at' k/64==2
 let b0:=at' 0
 if b0<0x80 then (b0,1)
 else if b0/32==6&&cont 1 then
  let c:=(b0%32)*64+at' 1%64
  if c>=0x80 then (c,2) else (um,1)
 else if b0/16==14&&cont 1&&cont 2 then
  let c:=(b0%16)*4096+(at' 1%64)*64+at' 2%64
  if c>=0x800&&yaY c then (c,3) else (um,1)
 else if b0/8==30&&cont 1&&cont 2&&cont 3 then
  let c:=(b0%8)*262144+(at' 1%64)*4096+(at' 2%64)*64+at' 3%64
  if c>=0x10000&&yaY c then (c,4) else (um,1)
 else (um,1)
def iP (hp:Hp) (sz:Nat):AV->Option (Nat×List AV)
 | .str b=>bif yz sz 1 then some (b.length,Ok b) else none
 | v=>iN hp sz v
def n8 (hp:Hp) (ct sz bytes:Nat) (s:AV) (src:Option (Nat×List AV)):Option (AV×Obj):=
 match src with
 | none=>none
 | some (m,new)=>
  match s with
  | .ak id o n=>
   match ao hp id with
   | some (.cells _ pu true z cs)=>
    bif yz z sz&&(yQ 0 m&&(yK (n+m) room&&(yK ((n+m)*bytes) room&&(yz (o+n*sz) cs.length&&yQ 0 sz)))) then
     some (.ak ct 0 (n+m),.cells true (pu&&aH new) false sz (slice o (n*sz) cs++new))
    else none
   | _=>none
  | _=>none
def cR (tm:Env) (hp:Hp) (ct:Nat):Op->gM
 | .st sz x v=>
  let new:=cellsOf (aC tm v)
  match aC tm x with
  | .ptr id o=>
   match ao hp id with
   | some (.cells true pu ex z cs)=>
    bif yz new.length sz&&yK (o+sz) cs.length&&cw new then
     some (.az [],aT hp id (.cells true (pu&&aH new) ex z (over o new cs)),ct)
    else none
   | _=>none
  | _=>none
 | .q8 kk m k v=>
  match aC tm m with
  | .map id=>
   match ao hp id with
   | some (.mp true ks vs)=>bif !Ab kk (aC tm k) then none else match Cg (aC tm k) (aC tm v) ks vs with | some (lC,eD)=>some (.az [],aT hp id (.mp true lC eD),ct) | none=>none
   | _=>none
  | _=>none
 | .rb x=>
  match aC tm x with
  | .it id=>
   match ao hp id with
   | some (.si s pos)=>
    bif yQ pos s.length then
     match decodeL s pos with
     | (c,wd)=>some (.az [.bool true,.int .i64 pos,.int .i32 c],aT hp id (.si s (pos+wd)),ct)
    else some (.az [.bool false],hp,ct)
   | _=>none
  | _=>none
 | .cX sz bytes s x=>
  match iP hp sz (aC tm x) with
  | none=>none
  | some (m,new)=>
   match aC tm s with
   | .ab=>
    bif yz m 0 then some (.ab,hp,ct)
    else bif yK m room&&(yK (m*bytes) room&&yQ 0 sz) then some (.ak ct 0 m,(ct,.cells true (aH new) false sz new)::hp,ct+1) else none
   | .aE true n cs=>
    bif yz m 0 then some (.aE true n cs,hp,ct)
    else bif yK (n+m) room&&(yK ((n+m)*bytes) room&&(yz cs.length (n*sz)&&yQ 0 sz)) then some (.ak ct 0 (n+m),(ct,.cells true (aH cs&&aH new) false sz (cs++new))::hp,ct+1) else none
   | .ak id o n=>
    match ao hp id with
    | some (.cells true pu _ z cs)=>
     bif yz z sz&&(yK (n+m) room&&(yK ((n+m)*bytes) room&&(yK (o+n*sz) cs.length&&(yQ 0 sz&&cw new)))) then
      some (.ak ct 0 (n+m),(ct,.cells true (pu&&aH new) false sz (slice o (n*sz) cs++new))::dJ hp id,ct+1)
     else none
    | _=>none
   | _=>none
 | .oA sz d s=>
  match iN hp sz (aC tm s),aC tm d with
  | some (m,new),.ak id o n=>
   match ao hp id with
   | some (.cells true pu ex z cs)=>
    bif yz z sz&&(yK (o+n*sz) cs.length&&cw new) then
     some (.int .i64 (min m n:Nat),aT hp id (.cells true (pu&&aH new) ex z (over o (new.take (min m n*sz)) cs)),ct)
    else none
   | _=>none
  | _,_=>none
 | _=>none
def jw:X->List Nat | .t i=>[i] | .c _=>[]
def Ao:List X->List Nat
 | []=>[]
 | x::r=>jw x++Ao r
def Ks:Option X->List Nat | some x=>jw x | none=>[]
def Kt:List (Nat×Nat×X)->List Nat
 | []=>[]
 | (_,_,x)::r=>jw x++Kt r
def kU:Op->List Nat
 | .rW x | .box _ x | .ld _ _ x | .KY x | .un _ x | .cv _ x | .off _ x | .LU _ _ _ x | .q9 x | .rb x | .ext _ x | .len _ x=>jw x
 | .pick a b c | .q8 _ a b c=>jw a++(jw b++jw c)
 | .B4 _ ps | .nl _ _ _ ps=>Kt ps
 | .st _ a b | .bin _ a b | .eq _ _ a b | .bi _ a b | .Ha _ _ a b | .Hb a b | .Hc _ _ _ a b | .Qz _ _ _ a b | .cX _ _ a b | .pG _ _ a b | .oA _ a b=>jw a++jw b
 | .G9 _ a b=>Ao a++Ao b
 | .A2=>[]
 | .pE _ _ _ a b=>jw a++jw b
 | .qZ _ x a b=>jw x++(Ks a++Ks b)
 | .call _ f xs=>jw f++Ao xs
 | .jv _ f xs=>jw f++Ao xs
 | .lB _ _ a b=>jw a++jw b
 | .mg _ _ _ a b=>jw a++jw b
 | .mn xs | .mx xs=>Ao xs
def bC:Op->Nat
 | .rW _ | .pick _ _ _ | .B4 _ _ | .KY _ | .bin _ _ _ | .eq _ _ _ _ | .un _ _ | .cv _ _ | .G9 _ _ _ | .off _ _ | .LU _ _ _ _ | .bi _ _ _ | .Ha _ _ _ _ | .Hb _ _ | .Hc _ _ _ _ _ | .ext _ _ | .mn _ | .mx _=>0
 | .qZ .str _ _ _ | .len 0 _ | .len 1 _=>0
 | .st _ _ _ | .q8 _ _ _ _ | .rb _ | .cX _ _ _ _ | .oA _ _ _ | .jv _ _ _ | .lB _ _ _ _ | .mg _ _ _ _ _ | .call .heap _ _ | .call .dyn _ _=>2
 | _=>1
def UI:Option (Nat×Bool)->List Nat | some (t,_)=>[t] | none=>[]
def DC (o:bf):List Nat:=UI o.guard++kU o.op
def Gy (d:Option Nat) (l:List Nat):Bool:=match d with | some i=>jR i l | none=>false
def aeY (d e:Option Nat):Bool:=match d,e with | some i,some j=>yz i j | _,_=>false
def NW (a b:bf):Bool:=Gy a.dst (DC b)||Gy b.dst (DC a)||aeY a.dst b.dst
def D7 (sz:Nat) (ag:Bool) (t:Nat):List (Nat×Bool×Nat)->Bool
 | []=>false
 | (s,g,u)::r=>(yz s sz&&(g==ag&&yz u t))||D7 sz ag t r
def DY (t:Nat):List bf->Bool
 | []=>true
 | o::r=> !Gy o.dst [t]&&DY t r
def Ju (a b:bf) (r:List bf):Bool:=
 match a.guard,a.op,b.op with
 | none,.ld sz ag (.t t),.jv rs _ _=>D7 sz ag t rs&&DY t (a::r)
 | none,.ld sz ag (.t t),.lB rs _ _ _=>D7 sz ag t rs&&DY t (a::r)
 | none,.ld sz ag (.t t),.mg rs _ _ _ _=>D7 sz ag t rs&&DY t (a::r)
 | _,_,_=>false
def I3 (a b:bf):Bool:=
 match bC a.op,bC b.op with
 | 1,2 | 2,1 | 2,2=>true
 | _,_=>false
def NX (m:Nat) (b:bf):List bf->Nat->Bool
 | [],_=>true
 | a::r,i=>(uT m i|| !(NW a b||(I3 a b&& !Ju a b r)))&&NX m b r (i+1)
def Ac (done:List bf):List bf->List Nat->Bool
 | [],_=>true
 | b::r,m::ms=>NX m b done 0&&Ac (done++[b]) r ms
 | _::_,[]=>false
def Jv (m:Nat):List bf->Nat->List (Nat×Bool×Nat)
 | [],_=>[]
 | a::r,i=>
  match uT m i,a with
  | false,⟨_,none,.ld sz ag (.t t)⟩=>(sz,ag,t)::Jv m r (i+1)
  | _,_=>Jv m r (i+1)
def stOp (rs:List (Nat×Bool×Nat)) (sz:Nat) (x v:X):Op:=match rs with | []=> .st sz x v | rs=> .lB rs sz x v
def ahm (rs:List (Nat×Bool×Nat)) (sz b:Nat) (x v:X):Op:=match rs with | []=> .cX sz b x v | rs=> .mg rs sz b x v
def n9 (done:List bf):List bf->List Nat->List bf
 | ⟨d,g,.jv _ f xs⟩::r,m::ms=>let o:bf:=⟨d,g,.jv (Jv m done 0) f xs⟩;o::n9 (done++[o]) r ms
 | ⟨d,g,.st sz x v⟩::r,m::ms=>let o:bf:=⟨d,g,stOp (Jv m done 0) sz x v⟩;o::n9 (done++[o]) r ms
 | ⟨d,g,.cX sz b x v⟩::r,m::ms=>let o:bf:=⟨d,g,ahm (Jv m done 0) sz b x v⟩;o::n9 (done++[o]) r ms
 | o::r,_::ms=>o::n9 (done++[o]) r ms
 | l,_=>l
def adh (done:List bf):X->Bool
 | .t i=>done.any fun o=>match o.dst,o.op with | some j,.nl _ _ _ _=>yz i j | _,_=>false
 | _=>false
def Gk (done:List bf):List bf->List bf
 | []=>[]
 | o::r=>(match o.op with | .cX sz b x v=>bif adh done x then ⟨o.dst,o.guard,.pG sz b x v⟩ else o | _=>o)::Gk (done++[o]) r
abbrev aM:=Nat->Option av
structure Lib where
 pure:Nat->Option (List AV->Option AV)
 heap:Nat->Option (Hp->Nat->List AV->gM)
abbrev cG:=VC->St->Option (Ex×St)
def dN:Nat->List AV->Env
 | _,[]=>[]
 | i,v::r=>(i,v)::dN (i+1) r
def results1 (s:St):RV->Option AV
 | .t i=>some (af s.tm i)
 | .cell i sz ag=>
  match af s.tm i with
  | .ptr id o=>match ao s.hp id with | some (.cells _ _ _ _ cs)=>iX sz ag (cs.drop o) | _=>none
  | .aO cs=>iX sz ag cs
  | _=>none
def mu (s:St):List RV->Option (List AV)
 | []=>some []
 | r::rest=>match results1 s r,mu s rest with | some v,some vs=>some (v::vs) | _,_=>none
def jr (s:St) (rs:List RV):Option AV:=
 match mu s rs with
 | some [v]=>some v
 | some vs=>some (.az vs)
 | none=>none
def bK (P:aM) (L:Lib) (self:cG) (n:Nat) (ax:List AV):Option AV:=
 match L.pure n with
 | some sp=>sp ax
 | none=>
  match P n with
  | none=>none
  | some F=>
   match self F.body ⟨dN 0 ax,[],0,0⟩ with
   | some (.normal,s) | some (.ret,s)=>match jr s F.fm with | some v=>result s.hp v | none=>none
   | _=>none
def Ud:Ex->AI
 | .normal=> .none
 | .ret=> .ret
 | .exit id=> .exit id
def sM:Env->List Nat->List AV->Option Env
 | tm,[],[]=>some tm
 | tm,p::ps,v::vs=>sM ((p,v)::tm) ps vs
 | _,_,_=>none
def ix (P:aM) (L:Lib) (self:cG) (hp:Hp) (ct:Nat) (n:Nat) (ax:List AV):gM:=
 match L.heap n with
 | some sp=>sp hp ct ax
 | none=>
  match P n with
  | none=>none
  | some F=>
   match self F.body ⟨dN 0 ax,hp,ct,ct⟩ with
   | some (.normal,s) | some (.ret,s)=>match jr s F.fm with | some v=>some (v,s.hp,s.ct) | none=>none
   | _=>none
def oU (self:cG) (hp:Hp) (ct:Nat) (l:Nat) (xs:List AV):gM:=
 match ao hp l with
 | some (.lp tm ps cT body 0 _)=>
  match sM tm ps xs with
  | none=>none
  | some tm'=>
   match self cT ⟨tm',hp,ct,ct⟩ with
   | some (.normal,s1)=>
    match ao s1.hp l with
    | some (.lp ky Ev CG DZ 0 A3)=>
     match self body ⟨s1.tm,aT s1.hp l (.lp ky Ev CG DZ 1 A3),s1.ct,s1.ct⟩ with
     | some (ex,s2)=>
      match ao s2.hp l with
      | some (.lp rX LV LW Ku 1 _)=>
       match ex with
       | .normal=>some (.bool true,aT s2.hp l (.lp rX LV LW Ku 0 .none),s2.ct)
       | ex=>some (.bool false,aT s2.hp l (.lp rX LV LW Ku 2 (Ud ex)),s2.ct)
      | _=>none
     | none=>none
    | _=>none
   | _=>none
 | _=>none
def er (P:aM) (L:Lib) (self:cG) (hp:Hp) (ct:Nat) (m:Md) (fv:AV) (xs:List AV):gM:=
 match fv with
 | .fn (.f n) first cap=>
  match m with
  | .pure=>
   match cD deep hp (first++(xs++cap)) with
   | some (ax,a6)=>match bK P L self n ax with | some r=>some (shut r,a6,ct) | none=>none
   | none=>none
  | .own=>
   match cD deep hp (first++(xs++cap)) with
   | some (ax,a6)=>match bK P L self n ax with | some r=>some (own a6 ct r) | none=>none
   | none=>none
  | .heap=>ix P L self hp ct n (first++(xs++cap))
  | .dyn=>
   bif aH (first++(xs++cap)) then
    match bK P L self n (first++(xs++cap)) with | some r=>some (shut r,hp,ct) | none=>none
   else ix P L self hp ct n (first++(xs++cap))
 | .fn (.y l) _ _=>
  match m with
  | .heap | .dyn=>oU self hp ct l xs
  | _=>none
 | _=>none
def Vj:AV->AV->Bool
 | .int k a,.int k' b=>decide (k=k')&&a==b
 | .bool a,.bool b=>a==b
 | .str a,.str b=>de a b
 | .ab,.ab=>true
 | .mH,.mH=>true
 | .ptr i o,.ptr j p=>yz i j&&yz o p
 | .ak i o n,.ak j p m=>yz i j&&(yz o p&&yz n m)
 | .map i,.map j=>yz i j
 | _,_=>false
def qh (tm:Env) (hp ah:Hp):List (Nat×Bool×Nat)->Bool
 | []=>true
 | (sz,ag,x)::r=>
  match jz hp sz ag (af tm x),jz ah sz ag (af tm x) with
  | some a,some b=>Vj a b&&qh tm hp ah r
  | _,_=>false
def oX (tm:Env) (id:Nat):List (Nat×Bool×Nat)->Bool
 | []=>true
 | (_,_,x)::r=>(match af tm x with | .ptr j _=> !yz j id | .aO _=>true | _=>false)&&oX tm id r
def bg (P:aM) (L:Lib) (self:cG) (tm:Env) (hp:Hp) (ct:Nat) (o:Op):gM:=
 match o with
 | .call m f xs=>er P L self hp ct m (aC tm f) (dH tm xs)
 | .jv rs f xs=>
  match er P L self hp ct .dyn (aC tm f) (dH tm xs) with
  | some (v,ah,aK)=>bif qh tm hp ah rs then some (v,ah,aK) else none
  | none=>none
 | .lB rs sz x v=>
  match aC tm x with
  | .ptr id _=>bif oX tm id rs then cR tm hp ct (.st sz x v) else none
  | _=>none
 | .pG sz b x v=>
  match n8 hp ct sz b (aC tm x) (iP hp sz (aC tm v)) with
  | some (v,b)=>some (v,(ct,b)::hp,ct+1)
  | none=>none
 | .mg rs sz b x v=>
  match cR tm hp ct (.cX sz b x v) with
  | some (v,ah,aK)=>bif qh tm hp ah rs then some (v,ah,aK) else none
  | none=>none
 | .st .. | .q8 .. | .rb .. | .cX .. | .oA .. =>cR tm hp ct o
 | .box .. | .nl .. | .pE .. | .A2 | .q9 .. =>match cW tm hp ct o with | some (v,b)=>some (v,(ct,b)::hp,ct+1) | none=>none
 | o=>match bB tm hp o with | some v=>some (v,hp,ct) | none=>none
def put (d:Option Nat) (v:AV) (tm:Env):Env:=
 match d with
 | some i=>(i,v)::tm
 | none=>tm
def dO (P:aM) (L:Lib) (self:cG):List bf->St->Option St
 | [],s=>some s
 | ⟨d,g,o⟩::r,s=>
  let want:=match g with | none=>some true | some (t,b)=>match af s.tm t with | .bool c=>some (c==b) | .az []=>some false | _=>none
  match want with
  | some true=>
   match bg P L self s.tm s.hp s.ct o with
   | some (v,hp,ct)=>dO P L self r {s with tm:=put d v s.tm,hp:=hp,ct:=ct}
   | none=>none
  | some false=>dO P L self r {s with tm:=put d (.az []) s.tm}
  | none=>none
def qG:List Nat->St->Option St
 | [],s=>some s
 | t::r,s=>
  match freeze deep s.hp (af s.tm t) with
  | some (v,hp)=>qG r {s with tm:=(t,v)::s.tm,hp:=hp}
  | none=>none
def bF (P:aM) (L:Lib) (self:cG):VC->St->Option (Ex×St)
 | .skip,s=>some (.normal,s)
 | .mh ops,s=>match dO P L self ops s with | some s'=>some (.normal,s') | none=>none
 | .seq a b,s=>
  match bF P L self a s with
  | some (.normal,s1)=>bF P L self b s1
  | r=>r
 | .cond x a b,s=>
  match aC s.tm x with
  | .bool t=>bif t then bF P L self a s else bF P L self b s
  | _=>none
 | .ef id a,s=>
  match bF P L self a s with
  | some (.exit j,s1)=>bif yz j id then some (.normal,s1) else some (.exit j,s1)
  | r=>r
 | .kp live,s=>some (.normal,aG live s)
 | .fz ts,s=>match qG ts s with | some s'=>some (.normal,s') | none=>none
 | .loop live a,s=>
  match bF P L self a (aG live s) with
  | some (.normal,s1)=>self (.loop live a) s1
  | r=>r
 | .rf f ps cT body,s=>
  match aC s.tm f with
  | .fn (.f n) first cap=>
   match L.heap n with
   | some _=>none
   | none=>
    match ix P L self ((s.ct,.lp s.tm ps cT body 0 .none)::s.hp) (s.ct+1) n (first++(.fn (.y s.ct) [] []::cap)) with
    | some (_,hp,ct)=>
     match ao hp s.ct with
     | some (.lp _ _ _ _ st pe)=>
      bif yz st 1 then none else
      match pe with
      | .none=>some (.normal,{s with hp:=dJ hp s.ct,ct:=ct})
      | .ret=>some (.ret,{s with hp:=dJ hp s.ct,ct:=ct})
      | .exit id=>some (.exit id,{s with hp:=dJ hp s.ct,ct:=ct})
     | _=>none
    | none=>none
  | _=>none
 | .exit id,s=>some (.exit id,s)
 | .ret,s=>some (.ret,s)
def ev (P:aM) (L:Lib) (n:Nat):cG:=Nat.rec (fun _ _=>none) (fun _ ih=>bF P L ih) n
def WV (P:aM) (L:Lib) (n:Nat) (f:Nat) (ax:List AV):Option AV:=bK P L (ev P L n) f ax
end
section
open Go
structure Pl where
 b:Nat
 o:Nat
 e:Nat
 z:Nat
abbrev Mp:=Nat->Option Pl
section
variable (ae:Nat->Nat) (m:Mp) (S:Nat->Prop) (w:ym)
mutual
def ai:AV->yj->Prop
 | .int k n,v=>v= .int k n
 | .bool b,v=>v= .bool b
 | .dD k b,v=>v= .float k b
 | .str s,v=>∃t:ByteArray,v= .string t/\t.data.toList.map xf=s
 | .mH,v=>v= .pointer none
 | .ptr id o,v=>∃p,m id=some p/\v= .pointer (some ⟨p.b,p.o+o,none⟩)
 | .aO cs,v=>∃b o,v= .pointer (some ⟨b,o,none⟩)/\(cs=[]\/S b)/\aH cs=true/\bR cs b o
 | .ab,v=>v= .slice none 0 0
 | .aE ex n cs,v=>(∃b o c,v= .slice (some ⟨b,o,none⟩) n c/\n<=c/\(ex=true->c=n)/\(cs=[]\/S b)/\aH cs=true/\bR cs b o)\/(∃a,v= .slice (some a) 0 0/\n=0/\cs=[])
 | .bV _ _ _ _,_=>False
 | .ak id o n,v=>∃p c,m id=some p/\v= .slice (some ⟨p.b,p.o+o,none⟩) n c/\n<=c/\o+c*p.z=p.e
 | .fn (.f g) first cap,v=>∃fi ca:Array yj,v= .func (.func (ae g)) fi ca/\aA first fi.toList/\aA cap ca.toList
 | .fn (.y l) _ _,v=>∃p,m l=some p/\v= .func (.yield p.b) #[] #[]
 | .jy,v=>v= .nilFunc
 | .lh,v=>v= .map none
 | .map id,v=>∃p,m id=some p/\v= .map (some p.b)
 | .ko ks vs,v=>∃b es clock,v= .map (some b)/\S b/\aH ks=true/\aH vs=true/\w.heap[b]? =some (.map es clock)/\
   aA ks (es.toList.map (·.key))/\aA vs (es.toList.map (·.val))
 | .it id,v=>∃p,m id=some p/\v= .pointer (some ⟨p.b,0,none⟩)
 | .agg cs,v=>∃xs:Array yj,v= .agg xs/\aA cs xs.toList
 | .az cs,v=>∃xs:Array yj,v= .tuple xs/\aA cs xs.toList
 | .undef,_=>True
def aA:List AV->List yj->Prop
 | [],us=>us=[]
 | c::cs,us=>∃u r,us=u::r/\ai c u/\aA cs r
def bR:List AV->Nat->Nat->Prop
 | [],_,_=>True
 | c::cs,b,o=>(∃u,w.cell? ⟨b,o,none⟩=some u/\ai c u)/\bR cs b (o+1)
end
end
def fZ (S:Nat->Prop) (w w':ym):Prop:=∀b,S b->w'.heap[b]? =w.heap[b]?
def Nk {w w':ym} {b o:Nat} (h:w'.heap[b]? =w.heap[b]?):w'.cell? ⟨b,o,none⟩=w.cell? ⟨b,o,none⟩:=by
 simp only [World.cell?,h]
section
variable {ae:Nat->Nat} {m m':Mp} {S S':Nat->Prop} {w w':ym}
mutual
def mv (hm:∀id p,m id=some p->m' id=some p) (hS:∀b,S b->S' b) (hw:fZ S w w'):
  ∀(v:AV) (u:yj),ai ae m S w v u->ai ae m' S' w' v u
 | .int _ _,_,h | .bool _,_,h | .dD _ _,_,h | .str _,_,h | .mH,_,h | .ab,_,h | .jy,_,h | .lh,_,h | .undef,_,h=>by
  simpa only [ai] using h
 | .ptr id o,u,h=>by
  simp only [ai] at h ⊢;obtain ⟨p,h1,h2⟩:=h;exact ⟨p,hm _ _ h1,h2⟩
 | .aO cs,u,h=>by
  simp only [ai] at h ⊢;obtain ⟨b,o,h1,h2,h3,h4⟩:=h;refine ⟨b,o,h1,h2.imp id (hS b),h3,?_⟩;rcases h2 with rfl | h2
  ·simp only [bR]
  ·exact Sb hm hS hw cs b o h2 h4
 | .aE ex n cs,u,h=>by
  simp only [ai] at h ⊢;rcases h with ⟨b,o,c,h1,h2,h3,h4,h5,h6⟩ | h
  ·refine .inl ⟨b,o,c,h1,h2,h3,h4.imp id (hS b),h5,?_⟩;rcases h4 with rfl | h4
   ·simp only [bR]
   ·exact Sb hm hS hw cs b o h4 h6
  ·exact .inr h
 | .bV _ _ _ _,u,h=>by simp only [ai] at h
 | .ak id o n,u,h=>by
  simp only [ai] at h ⊢;obtain ⟨p,c,h1,h2⟩:=h;exact ⟨p,c,hm _ _ h1,h2⟩
 | .fn (.f g) first cap,u,h=>by
  simp only [ai] at h ⊢;obtain ⟨fi,ca,h1,h2,h3⟩:=h;exact ⟨fi,ca,h1,iv hm hS hw first _ h2,iv hm hS hw cap _ h3⟩
 | .fn (.y l) _ _,u,h=>by
  simp only [ai] at h ⊢;obtain ⟨p,h1,h2⟩:=h;exact ⟨p,hm _ _ h1,h2⟩
 | .map id,u,h=>by
  simp only [ai] at h ⊢;obtain ⟨p,h1,h2⟩:=h;exact ⟨p,hm _ _ h1,h2⟩
 | .ko ks vs,u,h=>by
  simp only [ai] at h ⊢;obtain ⟨b,es,clock,h1,h2,h3,h4,h5,h6,h7⟩:=h;exact ⟨b,es,clock,h1,hS b h2,h3,h4,(hw b h2).trans h5,iv hm hS hw ks _ h6,iv hm hS hw vs _ h7⟩
 | .it id,u,h=>by
  simp only [ai] at h ⊢;obtain ⟨p,h1,h2⟩:=h;exact ⟨p,hm _ _ h1,h2⟩
 | .agg cs,u,h=>by
  simp only [ai] at h ⊢;obtain ⟨xs,h1,h2⟩:=h;exact ⟨xs,h1,iv hm hS hw cs _ h2⟩
 | .az cs,u,h=>by
  simp only [ai] at h ⊢;obtain ⟨xs,h1,h2⟩:=h;exact ⟨xs,h1,iv hm hS hw cs _ h2⟩
def iv (hm:∀id p,m id=some p->m' id=some p) (hS:∀b,S b->S' b) (hw:fZ S w w'):
  ∀(vs:List AV) (us:List yj),aA ae m S w vs us->aA ae m' S' w' vs us
 | [],us,h=>by simpa only [aA] using h
 | v::r,us,h=>by
  simp only [aA] at h ⊢;obtain ⟨u,t,h1,h2,h3⟩:=h;exact ⟨u,t,h1,mv hm hS hw v u h2,iv hm hS hw r t h3⟩
def Sb (hm:∀id p,m id=some p->m' id=some p) (hS:∀b,S b->S' b) (hw:fZ S w w'):
  ∀(cs:List AV) (b o:Nat),S b->bR ae m S w cs b o->bR ae m' S' w' cs b o
 | [],_,_,_,_=>by simp only [bR]
 | c::cs,b,o,hb,h=>by
  simp only [bR] at h ⊢;obtain ⟨⟨u,h1,h2⟩,h3⟩:=h;exact ⟨⟨u,(Nk (hw b hb)).trans h1,mv hm hS hw c u h2⟩,Sb hm hS hw cs b (o+1) hb h3⟩
end
end
end
section
open Go
structure Hint where
 n:Nat
 b8:FuncId->Option Nat
 live:Nat->List Nat
 out:Nat->Option (List Nat)
 mode:Nat->Md
 fz:Nat->List Nat
section
variable (P:xa) (H:Hint)
mutual
def eV:yj->AV
 | .int k n=> .int k n
 | .bool b=> .bool b
 | .float k b=> .dD k b
 | .string s=> .str (s.data.toList.map xf)
 | .pointer none=> .mH
 | .slice none 0 0=> .ab
 | .map none=> .lh
 | .nilFunc=> .jy
 | .agg ⟨cs⟩=> .agg (FN cs)
 | .tuple ⟨cs⟩=> .az (FN cs)
 | _=> .undef
def FN:List yj->List AV
 | []=>[]
 | v::r=>eV v::FN r
end
def aP:xC->X
 | .tmp t=> .t t
 | .const v=> .c (eV v)
 | .global _=> .c .undef
 | .func f=>match H.b8 f with | some g=> .c (.fn (.f g) [] []) | none=> .c .undef
def iB:List xC->List X
 | []=>[]
 | x::r=>aP H x::iB r
def cN (t:yH):Option Nat:=match P.info? t with | some i=>some i.size | none=>none
def zx (t:yH):Option Nat:=match P.info? t with | some i=>some i.bytes | none=>none
def mC (t:yH):Option AV:=match P.info? t with | some i=>(match i.zero with | some v=>some (eV v) | none=>none) | none=>none
def dX (t:yH):Option Bool:=match P.underlying t with | some (.struct _) | some (.array _ _)=>some true | some _=>some false | none=>none
def bad:Op:= .call .pure (.c .undef) []
def partsOf (place:Nat->Option (Nat×Nat)):List (Nat×xC)->Option (List (Nat×Nat×X))
 | []=>some []
 | (i,x)::r=>
  match place i,partsOf place r with
  | some (o,s),some l=>some ((o,s,aP H x)::l)
  | _,_=>none
def Fm (self:yH->Option (List Nat)):List uX->Nat->Option (List Nat)
 | [],_=>some []
 | f::r,o=>
  match self f.type,cN P f.type with
  | some ks,some s=>
   bif f.name != "_"&&yz f.offset o&&yz ks.length s&& !P.stoodInHeld f.type then
    (match Fm self r (o+s) with | some l=>some (ks++l) | none=>none)
   else none
  | _,_=>none
def kinds:Nat->yH->Option (List Nat)
 | 0,_=>none
 | n+1,t=>
  match P.underlying t with
  | some .bool=>some [0]
  | some (.int _)=>some [1]
  | some .string=>some [2]
  | some (.struct fs)=>Fm P (fun u=>kinds n u) fs.toList 0
  | some (.array k e)=>
   match kinds n e,cN P e with
   | some ks,some s=>bif yz ks.length s&& !P.stoodInHeld e then some (yf k ks).flatten else none
   | _,_=>none
  | _=>none
def keyOf (t:yH):Option Nat:=
 match P.underlying t with
 | some .bool=>some 0
 | some (.int _)=>some 1
 | some .string=>some 2
 | _=>none
def qj (ne:Bool) (t:yH) (a b:xC):Op:=
 match kinds P 20 t with
 | some ks=>bif P.stoodInHeld t||P.eqGuardType P.depth t then bad else .eq ne (.ag ks) (aP H a) (aP H b)
 | none=>bad
def oY (ne:Bool) (op:vt) (t:yH) (a b:xC):Op:=
 match P.underlying t with
 | some (.int _) | some .string | some (.float _)=> .bin op (aP H a) (aP H b)
 | some .bool=> .eq ne .b (aP H a) (aP H b)
 | some (.slice _)=> .eq ne .sl (aP H a) (aP H b)
 | some (.func _ _ _)=> .eq ne .fn (aP H a) (aP H b)
 | some (.struct _) | some (.array _ _)=>qj P H ne t a b
 | _=>bad
def aX (k:Nat) (o:yZ):Op:=
 let x (y:xC):X:=aP H y
 match o.op with
 | .move a | .assign a=> .rW (x a)
 | .pick c a b=> .pick (x c) (x a) (x b)
 | .alloc t=>match cN P t,mC P t with | some s,some z=> .box s (.c z) | _,_=>bad
 | .box t v=>match cN P t with | some s=> .box s (x v) | none=>bad
 | .build t parts=>
  match P.underlying t,mC P t with
  | some (.struct fs),some (.agg z)=>
   match fs.toList.mapM (fun f=>(P.info? f.type).map fun i=>(f.offset,i.size)) with
   | some pl=>(match partsOf H (fun i=>pl[i]?) parts.toList with | some ps=> .B4 z ps | none=>bad)
   | none=>bad
  | some (.array _ e),some (.agg z)=>
   match cN P e with
   | some s=>(match partsOf H (fun i=>some (i*s,s)) parts.toList with | some ps=> .B4 z ps | none=>bad)
   | none=>bad
  | _,_=>bad
 | .buildSlice t n parts=>
  match P.underlying t with
  | some (.slice e)=>
   match cN P e,mC P e with
   | some s,some z=>
    bif yK (n*s) 16777216 then
     (match partsOf H (fun i=>some (i*s,s)) parts.toList with | some ps=> .nl n s (yf n (cellsOf z)).flatten ps | none=>bad)
    else bad
   | _,_=>bad
  | _=>bad
 | .load t a=>match cN P t,dX P t with | some s,some ag=> .ld s ag (x a) | _,_=>bad
 | .store t a v=>match cN P t with | some s=> .st s (x a) (x v) | none=>bad
 | .nilCheck a=> .KY (x a)
 | .binOp op t a b _=>
  match op with
  | .eql=>oY P H false op t a b
  | .neq=>oY P H true op t a b
  | _=> .bin op (x a) (x b)
 | .unOp op _ a=> .un op (x a)
 | .convert s d a=>
  match P.underlying s,P.underlying d with
  | some (.int _),some (.int k) | some (.float _),some (.int k)=> .cv (.toInt k) (x a)
  | some (.int _),some (.float k) | some (.float _),some (.float k)=> .cv (.toFlt k) (x a)
  | some .string,some .string=> .cv .str (x a)
  | _,_=>bad
 | .makeFunc (.func f) first cap=>match H.b8 f with | some g=> .G9 (.f g) (iB H first.toList) (iB H cap.toList) | none=>bad
 | .makeMap t none=>match P.underlying t with | some (.map ke _)=>(match keyOf P ke with | some _=> .A2 | none=>bad) | _=>bad
 | .makeSlice t l c=>
  match P.underlying t with
  | some (.slice e)=>(match cN P e,zx P e,mC P e with | some s,some b,some z=> .pE s b (cellsOf z) (x l) (x c) | _,_,_=>bad)
  | _=>bad
 | .slice t a lo hi none=>
  match P.underlying t with
  | some .string=> .qZ .str (x a) (lo.map x) (hi.map x)
  | some (.slice e)=>(match cN P e with | some s=> .qZ (.sl s) (x a) (lo.map x) (hi.map x) | none=>bad)
  | some (.array n e)=>(match cN P e with | some s=> .qZ (.ar n s) (x a) (lo.map x) (hi.map x) | none=>bad)
  | _=>bad
 | .fieldAddr t a i=>
  match P.underlying t with
  | some (.struct fs)=>
   match fs[i]? with
   | some f=>(match cN P f.type with | some (_+1)=> .off f.offset (x a) | _=>bad)
   | none=>bad
  | _=>bad
 | .field t a i=>
  match P.underlying t with
  | some (.struct fs)=>
   match fs[i]? with
   | some f=>(match cN P f.type,dX P f.type with | some s,some ag=> .LU f.offset s ag (x a) | _,_=>bad)
   | none=>bad
  | _=>bad
 | .indexAddr t a i=>
  match P.underlying t with
  | some (.slice e)=>(match cN P e with | some s=> .bi s (x a) (x i) | none=>bad)
  | some (.array n e)=>(match cN P e with | some s=> .Ha n s (x a) (x i) | none=>bad)
  | _=>bad
 | .index t a i=>
  match P.underlying t with
  | some .string=> .Hb (x a) (x i)
  | some (.array n e)=>(match cN P e,dX P e with | some s,some ag=> .Hc n s ag (x a) (x i) | _,_=>bad)
  | _=>bad
 | .lookup t a i ok=>
  match P.underlying t with
  | some (.map ke e)=>(match keyOf P ke,mC P e with | some kk,some z=> .Qz kk z ok (x a) (x i) | _,_=>bad)
  | _=>bad
 | .mapUpdate t a i v | .insert t a i v=>
  match P.underlying t with
  | some (.map ke _)=>(match keyOf P ke with | some kk=> .q8 kk (x a) (x i) (x v) | none=>bad)
  | _=>bad
 | .range t a=>match P.underlying t with | some .string=> .q9 (x a) | _=>bad
 | .next it true=> .rb (x it)
 | .extract t i=> .ext i (x t)
 | .call c=>
  match c.callee with
  | .value f=>(match H.mode k with | .dyn=> .jv [] (x f) (iB H c.args.toList) | md=> .call md (x f) (iB H c.args.toList))
  | .builtin b=>
   match b,c.args.toList,c.argTypes.toList with
   | .append,[s,a],[t,u]=>
    match P.underlying t,P.underlying u with
    | some (.slice e),some (.slice _) | some (.slice e),some .string=>
     (match cN P e,zx P e,mC P e with | some sz,some bX,some z=>(bif yz (cellsOf z).length sz then .cX sz bX (x s) (x a) else bad) | _,_,_=>bad)
    | _,_=>bad
   | .len,[a],[t]=>
    match P.underlying t with
    | some (.array n _)=> .rW (.c (.int .i64 n))
    | some .string=> .len 0 (x a)
    | some (.slice _)=> .len 1 (x a)
    | some (.map _ _)=> .len 2 (x a)
    | _=>bad
   | .copy,[d,s],[t,_]=>
    match P.underlying t with
    | some (.slice e)=>(match cN P e with | some sz=> .oA sz (x d) (x s) | none=>bad)
    | _=>bad
   | .min,l,_=> .mn (iB H l)
   | .max,l,_=> .mx (iB H l)
   | _,_,_=>bad
  | _=>bad
 | _=>bad
def Ue (o:yZ):Bool:=match o.op with | .call {callee:= .value _,..}=>true | _=>false
def Kv (d:Option Nat):Bool:=match d with | some i=>yQ i H.n | none=>true
def Ax (n:Nat):List Nat->Bool
 | []=>true
 | i::r=>yQ i n&&Ax n r
def Ds (ops:Array yZ):List yZ->Nat->List bf×Nat
 | [],k=>([],k)
 | o::r,k=>
  let g:=match o.guard with
   | none=>some none
   | some (j,b)=>match (ops[j]?).bind (·.dst) with | some t=>some (some (t,b)) | none=>none
  match Ds ops r (k+(bif Ue o then 1 else 0)) with
  | (l,k')=>
   match g,Kv H o.dst with
   | some g,true=>(⟨o.dst,g,aX P H k o⟩::l,k')
   | _,_=>(⟨o.dst,none,bad⟩::l,k')
def BU (acc:List Nat):List Edge->Nat
 | []=>0
 | e::r=>bif Region.binds .any e then (2^e.on|||acc.getD e.on 0)|||BU acc r else BU acc r
def lU (acc:List Nat):List yZ->List Nat
 | []=>acc
 | o::r=>lU (acc++[BU acc o.after.toList]) r
def BB:List yZ->Nat->Bool
 | [],_=>true
 | o::r,i=>o.after.toList.all (fun e=> !Region.binds .any e||yQ e.on i)&&BB r (i+1)
def Ol (ops:Array yZ) (draw:Bool) (k:Nat):List bf×Nat:=
 match Ds P H ops ops.toList k with
 | (l,k')=>
  bif draw then
   (let ms:=lU [] ops.toList
    let l':=n9 [] l ms
    bif BB ops.toList 0&&Ac [] l' ms then (l',k') else bif BB ops.toList 0&&Ac [] (Gk [] l') ms then (Gk [] l',k') else ([⟨none,none,bad⟩],k'))
  else (l,k')
def aty:vn->Bool
 | .loop _=>true
 | _=>false
def comp:vn->Nat->Nat->VC×Nat×Nat
 | .skip,l,k | .label _,l,k=>(.skip,l,k)
 | .region i ops d,l,k=>match Ol P H ops d k with | (r,k')=>((match H.fz i with | []=> .mh r | t::ts=> .seq (.fz (t::ts)) (.mh r)),l,k')
 | .seq a b,l,k=>match comp a l k with | (a',l1,k1)=>match comp b l1 k1 with | (b',l2,k2)=>(.seq a' b',l2,k2)
 | .cond c a b,l,k=>
  match comp a (l+1) k with
  | (a',l1,k1)=>
   match comp b l1 k1 with
   | (b',l2,k2)=>(match H.out l with | some o=> .seq (.cond (aP H c) a' b') (.kp o) | none=> .cond (aP H c) a' b',l2,k2)
 | .block id a,l,k=>
  match comp a l k with
  | (a',r)=>(match aty a,H.out l with | true,some o=> .seq (.ef id a') (.kp o) | _,_=> .ef id a',r)
 | .loop a,l,k=>match comp a (l+1) k with | (a',r)=>(.loop (H.live l) a',r)
 | .rangeFunc f ps cT body,l,k=>
  match comp cT l k with | (as',l1,k1)=>match comp body l1 k1 with | (b',l2,k2)=>(bif Ax H.n ps.toList then .rf (aP H f) ps.toList as' b' else .mh [⟨none,none,bad⟩],l2,k2)
 | .exit id,l,k=>(.exit id,l,k)
 | .scope a,l,k=>comp a l k
 | .ret,l,k=>(.ret,l,k)
 | .goto _,l,k | .refuse _,l,k=>(.mh [⟨none,none,bad⟩],l,k)
def qt:List ResultVar->Option (List RV)
 | []=>some []
 | .tmp t::r=>match qt r with | some l=>some (.t t::l) | none=>none
 | .cell a t::r=>match cN P t,dX P t,qt r with | some s,some ag,some l=>some (.cell a s ag::l) | _,_,_=>none
def FO (fn:Func):Option av:=
 match fn.body,qt P fn.results.toList with
 | some c,some rs=>bif yK H.n fn.ntmps then some ⟨rs,(comp P H c 0 0).1⟩ else none
 | _,_=>none
end
end
section
open Go
structure bl where
 P:xa
 aS:Lib
 ae:Nat->Nat
 prog:aM
 hint:Nat->Hint
 w0:ym
def CH (P:xa) (H:Hint) (v:VC) (c:vn):Prop:=∃l k,(comp P H c l k).1=v
def Ch:Nat->LoopState
 | 0=> .ready
 | 1=> .busy
 | 2=> .done
 | _=> .exhausted
def Ap:AI->Option vn
 | .none=>none
 | .ret=>some .ret
 | .exit id=>some (.exit id)
section
variable (O:bl) (m:Mp) (S:Nat->Prop) (w:ym)
def cf (tm:Env) (tmps:Array yj):Prop:=∀i,ai O.ae m S w (af tm i) (tmps.getD i undef)
def fH (id:Nat):Obj->Prop
 | .cells rw pu ex sz cs=>∃p arr t,m id=some p/\w.heap[p.b]? =some (.cells arr t (0,0))/\p.z=sz/\cs.length<=p.e/\p.o+p.e<=arr.size/\
   (ex=true->cs.length=p.e)/\bR O.ae m S w cs p.b p.o/\(pu=true->aH cs=true)/\(rw=true->¬S p.b)/\(rw=false->S p.b)
 | .mp rw ks vs=>∃p es clock,m id=some p/\w.heap[p.b]? =some (.map es clock)/\aA O.ae m S w ks (es.toList.map (·.key))/\aA O.ae m S w vs (es.toList.map (·.val))/\
   (rw=true->¬S p.b)/\(rw=false->S p.b)
 | .si s pos=>∃p t,m id=some p/\w.heap[p.b]? =some (.stringIter t pos)/\t.data.toList.map xf=s/\¬S p.b
 | .lp tm ps cT body st pe=>∃p l h,m id=some p/\w.heap[p.b]? =some (.loop l)/\¬S p.b/\l.state=Ch st/\st<=2/\l.pending=Ap pe/\cf O m S w tm l.tmps/\
   l.params.toList=ps/\CH O.P (O.hint h) cT l.assign/\CH O.P (O.hint h) body l.body/\(O.hint h).n<=l.tmps.size/\Ax (O.hint h).n ps=true
structure aV (hp:Hp) (ct:Nat):Prop where
 obj:∀id o p,ao hp id=some o->m id=some p->fH O m S w id o
 lt:∀id p,m id=some p->id<ct
 inj:∀i j oi oj pi pj,ao hp i=some oi->ao hp j=some oj->m i=some pi->m j=some pj->pi.b=pj.b->i=j
 slt:∀b,S b->b<w.heap.size
 blt:∀id p,m id=some p->p.b<w.heap.size
 low:∀id p,m id=some p->O.w0.heap.size<=p.b
 lj:∀b,b<O.w0.heap.size->w.heap[b]? =O.w0.heap[b]?
 gH:O.w0.heap.size<=w.heap.size
 aU:∀id o,ao hp id=some o->id<ct
end
def eE (m:Mp) (hp:Hp) (b:Nat):Prop:=∃id o p,ao hp id=some o/\m id=some p/\p.b=b
structure cp (m:Mp) (S:Nat->Prop) (w:ym) (hp:Hp) (m':Mp) (S':Nat->Prop) (w':ym) (ah:Hp) (base:Nat):Prop where
 os:w'.os=w.os
 tape:w'.tape=w.tape
 output:w'.output=w.output
 size:w.heap.size<=w'.heap.size
 same:∀b,b<w.heap.size->¬eE m hp b->w'.heap[b]? =w.heap[b]?
 sub:∀b,S b->S' b
 still:∀b,S b->w'.heap[b]? =w.heap[b]?
 new:∀b,S' b->S b\/eE m hp b\/w.heap.size<=b
 own:∀b,eE m' ah b->eE m hp b\/w.heap.size<=b
 old:∀id p,id<base->m id=some p->m' id=some p
 loops:∀(b:Nat) (r:Loop),w.heap[b]? =some (.loop r)->∃r':Loop,w'.heap[b]? =some (.loop r')
def cp.refl {m:Mp} {S:Nat->Prop} {w:ym} {hp:Hp} {base:Nat}:cp m S w hp m S w hp base:=
 ⟨rfl,rfl,rfl,yq _,fun _ _ _=>rfl,fun _ h=>h,fun _ _=>rfl,fun _ h=> .inl h,fun _ h=> .inl h,fun _ _ _ h=>h,fun _ r h=>⟨r,h⟩⟩
def cp.trans {m m' LX:Mp} {S S' CI:Nat->Prop} {w w' QA:ym} {hp ah KZ:Hp} {base:Nat}
  (h:cp m S w hp m' S' w' ah base) (k:cp m' S' w' ah LX CI QA KZ base):cp m S w hp LX CI QA KZ base where
 os:=k.os.trans h.os
 tape:=k.tape.trans h.tape
 output:=k.output.trans h.output
 size:=xv h.size k.size
 same b hb ho:=(k.same b (Nat.lt_of_lt_of_le hb h.size) (fun kz=>(h.own b kz).elim ho (fun h1=>by omega))).trans (h.same b hb ho)
 sub b hb:=k.sub b (h.sub b hb)
 still b hb:=(k.still b (h.sub b hb)).trans (h.still b hb)
 new b hb:=by
  rcases k.new b hb with h1 | h1 | h1
  ·exact h.new b h1
  ·rcases h.own b h1 with h2 | h2
   ·exact .inr (.inl h2)
   ·exact .inr (.inr h2)
  ·exact .inr (.inr (xv h.size h1))
 own b hb:=by
  rcases k.own b hb with h1 | h1
  ·exact h.own b h1
  ·exact .inr (xv h.size h1)
 old id p hid hp:=k.old id p hid (h.old id p hid hp)
 loops b r hb:=let ⟨r',h1⟩:=h.loops b r hb;k.loops b r' h1
end
section
open Go
section
variable {ae:Nat->Nat} {m:Mp} {S:Nat->Prop} {w:ym}
mutual
def Om:∀v:yj,ai ae m S w (eV v) v
 | .int _ _ | .bool _ | .float _ _=>by simp only [eV,ai]
 | .string s=>by simp only [eV,ai];exact ⟨s,rfl,rfl⟩
 | .pointer none=>by simp only [eV,ai]
 | .pointer (some _)=>by simp only [eV,ai]
 | .slice none 0 0=>by simp only [eV,ai]
 | .slice none 0 (_+1)=>by simp only [eV,ai]
 | .slice none (_+1) _=>by simp only [eV,ai]
 | .slice (some _) _ _=>by simp only [eV,ai]
 | .map none=>by simp only [eV,ai]
 | .map (some _)=>by simp only [eV,ai]
 | .nilFunc=>by simp only [eV,ai]
 | .agg ⟨cs⟩=>by simp only [eV,ai];exact ⟨⟨cs⟩,rfl,SQ cs⟩
 | .tuple ⟨cs⟩=>by simp only [eV,ai];exact ⟨⟨cs⟩,rfl,SQ cs⟩
 | .complex _ _ _ | .chan _ | .func _ _ _ | .iface _ _ | .nilIface=>by simp only [eV,ai]
def SQ:∀l:List yj,aA ae m S w (FN l) l
 | []=>by simp only [FN,aA]
 | v::r=>by simp only [FN,aA];exact ⟨v,r,rfl,Om v,SQ r⟩
end
end
def fO (O:bl) (H:Hint):Prop:=∀f g,H.b8 f=some g->O.ae g=f
section
variable {O:bl} {H:Hint} {m:Mp} {S:Nat->Prop} {w:ym} {tm:Env} {a:Act}
def cE (hH:fO O H) (ht:cf O m S w tm a.tmps) (x:xC):ai O.ae m S w (aC tm (aP H x)) (a.eval x):=by
 cases x with
 | tmp t=>exact ht t
 | const v=>simp only [aP,aC,Act.eval];exact Om v
 | global g=>simp only [aP,aC,ai]
 | func f=>
  simp only [aP,Act.eval]
  cases hr:H.b8 f with
  | none=>simp only [aC,ai]
  | some g=>simp only [aC,ai,hH f g hr,aA];exact ⟨#[],#[],rfl,rfl,rfl⟩
def DD (hH:fO O H) (ht:cf O m S w tm a.tmps):∀l:List xC,aA O.ae m S w (dH tm (iB H l)) (l.map a.eval)
 | []=>by simp only [iB,dH,List.map_nil,aA]
 | x::r=>by simp only [iB,dH,xd,aA];exact ⟨_,_,rfl,cE hH ht x,DD hH ht r⟩
end
section
variable {O:bl} {m:Mp} {S:Nat->Prop} {w:ym}
def rE {ae:Nat->Nat}:∀(k:Nat) (cs:List AV) (b o:Nat),bR ae m S w cs b o->bR ae m S w (cs.drop k) b (o+k)
 | 0,cs,b,o,h=>by simpa using h
 | k+1,[],b,o,_=>by simp only [List.drop_nil,bR]
 | k+1,c::cs,b,o,h=>by
  simp only [bR] at h
  have:=rE k cs b (o+1) h.2
  rw [List.drop_succ_cons,show o+(k+1)=o+1+k by omega];exact this
def By {ae:Nat->Nat}:∀(k:Nat) (cs:List AV) (b o:Nat),bR ae m S w cs b o->bR ae m S w (cs.take k) b o
 | 0,cs,b,o,_=>by simp only [yat,bR]
 | k+1,[],b,o,_=>by simp only [List.take_nil,bR]
 | k+1,c::cs,b,o,h=>by
  simp only [bR,wI] at h ⊢;exact ⟨h.1,By k cs b (o+1) h.2⟩
def sC {ae:Nat->Nat}:∀(cs:List AV) (b o:Nat),bR ae m S w cs b o->
  ∃us:List yj,aA ae m S w cs us/\us.length=cs.length/\∀j u,us[j]? =some u->w.cell? ⟨b,o+j,none⟩=some u
 | [],b,o,_=>⟨[],by simp only [aA],rfl,fun j u h=>by simp at h⟩
 | c::cs,b,o,h=>by
  simp only [bR] at h;obtain ⟨⟨u,h1,h2⟩,h3⟩:=h;obtain ⟨us,h4,h5,h6⟩:=sC cs b (o+1) h3;refine ⟨u::us,by simp only [aA];exact ⟨u,us,rfl,h2,h4⟩,by simp [h5],fun j v hv=>?_⟩
  cases j with
  | zero=>simp at hv;subst hv;simpa using h1
  | succ j=>simp at hv;have:=h6 j v hv;rw [show o+(j+1)=o+1+j by omega];exact this
def iw {ae:Nat->Nat}:∀(cs:List AV) (us:List yj),aA ae m S w cs us->us.length=cs.length
 | [],us,h=>by simp only [aA] at h;subst h;rfl
 | c::cs,us,h=>by
  simp only [aA] at h;obtain ⟨u,r,rfl,_,h3⟩:=h;simp [iw cs r h3]
end
end
section
open Go
def oZ (b o j:Nat):(⟨b,o,none⟩:uK).add j=⟨b,o+j,none⟩:=by
 unfold Addr.add;split<;>simp_all
section
variable {P:xa} {w:ym}
def alK (t:yH) (b o:Nat) (us:List yj) (ha:dX P t=some true) (hz:cN P t=some us.length)
  (h:∀j u,us[j]? =some u->w.cell? ⟨b,o+j,none⟩=some u):(loadVar t ⟨b,o,none⟩).run P w= .ok (.agg us.toArray) w:=by
 have hl:=run_loadCells_list (P:=P) w ⟨b,o,none⟩ us (fun j u hu=>by rw [oZ];exact h j u hu)
 unfold cN at hz
 cases hi:P.info? t with
 | none=>simp [hi] at hz
 | some i=>
  simp only [hi,ye] at hz;unfold dX at ha
  cases hu:P.underlying t with
  | none=>simp [hu] at ha
  | some d=>cases d<;>simp_all [loadVar,isAgg,vR,typeInfo,underlying]
def alL (t:yH) (b o:Nat) (u:yj) (ha:dX P t=some false)
  (h:w.cell? ⟨b,o,none⟩=some u):(loadVar t ⟨b,o,none⟩).run P w= .ok u w:=by
 unfold dX at ha
 cases hu:P.underlying t with
 | none=>simp [hu] at ha
 | some d=>cases d<;>simp_all [loadVar,isAgg,underlying]
end
section
variable {O:bl} {m:Mp} {S:Nat->Prop} {w:ym}
def On {t:yH} {sz:Nat} {ag:Bool} {cs:List AV} {b o:Nat} {v:AV} (hz:cN O.P t=some sz) (ha:dX O.P t=some ag)
  (hr:bR O.ae m S w cs b o) (hv:iX sz ag cs=some v):∃u,(loadVar t ⟨b,o,none⟩).run O.P w= .ok u w/\ai O.ae m S w v u:=by
 cases ag with
 | true=>
  simp only [iX,yD] at hv
  cases hle:yK sz cs.length with
  | false=>simp only [hle,yW] at hv;cases hv
  | true=>
   simp only [hle,yD,ye] at hv;subst hv;obtain ⟨us,h1,h2,h3⟩:=sC _ _ _ (By sz cs b o hr);have hlen:us.length=sz:=by
    rw [h2,yI];have:=yB hle;omega
   refine ⟨.agg us.toArray,alK t b o us ha (by rw [hlen];exact hz) h3,?_⟩
   simp only [ai];exact ⟨us.toArray,rfl,by simpa using h1⟩
 | false=>
  simp only [iX,yW] at hv
  cases cs with
  | nil=>simp at hv
  | cons c cs=>
   simp only [ye] at hv;subst hv;simp only [bR] at hr;obtain ⟨⟨u,h1,h2⟩,_⟩:=hr;exact ⟨u,alL t b o u ha h1,h2⟩
def abZ {t:yH} {sz o:Nat} {ag:Bool} {cs:List AV} {xs:Array yj} {v:AV} (hz:cN O.P t=some sz) (ha:dX O.P t=some ag)
  (hr:aA O.ae m S w cs xs.toList) (hv:iX sz ag (cs.drop o)=some v):∃u,(part t xs o).run O.P w= .ok u w/\ai O.ae m S w v u:=by
 have hd:∀(k:Nat) (cs:List AV) (us:List yj),aA O.ae m S w cs us->aA O.ae m S w (cs.drop k) (us.drop k):=by
  intro k
  induction k with
  | zero=>intro cs us h;simpa using h
  | succ k ih=>
   intro cs us h
   cases cs with
   | nil=>simp only [aA] at h;subst h;simp [aA]
   | cons c cs=>simp only [aA] at h;obtain ⟨u,r,rfl,_,h3⟩:=h;simpa using ih cs r h3
 have eI:∀(k:Nat) (cs:List AV) (us:List yj),aA O.ae m S w cs us->aA O.ae m S w (cs.take k) (us.take k):=by
  intro k
  induction k with
  | zero=>intro cs us h;simp [aA]
  | succ k ih=>
   intro cs us h
   cases cs with
   | nil=>simp only [aA] at h;subst h;simp [aA]
   | cons c cs=>simp only [aA] at h;obtain ⟨u,r,rfl,h2,h3⟩:=h;simp only [wI,aA];exact ⟨u,_,rfl,h2,ih cs r h3⟩
 have ahn:(isAgg t).run O.P w= .ok ag w:=by
  unfold dX at ha
  cases hu:O.P.underlying t with
  | none=>simp [hu] at ha
  | some d=>cases d<;>simp_all [isAgg,underlying]
 have fg:(vR t).run O.P w= .ok sz w:=by
  unfold cN at hz
  cases hi:O.P.info? t with
  | none=>simp [hi] at hz
  | some i=>simp_all [vR,typeInfo]
 have bk:=hd o cs xs.toList hr
 cases ag with
 | true=>
  simp only [iX,yD] at hv
  cases hle:yK sz (cs.drop o).length with
  | false=>simp only [hle,yW] at hv;cases hv
  | true=>
   simp only [hle,yD,ye] at hv;subst hv;refine ⟨.agg (xs.extract o (o+sz)),by simp [part,Sem.run_bind,ahn,fg],?_⟩;simp only [ai];refine ⟨_,rfl,?_⟩
   have:=eI sz _ _ bk
   rw [show (xs.extract o (o+sz)).toList=(xs.toList.drop o).take sz by simp [Array.toList_extract,tW]];exact this
 | false=>
  simp only [iX,yW] at hv
  cases hc:cs.drop o with
  | nil=>simp [hc] at hv
  | cons c r=>
   simp only [hc,ye] at hv;subst hv;rw [hc] at bk;simp only [aA] at bk;obtain ⟨u,us,h1,h2,_⟩:=bk;have hx:xs[o]? =some u:=by
    have:xs.toList[o]? =some u:=by
     have:=congrArg (fun l=>l[0]?) h1
     simpa using this
    simpa using this
   exact ⟨u,by simp [part,Sem.run_bind,ahn,hx],h2⟩
end
end
section
open Go
def nc (t:ByteArray):List Nat:=t.data.toList.map xf
def ab0:∀a b:List UInt8,de (a.map xf) (b.map xf)=(a==b)
 | [],[]=>rfl
 | [],_::_=>rfl
 | _::_,[]=>rfl
 | a::x,b::y=>by
  have h:yz a.toNat b.toNat=(a==b):=by
   rw [uN,ych,yaG];exact yaZ
  simp only [xd,de,ab0 x y,h,List.cons_beq_cons]
def ab1:∀a b:List UInt8,CF (a.map xf) (b.map xf)=Op.bytesLess a b
 | [],[]=>rfl
 | [],_::_=>rfl
 | _::_,[]=>rfl
 | a::x,b::y=>by
  have h:yz a.toNat b.toNat=(a==b):=by
   rw [uN,ych,yaG];exact yaZ
  have h2:yQ a.toNat b.toNat=decide (a<b):=by
   rw [uN];simp only [yQ,yci,wz,UInt8.lt_iff_toNat_lt];omega
  simp only [xd,CF,Op.bytesLess,ab1 x y,h,h2]
def ZN (s t:ByteArray):de (nc s) (nc t)=(s.toList==t.toList):=by
 rw [nc,nc,ab0,ByteArray.toList_eq,ByteArray.toList_eq]
def am3 (s t:ByteArray):CF (nc s) (nc t)=Op.bytesLess s.toList t.toList:=by
 rw [nc,nc,ab1,ByteArray.toList_eq,ByteArray.toList_eq]
def ZO (s:ByteArray):(nc s).length=s.size:=by
 rw [nc,List.length_map,Lib.size_eq]
section
variable {ae:Nat->Nat} {P:xa} {m:Mp} {S:Nat->Prop} {w:ym} {t:yH}
def aoM {op:vt} {k:xc} {x y:Int} {v:AV} (h:mB op k x y=some v):
  ∃u,(xR op t (.int k x) (.int k y)).run P w= .ok u w/\ai ae m S w v u:=by
 cases op<;>simp only [mB,intCmp,ye] at h
 case add=>subst h;exact ⟨_,by simp [xR,Op.intArith];rfl,by simp [ai]⟩
 case sub=>subst h;exact ⟨_,by simp [xR,Op.intArith];rfl,by simp [ai]⟩
 case mul=>subst h;exact ⟨_,by simp [xR,Op.intArith];rfl,by simp [ai]⟩
 case quo=>
  by_cases hy:y=0
  ·simp [hy] at h
  ·simp only [hy,xn,ye] at h;subst h;exact ⟨_,by simp [xR,Op.intDiv,hy];rfl,by simp [ai]⟩
 case rem=>
  by_cases hy:y=0
  ·simp [hy] at h
  ·simp only [hy,xn,ye] at h;subst h;exact ⟨_,by simp [xR,Op.intDiv,hy];rfl,by simp [ai]⟩
 case and=>subst h;exact ⟨_,by simp [xR,Op.intBits];rfl,by simp [ai]⟩
 case or=>subst h;exact ⟨_,by simp [xR,Op.intBits];rfl,by simp [ai]⟩
 case xor=>subst h;exact ⟨_,by simp [xR,Op.intBits];rfl,by simp [ai]⟩
 case andNot=>subst h;exact ⟨_,by simp [xR,Op.intBits];rfl,by simp [ai]⟩
 case shl=>cases h
 case shr=>cases h
 all_goals
  subst h;exact ⟨_,by simp [xR,Op.intCmp];rfl,by simp [ai]⟩
def Y6 {op:vt} {k k':xc} {x y:Int} {v:AV} (h:Dr op k x y=some v):
  ∃u,(xR op t (.int k x) (.int k' y)).run P w= .ok u w/\ai ae m S w v u:=by
 unfold Dr at h;by_cases hy:y<0
 ·simp [hy] at h
 ·simp only [hy,xn] at h;cases op<;>simp only [ye] at h
  case shl=>subst h;exact ⟨_,by simp [xR,Op.shift,hy];rfl,by simp [ai]⟩
  case shr=>subst h;exact ⟨_,by simp [xR,Op.shift,hy];rfl,by simp [ai]⟩
  all_goals cases h
def aoN {op:vt} {x y:ByteArray} {v:AV} (h:Kq op (nc x) (nc y)=some v):
  ∃u,(xR op t (.string x) (.string y)).run P w= .ok u w/\ai ae m S w v u:=by
 cases op<;>simp only [Kq,ZN,am3,ZO,ye] at h
 case add=>
  cases hle:yK (x.size+y.size) 9223372036854775807 with
  | false=>rw [hle] at h;cases h
  | true=>
   rw [hle] at h;simp only [yD,ye] at h;subst h;have aEm:=yB hle;have ays:¬(((x.size+y.size:Nat):Int)>IntKind.i64.max):=by
    have:IntKind.i64.max=9223372036854775807:=by decide
    rw [this];omega
   refine ⟨.string (x++y),?_,?_⟩
   ·simp only [xR,Op.stringOp,yo ays,Sem.run_pure]
   ·simp only [ai];exact ⟨x++y,rfl,by simp [nc]⟩
 all_goals first
  | (cases h;done)
  | (subst h;exact ⟨_,by simp [xR,Op.stringOp];rfl,by simp [ai]⟩)
def aoO {op:vt} {k:ug} {x y:Nat} {v:AV} (h:UH op k x y=some v):
  ∃u,(xR op t (.float k x) (.float k y)).run P w= .ok u w/\ai ae m S w v u:=by
 cases op<;>simp only [UH,ye] at h
 case add=>
  cases hr:k.format.add x y with
  | none=>simp [hr] at h
  | some r=>simp only [hr,ye] at h;subst h;exact ⟨.float k r,by simp [xR,Op.floatArith,hr],by simp [ai]⟩
 case sub=>
  cases hr:k.format.sub x y with
  | none=>simp [hr] at h
  | some r=>simp only [hr,ye] at h;subst h;exact ⟨.float k r,by simp [xR,Op.floatArith,hr],by simp [ai]⟩
 case mul=>
  cases hr:k.format.mul x y with
  | none=>simp [hr] at h
  | some r=>simp only [hr,ye] at h;subst h;exact ⟨.float k r,by simp [xR,Op.floatArith,hr],by simp [ai]⟩
 case quo=>
  cases hr:k.format.div x y with
  | none=>simp [hr] at h
  | some r=>simp only [hr,ye] at h;subst h;exact ⟨.float k r,by simp [xR,Op.floatArith,hr],by simp [ai]⟩
 all_goals first
  | (cases h;done)
  | (subst h;exact ⟨_,by simp [xR,Op.floatCmp];rfl,by simp [ai]⟩)
def aoP {op:vt} {vx vy v:AV} {x y:yj} (hx:ai ae m S w vx x) (hy:ai ae m S w vy y) (h:VE.binOp op vx vy=some v):
  ∃u,(xR op t x y).run P w= .ok u w/\ai ae m S w v u:=by
 unfold VE.binOp at h
 split at h
 ·rename_i k a k' b;simp only [ai] at hx hy;subst hx;subst hy
  split at h
  ·exact Y6 h
  ·exact Y6 h
  ·by_cases hk:k=k'
   ·subst hk;simp only [xE] at h;exact aoM h
   ·simp [hk] at h
 ·rename_i k a k' b;simp only [ai] at hx hy;subst hx;subst hy;by_cases hk:k=k'
  ·subst hk;simp only [xE] at h;exact aoO h
  ·simp [hk] at h
 ·rename_i a b;simp only [ai] at hx hy;obtain ⟨s,rfl,rfl⟩:=hx;obtain ⟨s',rfl,rfl⟩:=hy;exact aoN h
 ·cases h
end
end
section
open Go
section
variable {ae:Nat->Nat} {P:xa} {m:Mp} {S:Nat->Prop} {w:ym} {t:yH}
def amd {op:vt} {x y:xC} {a b:yj} (h:P.eqGuardType P.depth t=false\/∀xs ys,¬(a= .agg xs/\b= .agg ys)) (hn:a≠.nilIface):
  (eqGuard op t x y a b).run P w= .ok () w:=by
 unfold eqGuard;cases op
 all_goals first
  | rfl
  | (
    cases a
    all_goals first
     | rfl
     | exact absurd rfl hn
     | (
      cases b
      all_goals first
       | rfl
       | (
         rcases h with h | h
         ·simp [h]
         ·exact absurd ⟨rfl,rfl⟩ (h _ _))))
def atz {d:Nat} {p q:Bool} (ht:P.underlying t=some .bool):(Op.equalIn (d+1) t (.bool p) (.bool q)).run P w= .ok (p==q) w:=by
 simp [Op.equalIn,underlying,ht]
def UJ {d:Nat} {e:yH} (ht:P.underlying t=some (.slice e)) (y:Option uK) (n c n' c':Nat):
  (Op.equalIn (d+1) t (.slice none n c) (.slice y n' c')).run P w= .ok y.isNone w:=by simp [Op.equalIn,underlying,ht]
def aeZ {d:Nat} {e:yH} (ht:P.underlying t=some (.slice e)) (x:uK) (n c n' c':Nat):
  (Op.equalIn (d+1) t (.slice (some x) n c) (.slice none n' c')).run P w= .ok false w:=by simp [Op.equalIn,underlying,ht]
def awx {d:Nat} {ps rs:Array yH} {vr:Bool} (ht:P.underlying t=some (.func ps rs vr)):
  (Op.equalIn (d+1) t .nilFunc .nilFunc).run P w= .ok true w:=by simp [Op.equalIn,underlying,ht]
def ae0 {d:Nat} {ps rs:Array yH} {vr:Bool} (ht:P.underlying t=some (.func ps rs vr)) (f:Go.Fn) (a b:Array yj):
  (Op.equalIn (d+1) t .nilFunc (.func f a b)).run P w= .ok false w:=by simp [Op.equalIn,underlying,ht]
def ae1 {d:Nat} {ps rs:Array yH} {vr:Bool} (ht:P.underlying t=some (.func ps rs vr)) (f:Go.Fn) (a b:Array yj):
  (Op.equalIn (d+1) t (.func f a b) .nilFunc).run P w= .ok false w:=by simp [Op.equalIn,underlying,ht]
def NY (x y:yj):Op.equal t x y=Op.equalIn (9999+1) t x y:=rfl
def aq4 {vx vy:AV} {x y:yj} {r:Bool} {e:yH} (ht:P.underlying t=some (.slice e)) (hx:ai ae m S w vx x) (hy:ai ae m S w vy y)
  (h:kv .sl vx vy=some r):(Op.equal t x y).run P w= .ok r w:=by
 rw [NY];unfold kv at h
 split at h<;>simp_all only [ye,reduceCtorEq]
 all_goals subst h
 all_goals simp only [ai] at hx hy
 ·subst hx;subst hy;exact UJ ht _ _ _ _ _
 ·rcases hy with ⟨b,o,c,rfl,_⟩ | ⟨_,rfl,_⟩<;>(subst hx;exact UJ ht _ _ _ _ _)
 ·obtain ⟨p,c,_,rfl,_⟩:=hy;subst hx;exact UJ ht _ _ _ _ _
 ·rcases hx with ⟨b,o,c,rfl,_⟩ | ⟨_,rfl,_⟩<;>(subst hy;exact aeZ ht _ _ _ _ _)
 ·obtain ⟨p,c,_,rfl,_⟩:=hx;subst hy;exact aeZ ht _ _ _ _ _
def aq5 {vx vy:AV} {x y:yj} {r:Bool} {ps rs:Array yH} {vr:Bool} (ht:P.underlying t=some (.func ps rs vr)) (hx:ai ae m S w vx x) (hy:ai ae m S w vy y)
  (h:kv .fn vx vy=some r):(Op.equal t x y).run P w= .ok r w:=by
 rw [NY];unfold kv at h
 split at h<;>simp_all only [ye,reduceCtorEq]
 all_goals subst h
 ·simp only [ai] at hx hy;subst hx;subst hy;exact awx ht
 ·rename_i f _ _
  cases f with
  | f g=>simp only [ai] at hx hy;obtain ⟨fi,ca,rfl,_⟩:=hy;subst hx;exact ae0 ht _ _ _
  | y l=>simp only [ai] at hx hy;obtain ⟨p,_,rfl⟩:=hy;subst hx;exact ae0 ht _ _ _
 ·rename_i f _ _
  cases f with
  | f g=>simp only [ai] at hx hy;obtain ⟨fi,ca,rfl,_⟩:=hx;subst hy;exact ae1 ht _ _ _
  | y l=>simp only [ai] at hx hy;obtain ⟨p,_,rfl⟩:=hx;subst hy;exact ae1 ht _ _ _
def aq6 {op:ybW} {vx v:AV} {x:yj} (hx:ai ae m S w vx x) (h:VE.unOp op vx=some v):∃u,(Op.unary op x).run P w= .ok u w/\ai ae m S w v u:=by
 unfold VE.unOp at h
 split at h
 ·rename_i k n;simp only [ai] at hx;subst hx;simp only [ye] at h;subst h;exact ⟨_,by simp [Op.unary,Op.intArith];rfl,by simp [ai]⟩
 ·rename_i k n;simp only [ai] at hx;subst hx;simp only [mB,ye] at h;subst h;exact ⟨_,by simp [Op.unary,Op.intBits];rfl,by simp [ai]⟩
 ·rename_i b;simp only [ai] at hx;subst hx;simp only [ye] at h;subst h;exact ⟨_,by simp [Op.unary];rfl,by simp [ai]⟩
 ·rename_i k b;simp only [ai] at hx;subst hx;simp only [ye] at h;subst h;exact ⟨_,by simp [Op.unary,Op.negFloat];rfl,by simp [ai]⟩
 ·cases h
def aaM {s d:yH} {k:xc} {vx v:AV} {x:yj} (hd:P.underlying d=some (.int k)) (hs:(∃k',P.underlying s=some (.int k'))\/∃k',P.underlying s=some (.float k'))
  (hx:ai ae m S w vx x) (h:qO (.toInt k) vx=some v):∃u,(convert s d x).run P w= .ok u w/\ai ae m S w v u:=by
 cases vx<;>simp only [qO,reduceCtorEq] at h
 case int k0 n=>
  simp only [ai] at hx;subst hx;simp only [ye] at h;subst h;refine ⟨.int k (k.wrap n),?_,by simp [ai]⟩;rcases hs with ⟨k',h'⟩ | ⟨k',h'⟩<;>simp [convert,underlying,Conv.intToInt,hd,h']
 case dD sk b=>
  simp only [ai] at hx;subst hx
  cases hi:(sk.decode b).toInt .zero with
  | none=>simp [hi] at h
  | some n=>
   simp only [hi] at h;by_cases hr:k.min<=n/\n<=k.max
   ·simp only [hr,and_self,xE,ye] at h;subst h;refine ⟨.int k n,?_,by simp [ai]⟩;rcases hs with ⟨k',h'⟩ | ⟨k',h'⟩<;>simp [convert,underlying,Conv.floatToInt,hd,h',hi,hr]
   ·simp [hr] at h
def aaN {s d:yH} {k:ug} {vx v:AV} {x:yj} (hd:P.underlying d=some (.float k)) (hs:(∃k',P.underlying s=some (.int k'))\/∃k',P.underlying s=some (.float k'))
  (hx:ai ae m S w vx x) (h:qO (.toFlt k) vx=some v):∃u,(convert s d x).run P w= .ok u w/\ai ae m S w v u:=by
 cases vx<;>simp only [qO,reduceCtorEq] at h
 case int k0 n=>
  simp only [ai] at hx;subst hx;simp only [ye] at h;subst h;refine ⟨.float k (k.nearest n),?_,by simp [ai]⟩;rcases hs with ⟨k',h'⟩ | ⟨k',h'⟩<;>simp [convert,underlying,Conv.intToFloat,hd,h']
 case dD sk b=>
  simp only [ai] at hx;subst hx;by_cases he:sk=k
  ·subst he;simp only [xE,ye] at h;subst h;refine ⟨.float sk b,?_,by simp [ai]⟩;rcases hs with ⟨k',h'⟩ | ⟨k',h'⟩<;>simp [convert,underlying,Conv.floatToFloat,hd,h']
  ·simp only [he,xn] at h
   cases PF:sk.decode b with
   | nan _ _=>simp [PF] at h
   | infinity _=>simp [PF] at h
   | number sg mm ee=>
    simp only [PF] at h
    cases Vk:(k.decode (k.encode (.number sg mm ee))).isInfinity with
    | true=>simp [Vk] at h
    | false=>
     simp only [Vk,yN,xn,ye] at h;subst h;refine ⟨.float k (k.encode (.number sg mm ee)),?_,by simp [ai]⟩;rcases hs with ⟨k',h'⟩ | ⟨k',h'⟩<;>simp [convert,underlying,Conv.floatToFloat,hd,h',he,PF,Vk]
def aoQ {s d:yH} {vx v:AV} {x:yj} (hd:P.underlying d=some .string) (hs:P.underlying s=some .string)
  (hx:ai ae m S w vx x) (h:qO .str vx=some v):∃u,(convert s d x).run P w= .ok u w/\ai ae m S w v u:=by
 cases vx<;>simp only [qO,reduceCtorEq] at h
 simp only [ye] at h;subst h;simp only [ai] at hx;obtain ⟨b,rfl,hb⟩:=hx;exact ⟨.string b,by simp [convert,underlying,hs,hd],by simp only [ai];exact ⟨b,rfl,hb⟩⟩
end
end
section
open Go
def am4 {v:AV} {k:Nat} (h:dI v=some k):∃kd,v= .int kd (k:Int):=by
 cases v<;>simp only [dI,reduceCtorEq] at h
 rename_i kd n
 cases n with
 | ofNat j=>simp only [ye] at h;subst h;exact ⟨kd,rfl⟩
 | negSucc j=>cases h
section
variable {O:bl} {H:Hint} {m:Mp} {S:Nat->Prop} {w:ym} {tm:Env} {a:Act}
def Ad {ae:Nat->Nat} {v:AV} {x:yj} {k:Nat} (hx:ai ae m S w v x) (h:dI v=some k):∃kd,x= .int kd (k:Int):=by
 obtain ⟨kd,rfl⟩:=am4 h;simp only [ai] at hx
 grind
def run_sliceBound {P:xa} {kd:xc} {k y:Nat} {code:BoundsCode} (h:k<=y):(Instr.sliceBound (.int kd (k:Int)) y code).run P w= .ok k w:=by
 have:(0:Int)<=(k:Int)/\(k:Int)<=(y:Int):=by omega
 simp [Instr.sliceBound,asIntOf,this]
def ZP {P:xa} {isSlice:Bool} {len cap l h:Nat} {lo hi:Option xC} (hH:fO O H) (ht:cf O m S w tm a.tmps)
  (hl:dl tm 0 (lo.map (aP H))=some l) (hh:dl tm len (hi.map (aP H))=some h) (h1:l<=h) (h2:h<=cap):
  (Instr.sliceBounds isSlice len cap (lo.map a.eval) (hi.map a.eval) none).run P w= .ok (l,h,cap) w:=by
 cases lo with
 | none=>
  simp only [ud,dl,ye] at hl;subst hl
  cases hi with
  | none=>
   simp only [ud,dl,ye] at hh;subst hh;simp [Instr.sliceBounds]
  | some y=>
   obtain ⟨kd,e⟩:=Ad (cE hH ht y) hh;simp only [Instr.sliceBounds,ud,wV,e,Sem.run_bind,Sem.run_pure,Result.andThen_ok,run_sliceBound h2]
 | some x=>
  obtain ⟨kd,e⟩:=Ad (cE hH ht x) hl
  cases hi with
  | none=>
   simp only [ud,dl,ye] at hh;subst hh;simp only [Instr.sliceBounds,ud,wV,e,Sem.run_bind,Sem.run_pure,Result.andThen_ok,run_sliceBound h1]
  | some y=>
   obtain ⟨WW,e'⟩:=Ad (cE hH ht y) hh;simp only [Instr.sliceBounds,wV,e,e',Sem.run_bind,Sem.run_pure,Result.andThen_ok,run_sliceBound h2,run_sliceBound h1]
def am5 {t:yH} {lo hi:Option xC} {vx v:AV} {x:yj} (hH:fO O H) (ht:cf O m S w tm a.tmps) (hu:O.P.underlying t=some .string)
  (hx:ai O.ae m S w vx x) {hp:Hp} (h:fG hp .str vx tm (lo.map (aP H)) (hi.map (aP H))=some v):
  ∃u,(Instr.sliceAt t x (lo.map a.eval) (hi.map a.eval) none).run O.P w= .ok u w/\ai O.ae m S w v u:=by
 cases vx<;>simp only [fG,reduceCtorEq] at h
 obtain ⟨b,rfl,rfl⟩:=hx
 cases hl:dl tm 0 (lo.map (aP H)) with
 | none=>simp [hl] at h
 | some l=>
  simp only [hl] at h
  cases hh:dl tm (b.data.toList.map xf).length (hi.map (aP H)) with
  | none=>rw [hh] at h;cases h
  | some g=>
   rw [hh] at h;simp only at h
   cases hc:(yK l g&&yK g (b.data.toList.map xf).length) with
   | false=>rw [hc] at h;cases h
   | true=>
    rw [hc] at h;simp only [yD,ye] at h;subst h;simp only [yi] at hc;have h1:=yB hc.1;have h2:=yB hc.2;have hlen:(b.data.toList.map xf).length=b.size:=ZO b;rw [hlen] at hh h2;refine ⟨.string (b.extract l g),?_,?_⟩
    ·simp only [Instr.sliceAt,Sem.run_bind,run_underlying hu,Result.andThen_ok,Instr.slice,Option.isSome_none,yN,xn,Sem.run_pure,
      ZP (P:=O.P) (isSlice:=false) (len:=b.size) (cap:=b.size) hH ht hl hh h1 h2]
    ·simp only [ai];refine ⟨_,rfl,?_⟩;rw [Lib.extract_data,List.map_take,List.map_drop,List.drop_take]
def aoR {t e:yH} {sz:Nat} {lo hi:Option xC} {vx v:AV} {x:yj} (hH:fO O H) (ht:cf O m S w tm a.tmps) (hu:O.P.underlying t=some (.slice e)) (hz:cN O.P e=some sz)
  {hp:Hp} {ct:Nat} (hh:aV O m S w hp ct)
  (hx:ai O.ae m S w vx x) (h:fG hp (.sl sz) vx tm (lo.map (aP H)) (hi.map (aP H))=some v):
  ∃u,(Instr.sliceAt t x (lo.map a.eval) (hi.map a.eval) none).run O.P w= .ok u w/\ai O.ae m S w v u:=by
 have fg:(vR e).run O.P w= .ok sz w:=by
  unfold cN at hz
  cases hi:O.P.info? e with
  | none=>simp [hi] at hz
  | some i=>simp_all [vR,typeInfo]
 have JN:∀(ad:Option uK) (n c l g:Nat),dl tm 0 (lo.map (aP H))=some l->dl tm n (hi.map (aP H))=some g->l<=g->g<=c->
   (Instr.sliceAt t (.slice ad n c) (lo.map a.eval) (hi.map a.eval) none).run O.P w= .ok (.slice (if c=l then ad else ad.map (·.add (l*sz))) (g-l) (c-l)) w:=by
  intro ad n c l g hl hg h1 h2
  simp only [Instr.sliceAt,Sem.run_bind,run_underlying hu,Result.andThen_ok,Instr.slice,Sem.run_pure,fg,
   ZP (P:=O.P) (isSlice:=true) (len:=n) (cap:=c) hH ht hl hg h1 h2]
 cases vx<;>simp only [fG,reduceCtorEq] at h
 case ab=>
  simp only [ai] at hx;subst hx
  cases hl:dl tm 0 (lo.map (aP H)) with
  | none=>simp [hl] at h
  | some l=>
   cases l with
   | succ l=>simp [hl] at h
   | zero=>
    simp only [hl] at h
    cases hh:dl tm 0 (hi.map (aP H)) with
    | none=>simp [hh] at h
    | some g=>
     cases g with
     | succ g=>simp [hh] at h
     | zero=>
      simp only [hh,ye] at h;subst h;exact ⟨_,JN none 0 0 0 0 hl hh (yq _) (yq _),by simp [ai]⟩
 case aE ex n cs=>
  simp only [ai] at hx;rcases hx with ⟨b,o,c,rfl,LY,hex,hS,iF,gN⟩ | ⟨ad,rfl,rfl,rfl⟩
  case inr=>
   cases hl:dl tm 0 (lo.map (aP H)) with
   | none=>simp [hl] at h
   | some l=>
    simp only [hl] at h
    cases hh:dl tm 0 (hi.map (aP H)) with
    | none=>simp [hh] at h
    | some g=>
     simp only [hh] at h
     cases hc:(yK l g&&yK g 0) with
     | false=>rw [hc] at h;cases h
     | true=>
      rw [hc] at h;simp only [yD,ye] at h;subst h;simp only [yi] at hc;have h1:=yB hc.1;have h2:=yB hc.2;have hg:g=0:=by omega
      subst hg;have lD:l=0:=by omega
      subst lD;refine ⟨_,JN (some ad) 0 0 0 0 hl hh h1 h2,?_⟩;simp only [ai];exact .inr ⟨ad,by simp,by simp,by simp [slice]⟩
  cases hl:dl tm 0 (lo.map (aP H)) with
  | none=>simp [hl] at h
  | some l=>
   simp only [hl] at h
   cases hh:dl tm n (hi.map (aP H)) with
   | none=>simp [hh] at h
   | some g=>
    simp only [hh] at h
    cases hc:(yK l g&&yK g n) with
    | false=>rw [hc] at h;cases h
    | true=>
     rw [hc] at h;simp only [yD,ye] at h;subst h;simp only [yi] at hc;have h1:=yB hc.1;have h2:=yB hc.2;refine ⟨_,JN (some ⟨b,o,none⟩) n c l g hl hh h1 (by omega),?_⟩;have D0:aH (slice (l*sz) ((g-l)*sz) cs)=true:=by
      have pd:∀(k:Nat) (cs:List AV),aH cs=true->aH (cs.drop k)=true:=by
       intro k
       induction k with
       | zero=>intro cs h;simpa using h
       | succ k ih=>intro cs h;cases cs with
        | nil=>simpa using h
        | cons c cs=>simp only [aH,yi] at h;simpa using ih cs h.2
      have pt:∀(k:Nat) (cs:List AV),aH cs=true->aH (cs.take k)=true:=by
       intro k
       induction k with
       | zero=>intro cs h;simp [aH]
       | succ k ih=>intro cs h;cases cs with
        | nil=>simp [aH]
        | cons c cs=>simp only [aH,yi,wI] at h ⊢;exact ⟨h.1,ih cs h.2⟩
      exact pt _ _ (pd _ _ iF)
     have aho:(ex&&yz g n)=true->c-l=g-l:=by
      intro hq;simp only [yi] at hq
      have:=hex hq.1
      have:=yt hq.2
      omega
     simp only [ai];by_cases jk:c=l
     ·have h0:g-l=0:=by omega
      have A4:slice (l*sz) ((g-l)*sz) cs=[]:=by simp [slice,h0]
      rw [A4];exact .inl ⟨b,o,c-l,by simp [jk],by omega,aho,.inl rfl,rfl,by simp [bR]⟩
     ·refine .inl ⟨b,o+l*sz,c-l,by simp [jk,oZ],by omega,aho,?_,D0,?_⟩
      ·rcases hS with rfl | hS
       ·exact .inl (by simp [slice])
       ·exact .inr hS
      ·exact By _ _ _ _ (rE _ _ _ _ gN)
 case ak id o n=>
  simp only [ai] at hx;obtain ⟨p,c,hm,rfl,LY,QB⟩:=hx
  split at h
  case h_2=>cases h
  rename_i rw0 pu0 zy z0 cs0 D1;obtain ⟨p',arr,t',iG,_,eF,_⟩:=hh.obj id _ _ D1 hm;rw [hm] at iG;injection iG with iG
  subst iG
  cases hl:dl tm 0 (lo.map (aP H)) with
  | none=>simp [hl] at h
  | some l=>
   simp only [hl] at h
   cases hh:dl tm n (hi.map (aP H)) with
   | none=>simp [hh] at h
   | some g=>
    simp only [hh] at h
    cases hc:(yK l g&&yK g n&&yz z0 sz) with
    | false=>rw [hc] at h;cases h
    | true=>
     rw [hc] at h;simp only [yD] at h;simp only [yi] at hc;have h1:=yB hc.1.1;have h2:=yB hc.1.2;have hpz:p.z=sz:=eF.trans (yt hc.2)
     cases he:(yz l g&& !yz l 0) with
     | true=>
      rw [he] at h;simp only [yD,ye] at h;subst h;simp only [yi] at he;have Ew:=yt he.1;refine ⟨_,JN (some ⟨p.b,p.o+o,none⟩) n c l g hl hh h1 (by omega),?_⟩;simp only [ai];by_cases jk:c=l
      ·exact .inl ⟨p.b,p.o+o,c-l,by simp [jk];omega,by omega,by simp,by simp,by simp [aH],by simp [bR]⟩
      ·exact .inl ⟨p.b,p.o+o+l*sz,c-l,by simp [jk,oZ];omega,by omega,by simp,by simp,by simp [aH],by simp [bR]⟩
     | false=>
      rw [he] at h;simp only [yW,ye] at h;subst h;have jk:c=l->l=0:=by
       intro jk;have Ew:l=g:=by omega
       cases lD:yz l 0 with
       | true=>exact yt lD
       | false=>rw [Ew,Nat.beq_refl,<-Ew,lD] at he;cases he
      refine ⟨_,JN (some ⟨p.b,p.o+o,none⟩) n c l g hl hh h1 (by omega),?_⟩;simp only [ai];refine ⟨p,c-l,hm,?_,by omega,?_⟩
      ·by_cases Vm:c=l
       ·have:=jk Vm;subst this;subst Vm;simp
       ·simp [Vm,oZ,tk]
      ·rw [hpz] at QB ⊢
       have:c*sz=l*sz+(c-l)*sz:=by rw [<-wS];congr 1;omega
       omega
end
end
section
open Go
def oR {P:xa} {w:ym} {t:yH} {sz:Nat} (hz:cN P t=some sz):(vR t).run P w= .ok sz w:=by
 unfold cN at hz
 cases hi:P.info? t with
 | none=>simp [hi] at hz
 | some i=>simp_all [vR,typeInfo]
section
variable {O:bl} {H:Hint} {m:Mp} {S:Nat->Prop} {w:ym} {tm:Env} {a:Act} {hp:Hp} {ct:Nat}
def SR {id o n:Nat} {rw pu ex:Bool} {sz:Nat} {cs:List AV} {p:Pl} (hh:aV O m S w hp ct) (hg:ao hp id=some (.cells rw pu ex sz cs)) (hm:m id=some p):
  bR O.ae m S w cs p.b p.o:=by
 obtain ⟨p',arr,t',iG,_,_,_,_,_,hr,_⟩:=hh.obj id _ _ hg hm
 grind
def awy {t:yH} {sz:Nat} {ag:Bool} {vx v:AV} {x:yj} (hh:aV O m S w hp ct) (hz:cN O.P t=some sz) (ha:dX O.P t=some ag) (hx:ai O.ae m S w vx x)
  (h:jz hp sz ag vx=some v):∃u,(Instr.loadAt t x).run O.P w= .ok u w/\ai O.ae m S w v u:=by
 cases vx<;>simp only [jz,reduceCtorEq] at h
 case ptr id o=>
  obtain ⟨p,hm,rfl⟩:=hx
  split at h
  case h_2=>cases h
  rename_i rw0 pu0 zy z0 cs0 D1;have hr:=SR (id:=id) (o:=0) (n:=0) hh D1 hm;obtain ⟨u,h1,h2⟩:=On hz ha (rE o cs0 p.b p.o hr) h;exact ⟨u,by simp only [Instr.loadAt,Instr.sureAddr,Sem.run_bind,Sem.run_pure,Result.andThen_ok];exact h1,h2⟩
 case aO cs=>
  obtain ⟨b,o,rfl,_,_,hr⟩:=hx;obtain ⟨u,h1,h2⟩:=On hz ha hr h;exact ⟨u,by simp only [Instr.loadAt,Instr.sureAddr,Sem.run_bind,Sem.run_pure,Result.andThen_ok];exact h1,h2⟩
def zW:∀(k:Nat) (cs:List AV),aH cs=true->aH (cs.drop k)=true
 | 0,cs,h=>by simpa using h
 | k+1,[],h=>by simpa using h
 | k+1,c::cs,h=>by simp only [aH,yi] at h;simpa using zW k cs h.2
def Sr {cs:List AV} {b o k:Nat} (h2:cs=[]\/S b) (h3:aH cs=true) (h4:bR O.ae m S w cs b o):ai O.ae m S w (.aO (cs.drop k)) (.pointer (some ⟨b,o+k,none⟩)):=by
 refine ⟨b,o+k,rfl,?_,zW k cs h3,rE k cs b o h4⟩
 grind
def atA {t:yH} {fs:Array uX} {i:Nat} {f:uX} {sz:Nat} {vx v:AV} {x:yj} (hu:O.P.underlying t=some (.struct fs)) (hf:fs[i]? =some f) (hz:cN O.P f.type=some (sz+1))
  (hx:ai O.ae m S w vx x)
  (h:Kr f.offset vx=some v):∃u,(Instr.fieldAt t x i).run O.P w= .ok u w/\ai O.ae m S w v u:=by
 have ae2:∀(b o:Nat),(Instr.fieldAt t (.pointer (some ⟨b,o,none⟩)) i).run O.P w= .ok (.pointer (some ⟨b,o+f.offset,none⟩)) w:=by
  intro b o;simp only [Instr.fieldAt,Sem.run_bind,run_underlying hu,Result.andThen_ok,hf,Instr.sureAddr,Sem.run_pure,fieldPlace,oR hz,Nat.succ_ne_zero,xn,oZ]
 cases vx<;>simp only [Kr,reduceCtorEq] at h
 case ptr id o=>
  obtain ⟨p,hm,rfl⟩:=hx;simp only [ye] at h;subst h;exact ⟨_,ae2 _ _,by simp only [ai];exact ⟨p,hm,by rw [tk]⟩⟩
 case aO cs=>
  obtain ⟨b,o,rfl,h2,h3,h4⟩:=hx
  cases hc:yK f.offset cs.length with
  | false=>rw [hc] at h;cases h
  | true=>
   rw [hc] at h;simp only [yD,ye] at h;subst h;exact ⟨_,ae2 _ _,Sr h2 h3 h4⟩
def atB {t:yH} {fs:Array uX} {i:Nat} {f:uX} {sz:Nat} {ag:Bool} {vx v:AV} {x:yj} (hu:O.P.underlying t=some (.struct fs)) (hf:fs[i]? =some f)
  (hz:cN O.P f.type=some sz) (ha:dX O.P f.type=some ag) (hx:ai O.ae m S w vx x)
  (h:O8 f.offset sz ag vx=some v):∃u,(Instr.field t x i).run O.P w= .ok u w/\ai O.ae m S w v u:=by
 cases vx<;>simp only [O8,reduceCtorEq] at h
 obtain ⟨xs,rfl,hr⟩:=hx;obtain ⟨u,h1,h2⟩:=abZ hz ha hr h;exact ⟨u,by simp only [Instr.field,Sem.run_bind,run_underlying hu,Result.andThen_ok,hf,asAgg,Sem.run_pure];exact h1,h2⟩
def atD {t e:yH} {sz k:Nat} {vx vi v:AV} {x i:yj} (hu:O.P.underlying t=some (.slice e)) (hz:cN O.P e=some sz) (hx:ai O.ae m S w vx x) (hi:ai O.ae m S w vi i)
  (hk:dI vi=some k)
  (h:kX sz k vx=some v):∃u,(Instr.indexAt t x i).run O.P w= .ok u w/\ai O.ae m S w v u:=by
 obtain ⟨kd,rfl⟩:=Ad hi hk;have Kw:∀(b o n c:Nat),k<n->(Instr.indexAt t (.slice (some ⟨b,o,none⟩) n c) (.int kd (k:Int))).run O.P w= .ok (.pointer (some ⟨b,o+k*sz,none⟩)) w:=by
  intro b o n c rY;have hr:(0:Int)<=(k:Int)/\(k:Int)<(n:Int):=by omega
  simp [Instr.indexAt,asIntOf,run_underlying hu,oR hz,hr,oZ]
  grind
 cases vx<;>simp only [kX,reduceCtorEq] at h
 case ak id o n=>
  obtain ⟨p,c,hm,rfl,LY,QB⟩:=hx
  cases hc:yQ k n with
  | false=>rw [hc] at h;cases h
  | true=>
   rw [hc] at h;simp only [yD,ye] at h;subst h;have rY:k<n:=by simp_all
   exact ⟨_,Kw _ _ _ _ rY,by simp only [ai];exact ⟨p,hm,by rw [tk]⟩⟩
 case aE ex n cs=>
  rcases hx with ⟨b,o,c,rfl,LY,hex,h2,h3,h4⟩ | ⟨a,rfl,rfl,rfl⟩
  case inr=>
   have:yQ k 0=false:=by cases hq:yQ k 0 with | false=>rfl | true=>simp only [yQ,yci] at hq;omega
   grind
  cases hc:yQ k n with
  | false=>rw [hc] at h;cases h
  | true=>
   rw [hc] at h;simp only [yD,ye] at h;subst h;have rY:k<n:=by simp_all
   exact ⟨_,Kw _ _ _ _ rY,Sr h2 h3 h4⟩
def atE {t e:yH} {len sz k:Nat} {vx vi v:AV} {x i:yj} (hu:O.P.underlying t=some (.array len e)) (hz:cN O.P e=some sz) (hx:ai O.ae m S w vx x) (hi:ai O.ae m S w vi i)
  (hk:dI vi=some k)
  (h:O9 len sz k vx=some v):∃u,(Instr.indexAt t x i).run O.P w= .ok u w/\ai O.ae m S w v u:=by
 obtain ⟨kd,rfl⟩:=Ad hi hk;have Kw:∀(b o:Nat),k<len->(Instr.indexAt t (.pointer (some ⟨b,o,none⟩)) (.int kd (k:Int))).run O.P w= .ok (.pointer (some ⟨b,o+k*sz,none⟩)) w:=by
  intro b o rY;have hr:(0:Int)<=(k:Int)/\(k:Int)<(len:Int):=by omega
  simp [Instr.indexAt,asIntOf,run_underlying hu,oR hz,hr,oZ,Instr.sureAddr]
  grind
 cases vx<;>simp only [O9,reduceCtorEq] at h
 case ptr id o=>
  obtain ⟨p,hm,rfl⟩:=hx
  cases hc:yQ k len with
  | false=>rw [hc] at h;cases h
  | true=>
   rw [hc] at h;simp only [yD,ye] at h;subst h;have rY:k<len:=by simp_all
   exact ⟨_,Kw _ _ rY,by simp only [ai];exact ⟨p,hm,by rw [tk]⟩⟩
 case aO cs=>
  obtain ⟨b,o,rfl,h2,h3,h4⟩:=hx
  cases hc:yQ k len with
  | false=>rw [hc] at h;cases h
  | true=>
   rw [hc] at h;simp only [yD,ye] at h;subst h;have rY:k<len:=by simp_all
   exact ⟨_,Kw _ _ rY,Sr h2 h3 h4⟩
def atF {t e:yH} {len sz k:Nat} {ag:Bool} {vx vi v:AV} {x i:yj} (hu:O.P.underlying t=some (.array len e)) (hz:cN O.P e=some sz) (ha:dX O.P e=some ag)
  (hx:ai O.ae m S w vx x) (hi:ai O.ae m S w vi i) (hk:dI vi=some k)
  (h:Pa len sz ag k vx=some v):
  ∃u,(Instr.index t x i).run O.P w= .ok u w/\ai O.ae m S w v u:=by
 obtain ⟨kd,rfl⟩:=Ad hi hk;cases vx<;>simp only [Pa,reduceCtorEq] at h
 obtain ⟨xs,rfl,hr⟩:=hx
 cases hc:yQ k len with
 | false=>rw [hc] at h;cases h
 | true=>
  rw [hc] at h;have rY:k<len:=by simp_all
  obtain ⟨u,h1,h2⟩:=abZ hz ha hr h;have bk:(0:Int)<=(k:Int)/\(k:Int)<(len:Int):=by omega
  exact ⟨u,by simp [Instr.index,asIntOf,run_underlying hu,oR hz,bk,h1];intro hle;exact absurd hle (by omega),h2⟩
def atG {t:yH} {k:Nat} {vx vi v:AV} {x i:yj} (hu:O.P.underlying t=some .string) (hx:ai O.ae m S w vx x) (hi:ai O.ae m S w vi i) (hk:dI vi=some k)
  (h:n7 k vx=some v):
  ∃u,(Instr.index t x i).run O.P w= .ok u w/\ai O.ae m S w v u:=by
 obtain ⟨kd,rfl⟩:=Ad hi hk;cases vx<;>simp only [n7,reduceCtorEq] at h
 obtain ⟨b,rfl,rfl⟩:=hx
 cases hs:(b.data.toList.map xf)[k]? with
 | none=>rw [hs] at h;cases h
 | some q=>
  rw [hs] at h;simp only [ye] at h;subst h;rw [List.getElem?_map] at hs
  cases hb:b.data.toList[k]? with
  | none=>rw [hb] at hs;cases hs
  | some c=>
   rw [hb] at hs;simp only [wV,ye] at hs;subst hs;have cA:b[k]? =some c:=by
    have aU:k<b.data.toList.length:=by
     grind
    have fg:k<b.size:=by simp_all
    rw [getElem?_pos b k fg];rw [y9 aU] at hb;rw [<-hb];rfl
   refine ⟨.int .u8 c.toNat,?_,by simp [ai]⟩;simp [Instr.index,asIntOf,run_underlying hu,cA]
end
end
section
open Go
section
variable {ae:Nat->Nat} {m:Mp} {S:Nat->Prop} {w:ym}
def Ss:∀{v:AV} {u:yj},ai ae m S w v u->cw (cellsOf v)=true->aA ae m S w (cellsOf v) u.cells.toList:=by
 intro v u h h1;cases v
 case agg cs=>
  simp only [ai] at h;obtain ⟨xs,rfl,hr⟩:=h;exact hr
 case az vs=>simp [cellsOf,cw,dG] at h1
 case undef=>simp [cellsOf,cw,dG] at h1
 case bV=>simp [cellsOf,cw,dG] at h1
 case fn f a b=>
  cases f with
  | f g=>have h':=h;simp only [ai] at h';obtain ⟨fi,ca,rfl,_⟩:=h';simp only [cellsOf,Value.cells,aA];exact ⟨_,_,rfl,h,rfl⟩
  | y l=>have h':=h;simp only [ai] at h';obtain ⟨p,_,rfl⟩:=h';simp only [cellsOf,Value.cells,aA];exact ⟨_,_,rfl,h,rfl⟩
 case str s=>have h':=h;simp only [ai] at h';obtain ⟨b,rfl,_⟩:=h';simp only [cellsOf,Value.cells,aA];exact ⟨_,_,rfl,h,rfl⟩
 case ptr id o=>have h':=h;simp only [ai] at h';obtain ⟨b,_,rfl⟩:=h';simp only [cellsOf,Value.cells,aA];exact ⟨_,_,rfl,h,rfl⟩
 case aO cs=>have h':=h;simp only [ai] at h';obtain ⟨b,o,rfl,_⟩:=h';simp only [cellsOf,Value.cells,aA];exact ⟨_,_,rfl,h,rfl⟩
 case aE e n cs=>have h':=h;simp only [ai] at h';rcases h' with ⟨b,o,c,rfl,_⟩ | ⟨a,rfl,_,_⟩<;>(simp only [cellsOf,Value.cells,aA];exact ⟨_,_,rfl,h,rfl⟩)
 case ak id o n=>have h':=h;simp only [ai] at h';obtain ⟨p,c,_,rfl,_⟩:=h';simp only [cellsOf,Value.cells,aA];exact ⟨_,_,rfl,h,rfl⟩
 case map id=>have h':=h;simp only [ai] at h';obtain ⟨p,_,rfl⟩:=h';simp only [cellsOf,Value.cells,aA];exact ⟨_,_,rfl,h,rfl⟩
 case ko ks vs=>have h':=h;simp only [ai] at h';obtain ⟨b,es,cl,rfl,_⟩:=h';simp only [cellsOf,Value.cells,aA];exact ⟨_,_,rfl,h,rfl⟩
 case it id=>have h':=h;simp only [ai] at h';obtain ⟨p,_,rfl⟩:=h';simp only [cellsOf,Value.cells,aA];exact ⟨_,_,rfl,h,rfl⟩
 all_goals
  have h':=h;simp only [ai] at h';subst h';simp only [cellsOf,Value.cells,aA];exact ⟨_,_,rfl,h,rfl⟩
def Df (v:yj):aA ae m S w (cellsOf (eV v)) v.cells.toList:=by
 have h:=Om (ae:=ae) (m:=m) (S:=S) (w:=w) v;cases v
 case agg xs=>
  obtain ⟨l⟩:=xs;simp only [eV,ai] at h ⊢;obtain ⟨xs,e,hr⟩:=h;injection e with e
  subst e;exact hr
 case tuple xs=>obtain ⟨l⟩:=xs;simp only [eV] at h ⊢;simp only [cellsOf,Value.cells,aA];exact ⟨_,_,rfl,h,rfl⟩
 case pointer p=>cases p<;>(simp only [eV] at h ⊢;simp only [cellsOf,Value.cells,aA];exact ⟨_,_,rfl,h,rfl⟩)
 case map p=>cases p<;>(simp only [eV] at h ⊢;simp only [cellsOf,Value.cells,aA];exact ⟨_,_,rfl,h,rfl⟩)
 case slice p n c=>
  cases p
  ·cases n
   ·cases c<;>(simp only [eV] at h ⊢;simp only [cellsOf,Value.cells,aA];exact ⟨_,_,rfl,h,rfl⟩)
   ·simp only [eV] at h ⊢;simp only [cellsOf,Value.cells,aA];exact ⟨_,_,rfl,h,rfl⟩
  ·simp only [eV] at h ⊢;simp only [cellsOf,Value.cells,aA];exact ⟨_,_,rfl,h,rfl⟩
 all_goals (simp only [eV] at h ⊢;simp only [cellsOf,Value.cells,aA];exact ⟨_,_,rfl,h,rfl⟩)
def mr:∀{a b:List AV} {x y:List yj},aA ae m S w a x->aA ae m S w b y->aA ae m S w (a++b) (x++y)
 | [],b,x,y,h,k=>by simp only [aA] at h;subst h;simpa using k
 | c::a,b,x,y,h,k=>by
  simp only [aA] at h;obtain ⟨u,r,rfl,h2,h3⟩:=h;simp only [xr,aA];exact ⟨u,r++y,rfl,h2,mr h3 k⟩
def I4:∀(k:Nat) {cs:List AV} {us:List yj},aA ae m S w cs us->aA ae m S w (cs.drop k) (us.drop k)
 | 0,cs,us,h=>by simpa using h
 | k+1,[],us,h=>by simp only [aA] at h;subst h;simp [aA]
 | k+1,c::cs,us,h=>by simp only [aA] at h;obtain ⟨u,r,rfl,_,h3⟩:=h;simpa using I4 k h3
def Ft:∀(k:Nat) {cs:List AV} {us:List yj},aA ae m S w cs us->aA ae m S w (cs.take k) (us.take k)
 | 0,cs,us,h=>by simp [aA]
 | k+1,[],us,h=>by simp only [aA] at h;subst h;simp [aA]
 | k+1,c::cs,us,h=>by
  simp only [aA] at h;obtain ⟨u,r,rfl,h2,h3⟩:=h;simp only [wI,aA];exact ⟨u,_,rfl,h2,Ft k h3⟩
def SS:∀{cs:List AV} {us:List yj} {i:Nat} {v:AV},aA ae m S w cs us->cs[i]? =some v->∃u,us[i]? =some u/\ai ae m S w v u
 | [],us,i,v,_,h=>by simp at h
 | c::cs,us,0,v,h,e=>by
  simp only [aA] at h;obtain ⟨u,r,rfl,h2,h3⟩:=h;simp at e;subst e;exact ⟨u,rfl,h2⟩
 | c::cs,us,i+1,v,h,e=>by
  simp only [aA] at h;obtain ⟨u,r,rfl,h2,h3⟩:=h;simp at e;simpa using SS h3 e
end
def ZQ (off:Nat):∀(new:List yj) (j:Nat) (cells:Array yj),off+j+new.length<=cells.size->
  ((new.zipIdx j).foldl (fun (cs:Array yj) (p:yj×Nat)=>cs.setIfInBounds (off+p.2) p.1) cells).toList=
   cells.toList.take (off+j)++new++cells.toList.drop (off+j+new.length)
 | [],j,cells,_=>by simp
 | v::r,j,cells,h=>by
  simp only [yy] at h;have ih:=ZQ off r (j+1) (cells.setIfInBounds (off+j) v) (by simp;omega);simp only [List.zipIdx_cons,List.foldl_cons];rw [ih];have aU:off+j<cells.toList.length:=by simp;omega
  have h1:(cells.setIfInBounds (off+j) v).toList=cells.toList.set (off+j) v:=by simp
  rw [h1,show off+(j+1)=off+j+1 by omega];have h2:(cells.toList.set (off+j) v).take (off+j+1)=cells.toList.take (off+j)++[v]:=by
   rw [List.take_succ_eq_append_getElem (by simpa using aU)];simp [List.take_set_of_le]
  have h3:(cells.toList.set (off+j) v).drop (off+j+1+r.length)=cells.toList.drop (off+j+(r.length+1)):=by
   rw [List.drop_set_of_lt (by omega)];congr 1;omega
  rw [h2,h3]
  simp
section
variable {O:bl} {H:Hint} {m:Mp} {S:Nat->Prop} {w:ym} {tm:Env} {a:Act}
def Oo (hH:fO O H) (ht:cf O m S w tm a.tmps) {place:Nat->Option (Nat×Nat)}:∀(parts:List (Nat×xC)) (ps:List (Nat×Nat×X)) (zero cs:List AV) (cells:Array yj),
  partsOf H place parts=some ps->aA O.ae m S w zero cells.toList->fill tm zero ps=some cs->
  ∃out,Instr.fill place cells (parts.map fun p=>(p.1,a.eval p.2))=some out/\aA O.ae m S w cs out.toList
 | [],ps,zero,cs,cells,hp,hz,hf=>by
  simp only [partsOf,ye] at hp;subst hp;simp only [fill,ye] at hf;subst hf;exact ⟨cells,rfl,hz⟩
 | (i,x)::r,ps,zero,cs,cells,hp,hz,hf=>by
  simp only [partsOf] at hp
  cases eJ:place i with
  | none=>simp [eJ] at hp
  | some q=>
   obtain ⟨o,s⟩:=q;simp only [eJ] at hp
   cases gD:partsOf H place r with
   | none=>simp [gD] at hp
   | some l=>
    simp only [gD,ye] at hp;subst hp;simp only [fill] at hf
    cases hc:(yz (cellsOf (aC tm (aP H x))).length s&&yK (o+s) zero.length&&cw (cellsOf (aC tm (aP H x)))) with
    | false=>rw [hc] at hf;cases hf
    | true=>
     rw [hc] at hf;simp only [yD] at hf;simp only [yi] at hc;have hs:=yt hc.1.1;have hle:=yB hc.1.2;have hrx:=Ss (cE hH ht x) hc.2;have mP:=iw _ _ hrx;have pJ:=iw _ _ hz;have fg:(a.eval x).cells.size=s:=by rw [<-hs,<-mP];simp
     have fo:cells.size=zero.length:=by rw [<-pJ];simp
     have awz:=ZQ o (a.eval x).cells.toList 0 cells (by simp;omega);have eF:aA O.ae m S w (over o (cellsOf (aC tm (aP H x))) zero)
       ((a.eval x).cells.zipIdx.foldl (fun (cs:Array yj) (p:yj×Nat)=>cs.setIfInBounds (o+p.2) p.1) cells).toList:=by
      rw [<-Array.foldl_toList,Array.toList_zipIdx,awz];simp only [over,Nat.add_zero];rw [show (a.eval x).cells.toList.length=(cellsOf (aC tm (aP H x))).length from mP];exact mr (mr (Ft o hz) hrx) (I4 _ hz)
     obtain ⟨out,h1,h2⟩:=Oo hH ht r l _ cs _ gD eF hf;refine ⟨out,?_,h2⟩;simp only [xd,Instr.fill,eJ,fg];rw [yo (by simp;omega)];exact h1
end
end
section
open Go
def ZR (p q:ByteArray):(p==q)=de (nc p) (nc q):=by
 have h:(p==q)=(p.data==q.data):=by cases p;cases q;rfl
 rw [h,ZN,ByteArray.toList_eq,ByteArray.toList_eq];rw [uN,yaG,yaG];constructor
 ·intro e;rw [e]
 ·intro e;have:=congrArg List.toArray e;simpa using this
def PG:vO->Bool
 | .bool | .int _ | .string=>true
 | _=>false
def fits (d:vO) (v:AV):Bool:=
 match d,v with
 | .int _,.int _ _ | .string,.str _ | .bool,.bool _=>true
 | _,_=>false
def Found (ae:Nat->Nat) (m:Mp) (S:Nat->Prop) (w:ym) (f:Option (Option (Nat×yj))):Option AV->Prop
 | none=>f=some none
 | some v=>∃j u,f=some (some (j,u))/\ai ae m S w v u
section
variable {O:bl} {ae:Nat->Nat} {m:Mp} {S:Nat->Prop} {w:ym}
def aaO {vk vk':AV} {k k':yj} {r:Bool} {d:vO} (hk:ai ae m S w vk k) (oB:ai ae m S w vk' k') (h:Gj vk vk'=some r)
  (hd:fits d vk=true):Instr.sameNow d k k'=some r:=by
 unfold Gj at h
 split at h
 ·rename_i j x j' y;simp only [ai] at hk oB;subst hk;subst oB;by_cases hj:j=j'
  ·simp only [hj,xE,ye] at h;subst hj;cases d<;>simp [fits] at hd
   simpa [Instr.sameNow] using h
  ·simp [hj] at h
 ·simp only [ai] at hk oB;obtain ⟨s,rfl,rfl⟩:=hk;obtain ⟨s',rfl,rfl⟩:=oB;simp only [ye] at h;cases d<;>simp [fits] at hd
  simp only [Instr.sameNow,ZR];rw [<-h];rfl
 ·simp only [ai] at hk oB;subst hk;subst oB;simp only [ye] at h;cases d<;>simp [fits] at hd
  simp [Instr.sameNow,h]
 ·cases h
def SU {vk:AV} {k:yj} {d:vO} (hk:ai ae m S w vk k)
  (hd:fits d vk=true):∀(ks vs:List AV) (es:List tf) (i:Nat) (r:Option AV),
  aA ae m S w ks (es.map (·.key))->aA ae m S w vs (es.map (·.val))->DX vk ks vs=some r->Found ae m S w (Instr.findNow d k es i) r
 | [],vs,es,i,r,h1,h2,h=>by
  simp only [aA,List.map_eq_nil_iff] at h1;subst h1;simp only [DX,ye] at h;subst h;rfl
 | c::ks,[],es,i,r,h1,h2,h=>by simp only [DX] at h;cases h
 | c::ks,v::vs,es,i,r,h1,h2,h=>by
  cases es with
  | nil=>simp [aA] at h1
  | cons e es=>
   simp only [xd,aA,List.cons.injEq] at h1 h2;obtain ⟨u,t,⟨rfl,rfl⟩,hc,QC⟩:=h1;obtain ⟨u',t',⟨rfl,rfl⟩,hv,A5⟩:=h2;simp only [DX] at h
   cases A6:Gj vk c with
   | none=>simp [A6] at h
   | some b=>
    have hs:=aaO (d:=d) hk hc A6 hd
    cases b with
    | true=>
     simp only [A6,ye] at h;subst h;exact ⟨i,e.val,by simp [Instr.findNow,hs],hv⟩
    | false=>
     simp only [A6] at h;have ih:=SU hk hd ks vs es (i+1) r QC A5 h;simpa [Instr.findNow,hs] using ih
def Ni {P:xa} {kt:yH} {d:vO} (hu:P.underlying kt=some d) (hd:PG d=true) (b:Bool) (k:yj):(Instr.checkKey b 10000 kt k).run P w= .ok () w:=by
 have:∀n,(Instr.checkKey b (n+1) kt k).run P w= .ok () w:=by
  intro n;cases d<;>simp [PG] at hd<;>simp [Instr.checkKey,run_underlying hu]
 exact this 9999
def atH {t kt e:yH} {d:vO} {ok:Bool} {hp:Hp} {ct:Nat} {vx vk v:AV} {x k zero:yj} (hh:aV O m S w hp ct) (hu:O.P.underlying t=some (.map kt e)) (hk:O.P.underlying kt=some d) (hd:PG d=true)
  (hdk:fits d vk=true)
  (hz:(zeroValue e).run O.P w= .ok zero w) (hx:ai O.ae m S w vx x) (hkr:ai O.ae m S w vk k) {z:AV} (WX:ai O.ae m S w z zero)
  {r:Option AV}
  (hr:B6 hp vk vx=some r)
  (hv:(match r with | some u=>(bif ok then AV.az [u,.bool true] else u) | none=>(bif ok then AV.az [z,.bool false] else z))=v):
  ∃u,(Instr.lookup t x k ok).run O.P w= .ok u w/\ai O.ae m S w v u:=by
 have fin:∀(u:AV) (uu:yj) (b:Bool),ai O.ae m S w u uu->ai O.ae m S w (bif ok then AV.az [u,.bool b] else u) (if ok then .tuple #[uu,.bool b] else uu):=by
  intro u uu b h
  cases ok with
  | true=>simp only [yD,xE,ai,aA];exact ⟨_,rfl,_,_,rfl,h,_,_,rfl,rfl,rfl⟩
  | false=>simpa using h
 have body:∀(x':yj) (es:Array tf),((x'= .map none/\es=#[])\/∃b clock,x'= .map (some b)/\w.heap[b]? =some (.map es clock))->Found O.ae m S w (Instr.findNow d k es.toList 0) r->
   ∃u,(Instr.lookup t x' k ok).run O.P w= .ok u w/\ai O.ae m S w v u:=by
  intro x' es hl hf
  cases r with
  | none=>
   have re:Instr.findNow d k es.toList 0=some none:=hf;refine ⟨if ok then .tuple #[zero,.bool false] else zero,?_,by rw [<-hv];exact fin z zero false WX⟩
   rcases hl with ⟨rfl,rfl⟩ | ⟨b,clock,rfl,hb⟩
   ·have Vn:Instr.findNow d k [] 0=some none:=rfl;simp [Instr.lookup,run_underlying hu,Ni hk hd,Instr.findKey,run_underlying hk,Vn,hz]
   ·simp [Instr.lookup,run_underlying hu,getObj,Sem.run,hb,Ni hk hd,Instr.findKey,run_underlying hk,re,hz]
  | some v'=>
   obtain ⟨j,u,h1,h2⟩:=hf;refine ⟨if ok then .tuple #[u,.bool true] else u,?_,by rw [<-hv];exact fin v' u true h2⟩
   rcases hl with ⟨rfl,rfl⟩ | ⟨b,clock,rfl,hb⟩
   ·have Vn:Instr.findNow d k [] 0=some none:=rfl;rw [show (#[]:Array tf).toList=[] from rfl,Vn] at h1;cases h1
   ·simp [Instr.lookup,run_underlying hu,getObj,Sem.run,hb,Ni hk hd,Instr.findKey,run_underlying hk,h1]
 cases vx<;>simp only [B6,reduceCtorEq] at hr
 case lh=>
  simp only [ye] at hr;subst hr;simp only [ai] at hx;subst hx;exact body _ #[] (.inl ⟨rfl,rfl⟩) rfl
 case map id=>
  simp only [ai] at hx;obtain ⟨p,hm,rfl⟩:=hx
  split at hr
  case h_2=>cases hr
  rename_i rw0 ks vs D1;obtain ⟨p',es,clock,iG,hb,h1,h2,_⟩:=hh.obj id _ _ D1 hm;rw [hm] at iG;injection iG with iG;subst iG
  exact body _ es (.inr ⟨_,_,rfl,hb⟩) (SU hkr hdk ks vs es.toList 0 r h1 h2 hr)
 case ko ks vs=>
  simp only [ai] at hx;obtain ⟨b,es,clock,rfl,_,_,_,hb,h1,h2⟩:=hx;exact body _ es (.inr ⟨_,_,rfl,hb⟩) (SU hkr hdk ks vs es.toList 0 r h1 h2 hr)
end
end
section
open Go
def IT:∀(k1 k2:List Nat) (a b:List AV) (r:Bool),eM (k1++k2) a b=some r->
  ∃r1 r2,eM k1 (a.take k1.length) (b.take k1.length)=some r1/\eM k2 (a.drop k1.length) (b.drop k1.length)=some r2/\r=(r1&&r2)
 | [],k2,a,b,r,h=>⟨true,r,by simp [eM],by simpa using h,by simp⟩
 | k::k1,k2,[],b,r,h=>by
  simp only [xr] at h;unfold eM at h
  grind
 | k::k1,k2,x::a,[],r,h=>by
  unfold eM at h
  grind
 | k::k1,k2,x::a,y::b,r,h=>by
  have step:∀(q:Bool) (f:Bool->Bool),(match eM (k1++k2) a b with | some r=>some (f r) | none=>none)=some q->∃r0,eM (k1++k2) a b=some r0/\q=f r0:=by grind
  unfold eM at h
  split at h
  ·grind
  ·rename_i e1 e2 e3;obtain ⟨rfl,rfl⟩:=e1;obtain ⟨rfl,rfl⟩:=e2;obtain ⟨rfl,rfl⟩:=e3;obtain ⟨r0,h0,rfl⟩:=step r _ h;obtain ⟨r1,r2,h1,h2,rfl⟩:=IT k1 k2 _ _ r0 h0;exact ⟨_,r2,by simp only [yy,wI,eM,h1],by simpa using h2,(tP _ _ _).symm⟩
  ·rename_i e1 e2 e3;obtain ⟨rfl,rfl⟩:=e1;obtain ⟨rfl,rfl⟩:=e2;obtain ⟨rfl,rfl⟩:=e3
   split at h
   ·rename_i hk;obtain ⟨r0,h0,rfl⟩:=step r _ h;obtain ⟨r1,r2,h1,h2,rfl⟩:=IT k1 k2 _ _ r0 h0;exact ⟨_,r2,by simp only [yy,wI,eM,h1,hk,xE],by simpa using h2,(tP _ _ _).symm⟩
   ·cases h
  ·rename_i e1 e2 e3;obtain ⟨rfl,rfl⟩:=e1;obtain ⟨rfl,rfl⟩:=e2;obtain ⟨rfl,rfl⟩:=e3;obtain ⟨r0,h0,rfl⟩:=step r _ h;obtain ⟨r1,r2,h1,h2,rfl⟩:=IT k1 k2 _ _ r0 h0;exact ⟨_,r2,by simp only [yy,wI,eM,h1],by simpa using h2,(tP _ _ _).symm⟩
  ·cases h
def YN:∀(ks:List Nat) (a b:List AV) (r:Bool),eM ks a b=some r->a.length=ks.length/\b.length=ks.length
 | [],a,b,r,h=>by
  unfold eM at h
  grind
 | k::ks,[],b,r,h=>by
  unfold eM at h
  grind
 | k::ks,x::a,[],r,h=>by
  unfold eM at h
  grind
 | k::ks,x::a,y::b,r,h=>by
  have:∃r0,eM ks a b=some r0:=by
   cases he:eM ks a b with
   | some r0=>exact ⟨r0,rfl⟩
   | none=>unfold eM at h;split at h<;>simp_all
  obtain ⟨r0,h0⟩:=this
  have:=YN ks a b r0 h0
  simp [this]
def Hd (P:xa) (t:yH) (x:yj) (xs:List yj):Prop:=(dX P t=some true/\x= .agg xs.toArray)\/(dX P t=some false/\xs=[x])
section
variable {P:xa} {ae:Nat->Nat} {m:Mp} {S:Nat->Prop} {w:ym}
def Sc {t:yH} {ag:Bool} (ha:dX P t=some ag):(isAgg t).run P w= .ok ag w:=by
 unfold dX at ha
 cases hu:P.underlying t with
 | none=>simp [hu] at ha
 | some d=>cases d<;>simp_all [isAgg,underlying]
def aoS {t:yH} {s o:Nat} {xs:List yj} (hz:cN P t=some s) (ha:∃ag,dX P t=some ag) (h1:dX P t=some false->s=1) (hl:o+s<=xs.length):
  ∃u,(part t xs.toArray o).run P w= .ok u w/\Hd P t u ((xs.drop o).take s):=by
 obtain ⟨ag,ha⟩:=ha
 cases ag with
 | true=>
  refine ⟨.agg ((xs.drop o).take s).toArray,?_,.inl ⟨ha,rfl⟩⟩;simp [part,Sc ha,oR hz,tW]
 | false=>
  have hs:=h1 ha;subst hs;have aU:o<xs.length:=by omega
  refine ⟨xs[o],?_,.inr ⟨ha,?_⟩⟩
  ·simp [part,Sc ha,y9 aU]
  ·rw [List.drop_eq_getElem_cons aU,wI,yat]
def am6 {n:Nat} {t:yH} {ks:List Nat} (h:kinds P n t=some ks):∃ag,dX P t=some ag/\(ag=false->ks.length=1):=by
 cases n with
 | zero=>simp [kinds] at h
 | succ n=>
  unfold kinds at h;unfold dX
  split at h<;>simp_all
  all_goals (rw [<-h];rfl)
def UK (P:xa) (ae:Nat->Nat) (m:Mp) (S:Nat->Prop) (w:ym) (n:Nat):Prop:=
 ∀(t:yH) (ks:List Nat),kinds P n t=some ks->P.stoodInHeld t=false->∀(d:Nat),n<=d->∀(xs ys:List yj) (cs dL:List AV) (r:Bool) (x y:yj),
  aA ae m S w cs xs->aA ae m S w dL ys->eM ks cs dL=some r->Hd P t x xs->Hd P t y ys->(Op.equalIn d t x y).run P w= .ok r w
def ZS {n:Nat} (ih:UK P ae m S w n) {t:yH} {ks:List Nat} {s o d:Nat} (hk:kinds P n t=some ks) (aJ:P.stoodInHeld t=false) (hz:cN P t=some s) (hs:ks.length=s) (hd:n<=d)
  {xs ys:List yj} {cs dL:List AV} (h1:aA ae m S w cs xs) (h2:aA ae m S w dL ys) {r:Bool} (he:eM ks ((cs.drop o).take s) ((dL.drop o).take s)=some r):
  ∃u u',(part t xs.toArray o).run P w= .ok u w/\(part t ys.toArray o).run P w= .ok u' w/\(Op.equalIn d t u u').run P w= .ok r w:=by
 obtain ⟨ag,ha,h1s⟩:=am6 hk;obtain ⟨l1,l2⟩:=YN _ _ _ _ he;have q1:=iw _ _ h1;have q2:=iw _ _ h2;simp only [yI,List.length_drop] at l1 l2;have oD:dX P t=some false->s=1:=fun h=>by
  grind
 have mP:o+s<=xs.length\/s=0:=by omega
 have pJ:o+s<=ys.length\/s=0:=by omega
 have get:∀(zs:List yj),(o+s<=zs.length\/s=0)->∃u,(part t zs.toArray o).run P w= .ok u w/\Hd P t u ((zs.drop o).take s):=by
  intro zs hl;rcases hl with hl | hl
  ·exact aoS hz ⟨ag,ha⟩ oD hl
  ·subst hl
   cases ag with
   | false=>have:=oD ha;omega
   | true=>
    refine ⟨.agg ((zs.drop o).take 0).toArray,?_,.inl ⟨ha,rfl⟩⟩;simp [part,Sc ha,oR hz]
 obtain ⟨u,p1,v1⟩:=get xs mP;obtain ⟨u',p2,v2⟩:=get ys pJ;exact ⟨u,u',p1,p2,ih t ks hk aJ d hd _ _ _ _ r u u' (Ft s (I4 o h1)) (Ft s (I4 o h2)) he v1 v2⟩
def YO {n:Nat} (ih:UK P ae m S w n) {d:Nat} (hd:n<=d) {xs ys:List yj} {cs dL:List AV} (h1:aA ae m S w cs xs) (h2:aA ae m S w dL ys):
  ∀(fs:List uX) (o:Nat) (ks:List Nat) (r:Bool),Fm P (fun u=>kinds P n u) fs o=some ks->eM ks (cs.drop o) (dL.drop o)=some r->(Op.eqFields d xs.toArray ys.toArray fs).run P w= .ok r w
 | [],o,ks,r,h,he=>by
  simp only [Fm,ye] at h;unfold eM at he
  split at he<;>simp_all [Op.eqFields]
 | f::fs,o,ks,r,h,he=>by
  simp only [Fm] at h
  cases hk:kinds P n f.type with
  | none=>simp [hk] at h
  | some kf=>
   cases hz:cN P f.type with
   | none=>simp [hk,hz] at h
   | some s=>
    simp only [hk,hz] at h
    cases hc:(f.name != "_"&&yz f.offset o&&yz kf.length s&& !P.stoodInHeld f.type) with
    | false=>rw [hc] at h;cases h
    | true=>
     rw [hc] at h;simp only [yD] at h;simp only [yi,bne_iff_ne,uo] at hc;obtain ⟨⟨⟨hn,ho⟩,hl⟩,aJ⟩:=hc;have ho:=yt ho;have hl:=yt hl
     cases hr:Fm P (fun u=>kinds P n u) fs (o+s) with
     | none=>simp [hr] at h
     | some kr=>
      simp only [hr,ye] at h;subst h;obtain ⟨r1,r2,e1,e2,rfl⟩:=IT _ _ _ _ _ he;rw [hl] at e1 e2;rw [vS,vS] at e2;obtain ⟨u,u',p1,p2,p3⟩:=ZS ih (o:=o) hk aJ hz hl hd h1 h2 e1;have rest:=YO ih hd h1 h2 fs (o+s) kr r2 hr e2;subst ho;simp only [Op.eqFields]
      cases r1 with
      | true=>simp [hn,p1,p2,p3,rest]
      | false=>simp [hn,p1,p2,p3]
def Y7 {n:Nat} (ih:UK P ae m S w n) {d:Nat} (hd:n<=d) {xs ys:List yj} {cs dL:List AV} (h1:aA ae m S w cs xs) (h2:aA ae m S w dL ys)
  {e:yH} {ks:List Nat} {s:Nat} (hk:kinds P n e=some ks) (aJ:P.stoodInHeld e=false) (hz:cN P e=some s) (hl:ks.length=s):
  ∀(k j:Nat) (r:Bool),eM (yf k ks).flatten (cs.drop (j*s)) (dL.drop (j*s))=some r->(Op.eqItems d e s xs.toArray ys.toArray (List.range' j k)).run P w= .ok r w
 | 0,j,r,he=>by
  unfold eM at he
  split at he<;>simp_all [Op.eqItems]
 | k+1,j,r,he=>by
  obtain ⟨r1,r2,e1,e2,rfl⟩:=IT _ _ _ _ _ he;rw [hl] at e1 e2;rw [vS,vS,show j*s+s=(j+1)*s by rw [wS,Nat.one_mul]] at e2;obtain ⟨u,u',p1,p2,p3⟩:=ZS ih (o:=j*s) hk aJ hz hl hd h1 h2 e1;have rest:=Y7 ih hd h1 h2 hk aJ hz hl k (j+1) r2 e2;rw [List.range'_succ];simp only [Op.eqItems]
  cases r1 with
  | true=>simp [p1,p2,p3,rest]
  | false=>simp [p1,p2,p3]
def Uf:∀(n:Nat) (t:yH) (ks:List Nat),kinds P n t=some ks->P.stoodInHeld t=false->∀(d:Nat),n<=d->∀(xs ys:List yj) (cs dL:List AV) (r:Bool) (x y:yj),
  aA ae m S w cs xs->aA ae m S w dL ys->eM ks cs dL=some r->Hd P t x xs->Hd P t y ys->(Op.equalIn d t x y).run P w= .ok r w
 | 0,t,ks,h,_,_,_,_,_,_,_,_,_,_,_,_,_,_,_=>by simp [kinds] at h
 | n+1,t,ks,h,aJ,0,hd,_,_,_,_,_,_,_,_,_,_,_,_=>by omega
 | n+1,t,ks,h,aJ,d+1,hd,xs,ys,cs,dL,r,x,y,h1,h2,he,hx,hy=>by
  unfold kinds at h;have one:∀{k:Nat},ks=[k]->dX P t=some false->∃c c',cs=[c]/\dL=[c']/\ai ae m S w c x/\ai ae m S w c' y:=by
   intro k hk ha;rcases hx with ⟨hx,_⟩ | ⟨_,rfl⟩
   ·grind
   rcases hy with ⟨hy,_⟩ | ⟨_,rfl⟩
   ·grind
   have l1:=iw _ _ h1;have l2:=iw _ _ h2
   match cs,dL,l1,l2 with
   | [c],[c'],_,_=>
    simp only [aA] at h1 h2
    grind
  split at h
  ·rename_i hu;simp only [ye] at h;have ha:dX P t=some false:=by simp [dX,hu]
   obtain ⟨c,c',rfl,rfl,r1,r2⟩:=one h.symm ha;subst h;unfold eM at he
   split at he<;>simp_all [eM]
   subst he;simp only [ai] at r1 r2;subst r1;subst r2;simp [Op.equalIn,run_underlying hu]
  ·rename_i k0 hu;simp only [ye] at h;have ha:dX P t=some false:=by simp [dX,hu]
   obtain ⟨c,c',rfl,rfl,r1,r2⟩:=one h.symm ha;subst h;unfold eM at he
   split at he<;>simp_all [eM]
   obtain ⟨hk,he⟩:=he;subst he;simp only [ai] at r1 r2;subst r1;subst r2;simp [Op.equalIn,run_underlying hu]
  ·rename_i hu;simp only [ye] at h;have ha:dX P t=some false:=by simp [dX,hu]
   obtain ⟨c,c',rfl,rfl,r1,r2⟩:=one h.symm ha;subst h;unfold eM at he
   split at he<;>simp_all [eM]
   subst he;simp only [ai] at r1 r2;obtain ⟨s,rfl,rfl⟩:=r1;obtain ⟨s',rfl,rfl⟩:=r2;simp only [Op.equalIn,Sem.run_bind,run_underlying hu,Result.andThen_ok,Sem.run_pure,ZR];rfl
  ·rename_i fs hu;have ha:dX P t=some true:=by simp [dX,hu]
   rcases hx with ⟨_,rfl⟩ | ⟨hx,_⟩
   ·rcases hy with ⟨_,rfl⟩ | ⟨hy,_⟩
    ·have hf:P.fieldsOf t=fs:=by simp [Program.fieldsOf,hu]
     rw [run_equalIn_struct w d t _ _ (by rw [hf];exact hu) aJ,hf]
     exact YO (Uf n) (by omega) h1 h2 fs.toList 0 ks r h (by simpa using he)
    ·rw [ha] at hy;cases hy
   ·rw [ha] at hx;cases hx
  ·rename_i k e hu;have ha:dX P t=some true:=by simp [dX,hu]
   rcases hx with ⟨_,rfl⟩ | ⟨hx,_⟩
   ·rcases hy with ⟨_,rfl⟩ | ⟨hy,_⟩
    ·cases hk:kinds P n e with
     | none=>simp [hk] at h
     | some ke=>
      cases hz:cN P e with
      | none=>simp [hk,hz] at h
      | some s=>
       simp only [hk,hz] at h
       cases hc:(yz ke.length s&& !P.stoodInHeld e) with
       | false=>rw [hc] at h;cases h
       | true=>
        rw [hc] at h;simp only [yD,ye] at h;subst h;simp only [yi,uo] at hc;have eF:=hz;unfold cN at eF
        cases hi:P.info? e with
        | none=>simp [hi] at eF
        | some i=>
         simp only [hi,ye] at eF;have fo:P.cellsOf e=s:=by simp [Program.cellsOf,hi,eF]
         rw [run_equalIn_array w d _ _ hu hi,fo,List.range_eq_range'];exact Y7 (Uf n) (by omega) h1 h2 hk hc.2 hz (yt hc.1) k 0 r (by simpa using he)
    ·rw [ha] at hy;cases hy
   ·rw [ha] at hx;cases hx
  ·cases h
end
end
section
open Go
def dR {tm:Env} {hp:Hp} {v:AV} (h:bB tm hp bad=some v):False:=by simp [bad,bB] at h
section
variable {O:bl} {H:Hint} {m:Mp} {S:Nat->Prop} {w:ym} {tm:Env} {a:Act} {hp:Hp} {ct:Nat}
def aq7 {ae:Nat->Nat} {va vb v:AV} {x y:yj} (hx:ai ae m S w va x) (hy:ai ae m S w vb y) (h:VE.min2 va vb=some v):∃u,(Builtin.min2 x y).run O.P w= .ok u w/\ai ae m S w v u:=by
 unfold VE.min2 at h
 split at h
 ·simp only [ai] at hx hy;subst hx;subst hy;simp only [ye] at h;subst h;exact ⟨_,by simp only [Builtin.min2,Sem.run_pure];rfl,by simp only [ai]⟩
 ·rename_i k p k' q;simp only [ai] at hx hy;subst hx;subst hy
  cases ho:k.format.order p q with
  | none=>simp [ho] at h
  | some c=>cases c<;>(simp only [ho,ye] at h;subst h;exact ⟨_,by simp only [Builtin.min2,ho,Sem.run_pure];rfl,by simp only [ai]⟩)
 ·cases h
def aq8 {ae:Nat->Nat} {va vb v:AV} {x y:yj} (hx:ai ae m S w va x) (hy:ai ae m S w vb y) (h:VE.max2 va vb=some v):∃u,(Builtin.max2 x y).run O.P w= .ok u w/\ai ae m S w v u:=by
 unfold VE.max2 at h
 split at h
 ·simp only [ai] at hx hy;subst hx;subst hy;simp only [ye] at h;subst h;exact ⟨_,by simp only [Builtin.max2,Sem.run_pure];rfl,by simp only [ai]⟩
 ·rename_i k p k' q;simp only [ai] at hx hy;subst hx;subst hy
  cases ho:k.format.order p q with
  | none=>simp [ho] at h
  | some c=>cases c<;>(simp only [ho,ye] at h;subst h;exact ⟨_,by simp only [Builtin.max2,ho,Sem.run_pure];rfl,by simp only [ai]⟩)
 ·cases h
def Tw {ae:Nat->Nat} {f:AV->AV->Option AV} {g:yj->yj->Sem yj} (hfg:∀va vb v x y,ai ae m S w va x->ai ae m S w vb y->f va vb=some v->∃u,(g x y).run O.P w= .ok u w/\ai ae m S w v u):
  ∀(l:List AV) (us:List yj) (va v:AV) (x:yj),ai ae m S w va x->aA ae m S w l us->B5 f va l=some v->∃u,(us.foldlM g x).run O.P w= .ok u w/\ai ae m S w v u
 | [],us,va,v,x,hx,hl,h=>by
  simp only [aA] at hl;subst hl;simp only [B5,ye] at h;subst h;exact ⟨x,by simp,hx⟩
 | b::l,us,va,v,x,hx,hl,h=>by
  simp only [aA] at hl;obtain ⟨u,r,rfl,hu,hr⟩:=hl;simp only [B5] at h
  cases hf:f va b with
  | none=>simp [hf] at h
  | some c=>
   simp only [hf] at h;obtain ⟨u1,h1,h2⟩:=hfg _ _ _ _ _ hx hu hf;obtain ⟨u2,h3,h4⟩:=Tw hfg l r c v u1 h2 hr h;exact ⟨u2,by simp [h1,h3],h4⟩
def Ug {t:yH} {vx v:AV} {x:yj} {ty:yH} (hh:aV O m S w hp ct) (hx:ai O.ae m S w vx x)
  {k:Nat} (hu:(k=0/\O.P.underlying t=some .string)\/(k=1/\∃e,O.P.underlying t=some (.slice e))\/(k=2/\∃kt e,O.P.underlying t=some (.map kt e)))
  (h:gg hp k vx=some v):∃u,(Builtin.len_ #[t] ty #[x]).run O.P w= .ok u w/\ai O.ae m S w v u:=by
 rcases hu with ⟨rfl,hu⟩ | ⟨rfl,e,hu⟩ | ⟨rfl,kt,e,hu⟩
 all_goals cases vx<;>simp only [gg,reduceCtorEq] at h
 case inl.str s=>
  simp only [ai] at hx;obtain ⟨b,rfl,rfl⟩:=hx;simp only [ye] at h;subst h;refine ⟨_,by simp [Builtin.len_,run_underlying hu];rfl,?_⟩
  simp only [ai,goInt];rw [Lib.size_eq];simp
 case inr.inl.ab=>
  simp only [ai] at hx;subst hx;simp only [ye] at h;subst h;exact ⟨_,by simp [Builtin.len_,run_underlying hu];rfl,by simp [ai,goInt]⟩
 case inr.inl.aE ex n cs=>
  simp only [ai] at hx;rcases hx with ⟨b,o,c,rfl,_⟩ | ⟨a,rfl,rfl,rfl⟩
  all_goals
   simp only [ye] at h;subst h;exact ⟨_,by simp [Builtin.len_,run_underlying hu];rfl,by simp [ai,goInt]⟩
 case inr.inl.ak id o n=>
  simp only [ai] at hx;obtain ⟨p,c,_,rfl,_⟩:=hx;simp only [ye] at h;subst h;exact ⟨_,by simp [Builtin.len_,run_underlying hu];rfl,by simp [ai,goInt]⟩
 case inr.inr.lh=>
  simp only [ai] at hx;subst hx;simp only [ye] at h;subst h;exact ⟨_,by simp [Builtin.len_,run_underlying hu];rfl,by simp [ai,goInt]⟩
 case inr.inr.ko ks vs=>
  simp only [ai] at hx;obtain ⟨b,es,clock,rfl,_,_,_,hb,h1,_⟩:=hx;simp only [ye] at h;subst h;refine ⟨_,by simp [Builtin.len_,run_underlying hu,getObj,Sem.run,hb];rfl,?_⟩
  have:=iw _ _ h1
  simp only [ai,goInt];rw [<-this];simp
 case inr.inr.map id=>
  simp only [ai] at hx;obtain ⟨p,hm,rfl⟩:=hx
  split at h
  case h_2=>cases h
  rename_i rw0 ks vs D1;simp only [ye] at h;subst h;obtain ⟨p',es,clock,iG,hb,h1,_⟩:=hh.obj id _ _ D1 hm;rw [hm] at iG;injection iG with iG;subst iG
  refine ⟨_,by simp [Builtin.len_,run_underlying hu,getObj,Sem.run,hb];rfl,?_⟩
  have:=iw _ _ h1
  simp only [ai,goInt];rw [<-this];simp
end
end
section
open Go
section
variable {O:bl} {H:Hint} {m:Mp} {S:Nat->Prop} {w:ym} {tm:Env} {a:Act} {hp:Hp} {ct:Nat}
def FF {t:yH} {z:AV} (h:mC O.P t=some z):∃v,(zeroValue t).run O.P w= .ok v w/\z=eV v:=by
 unfold mC at h
 cases hi:O.P.info? t with
 | none=>simp [hi] at h
 | some i=>
  simp only [hi] at h
  cases hz:i.zero with
  | none=>simp [hz] at h
  | some v=>
   simp only [hz,ye] at h;exact ⟨v,by simp [zeroValue,typeInfo,hi,hz],h.symm⟩
def Reads (O:bl) (m:Mp) (S:Nat->Prop) (w:ym) (a:Act) (o:yZ) (v:AV):Prop:=
 ∃u,(execOp a.eval o).run O.P w= .ok (.value u) w/\ai O.ae m S w v u
def kM {o:yZ} {v:AV} {s:Sem yj} (he:execOp a.eval o=(do pure (.value (<-s)):Sem Next)) (h:∃u,s.run O.P w= .ok u w/\ai O.ae m S w v u):Reads O m S w a o v:=by
 obtain ⟨u,h1,h2⟩:=h;exact ⟨u,by rw [he];simp [h1],h2⟩
def aoT {o:yZ} {op:vt} {t ty:yH} {x y:xC} {k:Nat} {v:AV} (hH:fO O H) (ht:cf O m S w tm a.tmps) (ho:o.op= .binOp op t x y ty)
  (hv:bB tm hp (aX O.P H k o)=some v):Reads O m S w a o v:=by
 have rx:=cE hH ht x;have ry:=cE hH ht y;have guard:∀{u:yj},(∀xs ys,¬(a.eval x= .agg xs/\a.eval y= .agg ys))\/O.P.eqGuardType O.P.depth t=false->a.eval x≠.nilIface->(xR op t (a.eval x) (a.eval y)).run O.P w= .ok u w->
   (do eqGuard op t x y (a.eval x) (a.eval y);xR op t (a.eval x) (a.eval y):Sem yj).run O.P w= .ok u w:=by
  intro u h1 h2 h3
  simp only [Sem.run_bind,amd (P:=O.P) (w:=w) (t:=t) (op:=op) (x:=x) (y:=y) (h1.symm) h2,Result.andThen_ok,h3]
 have plain:bB tm hp (.bin op (aP H x) (aP H y))=some v->Reads O m S w a o v:=by
  intro hv;simp only [bB] at hv;obtain ⟨u,h1,h2⟩:=aoP (P:=O.P) (t:=t) rx ry hv
  refine kM (s:=do eqGuard op t x y (a.eval x) (a.eval y);xR op t (a.eval x) (a.eval y)) (by simp only [execOp,ho]) ⟨u,guard (.inl ?_) ?_ h1,h2⟩
  ·rintro xs ys ⟨e1,e2⟩;rw [e1] at rx;unfold VE.binOp at hv
   split at hv
   ·rename_i h3 _;rw [h3] at rx;simp [ai] at rx
   ·rename_i h3 _;rw [h3] at rx;simp [ai] at rx
   ·rename_i h3 _;rw [h3] at rx;simp [ai] at rx
   ·cases hv
  ·intro e1;rw [e1] at rx;unfold VE.binOp at hv
   split at hv
   ·rename_i h3 _;rw [h3] at rx;simp [ai] at rx
   ·rename_i h3 _;rw [h3] at rx;simp [ai] at rx
   ·rename_i h3 _;rw [h3] at rx;simp [ai] at rx
   ·cases hv
 have other:∀(ne:Bool) (kd:VE.Qy),(op= .eql/\ne=false\/op= .neq/\ne=true)->(∀r,kv kd (aC tm (aP H x)) (aC tm (aP H y))=some r->(Op.equal t (a.eval x) (a.eval y)).run O.P w= .ok r w/\
    ((∀xs ys,¬(a.eval x= .agg xs/\a.eval y= .agg ys))\/O.P.eqGuardType O.P.depth t=false)/\a.eval x≠.nilIface/\
    ∀q:Bool,(op= .eql->xR op t (a.eval x) (a.eval y)=(do pure (.bool (<-Op.equal t (a.eval x) (a.eval y)))))/\(op= .neq->xR op t (a.eval x) (a.eval y)=(do pure (.bool (!(<-Op.equal t (a.eval x) (a.eval y)))))))->
   bB tm hp (.eq ne kd (aP H x) (aP H y))=some v->Reads O m S w a o v:=by
  intro ne kd jD nm hv;simp only [bB] at hv
  cases he:kv kd (aC tm (aP H x)) (aC tm (aP H y)) with
  | none=>simp [he] at hv
  | some r=>
   simp only [he,ye] at hv;subst hv;obtain ⟨h1,h2,h3,h4⟩:=nm r he;obtain ⟨h5,h6⟩:=h4 true
   refine kM (s:=do eqGuard op t x y (a.eval x) (a.eval y);xR op t (a.eval x) (a.eval y)) (by simp only [execOp,ho]) ⟨.bool (ne !=r),guard h2 h3 ?_,by simp [ai]⟩
   rcases jD with ⟨rfl,rfl⟩ | ⟨rfl,rfl⟩
   ·rw [h5 rfl];simp [h1]
   ·rw [h6 rfl];simp [h1]
 have pB:O.P.underlying t=some .bool->∀r,kv .b (aC tm (aP H x)) (aC tm (aP H y))=some r->∃p q,a.eval x= .bool p/\a.eval y= .bool q/\(Op.equal t (a.eval x) (a.eval y)).run O.P w= .ok r w:=by
  intro hu r he;cases hx:aC tm (aP H x)<;>cases hy:aC tm (aP H y)<;>rw [hx,hy] at he<;>simp only [kv,reduceCtorEq] at he
  rw [hx] at rx;rw [hy] at ry;simp only [ai] at rx ry;simp only [ye] at he;refine ⟨_,_,rx,ry,?_⟩;rw [rx,ry,NY,<-he];exact atz hu
 have pS:∀e,O.P.underlying t=some (.slice e)->∀r,kv .sl (aC tm (aP H x)) (aC tm (aP H y))=some r->∃p n c q n' c',a.eval x= .slice p n c/\a.eval y= .slice q n' c'/\(Op.equal t (a.eval x) (a.eval y)).run O.P w= .ok r w:=by
  intro e hu r he;have h1:=aq4 hu rx ry he;have sl:∀{v:AV} {u:yj},ai O.ae m S w v u->(v= .ab\/(∃a b c,v= .aE a b c)\/∃a b c,v= .ak a b c)->∃p n c,u= .slice p n c:=by
   intro v u hr hv;rcases hv with rfl | ⟨_,_,_,rfl⟩ | ⟨_,_,_,rfl⟩
   ·simp only [ai] at hr;exact ⟨_,_,_,hr⟩
   ·simp only [ai] at hr;rcases hr with ⟨b,o,c,hr,_⟩ | ⟨_,hr,_⟩<;>exact ⟨_,_,_,hr⟩
   ·simp only [ai] at hr;obtain ⟨b,c,_,hr,_⟩:=hr;exact ⟨_,_,_,hr⟩
  have dM:(aC tm (aP H x)= .ab\/(∃a b c,aC tm (aP H x)= .aE a b c)\/∃a b c,aC tm (aP H x)= .ak a b c)/\
    (aC tm (aP H y)= .ab\/(∃a b c,aC tm (aP H y)= .aE a b c)\/∃a b c,aC tm (aP H y)= .ak a b c):=by
   cases hx:aC tm (aP H x)<;>cases hy:aC tm (aP H y)<;>rw [hx,hy] at he<;>simp [kv] at he ⊢
  obtain ⟨p,n,c,e1⟩:=sl rx dM.1;obtain ⟨q,n',c',e2⟩:=sl ry dM.2;exact ⟨p,n,c,q,n',c',e1,e2,h1⟩
 have pF:∀ps rs vr,O.P.underlying t=some (.func ps rs vr)->∀r,kv .fn (aC tm (aP H x)) (aC tm (aP H y))=some r->
   ((a.eval x= .nilFunc\/∃f p q,a.eval x= .func f p q)/\(a.eval y= .nilFunc\/∃f p q,a.eval y= .func f p q))/\(Op.equal t (a.eval x) (a.eval y)).run O.P w= .ok r w:=by
  intro ps rs vr hu r he;have h1:=aq5 hu rx ry he;have sl:∀{v:AV} {u:yj},ai O.ae m S w v u->(v= .jy\/(∃a b c,v= .fn a b c))->(u= .nilFunc\/∃f p q,u= .func f p q):=by
   intro v u hr hv;rcases hv with rfl | ⟨f,_,_,rfl⟩
   ·simp only [ai] at hr;exact .inl hr
   ·cases f with
    | f g=>simp only [ai] at hr;obtain ⟨b,c,hr,_⟩:=hr;exact .inr ⟨_,_,_,hr⟩
    | y l=>simp only [ai] at hr;obtain ⟨b,_,hr⟩:=hr;exact .inr ⟨_,_,_,hr⟩
  have dM:(aC tm (aP H x)= .jy\/(∃a b c,aC tm (aP H x)= .fn a b c))/\(aC tm (aP H y)= .jy\/(∃a b c,aC tm (aP H y)= .fn a b c)):=by
   cases hx:aC tm (aP H x)<;>cases hy:aC tm (aP H y)<;>rw [hx,hy] at he<;>simp [kv] at he ⊢
  exact ⟨⟨sl rx dM.1,sl ry dM.2⟩,h1⟩
 have pA:∀ks,kinds O.P 20 t=some ks->dX O.P t=some true->O.P.stoodInHeld t=false->∀r,kv (.ag ks) (aC tm (aP H x)) (aC tm (aP H y))=some r->∃p q,a.eval x= .agg p/\a.eval y= .agg q/\(Op.equal t (a.eval x) (a.eval y)).run O.P w= .ok r w:=by
  intro ks hk ha aJ r he;cases hx:aC tm (aP H x)<;>cases hy:aC tm (aP H y)<;>rw [hx,hy] at he<;>simp only [kv,reduceCtorEq] at he
  rw [hx] at rx;rw [hy] at ry;simp only [ai] at rx ry;obtain ⟨p,e1,h1⟩:=rx;obtain ⟨q,e2,h2⟩:=ry;refine ⟨p,q,e1,e2,?_⟩;rw [e1,e2,NY];exact Uf 20 t ks hk aJ 10000 (by omega) _ _ _ _ r _ _ h1 h2 he (.inl ⟨ha,by simp⟩) (.inl ⟨ha,by simp⟩)
 have eqs:∀(ne:Bool),(op= .eql/\ne=false\/op= .neq/\ne=true)->bB tm hp (oY O.P H ne op t x y)=some v->Reads O m S w a o v:=by
  intro ne jD hv;have agg:dX O.P t=some true->bB tm hp (qj O.P H ne t x y)=some v->Reads O m S w a o v:=by
   intro ha hv;unfold qj at hv
   cases hk:kinds O.P 20 t with
   | none=>rw [hk] at hv;exact (dR hv).elim
   | some ks=>
    simp only [hk] at hv
    cases hc:(O.P.stoodInHeld t||O.P.eqGuardType O.P.depth t) with
    | true=>rw [hc] at hv;exact (dR hv).elim
    | false=>
     rw [hc] at hv;simp only [yW] at hv;simp only [Bool.or_eq_false_iff] at hc;refine other ne (.ag ks) jD (fun r hr=>?_) hv;obtain ⟨p,q,e1,e2,h1⟩:=pA ks hk ha hc.1 r hr;refine ⟨h1,.inr hc.2,by rw [e1];simp,fun _=>?_⟩
     rw [e1,e2];exact ⟨fun e=>by subst e;rfl,fun e=>by subst e;rfl⟩
  unfold oY at hv
  split at hv
  ·exact plain hv
  ·exact plain hv
  ·exact plain hv
  ·rename_i hu;refine other ne .b jD (fun r hr=>?_) hv;obtain ⟨p,q,e1,e2,h1⟩:=pB hu r hr;refine ⟨h1,.inl (by rw [e1];simp),by rw [e1];simp,fun _=>?_⟩
   rw [e1,e2];exact ⟨fun e=>by subst e;rfl,fun e=>by subst e;rfl⟩
  ·rename_i e hu;refine other ne .sl jD (fun r hr=>?_) hv;obtain ⟨p,n,c,q,n',c',e1,e2,h1⟩:=pS e hu r hr;refine ⟨h1,.inl (by rw [e1];simp),by rw [e1];simp,fun _=>?_⟩
   rw [e1,e2];exact ⟨fun e=>by subst e;rfl,fun e=>by subst e;rfl⟩
  ·rename_i ps rs vr hu;refine other ne .fn jD (fun r hr=>?_) hv;obtain ⟨⟨e1,e2⟩,h1⟩:=pF ps rs vr hu r hr;refine ⟨h1,.inl ?_,?_,fun _=>?_⟩
   ·rcases e1 with e1 | ⟨_,_,_,e1⟩<;>rw [e1]<;>simp
   ·rcases e1 with e1 | ⟨_,_,_,e1⟩<;>rw [e1]<;>simp
   ·rcases e1 with e1 | ⟨_,_,_,e1⟩<;>rcases e2 with e2 | ⟨_,_,_,e2⟩<;>rw [e1,e2]<;>exact ⟨fun e=>by subst e;rfl,fun e=>by subst e;rfl⟩
  ·rename_i fs hu;exact agg (by simp [dX,hu]) hv
  ·rename_i k0 e hu;exact agg (by simp [dX,hu]) hv
  ·exact (dR hv).elim
 cases op
 case eql=>exact eqs false (.inl ⟨rfl,rfl⟩) (by simpa only [aX,ho] using hv)
 case neq=>exact eqs true (.inr ⟨rfl,rfl⟩) (by simpa only [aX,ho] using hv)
 all_goals exact plain (by simpa only [aX,ho] using hv)
end
end
end VE
