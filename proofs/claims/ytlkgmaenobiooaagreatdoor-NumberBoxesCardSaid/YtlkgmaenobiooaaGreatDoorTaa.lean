import GoSem.Core.Code
import GoSem.Core.Float
import GoSem.Core.Utf8
import Derived.CallsIn
import Derived.Laws.World
import GoSem.Op.Equal
import GoSem.Core.Region
import Derived.Below
import Derived.Laws.AppendOwn
import Derived.Laws.Rows
import Derived.WalkKit
import Derived.Laws.CopyRow
import Derived.Laws.Cells
import Derived.Laws.Strings
import Derived.Lib.Strings
import Derived.WideLaws
import Derived.Maps.Keyed
set_option linter.all false
set_option maxRecDepth 100000
open BitVec renaming ofInt→xI
open Bool renaming and_eq_true→yg,eq_iff_iff→ub,false_eq_true→yE
open Go renaming Addr→vY,BinOp→wQ,Code→wO,Field→uJ,FloatKind→vL,IntKind→yV,MapEntry→uz,Oper→yZ,Operand→xu,Program→xe,TypeDesc→vc,TypeId→yt,UnOp→ybQ,Value→yf,World→yh,binOp→xK,sizeOf→vJ
open Go.Utf8 renaming runeError→vP,valid→yaE
open List.cons renaming injEq→vU
open List renaming map_cons→xi,replicate→yF,take_succ_cons→wx
open Nat renaming add_assoc→uE,beq→yu,beq_eq→yca,ble→yG,ble_eq→ycb,blt→yL,eq_of_beq_eq_true→yo,le_of_ble_eq_true→yv,le_refl→yA,le_trans→yS,testBit→uj
open Option renaming map_none→vE,map_some→wC
open Option.some renaming injEq→yc
open UInt8 renaming toNat→xf,toNat_inj→yaF
def wM:=@and_true
def yan:=@beq_iff_eq
def tQ:=@beq_self_eq_true
def yM:=@cond_false
def yB:=@cond_true
def yC:=@decide_eq_false
def yD:=@decide_eq_true
def xt:=@decide_eq_true_eq
def yk:=@decide_false
def ym:=@decide_true
def ybF:=@false_or
def y9:=@if_false
def yp:=@if_neg
def yz:=@if_pos
def xm:=@if_true
def um:=@not_true_eq_false
def vt:=@or_false
def uU:=@true_and
namespace VE
section
open Go (IntKind FloatKind BinOp UnOp)
inductive Fr where
 | f (n:Nat)
 | y (l:Nat)
 deriving DecidableEq,Inhabited
inductive AV where
 | int (k:yV) (n:Int)
 | bool (b:Bool)
 | b5 (k:vL) (bits:Nat)
 | str (s:List Nat)
 | lm
 | ptr (id off:Nat)
 | cz (cells:List AV)
 | aa
 | ap (ex:Bool) (n:Nat) (cells:List AV)
 | bV (ex:Bool) (sz n:Nat) (cells:List AV)
 | ay (id off n:Nat)
 | fn (f:Fr) (first cap:List AV)
 | jd
 | kD
 | map (id:Nat)
 | jD (ks vs:List AV)
 | it (id:Nat)
 | agg (cells:List AV)
 | af (vs:List AV)
 | undef
 deriving Inhabited
inductive X where
 | t (i:Nat)
 | c (v:AV)
 deriving Inhabited
inductive Conv where
 | toInt (k:yV)
 | toFlt (k:vL)
 | str
 deriving Inhabited
inductive Md where
 | pure | own | heap | dyn
 deriving Inhabited
inductive Cut where
 | str
 | sl (sz:Nat)
 | ar (len sz:Nat)
 deriving Inhabited
inductive SA where
 | b | sl | fn | ag (ks:List Nat)
 deriving Inhabited
inductive Op where
 | ck (x:X)
 | pick (c a b:X)
 | box (sz:Nat) (x:X)
 | cK (zero:List AV) (parts:List (Nat×Nat×X))
 | cQ (n sz:Nat) (zero:List AV) (parts:List (Nat×Nat×X))
 | ld (sz:Nat) (ag:Bool) (x:X)
 | st (sz:Nat) (x v:X)
 | LP (x:X)
 | bin (op:wQ) (x y:X)
 | eq (ne:Bool) (k:SA) (x y:X)
 | un (op:ybQ) (x:X)
 | cv (k:Conv) (x:X)
 | Ip (f:Fr) (first cap:List X)
 | AY
 | iA (sz bytes:Nat) (zero:List AV) (len cap:X)
 | eF (k:Cut) (x:X) (lo hi:Option X)
 | off (k:Nat) (x:X)
 | M6 (o sz:Nat) (ag:Bool) (x:X)
 | bz (sz:Nat) (x i:X)
 | Iq (len sz:Nat) (x i:X)
 | lE (x i:X)
 | Ir (len sz:Nat) (ag:Bool) (x i:X)
 | SB (kk:Nat) (zero:AV) (ok:Bool) (m k:X)
 | qw (kk:Nat) (m k v:X)
 | qB (x:X)
 | qC (x:X)
 | ext (i:Nat) (x:X)
 | call (m:Md) (f:X) (xs:List X)
 | jA (rs:List (Nat×Bool×Nat)) (f:X) (xs:List X)
 | jT (rs:List (Nat×Bool×Nat)) (sz:Nat) (x v:X)
 | a7 (sz bytes:Nat) (s x:X)
 | qD (sz:Nat) (d s:X)
 | len (k:Nat) (x:X)
 | mn (xs:List X)
 | mx (xs:List X)
 deriving Inhabited
structure bc where
 dst:Option Nat
 guard:Option (Nat×Bool)
 op:Op
 deriving Inhabited
inductive VC where
 | skip
 | aS (ops:List bc)
 | seq (a b:VC)
 | cond (x:X) (a b:VC)
 | aQ (id:Nat) (a:VC)
 | kp (live:List Nat)
 | fz (ts:List Nat)
 | loop (live:List Nat) (a:VC)
 | rf (f:X) (ps:List Nat) (assign body:VC)
 | exit (id:Nat)
 | ret
 deriving Inhabited
inductive RV where
 | t (i:Nat)
 | cell (i sz:Nat) (ag:Bool)
 deriving Inhabited
structure aI where
 dU:List RV
 body:VC
 deriving Inhabited
inductive Ao where
 | none | ret | exit (id:Nat)
 deriving Inhabited,DecidableEq
abbrev Env:=List (Nat×AV)
inductive Obj where
 | cells (rw pu ex:Bool) (sz:Nat) (cs:List AV)
 | mp (rw:Bool) (ks vs:List AV)
 | si (s:List Nat) (pos:Nat)
 | lp (tm:Env) (ps:List Nat) (assign body:VC) (state:Nat) (pending:Ao)
 deriving Inhabited
abbrev Hp:=List (Nat×Obj)
structure St where
 tm:Env
 hp:Hp
 ct:Nat
 base:Nat
 deriving Inhabited
inductive Ex where
 | normal
 | ret
 | exit (id:Nat)
 deriving Inhabited,DecidableEq
def ak:Env->Nat->AV
 | [],_=> .undef
 | (j,v)::r,i=>bif yu j i then v else ak r i
def aF:Hp->Nat->Option Obj
 | [],_=>none
 | (j,o)::r,i=>bif yu j i then some o else aF r i
def bf:Hp->Nat->Obj->Hp
 | [],_,_=>[]
 | (j,o)::r,i,u=>bif yu j i then (j,u)::r else (j,o)::bf r i u
def eT:Hp->Nat->Hp
 | [],_=>[]
 | (j,o)::r,i=>bif yu j i then eT r i else (j,o)::eT r i
mutual
def bg:AV->Bool
 | .ptr _ _ | .ay _ _ _ | .map _ | .it _ | .bV _ _ _ _=>false
 | .fn (.y _) _ _=>false
 | .fn (.f _) first cap=>aO first&&aO cap
 | .agg cs=>aO cs
 | .af vs=>aO vs
 | _=>true
def aO:List AV->Bool
 | []=>true
 | v::r=>bg v&&aO r
end
def cellsOf:AV->List AV
 | .agg cs=>cs
 | v=>[v]
def cP:AV->Bool
 | .agg _ | .af _ | .undef | .bV _ _ _ _=>false
 | _=>true
def cr:List AV->Bool
 | []=>true
 | v::r=>cP v&&cr r
def aG (tm:Env):X->AV
 | .t i=>ak tm i
 | .c v=>v
def dK (tm:Env):List X->List AV
 | []=>[]
 | x::r=>aG tm x::dK tm r
def slice (o n:Nat) (cs:List AV):List AV:=(cs.drop o).take n
def over (o:Nat) (new cs:List AV):List AV:=cs.take o++new++cs.drop (o+new.length)
mutual
def freeze:Nat->Hp->AV->Option (AV×Hp)
 | 0,_,_=>none
 | n+1,hp,v=>
  match v with
  | .ay id o k=>
   match rZ n hp id with
   | some (ex,sz,cs,aw)=>
    bif yG (o+k*sz) cs.length then
     some (.ap (ex&&yL 0 sz&&yu (o+k*sz) cs.length) k (slice o (k*sz) cs),aw)
    else none
   | none=>none
  | .ptr id o=>
   match rZ n hp id with
   | some (_,_,cs,aw)=>some (.cz (cs.drop o),aw)
   | none=>none
  | .map id=>
   match aF hp id with
   | some (.mp _ ks vs)=>bif aO ks&&aO vs then some (.jD ks vs,bf hp id (.mp false ks vs)) else none
   | _=>none
  | .fn (.f g) first cap=>
   match dc n hp first with
   | some (aj1,bI)=>
    match dc n bI cap with
    | some (P8,jF)=>some (.fn (.f g) aj1 P8,jF)
    | none=>none
   | none=>none
  | .agg cs=>match dc n hp cs with | some (eG,aw)=>some (.agg eG,aw) | none=>none
  | .af cs=>match dc n hp cs with | some (eG,aw)=>some (.af eG,aw) | none=>none
  | v=>bif bg v then some (v,hp) else none
def rZ:Nat->Hp->Nat->Option (Bool×Nat×List AV×Hp)
 | 0,_,_=>none
 | n+1,hp,id=>
  match aF hp id with
  | some (.cells rw pu ex sz cs)=>
   bif pu then some (ex,sz,cs,bif rw then bf hp id (.cells false true ex sz cs) else hp)
   else match dc n hp cs with
    | some (eG,aw)=>some (ex,sz,eG,bf aw id (.cells false false ex sz cs))
    | none=>none
  | _=>none
def dc:Nat->Hp->List AV->Option (List AV×Hp)
 | 0,_,_=>none
 | _+1,hp,[]=>some ([],hp)
 | n+1,hp,v::r=>
  match freeze n hp v with
  | some (v',bI)=>
   match dc n bI r with
   | some (r',jF)=>some (v'::r',jF)
   | none=>none
  | none=>none
end
def D2 (n:Nat) (hp:Hp) (v:AV):Option (AV×Hp):=
 match v with
 | .ay id o k=>
  match aF hp id with
  | some (.cells true true ex sz cs)=>
   bif yG (o+k*sz) cs.length then
    some (.bV (ex&&yL 0 sz&&yu (o+k*sz) cs.length) sz k (slice o (k*sz) cs),eT hp id)
   else none
  | _=>freeze n hp v
 | _=>freeze n hp v
def VP:List AV->Option (List Nat)
 | []=>some []
 | .ay id _ _::r=>match VP r with | some l=>bif l.any (yu id) then none else some (id::l) | none=>none
 | v::r=>bif bg v then VP r else none
def Gj (n:Nat):Hp->List AV->Option (List AV×Hp)
 | hp,[]=>some ([],hp)
 | hp,v::r=>
  match D2 n hp v with
  | some (v',bI)=>match Gj n bI r with | some (r',jF)=>some (v'::r',jF) | none=>none
  | none=>none
def deep:Nat:=1000
def result (hp:Hp) (v:AV):Option AV:=
 match v with
 | .af vs=>
  match VP vs with
  | some _=>match Gj deep hp vs with | some (eH,_)=>some (.af eH) | none=>none
  | none=>match freeze deep hp v with | some (v',_)=>some v' | none=>none
 | v=>match D2 deep hp v with | some (v',_)=>some v' | none=>none
def b6:AV->AV
 | .bV ex _ n cs=> .ap ex n cs
 | v=>v
def Ek:List AV->List AV
 | []=>[]
 | v::r=>b6 v::Ek r
def shut:AV->AV
 | .bV ex _ n cs=> .ap ex n cs
 | .af vs=> .af (Ek vs)
 | v=>v
def fu (hp:Hp) (ct:Nat):AV->AV×Hp×Nat
 | .bV ex sz n cs=>(.ay ct 0 n,(ct,.cells true true ex sz cs)::hp,ct+1)
 | v=>(v,hp,ct)
def jQ:Hp->Nat->List AV->List AV×Hp×Nat
 | hp,ct,[]=>([],hp,ct)
 | hp,ct,v::r=>((fu hp ct v).1::(jQ (fu hp ct v).2.1 (fu hp ct v).2.2 r).1,(jQ (fu hp ct v).2.1 (fu hp ct v).2.2 r).2)
def own (hp:Hp) (ct:Nat):AV->AV×Hp×Nat
 | .af vs=>(.af (jQ hp ct vs).1,(jQ hp ct vs).2)
 | v=>fu hp ct v
mutual
def refs:AV->List Nat
 | .ptr id _=>[id]
 | .ay id _ _=>[id]
 | .map id=>[id]
 | .it id=>[id]
 | .fn (.f _) first cap=>jB first++jB cap
 | .fn (.y l) _ _=>[l]
 | .agg cs=>jB cs
 | .af cs=>jB cs
 | _=>[]
def jB:List AV->List Nat
 | []=>[]
 | v::r=>refs v++jB r
end
def jC:Env->List Nat
 | []=>[]
 | (_,v)::r=>refs v++jC r
def pN:Obj->List Nat
 | .cells _ pu _ _ cs=>bif pu then [] else jB cs
 | .mp _ ks vs=>jB ks++jB vs
 | .si _ _=>[]
 | .lp tm _ _ _ _ _=>jC tm
mutual
def cy (f:Nat->Option Nat):AV->AV
 | .ptr id o=>match f id with | some j=> .ptr j o | none=> .undef
 | .ay id o n=>match f id with | some j=> .ay j o n | none=> .undef
 | .map id=>match f id with | some j=> .map j | none=> .undef
 | .it id=>match f id with | some j=> .it j | none=> .undef
 | .fn (.f g) first cap=> .fn (.f g) (fN f first) (fN f cap)
 | .fn (.y l) first cap=>match f l with | some j=> .fn (.y j) (fN f first) (fN f cap) | none=> .undef
 | .agg cs=> .agg (fN f cs)
 | .af cs=> .af (fN f cs)
 | v=>v
def fN (f:Nat->Option Nat):List AV->List AV
 | []=>[]
 | v::r=>cy f v::fN f r
end
def lz (f:Nat->Option Nat):Env->Env
 | []=>[]
 | (i,v)::r=>(i,cy f v)::lz f r
def lW (f:Nat->Option Nat):Obj->Obj
 | .cells rw pu ex sz cs=> .cells rw pu ex sz (bif pu then cs else fN f cs)
 | .mp rw ks vs=> .mp rw (fN f ks) (fN f vs)
 | .si s pos=> .si s pos
 | .lp tm ps cT body st pe=> .lp (lz f tm) ps cT body st pe
def eC (tm:Env):List Nat->Env
 | []=>[]
 | i::r=>(i,ak tm i)::eC tm r
def lX (i:Nat):List Nat->Bool
 | []=>false
 | j::r=>bif yu j i then true else lX i r
def reach (hp:Hp) (base:Nat):Nat->List Nat->List Nat->List Nat
 | 0,_,seen=>seen
 | _+1,[],seen=>seen
 | n+1,id::je,seen=>
  bif yL id base||lX id seen then reach hp base n je seen
  else match aF hp id with
   | some o=>reach hp base n (pN o++je) (seen++[id])
   | none=>reach hp base n je seen
def ju (base:Nat):Hp->List Nat
 | []=>[]
 | (id,o)::r=>bif yL id base then pN o++ju base r else ju base r
def mH (i:Nat):List Nat->Nat->Option Nat
 | [],_=>none
 | j::r,k=>bif yu j i then some k else mH i r (k+1)
def lf (base:Nat) (seen:List Nat) (id:Nat):Option Nat:=bif yL id base then some id else mH id seen base
def mE (base:Nat) (f:Nat->Option Nat):Hp->Hp
 | []=>[]
 | (id,o)::r=>bif yL id base then (id,lW f o)::mE base f r else mE base f r
def lh (hp:Hp) (f:Nat->Option Nat):List Nat->Nat->Hp->Hp
 | [],_,acc=>acc
 | id::r,k,acc=>match aF hp id with | some o=>lh hp f r (k+1) ((k,lW f o)::acc) | none=>lh hp f r (k+1) acc
def bS (live:List Nat) (s:St):St:=
 let tm:=eC s.tm live
 let seen:=reach s.hp s.base 100000 (jC tm++ju s.base s.hp) []
 let f:=lf s.base seen
 {tm:=lz f tm,hp:=lh s.hp f seen s.base (mE s.base f s.hp),ct:=s.base+seen.length,base:=s.base}
def rb (hp:Hp) (sz:Nat):AV->Option (Nat×List AV)
 | .aa=>some (0,[])
 | .ap _ n cs=>bif yu cs.length (n*sz) then some (n,cs) else none
 | .ay id o n=>
  match aF hp id with
  | some (.cells _ _ _ _ cs)=>bif yG (o+n*sz) cs.length then some (n,slice o (n*sz) cs) else none
  | _=>none
 | _=>none
def OY:List Nat->List AV
 | []=>[]
 | b::r=> .int .u8 b::OY r
def C5:List Nat->List Nat->Bool
 | _,[]=>false
 | [],_::_=>true
 | a::x,b::y=>yL a b||(yu a b&&C5 x y)
def bQ:List Nat->List Nat->Bool
 | [],[]=>true
 | a::x,b::y=>yu a b&&bQ x y
 | _,_=>false
def dS:List Nat->List AV->List AV->Option Bool
 | [],[],[]=>some true
 | 0::ks,.bool a::x,.bool b::y=>match dS ks x y with | some r=>some ((a==b)&&r) | none=>none
 | 1::ks,.int k a::x,.int k' b::y=>if k=k' then (match dS ks x y with | some r=>some ((a==b)&&r) | none=>none) else none
 | 2::ks,.str a::x,.str b::y=>match dS ks x y with | some r=>some (bQ a b&&r) | none=>none
 | _,_,_=>none
def iH:SA->AV->AV->Option Bool
 | .b,.bool a,.bool b=>some (a==b)
 | .sl,.aa,.aa=>some true
 | .sl,.aa,.ap _ _ _=>some false
 | .sl,.aa,.ay _ _ _=>some false
 | .sl,.ap _ _ _,.aa=>some false
 | .sl,.ay _ _ _,.aa=>some false
 | .fn,.jd,.jd=>some true
 | .fn,.jd,.fn _ _ _=>some false
 | .fn,.fn _ _ _,.jd=>some false
 | .ag ks,.agg a,.agg b=>dS ks a b
 | _,_,_=>none
def intCmp (op:wQ) (x y:Int):Option Bool:=
 match op with
 | .eql=>some (x==y)
 | .neq=>some (x !=y)
 | .lss=>some (decide (x<y))
 | .leq=>some (decide (x<=y))
 | .gtr=>some (decide (x>y))
 | .geq=>some (decide (x>=y))
 | _=>none
def lR (op:wQ) (k:yV) (x y:Int):Option AV:=
 match op with
 | .add=>some (.int k (k.wrap (x+y)))
 | .sub=>some (.int k (k.wrap (x-y)))
 | .mul=>some (.int k (k.wrap (x*y)))
 | .quo=>if y=0 then none else some (.int k (k.wrap (x.tdiv y)))
 | .rem=>if y=0 then none else some (.int k (x.tmod y))
 | .and=>some (.int k (k.wrap (xI k.bits x&&&xI k.bits y).toNat))
 | .or=>some (.int k (k.wrap (xI k.bits x|||xI k.bits y).toNat))
 | .xor=>some (.int k (k.wrap (xI k.bits x^^^xI k.bits y).toNat))
 | .andNot=>some (.int k (k.wrap (xI k.bits x&&&~~~(xI k.bits y)).toNat))
 | .shl | .shr=>none
 | op=>match intCmp op x y with | some b=>some (.bool b) | none=>none
def DV (op:wQ) (k:yV) (x y:Int):Option AV:=
 if y<0 then none else
 match op with
 | .shl=>some (.int k (k.wrap (x*2^(min y.toNat k.bits))))
 | .shr=>some (.int k (x.fdiv (2^(min y.toNat k.bits))))
 | _=>none
def Ls (op:wQ) (x y:List Nat):Option AV:=
 match op with
 | .add=>bif yG (x.length+y.length) 9223372036854775807 then some (.str (x++y)) else none
 | .eql=>some (.bool (bQ x y))
 | .neq=>some (.bool (!bQ x y))
 | .lss=>some (.bool (C5 x y))
 | .leq=>some (.bool (C5 x y||bQ x y))
 | .gtr=>some (.bool (!(C5 x y||bQ x y)))
 | .geq=>some (.bool (!C5 x y))
 | _=>none
def Wl (op:wQ) (k:vL) (x y:Nat):Option AV:=
 let c:=k.format.order x y
 let ar (r:Option Nat):Option AV:=match r with | some b=>some (.b5 k b) | none=>none
 match op with
 | .add=>ar (k.format.add x y)
 | .sub=>ar (k.format.sub x y)
 | .mul=>ar (k.format.mul x y)
 | .quo=>ar (k.format.div x y)
 | .eql=>some (.bool (c==some .eq))
 | .neq=>some (.bool (c !=some .eq))
 | .lss=>some (.bool (c==some .lt))
 | .leq=>some (.bool (c==some .lt||c==some .eq))
 | .gtr=>some (.bool (c==some .gt))
 | .geq=>some (.bool (c==some .gt||c==some .eq))
 | _=>none
def binOp (op:wQ) (x y:AV):Option AV:=
 match x,y with
 | .int k a,.int k' b=>
  match op with
  | .shl | .shr=>DV op k a b
  | _=>if k=k' then lR op k a b else none
 | .b5 k a,.b5 k' b=>if k=k' then Wl op k a b else none
 | .str a,.str b=>Ls op a b
 | _,_=>none
def unOp (op:ybQ) (x:AV):Option AV:=
 match op,x with
 | .neg,.int k n=>some (.int k (k.wrap (0-n)))
 | .xor,.int k n=>lR .xor k (if k.signed then -1 else k.max) n
 | .not,.bool b=>some (.bool !b)
 | .neg,.b5 k b=>some (.b5 k (b^^^2^(k.format.exponentBits+k.format.fractionBits)))
 | _,_=>none
def oB (c:Conv) (x:AV):Option AV:=
 match c,x with
 | .toInt k,.int _ n=>some (.int k (k.wrap n))
 | .toFlt k,.int _ n=>some (.b5 k (k.nearest n))
 | .toInt k,.b5 s b=>
  match (s.decode b).toInt .zero with
  | some n=>if k.min<=n/\n<=k.max then some (.int k n) else none
  | none=>none
 | .toFlt k,.b5 s b=>
  if s=k then some (.b5 k b) else
  match s.decode b with
  | .number sg m e=>if (k.decode (k.encode (.number sg m e))).isInfinity then none else some (.b5 k (k.encode (.number sg m e)))
  | _=>none
 | .str,.str s=>some (.str s)
 | _,_=>none
def hX (sz:Nat) (ag:Bool) (cs:List AV):Option AV:=
 bif ag then (bif yG sz cs.length then some (.agg (cs.take sz)) else none)
 else match cs with | v::_=>some v | []=>none
def dP (x:AV):Option Nat:=
 match x with
 | .int _ n=>match n with | .ofNat k=>some k | .negSucc _=>none
 | _=>none
def dE (tm:Env) (d:Nat):Option X->Option Nat
 | none=>some d
 | some x=>dP (aG tm x)
def fC (hp:Hp) (k:Cut) (x:AV) (tm:Env) (lo hi:Option X):Option AV:=
 match k,x with
 | .str,.str s=>
  match dE tm 0 lo,dE tm s.length hi with
  | some l,some h=>bif yG l h&&yG h s.length then some (.str ((s.take h).drop l)) else none
  | _,_=>none
 | .sl _,.aa=>
  match dE tm 0 lo,dE tm 0 hi with
  | some 0,some 0=>some .aa
  | _,_=>none
 | .sl sz,.ap ex n cs=>
  match dE tm 0 lo,dE tm n hi with
  | some l,some h=>bif yG l h&&yG h n then some (.ap (ex&&yu h n) (h-l) (slice (l*sz) ((h-l)*sz) cs)) else none
  | _,_=>none
 | .sl sz,.ay id o n=>
  match aF hp id with
  | some (.cells _ _ _ z _)=>
   match dE tm 0 lo,dE tm n hi with
   | some l,some h=>
    bif yG l h&&yG h n&&yu z sz then
     bif yu l h&& !yu l 0 then some (.ap false 0 []) else some (.ay id (o+l*sz) (h-l))
    else none
   | _,_=>none
  | _=>none
 | _,_=>none
def fill (tm:Env):List AV->List (Nat×Nat×X)->Option (List AV)
 | cs,[]=>some cs
 | cs,(o,sz,x)::r=>
  let new:=cellsOf (aG tm x)
  bif yu new.length sz&&yG (o+sz) cs.length&&cr new then fill tm (over o new cs) r else none
def GU:AV->AV->Option Bool
 | .int k a,.int k' b=>if k=k' then some (a==b) else none
 | .str a,.str b=>some (bQ a b)
 | .bool a,.bool b=>some (a==b)
 | _,_=>none
def zO:Nat->AV->Bool
 | 0,.bool _=>true
 | 1,.int _ _=>true
 | 2,.str _=>true
 | _,_=>false
def El (k:AV):List AV->List AV->Option (Option AV)
 | [],_=>some none
 | k'::ks,v::vs=>match GU k k' with | some true=>some (some v) | some false=>El k ks vs | none=>none
 | _::_,[]=>none
def Cy (k v:AV):List AV->List AV->Option (List AV×List AV)
 | [],[]=>some ([k],[v])
 | k'::ks,u::us=>
  match GU k k' with
  | some true=>some (k'::ks,v::us)
  | some false=>match Cy k v ks us with | some (kL,us')=>some (k'::kL,u::us') | none=>none
  | none=>none
 | _,_=>none
def min2:AV->AV->Option AV
 | .int k x,.int _ y=>some (.int k (if y<x then y else x))
 | .b5 k x,.b5 _ y=>
  match k.format.order x y with
  | none=>none
  | some .lt=>some (.b5 k x)
  | some .gt=>some (.b5 k y)
  | some .eq=>some (.b5 k (if (k.decode x).neg then x else y))
 | _,_=>none
def max2:AV->AV->Option AV
 | .int k x,.int _ y=>some (.int k (if y>x then y else x))
 | .b5 k x,.b5 _ y=>
  match k.format.order x y with
  | none=>none
  | some .lt=>some (.b5 k y)
  | some .gt=>some (.b5 k x)
  | some .eq=>some (.b5 k (if (k.decode x).neg then y else x))
 | _,_=>none
def Ci (f:AV->AV->Option AV):AV->List AV->Option AV
 | a,[]=>some a
 | a,b::r=>match f a b with | some c=>Ci f c r | none=>none
def room:Nat:=1099511627776
abbrev gP:=Option (AV×Hp×Nat)
def jf (hp:Hp) (sz:Nat) (ag:Bool):AV->Option AV
 | .ptr id o=>match aF hp id with | some (.cells _ _ _ _ cs)=>hX sz ag (cs.drop o) | _=>none
 | .cz cs=>hX sz ag cs
 | _=>none
def Lt (k:Nat):AV->Option AV
 | .ptr id o=>some (.ptr id (o+k))
 | .cz cs=>bif yG k cs.length then some (.cz (cs.drop k)) else none
 | _=>none
def PL (o sz:Nat) (ag:Bool):AV->Option AV
 | .agg cs=>hX sz ag (cs.drop o)
 | _=>none
def kw (sz i:Nat):AV->Option AV
 | .ay id o n=>bif yL i n then some (.ptr id (o+i*sz)) else none
 | .ap _ n cs=>bif yL i n then some (.cz (cs.drop (i*sz))) else none
 | _=>none
def PM (len sz i:Nat):AV->Option AV
 | .ptr id o=>bif yL i len then some (.ptr id (o+i*sz)) else none
 | .cz cs=>bif yL i len then some (.cz (cs.drop (i*sz))) else none
 | _=>none
def nC (i:Nat):AV->Option AV
 | .str s=>match s[i]? with | some b=>some (.int .u8 b) | none=>none
 | _=>none
def PN (len sz:Nat) (ag:Bool) (i:Nat):AV->Option AV
 | .agg cs=>bif yL i len then hX sz ag (cs.drop (i*sz)) else none
 | _=>none
def Cj (hp:Hp) (k:AV):AV->Option (Option AV)
 | .kD=>some none
 | .map id=>match aF hp id with | some (.mp _ ks vs)=>El k ks vs | _=>none
 | .jD ks vs=>El k ks vs
 | _=>none
def jb (hp:Hp):Nat->AV->Option AV
 | 0,.str s=>some (.int .i64 s.length)
 | 1,.aa=>some (.int .i64 0)
 | 1,.ap _ n _=>some (.int .i64 n)
 | 1,.ay _ _ n=>some (.int .i64 n)
 | 2,.kD=>some (.int .i64 0)
 | 2,.jD ks _=>some (.int .i64 ks.length)
 | 2,.map id=>match aF hp id with | some (.mp _ ks _)=>some (.int .i64 ks.length) | _=>none
 | _,_=>none
def bH (tm:Env) (hp:Hp):Op->Option AV
 | .ck x=>some (aG tm x)
 | .pick c a b=>match aG tm c with | .bool t=>some (bif t then aG tm a else aG tm b) | _=>none
 | .cK zero parts=>match fill tm zero parts with | some cs=>some (.agg cs) | none=>none
 | .ld sz ag x=>jf hp sz ag (aG tm x)
 | .LP x=>
  match aG tm x with
  | .ptr id o=>some (.ptr id o)
  | .cz cs=>some (.cz cs)
  | .fn f a b=>some (.fn f a b)
  | _=>none
 | .bin op x y=>binOp op (aG tm x) (aG tm y)
 | .eq ne k x y=>match iH k (aG tm x) (aG tm y) with | some r=>some (.bool (ne !=r)) | none=>none
 | .un op x=>unOp op (aG tm x)
 | .cv k x=>oB k (aG tm x)
 | .Ip f first cap=>some (.fn f (dK tm first) (dK tm cap))
 | .eF k x lo hi=>fC hp k (aG tm x) tm lo hi
 | .off k x=>Lt k (aG tm x)
 | .M6 o sz ag x=>PL o sz ag (aG tm x)
 | .bz sz x i=>match dP (aG tm i) with | some j=>kw sz j (aG tm x) | none=>none
 | .Iq len sz x i=>match dP (aG tm i) with | some j=>PM len sz j (aG tm x) | none=>none
 | .lE x i=>match dP (aG tm i) with | some j=>nC j (aG tm x) | none=>none
 | .Ir len sz ag x i=>match dP (aG tm i) with | some j=>PN len sz ag j (aG tm x) | none=>none
 | .SB kk zero ok m k=>
  bif zO kk (aG tm k) then
   match Cj hp (aG tm k) (aG tm m) with
   | some (some v)=>some (bif ok then .af [v,.bool true] else v)
   | some none=>some (bif ok then .af [zero,.bool false] else zero)
   | none=>none
  else none
 | .ext i x=>match aG tm x with | .af vs=>vs[i]? | _=>none
 | .len k x=>jb hp k (aG tm x)
 | .mn xs=>match dK tm xs with | a::r=>Ci min2 a r | []=>none
 | .mx xs=>match dK tm xs with | a::r=>Ci max2 a r | []=>none
 | _=>none
def de (tm:Env) (hp:Hp) (ct:Nat):Op->Option (AV×Obj)
 | .box sz x=>
  let cs:=cellsOf (aG tm x)
  bif yu cs.length sz&&cr cs then some (.ptr ct 0,.cells true (aO cs) true sz cs) else none
 | .cQ n sz zero parts=>
  match fill tm zero parts with
  | some cs=>bif yu cs.length (n*sz) then some (.ay ct 0 n,.cells true (aO cs) true sz cs) else none
  | none=>none
 | .iA sz bytes zero len cap=>
  match dP (aG tm len),dP (aG tm cap) with
  | some l,some c=>
   bif yG l c&&(yG c room&&(yG (c*bytes) room&&(yu zero.length sz&&cr zero))) then
    some (.ay ct 0 l,.cells true (aO zero) (yu l c) sz (yF l zero).flatten)
   else none
  | _,_=>none
 | .AY=>some (.map ct,.mp true [] [])
 | .qB x=>match aG tm x with | .str s=>some (.it ct,.si s 0) | _=>none
 | _=>none
def decodeL (s:List Nat) (i:Nat):Nat×Nat:=
 let at' (k:Nat):Nat:=s.getD (i+k) 0
 let cont (k:Nat):Bool:=decide (i+k<s.length)&&at' k/64==2
 let b0:=at' 0
 if b0<0x80 then (b0,1)
 else if b0/32==6&&cont 1 then
  let c:=(b0%32)*64+at' 1%64
  if c>=0x80 then (c,2) else (vP,1)
 else if b0/16==14&&cont 1&&cont 2 then
  let c:=(b0%16)*4096+(at' 1%64)*64+at' 2%64
  if c>=0x800&&yaE c then (c,3) else (vP,1)
 else if b0/8==30&&cont 1&&cont 2&&cont 3 then
  let c:=(b0%8)*262144+(at' 1%64)*4096+(at' 2%64)*64+at' 3%64
  if c>=0x10000&&yaE c then (c,4) else (vP,1)
 else (vP,1)
def zX (hp:Hp) (sz:Nat):AV->Option (Nat×List AV)
 | .str b=>bif yu sz 1 then some (b.length,OY b) else none
 | v=>rb hp sz v
def dz (tm:Env) (hp:Hp) (ct:Nat):Op->gP
 | .st sz x v=>
  let new:=cellsOf (aG tm v)
  match aG tm x with
  | .ptr id o=>
   match aF hp id with
   | some (.cells true pu ex z cs)=>
    bif yu new.length sz&&yG (o+sz) cs.length&&cr new then
     some (.af [],bf hp id (.cells true (pu&&aO new) ex z (over o new cs)),ct)
    else none
   | _=>none
  | _=>none
 | .qw kk m k v=>
  match aG tm m with
  | .map id=>
   match aF hp id with
   | some (.mp true ks vs)=>bif !zO kk (aG tm k) then none else match Cy (aG tm k) (aG tm v) ks vs with | some (kL,eH)=>some (.af [],bf hp id (.mp true kL eH),ct) | none=>none
   | _=>none
  | _=>none
 | .qC x=>
  match aG tm x with
  | .it id=>
   match aF hp id with
   | some (.si s pos)=>
    bif yL pos s.length then
     match decodeL s pos with
     | (c,wd)=>some (.af [.bool true,.int .i64 pos,.int .i32 c],bf hp id (.si s (pos+wd)),ct)
    else some (.af [.bool false],hp,ct)
   | _=>none
  | _=>none
 | .a7 sz bytes s x=>
  match zX hp sz (aG tm x) with
  | none=>none
  | some (m,new)=>
   match aG tm s with
   | .aa=>
    bif yu m 0 then some (.aa,hp,ct)
    else bif yG m room&&(yG (m*bytes) room&&yL 0 sz) then some (.ay ct 0 m,(ct,.cells true (aO new) false sz new)::hp,ct+1) else none
   | .ap true n cs=>
    bif yu m 0 then some (.ap true n cs,hp,ct)
    else bif yG (n+m) room&&(yG ((n+m)*bytes) room&&(yu cs.length (n*sz)&&yL 0 sz)) then some (.ay ct 0 (n+m),(ct,.cells true (aO cs&&aO new) false sz (cs++new))::hp,ct+1) else none
   | .ay id o n=>
    match aF hp id with
    | some (.cells true pu _ z cs)=>
     bif yu z sz&&(yG (n+m) room&&(yG ((n+m)*bytes) room&&(yG (o+n*sz) cs.length&&(yL 0 sz&&cr new)))) then
      some (.ay ct 0 (n+m),(ct,.cells true (pu&&aO new) false sz (slice o (n*sz) cs++new))::eT hp id,ct+1)
     else none
    | _=>none
   | _=>none
 | .qD sz d s=>
  match rb hp sz (aG tm s),aG tm d with
  | some (m,new),.ay id o n=>
   match aF hp id with
   | some (.cells true pu ex z cs)=>
    bif yu z sz&&(yG (o+n*sz) cs.length&&cr new) then
     some (.int .i64 (min m n:Nat),bf hp id (.cells true (pu&&aO new) ex z (over o (new.take (min m n*sz)) cs)),ct)
    else none
   | _=>none
  | _,_=>none
 | _=>none
def jM:X->List Nat | .t i=>[i] | .c _=>[]
def zY:List X->List Nat
 | []=>[]
 | x::r=>jM x++zY r
def Lu:Option X->List Nat | some x=>jM x | none=>[]
def Lv:List (Nat×Nat×X)->List Nat
 | []=>[]
 | (_,_,x)::r=>jM x++Lv r
def kY:Op->List Nat
 | .ck x | .box _ x | .ld _ _ x | .LP x | .un _ x | .cv _ x | .off _ x | .M6 _ _ _ x | .qB x | .qC x | .ext _ x | .len _ x=>jM x
 | .pick a b c | .qw _ a b c=>jM a++(jM b++jM c)
 | .cK _ ps | .cQ _ _ _ ps=>Lv ps
 | .st _ a b | .bin _ a b | .eq _ _ a b | .bz _ a b | .Iq _ _ a b | .lE a b | .Ir _ _ _ a b | .SB _ _ _ a b | .a7 _ _ a b | .qD _ a b=>jM a++jM b
 | .Ip _ a b=>zY a++zY b
 | .AY=>[]
 | .iA _ _ _ a b=>jM a++jM b
 | .eF _ x a b=>jM x++(Lu a++Lu b)
 | .call _ f xs=>jM f++zY xs
 | .jA _ f xs=>jM f++zY xs
 | .jT _ _ a b=>jM a++jM b
 | .mn xs | .mx xs=>zY xs
def bK:Op->Nat
 | .ck _ | .pick _ _ _ | .cK _ _ | .LP _ | .bin _ _ _ | .eq _ _ _ _ | .un _ _ | .cv _ _ | .Ip _ _ _ | .off _ _ | .M6 _ _ _ _ | .bz _ _ _ | .Iq _ _ _ _ | .lE _ _ | .Ir _ _ _ _ _ | .ext _ _ | .mn _ | .mx _=>0
 | .eF .str _ _ _ | .len 0 _ | .len 1 _=>0
 | .st _ _ _ | .qw _ _ _ _ | .qC _ | .a7 _ _ _ _ | .qD _ _ _ | .jA _ _ _ | .jT _ _ _ _ | .call .heap _ _ | .call .dyn _ _=>2
 | _=>1
def Wm:Option (Nat×Bool)->List Nat | some (t,_)=>[t] | none=>[]
def D3 (o:bc):List Nat:=Wm o.guard++kY o.op
def G8 (d:Option Nat) (l:List Nat):Bool:=match d with | some i=>lX i l | none=>false
def alg (d e:Option Nat):Bool:=match d,e with | some i,some j=>yu i j | _,_=>false
def OB (a b:bc):Bool:=G8 a.dst (D3 b)||G8 b.dst (D3 a)||alg a.dst b.dst
def G9 (sz:Nat) (ag:Bool) (t:Nat):List (Nat×Bool×Nat)->Bool
 | []=>false
 | (s,g,u)::r=>(yu s sz&&(g==ag&&yu u t))||G9 sz ag t r
def GV (t:Nat):List bc->Bool
 | []=>true
 | o::r=> !G8 o.dst [t]&&GV t r
def Ky (a b:bc) (r:List bc):Bool:=
 match a.guard,a.op,b.op with
 | none,.ld sz ag (.t t),.jA rs _ _=>G9 sz ag t rs&&GV t (a::r)
 | none,.ld sz ag (.t t),.jT rs _ _ _=>G9 sz ag t rs&&GV t (a::r)
 | _,_,_=>false
def J8 (a b:bc):Bool:=
 match bK a.op,bK b.op with
 | 1,2 | 2,1 | 2,2=>true
 | _,_=>false
def OC (m:Nat) (b:bc):List bc->Nat->Bool
 | [],_=>true
 | a::r,i=>(uj m i|| !(OB a b||(J8 a b&& !Ky a b r)))&&OC m b r (i+1)
def Gk (done:List bc):List bc->List Nat->Bool
 | [],_=>true
 | b::r,m::ms=>OC m b done 0&&Gk (done++[b]) r ms
 | _::_,[]=>false
def OZ (m:Nat):List bc->Nat->List (Nat×Bool×Nat)
 | [],_=>[]
 | a::r,i=>
  match uj m i,a with
  | false,⟨_,none,.ld sz ag (.t t)⟩=>(sz,ag,t)::OZ m r (i+1)
  | _,_=>OZ m r (i+1)
def stOp (rs:List (Nat×Bool×Nat)) (sz:Nat) (x v:X):Op:=match rs with | []=> .st sz x v | rs=> .jT rs sz x v
def Af (done:List bc):List bc->List Nat->List bc
 | ⟨d,g,.jA _ f xs⟩::r,m::ms=>let o:bc:=⟨d,g,.jA (OZ m done 0) f xs⟩;o::Af (done++[o]) r ms
 | ⟨d,g,.st sz x v⟩::r,m::ms=>let o:bc:=⟨d,g,stOp (OZ m done 0) sz x v⟩;o::Af (done++[o]) r ms
 | o::r,_::ms=>o::Af (done++[o]) r ms
 | l,_=>l
abbrev aJ:=Nat->Option aI
structure Lib where
 pure:Nat->Option (List AV->Option AV)
 heap:Nat->Option (Hp->Nat->List AV->gP)
abbrev cN:=VC->St->Option (Ex×St)
def fL:Nat->List AV->Env
 | _,[]=>[]
 | i,v::r=>(i,v)::fL (i+1) r
def results1 (s:St):RV->Option AV
 | .t i=>some (ak s.tm i)
 | .cell i sz ag=>
  match ak s.tm i with
  | .ptr id o=>match aF s.hp id with | some (.cells _ _ _ _ cs)=>hX sz ag (cs.drop o) | _=>none
  | .cz cs=>hX sz ag cs
  | _=>none
def lO (s:St):List RV->Option (List AV)
 | []=>some []
 | r::rest=>match results1 s r,lO s rest with | some v,some vs=>some (v::vs) | _,_=>none
def iX (s:St) (rs:List RV):Option AV:=
 match lO s rs with
 | some [v]=>some v
 | some vs=>some (.af vs)
 | none=>none
def bZ (P:aJ) (L:Lib) (self:cN) (n:Nat) (av:List AV):Option AV:=
 match L.pure n with
 | some sp=>sp av
 | none=>
  match P n with
  | none=>none
  | some F=>
   match self F.body ⟨fL 0 av,[],0,0⟩ with
   | some (.normal,s) | some (.ret,s)=>match iX s F.dU with | some v=>result s.hp v | none=>none
   | _=>none
def VQ:Ex->Ao
 | .normal=> .none
 | .ret=> .ret
 | .exit id=> .exit id
def so:Env->List Nat->List AV->Option Env
 | tm,[],[]=>some tm
 | tm,p::ps,v::vs=>so ((p,v)::tm) ps vs
 | _,_,_=>none
def ja (P:aJ) (L:Lib) (self:cN) (hp:Hp) (ct:Nat) (n:Nat) (av:List AV):gP:=
 match L.heap n with
 | some sp=>sp hp ct av
 | none=>
  match P n with
  | none=>none
  | some F=>
   match self F.body ⟨fL 0 av,hp,ct,ct⟩ with
   | some (.normal,s) | some (.ret,s)=>match iX s F.dU with | some v=>some (v,s.hp,s.ct) | none=>none
   | _=>none
def oe (self:cN) (hp:Hp) (ct:Nat) (l:Nat) (xs:List AV):gP:=
 match aF hp l with
 | some (.lp tm ps cT body 0 _)=>
  match so tm ps xs with
  | none=>none
  | some cE=>
   match self cT ⟨cE,hp,ct,ct⟩ with
   | some (.normal,s1)=>
    match aF s1.hp l with
    | some (.lp jU nP AZ Em 0 A0)=>
     match self body ⟨s1.tm,bf s1.hp l (.lp jU nP AZ Em 1 A0),s1.ct,s1.ct⟩ with
     | some (ex,s2)=>
      match aF s2.hp l with
      | some (.lp sZ qF M7 Lw 1 _)=>
       match ex with
       | .normal=>some (.bool true,bf s2.hp l (.lp sZ qF M7 Lw 0 .none),s2.ct)
       | ex=>some (.bool false,bf s2.hp l (.lp sZ qF M7 Lw 2 (VQ ex)),s2.ct)
      | _=>none
     | none=>none
    | _=>none
   | _=>none
 | _=>none
def fe (P:aJ) (L:Lib) (self:cN) (hp:Hp) (ct:Nat) (m:Md) (fv:AV) (xs:List AV):gP:=
 match fv with
 | .fn (.f n) first cap=>
  match m with
  | .pure=>
   match dc deep hp (first++(xs++cap)) with
   | some (av,bI)=>match bZ P L self n av with | some r=>some (shut r,bI,ct) | none=>none
   | none=>none
  | .own=>
   match dc deep hp (first++(xs++cap)) with
   | some (av,bI)=>match bZ P L self n av with | some r=>some (own bI ct r) | none=>none
   | none=>none
  | .heap=>ja P L self hp ct n (first++(xs++cap))
  | .dyn=>
   bif aO (first++(xs++cap)) then
    match bZ P L self n (first++(xs++cap)) with | some r=>some (shut r,hp,ct) | none=>none
   else ja P L self hp ct n (first++(xs++cap))
 | .fn (.y l) _ _=>
  match m with
  | .heap | .dyn=>oe self hp ct l xs
  | _=>none
 | _=>none
def WK:AV->AV->Bool
 | .int k a,.int k' b=>decide (k=k')&&a==b
 | .bool a,.bool b=>a==b
 | .str a,.str b=>bQ a b
 | .aa,.aa=>true
 | .lm,.lm=>true
 | .ptr i o,.ptr j p=>yu i j&&yu o p
 | .ay i o n,.ay j p m=>yu i j&&(yu o p&&yu n m)
 | .map i,.map j=>yu i j
 | _,_=>false
def BU (tm:Env) (hp aw:Hp):List (Nat×Bool×Nat)->Bool
 | []=>true
 | (sz,ag,x)::r=>
  match jf hp sz ag (ak tm x),jf aw sz ag (ak tm x) with
  | some a,some b=>WK a b&&BU tm hp aw r
  | _,_=>false
def pG (tm:Env) (id:Nat):List (Nat×Bool×Nat)->Bool
 | []=>true
 | (_,_,x)::r=>(match ak tm x with | .ptr j _=> !yu j id | .cz _=>true | _=>false)&&pG tm id r
def bn (P:aJ) (L:Lib) (self:cN) (tm:Env) (hp:Hp) (ct:Nat) (o:Op):gP:=
 match o with
 | .call m f xs=>fe P L self hp ct m (aG tm f) (dK tm xs)
 | .jA rs f xs=>
  match fe P L self hp ct .dyn (aG tm f) (dK tm xs) with
  | some (v,aw,a6)=>bif BU tm hp aw rs then some (v,aw,a6) else none
  | none=>none
 | .jT rs sz x v=>
  match aG tm x with
  | .ptr id _=>bif pG tm id rs then dz tm hp ct (.st sz x v) else none
  | _=>none
 | .st .. | .qw .. | .qC .. | .a7 .. | .qD .. =>dz tm hp ct o
 | .box .. | .cQ .. | .iA .. | .AY | .qB .. =>match de tm hp ct o with | some (v,b)=>some (v,(ct,b)::hp,ct+1) | none=>none
 | o=>match bH tm hp o with | some v=>some (v,hp,ct) | none=>none
def put (d:Option Nat) (v:AV) (tm:Env):Env:=
 match d with
 | some i=>(i,v)::tm
 | none=>tm
def dT (P:aJ) (L:Lib) (self:cN):List bc->St->Option St
 | [],s=>some s
 | ⟨d,g,o⟩::r,s=>
  let want:=match g with | none=>some true | some (t,b)=>match ak s.tm t with | .bool c=>some (c==b) | .af []=>some false | _=>none
  match want with
  | some true=>
   match bn P L self s.tm s.hp s.ct o with
   | some (v,hp,ct)=>dT P L self r {s with tm:=put d v s.tm,hp:=hp,ct:=ct}
   | none=>none
  | some false=>dT P L self r {s with tm:=put d (.af []) s.tm}
  | none=>none
def pO:List Nat->St->Option St
 | [],s=>some s
 | t::r,s=>
  match freeze deep s.hp (ak s.tm t) with
  | some (v,hp)=>pO r {s with tm:=(t,v)::s.tm,hp:=hp}
  | none=>none
def bR (P:aJ) (L:Lib) (self:cN):VC->St->Option (Ex×St)
 | .skip,s=>some (.normal,s)
 | .aS ops,s=>match dT P L self ops s with | some s'=>some (.normal,s') | none=>none
 | .seq a b,s=>
  match bR P L self a s with
  | some (.normal,s1)=>bR P L self b s1
  | r=>r
 | .cond x a b,s=>
  match aG s.tm x with
  | .bool t=>bif t then bR P L self a s else bR P L self b s
  | _=>none
 | .aQ id a,s=>
  match bR P L self a s with
  | some (.exit j,s1)=>bif yu j id then some (.normal,s1) else some (.exit j,s1)
  | r=>r
 | .kp live,s=>some (.normal,bS live s)
 | .fz ts,s=>match pO ts s with | some s'=>some (.normal,s') | none=>none
 | .loop live a,s=>
  match bR P L self a (bS live s) with
  | some (.normal,s1)=>self (.loop live a) s1
  | r=>r
 | .rf f ps cT body,s=>
  match aG s.tm f with
  | .fn (.f n) first cap=>
   match L.heap n with
   | some _=>none
   | none=>
    match ja P L self ((s.ct,.lp s.tm ps cT body 0 .none)::s.hp) (s.ct+1) n (first++(.fn (.y s.ct) [] []::cap)) with
    | some (_,hp,ct)=>
     match aF hp s.ct with
     | some (.lp _ _ _ _ st pe)=>
      bif yu st 1 then none else
      match pe with
      | .none=>some (.normal,{s with hp:=eT hp s.ct,ct:=ct})
      | .ret=>some (.ret,{s with hp:=eT hp s.ct,ct:=ct})
      | .exit id=>some (.exit id,{s with hp:=eT hp s.ct,ct:=ct})
     | _=>none
    | none=>none
  | _=>none
 | .exit id,s=>some (.exit id,s)
 | .ret,s=>some (.ret,s)
def ev (P:aJ) (L:Lib) (n:Nat):cN:=Nat.rec (fun _ _=>none) (fun _ ih=>bR P L ih) n
def evF (P:aJ) (L:Lib) (n:Nat) (f:Nat) (av:List AV):Option AV:=bZ P L (ev P L n) f av
end
section
open Go
structure Pl where
 b:Nat
 o:Nat
 e:Nat
 z:Nat
abbrev Mp:=Nat->Option Pl
section
variable (aj:Nat->Nat) (m:Mp) (S:Nat->Prop) (w:yh)
mutual
def an:AV->yf->Prop
 | .int k n,v=>v= .int k n
 | .bool b,v=>v= .bool b
 | .b5 k b,v=>v= .float k b
 | .str s,v=>∃t:ByteArray,v= .string t/\t.data.toList.map xf=s
 | .lm,v=>v= .pointer none
 | .ptr id o,v=>∃p,m id=some p/\v= .pointer (some ⟨p.b,p.o+o,none⟩)
 | .cz cs,v=>∃b o,v= .pointer (some ⟨b,o,none⟩)/\(cs=[]\/S b)/\aO cs=true/\b7 cs b o
 | .aa,v=>v= .slice none 0 0
 | .ap ex n cs,v=>(∃b o c,v= .slice (some ⟨b,o,none⟩) n c/\n<=c/\(ex=true->c=n)/\(cs=[]\/S b)/\aO cs=true/\b7 cs b o)\/(∃a,v= .slice (some a) 0 0/\n=0/\cs=[])
 | .bV _ _ _ _,_=>False
 | .ay id o n,v=>∃p c,m id=some p/\v= .slice (some ⟨p.b,p.o+o,none⟩) n c/\n<=c/\o+c*p.z=p.e
 | .fn (.f g) first cap,v=>∃fi ca:Array yf,v= .func (.func (aj g)) fi ca/\aA first fi.toList/\aA cap ca.toList
 | .fn (.y l) _ _,v=>∃p,m l=some p/\v= .func (.yield p.b) #[] #[]
 | .jd,v=>v= .nilFunc
 | .kD,v=>v= .map none
 | .map id,v=>∃p,m id=some p/\v= .map (some p.b)
 | .jD ks vs,v=>∃b es clock,v= .map (some b)/\S b/\aO ks=true/\aO vs=true/\w.heap[b]? =some (.map es clock)/\
   aA ks (es.toList.map (·.key))/\aA vs (es.toList.map (·.val))
 | .it id,v=>∃p,m id=some p/\v= .pointer (some ⟨p.b,0,none⟩)
 | .agg cs,v=>∃xs:Array yf,v= .agg xs/\aA cs xs.toList
 | .af cs,v=>∃xs:Array yf,v= .tuple xs/\aA cs xs.toList
 | .undef,_=>True
def aA:List AV->List yf->Prop
 | [],us=>us=[]
 | c::cs,us=>∃u r,us=u::r/\an c u/\aA cs r
def b7:List AV->Nat->Nat->Prop
 | [],_,_=>True
 | c::cs,b,o=>(∃u,w.cell? ⟨b,o,none⟩=some u/\an c u)/\b7 cs b (o+1)
end
end
def fS (S:Nat->Prop) (w w':yh):Prop:=∀b,S b->w'.heap[b]? =w.heap[b]?
def N5 {w w':yh} {b o:Nat} (h:w'.heap[b]? =w.heap[b]?):w'.cell? ⟨b,o,none⟩=w.cell? ⟨b,o,none⟩:=by
 simp only [World.cell?,h]
section
variable {aj:Nat->Nat} {m m':Mp} {S S':Nat->Prop} {w w':yh}
mutual
def mv (hm:∀id p,m id=some p->m' id=some p) (hS:∀b,S b->S' b) (hw:fS S w w'):
  ∀(v:AV) (u:yf),an aj m S w v u->an aj m' S' w' v u
 | .int _ _,_,h | .bool _,_,h | .b5 _ _,_,h | .str _,_,h | .lm,_,h | .aa,_,h | .jd,_,h | .kD,_,h | .undef,_,h=>by
  simpa only [an] using h
 | .ptr id o,u,h=>by
  simp only [an] at h ⊢;obtain ⟨p,h1,h2⟩:=h;exact ⟨p,hm _ _ h1,h2⟩
 | .cz cs,u,h=>by
  simp only [an] at h ⊢;obtain ⟨b,o,h1,h2,h3,h4⟩:=h;refine ⟨b,o,h1,h2.imp id (hS b),h3,?_⟩;rcases h2 with rfl | h2
  ·simp only [b7]
  ·exact Uh hm hS hw cs b o h2 h4
 | .ap ex n cs,u,h=>by
  simp only [an] at h ⊢;rcases h with ⟨b,o,c,h1,h2,h3,h4,h5,h6⟩ | h
  ·refine .inl ⟨b,o,c,h1,h2,h3,h4.imp id (hS b),h5,?_⟩;rcases h4 with rfl | h4
   ·simp only [b7]
   ·exact Uh hm hS hw cs b o h4 h6
  ·exact .inr h
 | .bV _ _ _ _,u,h=>by simp only [an] at h
 | .ay id o n,u,h=>by
  simp only [an] at h ⊢;obtain ⟨p,c,h1,h2⟩:=h;exact ⟨p,c,hm _ _ h1,h2⟩
 | .fn (.f g) first cap,u,h=>by
  simp only [an] at h ⊢;obtain ⟨fi,ca,h1,h2,h3⟩:=h;exact ⟨fi,ca,h1,ib hm hS hw first _ h2,ib hm hS hw cap _ h3⟩
 | .fn (.y l) _ _,u,h=>by
  simp only [an] at h ⊢;obtain ⟨p,h1,h2⟩:=h;exact ⟨p,hm _ _ h1,h2⟩
 | .map id,u,h=>by
  simp only [an] at h ⊢;obtain ⟨p,h1,h2⟩:=h;exact ⟨p,hm _ _ h1,h2⟩
 | .jD ks vs,u,h=>by
  simp only [an] at h ⊢;obtain ⟨b,es,clock,h1,h2,h3,h4,h5,h6,h7⟩:=h;exact ⟨b,es,clock,h1,hS b h2,h3,h4,(hw b h2).trans h5,ib hm hS hw ks _ h6,ib hm hS hw vs _ h7⟩
 | .it id,u,h=>by
  simp only [an] at h ⊢;obtain ⟨p,h1,h2⟩:=h;exact ⟨p,hm _ _ h1,h2⟩
 | .agg cs,u,h=>by
  simp only [an] at h ⊢;obtain ⟨xs,h1,h2⟩:=h;exact ⟨xs,h1,ib hm hS hw cs _ h2⟩
 | .af cs,u,h=>by
  simp only [an] at h ⊢;obtain ⟨xs,h1,h2⟩:=h;exact ⟨xs,h1,ib hm hS hw cs _ h2⟩
def ib (hm:∀id p,m id=some p->m' id=some p) (hS:∀b,S b->S' b) (hw:fS S w w'):
  ∀(vs:List AV) (us:List yf),aA aj m S w vs us->aA aj m' S' w' vs us
 | [],us,h=>by simpa only [aA] using h
 | v::r,us,h=>by
  simp only [aA] at h ⊢;obtain ⟨u,t,h1,h2,h3⟩:=h;exact ⟨u,t,h1,mv hm hS hw v u h2,ib hm hS hw r t h3⟩
def Uh (hm:∀id p,m id=some p->m' id=some p) (hS:∀b,S b->S' b) (hw:fS S w w'):
  ∀(cs:List AV) (b o:Nat),S b->b7 aj m S w cs b o->b7 aj m' S' w' cs b o
 | [],_,_,_,_=>by simp only [b7]
 | c::cs,b,o,hb,h=>by
  simp only [b7] at h ⊢;obtain ⟨⟨u,h1,h2⟩,h3⟩:=h;exact ⟨⟨u,(N5 (hw b hb)).trans h1,mv hm hS hw c u h2⟩,Uh hm hS hw cs b (o+1) hb h3⟩
end
end
end
section
open Go
structure Hint where
 n:Nat
 cy:FuncId->Option Nat
 live:Nat->List Nat
 out:Nat->Option (List Nat)
 mode:Nat->Md
 fz:Nat->List Nat
section
variable (P:xe) (H:Hint)
mutual
def eS:yf->AV
 | .int k n=> .int k n
 | .bool b=> .bool b
 | .float k b=> .b5 k b
 | .string s=> .str (s.data.toList.map xf)
 | .pointer none=> .lm
 | .slice none 0 0=> .aa
 | .map none=> .kD
 | .nilFunc=> .jd
 | .agg ⟨cs⟩=> .agg (Gt cs)
 | .tuple ⟨cs⟩=> .af (Gt cs)
 | _=> .undef
def Gt:List yf->List AV
 | []=>[]
 | v::r=>eS v::Gt r
end
def aT:xu->X
 | .tmp t=> .t t
 | .const v=> .c (eS v)
 | .global _=> .c .undef
 | .func f=>match H.cy f with | some g=> .c (.fn (.f g) [] []) | none=> .c .undef
def gY:List xu->List X
 | []=>[]
 | x::r=>aT H x::gY r
def cU (t:yt):Option Nat:=match P.info? t with | some i=>some i.size | none=>none
def C6 (t:yt):Option Nat:=match P.info? t with | some i=>some i.bytes | none=>none
def nD (t:yt):Option AV:=match P.info? t with | some i=>(match i.zero with | some v=>some (eS v) | none=>none) | none=>none
def eb (t:yt):Option Bool:=match P.underlying t with | some (.struct _) | some (.array _ _)=>some true | some _=>some false | none=>none
def bad:Op:= .call .pure (.c .undef) []
def partsOf (place:Nat->Option (Nat×Nat)):List (Nat×xu)->Option (List (Nat×Nat×X))
 | []=>some []
 | (i,x)::r=>
  match place i,partsOf place r with
  | some (o,s),some l=>some ((o,s,aT H x)::l)
  | _,_=>none
def FZ (self:yt->Option (List Nat)):List uJ->Nat->Option (List Nat)
 | [],_=>some []
 | f::r,o=>
  match self f.type,cU P f.type with
  | some ks,some s=>
   bif f.name != "_"&&yu f.offset o&&yu ks.length s&& !P.stoodInHeld f.type then
    (match FZ self r (o+s) with | some l=>some (ks++l) | none=>none)
   else none
  | _,_=>none
def kinds:Nat->yt->Option (List Nat)
 | 0,_=>none
 | n+1,t=>
  match P.underlying t with
  | some .bool=>some [0]
  | some (.int _)=>some [1]
  | some .string=>some [2]
  | some (.struct fs)=>FZ P (fun u=>kinds n u) fs.toList 0
  | some (.array k e)=>
   match kinds n e,cU P e with
   | some ks,some s=>bif yu ks.length s&& !P.stoodInHeld e then some (yF k ks).flatten else none
   | _,_=>none
  | _=>none
def keyOf (t:yt):Option Nat:=
 match P.underlying t with
 | some .bool=>some 0
 | some (.int _)=>some 1
 | some .string=>some 2
 | _=>none
def zP (ne:Bool) (t:yt) (a b:xu):Op:=
 match kinds P 20 t with
 | some ks=>bif P.stoodInHeld t||P.eqGuardType P.depth t then bad else .eq ne (.ag ks) (aT H a) (aT H b)
 | none=>bad
def sq (ne:Bool) (op:wQ) (t:yt) (a b:xu):Op:=
 match P.underlying t with
 | some (.int _) | some .string | some (.float _)=> .bin op (aT H a) (aT H b)
 | some .bool=> .eq ne .b (aT H a) (aT H b)
 | some (.slice _)=> .eq ne .sl (aT H a) (aT H b)
 | some (.func _ _ _)=> .eq ne .fn (aT H a) (aT H b)
 | some (.struct _) | some (.array _ _)=>zP P H ne t a b
 | _=>bad
def bi (k:Nat) (o:yZ):Op:=
 let x (y:xu):X:=aT H y
 match o.op with
 | .move a | .assign a=> .ck (x a)
 | .pick c a b=> .pick (x c) (x a) (x b)
 | .alloc t=>match cU P t,nD P t with | some s,some z=> .box s (.c z) | _,_=>bad
 | .box t v=>match cU P t with | some s=> .box s (x v) | none=>bad
 | .build t parts=>
  match P.underlying t,nD P t with
  | some (.struct fs),some (.agg z)=>
   match fs.toList.mapM (fun f=>(P.info? f.type).map fun i=>(f.offset,i.size)) with
   | some pl=>(match partsOf H (fun i=>pl[i]?) parts.toList with | some ps=> .cK z ps | none=>bad)
   | none=>bad
  | some (.array _ e),some (.agg z)=>
   match cU P e with
   | some s=>(match partsOf H (fun i=>some (i*s,s)) parts.toList with | some ps=> .cK z ps | none=>bad)
   | none=>bad
  | _,_=>bad
 | .buildSlice t n parts=>
  match P.underlying t with
  | some (.slice e)=>
   match cU P e,nD P e with
   | some s,some z=>
    bif yG (n*s) 16777216 then
     (match partsOf H (fun i=>some (i*s,s)) parts.toList with | some ps=> .cQ n s (yF n (cellsOf z)).flatten ps | none=>bad)
    else bad
   | _,_=>bad
  | _=>bad
 | .load t a=>match cU P t,eb P t with | some s,some ag=> .ld s ag (x a) | _,_=>bad
 | .store t a v=>match cU P t with | some s=> .st s (x a) (x v) | none=>bad
 | .nilCheck a=> .LP (x a)
 | .binOp op t a b _=>
  match op with
  | .eql=>sq P H false op t a b
  | .neq=>sq P H true op t a b
  | _=> .bin op (x a) (x b)
 | .unOp op _ a=> .un op (x a)
 | .convert s d a=>
  match P.underlying s,P.underlying d with
  | some (.int _),some (.int k) | some (.float _),some (.int k)=> .cv (.toInt k) (x a)
  | some (.int _),some (.float k) | some (.float _),some (.float k)=> .cv (.toFlt k) (x a)
  | some .string,some .string=> .cv .str (x a)
  | _,_=>bad
 | .makeFunc (.func f) first cap=>match H.cy f with | some g=> .Ip (.f g) (gY H first.toList) (gY H cap.toList) | none=>bad
 | .makeMap t none=>match P.underlying t with | some (.map ke _)=>(match keyOf P ke with | some _=> .AY | none=>bad) | _=>bad
 | .makeSlice t l c=>
  match P.underlying t with
  | some (.slice e)=>(match cU P e,C6 P e,nD P e with | some s,some b,some z=> .iA s b (cellsOf z) (x l) (x c) | _,_,_=>bad)
  | _=>bad
 | .slice t a lo hi none=>
  match P.underlying t with
  | some .string=> .eF .str (x a) (lo.map x) (hi.map x)
  | some (.slice e)=>(match cU P e with | some s=> .eF (.sl s) (x a) (lo.map x) (hi.map x) | none=>bad)
  | some (.array n e)=>(match cU P e with | some s=> .eF (.ar n s) (x a) (lo.map x) (hi.map x) | none=>bad)
  | _=>bad
 | .fieldAddr t a i=>
  match P.underlying t with
  | some (.struct fs)=>
   match fs[i]? with
   | some f=>(match cU P f.type with | some (_+1)=> .off f.offset (x a) | _=>bad)
   | none=>bad
  | _=>bad
 | .field t a i=>
  match P.underlying t with
  | some (.struct fs)=>
   match fs[i]? with
   | some f=>(match cU P f.type,eb P f.type with | some s,some ag=> .M6 f.offset s ag (x a) | _,_=>bad)
   | none=>bad
  | _=>bad
 | .indexAddr t a i=>
  match P.underlying t with
  | some (.slice e)=>(match cU P e with | some s=> .bz s (x a) (x i) | none=>bad)
  | some (.array n e)=>(match cU P e with | some s=> .Iq n s (x a) (x i) | none=>bad)
  | _=>bad
 | .index t a i=>
  match P.underlying t with
  | some .string=> .lE (x a) (x i)
  | some (.array n e)=>(match cU P e,eb P e with | some s,some ag=> .Ir n s ag (x a) (x i) | _,_=>bad)
  | _=>bad
 | .lookup t a i ok=>
  match P.underlying t with
  | some (.map ke e)=>(match keyOf P ke,nD P e with | some kk,some z=> .SB kk z ok (x a) (x i) | _,_=>bad)
  | _=>bad
 | .mapUpdate t a i v | .insert t a i v=>
  match P.underlying t with
  | some (.map ke _)=>(match keyOf P ke with | some kk=> .qw kk (x a) (x i) (x v) | none=>bad)
  | _=>bad
 | .range t a=>match P.underlying t with | some .string=> .qB (x a) | _=>bad
 | .next it true=> .qC (x it)
 | .extract t i=> .ext i (x t)
 | .call c=>
  match c.callee with
  | .value f=>(match H.mode k with | .dyn=> .jA [] (x f) (gY H c.args.toList) | md=> .call md (x f) (gY H c.args.toList))
  | .builtin b=>
   match b,c.args.toList,c.argTypes.toList with
   | .append,[s,a],[t,u]=>
    match P.underlying t,P.underlying u with
    | some (.slice e),some (.slice _) | some (.slice e),some .string=>
     (match cU P e,C6 P e,nD P e with | some sz,some cO,some z=>(bif yu (cellsOf z).length sz then .a7 sz cO (x s) (x a) else bad) | _,_,_=>bad)
    | _,_=>bad
   | .len,[a],[t]=>
    match P.underlying t with
    | some (.array n _)=> .ck (.c (.int .i64 n))
    | some .string=> .len 0 (x a)
    | some (.slice _)=> .len 1 (x a)
    | some (.map _ _)=> .len 2 (x a)
    | _=>bad
   | .copy,[d,s],[t,_]=>
    match P.underlying t with
    | some (.slice e)=>(match cU P e with | some sz=> .qD sz (x d) (x s) | none=>bad)
    | _=>bad
   | .min,l,_=> .mn (gY H l)
   | .max,l,_=> .mx (gY H l)
   | _,_,_=>bad
  | _=>bad
 | _=>bad
def VR (o:yZ):Bool:=match o.op with | .call {callee:= .value _,..}=>true | _=>false
def Lx (d:Option Nat):Bool:=match d with | some i=>yL i H.n | none=>true
def Ag (n:Nat):List Nat->Bool
 | []=>true
 | i::r=>yL i n&&Ag n r
def DW (ops:Array yZ):List yZ->Nat->List bc×Nat
 | [],k=>([],k)
 | o::r,k=>
  let g:=match o.guard with
   | none=>some none
   | some (j,b)=>match (ops[j]?).bind (·.dst) with | some t=>some (some (t,b)) | none=>none
  match DW ops r (k+(bif VR o then 1 else 0)) with
  | (l,k')=>
   match g,Lx H o.dst with
   | some g,true=>(⟨o.dst,g,bi P H k o⟩::l,k')
   | _,_=>(⟨o.dst,none,bad⟩::l,k')
def B9 (acc:List Nat):List Edge->Nat
 | []=>0
 | e::r=>bif Region.binds .any e then (2^e.on|||acc.getD e.on 0)|||B9 acc r else B9 acc r
def mF (acc:List Nat):List yZ->List Nat
 | []=>acc
 | o::r=>mF (acc++[B9 acc o.after.toList]) r
def J9:List yZ->Nat->Bool
 | [],_=>true
 | o::r,i=>o.after.toList.all (fun e=> !Region.binds .any e||yL e.on i)&&J9 r (i+1)
def O0 (ops:Array yZ) (draw:Bool) (k:Nat):List bc×Nat:=
 match DW P H ops ops.toList k with
 | (l,k')=>
  bif draw then
   (let ms:=mF [] ops.toList
    let l':=Af [] l ms
    bif J9 ops.toList 0&&Gk [] l' ms then (l',k') else ([⟨none,none,bad⟩],k'))
  else (l,k')
def axU:wO->Bool
 | .loop _=>true
 | _=>false
def comp:wO->Nat->Nat->VC×Nat×Nat
 | .skip,l,k | .label _,l,k=>(.skip,l,k)
 | .region i ops d,l,k=>match O0 P H ops d k with | (r,k')=>((match H.fz i with | []=> .aS r | t::ts=> .seq (.fz (t::ts)) (.aS r)),l,k')
 | .seq a b,l,k=>match comp a l k with | (a',l1,k1)=>match comp b l1 k1 with | (b',l2,k2)=>(.seq a' b',l2,k2)
 | .cond c a b,l,k=>
  match comp a (l+1) k with
  | (a',l1,k1)=>
   match comp b l1 k1 with
   | (b',l2,k2)=>(match H.out l with | some o=> .seq (.cond (aT H c) a' b') (.kp o) | none=> .cond (aT H c) a' b',l2,k2)
 | .block id a,l,k=>
  match comp a l k with
  | (a',r)=>(match axU a,H.out l with | true,some o=> .seq (.aQ id a') (.kp o) | _,_=> .aQ id a',r)
 | .loop a,l,k=>match comp a (l+1) k with | (a',r)=>(.loop (H.live l) a',r)
 | .rangeFunc f ps cT body,l,k=>
  match comp cT l k with | (as',l1,k1)=>match comp body l1 k1 with | (b',l2,k2)=>(bif Ag H.n ps.toList then .rf (aT H f) ps.toList as' b' else .aS [⟨none,none,bad⟩],l2,k2)
 | .exit id,l,k=>(.exit id,l,k)
 | .scope a,l,k=>comp a l k
 | .ret,l,k=>(.ret,l,k)
 | .goto _,l,k | .refuse _,l,k=>(.aS [⟨none,none,bad⟩],l,k)
def pv:List ResultVar->Option (List RV)
 | []=>some []
 | .tmp t::r=>match pv r with | some l=>some (.t t::l) | none=>none
 | .cell a t::r=>match cU P t,eb P t,pv r with | some s,some ag,some l=>some (.cell a s ag::l) | _,_,_=>none
def Gu (fn:Func):Option aI:=
 match fn.body,pv P fn.results.toList with
 | some c,some rs=>bif yG H.n fn.ntmps then some ⟨rs,(comp P H c 0 0).1⟩ else none
 | _,_=>none
end
end
section
open Go
structure bw where
 P:xe
 aE:Lib
 aj:Nat->Nat
 prog:aJ
 hint:Nat->Hint
 w0:yh
def C7 (P:xe) (H:Hint) (v:VC) (c:wO):Prop:=∃l k,(comp P H c l k).1=v
def Cz:Nat->LoopState
 | 0=> .ready
 | 1=> .busy
 | 2=> .done
 | _=> .exhausted
def zZ:Ao->Option wO
 | .none=>none
 | .ret=>some .ret
 | .exit id=>some (.exit id)
section
variable (O:bw) (m:Mp) (S:Nat->Prop) (w:yh)
def cA (tm:Env) (tmps:Array yf):Prop:=∀i,an O.aj m S w (ak tm i) (tmps.getD i undef)
def fF (id:Nat):Obj->Prop
 | .cells rw pu ex sz cs=>∃p arr t,m id=some p/\w.heap[p.b]? =some (.cells arr t (0,0))/\p.z=sz/\cs.length<=p.e/\p.o+p.e<=arr.size/\
   (ex=true->cs.length=p.e)/\b7 O.aj m S w cs p.b p.o/\(pu=true->aO cs=true)/\(rw=true->¬S p.b)/\(rw=false->S p.b)
 | .mp rw ks vs=>∃p es clock,m id=some p/\w.heap[p.b]? =some (.map es clock)/\aA O.aj m S w ks (es.toList.map (·.key))/\aA O.aj m S w vs (es.toList.map (·.val))/\
   (rw=true->¬S p.b)/\(rw=false->S p.b)
 | .si s pos=>∃p t,m id=some p/\w.heap[p.b]? =some (.stringIter t pos)/\t.data.toList.map xf=s/\¬S p.b
 | .lp tm ps cT body st pe=>∃p l h,m id=some p/\w.heap[p.b]? =some (.loop l)/\¬S p.b/\l.state=Cz st/\st<=2/\l.pending=zZ pe/\cA O m S w tm l.tmps/\
   l.params.toList=ps/\C7 O.P (O.hint h) cT l.assign/\C7 O.P (O.hint h) body l.body/\(O.hint h).n<=l.tmps.size/\Ag (O.hint h).n ps=true
structure aX (hp:Hp) (ct:Nat):Prop where
 obj:∀id o p,aF hp id=some o->m id=some p->fF O m S w id o
 lt:∀id p,m id=some p->id<ct
 inj:∀i j oi oj pi pj,aF hp i=some oi->aF hp j=some oj->m i=some pi->m j=some pj->pi.b=pj.b->i=j
 slt:∀b,S b->b<w.heap.size
 blt:∀id p,m id=some p->p.b<w.heap.size
 low:∀id p,m id=some p->O.w0.heap.size<=p.b
 lY:∀b,b<O.w0.heap.size->w.heap[b]? =O.w0.heap[b]?
 fT:O.w0.heap.size<=w.heap.size
 aZ:∀id o,aF hp id=some o->id<ct
end
def eI (m:Mp) (hp:Hp) (b:Nat):Prop:=∃id o p,aF hp id=some o/\m id=some p/\p.b=b
structure cC (m:Mp) (S:Nat->Prop) (w:yh) (hp:Hp) (m':Mp) (S':Nat->Prop) (w':yh) (aw:Hp) (base:Nat):Prop where
 os:w'.os=w.os
 tape:w'.tape=w.tape
 output:w'.output=w.output
 size:w.heap.size<=w'.heap.size
 same:∀b,b<w.heap.size->¬eI m hp b->w'.heap[b]? =w.heap[b]?
 sub:∀b,S b->S' b
 still:∀b,S b->w'.heap[b]? =w.heap[b]?
 new:∀b,S' b->S b\/eI m hp b\/w.heap.size<=b
 own:∀b,eI m' aw b->eI m hp b\/w.heap.size<=b
 old:∀id p,id<base->m id=some p->m' id=some p
 loops:∀(b:Nat) (r:Loop),w.heap[b]? =some (.loop r)->∃r':Loop,w'.heap[b]? =some (.loop r')
def cC.refl {m:Mp} {S:Nat->Prop} {w:yh} {hp:Hp} {base:Nat}:cC m S w hp m S w hp base:=
 ⟨rfl,rfl,rfl,yA _,fun _ _ _=>rfl,fun _ h=>h,fun _ _=>rfl,fun _ h=> .inl h,fun _ h=> .inl h,fun _ _ _ h=>h,fun _ r h=>⟨r,h⟩⟩
def cC.trans {m m' M8:Mp} {S S' C8:Nat->Prop} {w w' Fi:yh} {hp aw LQ:Hp} {base:Nat}
  (h:cC m S w hp m' S' w' aw base) (k:cC m' S' w' aw M8 C8 Fi LQ base):cC m S w hp M8 C8 Fi LQ base where
 os:=k.os.trans h.os
 tape:=k.tape.trans h.tape
 output:=k.output.trans h.output
 size:=yS h.size k.size
 same b hb ho:=(k.same b (Nat.lt_of_lt_of_le hb h.size) (fun nQ=>(h.own b nQ).elim ho (fun h1=>by omega))).trans (h.same b hb ho)
 sub b hb:=k.sub b (h.sub b hb)
 still b hb:=(k.still b (h.sub b hb)).trans (h.still b hb)
 new b hb:=by
  rcases k.new b hb with h1 | h1 | h1
  ·exact h.new b h1
  ·rcases h.own b h1 with h2 | h2
   ·exact .inr (.inl h2)
   ·exact .inr (.inr h2)
  ·exact .inr (.inr (yS h.size h1))
 own b hb:=by
  rcases k.own b hb with h1 | h1
  ·exact h.own b h1
  ·exact .inr (yS h.size h1)
 old id p hid hp:=k.old id p hid (h.old id p hid hp)
 loops b r hb:=let ⟨r',h1⟩:=h.loops b r hb;k.loops b r' h1
end
section
open Go
section
variable {aj:Nat->Nat} {m:Mp} {S:Nat->Prop} {w:yh}
mutual
def O1:∀v:yf,an aj m S w (eS v) v
 | .int _ _ | .bool _ | .float _ _=>by simp only [eS,an]
 | .string s=>by simp only [eS,an];exact ⟨s,rfl,rfl⟩
 | .pointer none=>by simp only [eS,an]
 | .pointer (some _)=>by simp only [eS,an]
 | .slice none 0 0=>by simp only [eS,an]
 | .slice none 0 (_+1)=>by simp only [eS,an]
 | .slice none (_+1) _=>by simp only [eS,an]
 | .slice (some _) _ _=>by simp only [eS,an]
 | .map none=>by simp only [eS,an]
 | .map (some _)=>by simp only [eS,an]
 | .nilFunc=>by simp only [eS,an]
 | .agg ⟨cs⟩=>by simp only [eS,an];exact ⟨⟨cs⟩,rfl,UW cs⟩
 | .tuple ⟨cs⟩=>by simp only [eS,an];exact ⟨⟨cs⟩,rfl,UW cs⟩
 | .complex _ _ _ | .chan _ | .func _ _ _ | .iface _ _ | .nilIface=>by simp only [eS,an]
def UW:∀l:List yf,aA aj m S w (Gt l) l
 | []=>by simp only [Gt,aA]
 | v::r=>by simp only [Gt,aA];exact ⟨v,r,rfl,O1 v,UW r⟩
end
end
def fM (O:bw) (H:Hint):Prop:=∀f g,H.cy f=some g->O.aj g=f
section
variable {O:bw} {H:Hint} {m:Mp} {S:Nat->Prop} {w:yh} {tm:Env} {a:Act}
def cL (hH:fM O H) (ht:cA O m S w tm a.tmps) (x:xu):an O.aj m S w (aG tm (aT H x)) (a.eval x):=by
 cases x with
 | tmp t=>exact ht t
 | const v=>simp only [aT,aG,Act.eval];exact O1 v
 | global g=>simp only [aT,aG,an]
 | func f=>
  simp only [aT,Act.eval]
  cases hr:H.cy f with
  | none=>simp only [aG,an]
  | some g=>simp only [aG,an,hH f g hr,aA];exact ⟨#[],#[],rfl,rfl,rfl⟩
def D4 (hH:fM O H) (ht:cA O m S w tm a.tmps):∀l:List xu,aA O.aj m S w (dK tm (gY H l)) (l.map a.eval)
 | []=>by simp only [gY,dK,List.map_nil,aA]
 | x::r=>by simp only [gY,dK,xi,aA];exact ⟨_,_,rfl,cL hH ht x,D4 hH ht r⟩
end
section
variable {O:bw} {m:Mp} {S:Nat->Prop} {w:yh}
def rY {aj:Nat->Nat}:∀(k:Nat) (cs:List AV) (b o:Nat),b7 aj m S w cs b o->b7 aj m S w (cs.drop k) b (o+k)
 | 0,cs,b,o,h=>by simpa using h
 | k+1,[],b,o,_=>by simp only [List.drop_nil,b7]
 | k+1,c::cs,b,o,h=>by
  simp only [b7] at h
  have:=rY k cs b (o+1) h.2
  rw [List.drop_succ_cons,show o+(k+1)=o+1+k by omega];exact this
def DL {aj:Nat->Nat}:∀(k:Nat) (cs:List AV) (b o:Nat),b7 aj m S w cs b o->b7 aj m S w (cs.take k) b o
 | 0,cs,b,o,_=>by simp only [List.take_zero,b7]
 | k+1,[],b,o,_=>by simp only [List.take_nil,b7]
 | k+1,c::cs,b,o,h=>by
  simp only [b7,wx] at h ⊢;exact ⟨h.1,DL k cs b (o+1) h.2⟩
def zG {aj:Nat->Nat}:∀(cs:List AV) (b o:Nat),b7 aj m S w cs b o->
  ∃us:List yf,aA aj m S w cs us/\us.length=cs.length/\∀j u,us[j]? =some u->w.cell? ⟨b,o+j,none⟩=some u
 | [],b,o,_=>⟨[],by simp only [aA],rfl,fun j u h=>by simp at h⟩
 | c::cs,b,o,h=>by
  simp only [b7] at h;obtain ⟨⟨u,h1,h2⟩,h3⟩:=h;obtain ⟨us,h4,h5,h6⟩:=zG cs b (o+1) h3;refine ⟨u::us,by simp only [aA];exact ⟨u,us,rfl,h2,h4⟩,by simp [h5],fun j v hv=>?_⟩
  cases j with
  | zero=>simp at hv;subst hv;simpa using h1
  | succ j=>simp at hv;have:=h6 j v hv;rw [show o+(j+1)=o+1+j by omega];exact this
def iY {aj:Nat->Nat}:∀(cs:List AV) (us:List yf),aA aj m S w cs us->us.length=cs.length
 | [],us,h=>by simp only [aA] at h;subst h;rfl
 | c::cs,us,h=>by
  simp only [aA] at h;obtain ⟨u,r,rfl,_,h3⟩:=h;simp [iY cs r h3]
end
end
section
open Go
def pH (b o j:Nat):(⟨b,o,none⟩:vY).add j=⟨b,o+j,none⟩:=by
 unfold Addr.add;split<;>simp_all
section
variable {P:xe} {w:yh}
def aqr (t:yt) (b o:Nat) (us:List yf) (ha:eb P t=some true) (hz:cU P t=some us.length)
  (h:∀j u,us[j]? =some u->w.cell? ⟨b,o+j,none⟩=some u):(loadVar t ⟨b,o,none⟩).run P w= .ok (.agg us.toArray) w:=by
 have hl:=run_loadCells_list (P:=P) w ⟨b,o,none⟩ us (fun j u hu=>by rw [pH];exact h j u hu)
 unfold cU at hz
 cases hi:P.info? t with
 | none=>simp [hi] at hz
 | some i=>
  simp only [hi,yc] at hz;unfold eb at ha
  cases hu:P.underlying t with
  | none=>simp [hu] at ha
  | some d=>cases d<;>simp_all [loadVar,isAgg,vJ,typeInfo,underlying]
def aqs (t:yt) (b o:Nat) (u:yf) (ha:eb P t=some false)
  (h:w.cell? ⟨b,o,none⟩=some u):(loadVar t ⟨b,o,none⟩).run P w= .ok u w:=by
 unfold eb at ha
 cases hu:P.underlying t with
 | none=>simp [hu] at ha
 | some d=>cases d<;>simp_all [loadVar,isAgg,underlying]
end
section
variable {O:bw} {m:Mp} {S:Nat->Prop} {w:yh}
def O2 {t:yt} {sz:Nat} {ag:Bool} {cs:List AV} {b o:Nat} {v:AV} (hz:cU O.P t=some sz) (ha:eb O.P t=some ag)
  (hr:b7 O.aj m S w cs b o) (hv:hX sz ag cs=some v):∃u,(loadVar t ⟨b,o,none⟩).run O.P w= .ok u w/\an O.aj m S w v u:=by
 cases ag with
 | true=>
  simp only [hX,yB] at hv
  cases hle:yG sz cs.length with
  | false=>simp only [hle,yM] at hv;cases hv
  | true=>
   simp only [hle,yB,yc] at hv;subst hv;obtain ⟨us,h1,h2,h3⟩:=zG _ _ _ (DL sz cs b o hr);have hlen:us.length=sz:=by
    rw [h2,List.length_take];have:=yv hle;omega
   refine ⟨.agg us.toArray,aqr t b o us ha (by rw [hlen];exact hz) h3,?_⟩
   simp only [an];exact ⟨us.toArray,rfl,by simpa using h1⟩
 | false=>
  simp only [hX,yM] at hv
  cases cs with
  | nil=>simp at hv
  | cons c cs=>
   simp only [yc] at hv;subst hv;simp only [b7] at hr;obtain ⟨⟨u,h1,h2⟩,_⟩:=hr;exact ⟨u,aqs t b o u ha h1,h2⟩
def agU {t:yt} {sz o:Nat} {ag:Bool} {cs:List AV} {xs:Array yf} {v:AV} (hz:cU O.P t=some sz) (ha:eb O.P t=some ag)
  (hr:aA O.aj m S w cs xs.toList) (hv:hX sz ag (cs.drop o)=some v):∃u,(part t xs o).run O.P w= .ok u w/\an O.aj m S w v u:=by
 have hd:∀(k:Nat) (cs:List AV) (us:List yf),aA O.aj m S w cs us->aA O.aj m S w (cs.drop k) (us.drop k):=by
  intro k
  induction k with
  | zero=>intro cs us h;simpa using h
  | succ k ih=>
   intro cs us h
   cases cs with
   | nil=>simp only [aA] at h;subst h;simp [aA]
   | cons c cs=>simp only [aA] at h;obtain ⟨u,r,rfl,_,h3⟩:=h;simpa using ih cs r h3
 have eX:∀(k:Nat) (cs:List AV) (us:List yf),aA O.aj m S w cs us->aA O.aj m S w (cs.take k) (us.take k):=by
  intro k
  induction k with
  | zero=>intro cs us h;simp [aA]
  | succ k ih=>
   intro cs us h
   cases cs with
   | nil=>simp only [aA] at h;subst h;simp [aA]
   | cons c cs=>simp only [aA] at h;obtain ⟨u,r,rfl,h2,h3⟩:=h;simp only [wx,aA];exact ⟨u,_,rfl,h2,ih cs r h3⟩
 have al2:(isAgg t).run O.P w= .ok ag w:=by
  unfold eb at ha
  cases hu:O.P.underlying t with
  | none=>simp [hu] at ha
  | some d=>cases d<;>simp_all [isAgg,underlying]
 have eY:(vJ t).run O.P w= .ok sz w:=by
  unfold cU at hz
  cases hi:O.P.info? t with
  | none=>simp [hi] at hz
  | some i=>simp_all [vJ,typeInfo]
 have cM:=hd o cs xs.toList hr
 cases ag with
 | true=>
  simp only [hX,yB] at hv
  cases hle:yG sz (cs.drop o).length with
  | false=>simp only [hle,yM] at hv;cases hv
  | true=>
   simp only [hle,yB,yc] at hv;subst hv;refine ⟨.agg (xs.extract o (o+sz)),by simp [part,Sem.run_bind,al2,eY],?_⟩;simp only [an];refine ⟨_,rfl,?_⟩
   have:=eX sz _ _ cM
   rw [show (xs.extract o (o+sz)).toList=(xs.toList.drop o).take sz by simp [Array.toList_extract,List.extract_eq_take_drop]];exact this
 | false=>
  simp only [hX,yM] at hv
  cases hc:cs.drop o with
  | nil=>simp [hc] at hv
  | cons c r=>
   simp only [hc,yc] at hv;subst hv;rw [hc] at cM;simp only [aA] at cM;obtain ⟨u,us,h1,h2,_⟩:=cM;have hx:xs[o]? =some u:=by
    have:xs.toList[o]? =some u:=by
     have:=congrArg (fun l=>l[0]?) h1
     simpa using this
    simpa using this
   exact ⟨u,by simp [part,Sem.run_bind,al2,hx],h2⟩
end
end
section
open Go
def mA (t:ByteArray):List Nat:=t.data.toList.map xf
def agV:∀a b:List UInt8,bQ (a.map xf) (b.map xf)=(a==b)
 | [],[]=>rfl
 | [],_::_=>rfl
 | _::_,[]=>rfl
 | a::x,b::y=>by
  have h:yu a.toNat b.toNat=(a==b):=by
   rw [ub,yca,yan];exact yaF
  simp only [xi,bQ,agV x y,h,List.cons_beq_cons]
def agW:∀a b:List UInt8,C5 (a.map xf) (b.map xf)=Op.bytesLess a b
 | [],[]=>rfl
 | [],_::_=>rfl
 | _::_,[]=>rfl
 | a::x,b::y=>by
  have h:yu a.toNat b.toNat=(a==b):=by
   rw [ub,yca,yan];exact yaF
  have h2:yL a.toNat b.toNat=decide (a<b):=by
   rw [ub];simp only [yL,ycb,xt,UInt8.lt_iff_toNat_lt];omega
  simp only [xi,C5,Op.bytesLess,agW x y,h,h2]
def ae9 (s t:ByteArray):bQ (mA s) (mA t)=(s.toList==t.toList):=by
 rw [mA,mA,agV,ByteArray.toList_eq,ByteArray.toList_eq]
def arN (s t:ByteArray):C5 (mA s) (mA t)=Op.bytesLess s.toList t.toList:=by
 rw [mA,mA,agW,ByteArray.toList_eq,ByteArray.toList_eq]
def afa (s:ByteArray):(mA s).length=s.size:=by
 rw [mA,List.length_map,Lib.size_eq]
section
variable {aj:Nat->Nat} {P:xe} {m:Mp} {S:Nat->Prop} {w:yh} {t:yt}
def atx {op:wQ} {k:yV} {x y:Int} {v:AV} (h:lR op k x y=some v):
  ∃u,(xK op t (.int k x) (.int k y)).run P w= .ok u w/\an aj m S w v u:=by
 cases op<;>simp only [lR,intCmp,yc] at h
 case add=>subst h;exact ⟨_,by simp [xK,Op.intArith];rfl,by simp [an]⟩
 case sub=>subst h;exact ⟨_,by simp [xK,Op.intArith];rfl,by simp [an]⟩
 case mul=>subst h;exact ⟨_,by simp [xK,Op.intArith];rfl,by simp [an]⟩
 case quo=>
  by_cases hy:y=0
  ·simp [hy] at h
  ·simp only [hy,y9,yc] at h;subst h;exact ⟨_,by simp [xK,Op.intDiv,hy];rfl,by simp [an]⟩
 case rem=>
  by_cases hy:y=0
  ·simp [hy] at h
  ·simp only [hy,y9,yc] at h;subst h;exact ⟨_,by simp [xK,Op.intDiv,hy];rfl,by simp [an]⟩
 case and=>subst h;exact ⟨_,by simp [xK,Op.intBits];rfl,by simp [an]⟩
 case or=>subst h;exact ⟨_,by simp [xK,Op.intBits];rfl,by simp [an]⟩
 case xor=>subst h;exact ⟨_,by simp [xK,Op.intBits];rfl,by simp [an]⟩
 case andNot=>subst h;exact ⟨_,by simp [xK,Op.intBits];rfl,by simp [an]⟩
 case shl=>cases h
 case shr=>cases h
 all_goals
  subst h;exact ⟨_,by simp [xK,Op.intCmp];rfl,by simp [an]⟩
def aew {op:wQ} {k k':yV} {x y:Int} {v:AV} (h:DV op k x y=some v):
  ∃u,(xK op t (.int k x) (.int k' y)).run P w= .ok u w/\an aj m S w v u:=by
 unfold DV at h;by_cases hy:y<0
 ·simp [hy] at h
 ·simp only [hy,y9] at h;cases op<;>simp only [yc] at h
  case shl=>subst h;exact ⟨_,by simp [xK,Op.shift,hy];rfl,by simp [an]⟩
  case shr=>subst h;exact ⟨_,by simp [xK,Op.shift,hy];rfl,by simp [an]⟩
  all_goals cases h
def aty {op:wQ} {x y:ByteArray} {v:AV} (h:Ls op (mA x) (mA y)=some v):
  ∃u,(xK op t (.string x) (.string y)).run P w= .ok u w/\an aj m S w v u:=by
 cases op<;>simp only [Ls,ae9,arN,afa,yc] at h
 case add=>
  cases hle:yG (x.size+y.size) 9223372036854775807 with
  | false=>rw [hle] at h;cases h
  | true=>
   rw [hle] at h;simp only [yB,yc] at h;subst h;have aKK:=yv hle;have aDb:¬(((x.size+y.size:Nat):Int)>IntKind.i64.max):=by
    have:IntKind.i64.max=9223372036854775807:=by decide
    rw [this];omega
   refine ⟨.string (x++y),?_,?_⟩
   ·simp only [xK,Op.stringOp,yp aDb,Sem.run_pure]
   ·simp only [an];exact ⟨x++y,rfl,by simp [mA]⟩
 all_goals first
  | (cases h;done)
  | (subst h;exact ⟨_,by simp [xK,Op.stringOp];rfl,by simp [an]⟩)
def atz {op:wQ} {k:vL} {x y:Nat} {v:AV} (h:Wl op k x y=some v):
  ∃u,(xK op t (.float k x) (.float k y)).run P w= .ok u w/\an aj m S w v u:=by
 cases op<;>simp only [Wl,yc] at h
 case add=>
  cases hr:k.format.add x y with
  | none=>simp [hr] at h
  | some r=>simp only [hr,yc] at h;subst h;exact ⟨.float k r,by simp [xK,Op.floatArith,hr],by simp [an]⟩
 case sub=>
  cases hr:k.format.sub x y with
  | none=>simp [hr] at h
  | some r=>simp only [hr,yc] at h;subst h;exact ⟨.float k r,by simp [xK,Op.floatArith,hr],by simp [an]⟩
 case mul=>
  cases hr:k.format.mul x y with
  | none=>simp [hr] at h
  | some r=>simp only [hr,yc] at h;subst h;exact ⟨.float k r,by simp [xK,Op.floatArith,hr],by simp [an]⟩
 case quo=>
  cases hr:k.format.div x y with
  | none=>simp [hr] at h
  | some r=>simp only [hr,yc] at h;subst h;exact ⟨.float k r,by simp [xK,Op.floatArith,hr],by simp [an]⟩
 all_goals first
  | (cases h;done)
  | (subst h;exact ⟨_,by simp [xK,Op.floatCmp];rfl,by simp [an]⟩)
def atA {op:wQ} {vx vy v:AV} {x y:yf} (hx:an aj m S w vx x) (hy:an aj m S w vy y) (h:VE.binOp op vx vy=some v):
  ∃u,(xK op t x y).run P w= .ok u w/\an aj m S w v u:=by
 unfold VE.binOp at h
 split at h
 ·rename_i k a k' b;simp only [an] at hx hy;subst hx;subst hy
  split at h
  ·exact aew h
  ·exact aew h
  ·by_cases hk:k=k'
   ·subst hk;simp only [xm] at h;exact atx h
   ·simp [hk] at h
 ·rename_i k a k' b;simp only [an] at hx hy;subst hx;subst hy;by_cases hk:k=k'
  ·subst hk;simp only [xm] at h;exact atz h
  ·simp [hk] at h
 ·rename_i a b;simp only [an] at hx hy;obtain ⟨s,rfl,rfl⟩:=hx;obtain ⟨s',rfl,rfl⟩:=hy;exact aty h
 ·cases h
end
end
section
open Go
section
variable {aj:Nat->Nat} {P:xe} {m:Mp} {S:Nat->Prop} {w:yh} {t:yt}
def aqX {op:wQ} {x y:xu} {a b:yf} (h:P.eqGuardType P.depth t=false\/∀xs ys,¬(a= .agg xs/\b= .agg ys)) (hn:a≠.nilIface):
  (eqGuard op t x y a b).run P w= .ok () w:=by
 unfold eqGuard;cases op
 all_goals first
  | rfl
  | (
    cases a
    all_goals first
     | rfl
     | exact absurd rfl hn
     | (
      cases b
      all_goals first
       | rfl
       | (
         rcases h with h | h
         ·simp [h]
         ·exact absurd ⟨rfl,rfl⟩ (h _ _))))
def axV {d:Nat} {p q:Bool} (ht:P.underlying t=some .bool):(Op.equalIn (d+1) t (.bool p) (.bool q)).run P w= .ok (p==q) w:=by
 simp [Op.equalIn,underlying,ht]
def Wn {d:Nat} {e:yt} (ht:P.underlying t=some (.slice e)) (y:Option vY) (n c n' c':Nat):
  (Op.equalIn (d+1) t (.slice none n c) (.slice y n' c')).run P w= .ok y.isNone w:=by simp [Op.equalIn,underlying,ht]
def alh {d:Nat} {e:yt} (ht:P.underlying t=some (.slice e)) (x:vY) (n c n' c':Nat):
  (Op.equalIn (d+1) t (.slice (some x) n c) (.slice none n' c')).run P w= .ok false w:=by simp [Op.equalIn,underlying,ht]
def aBI {d:Nat} {ps rs:Array yt} {vr:Bool} (ht:P.underlying t=some (.func ps rs vr)):
  (Op.equalIn (d+1) t .nilFunc .nilFunc).run P w= .ok true w:=by simp [Op.equalIn,underlying,ht]
def ali {d:Nat} {ps rs:Array yt} {vr:Bool} (ht:P.underlying t=some (.func ps rs vr)) (f:Go.Fn) (a b:Array yf):
  (Op.equalIn (d+1) t .nilFunc (.func f a b)).run P w= .ok false w:=by simp [Op.equalIn,underlying,ht]
def alj {d:Nat} {ps rs:Array yt} {vr:Bool} (ht:P.underlying t=some (.func ps rs vr)) (f:Go.Fn) (a b:Array yf):
  (Op.equalIn (d+1) t (.func f a b) .nilFunc).run P w= .ok false w:=by simp [Op.equalIn,underlying,ht]
def OD (x y:yf):Op.equal t x y=Op.equalIn (9999+1) t x y:=rfl
def avL {vx vy:AV} {x y:yf} {r:Bool} {e:yt} (ht:P.underlying t=some (.slice e)) (hx:an aj m S w vx x) (hy:an aj m S w vy y)
  (h:iH .sl vx vy=some r):(Op.equal t x y).run P w= .ok r w:=by
 rw [OD];unfold iH at h
 split at h<;>simp_all only [yc,reduceCtorEq]
 all_goals subst h
 all_goals simp only [an] at hx hy
 ·subst hx;subst hy;exact Wn ht _ _ _ _ _
 ·rcases hy with ⟨b,o,c,rfl,_⟩ | ⟨_,rfl,_⟩<;>(subst hx;exact Wn ht _ _ _ _ _)
 ·obtain ⟨p,c,_,rfl,_⟩:=hy;subst hx;exact Wn ht _ _ _ _ _
 ·rcases hx with ⟨b,o,c,rfl,_⟩ | ⟨_,rfl,_⟩<;>(subst hy;exact alh ht _ _ _ _ _)
 ·obtain ⟨p,c,_,rfl,_⟩:=hx;subst hy;exact alh ht _ _ _ _ _
def avM {vx vy:AV} {x y:yf} {r:Bool} {ps rs:Array yt} {vr:Bool} (ht:P.underlying t=some (.func ps rs vr)) (hx:an aj m S w vx x) (hy:an aj m S w vy y)
  (h:iH .fn vx vy=some r):(Op.equal t x y).run P w= .ok r w:=by
 rw [OD];unfold iH at h
 split at h<;>simp_all only [yc,reduceCtorEq]
 all_goals subst h
 ·simp only [an] at hx hy;subst hx;subst hy;exact aBI ht
 ·rename_i f _ _
  cases f with
  | f g=>simp only [an] at hx hy;obtain ⟨fi,ca,rfl,_⟩:=hy;subst hx;exact ali ht _ _ _
  | y l=>simp only [an] at hx hy;obtain ⟨p,_,rfl⟩:=hy;subst hx;exact ali ht _ _ _
 ·rename_i f _ _
  cases f with
  | f g=>simp only [an] at hx hy;obtain ⟨fi,ca,rfl,_⟩:=hx;subst hy;exact alj ht _ _ _
  | y l=>simp only [an] at hx hy;obtain ⟨p,_,rfl⟩:=hx;subst hy;exact alj ht _ _ _
def avN {op:ybQ} {vx v:AV} {x:yf} (hx:an aj m S w vx x) (h:VE.unOp op vx=some v):∃u,(Op.unary op x).run P w= .ok u w/\an aj m S w v u:=by
 unfold VE.unOp at h
 split at h
 ·rename_i k n;simp only [an] at hx;subst hx;simp only [yc] at h;subst h;exact ⟨_,by simp [Op.unary,Op.intArith];rfl,by simp [an]⟩
 ·rename_i k n;simp only [an] at hx;subst hx;simp only [lR,yc] at h;subst h;exact ⟨_,by simp [Op.unary,Op.intBits];rfl,by simp [an]⟩
 ·rename_i b;simp only [an] at hx;subst hx;simp only [yc] at h;subst h;exact ⟨_,by simp [Op.unary];rfl,by simp [an]⟩
 ·rename_i k b;simp only [an] at hx;subst hx;simp only [yc] at h;subst h;exact ⟨_,by simp [Op.unary,Op.negFloat];rfl,by simp [an]⟩
 ·cases h
def afX {s d:yt} {k:yV} {vx v:AV} {x:yf} (hd:P.underlying d=some (.int k)) (hs:(∃k',P.underlying s=some (.int k'))\/∃k',P.underlying s=some (.float k'))
  (hx:an aj m S w vx x) (h:oB (.toInt k) vx=some v):∃u,(convert s d x).run P w= .ok u w/\an aj m S w v u:=by
 cases vx<;>simp only [oB,reduceCtorEq] at h
 case int k0 n=>
  simp only [an] at hx;subst hx;simp only [yc] at h;subst h;refine ⟨.int k (k.wrap n),?_,by simp [an]⟩;rcases hs with ⟨k',h'⟩ | ⟨k',h'⟩<;>simp [convert,underlying,Conv.intToInt,hd,h']
 case b5 sk b=>
  simp only [an] at hx;subst hx
  cases hi:(sk.decode b).toInt .zero with
  | none=>simp [hi] at h
  | some n=>
   simp only [hi] at h;by_cases hr:k.min<=n/\n<=k.max
   ·simp only [hr,and_self,xm,yc] at h;subst h;refine ⟨.int k n,?_,by simp [an]⟩;rcases hs with ⟨k',h'⟩ | ⟨k',h'⟩<;>simp [convert,underlying,Conv.floatToInt,hd,h',hi,hr]
   ·simp [hr] at h
def afY {s d:yt} {k:vL} {vx v:AV} {x:yf} (hd:P.underlying d=some (.float k)) (hs:(∃k',P.underlying s=some (.int k'))\/∃k',P.underlying s=some (.float k'))
  (hx:an aj m S w vx x) (h:oB (.toFlt k) vx=some v):∃u,(convert s d x).run P w= .ok u w/\an aj m S w v u:=by
 cases vx<;>simp only [oB,reduceCtorEq] at h
 case int k0 n=>
  simp only [an] at hx;subst hx;simp only [yc] at h;subst h;refine ⟨.float k (k.nearest n),?_,by simp [an]⟩;rcases hs with ⟨k',h'⟩ | ⟨k',h'⟩<;>simp [convert,underlying,Conv.intToFloat,hd,h']
 case b5 sk b=>
  simp only [an] at hx;subst hx;by_cases he:sk=k
  ·subst he;simp only [xm,yc] at h;subst h;refine ⟨.float sk b,?_,by simp [an]⟩;rcases hs with ⟨k',h'⟩ | ⟨k',h'⟩<;>simp [convert,underlying,Conv.floatToFloat,hd,h']
  ·simp only [he,y9] at h
   cases P9:sk.decode b with
   | nan _ _=>simp [P9] at h
   | infinity _=>simp [P9] at h
   | number sg mm ee=>
    simp only [P9] at h
    cases WL:(k.decode (k.encode (.number sg mm ee))).isInfinity with
    | true=>simp [WL] at h
    | false=>
     simp only [WL,yE,y9,yc] at h;subst h;refine ⟨.float k (k.encode (.number sg mm ee)),?_,by simp [an]⟩;rcases hs with ⟨k',h'⟩ | ⟨k',h'⟩<;>simp [convert,underlying,Conv.floatToFloat,hd,h',he,P9,WL]
def atB {s d:yt} {vx v:AV} {x:yf} (hd:P.underlying d=some .string) (hs:P.underlying s=some .string)
  (hx:an aj m S w vx x) (h:oB .str vx=some v):∃u,(convert s d x).run P w= .ok u w/\an aj m S w v u:=by
 cases vx<;>simp only [oB,reduceCtorEq] at h
 simp only [yc] at h;subst h;simp only [an] at hx;obtain ⟨b,rfl,hb⟩:=hx;exact ⟨.string b,by simp [convert,underlying,hs,hd],by simp only [an];exact ⟨b,rfl,hb⟩⟩
end
end
section
open Go
def arO {v:AV} {k:Nat} (h:dP v=some k):∃kd,v= .int kd (k:Int):=by
 cases v<;>simp only [dP,reduceCtorEq] at h
 rename_i kd n
 cases n with
 | ofNat j=>simp only [yc] at h;subst h;exact ⟨kd,rfl⟩
 | negSucc j=>cases h
section
variable {O:bw} {H:Hint} {m:Mp} {S:Nat->Prop} {w:yh} {tm:Env} {a:Act}
def zQ {aj:Nat->Nat} {v:AV} {x:yf} {k:Nat} (hx:an aj m S w v x) (h:dP v=some k):∃kd,x= .int kd (k:Int):=by
 obtain ⟨kd,rfl⟩:=arO h;simp only [an] at hx
 grind
def run_sliceBound {P:xe} {kd:yV} {k y:Nat} {code:BoundsCode} (h:k<=y):(Instr.sliceBound (.int kd (k:Int)) y code).run P w= .ok k w:=by
 have:(0:Int)<=(k:Int)/\(k:Int)<=(y:Int):=by omega
 simp [Instr.sliceBound,asIntOf,this]
def afb {P:xe} {isSlice:Bool} {len cap l h:Nat} {lo hi:Option xu} (hH:fM O H) (ht:cA O m S w tm a.tmps)
  (hl:dE tm 0 (lo.map (aT H))=some l) (hh:dE tm len (hi.map (aT H))=some h) (h1:l<=h) (h2:h<=cap):
  (Instr.sliceBounds isSlice len cap (lo.map a.eval) (hi.map a.eval) none).run P w= .ok (l,h,cap) w:=by
 cases lo with
 | none=>
  simp only [vE,dE,yc] at hl;subst hl
  cases hi with
  | none=>
   simp only [vE,dE,yc] at hh;subst hh;simp [Instr.sliceBounds]
  | some y=>
   obtain ⟨kd,e⟩:=zQ (cL hH ht y) hh;simp only [Instr.sliceBounds,vE,wC,e,Sem.run_bind,Sem.run_pure,Result.andThen_ok,run_sliceBound h2]
 | some x=>
  obtain ⟨kd,e⟩:=zQ (cL hH ht x) hl
  cases hi with
  | none=>
   simp only [vE,dE,yc] at hh;subst hh;simp only [Instr.sliceBounds,vE,wC,e,Sem.run_bind,Sem.run_pure,Result.andThen_ok,run_sliceBound h1]
  | some y=>
   obtain ⟨jG,e'⟩:=zQ (cL hH ht y) hh;simp only [Instr.sliceBounds,wC,e,e',Sem.run_bind,Sem.run_pure,Result.andThen_ok,run_sliceBound h2,run_sliceBound h1]
def arP {t:yt} {lo hi:Option xu} {vx v:AV} {x:yf} (hH:fM O H) (ht:cA O m S w tm a.tmps) (hu:O.P.underlying t=some .string)
  (hx:an O.aj m S w vx x) {hp:Hp} (h:fC hp .str vx tm (lo.map (aT H)) (hi.map (aT H))=some v):
  ∃u,(Instr.sliceAt t x (lo.map a.eval) (hi.map a.eval) none).run O.P w= .ok u w/\an O.aj m S w v u:=by
 cases vx<;>simp only [fC,reduceCtorEq] at h
 obtain ⟨b,rfl,rfl⟩:=hx
 cases hl:dE tm 0 (lo.map (aT H)) with
 | none=>simp [hl] at h
 | some l=>
  simp only [hl] at h
  cases hh:dE tm (b.data.toList.map xf).length (hi.map (aT H)) with
  | none=>rw [hh] at h;cases h
  | some g=>
   rw [hh] at h;simp only at h
   cases hc:(yG l g&&yG g (b.data.toList.map xf).length) with
   | false=>rw [hc] at h;cases h
   | true=>
    rw [hc] at h;simp only [yB,yc] at h;subst h;simp only [yg] at hc;have h1:=yv hc.1;have h2:=yv hc.2;have hlen:(b.data.toList.map xf).length=b.size:=afa b;rw [hlen] at hh h2;refine ⟨.string (b.extract l g),?_,?_⟩
    ·simp only [Instr.sliceAt,Sem.run_bind,run_underlying hu,Result.andThen_ok,Instr.slice,Option.isSome_none,yE,y9,Sem.run_pure,
      afb (P:=O.P) (isSlice:=false) (len:=b.size) (cap:=b.size) hH ht hl hh h1 h2]
    ·simp only [an];refine ⟨_,rfl,?_⟩;rw [Lib.extract_data,List.map_take,List.map_drop,List.drop_take]
def atD {t e:yt} {sz:Nat} {lo hi:Option xu} {vx v:AV} {x:yf} (hH:fM O H) (ht:cA O m S w tm a.tmps) (hu:O.P.underlying t=some (.slice e)) (hz:cU O.P e=some sz)
  {hp:Hp} {ct:Nat} (hh:aX O m S w hp ct)
  (hx:an O.aj m S w vx x) (h:fC hp (.sl sz) vx tm (lo.map (aT H)) (hi.map (aT H))=some v):
  ∃u,(Instr.sliceAt t x (lo.map a.eval) (hi.map a.eval) none).run O.P w= .ok u w/\an O.aj m S w v u:=by
 have eY:(vJ e).run O.P w= .ok sz w:=by
  unfold cU at hz
  cases hi:O.P.info? e with
  | none=>simp [hi] at hz
  | some i=>simp_all [vJ,typeInfo]
 have KN:∀(ad:Option vY) (n c l g:Nat),dE tm 0 (lo.map (aT H))=some l->dE tm n (hi.map (aT H))=some g->l<=g->g<=c->
   (Instr.sliceAt t (.slice ad n c) (lo.map a.eval) (hi.map a.eval) none).run O.P w= .ok (.slice (if c=l then ad else ad.map (·.add (l*sz))) (g-l) (c-l)) w:=by
  intro ad n c l g hl hg h1 h2
  simp only [Instr.sliceAt,Sem.run_bind,run_underlying hu,Result.andThen_ok,Instr.slice,Sem.run_pure,eY,
   afb (P:=O.P) (isSlice:=true) (len:=n) (cap:=c) hH ht hl hg h1 h2]
 cases vx<;>simp only [fC,reduceCtorEq] at h
 case aa=>
  simp only [an] at hx;subst hx
  cases hl:dE tm 0 (lo.map (aT H)) with
  | none=>simp [hl] at h
  | some l=>
   cases l with
   | succ l=>simp [hl] at h
   | zero=>
    simp only [hl] at h
    cases hh:dE tm 0 (hi.map (aT H)) with
    | none=>simp [hh] at h
    | some g=>
     cases g with
     | succ g=>simp [hh] at h
     | zero=>
      simp only [hh,yc] at h;subst h;exact ⟨_,KN none 0 0 0 0 hl hh (yA _) (yA _),by simp [an]⟩
 case ap ex n cs=>
  simp only [an] at hx;rcases hx with ⟨b,o,c,rfl,M9,hex,hS,iQ,Fj⟩ | ⟨ad,rfl,rfl,rfl⟩
  case inr=>
   cases hl:dE tm 0 (lo.map (aT H)) with
   | none=>simp [hl] at h
   | some l=>
    simp only [hl] at h
    cases hh:dE tm 0 (hi.map (aT H)) with
    | none=>simp [hh] at h
    | some g=>
     simp only [hh] at h
     cases hc:(yG l g&&yG g 0) with
     | false=>rw [hc] at h;cases h
     | true=>
      rw [hc] at h;simp only [yB,yc] at h;subst h;simp only [yg] at hc;have h1:=yv hc.1;have h2:=yv hc.2;have hg:g=0:=by omega
      subst hg;have kM:l=0:=by omega
      subst kM;refine ⟨_,KN (some ad) 0 0 0 0 hl hh h1 h2,?_⟩;simp only [an];exact .inr ⟨ad,by simp,by simp,by simp [slice]⟩
  cases hl:dE tm 0 (lo.map (aT H)) with
  | none=>simp [hl] at h
  | some l=>
   simp only [hl] at h
   cases hh:dE tm n (hi.map (aT H)) with
   | none=>simp [hh] at h
   | some g=>
    simp only [hh] at h
    cases hc:(yG l g&&yG g n) with
    | false=>rw [hc] at h;cases h
    | true=>
     rw [hc] at h;simp only [yB,yc] at h;subst h;simp only [yg] at hc;have h1:=yv hc.1;have h2:=yv hc.2;refine ⟨_,KN (some ⟨b,o,none⟩) n c l g hl hh h1 (by omega),?_⟩;have PO:aO (slice (l*sz) ((g-l)*sz) cs)=true:=by
      have pd:∀(k:Nat) (cs:List AV),aO cs=true->aO (cs.drop k)=true:=by
       intro k
       induction k with
       | zero=>intro cs h;simpa using h
       | succ k ih=>intro cs h;cases cs with
        | nil=>simpa using h
        | cons c cs=>simp only [aO,yg] at h;simpa using ih cs h.2
      have pt:∀(k:Nat) (cs:List AV),aO cs=true->aO (cs.take k)=true:=by
       intro k
       induction k with
       | zero=>intro cs h;simp [aO]
       | succ k ih=>intro cs h;cases cs with
        | nil=>simp [aO]
        | cons c cs=>simp only [aO,yg,wx] at h ⊢;exact ⟨h.1,ih cs h.2⟩
      exact pt _ _ (pd _ _ iQ)
     have al3:(ex&&yu g n)=true->c-l=g-l:=by
      intro hq;simp only [yg] at hq
      have:=hex hq.1
      have:=yo hq.2
      omega
     simp only [an];by_cases lF:c=l
     ·have h0:g-l=0:=by omega
      have A9:slice (l*sz) ((g-l)*sz) cs=[]:=by simp [slice,h0]
      rw [A9];exact .inl ⟨b,o,c-l,by simp [lF],by omega,al3,.inl rfl,rfl,by simp [b7]⟩
     ·refine .inl ⟨b,o+l*sz,c-l,by simp [lF,pH],by omega,al3,?_,PO,?_⟩
      ·rcases hS with rfl | hS
       ·exact .inl (by simp [slice])
       ·exact .inr hS
      ·exact DL _ _ _ _ (rY _ _ _ _ Fj)
 case ay id o n=>
  simp only [an] at hx;obtain ⟨p,c,hm,rfl,M9,SC⟩:=hx
  split at h
  case h_2=>cases h
  rename_i rw0 pu0 za z0 cs0 En;obtain ⟨p',arr,t',iR,_,mg,_⟩:=hh.obj id _ _ En hm;rw [hm] at iR;injection iR with iR
  subst iR
  cases hl:dE tm 0 (lo.map (aT H)) with
  | none=>simp [hl] at h
  | some l=>
   simp only [hl] at h
   cases hh:dE tm n (hi.map (aT H)) with
   | none=>simp [hh] at h
   | some g=>
    simp only [hh] at h
    cases hc:(yG l g&&yG g n&&yu z0 sz) with
    | false=>rw [hc] at h;cases h
    | true=>
     rw [hc] at h;simp only [yB] at h;simp only [yg] at hc;have h1:=yv hc.1.1;have h2:=yv hc.1.2;have hpz:p.z=sz:=mg.trans (yo hc.2)
     cases he:(yu l g&& !yu l 0) with
     | true=>
      rw [he] at h;simp only [yB,yc] at h;subst h;simp only [yg] at he;have Fk:=yo he.1;refine ⟨_,KN (some ⟨p.b,p.o+o,none⟩) n c l g hl hh h1 (by omega),?_⟩;simp only [an];by_cases lF:c=l
      ·exact .inl ⟨p.b,p.o+o,c-l,by simp [lF];omega,by omega,by simp,by simp,by simp [aO],by simp [b7]⟩
      ·exact .inl ⟨p.b,p.o+o+l*sz,c-l,by simp [lF,pH];omega,by omega,by simp,by simp,by simp [aO],by simp [b7]⟩
     | false=>
      rw [he] at h;simp only [yM,yc] at h;subst h;have lF:c=l->l=0:=by
       intro lF;have Fk:l=g:=by omega
       cases kM:yu l 0 with
       | true=>exact yo kM
       | false=>rw [Fk,Nat.beq_refl,<-Fk,kM] at he;cases he
      refine ⟨_,KN (some ⟨p.b,p.o+o,none⟩) n c l g hl hh h1 (by omega),?_⟩;simp only [an];refine ⟨p,c-l,hm,?_,by omega,?_⟩
      ·by_cases WM:c=l
       ·have:=lF WM;subst this;subst WM;simp
       ·simp [WM,pH,uE]
      ·rw [hpz] at SC ⊢
       have:c*sz=l*sz+(c-l)*sz:=by rw [<-Nat.add_mul];congr 1;omega
       omega
end
end
section
open Go
def n8 {P:xe} {w:yh} {t:yt} {sz:Nat} (hz:cU P t=some sz):(vJ t).run P w= .ok sz w:=by
 unfold cU at hz
 cases hi:P.info? t with
 | none=>simp [hi] at hz
 | some i=>simp_all [vJ,typeInfo]
section
variable {O:bw} {H:Hint} {m:Mp} {S:Nat->Prop} {w:yh} {tm:Env} {a:Act} {hp:Hp} {ct:Nat}
def UX {id o n:Nat} {rw pu ex:Bool} {sz:Nat} {cs:List AV} {p:Pl} (hh:aX O m S w hp ct) (hg:aF hp id=some (.cells rw pu ex sz cs)) (hm:m id=some p):
  b7 O.aj m S w cs p.b p.o:=by
 obtain ⟨p',arr,t',iR,_,_,_,_,_,hr,_⟩:=hh.obj id _ _ hg hm
 grind
def aBJ {t:yt} {sz:Nat} {ag:Bool} {vx v:AV} {x:yf} (hh:aX O m S w hp ct) (hz:cU O.P t=some sz) (ha:eb O.P t=some ag) (hx:an O.aj m S w vx x)
  (h:jf hp sz ag vx=some v):∃u,(Instr.loadAt t x).run O.P w= .ok u w/\an O.aj m S w v u:=by
 cases vx<;>simp only [jf,reduceCtorEq] at h
 case ptr id o=>
  obtain ⟨p,hm,rfl⟩:=hx
  split at h
  case h_2=>cases h
  rename_i rw0 pu0 za z0 cs0 En;have hr:=UX (id:=id) (o:=0) (n:=0) hh En hm;obtain ⟨u,h1,h2⟩:=O2 hz ha (rY o cs0 p.b p.o hr) h;exact ⟨u,by simp only [Instr.loadAt,Instr.sureAddr,Sem.run_bind,Sem.run_pure,Result.andThen_ok];exact h1,h2⟩
 case cz cs=>
  obtain ⟨b,o,rfl,_,_,hr⟩:=hx;obtain ⟨u,h1,h2⟩:=O2 hz ha hr h;exact ⟨u,by simp only [Instr.loadAt,Instr.sureAddr,Sem.run_bind,Sem.run_pure,Result.andThen_ok];exact h1,h2⟩
def BJ:∀(k:Nat) (cs:List AV),aO cs=true->aO (cs.drop k)=true
 | 0,cs,h=>by simpa using h
 | k+1,[],h=>by simpa using h
 | k+1,c::cs,h=>by simp only [aO,yg] at h;simpa using BJ k cs h.2
def Uy {cs:List AV} {b o k:Nat} (h2:cs=[]\/S b) (h3:aO cs=true) (h4:b7 O.aj m S w cs b o):an O.aj m S w (.cz (cs.drop k)) (.pointer (some ⟨b,o+k,none⟩)):=by
 refine ⟨b,o+k,rfl,?_,BJ k cs h3,rY k cs b o h4⟩
 grind
def axW {t:yt} {fs:Array uJ} {i:Nat} {f:uJ} {sz:Nat} {vx v:AV} {x:yf} (hu:O.P.underlying t=some (.struct fs)) (hf:fs[i]? =some f) (hz:cU O.P f.type=some (sz+1))
  (hx:an O.aj m S w vx x)
  (h:Lt f.offset vx=some v):∃u,(Instr.fieldAt t x i).run O.P w= .ok u w/\an O.aj m S w v u:=by
 have alk:∀(b o:Nat),(Instr.fieldAt t (.pointer (some ⟨b,o,none⟩)) i).run O.P w= .ok (.pointer (some ⟨b,o+f.offset,none⟩)) w:=by
  intro b o;simp only [Instr.fieldAt,Sem.run_bind,run_underlying hu,Result.andThen_ok,hf,Instr.sureAddr,Sem.run_pure,fieldPlace,n8 hz,Nat.succ_ne_zero,y9,pH]
 cases vx<;>simp only [Lt,reduceCtorEq] at h
 case ptr id o=>
  obtain ⟨p,hm,rfl⟩:=hx;simp only [yc] at h;subst h;exact ⟨_,alk _ _,by simp only [an];exact ⟨p,hm,by rw [uE]⟩⟩
 case cz cs=>
  obtain ⟨b,o,rfl,h2,h3,h4⟩:=hx
  cases hc:yG f.offset cs.length with
  | false=>rw [hc] at h;cases h
  | true=>
   rw [hc] at h;simp only [yB,yc] at h;subst h;exact ⟨_,alk _ _,Uy h2 h3 h4⟩
def axX {t:yt} {fs:Array uJ} {i:Nat} {f:uJ} {sz:Nat} {ag:Bool} {vx v:AV} {x:yf} (hu:O.P.underlying t=some (.struct fs)) (hf:fs[i]? =some f)
  (hz:cU O.P f.type=some sz) (ha:eb O.P f.type=some ag) (hx:an O.aj m S w vx x)
  (h:PL f.offset sz ag vx=some v):∃u,(Instr.field t x i).run O.P w= .ok u w/\an O.aj m S w v u:=by
 cases vx<;>simp only [PL,reduceCtorEq] at h
 obtain ⟨xs,rfl,hr⟩:=hx;obtain ⟨u,h1,h2⟩:=agU hz ha hr h;exact ⟨u,by simp only [Instr.field,Sem.run_bind,run_underlying hu,Result.andThen_ok,hf,asAgg,Sem.run_pure];exact h1,h2⟩
def axY {t e:yt} {sz k:Nat} {vx vi v:AV} {x i:yf} (hu:O.P.underlying t=some (.slice e)) (hz:cU O.P e=some sz) (hx:an O.aj m S w vx x) (hi:an O.aj m S w vi i)
  (hk:dP vi=some k)
  (h:kw sz k vx=some v):∃u,(Instr.indexAt t x i).run O.P w= .ok u w/\an O.aj m S w v u:=by
 obtain ⟨kd,rfl⟩:=zQ hi hk;have Ly:∀(b o n c:Nat),k<n->(Instr.indexAt t (.slice (some ⟨b,o,none⟩) n c) (.int kd (k:Int))).run O.P w= .ok (.pointer (some ⟨b,o+k*sz,none⟩)) w:=by
  intro b o n c zb;have hr:(0:Int)<=(k:Int)/\(k:Int)<(n:Int):=by omega
  simp [Instr.indexAt,asIntOf,run_underlying hu,n8 hz,hr,pH]
  grind
 cases vx<;>simp only [kw,reduceCtorEq] at h
 case ay id o n=>
  obtain ⟨p,c,hm,rfl,M9,SC⟩:=hx
  cases hc:yL k n with
  | false=>rw [hc] at h;cases h
  | true=>
   rw [hc] at h;simp only [yB,yc] at h;subst h;have zb:k<n:=by simp_all
   exact ⟨_,Ly _ _ _ _ zb,by simp only [an];exact ⟨p,hm,by rw [uE]⟩⟩
 case ap ex n cs=>
  rcases hx with ⟨b,o,c,rfl,M9,hex,h2,h3,h4⟩ | ⟨a,rfl,rfl,rfl⟩
  case inr=>
   have:yL k 0=false:=by cases hq:yL k 0 with | false=>rfl | true=>simp only [yL,ycb] at hq;omega
   grind
  cases hc:yL k n with
  | false=>rw [hc] at h;cases h
  | true=>
   rw [hc] at h;simp only [yB,yc] at h;subst h;have zb:k<n:=by simp_all
   exact ⟨_,Ly _ _ _ _ zb,Uy h2 h3 h4⟩
def axZ {t e:yt} {len sz k:Nat} {vx vi v:AV} {x i:yf} (hu:O.P.underlying t=some (.array len e)) (hz:cU O.P e=some sz) (hx:an O.aj m S w vx x) (hi:an O.aj m S w vi i)
  (hk:dP vi=some k)
  (h:PM len sz k vx=some v):∃u,(Instr.indexAt t x i).run O.P w= .ok u w/\an O.aj m S w v u:=by
 obtain ⟨kd,rfl⟩:=zQ hi hk;have Ly:∀(b o:Nat),k<len->(Instr.indexAt t (.pointer (some ⟨b,o,none⟩)) (.int kd (k:Int))).run O.P w= .ok (.pointer (some ⟨b,o+k*sz,none⟩)) w:=by
  intro b o zb;have hr:(0:Int)<=(k:Int)/\(k:Int)<(len:Int):=by omega
  simp [Instr.indexAt,asIntOf,run_underlying hu,n8 hz,hr,pH,Instr.sureAddr]
  grind
 cases vx<;>simp only [PM,reduceCtorEq] at h
 case ptr id o=>
  obtain ⟨p,hm,rfl⟩:=hx
  cases hc:yL k len with
  | false=>rw [hc] at h;cases h
  | true=>
   rw [hc] at h;simp only [yB,yc] at h;subst h;have zb:k<len:=by simp_all
   exact ⟨_,Ly _ _ zb,by simp only [an];exact ⟨p,hm,by rw [uE]⟩⟩
 case cz cs=>
  obtain ⟨b,o,rfl,h2,h3,h4⟩:=hx
  cases hc:yL k len with
  | false=>rw [hc] at h;cases h
  | true=>
   rw [hc] at h;simp only [yB,yc] at h;subst h;have zb:k<len:=by simp_all
   exact ⟨_,Ly _ _ zb,Uy h2 h3 h4⟩
def ax0 {t e:yt} {len sz k:Nat} {ag:Bool} {vx vi v:AV} {x i:yf} (hu:O.P.underlying t=some (.array len e)) (hz:cU O.P e=some sz) (ha:eb O.P e=some ag)
  (hx:an O.aj m S w vx x) (hi:an O.aj m S w vi i) (hk:dP vi=some k)
  (h:PN len sz ag k vx=some v):
  ∃u,(Instr.index t x i).run O.P w= .ok u w/\an O.aj m S w v u:=by
 obtain ⟨kd,rfl⟩:=zQ hi hk;cases vx<;>simp only [PN,reduceCtorEq] at h
 obtain ⟨xs,rfl,hr⟩:=hx
 cases hc:yL k len with
 | false=>rw [hc] at h;cases h
 | true=>
  rw [hc] at h;have zb:k<len:=by simp_all
  obtain ⟨u,h1,h2⟩:=agU hz ha hr h;have cM:(0:Int)<=(k:Int)/\(k:Int)<(len:Int):=by omega
  exact ⟨u,by simp [Instr.index,asIntOf,run_underlying hu,n8 hz,cM,h1];intro hle;exact absurd hle (by omega),h2⟩
def ax1 {t:yt} {k:Nat} {vx vi v:AV} {x i:yf} (hu:O.P.underlying t=some .string) (hx:an O.aj m S w vx x) (hi:an O.aj m S w vi i) (hk:dP vi=some k)
  (h:nC k vx=some v):
  ∃u,(Instr.index t x i).run O.P w= .ok u w/\an O.aj m S w v u:=by
 obtain ⟨kd,rfl⟩:=zQ hi hk;cases vx<;>simp only [nC,reduceCtorEq] at h
 obtain ⟨b,rfl,rfl⟩:=hx
 cases hs:(b.data.toList.map xf)[k]? with
 | none=>rw [hs] at h;cases h
 | some q=>
  rw [hs] at h;simp only [yc] at h;subst h;rw [List.getElem?_map] at hs
  cases hb:b.data.toList[k]? with
  | none=>rw [hb] at hs;cases hs
  | some c=>
   rw [hb] at hs;simp only [wC,yc] at hs;subst hs;have da:b[k]? =some c:=by
    have aZ:k<b.data.toList.length:=by
     grind
    have eY:k<b.size:=by simp_all
    rw [getElem?_pos b k eY];rw [List.getElem?_eq_getElem aZ] at hb;rw [<-hb];rfl
   refine ⟨.int .u8 c.toNat,?_,by simp [an]⟩;simp [Instr.index,asIntOf,run_underlying hu,da]
end
end
section
open Go
section
variable {aj:Nat->Nat} {m:Mp} {S:Nat->Prop} {w:yh}
def Uz:∀{v:AV} {u:yf},an aj m S w v u->cr (cellsOf v)=true->aA aj m S w (cellsOf v) u.cells.toList:=by
 intro v u h h1;cases v
 case agg cs=>
  simp only [an] at h;obtain ⟨xs,rfl,hr⟩:=h;exact hr
 case af vs=>simp [cellsOf,cr,cP] at h1
 case undef=>simp [cellsOf,cr,cP] at h1
 case bV=>simp [cellsOf,cr,cP] at h1
 case fn f a b=>
  cases f with
  | f g=>have h':=h;simp only [an] at h';obtain ⟨fi,ca,rfl,_⟩:=h';simp only [cellsOf,Value.cells,aA];exact ⟨_,_,rfl,h,rfl⟩
  | y l=>have h':=h;simp only [an] at h';obtain ⟨p,_,rfl⟩:=h';simp only [cellsOf,Value.cells,aA];exact ⟨_,_,rfl,h,rfl⟩
 case str s=>have h':=h;simp only [an] at h';obtain ⟨b,rfl,_⟩:=h';simp only [cellsOf,Value.cells,aA];exact ⟨_,_,rfl,h,rfl⟩
 case ptr id o=>have h':=h;simp only [an] at h';obtain ⟨b,_,rfl⟩:=h';simp only [cellsOf,Value.cells,aA];exact ⟨_,_,rfl,h,rfl⟩
 case cz cs=>have h':=h;simp only [an] at h';obtain ⟨b,o,rfl,_⟩:=h';simp only [cellsOf,Value.cells,aA];exact ⟨_,_,rfl,h,rfl⟩
 case ap e n cs=>have h':=h;simp only [an] at h';rcases h' with ⟨b,o,c,rfl,_⟩ | ⟨a,rfl,_,_⟩<;>(simp only [cellsOf,Value.cells,aA];exact ⟨_,_,rfl,h,rfl⟩)
 case ay id o n=>have h':=h;simp only [an] at h';obtain ⟨p,c,_,rfl,_⟩:=h';simp only [cellsOf,Value.cells,aA];exact ⟨_,_,rfl,h,rfl⟩
 case map id=>have h':=h;simp only [an] at h';obtain ⟨p,_,rfl⟩:=h';simp only [cellsOf,Value.cells,aA];exact ⟨_,_,rfl,h,rfl⟩
 case jD ks vs=>have h':=h;simp only [an] at h';obtain ⟨b,es,cl,rfl,_⟩:=h';simp only [cellsOf,Value.cells,aA];exact ⟨_,_,rfl,h,rfl⟩
 case it id=>have h':=h;simp only [an] at h';obtain ⟨p,_,rfl⟩:=h';simp only [cellsOf,Value.cells,aA];exact ⟨_,_,rfl,h,rfl⟩
 all_goals
  have h':=h;simp only [an] at h';subst h';simp only [cellsOf,Value.cells,aA];exact ⟨_,_,rfl,h,rfl⟩
def FV (v:yf):aA aj m S w (cellsOf (eS v)) v.cells.toList:=by
 have h:=O1 (aj:=aj) (m:=m) (S:=S) (w:=w) v;cases v
 case agg xs=>
  obtain ⟨l⟩:=xs;simp only [eS,an] at h ⊢;obtain ⟨xs,e,hr⟩:=h;injection e with e
  subst e;exact hr
 case tuple xs=>obtain ⟨l⟩:=xs;simp only [eS] at h ⊢;simp only [cellsOf,Value.cells,aA];exact ⟨_,_,rfl,h,rfl⟩
 case pointer p=>cases p<;>(simp only [eS] at h ⊢;simp only [cellsOf,Value.cells,aA];exact ⟨_,_,rfl,h,rfl⟩)
 case map p=>cases p<;>(simp only [eS] at h ⊢;simp only [cellsOf,Value.cells,aA];exact ⟨_,_,rfl,h,rfl⟩)
 case slice p n c=>
  cases p
  ·cases n
   ·cases c<;>(simp only [eS] at h ⊢;simp only [cellsOf,Value.cells,aA];exact ⟨_,_,rfl,h,rfl⟩)
   ·simp only [eS] at h ⊢;simp only [cellsOf,Value.cells,aA];exact ⟨_,_,rfl,h,rfl⟩
  ·simp only [eS] at h ⊢;simp only [cellsOf,Value.cells,aA];exact ⟨_,_,rfl,h,rfl⟩
 all_goals (simp only [eS] at h ⊢;simp only [cellsOf,Value.cells,aA];exact ⟨_,_,rfl,h,rfl⟩)
def mr:∀{a b:List AV} {x y:List yf},aA aj m S w a x->aA aj m S w b y->aA aj m S w (a++b) (x++y)
 | [],b,x,y,h,k=>by simp only [aA] at h;subst h;simpa using k
 | c::a,b,x,y,h,k=>by
  simp only [aA] at h;obtain ⟨u,r,rfl,h2,h3⟩:=h;simp only [List.cons_append,aA];exact ⟨u,r++y,rfl,h2,mr h3 k⟩
def Ka:∀(k:Nat) {cs:List AV} {us:List yf},aA aj m S w cs us->aA aj m S w (cs.drop k) (us.drop k)
 | 0,cs,us,h=>by simpa using h
 | k+1,[],us,h=>by simp only [aA] at h;subst h;simp [aA]
 | k+1,c::cs,us,h=>by simp only [aA] at h;obtain ⟨u,r,rfl,_,h3⟩:=h;simpa using Ka k h3
def F3:∀(k:Nat) {cs:List AV} {us:List yf},aA aj m S w cs us->aA aj m S w (cs.take k) (us.take k)
 | 0,cs,us,h=>by simp [aA]
 | k+1,[],us,h=>by simp only [aA] at h;subst h;simp [aA]
 | k+1,c::cs,us,h=>by
  simp only [aA] at h;obtain ⟨u,r,rfl,h2,h3⟩:=h;simp only [wx,aA];exact ⟨u,_,rfl,h2,F3 k h3⟩
def UY:∀{cs:List AV} {us:List yf} {i:Nat} {v:AV},aA aj m S w cs us->cs[i]? =some v->∃u,us[i]? =some u/\an aj m S w v u
 | [],us,i,v,_,h=>by simp at h
 | c::cs,us,0,v,h,e=>by
  simp only [aA] at h;obtain ⟨u,r,rfl,h2,h3⟩:=h;simp at e;subst e;exact ⟨u,rfl,h2⟩
 | c::cs,us,i+1,v,h,e=>by
  simp only [aA] at h;obtain ⟨u,r,rfl,h2,h3⟩:=h;simp at e;simpa using UY h3 e
end
def afc (off:Nat):∀(new:List yf) (j:Nat) (cells:Array yf),off+j+new.length<=cells.size->
  ((new.zipIdx j).foldl (fun (cs:Array yf) (p:yf×Nat)=>cs.setIfInBounds (off+p.2) p.1) cells).toList=
   cells.toList.take (off+j)++new++cells.toList.drop (off+j+new.length)
 | [],j,cells,_=>by simp
 | v::r,j,cells,h=>by
  simp only [List.length_cons] at h;have ih:=afc off r (j+1) (cells.setIfInBounds (off+j) v) (by simp;omega);simp only [List.zipIdx_cons,List.foldl_cons];rw [ih];have aZ:off+j<cells.toList.length:=by simp;omega
  have h1:(cells.setIfInBounds (off+j) v).toList=cells.toList.set (off+j) v:=by simp
  rw [h1,show off+(j+1)=off+j+1 by omega];have h2:(cells.toList.set (off+j) v).take (off+j+1)=cells.toList.take (off+j)++[v]:=by
   rw [List.take_succ_eq_append_getElem (by simpa using aZ)];simp [List.take_set_of_le]
  have h3:(cells.toList.set (off+j) v).drop (off+j+1+r.length)=cells.toList.drop (off+j+(r.length+1)):=by
   rw [List.drop_set_of_lt (by omega)];congr 1;omega
  rw [h2,h3]
  simp
section
variable {O:bw} {H:Hint} {m:Mp} {S:Nat->Prop} {w:yh} {tm:Env} {a:Act}
def O3 (hH:fM O H) (ht:cA O m S w tm a.tmps) {place:Nat->Option (Nat×Nat)}:∀(parts:List (Nat×xu)) (ps:List (Nat×Nat×X)) (zero cs:List AV) (cells:Array yf),
  partsOf H place parts=some ps->aA O.aj m S w zero cells.toList->fill tm zero ps=some cs->
  ∃out,Instr.fill place cells (parts.map fun p=>(p.1,a.eval p.2))=some out/\aA O.aj m S w cs out.toList
 | [],ps,zero,cs,cells,hp,hz,hf=>by
  simp only [partsOf,yc] at hp;subst hp;simp only [fill,yc] at hf;subst hf;exact ⟨cells,rfl,hz⟩
 | (i,x)::r,ps,zero,cs,cells,hp,hz,hf=>by
  simp only [partsOf] at hp
  cases kO:place i with
  | none=>simp [kO] at hp
  | some q=>
   obtain ⟨o,s⟩:=q;simp only [kO] at hp
   cases oQ:partsOf H place r with
   | none=>simp [oQ] at hp
   | some l=>
    simp only [oQ,yc] at hp;subst hp;simp only [fill] at hf
    cases hc:(yu (cellsOf (aG tm (aT H x))).length s&&yG (o+s) zero.length&&cr (cellsOf (aG tm (aT H x)))) with
    | false=>rw [hc] at hf;cases hf
    | true=>
     rw [hc] at hf;simp only [yB] at hf;simp only [yg] at hc;have hs:=yo hc.1.1;have hle:=yv hc.1.2;have hrx:=Uz (cL hH ht x) hc.2;have nR:=iY _ _ hrx;have oR:=iY _ _ hz;have eY:(a.eval x).cells.size=s:=by rw [<-hs,<-nR];simp
     have C9:cells.size=zero.length:=by rw [<-oR];simp
     have aBK:=afc o (a.eval x).cells.toList 0 cells (by simp;omega);have mg:aA O.aj m S w (over o (cellsOf (aG tm (aT H x))) zero)
       ((a.eval x).cells.zipIdx.foldl (fun (cs:Array yf) (p:yf×Nat)=>cs.setIfInBounds (o+p.2) p.1) cells).toList:=by
      rw [<-Array.foldl_toList,Array.toList_zipIdx,aBK];simp only [over,Nat.add_zero];rw [show (a.eval x).cells.toList.length=(cellsOf (aG tm (aT H x))).length from nR];exact mr (mr (F3 o hz) hrx) (Ka _ hz)
     obtain ⟨out,h1,h2⟩:=O3 hH ht r l _ cs _ oQ mg hf;refine ⟨out,?_,h2⟩;simp only [xi,Instr.fill,kO,eY];rw [yp (by simp;omega)];exact h1
end
end
section
open Go
def afd (p q:ByteArray):(p==q)=bQ (mA p) (mA q):=by
 have h:(p==q)=(p.data==q.data):=by cases p;cases q;rfl
 rw [h,ae9,ByteArray.toList_eq,ByteArray.toList_eq];rw [ub,yan,yan];constructor
 ·intro e;rw [e]
 ·intro e;have:=congrArg List.toArray e;simpa using this
def Qa:vc->Bool
 | .bool | .int _ | .string=>true
 | _=>false
def fits (d:vc) (v:AV):Bool:=
 match d,v with
 | .int _,.int _ _ | .string,.str _ | .bool,.bool _=>true
 | _,_=>false
def Found (aj:Nat->Nat) (m:Mp) (S:Nat->Prop) (w:yh) (f:Option (Option (Nat×yf))):Option AV->Prop
 | none=>f=some none
 | some v=>∃j u,f=some (some (j,u))/\an aj m S w v u
section
variable {O:bw} {aj:Nat->Nat} {m:Mp} {S:Nat->Prop} {w:yh}
def afZ {vk vk':AV} {k k':yf} {r:Bool} {d:vc} (hk:an aj m S w vk k) (Ba:an aj m S w vk' k') (h:GU vk vk'=some r)
  (hd:fits d vk=true):Instr.sameNow d k k'=some r:=by
 unfold GU at h
 split at h
 ·rename_i j x j' y;simp only [an] at hk Ba;subst hk;subst Ba;by_cases hj:j=j'
  ·simp only [hj,xm,yc] at h;subst hj;cases d<;>simp [fits] at hd
   simpa [Instr.sameNow] using h
  ·simp [hj] at h
 ·simp only [an] at hk Ba;obtain ⟨s,rfl,rfl⟩:=hk;obtain ⟨s',rfl,rfl⟩:=Ba;simp only [yc] at h;cases d<;>simp [fits] at hd
  simp only [Instr.sameNow,afd];rw [<-h];rfl
 ·simp only [an] at hk Ba;subst hk;subst Ba;simp only [yc] at h;cases d<;>simp [fits] at hd
  simp [Instr.sameNow,h]
 ·cases h
def UZ {vk:AV} {k:yf} {d:vc} (hk:an aj m S w vk k)
  (hd:fits d vk=true):∀(ks vs:List AV) (es:List uz) (i:Nat) (r:Option AV),
  aA aj m S w ks (es.map (·.key))->aA aj m S w vs (es.map (·.val))->El vk ks vs=some r->Found aj m S w (Instr.findNow d k es i) r
 | [],vs,es,i,r,h1,h2,h=>by
  simp only [aA,List.map_eq_nil_iff] at h1;subst h1;simp only [El,yc] at h;subst h;rfl
 | c::ks,[],es,i,r,h1,h2,h=>by simp only [El] at h;cases h
 | c::ks,v::vs,es,i,r,h1,h2,h=>by
  cases es with
  | nil=>simp [aA] at h1
  | cons e es=>
   simp only [xi,aA,vU] at h1 h2;obtain ⟨u,t,⟨rfl,rfl⟩,hc,SD⟩:=h1;obtain ⟨u',t',⟨rfl,rfl⟩,hv,Bb⟩:=h2;simp only [El] at h
   cases Bc:GU vk c with
   | none=>simp [Bc] at h
   | some b=>
    have hs:=afZ (d:=d) hk hc Bc hd
    cases b with
    | true=>
     simp only [Bc,yc] at h;subst h;exact ⟨i,e.val,by simp [Instr.findNow,hs],hv⟩
    | false=>
     simp only [Bc] at h;have ih:=UZ hk hd ks vs es (i+1) r SD Bb h;simpa [Instr.findNow,hs] using ih
def N3 {P:xe} {kt:yt} {d:vc} (hu:P.underlying kt=some d) (hd:Qa d=true) (b:Bool) (k:yf):(Instr.checkKey b 10000 kt k).run P w= .ok () w:=by
 have:∀n,(Instr.checkKey b (n+1) kt k).run P w= .ok () w:=by
  intro n;cases d<;>simp [Qa] at hd<;>simp [Instr.checkKey,run_underlying hu]
 exact this 9999
def ax2 {t kt e:yt} {d:vc} {ok:Bool} {hp:Hp} {ct:Nat} {vx vk v:AV} {x k zero:yf} (hh:aX O m S w hp ct) (hu:O.P.underlying t=some (.map kt e)) (hk:O.P.underlying kt=some d) (hd:Qa d=true)
  (hdk:fits d vk=true)
  (hz:(zeroValue e).run O.P w= .ok zero w) (hx:an O.aj m S w vx x) (hkr:an O.aj m S w vk k) {z:AV} (hzr:an O.aj m S w z zero)
  {r:Option AV}
  (hr:Cj hp vk vx=some r)
  (hv:(match r with | some u=>(bif ok then AV.af [u,.bool true] else u) | none=>(bif ok then AV.af [z,.bool false] else z))=v):
  ∃u,(Instr.lookup t x k ok).run O.P w= .ok u w/\an O.aj m S w v u:=by
 have fin:∀(u:AV) (uu:yf) (b:Bool),an O.aj m S w u uu->an O.aj m S w (bif ok then AV.af [u,.bool b] else u) (if ok then .tuple #[uu,.bool b] else uu):=by
  intro u uu b h
  cases ok with
  | true=>simp only [yB,xm,an,aA];exact ⟨_,rfl,_,_,rfl,h,_,_,rfl,rfl,rfl⟩
  | false=>simpa using h
 have body:∀(x':yf) (es:Array uz),((x'= .map none/\es=#[])\/∃b clock,x'= .map (some b)/\w.heap[b]? =some (.map es clock))->Found O.aj m S w (Instr.findNow d k es.toList 0) r->
   ∃u,(Instr.lookup t x' k ok).run O.P w= .ok u w/\an O.aj m S w v u:=by
  intro x' es hl hf
  cases r with
  | none=>
   have Da:Instr.findNow d k es.toList 0=some none:=hf;refine ⟨if ok then .tuple #[zero,.bool false] else zero,?_,by rw [<-hv];exact fin z zero false hzr⟩
   rcases hl with ⟨rfl,rfl⟩ | ⟨b,clock,rfl,hb⟩
   ·have WO:Instr.findNow d k [] 0=some none:=rfl;simp [Instr.lookup,run_underlying hu,N3 hk hd,Instr.findKey,run_underlying hk,WO,hz]
   ·simp [Instr.lookup,run_underlying hu,getObj,Sem.run,hb,N3 hk hd,Instr.findKey,run_underlying hk,Da,hz]
  | some v'=>
   obtain ⟨j,u,h1,h2⟩:=hf;refine ⟨if ok then .tuple #[u,.bool true] else u,?_,by rw [<-hv];exact fin v' u true h2⟩
   rcases hl with ⟨rfl,rfl⟩ | ⟨b,clock,rfl,hb⟩
   ·have WO:Instr.findNow d k [] 0=some none:=rfl;rw [show (#[]:Array uz).toList=[] from rfl,WO] at h1;cases h1
   ·simp [Instr.lookup,run_underlying hu,getObj,Sem.run,hb,N3 hk hd,Instr.findKey,run_underlying hk,h1]
 cases vx<;>simp only [Cj,reduceCtorEq] at hr
 case kD=>
  simp only [yc] at hr;subst hr;simp only [an] at hx;subst hx;exact body _ #[] (.inl ⟨rfl,rfl⟩) rfl
 case map id=>
  simp only [an] at hx;obtain ⟨p,hm,rfl⟩:=hx
  split at hr
  case h_2=>cases hr
  rename_i rw0 ks vs En;obtain ⟨p',es,clock,iR,hb,h1,h2,_⟩:=hh.obj id _ _ En hm;rw [hm] at iR;injection iR with iR;subst iR
  exact body _ es (.inr ⟨_,_,rfl,hb⟩) (UZ hkr hdk ks vs es.toList 0 r h1 h2 hr)
 case jD ks vs=>
  simp only [an] at hx;obtain ⟨b,es,clock,rfl,_,_,_,hb,h1,h2⟩:=hx;exact body _ es (.inr ⟨_,_,rfl,hb⟩) (UZ hkr hdk ks vs es.toList 0 r h1 h2 hr)
end
end
end VE
