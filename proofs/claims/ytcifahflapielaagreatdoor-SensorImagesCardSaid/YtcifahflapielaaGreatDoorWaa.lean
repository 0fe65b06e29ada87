import GoSem.Core.Code
import GoSem.Core.Float
import GoSem.Core.Utf8
import Derived.CallsIn
import Derived.Laws.World
import GoSem.Op.Equal
import GoSem.Core.Region
import Derived.Below
import Derived.Laws.AppendOwn
import Derived.Laws.Rows
import Derived.WalkKit
import Derived.Laws.CopyRow
import Derived.Laws.Cells
import Derived.Laws.Strings
import Derived.Lib.Strings
import Derived.WideLaws
import Derived.Maps.Keyed
import Derived.ChangeKeysEq
import Derived.Laws.Tables
import Derived.IntWalk
import Derived.Laws.CopyOwn
set_option linter.all false
set_option maxRecDepth 100000
open Array renaming getElem?_eq_some_iff->xD,getElem?_modify->yaF,getElem?_toList->tn,length_toList->vt,range->tD
open BitVec renaming ofInt->wu
open Bool renaming and_assoc->yas,and_eq_true->ye,eq_iff_iff->yak,false_eq_true->yL,not_eq_true'->vR
open ForInStep renaming yield->yaP
open Go renaming Addr->uG,BinOp->wU,Code->vj,Ending->yaR,Field->ub,FloatKind->wD,FuncId->tQ,IntKind->xj,Loop->uT,MapEntry->wV,Next->yaE,Obj->yal,Oper->yV,Operand->xC,Program->xy,TypeDesc->tM,TypeId->yE,TypeInfo->ycL,UnOp->ycv,Value->yj,World->ym,binOp->wo,sizeOf->vl
open Go.Utf8 renaming runeError->uK,valid->ybo
open List renaming all_cons->yae,append_assoc->xJ,cons_append->xh,drop_drop->vd,eq_nil_of_length_eq_zero->yt,ext_getElem?->ybh,flatten_append->yaT,flatten_cons->vS,getElem?_append_left->wH,getElem?_append_right->wq,getElem?_drop->ybe,getElem?_eq_getElem->xf,getElem?_map->uU,getElem?_take_of_lt->uY,getElem?_toArray->yaJ,length_append->yM,length_cons->yx,length_drop->xX,length_take->yO,map_cons->xi,map_eq_nil_iff->yaS,mem_append->wR,range->wi,replicate->yD,replicate_succ->wT,size_toArray->tp,take_of_length_le->yq,take_succ_cons->wI,take_zero->yaN
open List.cons renaming injEq->xQ
open Nat renaming add_assoc->tG,add_mul->wg,add_zero->xd,beq->yp,beq_eq->ycH,beq_refl->wO,ble->yJ,ble_eq->ycI,blt->yP,eq_of_beq_eq_true->yh,eq_zero_or_pos->xv,le_of_ble_eq_true->yu,le_refl->yz,le_trans->xn,lt_of_lt_of_le->yR,min_le_left->ybF,mul_comm->xz,mul_le_mul_right->yQ,one_mul->ybU,testBit->vv,zero_add->yf
open Option renaming isSome_none->tL,map_none->uy,map_some->wN
open Option.some renaming injEq->yd
open PUnit renaming unit->yaq
open Prod.mk renaming injEq->yo
open UInt8 renaming toNat->xp,toNat_inj->ybp
open Option renaming some->GW,none->GX
open Bool renaming true->ycN,false->ycO
def wC:=@and_true
def tS:=@beq_iff_eq
def tO:=@beq_self_eq_true
def yX:=@cond_false
def yC:=@cond_true
def vL:=@decide_eq_decide
def yW:=@decide_eq_false
def xo:=@decide_eq_true
def tC:=@decide_eq_true_eq
def yA:=@decide_false
def yy:=@decide_true
def ycl:=@false_or
def xE:=@if_false
def yI:=@if_neg
def yK:=@if_pos
def xS:=@if_true
def ycJ:=@not_false_eq_true
def ycK:=@not_true_eq_false
def vY:=@or_false
def tN:=@true_and
namespace VE
section
open Go (IntKind FloatKind BinOp UnOp)
inductive Fr where
 | f (n:Nat)
 | y (l:Nat)
 deriving DecidableEq,Inhabited
inductive AV where
 | int (k:xj) (n:Int)
 | bool (b:Bool)
 | ay (k:wD) (bits:Nat)
 | bT (k:wD) (re im:Nat)
 | str (s:List Nat)
 | mT
 | ptr (id off:Nat)
 | bN (cells:List AV)
 | ab
 | ap (ex:Bool) (n:Nat) (cells:List AV)
 | cL (ex:Bool) (sz n:Nat) (cells:List AV)
 | aq (id off n:Nat)
 | fn (f:Fr) (first cap:List AV)
 | jH
 | lK
 | map (id:Nat)
 | lL (ks vs:List AV)
 | it (id:Nat)
 | agg (cells:List AV)
 | av (vs:List AV)
 | undef
 deriving Inhabited
inductive X where
 | t (i:Nat)
 | c (v:AV)
 deriving Inhabited
inductive Conv where
 | toInt (k:xj)
 | toFlt (k:wD)
 | str
 | re
 | im
 deriving Inhabited
inductive Md where
 | pure | own | heap | dyn
 deriving Inhabited
inductive Cut where
 | str
 | sl (sz:Nat)
 | ar (len sz:Nat)
 deriving Inhabited
inductive SB where
 | b | sl | fn | ag (ks:List Nat)
 deriving Inhabited
inductive Op where
 | sr (x:X)
 | pick (c a b:X)
 | box (sz:Nat) (x:X)
 | Fk (zero:List AV) (parts:List (Nat×Nat×X))
 | jI (n sz:Nat) (zero:List AV) (parts:List (Nat×Nat×X))
 | ld (sz:Nat) (ag:Bool) (x:X)
 | st (sz:Nat) (x v:X)
 | MK (x:X)
 | bin (op:wU) (x y:X)
 | eq (ne:Bool) (k:SB) (x y:X)
 | un (op:ycv) (x:X)
 | cv (k:Conv) (x:X)
 | IY (f:Fr) (first cap:List X)
 | B9
 | qt (sz bytes:Nat) (zero:List AV) (len cap:X)
 | sA (k:Cut) (x:X) (lo hi:Option X)
 | off (k:Nat) (x:X)
 | NM (o sz:Nat) (ag:Bool) (x:X)
 | a6 (sz:Nat) (x i:X)
 | IZ (len sz:Nat) (x i:X)
 | I0 (x i:X)
 | I1 (len sz:Nat) (ag:Bool) (x i:X)
 | SC (kk:Nat) (zero:AV) (ok:Bool) (m k:X)
 | sB (kk:Nat) (m k v:X)
 | sC (x:X)
 | sD (x:X)
 | ext (i:Nat) (x:X)
 | call (m:Md) (f:X) (xs:List X)
 | jD (rs:List (Nat×Bool×Nat)) (f:X) (xs:List X)
 | lO (rs:List (Nat×Bool×Nat)) (sz:Nat) (x v:X)
 | lP (rs:List (Nat×Bool×Nat)) (sz bytes:Nat) (s x:X)
 | c9 (sz bytes:Nat) (s x:X)
 | sE (sz bytes:Nat) (s x:X)
 | sF (sz:Nat) (d s:X)
 | len (k:Nat) (x:X)
 | mn (xs:List X)
 | mx (xs:List X)
 | I2 (x y:X)
 | nl (n sz:Nat) (zero:List AV) (parts:List (Nat×Nat×X))
 deriving Inhabited
structure aS where
 dst:Option Nat
 guard:Option (Nat×Bool)
 op:Op
 deriving Inhabited
inductive VC where
 | skip
 | oR (ops:List aS)
 | seq (a b:VC)
 | cond (x:X) (a b:VC)
 | ef (id:Nat) (a:VC)
 | kp (live:List Nat)
 | fz (ts:List Nat)
 | loop (live:List Nat) (a:VC)
 | rf (f:X) (ps:List Nat) (assign body:VC)
 | exit (id:Nat)
 | ret
 deriving Inhabited
inductive RV where
 | t (i:Nat)
 | cell (i sz:Nat) (ag:Bool)
 deriving Inhabited
structure aA where
 eG:List RV
 body:VC
 deriving Inhabited
inductive BP where
 | none | ret | exit (id:Nat)
 deriving Inhabited,DecidableEq
abbrev Env:=List (Nat×AV)
inductive Obj where
 | cells (rw pu ex:Bool) (sz:Nat) (cs:List AV)
 | mp (rw:Bool) (ks vs:List AV)
 | si (s:List Nat) (pos:Nat)
 | lp (tm:Env) (ps:List Nat) (assign body:VC) (state:Nat) (pending:BP)
 deriving Inhabited
abbrev Hp:=List (Nat×Obj)
structure St where
 tm:Env
 hp:Hp
 ct:Nat
 base:Nat
 deriving Inhabited
inductive Ex where
 | normal
 | ret
 | exit (id:Nat)
 deriving Inhabited,DecidableEq
def ai:Env->Nat->AV
 | [],_=>.undef
 | (j,v)::r,i=>bif yp j i then v else ai r i
def ax:Hp->Nat->Option Obj
 | [],_=>GX
 | (j,o)::r,i=>bif yp j i then GW o else ax r i
def aY:Hp->Nat->Obj->Hp
 | [],_,_=>[]
 | (j,o)::r,i,u=>bif yp j i then (j,u)::r else (j,o)::aY r i u
def dV:Hp->Nat->Hp
 | [],_=>[]
 | (j,o)::r,i=>bif yp j i then dV r i else (j,o)::dV r i
mutual
def aQ:AV->Bool
 | .ptr _ _ | .aq _ _ _ | .map _ | .it _ | .cL _ _ _ _=>ycO
 | .fn (.y _) _ _=>ycO
 | .fn (.f _) first cap=>aE first&&aE cap
 | .agg cs=>aE cs
 | .av vs=>aE vs
 | _=>ycN
def aE:List AV->Bool
 | []=>ycN
 | v::r=>aQ v&&aE r
end
def cellsOf:AV->List AV
 | .agg cs=>cs
 | v=>[v]
def cY:AV->Bool
 | .agg _ | .av _ | .undef | .cL _ _ _ _=>ycO
 | _=>ycN
def bY:List AV->Bool
 | []=>ycN
 | v::r=>cY v&&bY r
def az(tm:Env):X->AV
 | .t i=>ai tm i
 | .c v=>v
def dL(tm:Env):List X->List AV
 | []=>[]
 | x::r=>az tm x::dL tm r
def slice(o n:Nat)(cs:List AV):List AV:=(cs.drop o).take n
def over(o:Nat)(new cs:List AV):List AV:=cs.take o++new++cs.drop (o+new.length)
mutual
def freeze:Nat->Hp->AV->Option (AV×Hp)
 | 0,_,_=>GX
 | n+1,hp,v=>
  match v with
  | .aq id o k=>
   match Aa n hp id with
   | some (ex,sz,cs,au)=>
    bif yJ (o+k*sz) cs.length then
     GW (.ap (ex&&yP 0 sz&&yp (o+k*sz) cs.length) k (slice o (k*sz) cs),au)
    else GX
   | none=>GX
  | .ptr id o=>
   match Aa n hp id with
   | some (_,_,cs,au)=>GW (.bN (cs.drop o),au)
   | none=>GX
  | .map id=>
   match ax hp id with
   | some (.mp _ ks vs)=>bif aE ks&&aE vs then GW (.lL ks vs,aY hp id (.mp ycO ks vs)) else GX
   | _=>GX
  | .fn (.f g) first cap=>
   match cg n hp first with
   | some (aen,bk)=>
    match cg n bk cap with
    | some (Q7,jP)=>GW (.fn (.f g) aen Q7,jP)
    | none=>GX
   | none=>GX
  | .agg cs=>match cg n hp cs with | some (ck,au)=>GW (.agg ck,au) | none=>GX
  | .av cs=>match cg n hp cs with | some (ck,au)=>GW (.av ck,au) | none=>GX
  | v=>bif aQ v then GW (v,hp) else GX
def Aa:Nat->Hp->Nat->Option (Bool×Nat×List AV×Hp)
 | 0,_,_=>GX
 | n+1,hp,id=>
  match ax hp id with
  | some (.cells rw pu ex sz cs)=>
   bif pu then GW (ex,sz,cs,bif rw then aY hp id (.cells ycO ycN ex sz cs) else hp)
   else match cg n hp cs with
    | some (ck,au)=>GW (ex,sz,ck,aY au id (.cells ycO ycO ex sz cs))
    | none=>GX
  | _=>GX
def cg:Nat->Hp->List AV->Option (List AV×Hp)
 | 0,_,_=>GX
 | _+1,hp,[]=>GW ([],hp)
 | n+1,hp,v::r=>
  match freeze n hp v with
  | some (v',bk)=>
   match cg n bk r with
   | some (r',jP)=>GW (v'::r',jP)
   | none=>GX
  | none=>GX
end
def Bv(n:Nat)(hp:Hp)(v:AV):Option (AV×Hp):=
 match v with
 | .aq id o k=>
  match ax hp id with
  | some (.cells ycN ycN ex sz cs)=>
   bif yJ (o+k*sz) cs.length then
    GW (.cL (ex&&yP 0 sz&&yp (o+k*sz) cs.length) sz k (slice o (k*sz) cs),dV hp id)
   else GX
  | _=>freeze n hp v
 | _=>freeze n hp v
def EO:List AV->Option (List Nat)
 | []=>GW []
 | .aq id _ _::r=>match EO r with | some l=>bif l.any (yp id) then GX else GW (id::l) | none=>GX
 | v::r=>bif aQ v then EO r else GX
def CS(n:Nat):Hp->List AV->Option (List AV×Hp)
 | hp,[]=>GW ([],hp)
 | hp,v::r=>
  match Bv n hp v with
  | some (v',bk)=>match CS n bk r with | some (r',jP)=>GW (v'::r',jP) | none=>GX
  | none=>GX
def deep:Nat:=1000
def result(hp:Hp)(v:AV):Option AV:=
 match v with
 | .av vs=>
  match EO vs with
  | some _=>match CS deep hp vs with | some (eh,_)=>GW (.av eh) | none=>GX
  | none=>match freeze deep hp v with | some (v',_)=>GW v' | none=>GX
 | v=>match Bv deep hp v with | some (v',_)=>GW v' | none=>GX
def bA:AV->AV
 | .cL ex _ n cs=>.ap ex n cs
 | v=>v
def Fm:List AV->List AV
 | []=>[]
 | v::r=>bA v::Fm r
def shut:AV->AV
 | .cL ex _ n cs=>.ap ex n cs
 | .av vs=>.av (Fm vs)
 | v=>v
def fT(hp:Hp)(ct:Nat):AV->AV×Hp×Nat
 | .cL ex sz n cs=>(.aq ct 0 n,(ct,.cells ycN ycN ex sz cs)::hp,ct+1)
 | v=>(v,hp,ct)
def kV:Hp->Nat->List AV->List AV×Hp×Nat
 | hp,ct,[]=>([],hp,ct)
 | hp,ct,v::r=>((fT hp ct v).1::(kV (fT hp ct v).2.1 (fT hp ct v).2.2 r).1,(kV (fT hp ct v).2.1 (fT hp ct v).2.2 r).2)
def own(hp:Hp)(ct:Nat):AV->AV×Hp×Nat
 | .av vs=>(.av (kV hp ct vs).1,(kV hp ct vs).2)
 | v=>fT hp ct v
mutual
def refs:AV->List Nat
 | .ptr id _=>[id]
 | .aq id _ _=>[id]
 | .map id=>[id]
 | .it id=>[id]
 | .fn (.f _) first cap=>kz first++kz cap
 | .fn (.y l) _ _=>[l]
 | .agg cs=>kz cs
 | .av cs=>kz cs
 | _=>[]
def kz:List AV->List Nat
 | []=>[]
 | v::r=>refs v++kz r
end
def kA:Env->List Nat
 | []=>[]
 | (_,v)::r=>refs v++kA r
def rJ:Obj->List Nat
 | .cells _ pu _ _ cs=>bif pu then [] else kz cs
 | .mp _ ks vs=>kz ks++kz vs
 | .si _ _=>[]
 | .lp tm _ _ _ _ _=>kA tm
mutual
def b9(f:Nat->Option Nat):AV->AV
 | .ptr id o=>match f id with | some j=>.ptr j o | none=>.undef
 | .aq id o n=>match f id with | some j=>.aq j o n | none=>.undef
 | .map id=>match f id with | some j=>.map j | none=>.undef
 | .it id=>match f id with | some j=>.it j | none=>.undef
 | .fn (.f g) first cap=>.fn (.f g) (gn f first) (gn f cap)
 | .fn (.y l) first cap=>match f l with | some j=>.fn (.y j) (gn f first) (gn f cap) | none=>.undef
 | .agg cs=>.agg (gn f cs)
 | .av cs=>.av (gn f cs)
 | v=>v
def gn(f:Nat->Option Nat):List AV->List AV
 | []=>[]
 | v::r=>b9 f v::gn f r
end
def mq(f:Nat->Option Nat):Env->Env
 | []=>[]
 | (i,v)::r=>(i,b9 f v)::mq f r
def mU(f:Nat->Option Nat):Obj->Obj
 | .cells rw pu ex sz cs=>.cells rw pu ex sz (bif pu then cs else gn f cs)
 | .mp rw ks vs=>.mp rw (gn f ks) (gn f vs)
 | .si s pos=>.si s pos
 | .lp tm ps cM body st pe=>.lp (mq f tm) ps cM body st pe
def cu(tm:Env):List Nat->Env
 | []=>[]
 | i::r=>(i,ai tm i)::cu tm r
def mV(i:Nat):List Nat->Bool
 | []=>ycO
 | j::r=>bif yp j i then ycN else mV i r
def reach(hp:Hp)(base:Nat):Nat->List Nat->List Nat->List Nat
 | 0,_,seen=>seen
 | _+1,[],seen=>seen
 | n+1,id::jJ,seen=>
  bif yP id base||mV id seen then reach hp base n jJ seen
  else match ax hp id with
   | some o=>reach hp base n (rJ o++jJ) (seen++[id])
   | none=>reach hp base n jJ seen
def j9(base:Nat):Hp->List Nat
 | []=>[]
 | (id,o)::r=>bif yP id base then rJ o++j9 base r else j9 base r
def mW(i:Nat):List Nat->Nat->Option Nat
 | [],_=>GX
 | j::r,k=>bif yp j i then GW k else mW i r (k+1)
def mh(base:Nat)(seen:List Nat)(id:Nat):Option Nat:=bif yP id base then GW id else mW id seen base
def nQ(base:Nat)(f:Nat->Option Nat):Hp->Hp
 | []=>[]
 | (id,o)::r=>bif yP id base then (id,mU f o)::nQ base f r else nQ base f r
def mi(hp:Hp)(f:Nat->Option Nat):List Nat->Nat->Hp->Hp
 | [],_,acc=>acc
 | id::r,k,acc=>match ax hp id with | some o=>mi hp f r (k+1) ((k,mU f o)::acc) | none=>mi hp f r (k+1) acc
def bq(live:List Nat)(s:St):St:=
 let tm:=cu s.tm live
 let seen:=reach s.hp s.base 100000 (kA tm++j9 s.base s.hp) []
 let f:=mh s.base seen
 {tm:=mq f tm,hp:=mi s.hp f seen s.base (nQ s.base f s.hp),ct:=s.base+seen.length,base:=s.base}
def mK(hp:Hp)(sz:Nat):AV->Option (Nat×List AV)
 | .ab=>GW (0,[])
 | .ap _ n cs=>bif yp cs.length (n*sz) then GW (n,cs) else GX
 | .aq id o n=>
  match ax hp id with
  | some (.cells _ _ _ _ cs)=>bif yJ (o+n*sz) cs.length then GW (n,slice o (n*sz) cs) else GX
  | _=>GX
 | _=>GX
def PS:List Nat->List AV
 | []=>[]
 | b::r=>.int .u8 b::PS r
def DH:List Nat->List Nat->Bool
 | _,[]=>ycO
 | [],_::_=>ycN
 | a::x,b::y=>yP a b||(yp a b&&DH x y)
def cN:List Nat->List Nat->Bool
 | [],[]=>ycN
 | a::x,b::y=>yp a b&&cN x y
 | _,_=>ycO
def dj:List Nat->List AV->List AV->Option Bool
 | [],[],[]=>GW ycN
 | 0::ks,.bool a::x,.bool b::y=>match dj ks x y with | some r=>GW ((a==b)&&r) | none=>GX
 | 1::ks,.int k a::x,.int k' b::y=>if k=k' then (match dj ks x y with | some r=>GW ((a==b)&&r) | none=>GX) else GX
 | 2::ks,.str a::x,.str b::y=>match dj ks x y with | some r=>GW (cN a b&&r) | none=>GX
 | _,_,_=>GX
def jK:SB->AV->AV->Option Bool
 | .b,.bool a,.bool b=>GW (a==b)
 | .sl,.ab,.ab=>GW ycN
 | .sl,.ab,.ap _ _ _=>GW ycO
 | .sl,.ab,.aq _ _ _=>GW ycO
 | .sl,.ap _ _ _,.ab=>GW ycO
 | .sl,.aq _ _ _,.ab=>GW ycO
 | .fn,.jH,.jH=>GW ycN
 | .fn,.jH,.fn _ _ _=>GW ycO
 | .fn,.fn _ _ _,.jH=>GW ycO
 | .ag ks,.agg a,.agg b=>dj ks a b
 | _,_,_=>GX
def intCmp(op:wU)(x y:Int):Option Bool:=
 match op with
 | .eql=>GW (x==y)
 | .neq=>GW (x !=y)
 | .lss=>GW (decide (x<y))
 | .leq=>GW (decide (x<=y))
 | .gtr=>GW (decide (x>y))
 | .geq=>GW (decide (x>=y))
 | _=>GX
def mO(op:wU)(k:xj)(x y:Int):Option AV:=
 match op with
 | .add=>GW (.int k (k.wrap (x+y)))
 | .sub=>GW (.int k (k.wrap (x-y)))
 | .mul=>GW (.int k (k.wrap (x*y)))
 | .quo=>if y=0 then GX else GW (.int k (k.wrap (x.tdiv y)))
 | .rem=>if y=0 then GX else GW (.int k (x.tmod y))
 | .and=>GW (.int k (k.wrap (wu k.bits x&&&wu k.bits y).toNat))
 | .or=>GW (.int k (k.wrap (wu k.bits x|||wu k.bits y).toNat))
 | .xor=>GW (.int k (k.wrap (wu k.bits x^^^wu k.bits y).toNat))
 | .andNot=>GW (.int k (k.wrap (wu k.bits x&&&~~~(wu k.bits y)).toNat))
 | .shl | .shr=>GX
 | op=>match intCmp op x y with | some b=>GW (.bool b) | none=>GX
def EE(op:wU)(k:xj)(x y:Int):Option AV:=
 if y<0 then GX else
 match op with
 | .shl=>GW (.int k (k.wrap (x*2^(min y.toNat k.bits))))
 | .shr=>GW (.int k (x.fdiv (2^(min y.toNat k.bits))))
 | _=>GX
def Mh(op:wU)(x y:List Nat):Option AV:=
 match op with
 | .add=>bif yJ (x.length+y.length) 9223372036854775807 then GW (.str (x++y)) else GX
 | .eql=>GW (.bool (cN x y))
 | .neq=>GW (.bool (!cN x y))
 | .lss=>GW (.bool (DH x y))
 | .leq=>GW (.bool (DH x y||cN x y))
 | .gtr=>GW (.bool (!(DH x y||cN x y)))
 | .geq=>GW (.bool (!DH x y))
 | _=>GX
def Qy(op:wU)(k:wD)(x y:Nat):Option AV:=
 let c:=k.format.order x y
 let ar (r:Option Nat):Option AV:=match r with | some b=>GW (.ay k b) | none=>GX
 match op with
 | .add=>ar (k.format.add x y)
 | .sub=>ar (k.format.sub x y)
 | .mul=>ar (k.format.mul x y)
 | .quo=>ar (k.format.div x y)
 | .eql=>GW (.bool (c==GW .eq))
 | .neq=>GW (.bool (c !=GW .eq))
 | .lss=>GW (.bool (c==GW .lt))
 | .leq=>GW (.bool (c==GW .lt||c==GW .eq))
 | .gtr=>GW (.bool (c==GW .gt))
 | .geq=>GW (.bool (c==GW .gt||c==GW .eq))
 | _=>GX
def DI(s k:wD)(b:Nat):Option Nat:=
 if s=k then GW b else
 match s.decode b with
 | .number sg m e=>if (k.decode (k.encode (.number sg m e))).isInfinity then GX else GW (k.encode (.number sg m e))
 | _=>GX
def nm(op:wU)(k:wD)(x y:Nat):Option Nat:=
 match op with
 | .add=>k.format.add x y
 | .sub=>k.format.sub x y
 | .mul=>k.format.mul x y
 | _=>GX
def Vw(k:wD)(a b c d:Nat):Option AV:=
 match DI k .f64 a,DI k .f64 b,DI k .f64 c,DI k .f64 d with
 | some a,GW b,GW c,GW d=>
  match nm .mul .f64 a c,nm .mul .f64 b d,nm .mul .f64 a d,nm .mul .f64 b c with
  | some p,GW q,GW r,GW s=>
   match nm .sub .f64 p q,nm .add .f64 r s with
   | some e,GW f=>match DI .f64 k e,DI .f64 k f with | some e,GW f=>GW (.bT k e f) | _,_=>GX
   | _,_=>GX
  | _,_,_,_=>GX
 | _,_,_,_=>GX
def V5(op:wU)(k:wD)(a b c d:Nat):Option AV:=
 match op with
 | .eql=>GW (.bool (k.format.order a c==GW .eq&&k.format.order b d==GW .eq))
 | .neq=>GW (.bool (!(k.format.order a c==GW .eq&&k.format.order b d==GW .eq)))
 | .add=>match nm .add k a c,nm .add k b d with | some r,GW i=>GW (.bT k r i) | _,_=>GX
 | .sub=>match nm .sub k a c,nm .sub k b d with | some r,GW i=>GW (.bT k r i) | _,_=>GX
 | .mul=>Vw k a b c d
 | _=>GX
def Qz(x y:AV):Option AV:=
 match x,y with
 | .ay k a,.ay k' b=>if k=k' then GW (.bT k a b) else GX
 | _,_=>GX
def binOp(op:wU)(x y:AV):Option AV:=
 match x,y with
 | .int k a,.int k' b=>
  match op with
  | .shl | .shr=>EE op k a b
  | _=>if k=k' then mO op k a b else GX
 | .ay k a,.ay k' b=>if k=k' then Qy op k a b else GX
 | .str a,.str b=>Mh op a b
 | .bT k a b,.bT k' c d=>if k=k' then V5 op k a b c d else GX
 | _,_=>GX
def unOp(op:ycv)(x:AV):Option AV:=
 match op,x with
 | .neg,.int k n=>GW (.int k (k.wrap (0-n)))
 | .xor,.int k n=>mO .xor k (if k.signed then -1 else k.max) n
 | .not,.bool b=>GW (.bool !b)
 | .neg,.ay k b=>GW (.ay k (b^^^2^(k.format.exponentBits+k.format.fractionBits)))
 | _,_=>GX
def kC(c:Conv)(x:AV):Option AV:=
 match c,x with
 | .toInt k,.int _ n=>GW (.int k (k.wrap n))
 | .toFlt k,.int _ n=>GW (.ay k (k.nearest n))
 | .toInt k,.ay s b=>
  match (s.decode b).toInt .zero with
  | some n=>if k.min<=n/\n<=k.max then GW (.int k n) else GX
  | none=>GX
 | .toFlt k,.ay s b=>
  if s=k then GW (.ay k b) else
  match s.decode b with
  | .number sg m e=>if (k.decode (k.encode (.number sg m e))).isInfinity then GX else GW (.ay k (k.encode (.number sg m e)))
  | _=>GX
 | .str,.str s=>GW (.str s)
 | .re,.bT k a _=>GW (.ay k a)
 | .im,.bT k _ b=>GW (.ay k b)
 | _,_=>GX
def gZ(sz:Nat)(ag:Bool)(cs:List AV):Option AV:=
 bif ag then (bif yJ sz cs.length then GW (.agg (cs.take sz)) else GX)
 else match cs with | v::_=>GW v | []=>GX
def dR(x:AV):Option Nat:=
 match x with
 | .int _ n=>match n with | .ofNat k=>GW k | .negSucc _=>GX
 | _=>GX
def db(tm:Env)(d:Nat):Option X->Option Nat
 | none=>GW d
 | some x=>dR (az tm x)
def fN(hp:Hp)(k:Cut)(x:AV)(tm:Env)(lo hi:Option X):Option AV:=
 match k,x with
 | .str,.str s=>
  match db tm 0 lo,db tm s.length hi with
  | some l,GW h=>bif yJ l h&&yJ h s.length then GW (.str ((s.take h).drop l)) else GX
  | _,_=>GX
 | .sl _,.ab=>
  match db tm 0 lo,db tm 0 hi with
  | some 0,GW 0=>GW .ab
  | _,_=>GX
 | .sl sz,.ap ex n cs=>
  match db tm 0 lo,db tm n hi with
  | some l,GW h=>bif yJ l h&&yJ h n then GW (.ap (ex&&yp h n) (h-l) (slice (l*sz) ((h-l)*sz) cs)) else GX
  | _,_=>GX
 | .sl sz,.aq id o n=>
  match ax hp id with
  | some (.cells _ _ _ z _)=>
   match db tm 0 lo,db tm n hi with
   | some l,GW h=>
    bif yJ l h&&yJ h n&&yp z sz then
     bif yp l h&& !yp l 0 then GW (.ap ycO 0 []) else GW (.aq id (o+l*sz) (h-l))
    else GX
   | _,_=>GX
  | _=>GX
 | .ar n s,.bN cs=>
  match db tm 0 lo,db tm n hi with
  | some l,GW h=>bif yp l 0&&yp h n&&(yP 0 n&&yJ (n*s) cs.length) then GW (.ap ycN n (cs.take (n*s))) else GX
  | _,_=>GX
 | _,_=>GX
def fill(tm:Env):List AV->List (Nat×Nat×X)->Option (List AV)
 | cs,[]=>GW cs
 | cs,(o,sz,x)::r=>
  let new:=cellsOf (az tm x)
  bif yp new.length sz&&yJ (o+sz) cs.length&&bY new then fill tm (over o new cs) r else GX
def pV:AV->AV->Option Bool
 | .int k a,.int k' b=>if k=k' then GW (a==b) else GX
 | .str a,.str b=>GW (cN a b)
 | .bool a,.bool b=>GW (a==b)
 | .agg a,.agg b=>dj (yD a.length 1) a b
 | _,_=>GX
def pI:Nat->AV->Bool
 | 0,.bool _=>ycN
 | 1,.int _ _=>ycN
 | 2,.str _=>ycN
 | n+3,.agg cs=>yp cs.length n
 | _,_=>ycO
def Fo(k:AV):List AV->List AV->Option (Option AV)
 | [],_=>GW GX
 | k'::ks,v::vs=>match pV k k' with | some ycN=>GW (GW v) | some ycO=>Fo k ks vs | none=>GX
 | _::_,[]=>GX
def BQ(k v:AV):List AV->List AV->Option (List AV×List AV)
 | [],[]=>GW ([k],[v])
 | k'::ks,u::us=>
  match pV k k' with
  | some ycN=>GW (k'::ks,v::us)
  | some ycO=>match BQ k v ks us with | some (lQ,NN)=>GW (k'::lQ,u::NN) | none=>GX
  | none=>GX
 | _,_=>GX
def min2:AV->AV->Option AV
 | .int k x,.int _ y=>GW (.int k (if y<x then y else x))
 | .ay k x,.ay _ y=>
  match k.format.order x y with
  | none=>GX
  | some .lt=>GW (.ay k x)
  | some .gt=>GW (.ay k y)
  | some .eq=>GW (.ay k (if (k.decode x).neg then x else y))
 | _,_=>GX
def max2:AV->AV->Option AV
 | .int k x,.int _ y=>GW (.int k (if y>x then y else x))
 | .ay k x,.ay _ y=>
  match k.format.order x y with
  | none=>GX
  | some .lt=>GW (.ay k y)
  | some .gt=>GW (.ay k x)
  | some .eq=>GW (.ay k (if (k.decode x).neg then y else x))
 | _,_=>GX
def Db(f:AV->AV->Option AV):AV->List AV->Option AV
 | a,[]=>GW a
 | a,b::r=>match f a b with | some c=>Db f c r | none=>GX
def room:Nat:=1099511627776
abbrev gL:=Option (AV×Hp×Nat)
def fY(hp:Hp)(sz:Nat)(ag:Bool):AV->Option AV
 | .ptr id o=>match ax hp id with | some (.cells _ _ _ _ cs)=>gZ sz ag (cs.drop o) | _=>GX
 | .bN cs=>gZ sz ag cs
 | _=>GX
def Mi(k:Nat):AV->Option AV
 | .ptr id o=>GW (.ptr id (o+k))
 | .bN cs=>bif yJ k cs.length then GW (.bN (cs.drop k)) else GX
 | _=>GX
def QA(o sz:Nat)(ag:Bool):AV->Option AV
 | .agg cs=>gZ sz ag (cs.drop o)
 | _=>GX
def fc(sz i:Nat):AV->Option AV
 | .aq id o n=>bif yP i n then GW (.ptr id (o+i*sz)) else GX
 | .ap _ n cs=>bif yP i n then GW (.bN (cs.drop (i*sz))) else GX
 | _=>GX
def Fp(len sz i:Nat):AV->Option AV
 | .ptr id o=>bif yP i len then GW (.ptr id (o+i*sz)) else GX
 | .bN cs=>bif yP i len then GW (.bN (cs.drop (i*sz))) else GX
 | _=>GX
def oJ(i:Nat):AV->Option AV
 | .str s=>match s[i]? with | some b=>GW (.int .u8 b) | none=>GX
 | _=>GX
def Mj(len sz:Nat)(ag:Bool)(i:Nat):AV->Option AV
 | .agg cs=>bif yP i len then gZ sz ag (cs.drop (i*sz)) else GX
 | _=>GX
def Dc(hp:Hp)(k:AV):AV->Option (Option AV)
 | .lK=>GW GX
 | .map id=>match ax hp id with | some (.mp _ ks vs)=>Fo k ks vs | _=>GX
 | .lL ks vs=>Fo k ks vs
 | _=>GX
def iW(hp:Hp):Nat->AV->Option AV
 | 0,.str s=>GW (.int .i64 s.length)
 | 1,.ab=>GW (.int .i64 0)
 | 1,.ap _ n _=>GW (.int .i64 n)
 | 1,.aq _ _ n=>GW (.int .i64 n)
 | 2,.lK=>GW (.int .i64 0)
 | 2,.lL ks _=>GW (.int .i64 ks.length)
 | 2,.map id=>match ax hp id with | some (.mp _ ks _)=>GW (.int .i64 ks.length) | _=>GX
 | _,_=>GX
def bg(tm:Env)(hp:Hp):Op->Option AV
 | .sr x=>GW (az tm x)
 | .pick c a b=>match az tm c with | .bool t=>GW (bif t then az tm a else az tm b) | _=>GX
 | .Fk zero parts=>match fill tm zero parts with | some cs=>GW (.agg cs) | none=>GX
 | .ld sz ag x=>fY hp sz ag (az tm x)
 | .MK x=>
  match az tm x with
  | .ptr id o=>GW (.ptr id o)
  | .bN cs=>GW (.bN cs)
  | .fn f a b=>GW (.fn f a b)
  | _=>GX
 | .bin op x y=>binOp op (az tm x) (az tm y)
 | .eq ne k x y=>match jK k (az tm x) (az tm y) with | some r=>GW (.bool (ne !=r)) | none=>GX
 | .un op x=>unOp op (az tm x)
 | .cv k x=>kC k (az tm x)
 | .I2 x y=>Qz (az tm x) (az tm y)
 | .nl n sz zero parts=>
  match fill tm zero parts with
  | some cs=>bif yp cs.length (n*sz)&&(yP 0 sz&&aE cs) then GW (.ap ycN n cs) else GX
  | none=>GX
 | .IY f first cap=>GW (.fn f (dL tm first) (dL tm cap))
 | .sA k x lo hi=>fN hp k (az tm x) tm lo hi
 | .off k x=>Mi k (az tm x)
 | .NM o sz ag x=>QA o sz ag (az tm x)
 | .a6 sz x i=>match dR (az tm i) with | some j=>fc sz j (az tm x) | none=>GX
 | .IZ len sz x i=>match dR (az tm i) with | some j=>Fp len sz j (az tm x) | none=>GX
 | .I0 x i=>match dR (az tm i) with | some j=>oJ j (az tm x) | none=>GX
 | .I1 len sz ag x i=>match dR (az tm i) with | some j=>Mj len sz ag j (az tm x) | none=>GX
 | .SC kk zero ok m k=>
  bif pI kk (az tm k) then
   match Dc hp (az tm k) (az tm m) with
   | some (GW v)=>GW (bif ok then .av [v,.bool ycN] else v)
   | some GX=>GW (bif ok then .av [zero,.bool ycO] else zero)
   | none=>GX
  else GX
 | .ext i x=>match az tm x with | .av vs=>vs[i]? | _=>GX
 | .len k x=>iW hp k (az tm x)
 | .mn xs=>match dL tm xs with | a::r=>Db min2 a r | []=>GX
 | .mx xs=>match dL tm xs with | a::r=>Db max2 a r | []=>GX
 | _=>GX
def cP(tm:Env)(hp:Hp)(ct:Nat):Op->Option (AV×Obj)
 | .box sz x=>
  let cs:=cellsOf (az tm x)
  bif yp cs.length sz&&bY cs then GW (.ptr ct 0,.cells ycN (aE cs) ycN sz cs) else GX
 | .jI n sz zero parts=>
  match fill tm zero parts with
  | some cs=>bif yp cs.length (n*sz) then GW (.aq ct 0 n,.cells ycN (aE cs) ycN sz cs) else GX
  | none=>GX
 | .qt sz bytes zero len cap=>
  match dR (az tm len),dR (az tm cap) with
  | some l,GW c=>
   bif yJ l c&&(yJ c room&&(yJ (c*bytes) room&&(yp zero.length sz&&bY zero))) then
    GW (.aq ct 0 l,.cells ycN (aE zero) (yp l c) sz (yD l zero).flatten)
   else GX
  | _,_=>GX
 | .B9=>GW (.map ct,.mp ycN [] [])
 | .sC x=>match az tm x with | .str s=>GW (.it ct,.si s 0) | _=>GX
 | _=>GX
def decodeL(s:List Nat)(i:Nat):Nat×Nat:=
 let at' (k:Nat):Nat:=s.getD (i+k) 0
 let cont (k:Nat):Bool:=decide (i+k<s.length)&&at' k/64==2
 let b0:=at' 0
 if b0<0x80 then (b0,1)
 else if b0/32==6&&cont 1 then
  let c:=(b0%32)*64+at' 1%64
  if c>=0x80 then (c,2) else (uK,1)
 else if b0/16==14&&cont 1&&cont 2 then
  let c:=(b0%16)*4096+(at' 1%64)*64+at' 2%64
  if c>=0x800&&ybo c then (c,3) else (uK,1)
 else if b0/8==30&&cont 1&&cont 2&&cont 3 then
  let c:=(b0%8)*262144+(at' 1%64)*4096+(at' 2%64)*64+at' 3%64
  if c>=0x10000&&ybo c then (c,4) else (uK,1)
 else (uK,1)
def jy(hp:Hp)(sz:Nat):AV->Option (Nat×List AV)
 | .str b=>bif yp sz 1 then GW (b.length,PS b) else GX
 | v=>mK hp sz v
def Ar(hp:Hp)(ct sz bytes:Nat)(s:AV)(src:Option (Nat×List AV)):Option (AV×Obj):=
 match src with
 | none=>GX
 | some (m,new)=>
  match s with
  | .aq id o n=>
   match ax hp id with
   | some (.cells _ pu ycN z cs)=>
    bif yp z sz&&(yP 0 m&&(yJ (n+m) room&&(yJ ((n+m)*bytes) room&&(yp (o+n*sz) cs.length&&yP 0 sz)))) then
     GW (.aq ct 0 (n+m),.cells ycN (pu&&aE new) ycO sz (slice o (n*sz) cs++new))
    else GX
   | _=>GX
  | _=>GX
def cz(tm:Env)(hp:Hp)(ct:Nat):Op->gL
 | .st sz x v=>
  let new:=cellsOf (az tm v)
  match az tm x with
  | .ptr id o=>
   match ax hp id with
   | some (.cells ycN pu ex z cs)=>
    bif yp new.length sz&&yJ (o+sz) cs.length&&bY new then
     GW (.av [],aY hp id (.cells ycN (pu&&aE new) ex z (over o new cs)),ct)
    else GX
   | _=>GX
  | _=>GX
 | .sB kk m k v=>
  match az tm m with
  | .map id=>
   match ax hp id with
   | some (.mp ycN ks vs)=>bif !pI kk (az tm k) then GX else match BQ (az tm k) (az tm v) ks vs with | some (lQ,eh)=>GW (.av [],aY hp id (.mp ycN lQ eh),ct) | none=>GX
   | _=>GX
  | _=>GX
 | .sD x=>
  match az tm x with
  | .it id=>
   match ax hp id with
   | some (.si s pos)=>
    bif yP pos s.length then
     match decodeL s pos with
     | (c,wd)=>GW (.av [.bool ycN,.int .i64 pos,.int .i32 c],aY hp id (.si s (pos+wd)),ct)
    else GW (.av [.bool ycO],hp,ct)
   | _=>GX
  | _=>GX
 | .c9 sz bytes s x=>
  match jy hp sz (az tm x) with
  | none=>GX
  | some (m,new)=>
   match az tm s with
   | .ab=>
    bif yp m 0 then GW (.ab,hp,ct)
    else bif yJ m room&&(yJ (m*bytes) room&&yP 0 sz) then GW (.aq ct 0 m,(ct,.cells ycN (aE new) ycO sz new)::hp,ct+1) else GX
   | .ap ycN n cs=>
    bif yp m 0 then GW (.ap ycN n cs,hp,ct)
    else bif yJ (n+m) room&&(yJ ((n+m)*bytes) room&&(yp cs.length (n*sz)&&yP 0 sz)) then GW (.aq ct 0 (n+m),(ct,.cells ycN (aE cs&&aE new) ycO sz (cs++new))::hp,ct+1) else GX
   | .aq id o n=>
    match ax hp id with
    | some (.cells ycN pu _ z cs)=>
     bif yp z sz&&(yJ (n+m) room&&(yJ ((n+m)*bytes) room&&(yJ (o+n*sz) cs.length&&(yP 0 sz&&bY new)))) then
      GW (.aq ct 0 (n+m),(ct,.cells ycN (pu&&aE new) ycO sz (slice o (n*sz) cs++new))::dV hp id,ct+1)
     else GX
    | _=>GX
   | _=>GX
 | .sF sz d s=>
  match mK hp sz (az tm s),az tm d with
  | some (m,new),.aq id o n=>
   match ax hp id with
   | some (.cells ycN pu ex z cs)=>
    bif yp z sz&&(yJ (o+n*sz) cs.length&&bY new) then
     GW (.int .i64 (min m n:Nat),aY hp id (.cells ycN (pu&&aE new) ex z (over o (new.take (min m n*sz)) cs)),ct)
    else GX
   | _=>GX
  | _,_=>GX
 | _=>GX
def jE:X->List Nat | .t i=>[i] | .c _=>[]
def Bw:List X->List Nat
 | []=>[]
 | x::r=>jE x++Bw r
def Mk:Option X->List Nat | some x=>jE x | none=>[]
def Ml:List (Nat×Nat×X)->List Nat
 | []=>[]
 | (_,_,x)::r=>jE x++Ml r
def kL:Op->List Nat
 | .sr x | .box _ x | .ld _ _ x | .MK x | .un _ x | .cv _ x | .off _ x | .NM _ _ _ x | .sC x | .sD x | .ext _ x | .len _ x=>jE x
 | .pick a b c | .sB _ a b c=>jE a++(jE b++jE c)
 | .Fk _ ps | .jI _ _ _ ps | .nl _ _ _ ps=>Ml ps
 | .st _ a b | .bin _ a b | .I2 a b | .eq _ _ a b | .a6 _ a b | .IZ _ _ a b | .I0 a b | .I1 _ _ _ a b | .SC _ _ _ a b | .c9 _ _ a b | .sE _ _ a b | .sF _ a b=>jE a++jE b
 | .IY _ a b=>Bw a++Bw b
 | .B9=>[]
 | .qt _ _ _ a b=>jE a++jE b
 | .sA _ x a b=>jE x++(Mk a++Mk b)
 | .call _ f xs=>jE f++Bw xs
 | .jD _ f xs=>jE f++Bw xs
 | .lO _ _ a b=>jE a++jE b
 | .lP _ _ _ a b=>jE a++jE b
 | .mn xs | .mx xs=>Bw xs
def bj:Op->Nat
 | .sr _ | .pick _ _ _ | .Fk _ _ | .MK _ | .bin _ _ _ | .eq _ _ _ _ | .un _ _ | .cv _ _ | .IY _ _ _ | .off _ _ | .NM _ _ _ _ | .a6 _ _ _ | .IZ _ _ _ _ | .I0 _ _ | .I1 _ _ _ _ _ | .ext _ _ | .mn _ | .mx _ | .I2 _ _ | .nl _ _ _ _=>0
 | .sA .str _ _ _ | .len 0 _ | .len 1 _=>0
 | .st _ _ _ | .sB _ _ _ _ | .sD _ | .c9 _ _ _ _ | .sF _ _ _ | .jD _ _ _ | .lO _ _ _ _ | .lP _ _ _ _ _ | .call .heap _ _ | .call .dyn _ _=>2
 | _=>1
def V6:Option (Nat×Bool)->List Nat | some (t,_)=>[t] | none=>[]
def EP(o:aS):List Nat:=V6 o.guard++kL o.op
def Ij(d:Option Nat)(l:List Nat):Bool:=match d with | some i=>mV i l | none=>ycO
def V7(d e:Option Nat):Bool:=match d,e with | some i,GW j=>yp i j | _,_=>ycO
def Pw(a b:aS):Bool:=Ij a.dst (EP b)||Ij b.dst (EP a)||V7 a.dst b.dst
def FG(sz:Nat)(ag:Bool)(t:Nat):List (Nat×Bool×Nat)->Bool
 | []=>ycO
 | (s,g,u)::r=>(yp s sz&&(g==ag&&yp u t))||FG sz ag t r
def Fq(t:Nat):List aS->Bool
 | []=>ycN
 | o::r=> !Ij o.dst [t]&&Fq t r
def KT(a b:aS)(r:List aS):Bool:=
 match a.guard,a.op,b.op with
 | none,.ld sz ag (.t t),.jD rs _ _=>FG sz ag t rs&&Fq t (a::r)
 | none,.ld sz ag (.t t),.lO rs _ _ _=>FG sz ag t rs&&Fq t (a::r)
 | none,.ld sz ag (.t t),.lP rs _ _ _ _=>FG sz ag t rs&&Fq t (a::r)
 | _,_,_=>ycO
def KB(a b:aS):Bool:=
 match bj a.op,bj b.op with
 | 1,2 | 2,1 | 2,2=>ycN
 | _,_=>ycO
def Px(m:Nat)(b:aS):List aS->Nat->Bool
 | [],_=>ycN
 | a::r,i=>(vv m i|| !(Pw a b||(KB a b&& !KT a b r)))&&Px m b r (i+1)
def ri(done:List aS):List aS->List Nat->Bool
 | [],_=>ycN
 | b::r,m::ms=>Px m b done 0&&ri (done++[b]) r ms
 | _::_,[]=>ycO
def KU(m:Nat):List aS->Nat->List (Nat×Bool×Nat)
 | [],_=>[]
 | a::r,i=>
  match vv m i,a with
  | false,⟨_,GX,.ld sz ag (.t t)⟩=>(sz,ag,t)::KU m r (i+1)
  | _,_=>KU m r (i+1)
def stOp(rs:List (Nat×Bool×Nat))(sz:Nat)(x v:X):Op:=match rs with | []=>.st sz x v | rs=>.lO rs sz x v
def agw(rs:List (Nat×Bool×Nat))(sz b:Nat)(x v:X):Op:=match rs with | []=>.c9 sz b x v | rs=>.lP rs sz b x v
def lH(done:List aS):List aS->List Nat->List aS
 | ⟨d,g,.jD _ f xs⟩::r,m::ms=>let o:aS:=⟨d,g,.jD (KU m done 0) f xs⟩;o::lH (done++[o]) r ms
 | ⟨d,g,.st sz x v⟩::r,m::ms=>let o:aS:=⟨d,g,stOp (KU m done 0) sz x v⟩;o::lH (done++[o]) r ms
 | ⟨d,g,.c9 sz b x v⟩::r,m::ms=>let o:aS:=⟨d,g,agw (KU m done 0) sz b x v⟩;o::lH (done++[o]) r ms
 | o::r,_::ms=>o::lH (done++[o]) r ms
 | l,_=>l
def aeo(done:List aS):X->Bool
 | .t i=>done.any fun o=>match o.dst,o.op with | some j,.jI _ _ _ _=>yp i j | _,_=>ycO
 | _=>ycO
def H7(done:List aS):List aS->List aS
 | []=>[]
 | o::r=>(match o.op with | .c9 sz b x v=>bif aeo done x then ⟨o.dst,o.guard,.sE sz b x v⟩ else o | _=>o)::H7 (done++[o]) r
def Qf(d:Option Nat):List aS->Bool
 | []=>ycO
 | ⟨_,_,.c9 _ _ _ (.t i)⟩::r=>V7 d (GW i)||Qf d r
 | _::r=>Qf d r
def Fs(all:List aS):List aS->List aS
 | []=>[]
 | o::r=>(match o.op with | .jI n sz z ps=>bif Qf o.dst all then ⟨o.dst,o.guard,.nl n sz z ps⟩ else o | _=>o)::Fs all r
def waits(m:Nat):List aS->Nat->Bool
 | [],_=>ycO
 | o::r,i=>(vv m i&&yp (bj o.op) 2)||waits m r (i+1)
def early(all:List aS):List aS->List Nat->Nat->List Nat
 | o::r,m::ms,i=>bif !yp (bj o.op) 2&& !waits m all 0 then i::early all r ms (i+1) else early all r ms (i+1)
 | _,_,_=>[]
def late(all:List aS):List aS->List Nat->Nat->List Nat
 | o::r,m::ms,i=>bif !yp (bj o.op) 2&& !waits m all 0 then late all r ms (i+1) else i::late all r ms (i+1)
 | _,_,_=>[]
def places(l:List aS)(ms:List Nat):List Nat:=early l l ms 0++late l l ms 0
def Hj(m:Nat):List Nat->Nat->Nat
 | [],_=>0
 | x::r,i=>(bif vv m x then 2^i else 0)|||Hj m r (i+1)
def Dd(l:List aS):List Nat->List aS
 | []=>[]
 | x::r=>match l[x]? with | some o=>o::Dd l r | none=>Dd l r
def CT(ms pm all:List Nat):List Nat->List Nat
 | []=>[]
 | x::r=>Hj (ms.getD x 0) pm 0::CT ms pm all r
def La(n:Nat)(pm inv:List Nat):Bool:=
 yp pm.length n&&(wi n).all fun i=>yP (pm.getD i i) n&&(yP (inv.getD i i) n&&(yp (inv.getD (pm.getD i i) i) i&&yp (pm.getD (inv.getD i i) i) i))
def As(pm:List Nat)(n:Nat):List Nat:=(wi n).map fun x=>(mW x pm 0).getD x
abbrev aG:=Nat->Option aA
structure Lib where
 pure:Nat->Option (List AV->Option AV)
 heap:Nat->Option (Hp->Nat->List AV->gL)
abbrev cw:=VC->St->Option (Ex×St)
def gi:Nat->List AV->Env
 | _,[]=>[]
 | i,v::r=>(i,v)::gi (i+1) r
def results1(s:St):RV->Option AV
 | .t i=>GW (ai s.tm i)
 | .cell i sz ag=>
  match ai s.tm i with
  | .ptr id o=>match ax s.hp id with | some (.cells _ _ _ _ cs)=>gZ sz ag (cs.drop o) | _=>GX
  | .bN cs=>gZ sz ag cs
  | _=>GX
def mH(s:St):List RV->Option (List AV)
 | []=>GW []
 | r::rest=>match results1 s r,mH s rest with | some v,GW vs=>GW (v::vs) | _,_=>GX
def jw(s:St)(rs:List RV):Option AV:=
 match mH s rs with
 | some [v]=>GW v
 | some vs=>GW (.av vs)
 | none=>GX
def bS(P:aG)(L:Lib)(self:cw)(n:Nat)(aw:List AV):Option AV:=
 match L.pure n with
 | some sp=>sp aw
 | none=>
  match P n with
  | none=>GX
  | some F=>
   match self F.body ⟨gi 0 aw,[],0,0⟩ with
   | some (.normal,s) | some (.ret,s)=>match jw s F.eG with | some v=>result s.hp v | none=>GX
   | _=>GX
def Vx:Ex->BP
 | .normal=>.none
 | .ret=>.ret
 | .exit id=>.exit id
def Aj:Env->List Nat->List AV->Option Env
 | tm,[],[]=>GW tm
 | tm,p::ps,v::vs=>Aj ((p,v)::tm) ps vs
 | _,_,_=>GX
def jz(P:aG)(L:Lib)(self:cw)(hp:Hp)(ct:Nat)(n:Nat)(aw:List AV):gL:=
 match L.heap n with
 | some sp=>sp hp ct aw
 | none=>
  match P n with
  | none=>GX
  | some F=>
   match self F.body ⟨gi 0 aw,hp,ct,ct⟩ with
   | some (.normal,s) | some (.ret,s)=>match jw s F.eG with | some v=>GW (v,s.hp,s.ct) | none=>GX
   | _=>GX
def pJ(self:cw)(hp:Hp)(ct:Nat)(l:Nat)(xs:List AV):gL:=
 match ax hp l with
 | some (.lp tm ps cM body 0 _)=>
  match Aj tm ps xs with
  | none=>GX
  | some cB=>
   match self cM ⟨cB,hp,ct,ct⟩ with
   | some (.normal,s1)=>
    match ax s1.hp l with
    | some (.lp kZ Gi DJ Ft 0 Ca)=>
     match self body ⟨s1.tm,aY s1.hp l (.lp kZ Gi DJ Ft 1 Ca),s1.ct,s1.ct⟩ with
     | some (ex,s2)=>
      match ax s2.hp l with
      | some (.lp sG bm NO Mm 1 _)=>
       match ex with
       | .normal=>GW (.bool ycN,aY s2.hp l (.lp sG bm NO Mm 0 .none),s2.ct)
       | ex=>GW (.bool ycO,aY s2.hp l (.lp sG bm NO Mm 2 (Vx ex)),s2.ct)
      | _=>GX
     | none=>GX
    | _=>GX
   | _=>GX
 | _=>GX
def fj(P:aG)(L:Lib)(self:cw)(hp:Hp)(ct:Nat)(m:Md)(fv:AV)(xs:List AV):gL:=
 match fv with
 | .fn (.f n) first cap=>
  match m with
  | .pure=>
   match cg deep hp (first++(xs++cap)) with
   | some (aw,bk)=>match bS P L self n aw with | some r=>GW (shut r,bk,ct) | none=>GX
   | none=>GX
  | .own=>
   match cg deep hp (first++(xs++cap)) with
   | some (aw,bk)=>match bS P L self n aw with | some r=>GW (own bk ct r) | none=>GX
   | none=>GX
  | .heap=>jz P L self hp ct n (first++(xs++cap))
  | .dyn=>
   bif aE (first++(xs++cap)) then
    match bS P L self n (first++(xs++cap)) with | some r=>GW (shut r,hp,ct) | none=>GX
   else jz P L self hp ct n (first++(xs++cap))
 | .fn (.y l) _ _=>
  match m with
  | .heap | .dyn=>pJ self hp ct l xs
  | _=>GX
 | _=>GX
def WQ:AV->AV->Bool
 | .int k a,.int k' b=>decide (k=k')&&a==b
 | .bool a,.bool b=>a==b
 | .str a,.str b=>cN a b
 | .ab,.ab=>ycN
 | .mT,.mT=>ycN
 | .ptr i o,.ptr j p=>yp i j&&yp o p
 | .aq i o n,.aq j p m=>yp i j&&(yp o p&&yp n m)
 | .map i,.map j=>yp i j
 | _,_=>ycO
def pK(tm:Env)(hp au:Hp):List (Nat×Bool×Nat)->Bool
 | []=>ycN
 | (sz,ag,x)::r=>
  match fY hp sz ag (ai tm x),fY au sz ag (ai tm x) with
  | some a,GW b=>WQ a b&&pK tm hp au r
  | _,_=>ycO
def jA(tm:Env)(id:Nat):List (Nat×Bool×Nat)->Bool
 | []=>ycN
 | (_,_,x)::r=>(match ai tm x with | .ptr j _=> !yp j id | .bN _=>ycN | _=>ycO)&&jA tm id r
def AA(tm:Env)(s:AV)(rs:List (Nat×Bool×Nat)):Bool:=
 match s with
 | .aq id _ _=>jA tm id rs
 | .ab | .ap _ _ _=>ycN
 | _=>ycO
def aZ(P:aG)(L:Lib)(self:cw)(tm:Env)(hp:Hp)(ct:Nat)(o:Op):gL:=
 match o with
 | .call m f xs=>fj P L self hp ct m (az tm f) (dL tm xs)
 | .jD rs f xs=>
  match fj P L self hp ct .dyn (az tm f) (dL tm xs) with
  | some (v,au,aX)=>bif pK tm hp au rs then GW (v,au,aX) else GX
  | none=>GX
 | .lO rs sz x v=>
  match az tm x with
  | .ptr id _=>bif jA tm id rs then cz tm hp ct (.st sz x v) else GX
  | _=>GX
 | .sE sz b x v=>
  match Ar hp ct sz b (az tm x) (jy hp sz (az tm v)) with
  | some (v,b)=>GW (v,(ct,b)::hp,ct+1)
  | none=>GX
 | .lP rs sz b x v=>
  match cz tm hp ct (.c9 sz b x v) with
  | some (v,au,aX)=>bif AA tm (az tm x) rs||pK tm hp au rs then GW (v,au,aX) else GX
  | none=>GX
 | .st .. | .sB .. | .sD .. | .c9 .. | .sF .. =>cz tm hp ct o
 | .box .. | .jI .. | .qt .. | .B9 | .sC .. =>match cP tm hp ct o with | some (v,b)=>GW (v,(ct,b)::hp,ct+1) | none=>GX
 | o=>match bg tm hp o with | some v=>GW (v,hp,ct) | none=>GX
def put(d:Option Nat)(v:AV)(tm:Env):Env:=
 match d with
 | some i=>(i,v)::tm
 | none=>tm
def dt(P:aG)(L:Lib)(self:cw):List aS->St->Option St
 | [],s=>GW s
 | ⟨d,g,o⟩::r,s=>
  let want:=match g with | none=>GW ycN | some (t,b)=>match ai s.tm t with | .bool c=>GW (c==b) | .av []=>GW ycO | _=>GX
  match want with
  | some ycN=>
   match aZ P L self s.tm s.hp s.ct o with
   | some (v,hp,ct)=>dt P L self r {s with tm:=put d v s.tm,hp:=hp,ct:=ct}
   | none=>GX
  | some ycO=>dt P L self r {s with tm:=put d (.av []) s.tm}
  | none=>GX
def rK:List Nat->St->Option St
 | [],s=>GW s
 | t::r,s=>
  match freeze deep s.hp (ai s.tm t) with
  | some (v,hp)=>rK r {s with tm:=(t,v)::s.tm,hp:=hp}
  | none=>GX
def bI(P:aG)(L:Lib)(self:cw):VC->St->Option (Ex×St)
 | .skip,s=>GW (.normal,s)
 | .oR ops,s=>match dt P L self ops s with | some s'=>GW (.normal,s') | none=>GX
 | .seq a b,s=>
  match bI P L self a s with
  | some (.normal,s1)=>bI P L self b s1
  | r=>r
 | .cond x a b,s=>
  match az s.tm x with
  | .bool t=>bif t then bI P L self a s else bI P L self b s
  | _=>GX
 | .ef id a,s=>
  match bI P L self a s with
  | some (.exit j,s1)=>bif yp j id then GW (.normal,s1) else GW (.exit j,s1)
  | r=>r
 | .kp live,s=>GW (.normal,bq live s)
 | .fz ts,s=>match rK ts s with | some s'=>GW (.normal,s') | none=>GX
 | .loop live a,s=>
  match bI P L self a (bq live s) with
  | some (.normal,s1)=>self (.loop live a) s1
  | r=>r
 | .rf f ps cM body,s=>
  match az s.tm f with
  | .fn (.f n) first cap=>
   match L.heap n with
   | some _=>GX
   | none=>
    match jz P L self ((s.ct,.lp s.tm ps cM body 0 .none)::s.hp) (s.ct+1) n (first++(.fn (.y s.ct) [] []::cap)) with
    | some (_,hp,ct)=>
     match ax hp s.ct with
     | some (.lp _ _ _ _ st pe)=>
      bif yp st 1 then GX else
      match pe with
      | .none=>GW (.normal,{s with hp:=dV hp s.ct,ct:=ct})
      | .ret=>GW (.ret,{s with hp:=dV hp s.ct,ct:=ct})
      | .exit id=>GW (.exit id,{s with hp:=dV hp s.ct,ct:=ct})
     | _=>GX
    | none=>GX
  | _=>GX
 | .exit id,s=>GW (.exit id,s)
 | .ret,s=>GW (.ret,s)
def ev(P:aG)(L:Lib)(n:Nat):cw:=Nat.rec (fun _ _=>GX) (fun _ ih=>bI P L ih) n
def Yt(P:aG)(L:Lib)(n:Nat)(f:Nat)(aw:List AV):Option AV:=bS P L (ev P L n) f aw
end
section
open Go
structure Pl where
 b:Nat
 o:Nat
 e:Nat
 z:Nat
abbrev Mp:=Nat->Option Pl
section
variable (ah:Nat->Nat)(m:Mp)(S:Nat->Prop)(w:ym)
mutual
def aj:AV->yj->Prop
 | .int k n,v=>v=.int k n
 | .bool b,v=>v=.bool b
 | .ay k b,v=>v=.float k b
 | .bT k a b,v=>v=.complex k a b
 | .str s,v=>∃t:ByteArray,v=.string t/\t.data.toList.map xp=s
 | .mT,v=>v=.pointer GX
 | .ptr id o,v=>∃p,m id=GW p/\v=.pointer (GW ⟨p.b,p.o+o,GX⟩)
 | .bN cs,v=>∃b o,v=.pointer (GW ⟨b,o,GX⟩)/\(cs=[]\/S b)/\aE cs=ycN/\b5 cs b o
 | .ab,v=>v=.slice GX 0 0
 | .ap ex n cs,v=>(∃b o c,v=.slice (GW ⟨b,o,GX⟩) n c/\n<=c/\(ex=ycN->c=n)/\(cs=[]\/S b)/\aE cs=ycN/\b5 cs b o)\/(∃a,v=.slice (GW a) 0 0/\n=0/\cs=[])
 | .cL _ _ _ _,_=>False
 | .aq id o n,v=>∃p c,m id=GW p/\v=.slice (GW ⟨p.b,p.o+o,GX⟩) n c/\n<=c/\o+c*p.z=p.e
 | .fn (.f g) first cap,v=>∃fi ca:Array yj,v=.func (.func (ah g)) fi ca/\aB first fi.toList/\aB cap ca.toList
 | .fn (.y l) _ _,v=>∃p,m l=GW p/\v=.func (.yield p.b) #[] #[]
 | .jH,v=>v=.nilFunc
 | .lK,v=>v=.map GX
 | .map id,v=>∃p,m id=GW p/\v=.map (GW p.b)
 | .lL ks vs,v=>∃b es clock,v=.map (GW b)/\S b/\aE ks=ycN/\aE vs=ycN/\w.heap[b]? =GW (.map es clock)/\
   aB ks (es.toList.map (·.key))/\aB vs (es.toList.map (·.val))
 | .it id,v=>∃p,m id=GW p/\v=.pointer (GW ⟨p.b,0,GX⟩)
 | .agg cs,v=>∃xs:Array yj,v=.agg xs/\aB cs xs.toList
 | .av cs,v=>∃xs:Array yj,v=.tuple xs/\aB cs xs.toList
 | .undef,_=>True
def aB:List AV->List yj->Prop
 | [],us=>us=[]
 | c::cs,us=>∃u r,us=u::r/\aj c u/\aB cs r
def b5:List AV->Nat->Nat->Prop
 | [],_,_=>True
 | c::cs,b,o=>(∃u,w.cell? ⟨b,o,GX⟩=GW u/\aj c u)/\b5 cs b (o+1)
end
end
def gj(S:Nat->Prop)(w w':ym):Prop:=∀b,S b->w'.heap[b]? =w.heap[b]?
def OT{w w':ym}{b o:Nat}(h:w'.heap[b]? =w.heap[b]?):w'.cell? ⟨b,o,GX⟩=w.cell? ⟨b,o,GX⟩:=by
 simp only[World.cell?,h]
section
variable {ah:Nat->Nat}{m m':Mp}{S S':Nat->Prop}{w w':ym}
mutual
def mI(hm:∀id p,m id=GW p->m' id=GW p)(hS:∀b,S b->S' b)(hw:gj S w w'):
  ∀(v:AV) (u:yj),aj ah m S w v u->aj ah m' S' w' v u
 | .int _ _,_,h | .bool _,_,h | .ay _ _,_,h | .bT _ _ _,_,h | .str _,_,h | .mT,_,h | .ab,_,h | .jH,_,h | .lK,_,h | .undef,_,h=>by
  simpa only[aj] using h
 | .ptr id o,u,h=>by
  simp only[aj] at h ⊢;obtain⟨p,h1,h2⟩:=h;exact⟨p,hm _ _ h1,h2⟩
 | .bN cs,u,h=>by
  simp only[aj] at h ⊢;obtain⟨b,o,h1,h2,h3,h4⟩:=h;refine⟨b,o,h1,h2.imp id (hS b),h3,?_⟩;rcases h2 with rfl | h2
  .simp only [b5]
  .exact TS hm hS hw cs b o h2 h4
 | .ap ex n cs,u,h=>by
  simp only[aj] at h ⊢;rcases h with ⟨b,o,c,h1,h2,h3,h4,h5,h6⟩ | h
  .refine .inl ⟨b,o,c,h1,h2,h3,h4.imp id (hS b),h5,?_⟩;rcases h4 with rfl | h4
   .simp only [b5]
   .exact TS hm hS hw cs b o h4 h6
  .exact .inr h
 | .cL _ _ _ _,u,h=>by simp only[aj] at h
 | .aq id o n,u,h=>by
  simp only[aj] at h ⊢;obtain⟨p,c,h1,h2⟩:=h;exact⟨p,c,hm _ _ h1,h2⟩
 | .fn (.f g) first cap,u,h=>by
  simp only[aj] at h ⊢;obtain⟨fi,ca,h1,h2,h3⟩:=h;exact⟨fi,ca,h1,iE hm hS hw first _ h2,iE hm hS hw cap _ h3⟩
 | .fn (.y l) _ _,u,h=>by
  simp only[aj] at h ⊢;obtain⟨p,h1,h2⟩:=h;exact⟨p,hm _ _ h1,h2⟩
 | .map id,u,h=>by
  simp only[aj] at h ⊢;obtain⟨p,h1,h2⟩:=h;exact⟨p,hm _ _ h1,h2⟩
 | .lL ks vs,u,h=>by
  simp only[aj] at h ⊢;obtain⟨b,es,clock,h1,h2,h3,h4,h5,h6,h7⟩:=h;exact⟨b,es,clock,h1,hS b h2,h3,h4,(hw b h2).trans h5,iE hm hS hw ks _ h6,iE hm hS hw vs _ h7⟩
 | .it id,u,h=>by
  simp only[aj] at h ⊢;obtain⟨p,h1,h2⟩:=h;exact⟨p,hm _ _ h1,h2⟩
 | .agg cs,u,h=>by
  simp only[aj] at h ⊢;obtain⟨xs,h1,h2⟩:=h;exact⟨xs,h1,iE hm hS hw cs _ h2⟩
 | .av cs,u,h=>by
  simp only[aj] at h ⊢;obtain⟨xs,h1,h2⟩:=h;exact⟨xs,h1,iE hm hS hw cs _ h2⟩
def iE(hm:∀id p,m id=GW p->m' id=GW p)(hS:∀b,S b->S' b)(hw:gj S w w'):
  ∀(vs:List AV) (us:List yj),aB ah m S w vs us->aB ah m' S' w' vs us
 | [],us,h=>by simpa only[aB] using h
 | v::r,us,h=>by
  simp only[aB] at h ⊢;have⟨u,t,h1,h2,h3⟩:=h;exact⟨u,t,h1,mI hm hS hw v u h2,iE hm hS hw r t h3⟩
def TS(hm:∀id p,m id=GW p->m' id=GW p)(hS:∀b,S b->S' b)(hw:gj S w w'):
  ∀(cs:List AV) (b o:Nat),S b->b5 ah m S w cs b o->b5 ah m' S' w' cs b o
 | [],_,_,_,_=>by simp only[b5]
 | c::cs,b,o,hb,h=>by
  simp only[b5] at h ⊢;have⟨⟨u,h1,h2⟩,h3⟩:=h;exact⟨⟨u,(OT (hw b hb)).trans h1,mI hm hS hw c u h2⟩,TS hm hS hw cs b (o+1) hb h3⟩
end
end
end
section
open Go
structure Hint where
 n:Nat
 b9:tQ->Option Nat
 live:Nat->List Nat
 out:Nat->Option (List Nat)
 mode:Nat->Md
 fz:Nat->List Nat
section
variable (P:xy)(H:Hint)
mutual
def fm:yj->AV
 | .int k n=>.int k n
 | .bool b=>.bool b
 | .float k b=>.ay k b
 | .complex k a b=>.bT k a b
 | .string s=>.str (s.data.toList.map xp)
 | .pointer GX=>.mT
 | .slice GX 0 0=>.ab
 | .map GX=>.lK
 | .nilFunc=>.jH
 | .agg ⟨cs⟩=>.agg (Hk cs)
 | .tuple ⟨cs⟩=>.av (Hk cs)
 | _=>.undef
def Hk:List yj->List AV
 | []=>[]
 | v::r=>fm v::Hk r
end
def aK:xC->X
 | .tmp t=>.t t
 | .const v=>.c (fm v)
 | .global _=>.c .undef
 | .func f=>match H.b9 f with | some g=>.c (.fn (.f g) [] []) | none=>.c .undef
def iK:List xC->List X
 | []=>[]
 | x::r=>aK H x::iK r
def cC(t:yE):Option Nat:=match P.info? t with | some i=>GW i.size | none=>GX
def AP(t:yE):Option Nat:=match P.info? t with | some i=>GW i.bytes | none=>GX
def mP(t:yE):Option AV:=match P.info? t with | some i=>(match i.zero with | some v=>GW (fm v) | none=>GX) | none=>GX
def dD(t:yE):Option Bool:=match P.underlying t with | some (.struct _) | some (.array _ _)=>GW ycN | some _=>GW ycO | none=>GX
def bad:Op:=.call .pure (.c .undef) []
def partsOf(place:Nat->Option (Nat×Nat)):List (Nat×xC)->Option (List (Nat×Nat×X))
 | []=>GW []
 | (i,x)::r=>
  match place i,partsOf place r with
  | some (o,s),GW l=>GW ((o,s,aK H x)::l)
  | _,_=>GX
def pD(self:yE->Option (List Nat)):List ub->Nat->Option (List Nat)
 | [],_=>GW []
 | f::r,o=>
  match self f.type,cC P f.type with
  | some ks,GW s=>
   bif f.name != "_"&&yp f.offset o&&yp ks.length s&& !P.stoodInHeld f.type then
    (match pD self r (o+s) with | some l=>GW (ks++l) | none=>GX)
   else GX
  | _,_=>GX
def kinds:Nat->yE->Option (List Nat)
 | 0,_=>GX
 | n+1,t=>
  match P.underlying t with
  | some .bool=>GW [0]
  | some (.int _)=>GW [1]
  | some .string=>GW [2]
  | some (.struct fs)=>pD P (fun u=>kinds n u) fs.toList 0
  | some (.array k e)=>
   match kinds n e,cC P e with
   | some ks,GW s=>bif yp ks.length s&& !P.stoodInHeld e then GW (yD k ks).flatten else GX
   | _,_=>GX
  | _=>GX
def BR(t:yE):Bool:=match P.underlying t with | some (.int _)=>ycN | _=>ycO
def keyOf(t:yE):Option Nat:=
 match P.underlying t with
 | some .bool=>GW 0
 | some (.int _)=>GW 1
 | some .string=>GW 2
 | some (.struct fs)=>bif fs.toList.all (fun f=>BR P f.type)&& !P.stoodInHeld t then
   (match kinds P 20 t with | some ks=>(bif yp ks.length fs.size then GW (fs.size+3) else GX) | none=>GX) else GX
 | _=>GX
def pL(ne:Bool)(t:yE)(a b:xC):Op:=
 match kinds P 20 t with
 | some ks=>bif P.stoodInHeld t||P.eqGuardType P.depth t then bad else .eq ne (.ag ks) (aK H a) (aK H b)
 | none=>bad
def oC(ne:Bool)(op:wU)(t:yE)(a b:xC):Op:=
 match P.underlying t with
 | some (.int _) | some .string | some (.float _) | some (.complex _)=>.bin op (aK H a) (aK H b)
 | some .bool=>.eq ne .b (aK H a) (aK H b)
 | some (.slice _)=>.eq ne .sl (aK H a) (aK H b)
 | some (.func _ _ _)=>.eq ne .fn (aK H a) (aK H b)
 | some (.struct _) | some (.array _ _)=>pL P H ne t a b
 | _=>bad
def aP(k:Nat)(o:yV):Op:=
 let x (y:xC):X:=aK H y
 match o.op with
 | .move a | .assign a=>.sr (x a)
 | .pick c a b=>.pick (x c) (x a) (x b)
 | .alloc t=>match cC P t,mP P t with | some s,GW z=>.box s (.c z) | _,_=>bad
 | .box t v=>match cC P t with | some s=>.box s (x v) | none=>bad
 | .build t parts=>
  match P.underlying t,mP P t with
  | some (.struct fs),GW (.agg z)=>
   match fs.toList.mapM (fun f=>(P.info? f.type).map fun i=>(f.offset,i.size)) with
   | some pl=>(match partsOf H (fun i=>pl[i]?) parts.toList with | some ps=>.Fk z ps | none=>bad)
   | none=>bad
  | some (.array _ e),GW (.agg z)=>
   match cC P e with
   | some s=>(match partsOf H (fun i=>GW (i*s,s)) parts.toList with | some ps=>.Fk z ps | none=>bad)
   | none=>bad
  | _,_=>bad
 | .buildSlice t n parts=>
  match P.underlying t with
  | some (.slice e)=>
   match cC P e,mP P e with
   | some s,GW z=>
    bif yJ (n*s) 16777216 then
     (match partsOf H (fun i=>GW (i*s,s)) parts.toList with | some ps=>.jI n s (yD n (cellsOf z)).flatten ps | none=>bad)
    else bad
   | _,_=>bad
  | _=>bad
 | .load t a=>match cC P t,dD P t with | some s,GW ag=>.ld s ag (x a) | _,_=>bad
 | .store t a v=>match cC P t with | some s=>.st s (x a) (x v) | none=>bad
 | .nilCheck a=>.MK (x a)
 | .binOp op t a b _=>
  match op with
  | .eql=>oC P H ycO op t a b
  | .neq=>oC P H ycN op t a b
  | _=>.bin op (x a) (x b)
 | .unOp op _ a=>.un op (x a)
 | .convert s d a=>
  match P.underlying s,P.underlying d with
  | some (.int _),GW (.int k) | some (.float _),GW (.int k)=>.cv (.toInt k) (x a)
  | some (.int _),GW (.float k) | some (.float _),GW (.float k)=>.cv (.toFlt k) (x a)
  | some .string,GW .string=>.cv .str (x a)
  | _,_=>bad
 | .makeFunc (.func f) first cap=>match H.b9 f with | some g=>.IY (.f g) (iK H first.toList) (iK H cap.toList) | none=>bad
 | .makeMap t GX=>match P.underlying t with | some (.map ke _)=>(match keyOf P ke with | some _=>.B9 | none=>bad) | _=>bad
 | .makeSlice t l c=>
  match P.underlying t with
  | some (.slice e)=>(match cC P e,AP P e,mP P e with | some s,GW b,GW z=>.qt s b (cellsOf z) (x l) (x c) | _,_,_=>bad)
  | _=>bad
 | .slice t a lo hi GX=>
  match P.underlying t with
  | some .string=>.sA .str (x a) (lo.map x) (hi.map x)
  | some (.slice e)=>(match cC P e with | some s=>.sA (.sl s) (x a) (lo.map x) (hi.map x) | none=>bad)
  | some (.array n e)=>(match cC P e with | some s=>.sA (.ar n s) (x a) (lo.map x) (hi.map x) | none=>bad)
  | _=>bad
 | .fieldAddr t a i=>
  match P.underlying t with
  | some (.struct fs)=>
   match fs[i]? with
   | some f=>(match cC P f.type with | some (_+1)=>.off f.offset (x a) | _=>bad)
   | none=>bad
  | _=>bad
 | .field t a i=>
  match P.underlying t with
  | some (.struct fs)=>
   match fs[i]? with
   | some f=>(match cC P f.type,dD P f.type with | some s,GW ag=>.NM f.offset s ag (x a) | _,_=>bad)
   | none=>bad
  | _=>bad
 | .indexAddr t a i=>
  match P.underlying t with
  | some (.slice e)=>(match cC P e with | some s=>.a6 s (x a) (x i) | none=>bad)
  | some (.array n e)=>(match cC P e with | some s=>.IZ n s (x a) (x i) | none=>bad)
  | _=>bad
 | .index t a i=>
  match P.underlying t with
  | some .string=>.I0 (x a) (x i)
  | some (.array n e)=>(match cC P e,dD P e with | some s,GW ag=>.I1 n s ag (x a) (x i) | _,_=>bad)
  | _=>bad
 | .lookup t a i ok=>
  match P.underlying t with
  | some (.map ke e)=>(match keyOf P ke,mP P e with | some kk,GW z=>.SC kk z ok (x a) (x i) | _,_=>bad)
  | _=>bad
 | .mapUpdate t a i v | .insert t a i v=>
  match P.underlying t with
  | some (.map ke _)=>(match keyOf P ke with | some kk=>.sB kk (x a) (x i) (x v) | none=>bad)
  | _=>bad
 | .range t a=>match P.underlying t with | some .string=>.sC (x a) | _=>bad
 | .next it ycN=>.sD (x it)
 | .extract t i=>.ext i (x t)
 | .call c=>
  match c.callee with
  | .value f=>(match H.mode k with | .dyn=>.jD [] (x f) (iK H c.args.toList) | md=>.call md (x f) (iK H c.args.toList))
  | .builtin b=>
   match b,c.args.toList,c.argTypes.toList with
   | .append,[s,a],[t,u]=>
    match P.underlying t,P.underlying u with
    | some (.slice e),GW (.slice _) | some (.slice e),GW .string=>
     (match cC P e,AP P e,mP P e with | some sz,GW bX,GW z=>(bif yp (cellsOf z).length sz then .c9 sz bX (x s) (x a) else bad) | _,_,_=>bad)
    | _,_=>bad
   | .len,[a],[t]=>
    match P.underlying t with
    | some (.array n _)=>.sr (.c (.int .i64 n))
    | some .string=>.len 0 (x a)
    | some (.slice _)=>.len 1 (x a)
    | some (.map _ _)=>.len 2 (x a)
    | _=>bad
   | .copy,[d,s],[t,_]=>
    match P.underlying t with
    | some (.slice e)=>(match cC P e with | some sz=>.sF sz (x d) (x s) | none=>bad)
    | _=>bad
   | .min,l,_=>.mn (iK H l)
   | .max,l,_=>.mx (iK H l)
   | .real,[a],_=>.cv .re (x a)
   | .imag,[a],_=>.cv .im (x a)
   | .complex,[a,b],_=>.I2 (x a) (x b)
   | _,_,_=>bad
  | _=>bad
 | _=>bad
def Vy(o:yV):Bool:=match o.op with | .call {callee:=.value _,..}=>ycN | _=>ycO
def Mn(d:Option Nat):Bool:=match d with | some i=>yP i H.n | none=>ycN
def BD(n:Nat):List Nat->Bool
 | []=>ycN
 | i::r=>yP i n&&BD n r
def EF(ops:Array yV):List yV->Nat->List aS×Nat
 | [],k=>([],k)
 | o::r,k=>
  let g:=match o.guard with
   | none=>GW GX
   | some (j,b)=>match (ops[j]?).bind (·.dst) with | some t=>GW (GW (t,b)) | none=>GX
  match EF ops r (k+(bif Vy o then 1 else 0)) with
  | (l,k')=>
   match g,Mn H o.dst with
   | some g,ycN=>(⟨o.dst,g,aP P H k o⟩::l,k')
   | _,_=>(⟨o.dst,GX,bad⟩::l,k')
def C0(acc:List Nat):List Edge->Nat
 | []=>0
 | e::r=>bif Region.binds .any e then (2^e.on|||acc.getD e.on 0)|||C0 acc r else C0 acc r
def kB(acc:List Nat):List yV->List Nat
 | []=>acc
 | o::r=>kB (acc++[C0 acc o.after.toList]) r
def ow:List yV->Nat->Bool
 | [],_=>ycN
 | o::r,i=>o.after.toList.all (fun e=> !Region.binds .any e||yP e.on i)&&ow r (i+1)
def PT(ops:Array yV)(draw:Bool)(k:Nat):List aS×Nat:=
 match EF P H ops ops.toList k with
 | (l,k')=>
  bif draw then
   (let ms:=kB [] ops.toList
    let l':=lH [] l ms
    bif ow ops.toList 0&&ri [] l' ms then (l',k') else bif ow ops.toList 0&&ri [] (H7 [] l') ms then (H7 [] l',k') else
    (let pm:=places l ms
    let zD:=CT ms pm pm pm
    let l2:=lH [] (Dd (Fs l l) pm) zD
    bif ow ops.toList 0&&(La ops.size pm (As pm ops.size)&&ri [] l2 zD) then (l2,k') else ([⟨GX,GX,bad⟩],k')))
  else (l,k')
def asq:vj->Bool
 | .loop _=>ycN
 | _=>ycO
def comp:vj->Nat->Nat->VC×Nat×Nat
 | .skip,l,k | .label _,l,k=>(.skip,l,k)
 | .region i ops d,l,k=>match PT P H ops d k with | (r,k')=>((match H.fz i with | []=>.oR r | t::ts=>.seq (.fz (t::ts)) (.oR r)),l,k')
 | .seq a b,l,k=>match comp a l k with | (a',l1,k1)=>match comp b l1 k1 with | (b',l2,k2)=>(.seq a' b',l2,k2)
 | .cond c a b,l,k=>
  match comp a (l+1) k with
  | (a',l1,k1)=>
   match comp b l1 k1 with
   | (b',l2,k2)=>(match H.out l with | some o=>.seq (.cond (aK H c) a' b') (.kp o) | none=>.cond (aK H c) a' b',l2,k2)
 | .block id a,l,k=>
  match comp a l k with
  | (a',r)=>(match asq a,H.out l with | true,GW o=>.seq (.ef id a') (.kp o) | _,_=>.ef id a',r)
 | .loop a,l,k=>match comp a (l+1) k with | (a',r)=>(.loop (H.live l) a',r)
 | .rangeFunc f ps cM body,l,k=>
  match comp cM l k with | (as',l1,k1)=>match comp body l1 k1 with | (b',l2,k2)=>(bif BD H.n ps.toList then .rf (aK H f) ps.toList as' b' else .oR [⟨GX,GX,bad⟩],l2,k2)
 | .exit id,l,k=>(.exit id,l,k)
 | .scope a,l,k=>comp a l k
 | .ret,l,k=>(.ret,l,k)
 | .goto _,l,k | .refuse _,l,k=>(.oR [⟨GX,GX,bad⟩],l,k)
def rk:List ResultVar->Option (List RV)
 | []=>GW []
 | .tmp t::r=>match rk r with | some l=>GW (.t t::l) | none=>GX
 | .cell a t::r=>match cC P t,dD P t,rk r with | some s,GW ag,GW l=>GW (.cell a s ag::l) | _,_,_=>GX
def Hl(fn:Func):Option aA:=
 match fn.body,rk P fn.results.toList with
 | some c,GW rs=>bif yJ H.n fn.ntmps then GW ⟨rs,(comp P H c 0 0).1⟩ else GX
 | _,_=>GX
end
end
section
open Go
structure bz where
 P:xy
 aI:Lib
 ah:Nat->Nat
 prog:aG
 hint:Nat->Hint
 w0:ym
def DK(P:xy)(H:Hint)(v:VC)(c:vj):Prop:=∃l k,(comp P H c l k).1=v
def Dm:Nat->LoopState
 | 0=>.ready
 | 1=>.busy
 | 2=>.done
 | _=>.exhausted
def Bx:BP->Option vj
 | .none=>GX
 | .ret=>GW .ret
 | .exit id=>GW (.exit id)
section
variable (O:bz)(m:Mp)(S:Nat->Prop)(w:ym)
def b7(tm:Env)(tmps:Array yj):Prop:=∀i,aj O.ah m S w (ai tm i) (tmps.getD i undef)
def fJ(id:Nat):Obj->Prop
 | .cells rw pu ex sz cs=>∃p arr t,m id=GW p/\w.heap[p.b]? =GW (.cells arr t (0,0))/\p.z=sz/\cs.length<=p.e/\p.o+p.e<=arr.size/\
   (ex=ycN->cs.length=p.e)/\b5 O.ah m S w cs p.b p.o/\(pu=ycN->aE cs=ycN)/\(rw=ycN->¬S p.b)/\(rw=ycO->S p.b)
 | .mp rw ks vs=>∃p es clock,m id=GW p/\w.heap[p.b]? =GW (.map es clock)/\aB O.ah m S w ks (es.toList.map (·.key))/\aB O.ah m S w vs (es.toList.map (·.val))/\
   (rw=ycN->¬S p.b)/\(rw=ycO->S p.b)
 | .si s pos=>∃p t,m id=GW p/\w.heap[p.b]? =GW (.stringIter t pos)/\t.data.toList.map xp=s/\¬S p.b
 | .lp tm ps cM body st pe=>∃p l h,m id=GW p/\w.heap[p.b]? =GW (.loop l)/\¬S p.b/\l.state=Dm st/\st<=2/\l.pending=Bx pe/\b7 O m S w tm l.tmps/\
   l.params.toList=ps/\DK O.P (O.hint h) cM l.assign/\DK O.P (O.hint h) body l.body/\(O.hint h).n<=l.tmps.size/\BD (O.hint h).n ps=ycN
structure aT(hp:Hp)(ct:Nat):Prop where
 obj:∀id o p,ax hp id=GW o->m id=GW p->fJ O m S w id o
 lt:∀id p,m id=GW p->id<ct
 inj:∀i j oi oj pi pj,ax hp i=GW oi->ax hp j=GW oj->m i=GW pi->m j=GW pj->pi.b=pj.b->i=j
 slt:∀b,S b->b<w.heap.size
 blt:∀id p,m id=GW p->p.b<w.heap.size
 low:∀id p,m id=GW p->O.w0.heap.size<=p.b
 mX:∀b,b<O.w0.heap.size->w.heap[b]? =O.w0.heap[b]?
 gJ:O.w0.heap.size<=w.heap.size
 aH:∀id o,ax hp id=GW o->id<ct
end
def eH(m:Mp)(hp:Hp)(b:Nat):Prop:=∃id o p,ax hp id=GW o/\m id=GW p/\p.b=b
structure cr(m:Mp)(S:Nat->Prop)(w:ym)(hp:Hp)(m':Mp)(S':Nat->Prop)(w':ym)(au:Hp)(base:Nat):Prop where
 os:w'.os=w.os
 tape:w'.tape=w.tape
 output:w'.output=w.output
 size:w.heap.size<=w'.heap.size
 same:∀b,b<w.heap.size->¬eH m hp b->w'.heap[b]? =w.heap[b]?
 sub:∀b,S b->S' b
 still:∀b,S b->w'.heap[b]? =w.heap[b]?
 new:∀b,S' b->S b\/eH m hp b\/w.heap.size<=b
 own:∀b,eH m' au b->eH m hp b\/w.heap.size<=b
 old:∀id p,id<base->m id=GW p->m' id=GW p
 loops:∀(b:Nat) (r:uT),w.heap[b]? =GW (.loop r)->∃r':uT,w'.heap[b]? =GW (.loop r')
def cr.refl{m:Mp}{S:Nat->Prop}{w:ym}{hp:Hp}{base:Nat}:cr m S w hp m S w hp base:=
 ⟨rfl,rfl,rfl,yz _,fun _ _ _=>rfl,fun _ h=>h,fun _ _=>rfl,fun _ h=>.inl h,fun _ h=>.inl h,fun _ _ _ h=>h,fun _ r h=>⟨r,h⟩⟩
def cr.trans{m m' NP:Mp}{S S' DL:Nat->Prop}{w w' SD:ym}{hp au ML:Hp}{base:Nat}(h:cr m S w hp m' S' w' au base)(k:cr m' S' w' au NP DL SD ML base):cr m S w hp NP DL SD ML base where
 os:=k.os.trans h.os
 tape:=k.tape.trans h.tape
 output:=k.output.trans h.output
 size:=xn h.size k.size
 same b hb ho:=(k.same b (yR hb h.size) (fun jm=>(h.own b jm).elim ho (fun h1=>by omega))).trans (h.same b hb ho)
 sub b hb:=k.sub b (h.sub b hb)
 still b hb:=(k.still b (h.sub b hb)).trans (h.still b hb)
 new b hb:=by
  rcases k.new b hb with h1 | h1 | h1
  .exact h.new b h1
  .rcases h.own b h1 with h2 | h2
   .grind
   .grind
  .exact .inr (.inr (xn h.size h1))
 own b hb:=by
  rcases k.own b hb with h1 | h1
  .exact h.own b h1
  .exact .inr (xn h.size h1)
 old id p hid hp:=k.old id p hid (h.old id p hid hp)
 loops b r hb:=let ⟨r',h1⟩:=h.loops b r hb;k.loops b r' h1
end
section
open Go
section
variable {ah:Nat->Nat}{m:Mp}{S:Nat->Prop}{w:ym}
mutual
def PU:∀v:yj,aj ah m S w (fm v) v
 | .int _ _ | .bool _ | .float _ _ | .complex _ _ _=>by simp only[fm,aj]
 | .string s=>by simp only[fm,aj];exact⟨s,rfl,rfl⟩
 | .pointer GX=>by simp only[fm,aj]
 | .pointer (GW _)=>by simp only[fm,aj]
 | .slice GX 0 0=>by simp only[fm,aj]
 | .slice GX 0 (_+1)=>by simp only[fm,aj]
 | .slice GX (_+1) _=>by simp only[fm,aj]
 | .slice (GW _) _ _=>by simp only[fm,aj]
 | .map GX=>by simp only[fm,aj]
 | .map (GW _)=>by simp only[fm,aj]
 | .nilFunc=>by simp only[fm,aj]
 | .agg ⟨cs⟩=>by simp only[fm,aj];exact⟨⟨cs⟩,rfl,UA cs⟩
 | .tuple ⟨cs⟩=>by simp only[fm,aj];exact⟨⟨cs⟩,rfl,UA cs⟩
 | .chan _ | .func _ _ _ | .iface _ _ | .nilIface=>by simp only[fm,aj]
def UA:∀l:List yj,aB ah m S w (Hk l) l
 | []=>by simp only[Hk,aB]
 | v::r=>by simp only[Hk,aB];exact⟨v,r,rfl,PU v,UA r⟩
end
end
def fH(O:bz)(H:Hint):Prop:=∀f g,H.b9 f=GW g->O.ah g=f
section
variable {O:bz}{H:Hint}{m:Mp}{S:Nat->Prop}{w:ym}{tm:Env}{a:Act}
def b8(hH:fH O H)(ht:b7 O m S w tm a.tmps)(x:xC):aj O.ah m S w (az tm (aK H x)) (a.eval x):=by
 cases x with
 | tmp t=>exact ht t
 | const v=>simp only[aK,az,Act.eval];exact PU v
 | global g=>simp only[aK,az,aj]
 | func f=>
  simp only[aK,Act.eval]
  cases hr:H.b9 f with
  | none=>simp only[az,aj]
  | some g=>simp only[az,aj,hH f g hr,aB];exact⟨#[],#[],rfl,rfl,rfl⟩
def EQ(hH:fH O H)(ht:b7 O m S w tm a.tmps):∀l:List xC,aB O.ah m S w (dL tm (iK H l)) (l.map a.eval)
 | []=>by simp only[iK,dL,List.map_nil,aB]
 | x::r=>by simp only[iK,dL,xi,aB];exact⟨_,_,rfl,b8 hH ht x,EQ hH ht r⟩
end
section
variable {O:bz}{m:Mp}{S:Nat->Prop}{w:ym}
def zc{ah:Nat->Nat}:∀(k:Nat) (cs:List AV) (b o:Nat),b5 ah m S w cs b o->b5 ah m S w (cs.drop k) b (o+k)
 | 0,cs,b,o,h=>by simpa using h
 | k+1,[],b,o,_=>by simp only[List.drop_nil,b5]
 | k+1,c::cs,b,o,h=>by
  have:=zc k cs b (o+1) h.2
  grind
def Bl{ah:Nat->Nat}:∀(k:Nat) (cs:List AV) (b o:Nat),b5 ah m S w cs b o->b5 ah m S w (cs.take k) b o
 | 0,cs,b,o,_=>by simp only[yaN,b5]
 | k+1,[],b,o,_=>by simp only[List.take_nil,b5]
 | k+1,c::cs,b,o,h=>by
  exact⟨h.1,Bl k cs b (o+1) h.2⟩
def zZ{ah:Nat->Nat}:∀(cs:List AV) (b o:Nat),b5 ah m S w cs b o->
  ∃us:List yj,aB ah m S w cs us/\us.length=cs.length/\∀j u,us[j]? =GW u->w.cell? ⟨b,o+j,GX⟩=GW u
 | [],b,o,_=>⟨[],by simp only[aB],rfl,fun j u h=>by simp at h⟩
 | c::cs,b,o,h=>by
  obtain⟨⟨u,h1,h2⟩,h3⟩:=h;obtain⟨us,h4,h5,h6⟩:=zZ cs b (o+1) h3;refine⟨u::us,by simp only[aB];exact⟨u,us,rfl,h2,h4⟩,by simp[h5],fun j v hv=>?_⟩
  cases j with
  | zero=>simp at hv;subst hv;simpa using h1
  | succ j=>simp at hv;have:=h6 j v hv;rw[show o+(j+1)=o+1+j by omega];exact this
def ij{ah:Nat->Nat}:∀(cs:List AV) (us:List yj),aB ah m S w cs us->us.length=cs.length
 | [],us,h=>by simp only[aB] at h;subst h;rfl
 | c::cs,us,h=>by
  obtain⟨u,r,rfl,_,h3⟩:=h;simp[ij cs r h3]
end
end
section
open Go
def oD(b o j:Nat):(⟨b,o,GX⟩:uG).add j=⟨b,o+j,GX⟩:=by
 unfold Addr.add;split<;>simp_all
section
variable {P:xy}{w:ym}
def akC(t:yE)(b o:Nat)(us:List yj)(ha:dD P t=GW ycN)(hz:cC P t=GW us.length)(h:∀j u,us[j]? =GW u->w.cell? ⟨b,o+j,GX⟩=GW u):(loadVar t ⟨b,o,GX⟩).run P w=.ok (.agg us.toArray) w:=by
 have hl:=run_loadCells_list (P:=P) w ⟨b,o,GX⟩ us (fun j u hu=>by rw[oD];exact h j u hu)
 unfold cC at hz
 cases hi:P.info? t with
 | none=>simp[hi] at hz
 | some i=>
  unfold dD at ha
  cases hu:P.underlying t with
  | none=>simp[hu] at ha
  | some d=>cases d<;>simp_all[loadVar,isAgg,vl,typeInfo,underlying]
def akD(t:yE)(b o:Nat)(u:yj)(ha:dD P t=GW ycO)(h:w.cell? ⟨b,o,GX⟩=GW u):(loadVar t ⟨b,o,GX⟩).run P w=.ok u w:=by
 unfold dD at ha
 cases hu:P.underlying t with
 | none=>simp[hu] at ha
 | some d=>cases d<;>simp_all[loadVar,isAgg,underlying]
end
section
variable {O:bz}{m:Mp}{S:Nat->Prop}{w:ym}
def PV{t:yE}{sz:Nat}{ag:Bool}{cs:List AV}{b o:Nat}{v:AV}(hz:cC O.P t=GW sz)(ha:dD O.P t=GW ag)(hr:b5 O.ah m S w cs b o)(hv:gZ sz ag cs=GW v):∃u,(loadVar t ⟨b,o,GX⟩).run O.P w=.ok u w/\aj O.ah m S w v u:=by
 cases ag with
 | true=>
  simp only[gZ,yC] at hv
  cases hle:yJ sz cs.length with
  | false=>simp only[hle,yX] at hv;cases hv
  | true=>
   simp only[hle,yC,yd] at hv;subst hv;obtain⟨us,h1,h2,h3⟩:=zZ _ _ _ (Bl sz cs b o hr);have hlen:us.length=sz:=by
    simp_all
   refine⟨.agg us.toArray,akC t b o us ha (by rw[hlen];exact hz) h3,?_⟩
   simp only[aj]
   grind
 | false=>
  simp only[gZ,yX] at hv
  cases cs with
  | nil=>simp at hv
  | cons c cs=>
   simp only[yd] at hv;subst hv;obtain⟨⟨u,h1,h2⟩,_⟩:=hr;exact⟨u,akD t b o u ha h1,h2⟩
def adz{t:yE}{sz o:Nat}{ag:Bool}{cs:List AV}{xs:Array yj}{v:AV}(hz:cC O.P t=GW sz)(ha:dD O.P t=GW ag)(hr:aB O.ah m S w cs xs.toList)(hv:gZ sz ag (cs.drop o)=GW v):∃u,(part t xs o).run O.P w=.ok u w/\aj O.ah m S w v u:=by
 have hd:∀(k:Nat) (cs:List AV) (us:List yj),aB O.ah m S w cs us->aB O.ah m S w (cs.drop k) (us.drop k):=by
  intro k
  induction k with
  | zero=>intro cs us h;simpa using h
  | succ k ih=>
   intro cs us h
   cases cs with
   | nil=>simp only[aB] at h;subst h;simp[aB]
   | cons c cs=>simp only[aB] at h;obtain⟨u,r,rfl,_,h3⟩:=h;simpa using ih cs r h3
 have fo:∀(k:Nat) (cs:List AV) (us:List yj),aB O.ah m S w cs us->aB O.ah m S w (cs.take k) (us.take k):=by
  intro k
  induction k with
  | zero=>intro cs us h;simp[aB]
  | succ k ih=>
   intro cs us h
   cases cs with
   | nil=>simp only[aB] at h;subst h;simp[aB]
   | cons c cs=>simp only[aB] at h;obtain⟨u,r,rfl,h2,h3⟩:=h;simp only[wI,aB];exact⟨u,_,rfl,h2,ih cs r h3⟩
 have agx:(isAgg t).run O.P w=.ok ag w:=by
  unfold dD at ha
  cases hu:O.P.underlying t with
  | none=>simp[hu] at ha
  | some d=>cases d<;>simp_all[isAgg,underlying]
 have eS:(vl t).run O.P w=.ok sz w:=by
  unfold cC at hz
  cases hi:O.P.info? t with
  | none=>simp[hi] at hz
  | some i=>simp_all[vl,typeInfo]
 have bR:=hd o cs xs.toList hr
 cases ag with
 | true=>
  simp only[gZ,yC] at hv
  cases hle:yJ sz (cs.drop o).length with
  | false=>simp only[hle,yX] at hv;cases hv
  | true=>
   simp only[hle,yC,yd] at hv;subst hv;refine⟨.agg (xs.extract o (o+sz)),by simp[part,Sem.run_bind,agx,eS],?_⟩;simp only[aj]
   simp_all
 | false=>
  simp only[gZ,yX] at hv
  cases hc:cs.drop o with
  | nil=>simp[hc] at hv
  | cons c r=>
   simp only[hc,yd] at hv;subst hv;rw[hc] at bR;simp only[aB] at bR;obtain⟨u,us,h1,h2,_⟩:=bR;have hx:xs[o]? =GW u:=by
    have:xs.toList[o]? =GW u:=by
     have:=congrArg (fun l=>l[0]?) h1
     simpa using this
    simpa using this
   exact⟨u,by simp[part,Sem.run_bind,agx,hx],h2⟩
end
end
section
open Go
section
variable {v:AV}{k:xj}{b:Nat}
def nI(t:ByteArray):List Nat:=t.data.toList.map xp
def adA:∀a b:List UInt8,cN (a.map xp) (b.map xp)=(a==b)
 | [],[]=>rfl
 | [],_::_=>rfl
 | _::_,[]=>rfl
 | a::x,b::y=>by
  have h:yp a.toNat b.toNat=(a==b):=by
   rw[yak,ycH,tS];exact ybp
  simp only[xi,cN,adA x y,h,List.cons_beq_cons]
def adB:∀a b:List UInt8,DH (a.map xp) (b.map xp)=Op.bytesLess a b
 | [],[]=>rfl
 | [],_::_=>rfl
 | _::_,[]=>rfl
 | a::x,b::y=>by
  have h:yp a.toNat b.toNat=(a==b):=by
   rw[yak,ycH,tS];exact ybp
  have h2:yP a.toNat b.toNat=decide (a<b):=by
   rw[yak];simp only[yP,ycI,tC,UInt8.lt_iff_toNat_lt]
   lia
  simp only[xi,DH,Op.bytesLess,adB x y,h,h2]
def aby(s t:ByteArray):cN (nI s) (nI t)=(s.toList==t.toList):=by
 rw[nI,nI,adA,ByteArray.toList_eq,ByteArray.toList_eq]
def al4(s t:ByteArray):DH (nI s) (nI t)=Op.bytesLess s.toList t.toList:=by
 rw[nI,nI,adB,ByteArray.toList_eq,ByteArray.toList_eq]
def abz(s:ByteArray):(nI s).length=s.size:=by
 rw[nI,List.length_map,Lib.size_eq]
section
variable {ah:Nat->Nat}{P:xy}{m:Mp}{S:Nat->Prop}{w:ym}{t:yE}
def anN{op:wU}{x y:Int}(h:mO op k x y=GW v):
  ∃u,(wo op t (.int k x) (.int k y)).run P w=.ok u w/\aj ah m S w v u:=by
 cases op<;>simp only[mO,intCmp,yd] at h
 case quo=>
  by_cases hy:y=0
  .grind
  .simp only [hy,xE,yd] at h;subst h;exact⟨_,by simp[wo,Op.intDiv,hy];rfl,by simp[aj]⟩
 case rem=>
  by_cases hy:y=0
  .grind
  .simp only [hy,xE,yd] at h;subst h;exact⟨_,by simp[wo,Op.intDiv,hy];rfl,by simp[aj]⟩
 case shl=>cases h
 case shr=>cases h
 all_goals
  subst h;exact⟨_,by simp[wo,Op.intCmp];rfl,by simp[aj]⟩
def aaV{op:wU}{k':xj}{x y:Int}(h:EE op k x y=GW v):
  ∃u,(wo op t (.int k x) (.int k' y)).run P w=.ok u w/\aj ah m S w v u:=by
 unfold EE at h;by_cases hy:y<0
 .grind
 .simp only [hy,xE] at h;cases op<;>simp only[yd] at h
  case shl=>subst h;exact⟨_,by simp[wo,Op.shift,hy];rfl,by simp[aj]⟩
  case shr=>subst h;exact⟨_,by simp[wo,Op.shift,hy];rfl,by simp[aj]⟩
  all_goals cases h
def anO{op:wU}{x y:ByteArray}(h:Mh op (nI x) (nI y)=GW v):
  ∃u,(wo op t (.string x) (.string y)).run P w=.ok u w/\aj ah m S w v u:=by
 cases op<;>simp only[Mh,aby,al4,abz,yd] at h
 case add=>
  cases hle:yJ (x.size+y.size) 9223372036854775807 with
  | false=>rw[hle] at h;cases h
  | true=>
   rw[hle] at h;simp only[yC,yd] at h;subst h;have aEE:=yu hle;have ayD:¬(((x.size+y.size:Nat):Int)>IntKind.i64.max):=by
    have:IntKind.i64.max=9223372036854775807:=by decide
    grind
   refine⟨.string (x++y),?_,?_⟩
   .simp only [wo,Op.stringOp,yI ayD,Sem.run_pure]
   .simp only [aj];exact⟨x++y,rfl,by simp[nI]⟩
 all_goals first
  | (cases h;done)
  | (subst h;exact⟨_,by simp[wo,Op.stringOp];rfl,by simp[aj]⟩)
def anP{op:wU}{k:wD}{x y:Nat}(h:Qy op k x y=GW v):
  ∃u,(wo op t (.float k x) (.float k y)).run P w=.ok u w/\aj ah m S w v u:=by
 cases op<;>simp only[Qy,yd] at h
 case add=>
  cases hr:k.format.add x y with
  | none=>simp[hr] at h
  | some r=>simp only[hr,yd] at h;subst h;exact⟨.float k r,by simp[wo,Op.floatArith,hr],by simp[aj]⟩
 case sub=>
  cases hr:k.format.sub x y with
  | none=>simp[hr] at h
  | some r=>simp only[hr,yd] at h;subst h;exact⟨.float k r,by simp[wo,Op.floatArith,hr],by simp[aj]⟩
 case mul=>
  cases hr:k.format.mul x y with
  | none=>simp[hr] at h
  | some r=>simp only[hr,yd] at h;subst h;exact⟨.float k r,by simp[wo,Op.floatArith,hr],by simp[aj]⟩
 case quo=>
  cases hr:k.format.div x y with
  | none=>simp[hr] at h
  | some r=>simp only[hr,yd] at h;subst h;exact⟨.float k r,by simp[wo,Op.floatArith,hr],by simp[aj]⟩
 all_goals first
  | (cases h;done)
  | (subst h;exact⟨_,by simp[wo,Op.floatCmp];rfl,by simp[aj]⟩)
def adC(k:wD)(x y:Nat):(Op.Complex.cmp .eql k x y).run P w=.ok (k.format.order x y==GW .eq) w:=by
 simp[Op.Complex.cmp,Op.floatCmp,asBool]
def Ak{op:wU}{k:wD}{x y r:Nat}(h:nm op k x y=GW r):(Op.Complex.arith op k x y).run P w=.ok r w:=by
 unfold nm at h
 split at h
 .simp [Op.Complex.arith,Op.floatArith,h]
 .simp [Op.Complex.arith,Op.floatArith,h]
 .simp [Op.Complex.arith,Op.floatArith,h]
 .cases h
def Hm{s k:wD}{r:Nat}(h:DI s k b=GW r):(Op.Complex.conv s b k).run P w=.ok r w:=by
 unfold DI at h;unfold Op.Complex.conv;by_cases hk:s=k
 .rw [yK hk] at h ⊢;cases h;rfl
 .rw [yI hk] at h ⊢
  cases hd:s.decode b with
  | nan _ _=>simp[hd] at h
  | infinity _=>simp[hd] at h
  | number sg m e=>
   simp only[hd] at h
   cases hi:(k.decode (k.encode (.number sg m e))).isInfinity with
   | true=>simp[hi] at h
   | false=>simp[hi] at h;subst h;simp[Conv.floatToFloat,hk,hd,hi]
def al5{k:wD}{a c d:Nat}(h:Vw k a b c d=GW v):
  ∃u,(wo .mul t (.complex k a b) (.complex k c d)).run P w=.ok u w/\aj ah m S w v u:=by
 unfold Vw at h
 split at h
 .rename_i a' b' c' d' h1 h2 h3 h4
  split at h
  .rename_i p q r s g1 g2 g3 g4
   split at h
   .rename_i e f k1 k2
    split at h
    .rename_i e' f' l1 l2;cases h;exact⟨.complex k e' f',by simp[wo,Op.complexOp,Op.Complex.product,Op.Complex.mul,Op.Complex.sub,Op.Complex.add,Hm h1,Hm h2,Hm h3,Hm h4,Ak g1,Ak g2,Ak g3,Ak g4,Ak k1,Ak k2,Hm l1,Hm l2],by simp[aj]⟩
    .cases h
   .cases h
  .cases h
 .cases h
def anQ{op:wU}{k:wD}{a c d:Nat}(h:V5 op k a b c d=GW v):
  ∃u,(wo op t (.complex k a b) (.complex k c d)).run P w=.ok u w/\aj ah m S w v u:=by
 cases op<;>simp only[V5,yd,reduceCtorEq] at h
 case add=>
  cases h1:nm .add k a c with
  | none=>simp[h1] at h
  | some r=>
   cases h2:nm .add k b d with
   | none=>simp[h1,h2] at h
   | some i=>
    simp only[h1,h2,yd] at h;subst h;exact⟨.complex k r i,by simp[wo,Op.complexOp,Ak h1,Ak h2],by simp[aj]⟩
 case sub=>
  cases h1:nm .sub k a c with
  | none=>simp[h1] at h
  | some r=>
   cases h2:nm .sub k b d with
   | none=>simp[h1,h2] at h
   | some i=>
    simp only[h1,h2,yd] at h;subst h;exact⟨.complex k r i,by simp[wo,Op.complexOp,Ak h1,Ak h2],by simp[aj]⟩
 case mul=>exact al5 h
 case eql=>subst h;exact⟨_,by simp[wo,Op.complexOp,adC];rfl,by simp[aj]⟩
 case neq=>subst h;exact⟨_,by simp[wo,Op.complexOp,adC];rfl,by simp[aj]⟩
def anR{op:wU}{vx vy:AV}{x y:yj}(hx:aj ah m S w vx x)(hy:aj ah m S w vy y)(h:VE.binOp op vx vy=GW v):
  ∃u,(wo op t x y).run P w=.ok u w/\aj ah m S w v u:=by
 unfold VE.binOp at h
 split at h
 .rename_i k a k' b;simp only[aj] at hx hy;subst hx;subst hy
  split at h
  .exact aaV h
  .exact aaV h
  .by_cases hk:k=k'
   .subst hk;simp only[xS] at h;exact anN h
   .simp [hk] at h
 .rename_i k a k' b;simp only[aj] at hx hy;subst hx;subst hy;by_cases hk:k=k'
  .subst hk;simp only[xS] at h;exact anP h
  .simp [hk] at h
 .rename_i a b;simp only[aj] at hx hy;obtain⟨s,rfl,rfl⟩:=hx;obtain⟨s',rfl,rfl⟩:=hy;exact anO h
 .rename_i k a b k' c d;simp only[aj] at hx hy;subst hx;subst hy;by_cases hk:k=k'
  .subst hk;simp only[xS] at h;exact anQ h
  .simp [hk] at h
 .cases h
end
end
end
section
open Go
section
variable {v vx:AV}{vr:Bool}{d:Nat}{x:yj}
section
variable {ah:Nat->Nat}{P:xy}{m:Mp}{S:Nat->Prop}{w:ym}{t:yE}
def alb{op:wU}{x y:xC}{a b:yj}(h:P.eqGuardType P.depth t=ycO\/∀xs ys,¬(a=.agg xs/\b=.agg ys))(hn:a≠.nilIface):
  (eqGuard op t x y a b).run P w=.ok () w:=by
 unfold eqGuard;cases op
 all_goals first
  | rfl
  | (
    cases a
    all_goals first
     | rfl
     | exact absurd rfl hn
     | (
      cases b
      all_goals first
       | rfl
       | (
         rcases h with h | h
         .simp [h]
         .exact absurd ⟨rfl,rfl⟩ (h _ _))))
def asr{p q:Bool}(ht:P.underlying t=GW .bool):(Op.equalIn (d+1) t (.bool p) (.bool q)).run P w=.ok (p==q) w:=by
 simp[Op.equalIn,underlying,ht]
def V8{e:yE}(ht:P.underlying t=GW (.slice e))(y:Option uG)(n c n' c':Nat):
  (Op.equalIn (d+1) t (.slice GX n c) (.slice y n' c')).run P w=.ok y.isNone w:=by simp[Op.equalIn,underlying,ht]
def ae0{e:yE}(ht:P.underlying t=GW (.slice e))(x:uG)(n c n' c':Nat):
  (Op.equalIn (d+1) t (.slice (GW x) n c) (.slice GX n' c')).run P w=.ok ycO w:=by simp[Op.equalIn,underlying,ht]
def awV{ps rs:Array yE}(ht:P.underlying t=GW (.func ps rs vr)):
  (Op.equalIn (d+1) t .nilFunc .nilFunc).run P w=.ok ycN w:=by simp[Op.equalIn,underlying,ht]
def ae1{ps rs:Array yE}(ht:P.underlying t=GW (.func ps rs vr))(f:Go.Fn)(a b:Array yj):
  (Op.equalIn (d+1) t .nilFunc (.func f a b)).run P w=.ok ycO w:=by simp[Op.equalIn,underlying,ht]
def ae2{ps rs:Array yE}(ht:P.underlying t=GW (.func ps rs vr))(f:Go.Fn)(a b:Array yj):
  (Op.equalIn (d+1) t (.func f a b) .nilFunc).run P w=.ok ycO w:=by simp[Op.equalIn,underlying,ht]
def UB(x y:yj):Op.equal t x y=Op.equalIn (9999+1) t x y:=rfl
def ap6{vy:AV}{y:yj}{r:Bool}{e:yE}(ht:P.underlying t=GW (.slice e))(hx:aj ah m S w vx x)(hy:aj ah m S w vy y)(h:jK .sl vx vy=GW r):(Op.equal t x y).run P w=.ok r w:=by
 unfold jK at h
 split at h<;>simp_all only [yd,reduceCtorEq]
 all_goals subst h
 .subst hx;subst hy;exact V8 ht _ _ _ _ _
 .rcases hy with ⟨b,o,c,rfl,_⟩ | ⟨_,rfl,_⟩<;>(subst hx;exact V8 ht _ _ _ _ _)
 .obtain ⟨p,c,_,rfl,_⟩:=hy;subst hx;exact V8 ht _ _ _ _ _
 .rcases hx with ⟨b,o,c,rfl,_⟩ | ⟨_,rfl,_⟩<;>(subst hy;exact ae0 ht _ _ _ _ _)
 .obtain ⟨p,c,_,rfl,_⟩:=hx;subst hy;exact ae0 ht _ _ _ _ _
def ap7{vy:AV}{y:yj}{r:Bool}{ps rs:Array yE}(ht:P.underlying t=GW (.func ps rs vr))(hx:aj ah m S w vx x)(hy:aj ah m S w vy y)(h:jK .fn vx vy=GW r):(Op.equal t x y).run P w=.ok r w:=by
 unfold jK at h
 split at h<;>simp_all only [yd,reduceCtorEq]
 all_goals subst h
 .simp only [aj] at hx hy;subst hx;subst hy;exact awV ht
 .rename_i f _ _
  cases f with
  | f g=>simp only[aj] at hx hy;obtain⟨fi,ca,rfl,_⟩:=hy;subst hx;exact ae1 ht _ _ _
  | y l=>simp only[aj] at hx hy;obtain⟨p,_,rfl⟩:=hy;subst hx;exact ae1 ht _ _ _
 .rename_i f _ _
  cases f with
  | f g=>simp only[aj] at hx hy;obtain⟨fi,ca,rfl,_⟩:=hx;subst hy;exact ae2 ht _ _ _
  | y l=>simp only[aj] at hx hy;obtain⟨p,_,rfl⟩:=hx;subst hy;exact ae2 ht _ _ _
def ap8{op:ycv}(hx:aj ah m S w vx x)(h:VE.unOp op vx=GW v):∃u,(Op.unary op x).run P w=.ok u w/\aj ah m S w v u:=by
 unfold VE.unOp at h
 split at h
 .rename_i k n;subst hx;simp only[yd] at h;subst h;exact⟨_,by simp[Op.unary,Op.intArith];rfl,by simp[aj]⟩
 .rename_i k n;subst hx;simp only[mO,yd] at h;subst h;exact⟨_,by simp[Op.unary,Op.intBits];rfl,by simp[aj]⟩
 .rename_i b;subst hx;simp only[yd] at h;subst h;exact⟨_,by simp[Op.unary];rfl,by simp[aj]⟩
 .rename_i k b;subst hx;simp only[yd] at h;subst h;exact⟨_,by simp[Op.unary,Op.negFloat];rfl,by simp[aj]⟩
 .cases h
def acs{s d:yE}{k:xj}(hd:P.underlying d=GW (.int k))(hs:(∃k',P.underlying s=GW (.int k'))\/∃k',P.underlying s=GW (.float k'))(hx:aj ah m S w vx x)(h:kC (.toInt k) vx=GW v):∃u,(convert s d x).run P w=.ok u w/\aj ah m S w v u:=by
 cases vx<;>simp only[kC,reduceCtorEq] at h
 case int k0 n=>
  simp only[aj] at hx;subst hx;simp only[yd] at h;subst h;refine⟨.int k (k.wrap n),?_,by simp[aj]⟩;rcases hs with ⟨k',h'⟩ | ⟨k',h'⟩<;>simp[convert,underlying,Conv.intToInt,hd,h']
 case ay sk b=>
  subst hx
  cases hi:(sk.decode b).toInt .zero with
  | none=>simp[hi] at h
  | some n=>
   simp only[hi] at h;by_cases hr:k.min<=n/\n<=k.max
   .simp only [hr,and_self,xS,yd] at h;subst h;refine⟨.int k n,?_,by simp[aj]⟩;rcases hs with ⟨k',h'⟩ | ⟨k',h'⟩<;>simp[convert,underlying,Conv.floatToInt,hd,h',hi,hr]
   .grind
def acu{s d:yE}{k:wD}(hd:P.underlying d=GW (.float k))(hs:(∃k',P.underlying s=GW (.int k'))\/∃k',P.underlying s=GW (.float k'))(hx:aj ah m S w vx x)(h:kC (.toFlt k) vx=GW v):∃u,(convert s d x).run P w=.ok u w/\aj ah m S w v u:=by
 cases vx<;>simp only[kC,reduceCtorEq] at h
 case int k0 n=>
  simp only[aj] at hx;subst hx;simp only[yd] at h;subst h;refine⟨.float k (k.nearest n),?_,by simp[aj]⟩;rcases hs with ⟨k',h'⟩ | ⟨k',h'⟩<;>simp[convert,underlying,Conv.intToFloat,hd,h']
 case ay sk b=>
  simp only[aj] at hx;subst hx;by_cases he:sk=k
  .subst he;simp only[xS,yd] at h;subst h;refine⟨.float sk b,?_,by simp[aj]⟩;rcases hs with ⟨k',h'⟩ | ⟨k',h'⟩<;>simp[convert,underlying,Conv.floatToFloat,hd,h']
  .simp only [he,xE] at h
   cases Q8:sk.decode b with
   | nan _ _=>simp[Q8] at h
   | infinity _=>simp[Q8] at h
   | number sg mm ee=>
    simp only[Q8] at h
    cases WR:(k.decode (k.encode (.number sg mm ee))).isInfinity with
    | true=>simp[WR] at h
    | false=>
     simp only[WR,yL,xE,yd] at h;subst h;refine⟨.float k (k.encode (.number sg mm ee)),?_,by simp[aj]⟩;rcases hs with ⟨k',h'⟩ | ⟨k',h'⟩<;>simp[convert,underlying,Conv.floatToFloat,hd,h',he,Q8,WR]
def anS{s d:yE}(hd:P.underlying d=GW .string)(hs:P.underlying s=GW .string)(hx:aj ah m S w vx x)(h:kC .str vx=GW v):∃u,(convert s d x).run P w=.ok u w/\aj ah m S w v u:=by
 cases vx<;>simp only[kC,reduceCtorEq] at h
 simp only[yd] at h;subst h;obtain⟨b,rfl,hb⟩:=hx;exact⟨.string b,by simp[convert,underlying,hs,hd],by simp only[aj];exact⟨b,rfl,hb⟩⟩
end
end
end
section
open Go
section
variable {v vx:AV}{hp:Hp}{k:Nat}{P:xy}{x:yj}
def al6(h:dR v=GW k):∃kd,v=.int kd (k:Int):=by
 cases v<;>simp only[dR,reduceCtorEq] at h
 rename_i kd n
 cases n with
 | ofNat j=>simp only[yd] at h;subst h;exact⟨kd,rfl⟩
 | negSucc j=>cases h
section
variable {O:bz}{H:Hint}{m:Mp}{S:Nat->Prop}{w:ym}{tm:Env}{a:Act}
def Bs{ah:Nat->Nat}(hx:aj ah m S w v x)(h:dR v=GW k):∃kd,x=.int kd (k:Int):=by
 obtain⟨kd,rfl⟩:=al6 h;simp only[aj] at hx
 grind
def run_sliceBound{kd:xj}{y:Nat}{code:BoundsCode}(h:k<=y):(Instr.sliceBound (.int kd (k:Int)) y code).run P w=.ok k w:=by
 have:(0:Int)<=(k:Int)/\(k:Int)<=(y:Int):=by lia
 simp[Instr.sliceBound,asIntOf,this]
def Ue{isSlice:Bool}{len cap l h:Nat}{lo hi:Option xC}(hH:fH O H)(ht:b7 O m S w tm a.tmps)(hl:db tm 0 (lo.map (aK H))=GW l)(hh:db tm len (hi.map (aK H))=GW h)(h1:l<=h)(h2:h<=cap):
  (Instr.sliceBounds isSlice len cap (lo.map a.eval) (hi.map a.eval) GX).run P w=.ok (l,h,cap) w:=by
 cases lo with
 | none=>
  simp only[uy,db,yd] at hl;subst hl
  cases hi with
  | none=>
   simp only[uy,db,yd] at hh;subst hh;simp[Instr.sliceBounds]
  | some y=>
   have⟨kd,e⟩:=Bs (b8 hH ht y) hh;simp only[Instr.sliceBounds,uy,wN,e,Sem.run_bind,Sem.run_pure,Result.andThen_ok,run_sliceBound h2]
 | some x=>
  have⟨kd,e⟩:=Bs (b8 hH ht x) hl
  cases hi with
  | none=>
   simp only[uy,db,yd] at hh;subst hh;simp only[Instr.sliceBounds,uy,wN,e,Sem.run_bind,Sem.run_pure,Result.andThen_ok,run_sliceBound h1]
  | some y=>
   have⟨Yu,e'⟩:=Bs (b8 hH ht y) hh;simp only[Instr.sliceBounds,wN,e,e',Sem.run_bind,Sem.run_pure,Result.andThen_ok,run_sliceBound h2,run_sliceBound h1]
def al7{t:yE}{lo hi:Option xC}(hH:fH O H)(ht:b7 O m S w tm a.tmps)(hu:O.P.underlying t=GW .string)(hx:aj O.ah m S w vx x)(h:fN hp .str vx tm (lo.map (aK H)) (hi.map (aK H))=GW v):
  ∃u,(Instr.sliceAt t x (lo.map a.eval) (hi.map a.eval) GX).run O.P w=.ok u w/\aj O.ah m S w v u:=by
 cases vx<;>simp only[fN,reduceCtorEq] at h
 obtain⟨b,rfl,rfl⟩:=hx
 cases hl:db tm 0 (lo.map (aK H)) with
 | none=>simp[hl] at h
 | some l=>
  simp only[hl] at h
  cases hh:db tm (b.data.toList.map xp).length (hi.map (aK H)) with
  | none=>rw[hh] at h;cases h
  | some g=>
   rw[hh] at h;simp only at h
   cases hc:(yJ l g&&yJ g (b.data.toList.map xp).length) with
   | false=>rw[hc] at h;cases h
   | true=>
    rw[hc] at h;simp only[yC,yd] at h;subst h;simp only[ye] at hc;have h1:=yu hc.1;have h2:=yu hc.2;have hlen:(b.data.toList.map xp).length=b.size:=abz b;rw[hlen] at hh h2;refine⟨.string (b.extract l g),?_,?_⟩
    .simp only [Instr.sliceAt,Sem.run_bind,run_underlying hu,Result.andThen_ok,Instr.slice,tL,yL,xE,Sem.run_pure,
      Ue (P:=O.P) (isSlice:=ycO) (len:=b.size) (cap:=b.size) hH ht hl hh h1 h2]
    .simp only [aj];refine⟨_,rfl,?_⟩;rw[Lib.extract_data,List.map_take,List.map_drop,List.drop_take]
def anT{t e:yE}{sz:Nat}{lo hi:Option xC}(hH:fH O H)(ht:b7 O m S w tm a.tmps)(hu:O.P.underlying t=GW (.slice e))(hz:cC O.P e=GW sz){ct:Nat}(hh:aT O m S w hp ct)(hx:aj O.ah m S w vx x)(h:fN hp (.sl sz) vx tm (lo.map (aK H)) (hi.map (aK H))=GW v):
  ∃u,(Instr.sliceAt t x (lo.map a.eval) (hi.map a.eval) GX).run O.P w=.ok u w/\aj O.ah m S w v u:=by
 have eS:(vl e).run O.P w=.ok sz w:=by
  unfold cC at hz
  cases hi:O.P.info? e with
  | none=>simp[hi] at hz
  | some i=>simp_all[vl,typeInfo]
 have Lb:∀(ad:Option uG) (n c l g:Nat),db tm 0 (lo.map (aK H))=GW l->db tm n (hi.map (aK H))=GW g->l<=g->g<=c->
   (Instr.sliceAt t (.slice ad n c) (lo.map a.eval) (hi.map a.eval) GX).run O.P w=.ok (.slice (if c=l then ad else ad.map (·.add (l*sz))) (g-l) (c-l)) w:=by
  intro ad n c l g hl hg h1 h2
  simp only[Instr.sliceAt,Sem.run_bind,run_underlying hu,Result.andThen_ok,Instr.slice,Sem.run_pure,eS,
   Ue (P:=O.P) (isSlice:=ycN) (len:=n) (cap:=c) hH ht hl hg h1 h2]
 cases vx<;>simp only[fN,reduceCtorEq] at h
 case ab=>
  simp only[aj] at hx;subst hx
  cases hl:db tm 0 (lo.map (aK H)) with
  | none=>simp[hl] at h
  | some l=>
   cases l with
   | succ l=>simp[hl] at h
   | zero=>
    simp only[hl] at h
    cases hh:db tm 0 (hi.map (aK H)) with
    | none=>simp[hh] at h
    | some g=>
     cases g with
     | succ g=>simp[hh] at h
     | zero=>
      simp only[hh,yd] at h;subst h;exact⟨_,Lb GX 0 0 0 0 hl hh (yz _) (yz _),by simp[aj]⟩
 case ap ex n cs=>
  simp only[aj] at hx;rcases hx with ⟨b,o,c,rfl,NQ,hex,hS,ix,Cb⟩ | ⟨ad,rfl,rfl,rfl⟩
  case inr=>
   cases hl:db tm 0 (lo.map (aK H)) with
   | none=>simp[hl] at h
   | some l=>
    simp only[hl] at h
    cases hh:db tm 0 (hi.map (aK H)) with
    | none=>simp[hh] at h
    | some g=>
     simp only[hh] at h
     cases hc:(yJ l g&&yJ g 0) with
     | false=>rw[hc] at h;cases h
     | true=>
      rw[hc] at h;simp only[yC,yd] at h;subst h;simp only[ye] at hc;have h1:=yu hc.1;have h2:=yu hc.2;have hg:g=0:=by lia
      subst hg;have lR:l=0:=by lia
      subst lR;refine⟨_,Lb (GW ad) 0 0 0 0 hl hh h1 h2,?_⟩;simp only[aj];exact .inr ⟨ad,by simp,by simp,by simp[slice]⟩
  cases hl:db tm 0 (lo.map (aK H)) with
  | none=>simp[hl] at h
  | some l=>
   simp only[hl] at h
   cases hh:db tm n (hi.map (aK H)) with
   | none=>simp[hh] at h
   | some g=>
    simp only[hh] at h
    cases hc:(yJ l g&&yJ g n) with
    | false=>rw[hc] at h;cases h
    | true=>
     rw[hc] at h;simp only[yC,yd] at h;subst h;simp only[ye] at hc;have h1:=yu hc.1;have h2:=yu hc.2;refine⟨_,Lb (GW ⟨b,o,GX⟩) n c l g hl hh h1 (by lia),?_⟩;have Fu:aE (slice (l*sz) ((g-l)*sz) cs)=ycN:=by
      have pd:∀(k:Nat) (cs:List AV),aE cs=ycN->aE (cs.drop k)=ycN:=by
       intro k
       induction k with
       | zero=>intro cs h;simpa using h
       | succ k ih=>intro cs h;cases cs with
        | nil=>simpa using h
        | cons c cs=>simp only[aE,ye] at h;simpa using ih cs h.2
      have pt:∀(k:Nat) (cs:List AV),aE cs=ycN->aE (cs.take k)=ycN:=by
       intro k
       induction k with
       | zero=>intro cs h;simp[aE]
       | succ k ih=>intro cs h;cases cs with
        | nil=>simp[aE]
        | cons c cs=>simp only[aE,ye,wI] at h ⊢;exact⟨h.1,ih cs h.2⟩
      exact pt _ _ (pd _ _ ix)
     have agy:(ex&&yp g n)=ycN->c-l=g-l:=by
      intro hq;simp only[ye] at hq
      have:=hex hq.1
      have:=yh hq.2
      lia
     simp only[aj];by_cases bL:c=l
     .have h0:g-l=0:=by lia
      have n5:slice (l*sz) ((g-l)*sz) cs=[]:=by simp[slice,h0]
      rw[n5];exact .inl ⟨b,o,c-l,by simp[bL],by lia,agy,.inl rfl,rfl,by simp[b5]⟩
     .refine .inl ⟨b,o+l*sz,c-l,by simp[bL,oD],by lia,agy,?_,Fu,?_⟩
      .rcases hS with rfl | hS
       .exact .inl (by simp[slice])
       .exact .inr hS
      .exact Bl _ _ _ _ (zc _ _ _ _ Cb)
 case aq id o n=>
  simp only[aj] at hx;obtain⟨p,c,hm,rfl,NQ,SE⟩:=hx
  split at h
  case h_2=>cases h
  rename_i Yv pu0 AQ z0 cs0 Fv;have⟨p',arr,t',hJ,_,ej,_⟩:=hh.obj id _ _ Fv hm;rw[hm] at hJ;injection hJ with hJ
  subst hJ
  cases hl:db tm 0 (lo.map (aK H)) with
  | none=>simp[hl] at h
  | some l=>
   simp only[hl] at h
   cases hh:db tm n (hi.map (aK H)) with
   | none=>simp[hh] at h
   | some g=>
    simp only[hh] at h
    cases hc:(yJ l g&&yJ g n&&yp z0 sz) with
    | false=>rw[hc] at h;cases h
    | true=>
     rw[hc] at h;simp only[yC] at h;simp only[ye] at hc;have h1:=yu hc.1.1;have h2:=yu hc.1.2;have hpz:p.z=sz:=ej.trans (yh hc.2)
     cases he:(yp l g&& !yp l 0) with
     | true=>
      rw[he] at h;simp only[yC,yd] at h;subst h;simp only[ye] at he;have DM:=yh he.1;refine⟨_,Lb (GW ⟨p.b,p.o+o,GX⟩) n c l g hl hh h1 (by lia),?_⟩;simp only[aj];by_cases bL:c=l
      .exact .inl ⟨p.b,p.o+o,c-l,by simp[bL];lia,by lia,by simp,by simp,by simp[aE],by simp[b5]⟩
      .exact .inl ⟨p.b,p.o+o+l*sz,c-l,by simp[bL,oD];lia,by lia,by simp,by simp,by simp[aE],by simp[b5]⟩
     | false=>
      rw[he] at h;simp only[yX,yd] at h;subst h;have bL:c=l->l=0:=by
       intro bL;have DM:l=g:=by lia
       cases lR:yp l 0 with
       | true=>exact yh lR
       | false=>rw[DM,wO,<-DM,lR] at he;cases he
      refine⟨_,Lb (GW ⟨p.b,p.o+o,GX⟩) n c l g hl hh h1 (by lia),?_⟩;simp only[aj];refine⟨p,c-l,hm,?_,by lia,?_⟩
      .by_cases BS:c=l
       .have:=bL BS;subst this;subst BS;simp
       .simp [BS,oD,tG]
      .rw [hpz] at SE ⊢
       have:c*sz=l*sz+(c-l)*sz:=by rw[<-wg];congr 1;lia
       lia
def anU{t e:yE}{n sz:Nat}{lo hi:Option xC}(hH:fH O H)(ht:b7 O m S w tm a.tmps)(hu:O.P.underlying t=GW (.array n e))(hz:cC O.P e=GW sz)(hx:aj O.ah m S w vx x)(h:fN hp (.ar n sz) vx tm (lo.map (aK H)) (hi.map (aK H))=GW v):
  ∃u,(Instr.sliceAt t x (lo.map a.eval) (hi.map a.eval) GX).run O.P w=.ok u w/\aj O.ah m S w v u:=by
 have eS:(vl e).run O.P w=.ok sz w:=by
  unfold cC at hz
  cases hi:O.P.info? e with
  | none=>simp[hi] at hz
  | some i=>simp_all[vl,typeInfo]
 cases vx<;>simp only[fN,reduceCtorEq] at h
 rename_i cs;simp only[aj] at hx;obtain⟨b,o,rfl,hS,ix,Cb⟩:=hx
 cases hl:db tm 0 (lo.map (aK H)) with
 | none=>simp[hl] at h
 | some l=>
  simp only[hl] at h
  cases hh:db tm n (hi.map (aK H)) with
  | none=>simp[hh] at h
  | some g=>
   simp only[hh] at h
   cases hc:(yp l 0&&yp g n&&(yP 0 n&&yJ (n*sz) cs.length)) with
   | false=>rw[hc] at h;cases h
   | true=>
    rw[hc] at h;simp only[yC,yd] at h;subst h;simp only[ye] at hc;have h1:=yh hc.1.1;have h2:=yh hc.1.2;have h3:0<n:=yu hc.2.1;subst h1 h2;have fP:¬g=0:=by omega
    refine⟨.slice (GW ⟨b,o,GX⟩) g g,?_,?_⟩
    .simp only [Instr.sliceAt,Sem.run_bind,run_underlying hu,Result.andThen_ok,Instr.sureAddr,Sem.run_pure,eS,
      Ue (P:=O.P) (isSlice:=ycO) (len:=g) (cap:=g) hH ht hl hh (Nat.zero_le _) (yz _)]
     simp[oD]
    .have pt:∀(k:Nat) (cs:List AV),aE cs=ycN->aE (cs.take k)=ycN:=by
      intro k
      induction k with
      | zero=>intro cs h;simp[aE]
      | succ k ih=>intro cs h;cases cs with
       | nil=>simp[aE]
       | cons c cs=>simp only[aE,ye,wI] at h ⊢;exact⟨h.1,ih cs h.2⟩
     simp only[aj];refine .inl ⟨b,o,g,rfl,yz _,fun _=>rfl,?_,pt _ _ ix,Bl _ _ _ _ Cb⟩;rcases hS with rfl | hS
     .exact .inl (by simp)
     .exact .inr hS
end
end
end
section
open Go
section
variable {v vi vx:AV}{ag:Bool}{cs:List AV}{k sz:Nat}{i x:yj}
def pC{P:xy}{w:ym}{t:yE}(hz:cC P t=GW sz):(vl t).run P w=.ok sz w:=by
 unfold cC at hz
 cases hi:P.info? t with
 | none=>simp[hi] at hz
 | some i=>simp_all[vl,typeInfo]
section
variable {O:bz}{H:Hint}{m:Mp}{S:Nat->Prop}{w:ym}{tm:Env}{a:Act}{hp:Hp}{ct:Nat}
def UC{id o n:Nat}{rw pu ex:Bool}{p:Pl}(hh:aT O m S w hp ct)(hg:ax hp id=GW (.cells rw pu ex sz cs))(hm:m id=GW p):
  b5 O.ah m S w cs p.b p.o:=by
 have⟨p',arr,t',hJ,_,_,_,_,_,hr,_⟩:=hh.obj id _ _ hg hm
 grind
def awW{t:yE}(hh:aT O m S w hp ct)(hz:cC O.P t=GW sz)(ha:dD O.P t=GW ag)(hx:aj O.ah m S w vx x)(h:fY hp sz ag vx=GW v):∃u,(Instr.loadAt t x).run O.P w=.ok u w/\aj O.ah m S w v u:=by
 cases vx<;>simp only[fY,reduceCtorEq] at h
 case ptr id o=>
  obtain⟨p,hm,rfl⟩:=hx
  split at h
  case h_2=>cases h
  rename_i Yv pu0 AQ z0 cs0 Fv;have hr:=UC (id:=id) (o:=0) (n:=0) hh Fv hm;have⟨u,h1,h2⟩:=PV hz ha (zc o cs0 p.b p.o hr) h;exact⟨u,by simp only[Instr.loadAt,Instr.sureAddr,Sem.run_bind,Sem.run_pure,Result.andThen_ok];exact h1,h2⟩
 case bN cs=>
  obtain⟨b,o,rfl,_,_,hr⟩:=hx;have⟨u,h1,h2⟩:=PV hz ha hr h;exact⟨u,by simp only[Instr.loadAt,Instr.sureAddr,Sem.run_bind,Sem.run_pure,Result.andThen_ok];exact h1,h2⟩
def Bm:∀(k:Nat) (cs:List AV),aE cs=ycN->aE (cs.drop k)=ycN
 | 0,cs,h=>by simpa using h
 | k+1,[],h=>by simpa using h
 | k+1,c::cs,h=>by simp only[aE,ye] at h;simpa using Bm k cs h.2
def Uf{b o:Nat}(h2:cs=[]\/S b)(h3:aE cs=ycN)(h4:b5 O.ah m S w cs b o):aj O.ah m S w (.bN (cs.drop k)) (.pointer (GW ⟨b,o+k,GX⟩)):=by
 refine⟨b,o+k,rfl,?_,Bm k cs h3,zc k cs b o h4⟩
 grind
def ass{t:yE}{fs:Array ub}{i:Nat}{f:ub}(hu:O.P.underlying t=GW (.struct fs))(hf:fs[i]? =GW f)(hz:cC O.P f.type=GW (sz+1))(hx:aj O.ah m S w vx x)(h:Mi f.offset vx=GW v):∃u,(Instr.fieldAt t x i).run O.P w=.ok u w/\aj O.ah m S w v u:=by
 have ae3:∀(b o:Nat),(Instr.fieldAt t (.pointer (GW ⟨b,o,GX⟩)) i).run O.P w=.ok (.pointer (GW ⟨b,o+f.offset,GX⟩)) w:=by
  intro b o;simp only[Instr.fieldAt,Sem.run_bind,run_underlying hu,Result.andThen_ok,hf,Instr.sureAddr,Sem.run_pure,fieldPlace,pC hz,Nat.succ_ne_zero,xE,oD]
 cases vx<;>simp only[Mi,reduceCtorEq] at h
 case ptr id o=>
  obtain⟨p,hm,rfl⟩:=hx;simp only[yd] at h;subst h;exact⟨_,ae3 _ _,by simp only[aj];exact⟨p,hm,by rw[tG]⟩⟩
 case bN cs=>
  obtain⟨b,o,rfl,h2,h3,h4⟩:=hx
  cases hc:yJ f.offset cs.length with
  | false=>rw[hc] at h;cases h
  | true=>
   rw[hc] at h;simp only[yC,yd] at h;subst h;exact⟨_,ae3 _ _,Uf h2 h3 h4⟩
def ast{t:yE}{fs:Array ub}{i:Nat}{f:ub}(hu:O.P.underlying t=GW (.struct fs))(hf:fs[i]? =GW f)(hz:cC O.P f.type=GW sz)(ha:dD O.P f.type=GW ag)(hx:aj O.ah m S w vx x)(h:QA f.offset sz ag vx=GW v):∃u,(Instr.field t x i).run O.P w=.ok u w/\aj O.ah m S w v u:=by
 cases vx<;>simp only[QA,reduceCtorEq] at h
 obtain⟨xs,rfl,hr⟩:=hx;have⟨u,h1,h2⟩:=adz hz ha hr h;exact⟨u,by simp only[Instr.field,Sem.run_bind,run_underlying hu,Result.andThen_ok,hf,asAgg,Sem.run_pure];exact h1,h2⟩
def asu{t e:yE}(hu:O.P.underlying t=GW (.slice e))(hz:cC O.P e=GW sz)(hx:aj O.ah m S w vx x)(hi:aj O.ah m S w vi i)(hk:dR vi=GW k)(h:fc sz k vx=GW v):∃u,(Instr.indexAt t x i).run O.P w=.ok u w/\aj O.ah m S w v u:=by
 obtain⟨kd,rfl⟩:=Bs hi hk;have Mo:∀(b o n c:Nat),k<n->(Instr.indexAt t (.slice (GW ⟨b,o,GX⟩) n c) (.int kd (k:Int))).run O.P w=.ok (.pointer (GW ⟨b,o+k*sz,GX⟩)) w:=by
  intro b o n c lS;have hr:(0:Int)<=(k:Int)/\(k:Int)<(n:Int):=by lia
  simp[Instr.indexAt,asIntOf,run_underlying hu,pC hz,hr,oD]
  grind
 cases vx<;>simp only[fc,reduceCtorEq] at h
 case aq id o n=>
  obtain⟨p,c,hm,rfl,NQ,SE⟩:=hx
  cases hc:yP k n with
  | false=>rw[hc] at h;cases h
  | true=>
   rw[hc] at h;simp only[yC,yd] at h;subst h;have lS:k<n:=by simp_all
   exact⟨_,Mo _ _ _ _ lS,by simp only[aj];exact⟨p,hm,by rw[tG]⟩⟩
 case ap ex n cs=>
  rcases hx with ⟨b,o,c,rfl,NQ,hex,h2,h3,h4⟩ | ⟨a,rfl,rfl,rfl⟩
  case inr=>
   have:yP k 0=ycO:=by cases hq:yP k 0 with | false=>rfl | true=>simp only[yP,ycI] at hq;lia
   grind
  cases hc:yP k n with
  | false=>rw[hc] at h;cases h
  | true=>
   rw[hc] at h;simp only[yC,yd] at h;subst h;have lS:k<n:=by simp_all
   exact⟨_,Mo _ _ _ _ lS,Uf h2 h3 h4⟩
def asv{t e:yE}{len:Nat}(hu:O.P.underlying t=GW (.array len e))(hz:cC O.P e=GW sz)(hx:aj O.ah m S w vx x)(hi:aj O.ah m S w vi i)(hk:dR vi=GW k)(h:Fp len sz k vx=GW v):∃u,(Instr.indexAt t x i).run O.P w=.ok u w/\aj O.ah m S w v u:=by
 obtain⟨kd,rfl⟩:=Bs hi hk;have Mo:∀(b o:Nat),k<len->(Instr.indexAt t (.pointer (GW ⟨b,o,GX⟩)) (.int kd (k:Int))).run O.P w=.ok (.pointer (GW ⟨b,o+k*sz,GX⟩)) w:=by
  intro b o lS;have hr:(0:Int)<=(k:Int)/\(k:Int)<(len:Int):=by lia
  simp[Instr.indexAt,asIntOf,run_underlying hu,pC hz,hr,oD,Instr.sureAddr]
  grind
 cases vx<;>simp only[Fp,reduceCtorEq] at h
 case ptr id o=>
  obtain⟨p,hm,rfl⟩:=hx
  cases hc:yP k len with
  | false=>rw[hc] at h;cases h
  | true=>
   rw[hc] at h;simp only[yC,yd] at h;subst h;have lS:k<len:=by simp_all
   exact⟨_,Mo _ _ lS,by simp only[aj];exact⟨p,hm,by rw[tG]⟩⟩
 case bN cs=>
  obtain⟨b,o,rfl,h2,h3,h4⟩:=hx
  cases hc:yP k len with
  | false=>rw[hc] at h;cases h
  | true=>
   rw[hc] at h;simp only[yC,yd] at h;subst h;have lS:k<len:=by simp_all
   exact⟨_,Mo _ _ lS,Uf h2 h3 h4⟩
def asw{t e:yE}{len:Nat}(hu:O.P.underlying t=GW (.array len e))(hz:cC O.P e=GW sz)(ha:dD O.P e=GW ag)(hx:aj O.ah m S w vx x)(hi:aj O.ah m S w vi i)(hk:dR vi=GW k)(h:Mj len sz ag k vx=GW v):
  ∃u,(Instr.index t x i).run O.P w=.ok u w/\aj O.ah m S w v u:=by
 obtain⟨kd,rfl⟩:=Bs hi hk;cases vx<;>simp only[Mj,reduceCtorEq] at h
 obtain⟨xs,rfl,hr⟩:=hx
 cases hc:yP k len with
 | false=>rw[hc] at h;cases h
 | true=>
  rw[hc] at h;have lS:k<len:=by simp_all
  have⟨u,h1,h2⟩:=adz hz ha hr h;have bR:(0:Int)<=(k:Int)/\(k:Int)<(len:Int):=by lia
  exact⟨u,by simp[Instr.index,asIntOf,run_underlying hu,pC hz,bR,h1];intro hle;exact absurd hle (by lia),h2⟩
def asx{t:yE}(hu:O.P.underlying t=GW .string)(hx:aj O.ah m S w vx x)(hi:aj O.ah m S w vi i)(hk:dR vi=GW k)(h:oJ k vx=GW v):
  ∃u,(Instr.index t x i).run O.P w=.ok u w/\aj O.ah m S w v u:=by
 obtain⟨kd,rfl⟩:=Bs hi hk;cases vx<;>simp only[oJ,reduceCtorEq] at h
 obtain⟨b,rfl,rfl⟩:=hx
 cases hs:(b.data.toList.map xp)[k]? with
 | none=>rw[hs] at h;cases h
 | some q=>
  rw[hs] at h;simp only[yd] at h;subst h;rw[uU] at hs
  cases hb:b.data.toList[k]? with
  | none=>rw[hb] at hs;cases hs
  | some c=>
   rw[hb] at hs;simp only[wN,yd] at hs;subst hs;have bD:b[k]? =GW c:=by
    have aH:k<b.data.toList.length:=by
     grind
    have eS:k<b.size:=by simp_all
    rw[getElem?_pos b k eS];rw[xf aH] at hb;rw[<-hb];rfl
   refine⟨.int .u8 c.toNat,?_,by simp[aj]⟩;simp[Instr.index,asIntOf,run_underlying hu,bD]
end
end
end
section
open Go
section
variable {ah:Nat->Nat}{m:Mp}{S:Nat->Prop}{w:ym}
def Ug:∀{v:AV} {u:yj},aj ah m S w v u->bY (cellsOf v)=ycN->aB ah m S w (cellsOf v) u.cells.toList:=by
 intro v u h h1;cases v
 case undef=>simp[cellsOf,bY,cY] at h1
 case cL=>simp[cellsOf,bY,cY] at h1
 case fn f a b=>
  cases f with
  | f g=>have h':=h;obtain⟨fi,ca,rfl,_⟩:=h';exact⟨_,_,rfl,h,rfl⟩
  | y l=>have h':=h;obtain⟨p,_,rfl⟩:=h';exact⟨_,_,rfl,h,rfl⟩
 all_goals
  have h':=h;simp only[aj] at h';simp only[cellsOf,Value.cells,aB]
  grind
def Et(v:yj):aB ah m S w (cellsOf (fm v)) v.cells.toList:=by
 have h:=PU (ah:=ah) (m:=m) (S:=S) (w:=w) v;cases v
 case agg xs=>
  obtain⟨xs,e,hr⟩:=h;injection e with e
  subst e;exact hr
 case pointer p=>cases p<;>(simp only[fm] at h ⊢;exact⟨_,_,rfl,h,rfl⟩)
 case map p=>cases p<;>(simp only[fm] at h ⊢;exact⟨_,_,rfl,h,rfl⟩)
 case slice p n c=>
  cases p
  .cases n
   .cases c<;>(simp only[fm] at h ⊢;exact⟨_,_,rfl,h,rfl⟩)
   .simp only [fm] at h ⊢;exact⟨_,_,rfl,h,rfl⟩
  .simp only [fm] at h ⊢;exact⟨_,_,rfl,h,rfl⟩
 all_goals (simp only[fm] at h ⊢;exact⟨_,_,rfl,h,rfl⟩)
def mF:∀{a b:List AV} {x y:List yj},aB ah m S w a x->aB ah m S w b y->aB ah m S w (a++b) (x++y)
 | [],b,x,y,h,k=>by simp only[aB] at h;subst h;simpa using k
 | c::a,b,x,y,h,k=>by
  obtain⟨u,r,rfl,h2,h3⟩:=h;exact⟨u,r++y,rfl,h2,mF h3 k⟩
def KC:∀(k:Nat) {cs:List AV} {us:List yj},aB ah m S w cs us->aB ah m S w (cs.drop k) (us.drop k)
 | 0,cs,us,h=>by simpa using h
 | k+1,[],us,h=>by simp only[aB] at h;subst h;simp[aB]
 | k+1,c::cs,us,h=>by simp only[aB] at h;obtain⟨u,r,rfl,_,h3⟩:=h;simpa using KC k h3
def G2:∀(k:Nat) {cs:List AV} {us:List yj},aB ah m S w cs us->aB ah m S w (cs.take k) (us.take k)
 | 0,cs,us,h=>by simp[aB]
 | k+1,[],us,h=>by simp only[aB] at h;subst h;simp[aB]
 | k+1,c::cs,us,h=>by
  simp only[aB] at h;obtain⟨u,r,rfl,h2,h3⟩:=h;exact⟨u,_,rfl,h2,G2 k h3⟩
def UD:∀{cs:List AV} {us:List yj} {i:Nat} {v:AV},aB ah m S w cs us->cs[i]? =GW v->∃u,us[i]? =GW u/\aj ah m S w v u
 | [],us,i,v,_,h=>by simp at h
 | c::cs,us,0,v,h,e=>by
  simp only[aB] at h;obtain⟨u,r,rfl,h2,h3⟩:=h;simp at e;subst e;exact⟨u,rfl,h2⟩
 | c::cs,us,i+1,v,h,e=>by
  simp only[aB] at h;obtain⟨u,r,rfl,h2,h3⟩:=h;simpa using UD h3 e
end
def abA(off:Nat):∀(new:List yj) (j:Nat) (cells:Array yj),off+j+new.length<=cells.size->
  ((new.zipIdx j).foldl (fun (cs:Array yj) (p:yj×Nat)=>cs.setIfInBounds (off+p.2) p.1) cells).toList=
   cells.toList.take (off+j)++new++cells.toList.drop (off+j+new.length)
 | [],j,cells,_=>by simp
 | v::r,j,cells,h=>by
  simp only[yx] at h;have ih:=abA off r (j+1) (cells.setIfInBounds (off+j) v) (by simp;omega);simp only[List.zipIdx_cons,List.foldl_cons];rw[ih];have aH:off+j<cells.toList.length:=by grind
  have h1:(cells.setIfInBounds (off+j) v).toList=cells.toList.set (off+j) v:=by simp
  rw[h1,show off+(j+1)=off+j+1 by omega];have h2:(cells.toList.set (off+j) v).take (off+j+1)=cells.toList.take (off+j)++[v]:=by
   rw[List.take_succ_eq_append_getElem (by simpa using aH)];simp[List.take_set_of_le]
  have h3:(cells.toList.set (off+j) v).drop (off+j+1+r.length)=cells.toList.drop (off+j+(r.length+1)):=by
   rw[List.drop_set_of_lt (by omega)];congr 1;omega
  grind
section
variable {O:bz}{H:Hint}{m:Mp}{S:Nat->Prop}{w:ym}{tm:Env}{a:Act}
def PW(hH:fH O H)(ht:b7 O m S w tm a.tmps){place:Nat->Option (Nat×Nat)}:∀(parts:List (Nat×xC)) (ps:List (Nat×Nat×X)) (zero cs:List AV) (cells:Array yj),
  partsOf H place parts=GW ps->aB O.ah m S w zero cells.toList->fill tm zero ps=GW cs->
  ∃out,Instr.fill place cells (parts.map fun p=>(p.1,a.eval p.2))=GW out/\aB O.ah m S w cs out.toList
 | [],ps,zero,cs,cells,hp,hz,hf=>by
  simp only[partsOf,yd] at hp;subst hp;simp only[fill,yd] at hf;subst hf;exact⟨cells,rfl,hz⟩
 | (i,x)::r,ps,zero,cs,cells,hp,hz,hf=>by
  simp only[partsOf] at hp
  cases oS:place i with
  | none=>simp[oS] at hp
  | some q=>
   obtain⟨o,s⟩:=q;simp only[oS] at hp
   cases lT:partsOf H place r with
   | none=>simp[lT] at hp
   | some l=>
    simp only[lT,yd] at hp;subst hp;simp only[fill] at hf
    cases hc:(yp (cellsOf (az tm (aK H x))).length s&&yJ (o+s) zero.length&&bY (cellsOf (az tm (aK H x)))) with
    | false=>rw[hc] at hf;cases hf
    | true=>
     rw[hc] at hf;simp only[ye] at hc;have hle:=yu hc.1.2;have hrx:=Ug (b8 hH ht x) hc.2;have jn:=ij _ _ hrx;have jb:=ij _ _ hz;have eS:(a.eval x).cells.size=s:=by simp_all
     have eI:cells.size=zero.length:=by omega
     have awX:=abA o (a.eval x).cells.toList 0 cells (by simp;omega);have ej:aB O.ah m S w (over o (cellsOf (az tm (aK H x))) zero)
       ((a.eval x).cells.zipIdx.foldl (fun (cs:Array yj) (p:yj×Nat)=>cs.setIfInBounds (o+p.2) p.1) cells).toList:=by
      rw[<-Array.foldl_toList,Array.toList_zipIdx,awX];rw[show (a.eval x).cells.toList.length=(cellsOf (az tm (aK H x))).length from jn];exact mF (mF (G2 o hz) hrx) (KC _ hz)
     obtain⟨out,h1,h2⟩:=PW hH ht r l _ cs _ lT ej hf;simp only[xi,Instr.fill,oS,eS]
     grind
end
end
section
open Go
def Uh(p q:ByteArray):(p==q)=cN (nI p) (nI q):=by
 have h:(p==q)=(p.data==q.data):=by cases p;rfl
 rw[h,aby,ByteArray.toList_eq,ByteArray.toList_eq]
 simp_all
def WS:tM->Bool
 | .bool | .int _ | .string=>ycN
 | _=>ycO
def fits(d:tM)(v:AV):Bool:=
 match d,v with
 | .int _,.int _ _ | .string,.str _ | .bool,.bool _=>ycN
 | _,_=>ycO
section
variable {O:bz}{ah:Nat->Nat}{m:Mp}{S:Nat->Prop}{w:ym}
def anV{vk vk':AV}{k k':yj}{r:Bool}{d:tM}(hk:aj ah m S w vk k)(zE:aj ah m S w vk' k')(h:pV vk vk'=GW r)(hd:fits d vk=ycN):Instr.sameNow d k k'=GW r:=by
 unfold pV at h
 split at h
 .rename_i j x j' y;simp only[aj] at hk zE;subst hk;subst zE;by_cases hj:j=j'
  .simp only [hj,xS,yd] at h;subst hj;cases d<;>simp[fits] at hd
   simpa[Instr.sameNow] using h
  .simp [hj] at h
 .simp only [aj] at hk zE;obtain⟨s,rfl,rfl⟩:=hk;obtain⟨s',rfl,rfl⟩:=zE;simp only[yd] at h;cases d<;>simp[fits] at hd
  simp only[Instr.sameNow,Uh];rw[<-h];rfl
 .simp only [aj] at hk zE;subst hk;subst zE;simp only[yd] at h;cases d<;>simp[fits] at hd
  simp[Instr.sameNow,h]
 .cases d<;>simp[fits] at hd
 .cases h
def aj8{P:xy}{kt:yE}{d:tM}(hu:P.underlying kt=GW d)(hd:WS d=ycN)(b:Bool)(k:yj):(Instr.checkKey b 10000 kt k).run P w=.ok () w:=by
 have:∀n,(Instr.checkKey b (n+1) kt k).run P w=.ok () w:=by
  cases d<;>simp[WS] at hd<;>simp[Instr.checkKey,run_underlying hu]
 grind
end
end
section
open Go
def Kr:∀(k1 k2:List Nat) (a b:List AV) (r:Bool),dj (k1++k2) a b=GW r->
  ∃r1 r2,dj k1 (a.take k1.length) (b.take k1.length)=GW r1/\dj k2 (a.drop k1.length) (b.drop k1.length)=GW r2/\r=(r1&&r2)
 | [],k2,a,b,r,h=>⟨ycN,r,by simp[dj],by simpa using h,by simp⟩
 | k::k1,k2,[],b,r,h=>by
  simp only[xh] at h;unfold dj at h
  grind
 | k::k1,k2,x::a,[],r,h=>by
  unfold dj at h
  grind
 | k::k1,k2,x::a,y::b,r,h=>by
  have step:∀(q:Bool) (f:Bool->Bool),(match dj (k1++k2) a b with | some r=>GW (f r) | none=>GX)=GW q->∃r0,dj (k1++k2) a b=GW r0/\q=f r0:=by grind
  unfold dj at h
  split at h
  .grind
  .rename_i e1 e2 e3;obtain⟨rfl,rfl⟩:=e1;obtain⟨rfl,rfl⟩:=e2;obtain⟨rfl,rfl⟩:=e3;obtain⟨r0,h0,rfl⟩:=step r _ h;obtain⟨r1,r2,h1,h2,rfl⟩:=Kr k1 k2 _ _ r0 h0;exact⟨_,r2,by simp only[yx,wI,dj,h1],by simpa using h2,(yas _ _ _).symm⟩
  .rename_i e1 e2 e3;obtain⟨rfl,rfl⟩:=e1;obtain⟨rfl,rfl⟩:=e2;obtain⟨rfl,rfl⟩:=e3
   split at h
   .rename_i hk;obtain⟨r0,h0,rfl⟩:=step r _ h;obtain⟨r1,r2,h1,h2,rfl⟩:=Kr k1 k2 _ _ r0 h0;exact⟨_,r2,by simp only[yx,wI,dj,h1,hk,xS],by simpa using h2,(yas _ _ _).symm⟩
   .cases h
  .rename_i e1 e2 e3;obtain⟨rfl,rfl⟩:=e1;obtain⟨rfl,rfl⟩:=e2;obtain⟨rfl,rfl⟩:=e3;obtain⟨r0,h0,rfl⟩:=step r _ h;obtain⟨r1,r2,h1,h2,rfl⟩:=Kr k1 k2 _ _ r0 h0;exact⟨_,r2,by simp only[yx,wI,dj,h1],by simpa using h2,(yas _ _ _).symm⟩
  .cases h
def aay:∀(ks:List Nat) (a b:List AV) (r:Bool),dj ks a b=GW r->a.length=ks.length/\b.length=ks.length
 | [],a,b,r,h=>by
  unfold dj at h
  grind
 | k::ks,[],b,r,h=>by
  unfold dj at h
  grind
 | k::ks,x::a,[],r,h=>by
  unfold dj at h
  grind
 | k::ks,x::a,y::b,r,h=>by
  have:∃r0,dj ks a b=GW r0:=by
   cases he:dj ks a b with
   | some r0=>exact⟨r0,rfl⟩
   | none=>unfold dj at h;split at h<;>simp_all
  have⟨r0,h0⟩:=this
  have:=aay ks a b r0 h0
  simp[this]
def I3(P:xy)(t:yE)(x:yj)(xs:List yj):Prop:=(dD P t=GW ycN/\x=.agg xs.toArray)\/(dD P t=GW ycO/\xs=[x])
section
variable {P:xy}{ah:Nat->Nat}{m:Mp}{S:Nat->Prop}{w:ym}
def O1{t:yE}{ag:Bool}(ha:dD P t=GW ag):(isAgg t).run P w=.ok ag w:=by
 unfold dD at ha
 cases hu:P.underlying t with
 | none=>simp[hu] at ha
 | some d=>cases d<;>simp_all[isAgg,underlying]
def anW{t:yE}{s o:Nat}{xs:List yj}(hz:cC P t=GW s)(ha:∃ag,dD P t=GW ag)(h1:dD P t=GW ycO->s=1)(hl:o+s<=xs.length):
  ∃u,(part t xs.toArray o).run P w=.ok u w/\I3 P t u ((xs.drop o).take s):=by
 have⟨ag,ha⟩:=ha
 cases ag with
 | true=>
  refine⟨.agg ((xs.drop o).take s).toArray,?_,.inl ⟨ha,rfl⟩⟩;simp[part,O1 ha,pC hz,List.extract_eq_take_drop]
 | false=>
  have hs:=h1 ha;subst hs;have aH:o<xs.length:=by lia
  refine⟨xs[o],?_,.inr ⟨ha,?_⟩⟩
  .simp [part,O1 ha,xf aH]
  .rw [List.drop_eq_getElem_cons aH,wI,yaN]
def abB{n:Nat}{t:yE}{ks:List Nat}(h:kinds P n t=GW ks):∃ag,dD P t=GW ag/\(ag=ycO->ks.length=1):=by
 cases n with
 | zero=>simp[kinds] at h
 | succ n=>
  unfold kinds at h;unfold dD
  split at h<;>simp_all
  all_goals (rw[<-h];rfl)
def V9(P:xy)(ah:Nat->Nat)(m:Mp)(S:Nat->Prop)(w:ym)(n:Nat):Prop:=
 ∀(t:yE) (ks:List Nat),kinds P n t=GW ks->P.stoodInHeld t=ycO->∀(d:Nat),n<=d->∀(xs ys:List yj) (cs ck:List AV) (r:Bool) (x y:yj),
  aB ah m S w cs xs->aB ah m S w ck ys->dj ks cs ck=GW r->I3 P t x xs->I3 P t y ys->(Op.equalIn d t x y).run P w=.ok r w
def abC{n:Nat}(ih:V9 P ah m S w n){t:yE}{ks:List Nat}{s o d:Nat}(hk:kinds P n t=GW ks)(aU:P.stoodInHeld t=ycO)(hz:cC P t=GW s)(hs:ks.length=s)(hd:n<=d){xs ys:List yj}{cs ck:List AV}(h1:aB ah m S w cs xs)(h2:aB ah m S w ck ys){r:Bool}(he:dj ks ((cs.drop o).take s) ((ck.drop o).take s)=GW r):
  ∃u u',(part t xs.toArray o).run P w=.ok u w/\(part t ys.toArray o).run P w=.ok u' w/\(Op.equalIn d t u u').run P w=.ok r w:=by
 have⟨ag,ha,h1s⟩:=abB hk;have⟨l1,l2⟩:=aay _ _ _ _ he;have q1:=ij _ _ h1;have q2:=ij _ _ h2;simp only[yO,xX] at l1 l2;have nn:dD P t=GW ycO->s=1:=fun h=>by
  grind
 have jn:o+s<=xs.length\/s=0:=by lia
 have jb:o+s<=ys.length\/s=0:=by lia
 have get:∀(zs:List yj),(o+s<=zs.length\/s=0)->∃u,(part t zs.toArray o).run P w=.ok u w/\I3 P t u ((zs.drop o).take s):=by
  intro zs hl;rcases hl with hl | hl
  .exact anW hz ⟨ag,ha⟩ nn hl
  .subst hl
   cases ag with
   | false=>have:=nn ha;lia
   | true=>
    refine⟨.agg ((zs.drop o).take 0).toArray,?_,.inl ⟨ha,rfl⟩⟩;simp[part,O1 ha,pC hz]
 have⟨u,p1,v1⟩:=get xs jn;have⟨u',p2,v2⟩:=get ys jb;exact⟨u,u',p1,p2,ih t ks hk aU d hd _ _ _ _ r u u' (G2 s (KC o h1)) (G2 s (KC o h2)) he v1 v2⟩
def aaz{n:Nat}(ih:V9 P ah m S w n){d:Nat}(hd:n<=d){xs ys:List yj}{cs ck:List AV}(h1:aB ah m S w cs xs)(h2:aB ah m S w ck ys):
  ∀(fs:List ub) (o:Nat) (ks:List Nat) (r:Bool),pD P (fun u=>kinds P n u) fs o=GW ks->dj ks (cs.drop o) (ck.drop o)=GW r->(Op.eqFields d xs.toArray ys.toArray fs).run P w=.ok r w
 | [],o,ks,r,h,he=>by
  simp only[pD,yd] at h;unfold dj at he
  split at he<;>simp_all[Op.eqFields]
 | f::fs,o,ks,r,h,he=>by
  simp only[pD] at h
  cases hk:kinds P n f.type with
  | none=>simp[hk] at h
  | some kf=>
   cases hz:cC P f.type with
   | none=>simp[hk,hz] at h
   | some s=>
    simp only[hk,hz] at h
    cases hc:(f.name != "_"&&yp f.offset o&&yp kf.length s&& !P.stoodInHeld f.type) with
    | false=>rw[hc] at h;cases h
    | true=>
     rw[hc] at h;simp only[yC] at h;simp only[ye,bne_iff_ne,vR] at hc;have⟨⟨⟨hn,ho⟩,hl⟩,aU⟩:=hc;have ho:=yh ho;have hl:=yh hl
     cases hr:pD P (fun u=>kinds P n u) fs (o+s) with
     | none=>simp[hr] at h
     | some kr=>
      simp only[hr,yd] at h;subst h;obtain⟨r1,r2,e1,e2,rfl⟩:=Kr _ _ _ _ _ he;rw[hl] at e1 e2;rw[vd,vd] at e2;have⟨u,u',p1,p2,p3⟩:=abC ih (o:=o) hk aU hz hl hd h1 h2 e1;have rest:=aaz ih hd h1 h2 fs (o+s) kr r2 hr e2;subst ho;simp only[Op.eqFields]
      cases r1 with
      | true=>simp[hn,p1,p2,p3,rest]
      | false=>simp[hn,p1,p2,p3]
def aaW{n:Nat}(ih:V9 P ah m S w n){d:Nat}(hd:n<=d){xs ys:List yj}{cs ck:List AV}(h1:aB ah m S w cs xs)(h2:aB ah m S w ck ys){e:yE}{ks:List Nat}{s:Nat}(hk:kinds P n e=GW ks)(aU:P.stoodInHeld e=ycO)(hz:cC P e=GW s)(hl:ks.length=s):
  ∀(k j:Nat) (r:Bool),dj (yD k ks).flatten (cs.drop (j*s)) (ck.drop (j*s))=GW r->(Op.eqItems d e s xs.toArray ys.toArray (List.range' j k)).run P w=.ok r w
 | 0,j,r,he=>by
  unfold dj at he
  split at he<;>simp_all[Op.eqItems]
 | k+1,j,r,he=>by
  obtain⟨r1,r2,e1,e2,rfl⟩:=Kr _ _ _ _ _ he;rw[hl] at e1 e2;rw[vd,vd,show j*s+s=(j+1)*s by rw[wg,ybU]] at e2;have⟨u,u',p1,p2,p3⟩:=abC ih (o:=j*s) hk aU hz hl hd h1 h2 e1;have rest:=aaW ih hd h1 h2 hk aU hz hl k (j+1) r2 e2;rw[List.range'_succ];simp only[Op.eqItems]
  cases r1 with
  | true=>simp[p1,p2,p3,rest]
  | false=>simp[p1,p2,p3]
def Qg:∀(n:Nat) (t:yE) (ks:List Nat),kinds P n t=GW ks->P.stoodInHeld t=ycO->∀(d:Nat),n<=d->∀(xs ys:List yj) (cs ck:List AV) (r:Bool) (x y:yj),
  aB ah m S w cs xs->aB ah m S w ck ys->dj ks cs ck=GW r->I3 P t x xs->I3 P t y ys->(Op.equalIn d t x y).run P w=.ok r w
 | 0,t,ks,h,_,_,_,_,_,_,_,_,_,_,_,_,_,_,_=>by simp[kinds] at h
 | n+1,t,ks,h,aU,0,hd,_,_,_,_,_,_,_,_,_,_,_,_=>by lia
 | n+1,t,ks,h,aU,d+1,hd,xs,ys,cs,ck,r,x,y,h1,h2,he,hx,hy=>by
  unfold kinds at h;have one:∀{k:Nat},ks=[k]->dD P t=GW ycO->∃c c',cs=[c]/\ck=[c']/\aj ah m S w c x/\aj ah m S w c' y:=by
   intro k hk ha;rcases hx with ⟨hx,_⟩ | ⟨_,rfl⟩
   .grind
   rcases hy with ⟨hy,_⟩ | ⟨_,rfl⟩
   .grind
   have l1:=ij _ _ h1;have l2:=ij _ _ h2
   match cs,ck,l1,l2 with
   | [c],[c'],_,_=>
    simp only[aB] at h1 h2
    grind
  split at h
  .rename_i hu;simp only[yd] at h;have ha:dD P t=GW ycO:=by simp[dD,hu]
   obtain⟨c,c',rfl,rfl,r1,r2⟩:=one h.symm ha;subst h;unfold dj at he
   split at he<;>simp_all[dj]
   subst he;simp only[aj] at r1 r2;subst r1;subst r2;simp[Op.equalIn,run_underlying hu]
  .rename_i k0 hu;simp only[yd] at h;have ha:dD P t=GW ycO:=by simp[dD,hu]
   obtain⟨c,c',rfl,rfl,r1,r2⟩:=one h.symm ha;subst h;unfold dj at he
   split at he<;>simp_all[dj]
   have⟨hk,he⟩:=he;subst he;simp only[aj] at r1 r2;subst r1;subst r2;simp[Op.equalIn,run_underlying hu]
  .rename_i hu;simp only[yd] at h;have ha:dD P t=GW ycO:=by simp[dD,hu]
   obtain⟨c,c',rfl,rfl,r1,r2⟩:=one h.symm ha;subst h;unfold dj at he
   split at he<;>simp_all[dj]
   subst he;simp only[aj] at r1 r2;obtain⟨s,rfl,rfl⟩:=r1;obtain⟨s',rfl,rfl⟩:=r2;simp only[Op.equalIn,Sem.run_bind,run_underlying hu,Result.andThen_ok,Sem.run_pure,Uh];rfl
  .rename_i fs hu;have ha:dD P t=GW ycN:=by simp[dD,hu]
   rcases hx with ⟨_,rfl⟩ | ⟨hx,_⟩
   .rcases hy with ⟨_,rfl⟩ | ⟨hy,_⟩
    .have hf:P.fieldsOf t=fs:=by simp[Program.fieldsOf,hu]
     rw[run_equalIn_struct w d t _ _ (by rw[hf];exact hu) aU,hf]
     exact aaz (Qg n) (by lia) h1 h2 fs.toList 0 ks r h (by simpa using he)
    .rw [ha] at hy;cases hy
   .rw [ha] at hx;cases hx
  .rename_i k e hu;have ha:dD P t=GW ycN:=by simp[dD,hu]
   rcases hx with ⟨_,rfl⟩ | ⟨hx,_⟩
   .rcases hy with ⟨_,rfl⟩ | ⟨hy,_⟩
    .cases hk:kinds P n e with
     | none=>simp[hk] at h
     | some ke=>
      cases hz:cC P e with
      | none=>simp[hk,hz] at h
      | some s=>
       simp only[hk,hz] at h
       cases hc:(yp ke.length s&& !P.stoodInHeld e) with
       | false=>rw[hc] at h;cases h
       | true=>
        rw[hc] at h;simp only[yC,yd] at h;subst h;simp only[ye,vR] at hc;have ej:=hz;unfold cC at ej
        cases hi:P.info? e with
        | none=>simp[hi] at ej
        | some i=>
         simp only[hi,yd] at ej;have eI:P.cellsOf e=s:=by simp[Program.cellsOf,hi,ej]
         rw[run_equalIn_array w d _ _ hu hi,eI,List.range_eq_range'];exact aaW (Qg n) (by lia) h1 h2 hk hc.2 hz (yh hc.1) k 0 r (by simpa using he)
    .rw [ha] at hy;cases hy
   .rw [ha] at hx;cases hx
  .cases h
end
end
section
open Go
section
variable {vk:AV}{ks:List Nat}{kk:Nat}{P:xy}{k:yj}
inductive zF(E:yj->Bool->Prop):List wV->Nat->Option (Nat×yj)->Prop
 | nil {i:Nat}:zF E [] i GX
 | hit {e:wV} {es:List wV} {i:Nat}:E e.key ycN->zF E (e::es) i (GW (i,e.val))
 | FH {e:wV} {es:List wV} {i:Nat} {f:Option (Nat×yj)}:E e.key ycO->zF E es (i+1) f->zF E (e::es) i f
def ap9{d:tM}{es:List wV}{i:Nat}{f:Option (Nat×yj)}(h:zF (fun u b=>Instr.sameNow d k u=GW b) es i f):Instr.findNow d k es i=GW f:=by
 induction h with
 | nil=>rfl
 | hit h=>simp[Instr.findNow,h]
 | FH h _ ih=>simp[Instr.findNow,h,ih]
def adD{w:ym}{kt:yE}{es:List wV}{i:Nat}{f:Option (Nat×yj)}(h:zF (fun u b=>(Op.equal kt k u).run P w=.ok b w) es i f):
  (Instr.findAsking kt k es i).run P w=.ok f w:=by
 induction h with
 | nil=>simp[Instr.findAsking]
 | hit h=>simp[Instr.findAsking,h]
 | FH h _ ih=>simp[Instr.findAsking,h,ih]
section
variable {O:bz}{ah:Nat->Nat}{m:Mp}{S:Nat->Prop}{w:ym}
def Found(ah:Nat->Nat)(m:Mp)(S:Nat->Prop)(w:ym)(f:Option (Nat×yj)):Option AV->Prop
 | none=>f=GX
 | some v=>∃j u,f=GW (j,u)/\aj ah m S w v u
def UE{vk:AV}{E:yj->Bool->Prop}(hE:∀c u b,aj ah m S w c u->pV vk c=GW b->E u b):∀(ks vs:List AV) (es:List wV) (i:Nat) (r:Option AV),
  aB ah m S w ks (es.map (·.key))->aB ah m S w vs (es.map (·.val))->Fo vk ks vs=GW r->∃f,zF E es i f/\Found ah m S w f r
 | [],vs,es,i,r,h1,h2,h=>by
  simp only[aB,yaS] at h1;subst h1;simp only[Fo,yd] at h;subst h;exact⟨GX,.nil,rfl⟩
 | c::ks,[],es,i,r,h1,h2,h=>by simp only[Fo] at h;cases h
 | c::ks,v::vs,es,i,r,h1,h2,h=>by
  cases es with
  | nil=>simp[aB] at h1
  | cons e es=>
   simp only[xi,aB,xQ] at h1 h2;obtain⟨u,t,⟨rfl,rfl⟩,hc,sH⟩:=h1;obtain⟨u',t',⟨rfl,rfl⟩,hv,Cc⟩:=h2;simp only[Fo] at h
   cases AR:pV vk c with
   | none=>simp[AR] at h
   | some b=>
    have hs:=hE _ _ _ hc AR
    cases b with
    | true=>
     simp only[AR,yd] at h;subst h;exact⟨_,.hit hs,i,e.val,rfl,hv⟩
    | false=>
     simp only[AR] at h;obtain⟨f,h1,h2⟩:=UE hE ks vs es (i+1) r sH Cc h;exact⟨f,.FH hs h1,h2⟩
def Put(ah:Nat->Nat)(m:Mp)(S:Nat->Prop)(w:ym)(E:yj->Bool->Prop)(k x:yj)(es:List wV)(i:Nat)(lQ eh:List AV):Prop:=
 (zF E es i GX/\aB ah m S w lQ (es.map (·.key)++[k])/\aB ah m S w eh (es.map (·.val)++[x]))\/
 ∃(j:Nat) (e0:wV) (c vk:AV),zF E es i (GW (i+j,e0.val))/\es[j]? =GW e0/\(aj ah m S w vk k/\aj ah m S w c e0.key/\pV vk c=GW ycN)/\aB ah m S w lQ (es.map (·.key))/\aB ah m S w eh ((es.map (·.val)).set j x)
def adE{vk vx:AV}{k x:yj}{E:yj->Bool->Prop}(hE:∀c u b,aj ah m S w c u->pV vk c=GW b->E u b)(hk:aj ah m S w vk k)(hx:aj ah m S w vx x):∀(ks vs:List AV) (es:List wV) (i:Nat) (lQ eh:List AV),
  aB ah m S w ks (es.map (·.key))->aB ah m S w vs (es.map (·.val))->BQ vk vx ks vs=GW (lQ,eh)->Put ah m S w E k x es i lQ eh
 | [],[],es,i,lQ,eh,h1,h2,h=>by
  simp only[aB,yaS] at h1;subst h1;simp only[BQ,yd,yo] at h;obtain⟨rfl,rfl⟩:=h;exact .inl ⟨.nil,by simp[aB,hk],by simp[aB,hx]⟩
 | [],_::_,es,i,lQ,eh,h1,h2,h=>by simp[BQ] at h
 | _::_,[],es,i,lQ,eh,h1,h2,h=>by simp[BQ] at h
 | c::ks,v::vs,es,i,lQ,eh,h1,h2,h=>by
  cases es with
  | nil=>simp[aB] at h1
  | cons e es=>
   simp only[xi,aB,xQ] at h1 h2;obtain⟨u,t,⟨rfl,rfl⟩,hc,sH⟩:=h1;obtain⟨u',t',⟨rfl,rfl⟩,hv,Cc⟩:=h2;simp only[BQ] at h
   cases AR:pV vk c with
   | none=>simp[AR] at h
   | some b=>
    have hs:=hE _ _ _ hc AR
    cases b with
    | true=>
     simp only[AR,yd,yo] at h;obtain⟨rfl,rfl⟩:=h;refine .inr ⟨0,e,c,vk,.hit hs,rfl,⟨hk,hc,AR⟩,?_,?_⟩
     .simp only [xi,aB];exact⟨_,_,rfl,hc,sH⟩
     .simp only [xi,List.set_cons_zero,aB];exact⟨_,_,rfl,hx,Cc⟩
    | false=>
     simp only[AR] at h
     cases hm:BQ vk vx ks vs with
     | none=>simp[hm] at h
     | some q=>
      obtain⟨k1,v1⟩:=q;simp only[hm,yd,yo] at h;obtain⟨rfl,rfl⟩:=h;rcases adE hE hk hx ks vs es (i+1) k1 v1 sH Cc hm with ⟨g1,g2,g3⟩ | ⟨j,e0,c0,vk0,g1,g2,g3,g4,g5⟩
      .refine .inl ⟨.FH hs g1,?_,?_⟩
       .simp only [xi,xh,aB];exact⟨_,_,rfl,hc,g2⟩
       .simp only [xi,xh,aB];exact⟨_,_,rfl,hv,g3⟩
      .refine .inr ⟨j+1,e0,c0,vk0,?_,by simpa using g2,g3,?_,?_⟩
       .rw [show i+(j+1)=i+1+j by omega];exact .FH hs g1
       .simp only [xi,aB];exact⟨_,_,rfl,hc,g4⟩
       .simp only [xi,List.set_cons_succ,aB];exact⟨_,_,rfl,hv,g5⟩
def abD:∀(n:Nat) (a b:List AV) (x y:List yj),dj (yD n 1) a b=GW ycN->aB ah m S w a x->aB ah m S w b y->x=y/\(x.zip x).all (fun (p,q)=>Instr.sameBits 9999 p q)=ycN
 | 0,a,b,x,y,h,hx,hy=>by
  match a,b with
  | [],[]=>simp only[aB] at hx hy;subst hx;subst hy;exact⟨rfl,rfl⟩
  | [],_::_=>simp[dj] at h
  | _::_,[]=>simp[dj] at h
  | _::_,_::_=>simp[dj] at h
 | n+1,a,b,x,y,h,hx,hy=>by
  rw[wT] at h;unfold dj at h
  split at h
  any_goals (cases h;done)
  .simp_all
  .simp_all
  .rename_i ks k p xs k' q ys sH;simp only[xQ,tN] at sH;subst sH;by_cases hk:k=k'
   .subst hk;simp only[xS] at h
    cases hr:dj (yD n 1) xs ys with
    | none=>simp[hr] at h
    | some r=>
     simp only[hr,yd,ye,tS] at h;obtain⟨rfl,rfl⟩:=h;simp only[aB] at hx hy;obtain⟨u,us,rfl,e1,e2⟩:=hx;obtain⟨u',NN,rfl,e1',e2'⟩:=hy;simp only[aj] at e1 e1';subst e1;subst e1';obtain⟨rfl,g⟩:=abD n xs ys us NN hr e2 e2';refine⟨rfl,?_⟩;simp only[List.zip_cons_cons,yae,g,Bool.and_true];simp[Instr.sameBits]
   .simp [hk] at h
  .simp_all
def anX{c:AV}{u:yj}(hk:aj ah m S w vk k)(hc:aj ah m S w c u)(h:pV vk c=GW ycN):k=u/\Instr.sameBits 10000 k k=ycN:=by
 unfold pV at h
 split at h
 .rename_i j x j' y;simp only[aj] at hk hc;subst hk;subst hc;by_cases hj:j=j'
  .simp only [hj,xS,yd,tS] at h;exact⟨by rw[hj,h],by simp[Instr.sameBits]⟩
  .simp [hj] at h
 .simp only [aj] at hk hc;obtain⟨s,rfl,rfl⟩:=hk;obtain⟨s',rfl,rfl⟩:=hc;simp only[yd] at h;have h2:(s==s')=ycN:=by rw[Uh];exact h
  have h3:(s.data==s'.data)=ycN:=by cases s;cases s';exact h2
  rw[tS] at h3;have e:s=s':=by cases s;cases s';simp only at h3;rw[h3]
  subst e;exact⟨rfl,by simp[Instr.sameBits,h2]⟩
 .simp only [aj] at hk hc;subst hk;subst hc;simp only[yd,tS] at h;exact⟨by rw[h],by simp[Instr.sameBits]⟩
 .rename_i a b;simp only[aj] at hk hc;obtain⟨xs,rfl,hx⟩:=hk;obtain⟨ys,rfl,hy⟩:=hc;obtain⟨e,g⟩:=abD _ _ _ _ _ h hx hy;have e':xs=ys:=by cases xs;cases ys;simp only at e;rw[e]
  subst e';refine⟨rfl,?_⟩;simp only[Instr.sameBits,tO,Bool.true_and];exact g
 .cases h
def aaX{kt:yE}(hk:keyOf P kt=GW kk)(h:pI kk vk=ycN):
  (∃d,P.underlying kt=GW d/\WS d=ycN/\fits d vk=ycN)\/
  ∃fs ks cs,P.underlying kt=GW (.struct fs)/\fs.toList.all (fun f=>BR P f.type)=ycN/\P.stoodInHeld kt=ycO/\kinds P 20 kt=GW ks/\ks.length=fs.size/\vk=.agg cs/\cs.length=fs.size:=by
 unfold keyOf at hk
 split at hk
 .rename_i hu;simp only[yd] at hk;subst hk;refine .inl ⟨_,hu,rfl,?_⟩;cases vk<;>simp_all[pI,fits]
 .rename_i hu;simp only[yd] at hk;subst hk;refine .inl ⟨_,hu,rfl,?_⟩;cases vk<;>simp_all[pI,fits]
 .rename_i hu;simp only[yd] at hk;subst hk;refine .inl ⟨_,hu,rfl,?_⟩;cases vk<;>simp_all[pI,fits]
 .rename_i fs hu
  cases hc:(fs.toList.all (fun f=>BR P f.type)&& !P.stoodInHeld kt) with
  | false=>rw[hc] at hk;cases hk
  | true=>
   rw[hc] at hk;simp only[yC] at hk;simp only[ye,vR] at hc
   cases hs:kinds P 20 kt with
   | none=>simp[hs] at hk
   | some ks=>
    simp only[hs] at hk
    cases hl:yp ks.length fs.size with
    | false=>rw[hl] at hk;cases hk
    | true=>
     rw[hl] at hk;simp only[yC,yd] at hk;subst hk;cases vk<;>simp only[pI,yL] at h
     exact .inr ⟨fs,ks,_,hu,hc.1,hc.2,rfl,yh hl,rfl,yh h⟩
 .cases hk
def aan{P:xy}{n:Nat}:∀(fs:List ub) (o:Nat) (ks:List Nat),fs.all (fun f=>BR P f.type)=ycN->pD P (fun u=>kinds P n u) fs o=GW ks->ks=yD fs.length 1
 | [],o,ks,_,h=>by simp only[pD,yd] at h;subst h;rfl
 | f::fs,o,ks,ha,h=>by
  simp only[yae,ye] at ha;simp only[pD] at h
  cases hk:kinds P n f.type with
  | none=>simp[hk] at h
  | some kf=>
   cases hz:cC P f.type with
   | none=>simp[hk,hz] at h
   | some s=>
    simp only[hk,hz] at h
    cases hc:(f.name != "_"&&yp f.offset o&&yp kf.length s&& !P.stoodInHeld f.type) with
    | false=>rw[hc] at h;cases h
    | true=>
     rw[hc] at h;simp only[yC] at h
     cases hr:pD P (fun u=>kinds P n u) fs (o+s) with
     | none=>simp[hr] at h
     | some kr=>
      simp only[hr,yd] at h;subst h;have hkf:kf=[1]:=by
       have hi:=ha.1;unfold BR at hi
       cases n with
       | zero=>simp[kinds] at hk
       | succ n=>
        unfold kinds at hk
        split at hi
        .rename_i hu;simp only[hu,yd] at hk;exact hk.symm
        .cases hi
      rw[hkf,aan fs (o+s) kr ha.2 hr];rfl
def alc{kt:yE}{fs:Array ub}(hu:P.underlying kt=GW (.struct fs))(ha:fs.toList.all (fun f=>BR P f.type)=ycN)(hk:kinds P 20 kt=GW ks):
  ks=yD fs.size 1:=by
 unfold kinds at hk;simp only[hu] at hk
 have:=aan (n:=19) fs.toList 0 ks ha hk
 simpa using this
def akE{b:Bool}{n:Nat}{t:yE}{k:xj}{u:yj}(hu:P.underlying t=GW (.int k)):(Instr.checkKey b (n+1) t u).run P w=.ok () w:=by
 simp[Instr.checkKey,run_underlying hu]
def aao{P:xy}{b:Bool}{q q':Nat}(hq:q=q'+1){cs:Array yj}:∀(fs:List ub) (o n:Nat) (ks:List Nat),fs.all (fun f=>BR P f.type)=ycN->pD P (fun u=>kinds P n u) fs o=GW ks->o+ks.length<=cs.size->
  Sem.run P (forIn fs yaq fun f _=>
      if f.name≠ "_" then do
       let x <-part f.type cs f.offset
       Instr.checkKey b q f.type x
       pure (yaP yaq)
      else pure (yaP yaq)) w=.ok yaq w
 | [],o,n,ks,_,h,_=>by simp
 | f::fs,o,n,ks,ha,h,hl=>by
  simp only[yae,ye] at ha;simp only[pD] at h
  cases hk:kinds P n f.type with
  | none=>simp[hk] at h
  | some kf=>
   cases hz:cC P f.type with
   | none=>simp[hk,hz] at h
   | some s=>
    simp only[hk,hz] at h
    cases hc:(f.name != "_"&&yp f.offset o&&yp kf.length s&& !P.stoodInHeld f.type) with
    | false=>rw[hc] at h;cases h
    | true=>
     rw[hc] at h;simp only[yC] at h;simp only[ye,bne_iff_ne,vR] at hc;obtain⟨⟨⟨hn,ho⟩,hls⟩,aU⟩:=hc;have ho:=yh ho;have hls:=yh hls
     cases hr:pD P (fun u=>kinds P n u) fs (o+s) with
     | none=>simp[hr] at h
     | some kr=>
      simp only[hr,yd] at h;subst h;rw[yM] at hl;have hi:=ha.1;unfold BR at hi
      split at hi
      .rename_i kd hu;obtain⟨ag,AS,h1⟩:=abB hk;have agz:dD P f.type=GW ycO:=by simp[dD,hu]
       have h2:=AS;rw[agz] at h2;injection h2 with h2
       have aH:f.offset<cs.size:=by have:=h1 h2.symm;omega
       have hp:(part f.type cs f.offset).run P w=.ok cs[f.offset] w:=by
        simp[part,O1 agz,Array.getElem?_eq_getElem aH]
       have dO:(Instr.checkKey b q f.type cs[f.offset]).run P w=.ok () w:=by
        rw[hq];exact akE hu
       have rest:=aao (b:=b) hq (cs:=cs) fs (o+s) n kr ha.2 hr (by omega);rw[List.forIn_cons];simp only[hn,ne_eq,ycJ,xS,Sem.run_bind,hp,dO,Result.andThen_ok,Sem.run_pure];simpa only[ne_eq] using rest
      .cases hi
def akf{b:Bool}{q q':Nat}(hq:q=q'+1){kt:yE}{fs:Array ub}{cs:Array yj}(hu:P.underlying kt=GW (.struct fs))(ha:fs.toList.all (fun f=>BR P f.type)=ycN)(hk:kinds P 20 kt=GW ks)(hl:ks.length<=cs.size):(Instr.checkKey b (q+1) kt (.agg cs)).run P w=.ok () w:=by
 unfold kinds at hk;simp only[hu] at hk;have h:=aao (w:=w) (b:=b) hq (cs:=cs) fs.toList 0 19 ks ha hk (by omega);simp only[Instr.checkKey,Sem.run_bind,run_underlying hu,Result.andThen_ok,<-Array.forIn_toList];rw[h]
 simp
def aaA{kt:yE}(hk:keyOf P kt=GW kk)(h:pI kk vk=ycN)(hr:aj ah m S w vk k)(b:Bool):(Instr.checkKey b 10000 kt k).run P w=.ok () w:=by
 rcases aaX hk h with ⟨d,h1,h2,h3⟩ | ⟨fs,ks,cs,hu,ha,aU,sH,hl,rfl,bL⟩
 .exact aj8 h1 h2 b k
 .simp only [aj] at hr;obtain⟨xs,rfl,hx⟩:=hr;have Yw:=ij _ _ hx;rw[vt] at Yw
  exact akf (q:=9999) (q':=9998) rfl hu ha sH (by omega)
def aaY{kt:yE}(hk:keyOf P kt=GW kk)(h:pI kk vk=ycN)(hr:aj ah m S w vk k):
  ∃E:yj->Bool->Prop,(∀c u b,aj ah m S w c u->pV vk c=GW b->E u b)/\∀es f,zF E es 0 f->(Instr.findKey kt k es).run P w=.ok f w:=by
 rcases aaX hk h with ⟨d,h1,h2,h3⟩ | ⟨fs,ks,cs,hu,ha,aU,sH,hl,rfl,bL⟩
 .refine ⟨fun u b=>Instr.sameNow d k u=GW b,fun c u b hc he=>anV hr hc he h3,fun es f hf=>?_⟩;simp[Instr.findKey,run_underlying h1,ap9 hf]
 .refine ⟨fun u b=>(Op.equal kt k u).run P w=.ok b w,fun c u b hc he=>?_,fun es f hf=>?_⟩
  .cases c<;>simp only[pV,reduceCtorEq] at he
   rename_i ck;simp only[aj] at hr hc;obtain⟨xs,rfl,hx⟩:=hr;obtain⟨ys,rfl,hy⟩:=hc;rw[bL,<-alc hu ha sH] at he;have AS:dD P kt=GW ycN:=by simp[dD,hu]
   rw[UB];exact Qg 20 kt ks sH aU 10000 (by omega) _ _ _ _ b _ _ hx hy he (.inl ⟨AS,by simp⟩) (.inl ⟨AS,by simp⟩)
  .simp only [aj] at hr;obtain⟨xs,rfl,hx⟩:=hr
   cases hf with
   | nil=>simp[Instr.findKey,run_underlying hu,Instr.findNow]
   | hit g=>simp[Instr.findKey,run_underlying hu,Instr.findNow,Instr.sameNow,adD (.hit g)]
   | FH g g'=>simp[Instr.findKey,run_underlying hu,Instr.findNow,Instr.sameNow,adD (.FH g g')]
def asy{t kt e:yE}{ok:Bool}{hp:Hp}{ct:Nat}{vx v:AV}{x zero:yj}(hh:aT O m S w hp ct)(hu:O.P.underlying t=GW (.map kt e))(hk:keyOf O.P kt=GW kk)(hdk:pI kk vk=ycN)(hz:(zeroValue e).run O.P w=.ok zero w)(hx:aj O.ah m S w vx x)(hkr:aj O.ah m S w vk k){z:AV}(Yx:aj O.ah m S w z zero){r:Option AV}(hr:Dc hp vk vx=GW r)(hv:(match r with | some u=>(bif ok then AV.av [u,.bool ycN] else u) | none=>(bif ok then AV.av [z,.bool ycO] else z))=v):
  ∃u,(Instr.lookup t x k ok).run O.P w=.ok u w/\aj O.ah m S w v u:=by
 have fin:∀(u:AV) (uu:yj) (b:Bool),aj O.ah m S w u uu->aj O.ah m S w (bif ok then AV.av [u,.bool b] else u) (if ok then .tuple #[uu,.bool b] else uu):=by
  intro u uu b h
  cases ok with
  | true=>simp only[yC,xS,aj,aB];exact⟨_,rfl,_,_,rfl,h,_,_,rfl,rfl,rfl⟩
  | false=>simpa using h
 have dO:=fun b:Bool=>aaA (P:=O.P) (w:=w) hk hdk hkr b
 obtain⟨E,hE,hF⟩:=aaY (P:=O.P) hk hdk hkr;have body:∀(x':yj) (es:Array wV),((x'=.map GX/\es=#[])\/∃b clock,x'=.map (GW b)/\w.heap[b]? =GW (.map es clock))->(∃f,zF E es.toList 0 f/\Found O.ah m S w f r)->
   ∃u,(Instr.lookup t x' k ok).run O.P w=.ok u w/\aj O.ah m S w v u:=by
  rintro x' es hl ⟨f,hf,iN⟩;have dY:=hF _ _ hf
  cases r with
  | none=>
   have AT:f=GX:=iN;subst AT;refine⟨if ok then .tuple #[zero,.bool ycO] else zero,?_,by rw[<-hv];exact fin z zero ycO Yx⟩
   rcases hl with ⟨rfl,rfl⟩ | ⟨b,clock,rfl,hb⟩
   .have Fw:(Instr.findKey kt k []).run O.P w=.ok GX w:=dY;simp[Instr.lookup,run_underlying hu,dO,Fw,hz]
   .simp [Instr.lookup,run_underlying hu,getObj,Sem.run,hb];rw[dO];simp[dY,hz]
  | some v'=>
   obtain⟨j,u,rfl,h2⟩:=iN;refine⟨if ok then .tuple #[u,.bool ycN] else u,?_,by rw[<-hv];exact fin v' u ycN h2⟩
   rcases hl with ⟨rfl,rfl⟩ | ⟨b,clock,rfl,hb⟩
   .cases hf
   .simp [Instr.lookup,run_underlying hu,getObj,Sem.run,hb];rw[dO];simp[dY]
 cases vx<;>simp only[Dc,reduceCtorEq] at hr
 case lK=>
  simp only[yd] at hr;subst hr;simp only[aj] at hx;subst hx;exact body _ #[] (.inl ⟨rfl,rfl⟩) ⟨GX,.nil,rfl⟩
 case map id=>
  simp only[aj] at hx;obtain⟨p,hm,rfl⟩:=hx
  split at hr
  case h_2=>cases hr
  rename_i Yv ks vs Fv;obtain⟨p',es,clock,hJ,hb,h1,h2,_⟩:=hh.obj id _ _ Fv hm;rw[hm] at hJ;injection hJ with hJ;subst hJ
  exact body _ es (.inr ⟨_,_,rfl,hb⟩) (UE hE ks vs es.toList 0 r h1 h2 hr)
 case lL ks vs=>
  simp only[aj] at hx;obtain⟨b,es,clock,rfl,_,_,_,hb,h1,h2⟩:=hx;exact body _ es (.inr ⟨_,_,rfl,hb⟩) (UE hE ks vs es.toList 0 r h1 h2 hr)
end
end
end
section
open Go
def dC{tm:Env}{hp:Hp}{v:AV}(h:bg tm hp bad=GW v):False:=by simp[bad,bg] at h
section
variable {O:bz}{H:Hint}{m:Mp}{S:Nat->Prop}{w:ym}{tm:Env}{a:Act}{hp:Hp}{ct:Nat}
def aqa{ah:Nat->Nat}{va vb v:AV}{x y:yj}(hx:aj ah m S w va x)(hy:aj ah m S w vb y)(h:VE.min2 va vb=GW v):∃u,(Builtin.min2 x y).run O.P w=.ok u w/\aj ah m S w v u:=by
 unfold VE.min2 at h
 split at h
 .simp only [aj] at hx hy;subst hx;subst hy;simp only[yd] at h;subst h;exact⟨_,by simp only[Builtin.min2,Sem.run_pure];rfl,by simp only[aj]⟩
 .rename_i k p k' q;subst hx;subst hy
  cases ho:k.format.order p q with
  | none=>simp[ho] at h
  | some c=>cases c<;>(simp only[ho,yd] at h;subst h;exact⟨_,by simp only[Builtin.min2,ho,Sem.run_pure];rfl,by simp only[aj]⟩)
 .cases h
def aqb{ah:Nat->Nat}{va vb v:AV}{x y:yj}(hx:aj ah m S w va x)(hy:aj ah m S w vb y)(h:VE.max2 va vb=GW v):∃u,(Builtin.max2 x y).run O.P w=.ok u w/\aj ah m S w v u:=by
 unfold VE.max2 at h
 split at h
 .simp only [aj] at hx hy;subst hx;subst hy;simp only[yd] at h;subst h;exact⟨_,by simp only[Builtin.max2,Sem.run_pure];rfl,by simp only[aj]⟩
 .rename_i k p k' q;subst hx;subst hy
  cases ho:k.format.order p q with
  | none=>simp[ho] at h
  | some c=>cases c<;>(simp only[ho,yd] at h;subst h;exact⟨_,by simp only[Builtin.max2,ho,Sem.run_pure];rfl,by simp only[aj]⟩)
 .cases h
def Va{ah:Nat->Nat}{f:AV->AV->Option AV}{g:yj->yj->Sem yj}(hfg:∀va vb v x y,aj ah m S w va x->aj ah m S w vb y->f va vb=GW v->∃u,(g x y).run O.P w=.ok u w/\aj ah m S w v u):
  ∀(l:List AV) (us:List yj) (va v:AV) (x:yj),aj ah m S w va x->aB ah m S w l us->Db f va l=GW v->∃u,(us.foldlM g x).run O.P w=.ok u w/\aj ah m S w v u
 | [],us,va,v,x,hx,hl,h=>by
  simp only[aB] at hl;simp only[Db,yd] at h
  simp_all
 | b::l,us,va,v,x,hx,hl,h=>by
  obtain⟨u,r,rfl,hu,hr⟩:=hl;simp only[Db] at h
  cases hf:f va b with
  | none=>simp[hf] at h
  | some c=>
   simp only[hf] at h;obtain⟨u1,h1,h2⟩:=hfg _ _ _ _ _ hx hu hf;obtain⟨u2,h3,h4⟩:=Va hfg l r c v u1 h2 hr h
   simp_all
def Vz{t:yE}{vx v:AV}{x:yj}{ty:yE}(hh:aT O m S w hp ct)(hx:aj O.ah m S w vx x){k:Nat}(hu:(k=0/\O.P.underlying t=GW .string)\/(k=1/\∃e,O.P.underlying t=GW (.slice e))\/(k=2/\∃kt e,O.P.underlying t=GW (.map kt e)))(h:iW hp k vx=GW v):∃u,(Builtin.len_ #[t] ty #[x]).run O.P w=.ok u w/\aj O.ah m S w v u:=by
 rcases hu with ⟨rfl,hu⟩ | ⟨rfl,e,hu⟩ | ⟨rfl,kt,e,hu⟩
 all_goals cases vx<;>simp only[iW,reduceCtorEq] at h
 case inl.str s=>
  simp only[aj] at hx;obtain⟨b,rfl,rfl⟩:=hx;simp only[yd] at h;subst h;refine⟨_,by simp[Builtin.len_,run_underlying hu];rfl,?_⟩
  simp only[aj,goInt]
  simp_all
 case inr.inl.ab=>
  simp only[aj] at hx;subst hx;simp only[yd] at h;subst h;exact⟨_,by simp[Builtin.len_,run_underlying hu];rfl,by simp[aj,goInt]⟩
 case inr.inl.ap ex n cs=>
  simp only[aj] at hx;rcases hx with ⟨b,o,c,rfl,_⟩ | ⟨a,rfl,rfl,rfl⟩
  all_goals
   simp only[yd] at h;subst h;exact⟨_,by simp[Builtin.len_,run_underlying hu];rfl,by simp[aj,goInt]⟩
 case inr.inl.aq id o n=>
  simp only[aj] at hx;obtain⟨p,c,_,rfl,_⟩:=hx;simp only[yd] at h;subst h;exact⟨_,by simp[Builtin.len_,run_underlying hu];rfl,by simp[aj,goInt]⟩
 case inr.inr.lK=>
  simp only[aj] at hx;subst hx;simp only[yd] at h;subst h;exact⟨_,by simp[Builtin.len_,run_underlying hu];rfl,by simp[aj,goInt]⟩
 case inr.inr.lL ks vs=>
  simp only[aj] at hx;obtain⟨b,es,clock,rfl,_,_,_,hb,h1,_⟩:=hx;simp only[yd] at h;subst h;refine⟨_,by simp[Builtin.len_,run_underlying hu,getObj,Sem.run,hb];rfl,?_⟩
  have:=ij _ _ h1
  simp only[aj,goInt];rw[<-this];simp
 case inr.inr.map id=>
  simp only[aj] at hx;obtain⟨p,hm,rfl⟩:=hx
  split at h
  case h_2=>cases h
  rename_i Yv ks vs Fv;simp only[yd] at h;subst h;obtain⟨p',es,clock,hJ,hb,h1,_⟩:=hh.obj id _ _ Fv hm;rw[hm] at hJ;injection hJ with hJ;subst hJ
  refine⟨_,by simp[Builtin.len_,run_underlying hu,getObj,Sem.run,hb];rfl,?_⟩
  have:=ij _ _ h1
  simp only[aj,goInt];rw[<-this];simp
end
end
section
open Go
section
variable {O:bz}{H:Hint}{m:Mp}{S:Nat->Prop}{w:ym}{tm:Env}{a:Act}{hp:Hp}{ct:Nat}
def Hc{t:yE}{z:AV}(h:mP O.P t=GW z):∃v,(zeroValue t).run O.P w=.ok v w/\z=fm v:=by
 unfold mP at h
 cases hi:O.P.info? t with
 | none=>simp[hi] at h
 | some i=>
  simp only[hi] at h
  cases hz:i.zero with
  | none=>simp[hz] at h
  | some v=>
   simp only[hz,yd] at h;exact⟨v,by simp[zeroValue,typeInfo,hi,hz],h.symm⟩
def Reads(O:bz)(m:Mp)(S:Nat->Prop)(w:ym)(a:Act)(o:yV)(v:AV):Prop:=
 ∃u,(execOp a.eval o).run O.P w=.ok (.value u) w/\aj O.ah m S w v u
def kK{o:yV}{v:AV}{s:Sem yj}(he:execOp a.eval o=(do pure (.value (<-s)):Sem yaE))(h:∃u,s.run O.P w=.ok u w/\aj O.ah m S w v u):Reads O m S w a o v:=by
 have⟨u,h1,h2⟩:=h;exact⟨u,by rw[he];simp[h1],h2⟩
def anY{o:yV}{op:wU}{t ty:yE}{x y:xC}{k:Nat}{v:AV}(hH:fH O H)(ht:b7 O m S w tm a.tmps)(ho:o.op=.binOp op t x y ty)(hv:bg tm hp (aP O.P H k o)=GW v):Reads O m S w a o v:=by
 have rx:=b8 hH ht x;have ry:=b8 hH ht y;have guard:∀{u:yj},(∀xs ys,¬(a.eval x=.agg xs/\a.eval y=.agg ys))\/O.P.eqGuardType O.P.depth t=ycO->a.eval x≠.nilIface->(wo op t (a.eval x) (a.eval y)).run O.P w=.ok u w->
   (do eqGuard op t x y (a.eval x) (a.eval y);wo op t (a.eval x) (a.eval y):Sem yj).run O.P w=.ok u w:=by
  intro u h1 h2 h3
  simp only[Sem.run_bind,alb (P:=O.P) (w:=w) (t:=t) (op:=op) (x:=x) (y:=y) (h1.symm) h2,Result.andThen_ok,h3]
 have plain:bg tm hp (.bin op (aK H x) (aK H y))=GW v->Reads O m S w a o v:=by
  intro hv;simp only[bg] at hv;obtain⟨u,h1,h2⟩:=anR (P:=O.P) (t:=t) rx ry hv
  refine kK (s:=do eqGuard op t x y (a.eval x) (a.eval y);wo op t (a.eval x) (a.eval y)) (by simp only[execOp,ho]) ⟨u,guard (.inl ?_) ?_ h1,h2⟩
  .rintro xs ys ⟨e1,e2⟩;rw[e1] at rx;unfold VE.binOp at hv
   split at hv
   .rename_i h3 _;rw[h3] at rx;simp[aj] at rx
   .rename_i h3 _;rw[h3] at rx;simp[aj] at rx
   .rename_i h3 _;rw[h3] at rx;simp[aj] at rx
   .rename_i h3 _;rw[h3] at rx;simp[aj] at rx
   .cases hv
  .intro e1;rw[e1] at rx;unfold VE.binOp at hv
   split at hv
   .rename_i h3 _;rw[h3] at rx;simp[aj] at rx
   .rename_i h3 _;rw[h3] at rx;simp[aj] at rx
   .rename_i h3 _;rw[h3] at rx;simp[aj] at rx
   .rename_i h3 _;rw[h3] at rx;simp[aj] at rx
   .cases hv
 have other:∀(ne:Bool) (kd:VE.SB),(op=.eql/\ne=ycO\/op=.neq/\ne=ycN)->(∀r,jK kd (az tm (aK H x)) (az tm (aK H y))=GW r->(Op.equal t (a.eval x) (a.eval y)).run O.P w=.ok r w/\
    ((∀xs ys,¬(a.eval x=.agg xs/\a.eval y=.agg ys))\/O.P.eqGuardType O.P.depth t=ycO)/\a.eval x≠.nilIface/\
    ∀q:Bool,(op=.eql->wo op t (a.eval x) (a.eval y)=(do pure (.bool (<-Op.equal t (a.eval x) (a.eval y)))))/\(op=.neq->wo op t (a.eval x) (a.eval y)=(do pure (.bool (!(<-Op.equal t (a.eval x) (a.eval y)))))))->
   bg tm hp (.eq ne kd (aK H x) (aK H y))=GW v->Reads O m S w a o v:=by
  intro ne kd iy mu hv;simp only[bg] at hv
  cases he:jK kd (az tm (aK H x)) (az tm (aK H y)) with
  | none=>simp[he] at hv
  | some r=>
   simp only[he,yd] at hv;subst hv;obtain⟨h1,h2,h3,h4⟩:=mu r he;obtain⟨h5,h6⟩:=h4 ycN
   refine kK (s:=do eqGuard op t x y (a.eval x) (a.eval y);wo op t (a.eval x) (a.eval y)) (by simp only[execOp,ho]) ⟨.bool (ne !=r),guard h2 h3 ?_,by simp[aj]⟩
   rcases iy with ⟨rfl,rfl⟩ | ⟨rfl,rfl⟩
   .rw [h5 rfl];simp[h1]
   .rw [h6 rfl];simp[h1]
 have pB:O.P.underlying t=GW .bool->∀r,jK .b (az tm (aK H x)) (az tm (aK H y))=GW r->∃p q,a.eval x=.bool p/\a.eval y=.bool q/\(Op.equal t (a.eval x) (a.eval y)).run O.P w=.ok r w:=by
  intro hu r he;cases hx:az tm (aK H x)<;>cases hy:az tm (aK H y)<;>rw[hx,hy] at he<;>simp only[jK,reduceCtorEq] at he
  rw[hx] at rx;rw[hy] at ry;simp only[aj] at rx ry;simp only[yd] at he;refine⟨_,_,rx,ry,?_⟩;rw[rx,ry,UB,<-he];exact asr hu
 have pS:∀e,O.P.underlying t=GW (.slice e)->∀r,jK .sl (az tm (aK H x)) (az tm (aK H y))=GW r->∃p n c q n' c',a.eval x=.slice p n c/\a.eval y=.slice q n' c'/\(Op.equal t (a.eval x) (a.eval y)).run O.P w=.ok r w:=by
  intro e hu r he;have h1:=ap6 hu rx ry he;have sl:∀{v:AV} {u:yj},aj O.ah m S w v u->(v=.ab\/(∃a b c,v=.ap a b c)\/∃a b c,v=.aq a b c)->∃p n c,u=.slice p n c:=by
   intro v u hr hv;rcases hv with rfl | ⟨_,_,_,rfl⟩ | ⟨_,_,_,rfl⟩
   .simp only [aj] at hr;exact⟨_,_,_,hr⟩
   .simp only [aj] at hr;rcases hr with ⟨b,o,c,hr,_⟩ | ⟨_,hr,_⟩<;>exact⟨_,_,_,hr⟩
   .simp only [aj] at hr;obtain⟨b,c,_,hr,_⟩:=hr;exact⟨_,_,_,hr⟩
  have de:(az tm (aK H x)=.ab\/(∃a b c,az tm (aK H x)=.ap a b c)\/∃a b c,az tm (aK H x)=.aq a b c)/\
    (az tm (aK H y)=.ab\/(∃a b c,az tm (aK H y)=.ap a b c)\/∃a b c,az tm (aK H y)=.aq a b c):=by
   cases hx:az tm (aK H x)<;>cases hy:az tm (aK H y)<;>rw[hx,hy] at he<;>simp[jK] at he ⊢
  obtain⟨p,n,c,e1⟩:=sl rx de.1;obtain⟨q,n',c',e2⟩:=sl ry de.2;exact⟨p,n,c,q,n',c',e1,e2,h1⟩
 have pF:∀ps rs vr,O.P.underlying t=GW (.func ps rs vr)->∀r,jK .fn (az tm (aK H x)) (az tm (aK H y))=GW r->
   ((a.eval x=.nilFunc\/∃f p q,a.eval x=.func f p q)/\(a.eval y=.nilFunc\/∃f p q,a.eval y=.func f p q))/\(Op.equal t (a.eval x) (a.eval y)).run O.P w=.ok r w:=by
  intro ps rs vr hu r he;have h1:=ap7 hu rx ry he;have sl:∀{v:AV} {u:yj},aj O.ah m S w v u->(v=.jH\/(∃a b c,v=.fn a b c))->(u=.nilFunc\/∃f p q,u=.func f p q):=by
   intro v u hr hv;rcases hv with rfl | ⟨f,_,_,rfl⟩
   .simp only [aj] at hr;exact .inl hr
   .cases f with
    | f g=>simp only[aj] at hr;obtain⟨b,c,hr,_⟩:=hr;exact .inr ⟨_,_,_,hr⟩
    | y l=>simp only[aj] at hr;obtain⟨b,_,hr⟩:=hr;exact .inr ⟨_,_,_,hr⟩
  have de:(az tm (aK H x)=.jH\/(∃a b c,az tm (aK H x)=.fn a b c))/\(az tm (aK H y)=.jH\/(∃a b c,az tm (aK H y)=.fn a b c)):=by
   cases hx:az tm (aK H x)<;>cases hy:az tm (aK H y)<;>rw[hx,hy] at he<;>simp[jK] at he ⊢
  exact⟨⟨sl rx de.1,sl ry de.2⟩,h1⟩
 have pA:∀ks,kinds O.P 20 t=GW ks->dD O.P t=GW ycN->O.P.stoodInHeld t=ycO->∀r,jK (.ag ks) (az tm (aK H x)) (az tm (aK H y))=GW r->∃p q,a.eval x=.agg p/\a.eval y=.agg q/\(Op.equal t (a.eval x) (a.eval y)).run O.P w=.ok r w:=by
  intro ks hk ha aU r he;cases hx:az tm (aK H x)<;>cases hy:az tm (aK H y)<;>rw[hx,hy] at he<;>simp only[jK,reduceCtorEq] at he
  rw[hx] at rx;rw[hy] at ry;simp only[aj] at rx ry;obtain⟨p,e1,h1⟩:=rx;obtain⟨q,e2,h2⟩:=ry;refine⟨p,q,e1,e2,?_⟩;rw[e1,e2,UB];exact Qg 20 t ks hk aU 10000 (by omega) _ _ _ _ r _ _ h1 h2 he (.inl ⟨ha,by simp⟩) (.inl ⟨ha,by simp⟩)
 have eqs:∀(ne:Bool),(op=.eql/\ne=ycO\/op=.neq/\ne=ycN)->bg tm hp (oC O.P H ne op t x y)=GW v->Reads O m S w a o v:=by
  intro ne iy hv;have agg:dD O.P t=GW ycN->bg tm hp (pL O.P H ne t x y)=GW v->Reads O m S w a o v:=by
   intro ha hv;unfold pL at hv
   cases hk:kinds O.P 20 t with
   | none=>rw[hk] at hv;exact (dC hv).elim
   | some ks=>
    simp only[hk] at hv
    cases hc:(O.P.stoodInHeld t||O.P.eqGuardType O.P.depth t) with
    | true=>rw[hc] at hv;exact (dC hv).elim
    | false=>
     rw[hc] at hv;simp only[yX] at hv;simp only[Bool.or_eq_false_iff] at hc;refine other ne (.ag ks) iy (fun r hr=>?_) hv;obtain⟨p,q,e1,e2,h1⟩:=pA ks hk ha hc.1 r hr;refine⟨h1,.inr hc.2,by rw[e1];simp,fun _=>?_⟩
     rw[e1,e2];exact⟨fun e=>by subst e;rfl,fun e=>by subst e;rfl⟩
  unfold oC at hv
  split at hv
  .exact plain hv
  .exact plain hv
  .exact plain hv
  .exact plain hv
  .rename_i hu;refine other ne .b iy (fun r hr=>?_) hv;obtain⟨p,q,e1,e2,h1⟩:=pB hu r hr;refine⟨h1,.inl (by rw[e1];simp),by rw[e1];simp,fun _=>?_⟩
   rw[e1,e2];exact⟨fun e=>by subst e;rfl,fun e=>by subst e;rfl⟩
  .rename_i e hu;refine other ne .sl iy (fun r hr=>?_) hv;obtain⟨p,n,c,q,n',c',e1,e2,h1⟩:=pS e hu r hr;refine⟨h1,.inl (by rw[e1];simp),by rw[e1];simp,fun _=>?_⟩
   rw[e1,e2];exact⟨fun e=>by subst e;rfl,fun e=>by subst e;rfl⟩
  .rename_i ps rs vr hu;refine other ne .fn iy (fun r hr=>?_) hv;obtain⟨⟨e1,e2⟩,h1⟩:=pF ps rs vr hu r hr;refine⟨h1,.inl ?_,?_,fun _=>?_⟩
   .rcases e1 with e1 | ⟨_,_,_,e1⟩<;>rw[e1]<;>simp
   .rcases e1 with e1 | ⟨_,_,_,e1⟩<;>rw[e1]<;>simp
   .rcases e1 with e1 | ⟨_,_,_,e1⟩<;>rcases e2 with e2 | ⟨_,_,_,e2⟩<;>rw[e1,e2]<;>exact⟨fun e=>by subst e;rfl,fun e=>by subst e;rfl⟩
  .rename_i fs hu;exact agg (by simp[dD,hu]) hv
  .rename_i k0 e hu;exact agg (by simp[dD,hu]) hv
  .exact (dC hv).elim
 cases op
 case eql=>exact eqs ycO (.inl ⟨rfl,rfl⟩) (by simpa only[aP,ho] using hv)
 case neq=>exact eqs ycN (.inr ⟨rfl,rfl⟩) (by simpa only[aP,ho] using hv)
 all_goals exact plain (by simpa only[aP,ho] using hv)
end
end
section
open Go
section
variable {O:bz}{H:Hint}{m:Mp}{S:Nat->Prop}{w:ym}{tm:Env}{a:Act}{hp:Hp}{ct:Nat}
def Bk{o:yV}{b:Builtin}{args:Array xC}{ts:Array yE}(ho:o.op=.call {callee:=.builtin b,args:=args,argTypes:=ts}):
  ∃cs,(execOp a.eval o).run O.P w=(builtin b ts o.type cs (args.map a.eval)).run O.P w:=by
 exact⟨_,by simp only[execOp,ho,resolve,Sem.run_bind,Sem.run_pure,Result.andThen_ok,invoke];rfl⟩
def al8{o:yV}{c:Call}{k:Nat}{v:AV}(hH:fH O H)(ht:b7 O m S w tm a.tmps)(hh:aT O m S w hp ct)(ho:o.op=.call c)(hv:bg tm hp (aP O.P H k o)=GW v):Reads O m S w a o v:=by
 obtain⟨callee,args,ts⟩:=c;simp only[aP,ho] at hv
 split at hv
 .cases DN:H.mode k<;>simp[DN,bg] at hv
 .rename_i _ b
  split at hv
  .have key:∀{bb:Bool} {sz bX:Nat} {x y:X},bg tm hp (bif bb then .c9 sz bX x y else bad)=GW v->False:=by
    intro bb sz bX x y h
    cases bb
    .exact dC h
    .simp [bg] at h
   split at hv
   .split at hv
    .exact (key hv).elim
    .exact (dC hv).elim
   .split at hv
    .exact (key hv).elim
    .exact (dC hv).elim
   .exact (dC hv).elim
  .rename_i x t eQ n7;obtain⟨al⟩:=args;obtain⟨tl⟩:=ts;simp only at eQ n7;subst eQ;subst n7;obtain⟨cs,dY⟩:=Bk (O:=O) (w:=w) (a:=a) ho;have fin:(∃u,(Builtin.len_ #[t] o.type #[a.eval x]).run O.P w=.ok u w/\aj O.ah m S w v u)->Reads O m S w a o v:=by
    rintro⟨u,h1,h2⟩;refine⟨u,?_,h2⟩;rw[dY];simp[builtin,h1]
   split at hv
   .rename_i n e hu;simp only[bg,az,yd] at hv;subst hv;exact fin ⟨_,by simp[Builtin.len_,run_underlying hu];rfl,by simp[aj,goInt]⟩
   .rename_i hu;simp only[bg] at hv;exact fin (Vz hh (b8 hH ht x) (.inl ⟨rfl,hu⟩) hv)
   .rename_i e hu;simp only[bg] at hv;exact fin (Vz hh (b8 hH ht x) (.inr (.inl ⟨rfl,e,hu⟩)) hv)
   .rename_i kt e hu;simp only[bg] at hv;exact fin (Vz hh (b8 hH ht x) (.inr (.inr ⟨rfl,kt,e,hu⟩)) hv)
   .exact (dC hv).elim
  .split at hv
   .split at hv
    .simp [bg] at hv
    .exact (dC hv).elim
   .exact (dC hv).elim
  .simp only [bg] at hv;obtain⟨cs,dY⟩:=Bk (O:=O) (w:=w) (a:=a) ho;have hl:=EQ hH ht args.toList
   cases hx:dL tm (iK H args.toList) with
   | nil=>simp[hx] at hv
   | cons c r=>
    simp only[hx] at hv;rw[hx] at hl;simp only[aB] at hl;obtain⟨u,us,h1,h2,h3⟩:=hl;obtain⟨q,h4,h5⟩:=Va (O:=O) (g:=Builtin.min2) (fun va vb v x y hx hy h=>aqa hx hy h) r us c v u h2 h3 hv;refine⟨q,?_,h5⟩;rw[dY];simp[builtin,Builtin.min_,h1,h4]
  .simp only [bg] at hv;obtain⟨cs,dY⟩:=Bk (O:=O) (w:=w) (a:=a) ho;have hl:=EQ hH ht args.toList
   cases hx:dL tm (iK H args.toList) with
   | nil=>simp[hx] at hv
   | cons c r=>
    simp only[hx] at hv;rw[hx] at hl;simp only[aB] at hl;obtain⟨u,us,h1,h2,h3⟩:=hl;obtain⟨q,h4,h5⟩:=Va (O:=O) (g:=Builtin.max2) (fun va vb v x y hx hy h=>aqb hx hy h) r us c v u h2 h3 hv;refine⟨q,?_,h5⟩;rw[dY];simp[builtin,Builtin.max_,h1,h4]
  .rename_i ts' x eQ;obtain⟨al⟩:=args;simp only at eQ;subst eQ;obtain⟨cs,dY⟩:=Bk (O:=O) (w:=w) (a:=a) ho;simp only[bg] at hv;have rx:=b8 hH ht x;cases hx:az tm (aK H x)<;>rw[hx] at hv rx<;>simp only[kC,reduceCtorEq,yd] at hv
   rename_i k0 p0 q0;subst hv;simp only[aj] at rx;have e1:(#[x]:Array xC).map a.eval=#[Value.complex k0 p0 q0]:=by simp[rx]
   have e2:Builtin.real_ ts o.type #[Value.complex k0 p0 q0]=pure (.float k0 p0):=rfl;exact⟨.float k0 p0,by rw[dY,e1];simp[builtin,e2],by simp[aj]⟩
  .rename_i ts' x eQ;obtain⟨al⟩:=args;simp only at eQ;subst eQ;obtain⟨cs,dY⟩:=Bk (O:=O) (w:=w) (a:=a) ho;simp only[bg] at hv;have rx:=b8 hH ht x;cases hx:az tm (aK H x)<;>rw[hx] at hv rx<;>simp only[kC,reduceCtorEq,yd] at hv
   rename_i k0 p0 q0;subst hv;simp only[aj] at rx;have e1:(#[x]:Array xC).map a.eval=#[Value.complex k0 p0 q0]:=by simp[rx]
   have e2:Builtin.imag_ ts o.type #[Value.complex k0 p0 q0]=pure (.float k0 q0):=rfl;exact⟨.float k0 q0,by rw[dY,e1];simp[builtin,e2],by simp[aj]⟩
  .rename_i ts' x y eQ;obtain⟨al⟩:=args;simp only at eQ;subst eQ;obtain⟨cs,dY⟩:=Bk (O:=O) (w:=w) (a:=a) ho;simp only[bg] at hv;have rx:=b8 hH ht x;have ry:=b8 hH ht y;cases hx:az tm (aK H x)<;>cases hy:az tm (aK H y)<;>rw[hx] at hv rx<;>rw[hy] at hv ry<;>simp only[Qz,reduceCtorEq] at hv
   rename_i k1 a1 k2 b1;simp only[aj] at rx ry;by_cases hk:k1=k2
   .subst hk;simp only[xS,yd] at hv;subst hv;have e1:(#[x,y]:Array xC).map a.eval=#[Value.float k1 a1,Value.float k1 b1]:=by simp[rx,ry]
    have e2:Builtin.complex_ ts o.type #[Value.float k1 a1,Value.float k1 b1]=pure (.complex k1 a1 b1):=by
     show (if k1=k1 then _ else _)=_
     simp
    exact⟨.complex k1 a1 b1,by rw[dY,e1];simp[builtin,e2],by simp[aj]⟩
   .simp [hk] at hv
  .exact (dC hv).elim
 .exact (dC hv).elim
def adF{o:yV}{k:Nat}{v:AV}(hH:fH O H)(ht:b7 O m S w tm a.tmps)(hh:aT O m S w hp ct)(hv:bg tm hp (aP O.P H k o)=GW v):Reads O m S w a o v:=by
 cases ho:o.op with
 | call c=>exact al8 hH ht hh ho hv
 | binOp op t x y ty=>exact anY hH ht ho hv
 | move x=>
  simp only[aP,ho,bg,yd] at hv;subst hv;exact⟨_,by simp only[execOp,ho,Sem.run_pure],b8 hH ht x⟩
 | assign x=>
  simp only[aP,ho,bg,yd] at hv;subst hv;exact⟨_,by simp only[execOp,ho,Sem.run_pure],b8 hH ht x⟩
 | pick c x y=>
  simp only[aP,ho,bg] at hv;have rc:=b8 hH ht c;cases hc:az tm (aK H c)<;>rw[hc] at hv<;>simp only[reduceCtorEq] at hv
  rename_i b;rw[hc] at rc;simp only[aj] at rc;simp only[yd] at hv;subst hv
  cases b with
  | true=>exact⟨a.eval x,by simp[execOp,ho,rc,asBool],b8 hH ht x⟩
  | false=>exact⟨a.eval y,by simp[execOp,ho,rc,asBool],b8 hH ht y⟩
 | load t x=>
  simp only[aP,ho] at hv
  split at hv
  .rename_i s ag hz ha;simp only[bg] at hv;exact kK (by simp only[execOp,ho]) (awW hh hz ha (b8 hH ht x) hv)
  .exact (dC hv).elim
 | fieldAddr t x i=>
  simp only[aP,ho] at hv
  split at hv
  .rename_i fs hu
   split at hv
   .rename_i f hf
    split at hv
    .rename_i s hz;simp only[bg] at hv;exact kK (by simp only[execOp,ho]) (ass hu hf hz (b8 hH ht x) hv)
    .exact (dC hv).elim
   .exact (dC hv).elim
  .exact (dC hv).elim
 | field t x i=>
  simp only[aP,ho] at hv
  split at hv
  .rename_i fs hu
   split at hv
   .rename_i f hf
    split at hv
    .rename_i s ag hz ha;simp only[bg] at hv;exact kK (by simp only[execOp,ho]) (ast hu hf hz ha (b8 hH ht x) hv)
    .exact (dC hv).elim
   .exact (dC hv).elim
  .exact (dC hv).elim
 | nilCheck x=>
  simp only[aP,ho,bg] at hv;have rx:=b8 hH ht x;cases hx:az tm (aK H x)<;>rw[hx] at hv rx<;>simp only[reduceCtorEq,yd] at hv
  .subst hv;have r':=rx;simp only[aj] at r';obtain⟨p,_,e⟩:=r';exact⟨a.eval x,by simp only[execOp,ho,e,Sem.run_pure],rx⟩
  .subst hv;have r':=rx;simp only[aj] at r';obtain⟨b,o',e,_⟩:=r';exact⟨a.eval x,by simp only[execOp,ho,e,Sem.run_pure],rx⟩
  .subst hv;rename_i f _ _
   cases f with
   | f g=>
    have r':=rx;simp only[aj] at r';obtain⟨fi,ca,e,_⟩:=r';exact⟨a.eval x,by simp only[execOp,ho,e,Sem.run_pure],rx⟩
   | y l=>
    have r':=rx;simp only[aj] at r';obtain⟨p,_,e⟩:=r';exact⟨a.eval x,by simp only[execOp,ho,e,Sem.run_pure],rx⟩
 | unOp op t x=>
  simp only[aP,ho,bg] at hv;exact kK (by simp only[execOp,ho]) (ap8 (b8 hH ht x) hv)
 | convert s d x=>
  simp only[aP,ho] at hv
  split at hv
  .rename_i k1 k2 hs hd;simp only[bg] at hv;exact kK (by simp only[execOp,ho]) (acs hd (.inl ⟨_,hs⟩) (b8 hH ht x) hv)
  .rename_i k1 k2 hs hd;simp only[bg] at hv;exact kK (by simp only[execOp,ho]) (acs hd (.inr ⟨_,hs⟩) (b8 hH ht x) hv)
  .rename_i k1 k2 hs hd;simp only[bg] at hv;exact kK (by simp only[execOp,ho]) (acu hd (.inl ⟨_,hs⟩) (b8 hH ht x) hv)
  .rename_i k1 k2 hs hd;simp only[bg] at hv;exact kK (by simp only[execOp,ho]) (acu hd (.inr ⟨_,hs⟩) (b8 hH ht x) hv)
  .rename_i hs hd;simp only[bg] at hv;exact kK (by simp only[execOp,ho]) (anS hd hs (b8 hH ht x) hv)
  .exact (dC hv).elim
 | makeFunc fn first cap=>
  cases fn with
  | func f=>
   simp only[aP,ho] at hv
   split at hv
   .rename_i g hg;simp only[bg,yd] at hv;subst hv;refine⟨.func (.func f) (first.map a.eval) (cap.map a.eval),by simp[execOp,ho,Instr.makeFunc],?_⟩;simp only[aj];exact⟨_,_,by rw[hH f g hg],by simpa using EQ hH ht first.toList,by simpa using EQ hH ht cap.toList⟩
   .exact (dC hv).elim
  | _=>simp only[aP,ho] at hv;exact (dC hv).elim
 | slice t x lo hi mx=>
  cases mx with
  | some q=>simp only[aP,ho] at hv;exact (dC hv).elim
  | none=>
   simp only[aP,ho] at hv
   split at hv
   .rename_i hu;simp only[bg] at hv;exact kK (by simp only[execOp,ho];rfl) (al7 hH ht hu (b8 hH ht x) hv)
   .rename_i e hu
    split at hv
    .rename_i s hz;simp only[bg] at hv;exact kK (by simp only[execOp,ho];rfl) (anT hH ht hu hz hh (b8 hH ht x) hv)
    .exact (dC hv).elim
   .rename_i n e hu
    split at hv
    .rename_i s hz;simp only[bg] at hv;exact kK (by simp only[execOp,ho];rfl) (anU hH ht hu hz (b8 hH ht x) hv)
    .exact (dC hv).elim
   .exact (dC hv).elim
 | indexAddr t x i=>
  simp only[aP,ho] at hv
  split at hv
  .rename_i e hu
   split at hv
   .rename_i s hz;simp only[bg] at hv
    cases hk:dR (az tm (aK H i)) with
    | none=>simp[hk] at hv
    | some j=>
     simp only[hk] at hv;exact kK (by simp only[execOp,ho]) (asu hu hz (b8 hH ht x) (b8 hH ht i) hk hv)
   .exact (dC hv).elim
  .rename_i n e hu
   split at hv
   .rename_i s hz;simp only[bg] at hv
    cases hk:dR (az tm (aK H i)) with
    | none=>simp[hk] at hv
    | some j=>
     simp only[hk] at hv;exact kK (by simp only[execOp,ho]) (asv hu hz (b8 hH ht x) (b8 hH ht i) hk hv)
   .exact (dC hv).elim
  .exact (dC hv).elim
 | index t x i=>
  simp only[aP,ho] at hv
  split at hv
  .rename_i hu;simp only[bg] at hv
   cases hk:dR (az tm (aK H i)) with
   | none=>simp[hk] at hv
   | some j=>
    simp only[hk] at hv;exact kK (by simp only[execOp,ho]) (asx hu (b8 hH ht x) (b8 hH ht i) hk hv)
  .rename_i n e hu
   split at hv
   .rename_i s ag hz ha;simp only[bg] at hv
    cases hk:dR (az tm (aK H i)) with
    | none=>simp[hk] at hv
    | some j=>
     simp only[hk] at hv;exact kK (by simp only[execOp,ho]) (asw hu hz ha (b8 hH ht x) (b8 hH ht i) hk hv)
   .exact (dC hv).elim
  .exact (dC hv).elim
 | lookup t x i ok=>
  simp only[aP,ho] at hv
  split at hv
  .rename_i kt e hu
   split at hv
   .rename_i kk z zG hz;simp only[bg] at hv
    cases hf:pI kk (az tm (aK H i)) with
    | false=>simp[hf] at hv
    | true=>
     simp only[hf,yC] at hv;obtain⟨zv,ns,rfl⟩:=Hc (w:=w) hz
     cases hr:Dc hp (az tm (aK H i)) (az tm (aK H x)) with
     | none=>simp[hr] at hv
     | some r=>
      refine kK (by simp only[execOp,ho]) (asy (ok:=ok) (r:=r) (z:=fm zv) hh hu zG hf ns (b8 hH ht x) (b8 hH ht i) (PU zv) hr ?_);cases r<;>simpa[hr] using hv
   .exact (dC hv).elim
  .exact (dC hv).elim
 | extract x i=>
  simp only[aP,ho,bg] at hv;have rx:=b8 hH ht x;cases hx:az tm (aK H x)<;>rw[hx] at hv rx<;>simp only[reduceCtorEq] at hv
  simp only[aj] at rx;obtain⟨xs,e,hr⟩:=rx;obtain⟨u,h1,h2⟩:=UD hr hv;refine⟨u,?_,h2⟩;have Yy:xs[i]? =GW u:=by simpa using h1
  simp[execOp,ho,e,Instr.extract,Yy]
 | build t parts=>
  simp only[aP,ho] at hv
  split at hv
  .rename_i fs z hu hz
   split at hv
   .rename_i pl ayE;have oS:=run_places (P:=O.P) w fs.toList pl ayE
    split at hv
    case h_2=>exact (dC hv).elim
    rename_i ps jc;simp only[bg] at hv
    cases hf:fill tm z ps with
    | none=>simp[hf] at hv
    | some cs=>
     simp only[hf,yd] at hv;subst hv;obtain⟨zv,ns,lc⟩:=Hc (w:=w) hz;have Cd:aB O.ah m S w z zv.cells.toList:=by
      have:=Et (ah:=O.ah) (m:=m) (S:=S) (w:=w) zv
      rw[<-lc] at this;exact this
     obtain⟨out,h1,h2⟩:=PW hH ht (place:=fun i=>pl[i]?) parts.toList ps z cs zv.cells jc Cd hf;refine⟨.agg out,?_,by simp only[aj];exact⟨out,rfl,h2⟩⟩
     have hm:(Array.mapM (fun f=>Functor.map (Prod.mk f.offset) (vl f.type)) fs:Sem (Array (Nat×Nat))).run O.P w=.ok pl.toArray w:=by
      rw[Array.mapM_eq_mapM_toList];simp[oS]
     simp[execOp,ho,Instr.build,ns,run_underlying hu,hm,h1]
   .exact (dC hv).elim
  .rename_i n e z hu hz
   split at hv
   .rename_i s hs
    split at hv
    .rename_i ps jc;simp only[bg] at hv
     cases hf:fill tm z ps with
     | none=>simp[hf] at hv
     | some cs=>
      simp only[hf,yd] at hv;subst hv;obtain⟨zv,ns,lc⟩:=Hc (w:=w) hz;have Cd:aB O.ah m S w z zv.cells.toList:=by
       have:=Et (ah:=O.ah) (m:=m) (S:=S) (w:=w) zv
       rw[<-lc] at this;exact this
      obtain⟨out,h1,h2⟩:=PW hH ht (place:=fun i=>GW (i*s,s)) parts.toList ps z cs zv.cells jc Cd hf;refine⟨.agg out,?_,by simp only[aj];exact⟨out,rfl,h2⟩⟩
      simp[execOp,ho,Instr.build,ns,run_underlying hu,pC hs,h1]
    .exact (dC hv).elim
   .exact (dC hv).elim
  .exact (dC hv).elim
 | alloc t=>simp only[aP,ho] at hv;split at hv<;>simp[bg,bad] at hv
 | box t x=>simp only[aP,ho] at hv;split at hv<;>simp[bg,bad] at hv
 | buildSlice t n parts=>
  simp only[aP,ho] at hv
  split at hv
  .split at hv
   .rename_i s z _ _
    cases hc:yJ (n*s) 16777216 with
    | false=>rw[hc] at hv;exact (dC hv).elim
    | true=>
     rw[hc] at hv;simp only[yC] at hv
     split at hv
     .simp [bg] at hv
     .exact (dC hv).elim
   .exact (dC hv).elim
  .exact (dC hv).elim
 | makeMap t r=>
  cases r<;>simp only[aP,ho] at hv
  .repeat' split at hv
   all_goals simp[bg,bad] at hv
  .exact (dC hv).elim
 | makeSlice t l c=>
  simp only[aP,ho] at hv
  repeat' split at hv
  all_goals simp[bg,bad] at hv
 | insert t x k y=>
  simp only[aP,ho] at hv
  repeat' split at hv
  all_goals simp[bg,bad] at hv
 | mapUpdate t x k y=>
  simp only[aP,ho] at hv
  repeat' split at hv
  all_goals simp[bg,bad] at hv
 | store t x y=>simp only[aP,ho] at hv;split at hv<;>simp[bg,bad] at hv
 | range t x=>simp only[aP,ho] at hv;split at hv<;>simp[bg,bad] at hv
 | next x b=>cases b<;>simp[aP,ho,bg,bad] at hv
 | _=>simp[aP,ho,bg,bad] at hv
end
end
section
open Go
def fU(m:Mp)(id:Nat)(p:Pl):Mp:=fun i=>if i=id then GW p else m i
def dI{m:Mp}{id:Nat}{p:Pl}:fU m id p id=GW p:=by simp[fU]
def eK{m:Mp}{id i:Nat}{p:Pl}(h:i≠id):fU m id p i=m i:=by simp[fU,h]
section
variable {O:bz}{m:Mp}{S:Nat->Prop}{w:ym}{hp:Hp}{ct:Nat}
def dz(m m':Mp):Prop:=∀id p,m id=GW p->m' id=GW p
def dz.refl{m:Mp}:dz m m:=fun _ _ h=>h
def dz.trans{m m' NP:Mp}(h:dz m m')(k:dz m' NP):dz m NP:=fun id p hp=>k id p (h id p hp)
def jx{i:Nat}(h:m i=GX){p:Pl}:dz m (fU m i p):=by
 intro id q hq;rw[eK]
 .grind
 .grind
def CE{tm:Env}{tmps:Array yj}{m':Mp}{S':Nat->Prop}{w':ym}(hm:∀id p,m id=GW p->m' id=GW p)(hS:∀b,S b->S' b)(hw:gj S w w')(h:b7 O m S w tm tmps):b7 O m' S' w' tm tmps:=fun i=>mI hm hS hw _ _ (h i)
def alloc_old{o:yal}{b:Nat}(hb:b<w.heap.size):(w.alloc o).heap[b]? =w.heap[b]? :=RowKit.Below.heap_alloc w o b hb
def Ab{m':Mp}{S':Nat->Prop}{w':ym}{id:Nat}{o:Obj}(hm:∀id p,m id=GW p->m' id=GW p)(hS:∀b,S b->S' b)(hw:gj S w w')(hb:∀p,m id=GW p->w'.heap[p.b]? =w.heap[p.b]?)(hn:∀p,m id=GW p->S' p.b->S p.b)(h:fJ O m S w id o):fJ O m' S' w' id o:=by
 have rowAt:∀(cs:List AV) (b k:Nat),w'.heap[b]? =w.heap[b]? ->b5 O.ah m S w cs b k->b5 O.ah m' S' w' cs b k:=by
  intro cs
  induction cs with
  | nil=>intro b k _ _;simp only[b5]
  | cons c cs ih=>
   intro b k AU hr;have⟨⟨u,h1,h2⟩,h3⟩:=hr;exact⟨⟨u,(OT AU).trans h1,mI hm hS hw _ _ h2⟩,ih b (k+1) AU h3⟩
 cases o with
 | cells rw pu ex sz cs=>
  have⟨p,arr,t,h1,h2,h3,h4,h5,h6,h7,h8,h9,iO⟩:=h;exact⟨p,arr,t,hm _ _ h1,(hb p h1).trans h2,h3,h4,h5,h6,rowAt cs p.b p.o (hb p h1) h7,h8,fun hr hs=>h9 hr (hn p h1 hs),fun hr=>hS _ (iO hr)⟩
 | mp rw ks vs=>
  have⟨p,es,clock,h1,h2,h3,h4,h5,h6⟩:=h;exact⟨p,es,clock,hm _ _ h1,(hb p h1).trans h2,iE hm hS hw _ _ h3,iE hm hS hw _ _ h4,fun hr hs=>h5 hr (hn p h1 hs),fun hr=>hS _ (h6 hr)⟩
 | si s pos=>
  have⟨p,t,h1,h2,h3,h4⟩:=h;exact⟨p,t,hm _ _ h1,(hb p h1).trans h2,h3,fun hs=>h4 (hn p h1 hs)⟩
 | lp tm ps cM body st pe=>
  have⟨p,l,hi,h1,h2,h3,h4,h5,h6,h7,h8⟩:=h;exact⟨p,l,hi,hm _ _ h1,(hb p h1).trans h2,fun hs=>h3 (hn p h1 hs),h4,h5,h6,CE hm hS hw h7,h8⟩
def fS{id i:Nat}{o:Obj}:ax ((id,o)::hp) i=if id=i then GW o else ax hp i:=by
 simp only[ax]
 simp_all
def Kv(hh:aT O m S w hp ct)(g:yal):gj S w (w.alloc g):=fun b hb=>alloc_old (hh.slt b hb)
def jo:Obj->Obj->Prop
 | .cells rw pu ex sz cs,o'=>∃eN,o'=.cells eN pu ex sz cs/\(eN=ycN->rw=ycN)
 | .mp rw ks vs,o'=>∃eN,o'=.mp eN ks vs/\(eN=ycN->rw=ycN)
 | .si s pos,o'=>o'=.si s pos
 | .lp tm ps cM body st pe,o'=>o'=.lp tm ps cM body st pe
def jo.refl:∀o,jo o o
 | .cells rw _ _ _ _=>⟨rw,rfl,fun h=>h⟩
 | .mp rw _ _=>⟨rw,rfl,fun h=>h⟩
 | .si _ _=>rfl
 | .lp _ _ _ _ _ _=>rfl
def jo.trans{a b c:Obj}(h:jo a b)(k:jo b c):jo a c:=by
 cases a with
 | cells rw pu ex sz cs=>
  obtain⟨r1,rfl,h1⟩:=h;obtain⟨r2,rfl,h2⟩:=k;exact⟨r2,rfl,fun h=>h1 (h2 h)⟩
 | mp rw ks vs=>
  obtain⟨r1,rfl,h1⟩:=h;obtain⟨r2,rfl,h2⟩:=k;exact⟨r2,rfl,fun h=>h1 (h2 h)⟩
 | si s pos=>simp only[jo] at h;subst h;exact k
 | lp tm ps cM body st pe=>simp only[jo] at h;subst h;exact k
def cU(hp au:Hp):Prop:=∀id o,ax hp id=GW o->∃o',ax au id=GW o'/\jo o o'
def cU.refl{hp:Hp}:cU hp hp:=fun _ o h=>⟨o,h,jo.refl o⟩
def cU.trans{a b c:Hp}(h:cU a b)(k:cU b c):cU a c:=fun id o ho=>
 let ⟨o1,h1,l1⟩:=h id o ho
 let ⟨o2,h2,l2⟩:=k id o1 h1
 ⟨o2,h2,l1.trans l2⟩
def jf:Obj->Prop
 | .cells rw _ _ _ _=>rw=ycO
 | .mp rw _ _=>rw=ycO
 | _=>False
def adG{au:Hp}{aX:Nat}(hh:aT O m S w hp ct)(hl:cU hp au)(hd:∀id o p,ax au id=GW o->m id=GW p->∃o',ax hp id=GW o')(hZ:ct<=aX)(ayF:∀id o,ax au id=GW o->id<aX):
  ∃S',aT O m S' w au aX/\(∀b,S b->S' b)/\∀b,S' b->S b\/eH m hp b:=by
 refine⟨fun b=>S b\/∃id p o,m id=GW p/\p.b=b/\ax au id=GW o/\jf o,?_,fun b h=>.inl h,?_⟩
 .refine ⟨?_,fun id p h=>yR (hh.lt id p h) hZ,?_,?_,hh.blt,hh.low,hh.mX,hh.gJ,ayF⟩
  .intro id o' p jm hm;have⟨o,ho⟩:=hd id o' p jm hm;have⟨Yz,h1,h2⟩:=hl id o ho;rw[jm] at h1;injection h1 with h1
   subst h1;have h3:=hh.obj id o p ho hm;have hS:∀b,S b->(S b\/∃id p o,m id=GW p/\p.b=b/\ax au id=GW o/\jf o):=fun b h=>.inl h
   have kG:∀q,m id=GW q->(∃id p o,m id=GW p/\p.b=q.b/\ax au id=GW o/\jf o)->jf o':=by
    rintro q hq ⟨j,pj,oj,NR,hj2,hj3,hj4⟩;have⟨NS,hj5⟩:=hd j oj pj hj3 NR
    have:=hh.inj id j o NS q pj ho hj5 hq NR hj2.symm
    grind
   have aU:gj S w w:=fun _ _=>rfl
   cases o with
   | cells rw pu ex sz cs=>
    obtain⟨eN,rfl,zH⟩:=h2;have⟨q,arr,t,h1,h2,h3,h4,h5,h6,h7,h8,h9,iO⟩:=h3;refine⟨q,arr,t,h1,h2,h3,h4,h5,h6,?_,h8,?_,?_⟩
    .clear h4 h6 h8;revert h7;generalize q.o=k
     induction cs generalizing k with
     | nil=>intro _;simp only[b5]
     | cons c cs ih=>
      intro hr;simp only[b5] at hr ⊢;have⟨⟨u,g1,g2⟩,g3⟩:=hr
      exact⟨⟨u,g1,mI (fun _ _ h=>h) hS aU _ _ g2⟩,by
       have Cb:∀(cs:List AV) (b k:Nat),b5 O.ah m S w cs b k->b5 O.ah m (fun b=>S b\/∃id p o,m id=GW p/\p.b=b/\ax au id=GW o/\jf o) w cs b k:=by
        intro cs
        induction cs with
        | nil=>intro b k _;simp only[b5]
        | cons c cs ih=>
         intro b k hr;simp only[b5] at hr ⊢;have⟨⟨u,g1,g2⟩,g3⟩:=hr;exact⟨⟨u,g1,mI (fun _ _ h=>h) hS aU _ _ g2⟩,ih b (k+1) g3⟩
       exact Cb _ _ _ g3⟩
    .rintro hr (hs | hs)
     .grind
     .have:=kG q h1 hs
      simp only[jf] at this
      grind
    .intro hr;exact .inr ⟨id,q,_,h1,rfl,jm,hr⟩
   | mp rw ks vs=>
    obtain⟨eN,rfl,zH⟩:=h2;have⟨q,es,clock,h1,h2,h3,h4,h5,h6⟩:=h3;refine⟨q,es,clock,h1,h2,iE (fun _ _ h=>h) hS aU _ _ h3,iE (fun _ _ h=>h) hS aU _ _ h4,?_,?_⟩
    .rintro hr (hs | hs)
     .grind
     .have:=kG q h1 hs
      simp only[jf] at this
      grind
    .intro hr;exact .inr ⟨id,q,_,h1,rfl,jm,hr⟩
   | si s pos=>
    simp only[jo] at h2;subst h2;refine Ab (fun _ _ h=>h) hS aU (fun _ _=>rfl) (fun q hq hs=>?_) h3;rcases hs with hs | hs
    .grind
    .exact (kG q hq hs).elim
   | lp tm ps cM body st pe=>
    simp only[jo] at h2;subst h2;refine Ab (fun _ _ h=>h) hS aU (fun _ _=>rfl) (fun q hq hs=>?_) h3;rcases hs with hs | hs
    .grind
    .exact (kG q hq hs).elim
  .intro i j oi oj pi pj hi hj bO ia e;have⟨NT,dP⟩:=hd i oi pi hi bO;have⟨NS,YA⟩:=hd j oj pj hj ia;exact hh.inj i j NT NS pi pj dP YA bO ia e
  .rintro b (hb | ⟨id,p,o,h1,rfl,_,_⟩)
   .exact hh.slt b hb
   .exact hh.blt id p h1
 .rintro b (hb | ⟨id,p,o,h1,rfl,h3,_⟩)
  .exact .inl hb
  .have ⟨o',jm⟩:=hd id o p h3 h1;exact .inr ⟨id,o',p,jm,h1,rfl⟩
def UF{i:Nat}(hh:aT O m S w hp ct)(hi:m i=GX)(I4:i<ct){g:yal}{p:Pl}(hb:p.b=w.heap.size)(hf:∀o,ax hp i=GW o->(fJ O (fU m i p) S (w.alloc g) i o/\¬jf o)\/
   (jf o/\fJ O (fU m i p) (fun b=>S b\/b=w.heap.size) (w.alloc g) i o)):
  ∃S',aT O (fU m i p) S' (w.alloc g) hp ct/\(∀b,S b->S' b)/\∀b,S' b->S b\/b=w.heap.size:=by
 have eS:(w.alloc g).heap.size=w.heap.size+1:=by simp
 have bf:O.w0.heap.size<=w.heap.size:=hh.gJ;have gen:∀S':Nat->Prop,(∀b,S b->S' b)->(∀b,S' b->S b\/b=w.heap.size)->(∀o,ax hp i=GW o->fJ O (fU m i p) S' (w.alloc g) i o)->aT O (fU m i p) S' (w.alloc g) hp ct:=by
  intro S' h1 h2 h3;have NU:∀id q,m id=GW q->¬q.b=w.heap.size:=fun id q hq=>by have:=hh.blt id q hq;lia
  refine⟨?_,?_,?_,?_,?_,?_,?_,?_,hh.aH⟩
  .intro id o q ho hm;by_cases hc:id=i
   .grind
   .rw [eK hc] at hm;refine Ab (jx hi) h1 (Kv hh g) (fun q' bB=>alloc_old (hh.blt id q' bB)) (fun q' bB hs=>?_) (hh.obj id o q ho hm)
    grind
  .intro id q hm;by_cases hc:id=i
   .grind
   .rw [eK hc] at hm;exact hh.lt id q hm
  .intro a b oa ob pa pb ha bD Gj BT e;by_cases ca:a=i
   .by_cases cb:b=i
    .grind
    .subst ca;rw[dI] at Gj;rw[eK cb] at BT
     grind
   .rw [eK ca] at Gj;by_cases cb:b=i
    .subst cb;rw[dI] at BT
     grind
    .rw [eK cb] at BT;exact hh.inj a b oa ob pa pb ha bD Gj BT e
  .intro b hs;rcases h2 b hs with h | h
   .have:=hh.slt b h;lia
   .lia
  .intro id q hm;by_cases hc:id=i
   .subst hc;rw[dI] at hm
    grind
   .rw [eK hc] at hm
    have:=hh.blt id q hm
    lia
  .intro id q hm;by_cases hc:id=i
   .subst hc;rw[dI] at hm
    grind
   .rw [eK hc] at hm;exact hh.low id q hm
  .intro b AU;exact (alloc_old (by lia)).trans (hh.mX b AU)
  .lia
 cases ho:ax hp i with
 | none=>exact⟨S,gen S (fun _ h=>h) (fun _ h=>.inl h) (fun o h=>by rw[ho] at h;cases h),fun _ h=>h,fun _ h=>.inl h⟩
 | some o=>
  rcases hf o ho with ⟨h1,_⟩ | ⟨_,h1⟩
  .exact ⟨S,gen S (fun _ h=>h) (fun _ h=>.inl h) (fun o' h=>by rw[ho] at h;injection h with h;subst h;exact h1),fun _ h=>h,fun _ h=>.inl h⟩
  .exact ⟨_,gen (fun b=>S b\/b=w.heap.size) (fun _ h=>.inl h) (fun _ h=>h) (fun o' h=>by rw[ho] at h;injection h with h;subst h;exact h1),fun _ h=>.inl h,fun _ h=>h⟩
def TM{id:Nat}{o o':Obj}{p:Pl}(hl:jo o o')(hm:m id=GW p)(h:fJ O m S w id o)(hn:¬jf o):
  (fJ O m S w id o'/\¬jf o')\/(jf o'/\fJ O m (fun b=>S b\/b=p.b) w id o'):=by
 have hS:∀b,S b->(S b\/b=p.b):=fun _ h=>.inl h
 have aU:gj S w w:=fun _ _=>rfl
 cases o with
 | cells rw pu ex sz cs=>
  obtain⟨eN,rfl,zH⟩:=hl
  cases eN with
  | true=>
   grind
  | false=>
   refine .inr ⟨rfl,?_⟩;have⟨q,arr,t,h1,h2,h3,h4,h5,h6,h7,h8,h9,iO⟩:=h;rw[hm] at h1;injection h1 with h1
   subst h1;have Cb:∀(cs:List AV) (b k:Nat),b5 O.ah m S w cs b k->b5 O.ah m (fun b=>S b\/b=p.b) w cs b k:=by
    intro cs
    induction cs with
    | nil=>intro b k _;simp only[b5]
    | cons c cs ih=>
     intro b k hr;have⟨⟨u,g1,g2⟩,g3⟩:=hr;exact⟨⟨u,g1,mI (fun _ _ h=>h) hS aU _ _ g2⟩,ih b (k+1) g3⟩
   exact⟨p,arr,t,hm,h2,h3,h4,h5,h6,Cb _ _ _ h7,h8,by simp,fun _=>.inr rfl⟩
 | mp rw ks vs=>
  obtain⟨eN,rfl,zH⟩:=hl
  cases eN with
  | true=>
   grind
  | false=>
   refine .inr ⟨rfl,?_⟩;have⟨q,es,clock,h1,h2,h3,h4,h5,h6⟩:=h;rw[hm] at h1;injection h1 with h1
   subst h1;exact⟨p,es,clock,hm,h2,iE (fun _ _ h=>h) hS aU _ _ h3,iE (fun _ _ h=>h) hS aU _ _ h4,by simp,fun _=>.inr rfl⟩
 | si s pos=>simp only[jo] at hl;subst hl;exact .inl ⟨h,hn⟩
 | lp tm ps cM body st pe=>simp only[jo] at hl;subst hl;exact .inl ⟨h,hn⟩
end
end
section
open Go
section
variable {v:AV}{arr:Array yj}{cs:List AV}{sz:Nat}{b:Obj}
section
variable {O:bz}{H:Hint}{m:Mp}{S:Nat->Prop}{w:ym}{tm:Env}{a:Act}{hp:Hp}{ct cq:Nat}
def Pf{ah:Nat->Nat}{b:Nat}{arr:Array yj}{t:yE}{fr:Nat×Nat}(hb:w.heap[b]? =GW (.cells arr t fr)):∀(cs:List AV) (us:List yj) (o:Nat),
  aB ah m S w cs us->(∀(j:Nat) (u:yj),us[j]? =GW u->arr[o+j]? =GW u)->b5 ah m S w cs b o
 | [],us,o,_,_=>by simp only[b5]
 | c::cs,us,o,h,hu=>by
  simp only[aB] at h;obtain⟨u,r,rfl,h2,h3⟩:=h;simp only[b5];refine⟨⟨u,?_,h2⟩,Pf hb cs r (o+1) h3 (fun j v hv=>?_)⟩
  .have:=hu 0 u (by simp)
   simpa[World.cell?,hb] using this
  .have:=hu (j+1) v (by simpa using hv)
   rw[show o+1+j=o+(j+1) by lia];exact this
def aqc(hh:aT O m S w hp cq){i:Nat}{t:yE}{us:List yj}{pu ex:Bool}(hr:aB O.ah m S w cs us)(hu:∀(j:Nat) (u:yj),us[j]? =GW u->arr[j]? =GW u)(hl:cs.length<=arr.size)(hex:ex=ycN->cs.length=arr.size)(ix:pu=ycN->aE cs=ycN)(m':Mp)(hm:dz m m')(hi:m' i=GW ⟨w.heap.size,0,arr.size,sz⟩):fJ O m' S (w.alloc (.cells arr t)) i (.cells ycN pu ex sz cs):=by
 refine⟨⟨w.heap.size,0,arr.size,sz⟩,arr,t,hi,heap_alloc_new w _,rfl,hl,by simp,hex,?_,ix,?_,by simp⟩
 .exact Pf (heap_alloc_new w _) cs us 0 (iE hm (fun _ h=>h) (Kv hh _) _ _ hr) (by simpa using hu)
 .intro _ hS
  have:=hh.slt _ hS
  simp at this
def Fz(O:bz)(m:Mp)(S:Nat->Prop)(w:ym)(a:Act)(ct:Nat)(o:yV)(v:AV)(b:Obj):Prop:=
 ∃u g p,(execOp a.eval o).run O.P w=.ok (.value u) (w.alloc g)/\p.b=w.heap.size/\¬jf b/\
  ∀m',dz m m'->m' ct=GW p->fJ O m' S (w.alloc g) ct b/\aj O.ah m' S (w.alloc g) v u
def Ui{o:yV}{t:yE}{us:List yj}{pu ex:Bool}{u:yj}(hh:aT O m S w hp cq)(he:(execOp a.eval o).run O.P w=.ok (.value u) (w.alloc (.cells arr t)))(hr:aB O.ah m S w cs us)(hu:∀(j:Nat) (u:yj),us[j]? =GW u->arr[j]? =GW u)(hl:cs.length<=arr.size)(hex:ex=ycN->cs.length=arr.size)(ix:pu=ycN->aE cs=ycN)(hv:∀m':Mp,m' ct=GW ⟨w.heap.size,0,arr.size,sz⟩->aj O.ah m' S (w.alloc (.cells arr t)) v u):Fz O m S w a ct o v (.cells ycN pu ex sz cs):=
 ⟨u,_,⟨w.heap.size,0,arr.size,sz⟩,he,rfl,by simp[jf],fun m' hm hi=>⟨aqc hh hr hu hl hex ix m' hm hi,hv m' hi⟩⟩
def acv{o:yV}{t:yE}{x:yj}{vx:AV}(hh:aT O m S w hp cq)(he:(execOp a.eval o).run O.P w=.ok (.value (.pointer (GW ⟨w.heap.size,0,GX⟩))) (w.alloc (.cells x.cells t)))(hx:aB O.ah m S w (cellsOf vx) x.cells.toList)(hv:(bif yp (cellsOf vx).length sz&&bY (cellsOf vx) then GW (AV.ptr ct 0,Obj.cells ycN (aE (cellsOf vx)) ycN sz (cellsOf vx)) else GX)=GW (v,b)):Fz O m S w a ct o v b:=by
 cases hc:(yp (cellsOf vx).length sz&&bY (cellsOf vx)) with
 | false=>rw[hc] at hv;cases hv
 | true=>
  rw[hc] at hv;obtain⟨rfl,rfl⟩:=hv;have hlen:=ij _ _ hx;refine Ui hh he hx (fun j u hj=>by simpa using hj) (by rw[<-hlen];simp) (fun _=>by rw[<-hlen];simp) (fun h=>h) (fun m' hi=>?_)
  simp only[aj];exact⟨_,hi,by simp⟩
def anZ{o:yV}{t:yE}{r:Option xC}(hh:aT O m S w hp cq)(ho:o.op=.makeMap t r)(hr:r=GX):Fz O m S w a ct o (.map ct) (.mp ycN [] []):=by
 subst hr;refine⟨.map (GW w.heap.size),.map #[] 0,⟨w.heap.size,0,0,0⟩,by simp[execOp,ho,Instr.makeMap],rfl,by simp[jf],fun m' _ hi=>⟨?_,?_⟩⟩
 .refine ⟨_,#[],0,hi,heap_alloc_new w _,by simp[aB],by simp[aB],?_,by simp⟩;intro _ hS
  have:=hh.slt _ hS
  simp at this
 .simp only [aj];exact⟨_,hi,rfl⟩
def al9{o:yV}{t:yE}{x:xC}{s:List Nat}(hh:aT O m S w hp cq)(ho:o.op=.range t x)(hu:O.P.underlying t=GW .string)(hx:aj O.ah m S w (.str s) (a.eval x)):
  Fz O m S w a ct o (.it ct) (.si s 0):=by
 obtain⟨b,e,rfl⟩:=hx;refine⟨.pointer (GW ⟨w.heap.size,0,GX⟩),.stringIter b 0,⟨w.heap.size,0,0,0⟩,by simp[execOp,ho,Instr.range,run_underlying hu,e],rfl,by simp[jf],fun m' _ hi=>⟨?_,?_⟩⟩
 .refine ⟨_,b,hi,heap_alloc_new w _,rfl,?_⟩;intro hS
  have:=hh.slt _ hS
  simp at this
 .simp only [aj];exact⟨_,hi,rfl⟩
end
def ama(zero:Array yj):(wi zero.size).map (fun j=>zero[j]!)=zero.toList:=by
 apply List.ext_getElem
 .simp
 .grind
def aaZ(zero:Array yj):∀n:Nat,(wi (n*zero.size)).map (fun i=>zero[i%zero.size]!)=(yD n zero.toList).flatten
 | 0=>by simp
 | n+1=>by
  rw[wg,ybU,List.range_add,List.map_append,aaZ zero n,List.replicate_succ',yaT]
  congr 1
  simp only[List.map_map,vS,List.flatten_nil,List.append_nil];rw[<-ama zero];apply List.map_congr_left;intro j hj;simp at hj;simp[Function.comp,xz n,Nat.mod_eq_of_lt hj]
def UG{ah:Nat->Nat}{m:Mp}{S:Nat->Prop}{w:ym}{cs:List AV}{us:List yj}(h:aB ah m S w cs us):∀n,aB ah m S w (yD n cs).flatten (yD n us).flatten
 | 0=>by simp[aB]
 | n+1=>by rw[wT,wT,vS,vS];exact mF h (UG h n)
section
variable {O:bz}{H:Hint}{m:Mp}{S:Nat->Prop}{w:ym}{tm:Env}{a:Act}{hp:Hp}{ct cq:Nat}
def abE(zero:Array yj)(n:Nat):(Array.map (fun i=>zero[i%zero.size]!) (tD (n*zero.size))).toList=(yD n zero.toList).flatten:=by
 rw[<-aaZ zero n]
 simp
def acw(tm:Env):∀(ps:List (Nat×Nat×X)) (zero cs:List AV),fill tm zero ps=GW cs->cs.length=zero.length
 | [],zero,cs,h=>by simp only[fill,yd] at h;rw[h]
 | (o,sz,x)::r,zero,cs,h=>by
  simp only[fill] at h
  cases hc:(yp (cellsOf (az tm x)).length sz&&yJ (o+sz) zero.length&&bY (cellsOf (az tm x))) with
  | false=>rw[hc] at h;cases h
  | true=>
   rw[hc] at h;simp only[ye] at hc;have h1:=yh hc.1.1;have h2:=yu hc.1.2;rw[acw tm r _ _ h];simp only[over,yM,yO,xX]
   lia
def Py{α:Type}(l:List α):∀n,(yD n l).flatten.length=n*l.length
 | 0=>by simp
 | n+1=>by simp[wT,Py l n,wg,Nat.add_comm]
def amb{o:yV}{t e:yE}{n s:Nat}{z:AV}{parts:Array (Nat×xC)}{ps:List (Nat×Nat×X)}(hH:fH O H)(ht:b7 O m S w tm a.tmps)(hh:aT O m S w hp cq)(ho:o.op=.buildSlice t n parts)(hu:O.P.underlying t=GW (.slice e))(hs:cC O.P e=GW s)(hz:mP O.P e=GW z)(hn:n*s<=16777216)(jc:partsOf H (fun i=>GW (i*s,s)) parts.toList=GW ps)(hv:cP tm hp ct (.jI n s (yD n (cellsOf z)).flatten ps)=GW (v,b)):Fz O m S w a ct o v b:=by
 simp only[cP] at hv
 cases hf:fill tm (yD n (cellsOf z)).flatten ps with
 | none=>simp[hf] at hv
 | some cs=>
  simp only[hf] at hv
  cases hc:yp cs.length (n*s) with
  | false=>rw[hc] at hv;cases hv
  | true=>
   rw[hc] at hv;simp only[yC,yd,yo] at hv;obtain⟨rfl,rfl⟩:=hv;have hlen:=yh hc;obtain⟨zv,ns,rfl⟩:=Hc (w:=w) hz;have Cd:aB O.ah m S w (cellsOf (fm zv)) zv.cells.toList:=Et zv;have zI:=ij _ _ Cd;have DO:=acw tm ps _ _ hf;rw[Py] at DO;have I5:n*s=n*zv.cells.size:=by
    rw[<-hlen,DO,<-zI];simp
   have key:∃zr:Array yj,(n*s=0->zr=#[])/\(n*s≠0->zr=zv.cells)/\aB O.ah m S w (yD n (cellsOf (fm zv))).flatten ((tD (n*s)).map (fun x=>zr[x%zr.size]!)).toList:=by
    by_cases h0:n*s=0
    .refine ⟨#[],fun _=>rfl,fun h=>(h h0).elim,?_⟩
     have:(yD n (cellsOf (fm zv))).flatten=[]:=by
      apply yt;rw[Py,<-zI];simp only[vt]
      lia
     rw[this];simp[aB,h0]
    .refine ⟨zv.cells,fun h=>(h0 h).elim,fun _=>rfl,?_⟩;rw[I5,abE];exact UG Cd n
   have⟨zr,NV,oT,zJ⟩:=key;have⟨out,h1,h2⟩:=PW hH ht (place:=fun i=>GW (i*s,s)) parts.toList ps _ cs _ jc zJ hf;have jb:=ij _ _ h2
   refine Ui (arr:=out) (t:=e) (us:=out.toList) hh ?_ h2 (fun j u hj=>by simpa using hj) (by rw[<-jb];simp) (fun _=>by rw[<-jb];simp) (fun h=>h) (u:=.slice (GW ⟨w.heap.size,0,GX⟩) n n) ?_
   .have n8:¬(n*s>2^24):=by lia
    by_cases h0:n*s=0
    .have:=NV h0
     subst this;simp only[h0] at h1;simp[execOp,ho,Instr.buildSlice,run_underlying hu,pC hs,h0,newRow] at h1 ⊢;simp[h1]
    .have:=oT h0
     subst this;simp[execOp,ho,Instr.buildSlice,run_underlying hu,pC hs,h0,n8,ns,newRow] at h1 ⊢;simp[h1]
   .intro m' hi;simp only[aj];refine⟨_,n,hi,by simp,yz _,?_⟩;simp only[yf];rw[<-hlen,<-jb];simp
def Eu:∀{a b:List AV},aE a=ycN->aE b=ycN->aE (a++b)=ycN
 | [],_,_,h=>h
 | c::r,b,h,k=>by
  simp only[aE,ye] at h;simp only[xh,aE,ye];exact⟨h.1,Eu h.2 k⟩
def abF{z:List AV}(h:aE z=ycN):∀n,aE (yD n z).flatten=ycN
 | 0=>by simp[aE]
 | n+1=>by rw[wT,vS];exact Eu h (abF h n)
def an0{o:yV}{t e:yE}{s bX:Nat}{z:AV}{l c:xC}(hH:fH O H)(ht:b7 O m S w tm a.tmps)(hh:aT O m S w hp cq)(ho:o.op=.makeSlice t l c)(hu:O.P.underlying t=GW (.slice e))(hs:cC O.P e=GW s)(hb:AP O.P e=GW bX)(hz:mP O.P e=GW z)(hv:cP tm hp ct (.qt s bX (cellsOf z) (aK H l) (aK H c))=GW (v,b)):Fz O m S w a ct o v b:=by
 simp only[cP] at hv
 cases hl:dR (az tm (aK H l)) with
 | none=>simp[hl] at hv
 | some ln=>
  cases hc:dR (az tm (aK H c)) with
  | none=>simp[hl,hc] at hv
  | some cn=>
   simp only[hl,hc] at hv
   cases hk:(yJ ln cn&&(yJ cn room&&(yJ (cn*bX) room&&(yp (cellsOf z).length s&&bY (cellsOf z))))) with
   | false=>rw[hk] at hv;cases hv
   | true=>
    rw[hk] at hv;simp only[yC,yd,yo] at hv;obtain⟨rfl,rfl⟩:=hv;simp only[ye] at hk;have h1:=yu hk.1;have h2:=yu hk.2.1;have h3:=yu hk.2.2.1;have h4:=yh hk.2.2.2.1;simp only[room] at h2 h3;have⟨kl,el⟩:=Bs (b8 hH ht l) hl;have⟨kc,ec⟩:=Bs (b8 hH ht c) hc;obtain⟨zv,ns,rfl⟩:=Hc (w:=w) hz;have Cd:aB O.ah m S w (cellsOf (fm zv)) zv.cells.toList:=Et zv;have zI:=ij _ _ Cd;have Gk:zv.cells.size=s:=by rw[<-h4,<-zI];simp
    have wrapN:∀k:Nat,k<=1099511627776->IntKind.i64.wrap (k:Int)=k:=fun k hk=>IntWalk.i64_in _ (by lia)
    obtain⟨ti,zK,eS,NW⟩:∃ti,O.P.info? e=GW ti/\ti.size=s/\ti.bytes=bX:=by
     unfold cC at hs;unfold AP at hb
     cases hi:O.P.info? e with
     | none=>simp[hi] at hs
     | some ti=>simp only[hi,yd] at hs hb;exact⟨ti,rfl,hs,hb⟩
    have FI:((tD (cn*s)).map (zv.cells[·%zv.cells.size]!)).toList=(yD ln zv.cells.toList).flatten++(yD (cn-ln) zv.cells.toList).flatten:=by
     rw[<-Gk,abE,<-yaT,List.replicate_append_replicate]
     grind
    have bL:(yD ln (cellsOf (fm zv))).flatten.length=ln*s:=by rw[Py,h4]
    have hmul:ln*s<=cn*s:=yQ _ h1
    refine Ui (arr:=(tD (cn*s)).map (zv.cells[·%zv.cells.size]!)) (t:=e) (us:=(yD ln zv.cells.toList).flatten) hh (u:=.slice (GW ⟨w.heap.size,0,GX⟩) ln cn) ?_
     (UG Cd ln) ?_ ?_ ?_ (fun h=>?_) ?_
    .have aEF:bX*cn<=1099511627776:=by rw[xz];exact h3
     have AW:((bX*cn:Nat):Int)<=1099511627776:=by lia
     rw[Int.natCast_mul] at AW;have hlc:(ln:Int)<=(cn:Int):=by lia
     have g1:¬(281474976710656<(bX:Int)*(cn:Int)):=by lia
     have g2:¬(((ln:Int)<0)):=by lia
     have g3:¬(((cn:Int)<0)):=by lia
     have g4:¬((ln:Int)>(cn:Int)):=by lia
     by_cases h0:cn*s=0
     .simp [execOp,ho,Instr.makeSlice,run_underlying hu,el,ec,asInt,asIntOf,typeInfo,zK,NW,wrapN ln (by lia),wrapN cn h2,g1,g2,g3,g4,pC hs,h0,newRow,askRoom,roomBytes]
      grind
     .simp [execOp,ho,Instr.makeSlice,run_underlying hu,el,ec,asInt,asIntOf,typeInfo,zK,NW,wrapN ln (by lia),wrapN cn h2,g1,g2,g3,g4,pC hs,h0,newRow,askRoom,roomBytes,ns]
    .intro j u hj
     have:((tD (cn*s)).map (zv.cells[·%zv.cells.size]!)).toList[j]? =GW u:=by
      grind
     grind
    .grind
    .simp_all
    .exact abF h ln
    .intro m' hi;simp only[aj];refine⟨_,cn,hi,by simp,h1,?_⟩
     simp
def adH{o:yV}{k:Nat}(hH:fH O H)(ht:b7 O m S w tm a.tmps)(hh:aT O m S w hp cq)(hv:cP tm hp ct (aP O.P H k o)=GW (v,b)):Fz O m S w a ct o v b:=by
 cases ho:o.op with
 | call c=>
  have⟨callee,args,ts⟩:=c;simp only[aP,ho] at hv
  repeat' split at hv
  all_goals first
   | (simp[cP,bad] at hv;done)
   | (revert hv;generalize yp _ _=bb;intro hv;cases bb<;>simp[cP,bad] at hv)
 | alloc t=>
  simp only[aP,ho] at hv
  split at hv
  .rename_i s z hs hz;obtain⟨zv,ns,rfl⟩:=Hc (w:=w) hz
   exact acv (x:=zv) (t:=t) hh (by simp[execOp,ho,Instr.alloc,ns,newVar,newRow]) (Et zv) (by simpa only[cP,az] using hv)
  .simp [cP,bad] at hv
 | box t x=>
  simp only[aP,ho] at hv
  split at hv
  .rename_i s hs;simp only[cP] at hv
   cases hc:(yp (cellsOf (az tm (aK H x))).length s&&bY (cellsOf (az tm (aK H x)))) with
   | false=>rw[hc] at hv;cases hv
   | true=>
    have h1:=hc;simp only[ye] at h1
    exact acv (x:=a.eval x) (t:=t) hh (by simp[execOp,ho,Instr.box,newVar,newRow]) (Ug (b8 hH ht x) h1.2) hv
  .simp [cP,bad] at hv
 | buildSlice t n parts=>
  simp only[aP,ho] at hv
  split at hv
  .rename_i e hu
   split at hv
   .rename_i s z hs hz
    cases hc:yJ (n*s) 16777216 with
    | false=>rw[hc] at hv;simp[cP,bad] at hv
    | true=>
     rw[hc] at hv;simp only[yC] at hv
     split at hv
     .rename_i ps jc;exact amb hH ht hh ho hu hs hz (yu hc) jc hv
     .simp [cP,bad] at hv
   .simp [cP,bad] at hv
  .simp [cP,bad] at hv
 | makeSlice t l c=>
  simp only[aP,ho] at hv
  split at hv
  .rename_i e hu
   split at hv
   .rename_i s bX z hs hb hz
    exact an0 hH ht hh ho hu hs hb hz hv
   .simp [cP,bad] at hv
  .simp [cP,bad] at hv
 | makeMap t r=>
  cases r with
  | some x=>simp[aP,ho,cP,bad] at hv
  | none=>
   simp only[aP,ho] at hv
   repeat' split at hv
   all_goals first
    | (simp[cP,bad] at hv;done)
    | (
      simp only[cP,yd,yo] at hv;obtain⟨rfl,rfl⟩:=hv
      exact anZ hh ho rfl)
 | range t x=>
  simp only[aP,ho] at hv
  split at hv
  .rename_i hu;simp only[cP] at hv;have rx:=b8 hH ht x;cases hx:az tm (aK H x)<;>rw[hx] at hv rx<;>simp only[reduceCtorEq] at hv
   simp only[yd,yo] at hv;obtain⟨rfl,rfl⟩:=hv;exact al9 hh ho hu rx
  .simp [cP,bad] at hv
 | next x b=>cases b<;>simp[aP,ho,cP,bad] at hv
 | binOp op t x y ty=>
  cases op<;>simp only[aP,ho,oC,pL] at hv
  case eql=>
        repeat' split at hv
        all_goals first
         | (simp[cP,bad] at hv;done)
         | (cases hb:(O.P.stoodInHeld t||O.P.eqGuardType O.P.depth t)<;>rw[hb] at hv<;>simp[cP,bad] at hv)
  case neq=>
        repeat' split at hv
        all_goals first
         | (simp[cP,bad] at hv;done)
         | (cases hb:(O.P.stoodInHeld t||O.P.eqGuardType O.P.depth t)<;>rw[hb] at hv<;>simp[cP,bad] at hv)
  all_goals simp[cP] at hv
 | _=>
  simp only[aP,ho] at hv
  (repeat' split at hv)
  all_goals first
   | contradiction
   | (simp[cP,bad] at hv;done)
end
end
end
section
open Go
section
variable {hp au:Hp}{cs vs eh:List AV}
def Ac{id i:Nat}{o:Obj}:ax (aY hp id o) i=if id=i then (if (ax hp id).isSome then GW o else GX) else ax hp i:=by
 induction hp with
 | nil=>simp[aY,ax]
 | cons x r ih=>
  have⟨j,q⟩:=x;simp only[aY];by_cases hj:j=id
  .subst hj;simp only[wO,yC,ax];by_cases hi:j=i
   .simp_all
   .have:yp j i=ycO:=by
     cases hq:yp j i with
     | false=>rfl
     | true=>exact absurd (yh hq) hi
    grind
  .have hb:yp j id=ycO:=by
    cases hq:yp j id with
    | false=>rfl
    | true=>exact absurd (yh hq) hj
   simp only[hb,yX];rw[show ax ((j,q)::aY r id o) i=bif yp j i then GW q else ax (aY r id o) i from rfl,ih];by_cases hi:j=i
   .subst hi
    have:¬id=j:=fun h=>hj h.symm
    simp[wO,this,ax]
   .have AW:yp j i=ycO:=by
     cases hq:yp j i with
     | false=>rfl
     | true=>exact absurd (yh hq) hi
    simp[AW,ax,hb]
def lE(hp au:Hp):Prop:=∀id,(ax au id).isSome=(ax hp id).isSome
def lE.refl:lE hp hp:=fun _=>rfl
def lE.trans{a b c:Hp}(h:lE a b)(k:lE b c):lE a c:=fun id=>(k id).trans (h id)
def Vb{id:Nat}{o o':Obj}(h:ax hp id=GW o)(hl:jo o o'):cU hp (aY hp id o')/\lE hp (aY hp id o'):=by
 constructor
 .intro i q hq;rw[Ac];by_cases hi:id=i
  .grind
  .exact ⟨q,by simp[hi,hq],jo.refl q⟩
 .intro i;rw[Ac]
  grind
def abG{H:Hp}{id:Nat}{pu ex:Bool}{sz:Nat}(hl:cU hp H)(h:ax hp id=GW (.cells ycO pu ex sz cs)):ax H id=GW (.cells ycO pu ex sz cs):=by
 obtain⟨o',h1,eN,rfl,h2⟩:=hl id _ h
 cases eN with
 | false=>exact h1
 | true=>exact absurd (h2 rfl) (by simp)
section
variable {O:bz}
def awY(O:bz)(m:Mp)(S:Nat->Prop)(w:ym)(p:Pl)(ex:Bool)(sz:Nat)(cs:List AV):Prop:=
 p.z=sz/\cs.length<=p.e/\(ex=ycN->cs.length=p.e)/\S p.b/\aE cs=ycN/\b5 O.ah m S w cs p.b p.o
def WT(O:bz)(au:Hp)(v v':AV):Prop:=∀H m S w ct,cU au H->aT O m S w H ct->(∀u,aj O.ah m S w v u->aj O.ah m S w v' u)/\aQ v'=ycN
def agA(O:bz)(au:Hp)(vs eh:List AV):Prop:=∀H m S w ct,cU au H->aT O m S w H ct->(∀us,aB O.ah m S w vs us->aB O.ah m S w eh us)/\aE eh=ycN
def ayG(O:bz)(au:Hp)(id:Nat)(ex:Bool)(sz:Nat)(cs:List AV):Prop:=∀H m S w ct,cU au H->aT O m S w H ct->∀p,m id=GW p->awY O m S w p ex sz cs
def G6{ah:Nat->Nat}{m:Mp}{S:Nat->Prop}{w:ym}{b:Nat}:∀(cs:List AV) (us:List yj) (o:Nat),aB ah m S w cs us->
  (∀(j:Nat) (u:yj),us[j]? =GW u->w.cell? ⟨b,o+j,GX⟩=GW u)->b5 ah m S w cs b o
 | [],us,o,_,_=>by simp only[b5]
 | c::cs,us,o,h,hu=>by
  obtain⟨u,r,rfl,h2,h3⟩:=h;refine⟨⟨u,by simpa using hu 0 u (by simp),h2⟩,G6 cs r (o+1) h3 (fun j v hv=>?_)⟩;rw[show o+1+j=o+(j+1) by lia]
  simp_all
def awZ{m:Mp}{S:Nat->Prop}{w:ym}{ck:List AV}(h:∀us,aB O.ah m S w cs us->aB O.ah m S w ck us){b o:Nat}(hr:b5 O.ah m S w cs b o):b5 O.ah m S w ck b o:=by
 have⟨us,h1,_,h3⟩:=zZ cs b o hr;exact G6 ck us o (h us h1) h3
def Cz:∀(k:Nat) {cs:List AV},aE cs=ycN->aE (cs.take k)=ycN
 | 0,_,_=>by simp[aE]
 | k+1,[],_=>by simp[aE]
 | k+1,c::cs,h=>by
  simp only[aE,ye,wI] at h ⊢;exact⟨h.1,Cz k h.2⟩
def an1:∀{n:Nat} {hp:Hp},cg n hp vs=GW (eh,au)->eh.length=vs.length:=by
 intro n
 induction n generalizing vs eh au with
 | zero=>intro hp h;simp[cg] at h
 | succ n ih=>
  intro hp h
  cases vs with
  | nil=>simp only[cg,yd,yo] at h;rw[<-h.1]
  | cons v r=>
   simp only[cg] at h
   cases h1:freeze n hp v with
   | none=>simp[h1] at h
   | some q=>
    have⟨v',bk⟩:=q;simp only[h1] at h
    cases h2:cg n bk r with
    | none=>simp[h2] at h
    | some q2=>
     grind
def aa0:∀n:Nat,
  (∀hp v v' au,freeze n hp v=GW (v',au)->cU hp au/\lE hp au/\WT O au v v')/\
  (∀hp id ex sz cs au,Aa n hp id=GW (ex,sz,cs,au)->cU hp au/\lE hp au/\ayG O au id ex sz cs)/\
  (∀hp vs eh au,cg n hp vs=GW (eh,au)->cU hp au/\lE hp au/\agA O au vs eh):=by
 intro n
 induction n with
 | zero=>refine⟨?_,?_,?_⟩<;>intros<;>simp_all[freeze,Aa,cg]
 | succ n ih=>
  have⟨ihV,ihB,I6⟩:=ih;refine⟨?_,?_,?_⟩
  .intro hp v v' au h;have plain:∀{v v':AV} {hp au:Hp},(bif aQ v then GW (v,hp) else GX)=GW (v',au)->cU hp au/\lE hp au/\WT O au v v':=by
    intro v v' hp au h
    cases hc:aQ v with
    | false=>rw[hc] at h;cases h
    | true=>
     rw[hc] at h;simp only[yC,yd,yo] at h;obtain⟨rfl,rfl⟩:=h;exact⟨cU.refl,lE.refl,fun _ _ _ _ _ _ _=>⟨fun _ h=>h,hc⟩⟩
   cases v<;>simp only[freeze] at h<;>first | exact plain h | skip
   case aq id o k=>
    cases hb:Aa n hp id with
    | none=>simp[hb] at h
    | some q=>
     have⟨ex,sz,cs,bk⟩:=q;simp only[hb] at h
     cases hc:yJ (o+k*sz) cs.length with
     | false=>rw[hc] at h;cases h
     | true=>
      rw[hc] at h;simp only[yC,yd,yo] at h;obtain⟨rfl,rfl⟩:=h;have hle:=yu hc;have⟨h1,h2,h3⟩:=ihB _ _ _ _ _ _ hb;refine⟨h1,h2,fun H m S w ct hl hh=>⟨fun u hu=>?_,by simp only[aQ]⟩⟩;simp only[aj] at hu ⊢;obtain⟨p,c,hm,rfl,qu,SE⟩:=hu;have⟨g1,g2,g3,g4,g5,g6⟩:=h3 H m S w ct hl hh p hm;refine .inl ⟨p.b,p.o+o,c,rfl,qu,?_,.inr g4,Cz _ (Bm _ _ g5),Bl _ _ _ _ (zc _ _ _ _ g6)⟩;intro hx;simp only[ye] at hx;have e1:=yh hx.2;have e2:0<sz:=by
       simp_all
      have e3:=g3 hx.1.1;rw[g1] at SE
      have:c*sz=k*sz:=by lia
      exact Nat.eq_of_mul_eq_mul_right e2 this
   case ptr id o=>
    cases hb:Aa n hp id with
    | none=>simp[hb] at h
    | some q=>
     have⟨ex,sz,cs,bk⟩:=q;simp only[hb,yd,yo] at h;obtain⟨rfl,rfl⟩:=h;have⟨h1,h2,h3⟩:=ihB _ _ _ _ _ _ hb;refine⟨h1,h2,fun H m S w ct hl hh=>⟨fun u hu=>?_,by simp only[aQ]⟩⟩;simp only[aj] at hu ⊢;obtain⟨p,hm,rfl⟩:=hu;have⟨g1,g2,g3,g4,g5,g6⟩:=h3 H m S w ct hl hh p hm;exact⟨p.b,p.o+o,rfl,.inr g4,Bm _ _ g5,zc _ _ _ _ g6⟩
   case map id=>
    cases hg:ax hp id with
    | none=>simp[hg] at h
    | some ob=>
     cases ob<;>simp only[hg,reduceCtorEq] at h
     rename_i rw ks vs
     cases hc:(aE ks&&aE vs) with
     | false=>rw[hc] at h;cases h
     | true=>
      rw[hc] at h;simp only[yC,yd,yo] at h;obtain⟨rfl,rfl⟩:=h;simp only[ye] at hc;have⟨h1,h2⟩:=Vb hg (o':=.mp ycO ks vs) ⟨ycO,rfl,by simp⟩;refine⟨h1,h2,fun H m S w ct hl hh=>⟨fun u hu=>?_,by simp only[aQ]⟩⟩;simp only[aj] at hu ⊢;obtain⟨p,hm,rfl⟩:=hu;have hq:ax (aY hp id (.mp ycO ks vs)) id=GW (.mp ycO ks vs):=by rw[Ac];simp[hg]
      obtain⟨o',h3,eN,rfl,h4⟩:=hl id _ hq;have zH:eN=ycO:=by cases eN with | false=>rfl | true=>exact absurd (h4 rfl) (by simp)
      subst zH;have⟨p',es,clock,g1,g2,g3,g4,g5,g6⟩:=hh.obj id _ _ h3 hm;rw[hm] at g1;injection g1 with g1
      subst g1;exact⟨p.b,es,clock,rfl,g6 rfl,hc.1,hc.2,g2,g3,g4⟩
   case fn f first cap=>
    cases f with
    | y l=>simp only[aQ,yX,reduceCtorEq] at h
    | f g=>
     simp only at h
     cases h1:cg n hp first with
     | none=>simp[h1] at h
     | some q=>
      have⟨aen,bk⟩:=q;simp only[h1] at h
      cases h2:cg n bk cap with
      | none=>simp[h2] at h
      | some q2=>
       have⟨Q7,jP⟩:=q2;simp only[h2,yd,yo] at h;obtain⟨rfl,rfl⟩:=h;have⟨a1,a2,a3⟩:=I6 _ _ _ _ h1;have⟨b1,b2,b3⟩:=I6 _ _ _ _ h2;refine⟨a1.trans b1,a2.trans b2,fun H m S w ct hl hh=>?_⟩;have⟨c1,c2⟩:=a3 H m S w ct (b1.trans hl) hh;have⟨d1,d2⟩:=b3 H m S w ct hl hh;refine⟨fun u hu=>?_,by simp[aQ,c2,d2]⟩;simp only[aj] at hu ⊢;obtain⟨fi,ca,rfl,e1,e2⟩:=hu;exact⟨fi,ca,rfl,c1 _ e1,d1 _ e2⟩
   case agg cs=>
    cases h1:cg n hp cs with
    | none=>simp[h1] at h
    | some q=>
     have⟨ck,bk⟩:=q;simp only[h1,yd,yo] at h;obtain⟨rfl,rfl⟩:=h;have⟨a1,a2,a3⟩:=I6 _ _ _ _ h1;refine⟨a1,a2,fun H m S w ct hl hh=>?_⟩;have⟨c1,c2⟩:=a3 H m S w ct hl hh;refine⟨fun u hu=>?_,by simpa[aQ] using c2⟩;simp only[aj] at hu ⊢;obtain⟨xs,rfl,e1⟩:=hu;exact⟨xs,rfl,c1 _ e1⟩
   case av cs=>
    cases h1:cg n hp cs with
    | none=>simp[h1] at h
    | some q=>
     have⟨ck,bk⟩:=q;simp only[h1,yd,yo] at h;obtain⟨rfl,rfl⟩:=h;have⟨a1,a2,a3⟩:=I6 _ _ _ _ h1;refine⟨a1,a2,fun H m S w ct hl hh=>?_⟩;have⟨c1,c2⟩:=a3 H m S w ct hl hh;refine⟨fun u hu=>?_,by simpa[aQ] using c2⟩;simp only[aj] at hu ⊢;obtain⟨xs,rfl,e1⟩:=hu;exact⟨xs,rfl,c1 _ e1⟩
  .intro hp id ex sz ck au h;simp only[Aa] at h
   cases hg:ax hp id with
   | none=>simp[hg] at h
   | some ob=>
    cases ob<;>simp only[hg,reduceCtorEq] at h
    rename_i rw pu AQ DP cs
    cases pu with
    | true=>
     simp only[yC,yd,yo] at h;obtain⟨rfl,rfl,rfl,rfl⟩:=h;have hq:cU hp (bif rw then aY hp id (.cells ycO ycN AQ DP cs) else hp)/\lE hp (bif rw then aY hp id (.cells ycO ycN AQ DP cs) else hp)/\ax (bif rw then aY hp id (.cells ycO ycN AQ DP cs) else hp) id=GW (.cells ycO ycN AQ DP cs):=by
      cases rw with
      | true=>
       have⟨h1,h2⟩:=Vb hg (o':=.cells ycO ycN AQ DP cs) ⟨ycO,rfl,by simp⟩;exact⟨h1,h2,by simp[Ac,hg]⟩
      | false=>exact⟨cU.refl,lE.refl,hg⟩
     refine⟨hq.1,hq.2.1,fun H m S w ct hl hh p hm=>?_⟩;have⟨p',arr,t,g1,g2,g3,g4,g5,g6,g7,g8,g9,g10⟩:=hh.obj id _ _ (abG hl hq.2.2) hm;rw[hm] at g1;injection g1 with g1
     subst g1;exact⟨g3,g4,g6,g10 rfl,g8 rfl,g7⟩
    | false=>
     simp only[yX] at h
     cases h1:cg n hp cs with
     | none=>simp[h1] at h
     | some q=>
      have⟨AX,bk⟩:=q;simp only[h1,yd,yo] at h;obtain⟨rfl,rfl,rfl,rfl⟩:=h;have⟨a1,a2,a3⟩:=I6 _ _ _ _ h1;obtain⟨o1,gM,rw1,rfl,_⟩:=a1 id _ hg;have⟨b1,b2⟩:=Vb gM (o':=.cells ycO ycO AQ DP cs) ⟨ycO,rfl,by simp⟩;refine⟨a1.trans b1,a2.trans b2,fun H m S w ct hl hh p hm=>?_⟩;have hq:ax (aY bk id (.cells ycO ycO AQ DP cs)) id=GW (.cells ycO ycO AQ DP cs):=by simp[Ac,gM]
      have⟨p',arr,t,g1,g2,g3,g4,g5,g6,g7,g8,g9,g10⟩:=hh.obj id _ _ (abG hl hq) hm;rw[hm] at g1;injection g1 with g1
      subst g1;have⟨c1,c2⟩:=a3 H m S w ct (b1.trans hl) hh;have hlen:=an1 h1
      exact⟨g3,by lia,fun hx=>by have:=g6 hx;lia,g10 rfl,c2,awZ c1 g7⟩
  .intro hp vs eh au h
   cases vs with
   | nil=>
    simp only[cg,yd,yo] at h;obtain⟨rfl,rfl⟩:=h;exact⟨cU.refl,lE.refl,fun _ _ _ _ _ _ _=>⟨fun _ h=>h,rfl⟩⟩
   | cons v r=>
    simp only[cg] at h
    cases h1:freeze n hp v with
    | none=>simp[h1] at h
    | some q=>
     have⟨v1,bk⟩:=q;simp only[h1] at h
     cases h2:cg n bk r with
     | none=>simp[h2] at h
     | some q2=>
      have⟨r1,jP⟩:=q2;simp only[h2,yd,yo] at h;obtain⟨rfl,rfl⟩:=h;have⟨a1,a2,a3⟩:=ihV _ _ _ _ h1;have⟨b1,b2,b3⟩:=I6 _ _ _ _ h2;refine⟨a1.trans b1,a2.trans b2,fun H m S w ct hl hh=>?_⟩;have⟨c1,c2⟩:=a3 H m S w ct (b1.trans hl) hh;have⟨d1,d2⟩:=b3 H m S w ct hl hh;refine⟨fun us hu=>?_,by simp[aE,c2,d2]⟩;simp only[aB] at hu ⊢;obtain⟨u,t,rfl,e1,e2⟩:=hu;exact⟨u,t,rfl,c1 _ e1,d1 _ e2⟩
def TU{n:Nat}(h:cg n hp vs=GW (eh,au)):cU hp au/\lE hp au/\agA O au vs eh:=(aa0 n).2.2 _ _ _ _ h
def Uj{n:Nat}{v v':AV}(h:freeze n hp v=GW (v',au)):cU hp au/\lE hp au/\WT O au v v':=(aa0 n).1 _ _ _ _ h
end
end
end
section
open Go
section
variable {v:AV}{au:Hp}{cs new:List AV}{aX o:Nat}
section
variable {O:bz}{H:Hint}{m:Mp}{S:Nat->Prop}{w:ym}{tm:Env}{a:Act}{hp:Hp}{ct:Nat}
structure One(w w':ym)(g:Nat):Prop where
 os:w'.os=w.os
 tape:w'.tape=w.tape
 output:w'.output=w.output
 size:w'.heap.size=w.heap.size
 other:∀b,b≠g->w'.heap[b]? =w.heap[b]?
def TV(w:ym)(g:Nat)(cs:Array yj):One w (w.setRow g cs) g:=
 ⟨rfl,rfl,rfl,by simp,fun b hb=>setRow_other w g b cs hb⟩
def Lc{id:Nat}{o:Obj}{p:Pl}(h:ax hp id=GW o)(hm:m id=GW p):eH m hp p.b:=⟨id,o,p,h,hm,rfl⟩
def an2{id:Nat}{o':Obj}{b:Nat}(h:eH m (aY hp id o') b):eH m hp b:=by
 have⟨i,o,p,h1,h2,h3⟩:=h;rw[Ac] at h1;by_cases hi:id=i
 .subst hi
  cases hq:ax hp id with
  | none=>simp[hq] at h1
  | some q=>exact⟨id,q,p,hq,h2,h3⟩
 .simp only [hi,xE] at h1;exact⟨i,o,p,h1,h2,h3⟩
def KM(hh:aT O m S w hp ct){id:Nat}{o o':Obj}{p:Pl}{w':ym}(ho:ax hp id=GW o)(hm:m id=GW p)(hn:¬S p.b)(hw:One w w' p.b)(h':fJ O m S w' id o')(hk:∀r:uT,w.heap[p.b]? =GW (.loop r)->∃r':uT,w'.heap[p.b]? =GW (.loop r')):
  aT O m S w' (aY hp id o') ct/\cr m S w hp m S w' (aY hp id o') ct:=by
 have aU:gj S w w':=fun b hb=>hw.other b (fun e=>hn (e▸hb))
 refine⟨⟨?_,hh.lt,?_,?_,?_,hh.low,?_,?_,fun i q hq=>(by
  rw[Ac] at hq;by_cases hc:id=i
  .subst hc;exact hh.aH _ _ ho
  .simp only [hc,xE] at hq;exact hh.aH _ _ hq)⟩,⟨hw.os,hw.tape,hw.output,by rw[hw.size];exact yz _,?_,fun _ h=>h,fun b hb=>aU b hb,fun b hb=>.inl hb,fun b hb=>.inl (an2 hb),fun _ _ _ h=>h,fun b r hb=>?_⟩⟩
 rotate_right
 .by_cases hc:b=p.b
  .subst hc;exact hk r hb
  .exact ⟨r,(hw.other b hc).trans hb⟩
 .intro i q pi hi bO;rw[Ac] at hi;by_cases hc:id=i
  .subst hc;simp only[xS,ho,Option.isSome_some] at hi;injection hi with hi
   subst hi;exact h'
  .simp only [hc,xE] at hi;refine Ab (fun _ _ h=>h) (fun _ h=>h) aU (fun q' bB=>?_) (fun _ _ h=>h) (hh.obj i q pi hi bO);exact hw.other _ (fun e=>hc (hh.inj i id q o q' p hi ho bB hm e).symm)
 .intro i j oi oj pi pj hi hj bO ia e;have key:∀{i:Nat} {oi:Obj},ax (aY hp id o') i=GW oi->∃NT,ax hp i=GW NT:=by
   intro i oi hi;rw[Ac] at hi;by_cases hc:id=i
   .subst hc;exact⟨o,ho⟩
   .simp only [hc,xE] at hi;exact⟨oi,hi⟩
  have⟨NT,dP⟩:=key hi;have⟨NS,YA⟩:=key hj;exact hh.inj i j NT NS pi pj dP YA bO ia e
 .intro b hb;rw[hw.size];exact hh.slt b hb
 .intro i q hq;rw[hw.size];exact hh.blt i q hq
 .intro b hb
  rw[hw.other b (fun e=>by have:=hh.low id p hm;lia)]
  exact hh.mX b hb
 .rw [hw.size];exact hh.gJ
 .intro b _ hb;exact hw.other b (fun e=>hb (e▸Lc ho hm))
def BE(O:bz)(m:Mp)(S:Nat->Prop)(w:ym)(a:Act)(hp:Hp)(ct:Nat)(o:yV)(v:AV)(au:Hp)(aX:Nat):Prop:=
 ∃n u w' m' S',(execOp a.eval o).run O.P w=.ok n w'/\(n=.value u\/(n=.skip/\u=undef))/\aT O m' S' w' au aX/\aj O.ah m' S' w' v u/\dz m m'/\cr m S w hp m' S' w' au ct
def an3{ah:Nat->Nat}{u:yj}(h:aj ah m S w v u)(ho:cY v=ycN):u.oneCell'=ycN:=by
 cases v with
 | fn f a b=>
  cases f with
  | f g=>simp only[aj] at h;obtain⟨_,_,rfl,_⟩:=h;rfl
  | y l=>simp only[aj] at h;obtain⟨_,_,rfl⟩:=h;rfl
 | int k n=>simp only[aj] at h;subst h;rfl
 | bool b=>simp only[aj] at h;subst h;rfl
 | ay k n=>simp only[aj] at h;subst h;rfl
 | bT k n i=>simp only[aj] at h;subst h;rfl
 | str s=>simp only[aj] at h;obtain⟨_,rfl,_⟩:=h;rfl
 | mT=>simp only[aj] at h;subst h;rfl
 | ptr i k=>simp only[aj] at h;obtain⟨_,_,rfl⟩:=h;rfl
 | bN cs=>simp only[aj] at h;obtain⟨_,_,rfl,_⟩:=h;rfl
 | ab=>simp only[aj] at h;subst h;rfl
 | ap e n cs=>simp only[aj] at h;rcases h with ⟨_,_,_,rfl,_⟩ | ⟨_,rfl,_,_⟩<;>rfl
 | cL _ _ _ _=>simp[cY] at ho
 | aq i k n=>simp only[aj] at h;obtain⟨_,_,_,rfl,_⟩:=h;rfl
 | jH=>simp only[aj] at h;subst h;rfl
 | lK=>simp only[aj] at h;subst h;rfl
 | map i=>simp only[aj] at h;obtain⟨_,_,rfl⟩:=h;rfl
 | lL ks vs=>simp only[aj] at h;obtain⟨_,_,_,rfl,_⟩:=h;rfl
 | it i=>simp only[aj] at h;obtain⟨_,_,rfl⟩:=h;rfl
 | agg cs=>simp[cY] at ho
 | av cs=>simp[cY] at ho
 | undef=>simp[cY] at ho
def Pg{ah:Nat->Nat}:∀{vs:List AV} {us:List yj},aB ah m S w vs us->bY vs=ycN->∀u∈us,u.oneCell'=ycN
 | [],us,h,_,u,hu=>by simp only[aB] at h;subst h;cases hu
 | v::r,us,h,ho,u,hu=>by
  obtain⟨u',t,rfl,h1,h2⟩:=h;simp only[bY,ye] at ho;rcases List.mem_cons.1 hu with rfl | hu
  .exact an3 h1 ho.1
  .exact Pg h2 ho.2 u hu
def acx{arr:Array yj}{t:yE}{p:Pl}{vs:List yj}{S':Nat->Prop}{m':Mp}(hb:w.heap[p.b]? =GW (.cells arr t (0,0)))(hr:b5 O.ah m S w cs p.b p.o)(hv:aB O.ah m S w new vs)(hl:o+new.length<=cs.length)(hs:p.o+cs.length<=arr.size){w':ym}(hm:dz m m')(hS:∀b,S b->S' b)(aU:gj S w w')(hw:w'.heap[p.b]? =GW (.cells (arr.toList.take (p.o+o)++vs++arr.toList.drop (p.o+o+vs.length)).toArray t (0,0))):b5 O.ah m' S' w' (over o new cs) p.b p.o:=by
 have⟨us,h1,h2,h3⟩:=zZ cs p.b p.o hr;have hvl:=ij _ _ hv;have h4:aB O.ah m S w (over o new cs) (us.take o++vs++us.drop (o+new.length)):=mF (mF (G2 o h1) hv) (KC _ h1);refine G6 _ _ _ (iE hm hS aU _ _ h4) (fun j u hj=>?_);have FA:∀k u,us[k]? =GW u->arr[p.o+k]? =GW u:=by
  intro k u hk
  have:=h3 k u hk
  simpa[World.cell?,hb] using this
 simp only[World.cell?,hw,tL,yL,xE];rw[yaJ];have e1:(arr.toList.take (p.o+o)).length=p.o+o:=by rw[yO,vt];lia
 have e2:(us.take o).length=o:=by rw[yO];lia
 by_cases c1:j<o
 .have g1:(us.take o++vs++us.drop (o+new.length))[j]? =us[j]? :=by
   rw[xJ,wH (by lia),uY c1]
  rw[g1] at hj;rw[xJ,wH (by lia),uY (by lia)];simpa using FA j u hj
 .by_cases c2:j<o+vs.length
  .have g1:(us.take o++vs++us.drop (o+new.length))[j]? =vs[j-o]? :=by
    rw[xJ,wq (by lia),e2,wH (by lia)]
   rw[g1] at hj;rw[xJ,wq (by lia),e1,wH (by lia),show p.o+j-(p.o+o)=j-o by lia];exact hj
  .have g1:(us.take o++vs++us.drop (o+new.length))[j]? =us[j]? :=by
    rw[xJ,wq (by lia),e2,wq (by lia),ybe]
    congr 1
    lia
   rw[g1] at hj;rw[xJ,wq (by lia),e1,wq (by lia),ybe,show p.o+o+vs.length+(p.o+j-(p.o+o)-vs.length)=p.o+j by lia];simpa using FA j u hj
def Pz(hl:o+new.length<=cs.length):(over o new cs).length=cs.length:=by
 simp only[over,yM,yO,xX];lia
def aa1(h:aE cs=ycN)(h':aE new=ycN):aE (over o new cs)=ycN:=
 Eu (Eu (Cz _ h) h') (Bm _ _ h)
def aqd{o:yV}{t:yE}{x y:xC}{sz:Nat}(hH:fH O H)(ht:b7 O m S w tm a.tmps)(hh:aT O m S w hp ct)(ho:o.op=.store t x y)(hz:cC O.P t=GW sz)(hv:cz tm hp ct (.st sz (aK H x) (aK H y))=GW (v,au,aX)):BE O m S w a hp ct o v au aX:=by
 simp only[cz] at hv;have rx:=b8 hH ht x;cases hx:az tm (aK H x)<;>rw[hx] at hv rx<;>simp only[reduceCtorEq] at hv
 rename_i id k;simp only[aj] at rx;have⟨p,hm,ex⟩:=rx
 split at hv
 case h_2=>cases hv
 rename_i pu SF z cs hg
 cases hc:(yp (cellsOf (az tm (aK H y))).length sz&&yJ (k+sz) cs.length&&bY (cellsOf (az tm (aK H y)))) with
 | false=>rw[hc] at hv;cases hv
 | true=>
  rw[hc] at hv;simp only[yC,yd,yo] at hv;obtain⟨rfl,rfl,rfl⟩:=hv;simp only[ye] at hc;have c1:=yh hc.1.1;have c2:=yu hc.1.2;have ry:=Ug (b8 hH ht y) hc.2;have hl:=ij _ _ ry;have⟨p',arr,t',g1,g2,g3,g4,g5,g6,g7,g8,g9,g10⟩:=hh.obj id _ _ hg hm;rw[hm] at g1;injection g1 with g1
  subst g1;have fO:=Pg ry hc.2;have dY:=run_storeCells_at O.P p.b (p.o+k) t' (a.eval y).cells.toList 0 arr w g2 (by rw[hl];lia) fO
  simp only[xd] at dY;have aw0:(a.eval y).cells.size=sz:=by simp_all
  have qB:fJ O m S (w.setRow p.b (arr.toList.take (p.o+k)++(a.eval y).cells.toList++arr.toList.drop (p.o+k+(a.eval y).cells.toList.length)).toArray) id
    (.cells ycN (pu&&aE (cellsOf (az tm (aK H y)))) SF z (over k (cellsOf (az tm (aK H y))) cs)):=by
   refine⟨p,_,t',hm,setRow_heap w p.b arr _ t' _ g2,g3,by rw[Pz (by lia)];exact g4,?_,fun h=>by rw[Pz (by lia)];exact g6 h,?_,?_,fun _=>g9 rfl,by simp⟩
   .grind
   .exact acx g2 g7 ry (by lia) (by lia) dz.refl (fun _ h=>h) (fun b hb=>setRow_other w p.b b _ (fun e=>g9 rfl (e▸hb))) (setRow_heap w p.b arr _ t' _ g2)
   .intro h;simp only[ye] at h;exact aa1 (g8 h.1) h.2
  have⟨e1,e2⟩:=KM hh hg hm (g9 rfl) (TV w p.b _) qB (fun r hr=>by rw[g2] at hr;cases hr);refine⟨.skip,undef,_,m,S,?_,.inr ⟨rfl,rfl⟩,e1,by simp[aj,aB,undef],dz.refl,e2⟩;simp only[execOp,ho,Instr.storeAt,ex,Instr.sureAddr,Sem.run_bind,Sem.run_pure,Result.andThen_ok,storeVar,pC hz,aw0,ne_eq,ycK,xE];simp[dY]
def GZ(w:ym)(g:Nat)(o:yal):One w {w with heap:=w.heap.setIfInBounds g o} g:=
 ⟨rfl,rfl,rfl,by simp,fun b hb=>by simp[Array.getElem?_setIfInBounds_ne (fun e=>hb e.symm)]⟩
def O2{g:Nat}{o q:yal}(h:w.heap[g]? =GW q):({w with heap:=w.heap.setIfInBounds g o}:ym).heap[g]? =GW o:=by grind
def acy{o:yV}{t kt e:yE}{x k y:xC}{kk:Nat}(hH:fH O H)(ht:b7 O m S w tm a.tmps)(hh:aT O m S w hp ct)(ho:o.op=.mapUpdate t x k y\/o.op=.insert t x k y)(hu:O.P.underlying t=GW (.map kt e))(zG:VE.keyOf O.P kt=GW kk)(hv:cz tm hp ct (.sB kk (aK H x) (aK H k) (aK H y))=GW (v,au,aX)):BE O m S w a hp ct o v au aX:=by
 simp only[cz] at hv;have rx:=b8 hH ht x;cases hx:az tm (aK H x)<;>rw[hx] at hv rx<;>simp only[reduceCtorEq] at hv
 rename_i id;simp only[aj] at rx;obtain⟨p,hm,ex⟩:=rx
 split at hv
 case h_2=>cases hv
 rename_i ks vs hg
 cases hc:pI kk (az tm (aK H k)) with
 | false=>simp[hc] at hv
 | true=>
  simp only[hc,Bool.not_true,yX] at hv
  cases bk:BQ (az tm (aK H k)) (az tm (aK H y)) ks vs with
  | none=>simp[bk] at hv
  | some q=>
   obtain⟨lQ,eh⟩:=q;simp only[bk,yd,yo] at hv;obtain⟨rfl,rfl,rfl⟩:=hv;obtain⟨E,hE,hF⟩:=aaY (P:=O.P) zG hc (b8 hH ht k);obtain⟨p',es,clock,g1,g2,g3,g4,g5,g6⟩:=hh.obj id _ _ hg hm;rw[hm] at g1;injection g1 with g1
   subst g1;have ayH:=adE hE (b8 hH ht k) (b8 hH ht y) ks vs es.toList 0 lQ eh g3 g4 bk
   have fin:∀(Gl:Array wV) (c':Nat),(Instr.mapUpdate t (a.eval x) (a.eval k) (a.eval y)).run O.P w=.ok () {w with heap:=w.heap.setIfInBounds p.b (.map Gl c')}->
     aB O.ah m S w lQ (Gl.toList.map (·.key))->aB O.ah m S w eh (Gl.toList.map (·.val))->BE O m S w a hp ct o (.av []) (aY hp id (.mp ycN lQ eh)) ct:=by
    intro Gl c' dY h1 h2
    have aU:gj S w {w with heap:=w.heap.setIfInBounds p.b (.map Gl c')}:=fun b hb=>(GZ w p.b _).other b (fun e=>g5 rfl (e▸hb))
    have qB:fJ O m S {w with heap:=w.heap.setIfInBounds p.b (.map Gl c')} id (.mp ycN lQ eh):=
     ⟨p,Gl,c',hm,O2 g2,iE (fun _ _ h=>h) (fun _ h=>h) aU _ _ h1,iE (fun _ _ h=>h) (fun _ h=>h) aU _ _ h2,fun _=>g5 rfl,by simp⟩
    obtain⟨e1,e2⟩:=KM hh hg hm (g5 rfl) (GZ w p.b _) qB (fun r hr=>by rw[g2] at hr;cases hr);refine⟨.skip,undef,_,m,S,?_,.inr ⟨rfl,rfl⟩,e1,by simp[aj,aB,undef],dz.refl,e2⟩;rcases ho with ho | ho<;>simp[execOp,ho,dY]
   have dO:=aaA (P:=O.P) (w:=w) zG hc (b8 hH ht k) ycO;rcases ayH with ⟨h1,h2,h3⟩ | ⟨j,e0,vc,vk0,h1,h2,⟨q1,q2,h3⟩,h4,h5⟩
   .refine fin (es.push ⟨a.eval k,a.eval y,clock⟩) (clock+1) ?_ (by simpa using h2) (by simpa using h3);rw[ex];simp[Instr.mapUpdate,run_underlying hu,MapKept.run_getObj_map g2,dO,hF _ _ h1,MapKept.run_setObj_map _ g2]
   .have hj:es[j]? =GW e0:=by simpa using h2
    simp only[yf] at h1;obtain⟨agB,hsb⟩:=anX q1 q2 h3
    refine fin (es.modify j fun e=>{e with key:=a.eval k,val:=a.eval y}) clock ?_ ?_ ?_
    .rw [ex];simp[Instr.mapUpdate,run_underlying hu,MapKept.run_getObj_map g2,dO,hF _ _ h1,MapKept.run_setObj_map _ g2,hj,Instr.keyThatStays,hsb,agB.symm]
    .have:(es.modify j fun e=>{e with key:=a.eval k,val:=a.eval y}).toList.map (·.key)=es.toList.map (·.key):=by
      apply ybh;intro n;simp only[uU,tn,yaF];by_cases hn:j=n
      .subst hn;simp[hj,agB]
      .simp [hn]
     rw[this];exact h4
    .have:(es.modify j fun e=>{e with key:=a.eval k,val:=a.eval y}).toList.map (·.val)=(es.toList.map (·.val)).set j (a.eval y):=by
      apply ybh;intro n;simp only[uU,tn,yaF,List.getElem?_set];by_cases hn:j=n
      .subst hn
       have:=(xD.1 hj).1
       simp[this]
      .simp [hn]
     rw[this];exact h5
def aqe(t:ByteArray)(i:Nat):(t.get! i).toNat=(t.data.toList.map xp).getD i 0:=by
 have:t.get! i=t.data[i]! :=by cases t;rfl
 rw[this];by_cases h:i<t.data.size
 .grind
 .simp only [Array.getElem!_eq_getD,Array.getD_eq_getD_getElem?,List.getD_eq_getElem?_getD,uU,tn];rw[Array.getElem?_eq_none (by lia)];rfl
def amc(t:ByteArray)(i:Nat):decodeL (t.data.toList.map xp) i=Utf8.decode t i:=by
 have eS:(t.data.toList.map xp).length=t.size:=by simp
 simp only[decodeL,Utf8.decode,aqe,eS]
def an4{o:yV}{x:xC}(hH:fH O H)(ht:b7 O m S w tm a.tmps)(hh:aT O m S w hp ct)(ho:o.op=.next x ycN)(hv:cz tm hp ct (.sD (aK H x))=GW (v,au,aX)):BE O m S w a hp ct o v au aX:=by
 simp only[cz] at hv;have rx:=b8 hH ht x;cases hx:az tm (aK H x)<;>rw[hx] at hv rx<;>simp only[reduceCtorEq] at hv
 rename_i id;simp only[aj] at rx;have⟨p,hm,ex⟩:=rx
 split at hv
 case h_2=>cases hv
 rename_i s pos hg;have⟨p',t,g1,g2,g3,g4⟩:=hh.obj id _ _ hg hm;rw[hm] at g1;injection g1 with g1
 subst g1;have ax:(getObj p.b).run O.P w=.ok (.stringIter t pos) w:=by simp[getObj,Sem.run,g2]
 have hlen:s.length=t.size:=by rw[<-g3];simp
 cases hc:yP pos s.length with
 | false=>
  rw[hc] at hv;simp only[yX,yd,yo] at hv;obtain⟨rfl,rfl,rfl⟩:=hv;have aH:¬pos<t.size:=by
   intro h
   have:yP pos s.length=ycN:=by simp[yP];lia
   grind
  refine⟨.value (.tuple #[.bool ycO]),.tuple #[.bool ycO],w,m,S,?_,.inl rfl,hh,by simp[aj,aB],dz.refl,cr.refl⟩;simp[execOp,ho,ex,Instr.next,ax,aH]
 | true=>
  rw[hc] at hv;simp only[yC] at hv;have aH:pos<t.size:=by
   simp_all
  cases hdc:decodeL s pos with | mk c wd=>
  rw[hdc] at hv;simp only[yd,yo] at hv;obtain⟨rfl,rfl,rfl⟩:=hv;have hd:Utf8.decode t pos=(c,wd):=by rw[<-amc,g3,hdc]
  have qB:fJ O m S {w with heap:=w.heap.setIfInBounds p.b (.stringIter t (pos+wd))} id (.si s (pos+wd)):=⟨p,t,hm,O2 g2,g3,g4⟩;have⟨e1,e2⟩:=KM hh hg hm g4 (GZ w p.b _) qB (fun r hr=>by rw[g2] at hr;cases hr);refine⟨.value (.tuple #[.bool ycN,goInt pos,.int .i32 c]),_,_,m,S,?_,.inl rfl,e1,by simp[aj,aB,goInt],dz.refl,e2⟩
  have aY:(setObj p.b (.stringIter t (pos+wd))).run O.P w=.ok () {w with heap:=w.heap.setIfInBounds p.b (.stringIter t (pos+wd))}:=by simp[setObj,Sem.run,g2]
  simp[execOp,ho,ex,Instr.next,ax,aH,hd,aY]
end
end
end
section
open Go
section
variable {cs:List AV}{n size:Nat}{P:xy}{x:yj}
def KD{hp:Hp}{id i:Nat}:ax (dV hp id) i=if id=i then GX else ax hp i:=by
 induction hp with
 | nil=>simp[dV,ax]
 | cons x r ih=>
  have⟨j,q⟩:=x;simp only[dV];by_cases hj:j=id
  .subst hj;simp only[wO,yC,ih,ax];by_cases hi:j=i
   .grind
   .have:yp j i=ycO:=by
     cases hq:yp j i with
     | false=>rfl
     | true=>exact absurd (yh hq) hi
    grind
  .have hb:yp j id=ycO:=by
    cases hq:yp j id with
    | false=>rfl
    | true=>exact absurd (yh hq) hj
   simp only[hb,yX];rw[show ax ((j,q)::dV r id) i=bif yp j i then GW q else ax (dV r id) i from rfl,ih];by_cases hi:j=i
   .subst hi
    have:¬id=j:=fun h=>hj h.symm
    simp[wO,this,ax]
   .have AW:yp j i=ycO:=by
     cases hq:yp j i with
     | false=>rfl
     | true=>exact absurd (yh hq) hi
    simp[AW,ax]
section
variable {O:bz}{H:Hint}{m:Mp}{S:Nat->Prop}{w:ym}{tm:Env}{a:Act}{hp:Hp}{ct:Nat}
def Src(P:xy)(w:ym)(size n:Nat)(news:List yj)(x:yj):Prop:=
 (∀w',(Builtin.lenOf x).run P w'=.ok n w')/\news.length=n*size/\
 ∀w',w'.heap=w.heap->∀k,k<=n->(Builtin.firstCells size k x).run P w'=.ok (news.take (k*size)).toArray w'
def G3{c:Nat}{b:uG}{news:List yj}(hl:news.length=n*size)(hc:∀j u,news[j]? =GW u->w.cell? (b.add j)=GW u):
  Src P w size n news (.slice (GW b) n c):=by
 refine⟨fun w'=>by simp[Builtin.lenOf],hl,fun w' hw k hk=>?_⟩;have hle:k*size<=news.length:=by rw[hl];exact yQ _ hk
 refine run_firstCells_some (P:=P) w' size k b n c (news.take (k*size)) (by rw[yO];lia) (fun j v hv=>?_)
 rw[List.getElem?_take] at hv
 split at hv
 .have:=hc j v hv
  simpa[World.cell?,hw] using this
 .cases hv
def adI:Src P w size 0 [] (.slice GX 0 0):=
 ⟨fun w'=>by simp[Builtin.lenOf],by simp,fun w' _ k hk=>by simp[Builtin.firstCells]⟩
def ald(s:ByteArray)(k:Nat):(s.extract 0 k).data.map (fun b=>Value.int .u8 b.toNat)=((s.data.toList.map fun b=>Value.int .u8 (b.toNat:Int)).take k).toArray:=by
 have:(s.extract 0 k).data=s.data.extract 0 k:=by simp
 grind
def aqf{s:ByteArray}:Src P w 1 s.size (s.data.toList.map fun b=>Value.int .u8 (b.toNat:Int)) (.string s):=by
 refine⟨fun w'=>by simp[Builtin.lenOf],by simp,fun w' _ k hk=>?_⟩;simp only[Builtin.firstCells,Sem.run_pure,Nat.mul_one];rw[ald]
def aaB{ah:Nat->Nat}:∀l:List UInt8,aB ah m S w (PS (l.map xp)) (l.map fun b=>Value.int .u8 (b.toNat:Int))
 | []=>by simp[PS,aB]
 | b::r=>by
  exact⟨_,_,rfl,by simp[aj],aaB r⟩
def aa2{vx:AV}(hh:aT O m S w hp ct)(hx:aj O.ah m S w vx x)(h:mK hp size vx=GW (n,cs)):
  ∃us,aB O.ah m S w cs us/\Src O.P w size n us x:=by
 cases vx<;>simp only[mK,reduceCtorEq] at h
 case ab=>
  obtain⟨rfl,rfl⟩:=h;subst hx;exact⟨[],by simp[aB],adI⟩
 case ap ex n' ck=>
  cases hc:yp ck.length (n'*size) with
  | false=>rw[hc] at h;cases h
  | true=>
   rw[hc] at h;obtain⟨rfl,rfl⟩:=h;have hl:=yh hc;rcases hx with ⟨b,o,c,rfl,h1,h2,h3,h4,h5⟩ | ⟨ad,rfl,rfl,rfl⟩
   .have ⟨us,g1,g2,g3⟩:=zZ _ b o h5;exact⟨us,g1,G3 (by lia) (fun j u hj=>by rw[oD];exact g3 j u hj)⟩
   .exact ⟨[],by simp[aB],G3 (by simp) (fun j u hj=>by simp at hj)⟩
 case aq id o n'=>
  cases hg:ax hp id with
  | none=>simp[hg] at h
  | some ob=>
   cases ob<;>simp only[hg,reduceCtorEq] at h
   rename_i rw pu ex z ck
   cases hc:yJ (o+n'*size) ck.length with
   | false=>rw[hc] at h;cases h
   | true=>
    rw[hc] at h;simp only[yC,yd,yo] at h;obtain⟨rfl,rfl⟩:=h;have hl:=yu hc;obtain⟨p,c,hm,rfl,h1,h2⟩:=hx;have hr:=UC (o:=0) (n:=0) hh hg hm;have lU:=Bl (n'*size) _ _ _ (zc o _ _ _ hr);have⟨us,g1,g2,g3⟩:=zZ _ p.b (p.o+o) lU;refine⟨us,g1,G3 ?_ (fun j u hj=>by rw[oD];exact g3 j u hj)⟩
    grind
def abH{vx:AV}(hh:aT O m S w hp ct)(hx:aj O.ah m S w vx x)(h:jy hp size vx=GW (n,cs)):
  ∃us,aB O.ah m S w cs us/\Src O.P w size n us x:=by
 cases vx<;>try exact aa2 hh hx h
 simp only[jy] at h
 cases hc:yp size 1 with
 | false=>rw[hc] at h;cases h
 | true=>
  rw[hc] at h;obtain⟨rfl,rfl⟩:=h
  have:=yh hc
  subst this;obtain⟨t,rfl,rfl⟩:=hx;refine⟨_,aaB _,?_⟩
  have:(List.map xp t.data.toList).length=t.size:=by simp
  rw[this];exact aqf
def akq{t u ty e:yE}{i:ycL}(ht:P.underlying t=GW (.slice e))(hu:(∃e',P.underlying u=GW (.slice e'))\/P.underlying u=GW .string)(hi:P.info? e=GW i){g o ji zp:Nat}{NX:Array yj}{te:yE}(hg:w.heap[g]? =GW (.cells NX te (0,0))){news:List yj}(hs:Src P w i.size n news x)(h1:∀u∈news,u.oneCell'=ycN)(H8:ji+n<=zp)(WU:o+ji*i.size+news.length<=NX.size):
  (Builtin.append_ #[t,u] ty #[.slice (GW ⟨g,o,GX⟩) ji zp,x]).run P w=
   .ok (.slice (GW ⟨g,o,GX⟩) (ji+n) zp) (w.setRow g (NX.toList.take (o+ji*i.size)++news++NX.toList.drop (o+ji*i.size+news.length)).toArray):=by
 have⟨nn,zL,YB⟩:=hs;have hf:=YB w rfl n (yz _);rw[yq (by lia)] at hf;have aU:=run_storeCells_at P g (o+ji*i.size) te news 0 NX w hg (by lia) h1;rcases hu with ⟨e',hd⟩ | hd<;>
  simp[Builtin.append_,run_underlying ht,run_underlying hd,vl,typeInfo,hi,nn,H8,hf,oD,aU]
def OU{t u ty e:yE}{i:ycL}{z:yj}(ht:P.underlying t=GW (.slice e))(hu:(∃e',P.underlying u=GW (.slice e'))\/P.underlying u=GW .string)(hi:P.info? e=GW i)(hz:i.zero=GW z){s:yj}{base:Option uG}{ji zp:Nat}(es:s=.slice base ji zp){mY:List yj}(ho:Src P w i.size ji mY s){news:List yj}(hs:Src P w i.size n news x)(hg:zp<ji+n)(h63:ji+n<=1099511627776)(NW:(ji+n)*i.bytes<=1099511627776):
  (Builtin.append_ #[t,u] ty #[s,x]).run P w=
   .ok (.slice (GW ⟨w.heap.size,0,GX⟩) (ji+n) (grownCap w (ji+n) zp e))
    (w.drew.alloc (.cells ((mY++news).toArray++Builtin.zeroCells z.cells (grownCap w (ji+n) zp e-(ji+n))) e)):=by
 have⟨nn,zL,YB⟩:=hs;have⟨ho1,YC,ho3⟩:=ho;have hf:=YB w.drew rfl n (yz _);rw[yq (by lia)] at hf;have hfo:=ho3 w.drew rfl ji (yz _);have hn:¬(ji+n<=zp):=by lia
 have ayI:¬(9223372036854775807<((ji:Int)+(n:Int))):=by lia
 have WU:=growslice_fits (need:=ji+n) (old:=zp) (bytes:=i.bytes) hg (by lia);have ayJ:¬(281474976710656<Builtin.nextslicecap (ji+n) zp*i.bytes):=by lia
 subst es;rcases hu with ⟨e',hd⟩ | hd
 all_goals
  simp[Builtin.append_,run_underlying ht,run_underlying hd,vl,typeInfo,zeroValue,hi,hz,nn,hn,ayI,ayJ,Question.forced,hf,hfo,newRow,askRoom,grownCap]
  grind
def Uk{e:yE}{z:yj}{sz need cap:Nat}{us:List yj}(hh:aT O m S w hp ct)(hr:aB O.ah m S w cs us)(hl:us.length=need*sz)(hz:z.cells.size=sz)(Fu:Bool)(YD:Fu=ycN->aE cs=ycN)(hc:need<=cap):
  let w':=w.drew.alloc (.cells (us.toArray++Builtin.zeroCells z.cells (cap-need)) e)
  let p:Pl:=⟨w.heap.size,0,cap*sz,sz⟩
  ∀m',dz m m'->m' ct=GW p->fJ O m' S w' ct (.cells ycN Fu ycO sz cs):=by
 intro w' p m' hm hi;have aU:gj S w w':=fun b hb=>by
  have:=hh.slt b hb
  exact RowKit.Below.heap_alloc w.drew _ b (by simpa using this)
 have dd:w'.heap[w.heap.size]? =GW (.cells (us.toArray++Builtin.zeroCells z.cells (cap-need)) e (0,0)):=heap_alloc_new w.drew _;have bL:=ij _ _ hr;refine⟨p,_,e,hi,dd,rfl,?_,?_,by simp,?_,YD,?_,by simp⟩
 .show cs.length<=cap*sz
  rw[<-bL,hl];exact yQ _ hc
 .show 0+cap*sz<=_
  rw[Array.size_append,tp,size_zeroCells,hz,hl,<-wg]
  grind
 .refine Pf dd cs us 0 (iE hm (fun _ h=>h) aU _ _ hr) (fun j u hj=>?_)
  grind
 .intro _ hS
  have:=hh.slt _ hS
  grind
def akd(hh:aT O m S w hp ct)(g:yal):gj S w (w.drew.alloc g):=fun b hb=>by
 have:=hh.slt b hb
 exact RowKit.Below.heap_alloc w.drew _ b (by simpa using this)
def Ul(hh:aT O m S w hp ct){hp0:Hp}{g:yal}{p:Pl}{o:Obj}(Q9:∀i q,ax hp0 i=GW q->ax hp i=GW q)(hb:p.b=w.heap.size)(ho:∀m',dz m m'->m' ct=GW p->fJ O m' S (w.drew.alloc g) ct o):
  aT O (fU m ct p) S (w.drew.alloc g) ((ct,o)::hp0) (ct+1)/\cr m S w hp (fU m ct p) S (w.drew.alloc g) ((ct,o)::hp0) ct:=by
 have hn:m ct=GX:=by
  cases h:m ct with
  | none=>rfl
  | some q=>have:=hh.lt _ _ h;lia
 have hle:=jx hn (p:=p);have aU:=akd hh g;have hold:∀b,b<w.heap.size->(w.drew.alloc g).heap[b]? =w.heap[b]? :=fun b hb=>RowKit.Below.heap_alloc w.drew _ b (by simpa using hb)
 have eS:(w.drew.alloc g).heap.size=w.heap.size+1:=by simp
 have jd:∀i q,ax ((ct,o)::hp0) i=GW q->i≠ct->ax hp i=GW q:=fun i q h hi=>by
  rw[fS,yI (fun e=>hi e.symm)] at h
  grind
 refine⟨⟨?_,?_,?_,?_,?_,?_,?_,?_,fun i q hq=>(by
  by_cases hc:i=ct
  .lia
  .have:=hh.aH _ _ (jd i q hq hc);lia)⟩,⟨rfl,rfl,rfl,by lia,?_,fun _ h=>h,fun b hb=>aU b hb,fun b hb=>.inl hb,?_,fun i q _ h=>hle i q h,fun b r hb=>⟨r,(hold b (xD.1 hb).1).trans hb⟩⟩⟩
 .intro i q pi hi bO;by_cases hc:i=ct
  .subst hc;rw[fS] at hi;simp only[xS,yd] at hi;subst hi;exact ho _ hle dI
  .rw [eK hc] at bO;exact Ab hle (fun _ h=>h) aU (fun q' bB=>hold _ (hh.blt i q' bB)) (fun _ _ h=>h) (hh.obj i q pi (jd i q hi hc) bO)
 .intro i q bO;by_cases hc:i=ct
  .lia
  .rw [eK hc] at bO;have:=hh.lt i q bO;lia
 .intro i j oi oj pi pj hi hj bO ia e;by_cases ci:i=ct
  .by_cases cj:j=ct
   .grind
   .subst ci;rw[dI] at bO;rw[eK cj] at ia;injection bO with bO
    subst bO
    have:=hh.blt j pj ia
    lia
  .rw [eK ci] at bO;by_cases cj:j=ct
   .subst cj;rw[dI] at ia;injection ia with ia
    subst ia
    have:=hh.blt i pi bO
    lia
   .rw [eK cj] at ia;exact hh.inj i j oi oj pi pj (jd i oi hi ci) (jd j oj hj cj) bO ia e
 .intro b hb;have:=hh.slt b hb;lia
 .intro i q bO;by_cases hc:i=ct
  .subst hc;rw[dI] at bO;injection bO with bO
   subst bO
   lia
  .rw [eK hc] at bO;have:=hh.blt i q bO;lia
 .intro i q bO;have h0:=hh.gJ;by_cases hc:i=ct
  .subst hc;rw[dI] at bO;injection bO with bO
   subst bO
   lia
  .rw [eK hc] at bO;exact hh.low i q bO
 .intro b hb;have h0:=hh.gJ;exact (hold b (by lia)).trans (hh.mX b hb)
 .have h0:=hh.gJ;lia
 .intro b hb _;exact hold b hb
 .rintro b ⟨i,q,pi,h1,h2,h3⟩;by_cases hc:i=ct
  .subst hc;rw[dI] at h2;injection h2 with h2
   subst h2;exact .inr (by lia)
  .rw [eK hc] at h2;exact .inl ⟨i,q,pi,jd i q h1 hc,h2,h3⟩
def amd(hh:aT O m S w hp ct){id:Nat}{o o':Obj}{p p':Pl}{w':ym}(hg:ax hp id=GW o)(hm:m id=GW p)(hn:¬S p.b)(hw:One w w' p.b)(hk:∀r:uT,w.heap[p.b]? =GW (.loop r)->∃r':uT,w'.heap[p.b]? =GW (.loop r'))(hb:p'.b=p.b)(ho:∀m',dz m m'->m' ct=GW p'->fJ O m' S w' ct o'):
  aT O (fU m ct p') S w' ((ct,o')::dV hp id) (ct+1)/\cr m S w hp (fU m ct p') S w' ((ct,o')::dV hp id) ct:=by
 have n8:m ct=GX:=by
  cases h:m ct with
  | none=>rfl
  | some q=>have:=hh.lt _ _ h;lia
 have hle:=jx n8 (p:=p');have aU:gj S w w':=fun b hb=>hw.other b (fun e=>hn (e▸hb))
 have jd:∀i q,ax ((ct,o')::dV hp id) i=GW q->i≠ct->ax hp i=GW q/\i≠id:=fun i q h hi=>by
  rw[fS,yI (fun e=>hi e.symm),KD] at h
  grind
 have agC:∀i q pi,ax hp i=GW q->i≠id->m i=GW pi->pi.b≠p.b:=fun i q pi h hi bO e=>hi (hh.inj i id q o pi p h hg bO hm e)
 refine⟨⟨?_,?_,?_,?_,?_,?_,?_,?_,fun i q hq=>(by
  by_cases hc:i=ct
  .lia
  .have:=hh.aH _ _ (jd i q hq hc).1;lia)⟩,⟨hw.os,hw.tape,hw.output,by rw[hw.size];exact yz _,?_,fun _ h=>h,fun b hb=>aU b hb,fun b hb=>.inl hb,?_,fun i q _ h=>hle i q h,fun b r hb=>(by
  by_cases hc:b=p.b
  .grind
  .exact ⟨r,(hw.other b hc).trans hb⟩)⟩⟩
 .intro i q pi hi bO;by_cases hc:i=ct
  .subst hc;rw[fS] at hi;simp only[xS,yd] at hi;subst hi;exact ho _ hle dI
  .rw [eK hc] at bO;have⟨h1,h2⟩:=jd i q hi hc;exact Ab hle (fun _ h=>h) aU (fun q' bB=>hw.other _ (agC i q q' h1 h2 bB)) (fun _ _ h=>h) (hh.obj i q pi h1 bO)
 .intro i q bO;by_cases hc:i=ct
  .lia
  .rw [eK hc] at bO;have:=hh.lt i q bO;lia
 .intro i j oi oj pi pj hi hj bO ia e;by_cases ci:i=ct
  .by_cases cj:j=ct
   .grind
   .subst ci;rw[dI] at bO;rw[eK cj] at ia
    grind
  .rw [eK ci] at bO;have⟨h1,h2⟩:=jd i oi hi ci;by_cases cj:j=ct
   .subst cj;rw[dI] at ia;injection ia with ia
    subst ia;exact (agC i oi pi h1 h2 bO (by rw[e,hb])).elim
   .rw [eK cj] at ia;exact hh.inj i j oi oj pi pj h1 (jd j oj hj cj).1 bO ia e
 .intro b hb;rw[hw.size];exact hh.slt b hb
 .intro i q bO;rw[hw.size];by_cases hc:i=ct
  .subst hc;rw[dI] at bO;injection bO with bO
   subst bO;rw[hb];exact hh.blt id p hm
  .rw [eK hc] at bO;exact hh.blt i q bO
 .intro i q bO;by_cases hc:i=ct
  .subst hc;rw[dI] at bO;injection bO with bO
   subst bO;rw[hb];exact hh.low id p hm
  .rw [eK hc] at bO;exact hh.low i q bO
 .intro b hb
  rw[hw.other b (fun e=>by have:=hh.low id p hm;lia)]
  exact hh.mX b hb
 .rw [hw.size];exact hh.gJ
 .intro b _ bD;exact hw.other b (fun e=>bD (e▸Lc hg hm))
 .rintro b ⟨i,q,pi,h1,h2,h3⟩;by_cases hc:i=ct
  .subst hc;rw[dI] at h2;injection h2 with h2
   subst h2;exact .inl ⟨id,o,p,hg,hm,by rw[<-h3,hb]⟩
  .rw [eK hc] at h2;exact .inl ⟨i,q,pi,(jd i q h1 hc).1,h2,h3⟩
def adJ{e:yE}{s bX:Nat}{z:AV}(hs:cC P e=GW s)(hb:AP P e=GW bX)(hz:mP P e=GW z):
  ∃ti zv,P.info? e=GW ti/\ti.size=s/\ti.bytes=bX/\ti.zero=GW zv/\z=fm zv:=by
 unfold cC at hs;unfold AP at hb;unfold mP at hz
 cases hi:P.info? e with
 | none=>simp[hi] at hs
 | some ti=>
  simp only[hi,yd] at hs hb hz
  cases ej:ti.zero with
  | none=>simp[ej] at hz
  | some zv=>
   grind
def KN{o:yV}{v:AV}{u:yj}{w':ym}{m':Mp}{S':Nat->Prop}{au:Hp}{aX:Nat}(h1:(execOp a.eval o).run O.P w=.ok (.value u) w')(h2:aT O m' S' w' au aX)(h3:aj O.ah m' S' w' v u)(h4:dz m m')(h5:cr m S w hp m' S' w' au ct):BE O m S w a hp ct o v au aX:=⟨_,u,w',m',S',h1,.inl rfl,h2,h3,h4,h5⟩
def an5{o:yV}{b':yE}{t u e:yE}{sz bX:Nat}{z:AV}{x y:xC}{v:AV}{au:Hp}{aX:Nat}(hH:fH O H)(ht:b7 O m S w tm a.tmps)(hh:aT O m S w hp ct)(dY:(execOp a.eval o).run O.P w=((do pure (.value (<-Builtin.append_ #[t,u] b' #[a.eval x,a.eval y])):Sem yaE)).run O.P w)(AY:O.P.underlying t=GW (.slice e))(hu:(∃e',O.P.underlying u=GW (.slice e'))\/O.P.underlying u=GW .string)(hs:cC O.P e=GW sz)(hb:AP O.P e=GW bX)(hz:mP O.P e=GW z)(zI:(cellsOf z).length=sz)(hv:cz tm hp ct (.c9 sz bX (aK H x) (aK H y))=GW (v,au,aX)):BE O m S w a hp ct o v au aX:=by
 simp only[cz] at hv;obtain⟨ti,zv,zK,rfl,rfl,NY,rfl⟩:=adJ hs hb hz;have aO:∀u' w',(Builtin.append_ #[t,u] b' #[a.eval x,a.eval y]).run O.P w=.ok u' w'->(execOp a.eval o).run O.P w=.ok (.value u') w':=fun u' w' h=>by
  rw[dY,Sem.run_bind,h];rfl
 have At:m ct=GX:=by
  cases h:m ct with
  | none=>rfl
  | some q=>have:=hh.lt _ _ h;lia
 have Gk:zv.cells.size=ti.size:=by
  have:=ij _ _ (Et (ah:=O.ah) (m:=m) (S:=S) (w:=w) zv)
  rw[<-zI,<-this];simp
 cases zq:jy hp ti.size (az tm (aK H y)) with
 | none=>simp[zq] at hv
 | some q=>
  have⟨n,new⟩:=q;simp only[zq] at hv;have⟨news,iP,dh⟩:=abH hh (b8 hH ht y) zq;have oU:=ij _ _ iP;have rx:=b8 hH ht x
  cases hx:az tm (aK H x) with
  | ab=>
   rw[hx] at hv rx;simp only at hv;simp only[aj] at rx
   cases h0:yp n 0 with
   | true=>
    rw[h0] at hv;simp only[yC,yd,yo] at hv;obtain⟨rfl,rfl,rfl⟩:=hv;have jq:=yh h0;subst jq;have Wa:news=[]:=yt (by rw[dh.2.1];simp)
    subst Wa;have hf:=dh.2.2 w rfl 0 (yz _);have lR:=dh.1 w;refine⟨.value (.slice GX 0 0),.slice GX 0 0,w,m,S,?_,.inl rfl,hh,by simp[aj],dz.refl,cr.refl⟩;rw[dY,rx];rcases hu with ⟨e',hu⟩ | hu<;>
     simp[Builtin.append_,run_underlying AY,run_underlying hu,vl,typeInfo,zK,lR,hf]
   | false=>
    rw[h0] at hv;simp only[yX] at hv
    cases hc:(yJ n room&&(yJ (n*ti.bytes) room&&yP 0 ti.size)) with
    | false=>rw[hc] at hv;cases hv
    | true=>
     rw[hc] at hv;simp only[yC,yd,yo] at hv;obtain⟨rfl,rfl,rfl⟩:=hv;simp only[ye] at hc;have c1:=yu hc.1;have c2:=yu hc.2.1;simp only[room] at c1 c2;have jq:0<n:=by
      rcases xv n with h | h
      .subst h;simp at h0
      .exact h
     have hr:=OU (P:=O.P) (ty:=b') (w:=w) AY hu zK NY (s:=.slice GX 0 0) rfl (adI (P:=O.P) (size:=ti.size)) dh (by lia) (by lia) (by simpa using c2);simp only[yf,List.nil_append] at hr;have lf:=grownCap_ge w n 0 e;have dd:=Uk (e:=e) (z:=zv) (cap:=grownCap w n 0 e) hh iP (need:=n) (sz:=ti.size) dh.2.1 Gk (aE new) (fun h=>h) lf;have⟨k1,k2⟩:=Ul hh (hp0:=hp) (p:=⟨w.heap.size,0,grownCap w n 0 e*ti.size,ti.size⟩) (fun _ _ h=>h) rfl dd;exact KN (aO _ _ (by rw[rx];exact hr)) k1 (by simp only[aj];exact⟨_,_,dI,rfl,lf,by simp⟩) (jx At) k2
  | ap ex k cs=>
   rw[hx] at hv rx
   cases ex with
   | false=>simp at hv
   | true=>
    simp only at hv;have rx0:=rx;simp only[aj] at rx;have rx1:∃ad mY,a.eval x=.slice (GW ad) k k/\aB O.ah m S w cs mY/\mY.length=cs.length/\(∀(j:Nat) (u:yj),mY[j]? =GW u->w.cell? (ad.add j)=GW u)/\aE cs=ycN:=by
     rcases rx with ⟨bb,oo,c,ex,h1,h2,h3,h4,h5⟩ | ⟨ad,ex,rfl,rfl⟩
     .have dO:c=k:=h2 (by trivial);subst dO;have⟨mY,g1,g2,g3⟩:=zZ cs bb oo h5;exact⟨_,mY,ex,g1,g2,fun j u hj=>by rw[oD];exact g3 j u hj,h4⟩
     .exact ⟨ad,[],ex,by simp[aB],rfl,fun j u hj=>by simp at hj,rfl⟩
    have⟨ad,mY,ex,g1,g2,g3,h4⟩:=rx1
    cases h0:yp n 0 with
    | true=>
     rw[h0] at hv;simp only[yC,yd,yo] at hv;obtain⟨rfl,rfl,rfl⟩:=hv;have jq:=yh h0;subst jq;have Wa:news=[]:=yt (by rw[dh.2.1];simp)
     subst Wa;have hf:=dh.2.2 w rfl 0 (yz _);have lR:=dh.1 w;refine⟨.value (a.eval x),a.eval x,w,m,S,?_,.inl rfl,hh,rx0,dz.refl,cr.refl⟩;rw[dY,ex];rcases hu with ⟨e',hu⟩ | hu<;>
      simp[Builtin.append_,run_underlying AY,run_underlying hu,vl,typeInfo,zK,lR,hf,storeCells]
    | false=>
     rw[h0] at hv;simp only[yX] at hv
     cases hc:(yJ (k+n) room&&(yJ ((k+n)*ti.bytes) room&&(yp cs.length (k*ti.size)&&yP 0 ti.size))) with
     | false=>rw[hc] at hv;cases hv
     | true=>
      rw[hc] at hv;simp only[yC,yd,yo] at hv;obtain⟨rfl,rfl,rfl⟩:=hv;simp only[ye] at hc;have c1:=yu hc.1;have c2:=yu hc.2.1;have c3:=yh hc.2.2.1;simp only[room] at c1 c2;have jq:0<n:=by
       rcases xv n with h | h
       .subst h;simp at h0
       .exact h
      have NZ:Src O.P w ti.size k mY (.slice (GW ad) k k):=G3 (by lia) g3;have hr:=OU (P:=O.P) (ty:=b') (w:=w) AY hu zK NY rfl NZ dh (by lia) c1 c2;have lf:=grownCap_ge w (k+n) k e;have dd:=Uk (e:=e) (z:=zv) (cap:=grownCap w (k+n) k e) hh (mF g1 iP) (need:=k+n) (sz:=ti.size) (by rw[yM,g2,c3,dh.2.1,wg]) Gk (aE cs&&aE new)
       (fun h=>by simp only[ye] at h;exact Eu h.1 h.2) lf
      have⟨k1,k2⟩:=Ul hh (hp0:=hp) (p:=⟨w.heap.size,0,grownCap w (k+n) k e*ti.size,ti.size⟩) (fun _ _ h=>h) rfl dd;exact KN (aO _ _ (by rw[ex];exact hr)) k1 (by simp only[aj];exact⟨_,_,dI,rfl,lf,by simp⟩) (jx At) k2
  | aq id o0 k=>
   rw[hx] at hv rx;simp only at hv;simp only[aj] at rx;have⟨p,c,hm,ex,h1,h2⟩:=rx
   split at hv
   case h_2=>cases hv
   rename_i pu SF zz cs hg
   cases hc:(yp zz ti.size&&(yJ (k+n) room&&(yJ ((k+n)*ti.bytes) room&&(yJ (o0+k*ti.size) cs.length&&(yP 0 ti.size&&bY new))))) with
   | false=>rw[hc] at hv;cases hv
   | true=>
    rw[hc] at hv;simp only[yC,yd,yo] at hv;obtain⟨rfl,rfl,rfl⟩:=hv;simp only[ye] at hc;have c0:=yh hc.1;have c1:=yu hc.2.1;have c2:=yu hc.2.2.1;have c3:=yu hc.2.2.2.1;have c4:=hc.2.2.2.2.2;simp only[room] at c1 c2;have⟨p',arr,t',g1,g2,g3,g4,g5,g6,g7,g8,g9,g10⟩:=hh.obj id _ _ hg hm;rw[hm] at g1;injection g1 with g1
    subst g1;subst c0;rw[g3] at h2;have I7:b5 O.ah m S w (slice o0 (k*ti.size) cs) p.b (p.o+o0):=Bl _ _ _ _ (zc _ _ _ _ g7);have⟨mY,f1,f2,f3⟩:=zZ _ _ _ I7;have Rc:(slice o0 (k*ti.size) cs).length=k*ti.size:=by simp only[slice,yO,xX];lia
    have oS:(pu&&aE new)=ycN->aE (slice o0 (k*ti.size) cs++new)=ycN:=fun h=>by
     simp only[ye] at h;exact Eu (Cz _ (Bm _ _ (g8 h.1))) h.2
    by_cases H8:k+n<=c
    .have fO:=Pg iP c4;have WU:p.o+o0+k*ti.size+news.length<=arr.size:=by
      rw[dh.2.1]
      have:(k+n)*ti.size<=c*ti.size:=yQ _ H8
      rw[wg] at this
      lia
     have hr:=akq (P:=O.P) (ty:=b') (w:=w) AY hu zK g2 dh fO H8 WU;have ho:∀m',dz m m'->m' ct=GW ⟨p.b,p.o+o0,c*ti.size,ti.size⟩->
       fJ O m' S (w.setRow p.b (arr.toList.take (p.o+o0+k*ti.size)++news++arr.toList.drop (p.o+o0+k*ti.size+news.length)).toArray) ct
        (.cells ycN (pu&&aE new) ycO ti.size (slice o0 (k*ti.size) cs++new)):=by
      intro m' hle hi;have aU:gj S w (w.setRow p.b (arr.toList.take (p.o+o0+k*ti.size)++news++arr.toList.drop (p.o+o0+k*ti.size+news.length)).toArray):=fun b hb=>setRow_other w p.b b _ (fun e=>g9 rfl (e▸hb))
      refine⟨_,_,t',hi,setRow_heap w p.b arr _ t' _ g2,rfl,?_,?_,by simp,?_,oS,fun _=>g9 rfl,by simp⟩
      .show (slice o0 (k*ti.size) cs++new).length<=c*ti.size
       rw[yM,Rc,<-oU,dh.2.1,<-wg];exact yQ _ H8
      .show p.o+o0+c*ti.size<=_
       rw[tp,yM,yM,yO,xX,vt]
       lia
      .refine G6 _ (mY++news) _ (mF (iE hle (fun _ h=>h) aU _ _ f1) (iE hle (fun _ h=>h) aU _ _ iP)) (fun j u hj=>?_);show World.cell? _ ⟨p.b,p.o+o0+j,GX⟩=GW u
       simp only[World.cell?,setRow_heap w p.b arr _ t' _ g2,tL,yL,xE];rw[yaJ];have e1:(arr.toList.take (p.o+o0+k*ti.size)).length=p.o+o0+k*ti.size:=by rw[yO,vt];lia
       by_cases NR:j<k*ti.size
       .rw [wH (by lia)] at hj;rw[xJ,wH (by lia),uY (by lia)]
        have:=f3 j u hj
        simpa[World.cell?,g2] using this
       .rw [wq (by lia)] at hj;have hjl:=(List.getElem?_eq_some_iff.1 hj).1;rw[xJ,wq (by lia),e1,wH (by lia),show p.o+o0+j-(p.o+o0+k*ti.size)=j-mY.length by lia];exact hj
     have⟨k1,k2⟩:=amd (p':=⟨p.b,p.o+o0,c*ti.size,ti.size⟩) hh hg hm (g9 rfl) (TV w p.b _) (fun r hr=>by rw[g2] at hr;cases hr) rfl ho;exact KN (aO _ _ (by rw[ex];exact hr)) k1 (by simp only[aj];exact⟨_,c,dI,rfl,H8,by simp⟩) (jx At) k2
    .have NZ:Src O.P w ti.size k mY (.slice (GW ⟨p.b,p.o+o0,GX⟩) k c):=G3 (by lia) (fun j u hj=>by rw[oD];exact f3 j u hj)
     have hr:=OU (P:=O.P) (ty:=b') (w:=w) AY hu zK NY rfl NZ dh (by lia) c1 c2;have lf:=grownCap_ge w (k+n) c e;have dd:=Uk (e:=e) (z:=zv) (cap:=grownCap w (k+n) c e) hh (mF f1 iP) (need:=k+n) (sz:=ti.size) (by rw[yM,f2,Rc,dh.2.1,wg]) Gk (pu&&aE new) oS lf;have⟨k1,k2⟩:=Ul hh (hp0:=dV hp id) (p:=⟨w.heap.size,0,grownCap w (k+n) c e*ti.size,ti.size⟩) (fun i q h=>by
      rw[KD] at h;by_cases hi:id=i
      .simp [hi] at h
      .simpa only [hi,xE] using h) rfl dd
     exact KN (aO _ _ (by rw[ex];exact hr)) k1 (by simp only[aj];exact⟨_,_,dI,rfl,lf,by simp⟩) (jx At) k2
  | _=>rw[hx] at hv;simp at hv
end
end
end
section
open Go
section
variable {O:bz}{H:Hint}{m:Mp}{S:Nat->Prop}{w:ym}{tm:Env}{a:Act}{hp:Hp}{ct:Nat}
def akF{n:Nat}{cs:List AV}(h:aE cs=ycN):aE (cs.take n)=ycN:=Cz n h
def aaq:∀(n:Nat) {cs:List AV},bY cs=ycN->bY (cs.take n)=ycN
 | 0,_,_=>by simp[bY]
 | n+1,[],_=>by simp[bY]
 | n+1,c::cs,h=>by
  simp only[wI,bY,ye] at h ⊢;exact⟨h.1,aaq n h.2⟩
def an6{o:yV}{b':yE}{t u e:yE}{sz:Nat}{x y:xC}{v:AV}{au:Hp}{aX:Nat}(hH:fH O H)(ht:b7 O m S w tm a.tmps)(hh:aT O m S w hp ct)(dY:(execOp a.eval o).run O.P w=((do pure (.value (<-Builtin.copy_ #[t,u] b' #[a.eval x,a.eval y])):Sem yaE)).run O.P w)(AY:O.P.underlying t=GW (.slice e))(hs:cC O.P e=GW sz)(hv:cz tm hp ct (.sF sz (aK H x) (aK H y))=GW (v,au,aX)):BE O m S w a hp ct o v au aX:=by
 simp only[cz] at hv
 cases zq:mK hp sz (az tm (aK H y)) with
 | none=>simp[zq] at hv
 | some q=>
  have⟨n,new⟩:=q;simp only[zq] at hv;have⟨news,iP,dh⟩:=aa2 hh (b8 hH ht y) zq;have oU:=ij _ _ iP;have rx:=b8 hH ht x;cases hx:az tm (aK H x)<;>rw[hx] at hv rx<;>simp only[reduceCtorEq] at hv
  rename_i id o0 k;simp only[aj] at rx;have⟨p,c,hm,ex,h1,h2⟩:=rx
  split at hv
  case h_2=>cases hv
  rename_i pu SF zz cs hg
  cases hc:(yp zz sz&&(yJ (o0+k*sz) cs.length&&bY new)) with
  | false=>rw[hc] at hv;cases hv
  | true=>
   rw[hc] at hv;simp only[yC,yd,yo] at hv;obtain⟨rfl,rfl,rfl⟩:=hv;simp only[ye] at hc;have c0:=yh hc.1;have c1:=yu hc.2.1;subst c0;have⟨p',arr,t',g1,g2,g3,g4,g5,g6,g7,g8,g9,g10⟩:=hh.obj id _ _ hg hm;rw[hm] at g1;injection g1 with g1
   subst g1;have agD:min n k*zz<=k*zz:=yQ _ (Nat.min_le_right _ _);have aEw:min n k*zz<=n*zz:=yQ _ (ybF _ _);have rt:=G2 (min n k*zz) iP;have AZ:(news.take (min n k*zz)).length=min n k*zz:=by rw[yO,dh.2.1];lia
   have aEG:(new.take (min n k*zz)).length=min n k*zz:=by rw[yO,<-oU,dh.2.1];lia
   have fO:=Pg rt (aaq _ hc.2.2);have hf:=dh.2.2 w rfl (min n k) (ybF _ _);have aU:=run_storeCells_at O.P p.b (p.o+o0) t' (news.take (min n k*zz)) 0 arr w g2 (by rw[AZ];lia) fO
   simp only[xd] at aU;have qB:fJ O m S (w.setRow p.b (arr.toList.take (p.o+o0)++news.take (min n k*zz)++arr.toList.drop (p.o+o0+(news.take (min n k*zz)).length)).toArray) id
     (.cells ycN (pu&&aE new) SF zz (over o0 (new.take (min n k*zz)) cs)):=by
    refine⟨p,_,t',hm,setRow_heap w p.b arr _ t' _ g2,g3,by rw[Pz (by lia)];exact g4,?_,fun h=>by rw[Pz (by lia)];exact g6 h,?_,?_,fun _=>g9 rfl,by simp⟩
    .rw [tp,yM,yM,yO,xX,vt,AZ];lia
    .exact acx g2 g7 rt (by lia) (by lia) dz.refl (fun _ h=>h) (fun b hb=>setRow_other w p.b b _ (fun e=>g9 rfl (e▸hb))) (setRow_heap w p.b arr _ t' _ g2)
    .intro h;simp only[ye] at h;exact aa1 (g8 h.1) (akF h.2)
   have⟨e1,e2⟩:=KM hh hg hm (g9 rfl) (TV w p.b _) qB (fun r hr=>by rw[g2] at hr;cases hr)
   refine KN (u:=goInt ((min n k:Nat):Int)) (m':=m) (S':=S) ?_ e1 (by simp[aj,goInt]) dz.refl e2;rw[dY,ex];simp[Builtin.copy_,run_underlying AY,dh.1 w,pC hs,show Nat.min n k=min n k from rfl,hf,aU]
def aqg{o:yV}{k:Nat}{v:AV}{au:Hp}{aX:Nat}(hH:fH O H)(ht:b7 O m S w tm a.tmps)(hh:aT O m S w hp ct)(hv:cz tm hp ct (aP O.P H k o)=GW (v,au,aX)):BE O m S w a hp ct o v au aX:=by
 have iZ:∀{r:AV×Hp×Nat},cz tm hp ct bad=GW r->False:=fun h=>by simp[bad,cz] at h
 cases ho:o.op with
 | call c=>
  obtain⟨callee,args,ts⟩:=c;simp only[aP,ho] at hv
  split at hv
  .cases DN:H.mode k<;>simp[DN,cz] at hv
  .rename_i _ b
   split at hv
   .rename_i x y t u eQ n7;obtain⟨al⟩:=args;obtain⟨tl⟩:=ts;simp only at eQ n7;subst eQ;subst n7;obtain⟨cs,dY⟩:=Bk (O:=O) (w:=w) (a:=a) ho;have Fw:(execOp a.eval o).run O.P w=((do pure (.value (<-Builtin.append_ #[t,u] o.type #[a.eval x,a.eval y])):Sem yaE)).run O.P w:=by
     rw[dY];simp[builtin]
    have key:∀{z:AV} {sz bX:Nat} {e:yE},O.P.underlying t=GW (.slice e)->((∃e',O.P.underlying u=GW (.slice e'))\/O.P.underlying u=GW .string)->cC O.P e=GW sz->AP O.P e=GW bX->mP O.P e=GW z->
      cz tm hp ct (bif yp (cellsOf z).length sz then .c9 sz bX (aK H x) (aK H y) else bad)=GW (v,au,aX)->BE O m S w a hp ct o v au aX:=by
     intro z sz bX e h1 h2 h3 h4 h5 h
     cases hb:yp (cellsOf z).length sz with
     | false=>rw[hb] at h;exact (iZ h).elim
     | true=>
      rw[hb] at h;exact an5 hH ht hh Fw h1 h2 h3 h4 h5 (yh hb) h
    split at hv
    .rename_i e e' h1 h2
     split at hv
     .rename_i sz bX z h3 h4 h5
      exact key h1 (.inl ⟨_,h2⟩) h3 h4 h5 hv
     .exact (iZ hv).elim
    .rename_i e h1 h2
     split at hv
     .rename_i sz bX z h3 h4 h5
      exact key h1 (.inr h2) h3 h4 h5 hv
     .exact (iZ hv).elim
    .exact (iZ hv).elim
   .repeat' split at hv
    all_goals simp[cz,bad] at hv
   .rename_i x y t u eQ n7;obtain⟨al⟩:=args;obtain⟨tl⟩:=ts;simp only at eQ n7;subst eQ;subst n7;obtain⟨cs,dY⟩:=Bk (O:=O) (w:=w) (a:=a) ho;have Fw:(execOp a.eval o).run O.P w=((do pure (.value (<-Builtin.copy_ #[t,u] o.type #[a.eval x,a.eval y])):Sem yaE)).run O.P w:=by
     rw[dY];simp[builtin]
    split at hv
    .rename_i e h1
     split at hv
     .rename_i sz h3;exact an6 hH ht hh Fw h1 h3 hv
     .exact (iZ hv).elim
    .exact (iZ hv).elim
   .simp [cz] at hv
   .simp [cz] at hv
   .simp [cz] at hv
   .simp [cz] at hv
   .simp [cz] at hv
   .exact (iZ hv).elim
  .exact (iZ hv).elim
 | store t x y=>
  simp only[aP,ho] at hv
  split at hv
  .rename_i s hs;exact aqd hH ht hh ho hs hv
  .exact (iZ hv).elim
 | mapUpdate t x k y=>
  simp only[aP,ho] at hv
  split at hv
  .rename_i kt e hu
   split at hv
   .rename_i kk zG;exact acy hH ht hh (.inl ho) hu zG hv
   .exact (iZ hv).elim
  .exact (iZ hv).elim
 | insert t x k y=>
  simp only[aP,ho] at hv
  split at hv
  .rename_i kt e hu
   split at hv
   .rename_i kk zG;exact acy hH ht hh (.inr ho) hu zG hv
   .exact (iZ hv).elim
  .exact (iZ hv).elim
 | next x b=>
  cases b with
  | false=>simp only[aP,ho] at hv;exact (iZ hv).elim
  | true=>exact an4 hH ht hh ho (by simpa only[aP,ho] using hv)
 | binOp op t x y ty=>
  cases op<;>simp only[aP,ho,oC,pL] at hv
  case eql=>
        repeat' split at hv
        all_goals first
         | (simp[cz,bad] at hv;done)
         | (cases hb:(O.P.stoodInHeld t||O.P.eqGuardType O.P.depth t)<;>rw[hb] at hv<;>simp[cz,bad] at hv)
  case neq=>
        repeat' split at hv
        all_goals first
         | (simp[cz,bad] at hv;done)
         | (cases hb:(O.P.stoodInHeld t||O.P.eqGuardType O.P.depth t)<;>rw[hb] at hv<;>simp[cz,bad] at hv)
  all_goals simp[cz] at hv
 | buildSlice t n parts=>
  simp only[aP,ho] at hv
  repeat' split at hv
  all_goals first
   | (simp[cz,bad] at hv;done)
   | (
     revert hv;generalize yJ _ _=bb;intro hv;cases bb<;>simp[cz,bad] at hv
     try (split at hv<;>simp[cz,bad] at hv))
 | makeMap t r=>
  cases r<;>simp only[aP,ho] at hv
  .repeat' split at hv
   all_goals simp[cz,bad] at hv
  .exact (iZ hv).elim
 | _=>
  simp only[aP,ho] at hv
  (repeat' split at hv)
  all_goals first
   | contradiction
   | (simp[cz,bad] at hv;done)
end
end
section
variable {v x:AV}{hp:Hp}{o:Op}
section
variable {hp H:Hp}{tm cB:Env}
def adK(hl:cU hp H){id:Nat}{rw pu ex:Bool}{sz:Nat}{cs:List AV}(h:ax hp id=GW (.cells rw pu ex sz cs)):∃eN,ax H id=GW (.cells eN pu ex sz cs):=by
 obtain⟨o',h1,eN,rfl,_⟩:=hl id _ h
 grind
def adL(hl:cU hp H){id:Nat}{rw:Bool}{ks vs:List AV}(h:ax hp id=GW (.mp rw ks vs)):∃eN,ax H id=GW (.mp eN ks vs):=by
 obtain⟨o',h1,eN,rfl,_⟩:=hl id _ h
 grind
def Vc(hl:cU hp H){sz:Nat}{ag:Bool}(h:fY hp sz ag x=GW v):fY H sz ag x=GW v:=by
 cases x<;>simp only[fY,reduceCtorEq] at h ⊢
 .rename_i id o
  cases hg:ax hp id with
  | none=>simp[hg] at h
  | some ob=>
   cases ob<;>simp only[hg,reduceCtorEq] at h
   obtain⟨r,h1⟩:=adK hl hg
   grind
 .exact h
def an7(hl:cU hp H){k:AV}{v:Option AV}(h:Dc hp k x=GW v):Dc H k x=GW v:=by
 cases x<;>simp only[Dc,reduceCtorEq] at h ⊢
 .grind
 .rename_i id
  cases hg:ax hp id with
  | none=>simp[hg] at h
  | some ob=>
   cases ob<;>simp only[hg,reduceCtorEq] at h
   obtain⟨r,h1⟩:=adL hl hg
   grind
 .exact h
def an8(hl:cU hp H){k:Nat}(h:iW hp k x=GW v):iW H k x=GW v:=by
 unfold iW at h ⊢
 split at h
 all_goals first
  | exact h
  | cases h
  | skip
 rename_i id
 cases hg:ax hp id with
 | none=>simp[hg] at h
 | some ob=>
  cases ob<;>simp only[hg,reduceCtorEq] at h
  obtain⟨r,h1⟩:=adL hl hg
  grind
def an9(hl:cU hp H){k:Cut}{lo hi:Option X}(h:fN hp k x tm lo hi=GW v):fN H k x tm lo hi=GW v:=by
 unfold fN at h ⊢
 split at h
 all_goals first
  | exact h
  | cases h
  | skip
 rename_i sz id o n
 cases hg:ax hp id with
 | none=>simp[hg] at h
 | some ob=>
  cases ob<;>simp only[hg,reduceCtorEq] at h
  obtain⟨r,h1⟩:=adK hl hg
  grind
def ame(hl:cU hp H)(h:bg tm hp o=GW v):bg tm H o=GW v:=by
 cases o<;>simp only[bg,reduceCtorEq] at h ⊢<;>first
  | exact h
  | exact Vc hl h
  | exact an8 hl h
  | exact an9 hl h
  | skip
 rename_i kk zero ok m k
 cases hk:pI kk (az tm k) with
 | false=>rw[hk] at h;cases h
 | true=>
  rw[hk] at h
  cases hr:Dc hp (az tm k) (az tm m) with
  | none=>simp[hr] at h
  | some r=>rw[an7 hl hr];simpa only[hr] using h
def amf(hk:bj o=0)(hp H:Hp):bg tm hp o=bg tm H o:=by
 cases o with
 | sA k x lo hi=>
  cases k with
  | str=>simp only[bg,fN];cases az tm x<;>rfl
  | sl sz=>simp[bj] at hk
  | ar n sz=>simp[bj] at hk
 | len k x=>
  match k,hk with
  | 0,_=>simp only[bg];unfold iW;split<;>simp_all
  | 1,_=>simp only[bg];unfold iW;split<;>simp_all
  | k+2,hk=>simp[bj] at hk
 | call md f xs=>cases md<;>simp[bj] at hk
 | _=>first
  | rfl
  | simp[bj] at hk
end
section
variable {tm cB:Env}
def dJ{x:X}(h:∀t,t∈jE x->ai cB t=ai tm t):az cB x=az tm x:=by
 cases x with
 | t i=>exact h i (by simp[jE])
 | c v=>rfl
def Ew:∀{xs:List X},(∀t,t∈Bw xs->ai cB t=ai tm t)->dL cB xs=dL tm xs
 | [],_=>rfl
 | x::r,h=>by
  simp only[dL]
  rw[dJ (x:=x) (fun t ht=>h t (by simp[Bw,ht])),Ew (fun t ht=>h t (by simp[Bw,ht]))]
def Ph:∀{ps:List (Nat×Nat×X)} {z:List AV},(∀t,t∈Ml ps->ai cB t=ai tm t)->fill cB z ps=fill tm z ps
 | [],_,_=>rfl
 | (o,s,x)::r,z,h=>by
  simp only[fill]
  rw[dJ (x:=x) (fun t ht=>h t (by simp[Ml,ht]))]
  rw[Ph (ps:=r) (fun t ht=>h t (by simp[Ml,ht]))]
def aa3{d:Nat}{x:Option X}(h:∀t,t∈Mk x->ai cB t=ai tm t):db cB d x=db tm d x:=by
 cases x with
 | none=>rfl
 | some x=>simp only[db];rw[dJ h]
def ale{k:Cut}{lo hi:Option X}(h1:∀t,t∈Mk lo->ai cB t=ai tm t)(h2:∀t,t∈Mk hi->ai cB t=ai tm t):
  fN hp k x cB lo hi=fN hp k x tm lo hi:=by
 unfold fN;simp only[aa3 h1,aa3 h2]
def akG(h:∀t,t∈kL o->ai cB t=ai tm t):bg cB hp o=bg tm hp o:=by
 cases o<;>simp only[kL,wR] at h<;>simp only[bg]
 case pick c a b=>rw[dJ (x:=c) fun t ht=>h t (.inl ht),dJ (x:=a) fun t ht=>h t (.inr (.inl ht)),dJ (x:=b) fun t ht=>h t (.inr (.inr ht))]
 case Fk z ps=>rw[Ph h]
 case nl n s z ps=>rw[Ph h]
 case IY f a b=>rw[Ew (xs:=a) fun t ht=>h t (.inl ht),Ew (xs:=b) fun t ht=>h t (.inr ht)]
 case sA k x lo hi=>rw[dJ (x:=x) fun t ht=>h t (.inl ht),ale (fun t ht=>h t (.inr (.inl ht))) (fun t ht=>h t (.inr (.inr ht)))]
 case mn xs=>rw[Ew h]
 case mx xs=>rw[Ew h]
 case bin op x y=>rw[dJ (x:=x) fun t ht=>h t (.inl ht),dJ (x:=y) fun t ht=>h t (.inr ht)]
 case I2 x y=>rw[dJ (x:=x) fun t ht=>h t (.inl ht),dJ (x:=y) fun t ht=>h t (.inr ht)]
 case eq n k x y=>rw[dJ (x:=x) fun t ht=>h t (.inl ht),dJ (x:=y) fun t ht=>h t (.inr ht)]
 case a6 s x y=>rw[dJ (x:=x) fun t ht=>h t (.inl ht),dJ (x:=y) fun t ht=>h t (.inr ht)]
 case IZ l s x y=>rw[dJ (x:=x) fun t ht=>h t (.inl ht),dJ (x:=y) fun t ht=>h t (.inr ht)]
 case I0 x y=>rw[dJ (x:=x) fun t ht=>h t (.inl ht),dJ (x:=y) fun t ht=>h t (.inr ht)]
 case I1 l s g x y=>rw[dJ (x:=x) fun t ht=>h t (.inl ht),dJ (x:=y) fun t ht=>h t (.inr ht)]
 case SC kk z ok x y=>rw[dJ (x:=x) fun t ht=>h t (.inl ht),dJ (x:=y) fun t ht=>h t (.inr ht)]
 all_goals first
  | rfl
  | (rename_i x;rw[dJ (x:=x) h])
def Ks{au:Hp}{ct:Nat}(h:∀t,t∈kL o->ai cB t=ai tm t):cP cB au ct o=cP tm hp ct o:=by
 cases o<;>simp only[kL,wR] at h<;>simp only[cP]
 case box s x=>rw[dJ (x:=x) h]
 case jI n s z ps=>rw[Ph h]
 case qt s b z x y=>rw[dJ (x:=x) fun t ht=>h t (.inl ht),dJ (x:=y) fun t ht=>h t (.inr ht)]
 case sC x=>rw[dJ (x:=x) h]
def Ev{ct:Nat}(h:∀t,t∈kL o->ai cB t=ai tm t):cz cB hp ct o=cz tm hp ct o:=by
 cases o<;>simp only[kL,wR] at h<;>simp only[cz]
 case st s x y=>rw[dJ (x:=x) fun t ht=>h t (.inl ht),dJ (x:=y) fun t ht=>h t (.inr ht)]
 case sB kk c a b=>rw[dJ (x:=c) fun t ht=>h t (.inl ht),dJ (x:=a) fun t ht=>h t (.inr (.inl ht)),dJ (x:=b) fun t ht=>h t (.inr (.inr ht))]
 case sD x=>rw[dJ (x:=x) h]
 case c9 s b x y=>rw[dJ (x:=x) fun t ht=>h t (.inl ht),dJ (x:=y) fun t ht=>h t (.inr ht)]
 case sF s x y=>rw[dJ (x:=x) fun t ht=>h t (.inl ht),dJ (x:=y) fun t ht=>h t (.inr ht)]
end
end
section
open Go
section
variable {r:AV}{bs:List Nat}{lo:Nat}{ah:Nat->Nat}{u:yj}
structure Calm(w w':ym):Prop where
 os:w'.os=w.os
 tape:w'.tape=w.tape
 output:w'.output=w.output
 size:w.heap.size<=w'.heap.size
 same:∀b,b<w.heap.size->w'.heap[b]? =w.heap[b]?
def Calm.refl{w:ym}:Calm w w:=⟨rfl,rfl,rfl,yz _,fun _ _=>rfl⟩
def De(O:bz)(w:ym):Prop:=(∀b,b<O.w0.heap.size->w.heap[b]? =O.w0.heap[b]?)/\O.w0.heap.size<=w.heap.size
def fp:Mp:=fun _=>GX
def jj(ah:Nat->Nat)(S:Nat->Prop)(w:ym)(lo:Nat):AV->yj->List Nat->Prop
 | .cL ex sz n cs,u,bs=>∃b o c arr t,bs=[b]/\u=.slice (GW ⟨b,o,GX⟩) n c/\n<=c/\(ex=ycN->c=n)/\lo<=b/\¬S b/\w.heap[b]? =GW (.cells arr t (0,0))/\cs.length=n*sz/\
   o+c*sz<=arr.size/\b5 ah fp S w cs b o/\aE cs=ycN
 | r,u,bs=>bs=[]/\aj ah fp S w r u/\aQ r=ycN
def mv(ah:Nat->Nat)(S:Nat->Prop)(w:ym)(lo:Nat):List AV->List yj->List Nat->Prop
 | [],us,bs=>us=[]/\bs=[]
 | v::r,us,bs=>∃u t b1 b2,us=u::t/\bs=b1++b2/\jj ah S w lo v u b1/\mv ah S w lo r t b2
def pW(ah:Nat->Nat)(S:Nat->Prop)(w:ym)(lo:Nat)(r:AV)(u:yj):Prop:=
 match r with
 | .av vs=>∃(us:Array yj) (bs:List Nat),u=.tuple us/\mv ah S w lo vs us.toList bs/\bs.Nodup
 | r=>∃bs,jj ah S w lo r u bs
def CU(P:xy)(f:tQ)(args:Array yj)(w:ym)(R:yaR->ym->Prop):Prop:=
 ((callFunc f args).run P w=.ok (.enter f args) w/\CallsIn Fence.wide 0 P f args w R)\/∃u w',(callFunc f args).run P w=.ok (.value u) w'/\R (.returned u) w'
def acz(O:bz)(w:ym)(S:Nat->Prop)(r:AV)(e:yaR)(w':ym):Prop:=
 ∃u S',e=.returned u/\Calm w w'/\(∀b,S b->S' b)/\(∀b,S' b->S b\/w.heap.size<=b)/\(∀b,S' b->b<w'.heap.size)/\pW O.ah S' w' w.heap.size r u
def eR(O:bz)(n:Nat)(aw:List AV)(r:AV):Prop:=
 ∀(w:ym) (S:Nat->Prop) (args:Array yj),De O w->(∀b,S b->b<w.heap.size)->aB O.ah fp S w aw args.toList->aE aw=ycN->
  CU O.P (O.ah n) args w (acz O w S r)
def Bo(O:bz)(m:Mp)(S:Nat->Prop)(w:ym)(hp:Hp)(ct:Nat)(v:AV)(au:Hp)(aX:Nat)(e:yaR)(w':ym):Prop:=
 ∃u m' S',e=.returned u/\aT O m' S' w' au aX/\ct<=aX/\aj O.ah m' S' w' v u/\cr m S w hp m' S' w' au ct
def Df(O:bz)(n:Nat)(hp:Hp)(ct:Nat)(aw:List AV)(v:AV)(au:Hp)(aX:Nat):Prop:=
 ∀(m:Mp) (S:Nat->Prop) (w:ym) (args:Array yj),aT O m S w hp ct->aB O.ah m S w aw args.toList->CU O.P (O.ah n) args w (Bo O m S w hp ct v au aX)
section
variable {ah:Nat->Nat}{m m':Mp}{S S':Nat->Prop}{w w':ym}
mutual
def zg(hS:∀b,S b->S' b)(hw:gj S w w'):∀(v:AV) (u:yj),aQ v=ycN->aj ah m S w v u->aj ah m' S' w' v u
 | .int _ _,_,_,h | .bool _,_,_,h | .ay _ _,_,_,h | .bT _ _ _,_,_,h | .str _,_,_,h | .mT,_,_,h | .ab,_,_,h | .jH,_,_,h | .lK,_,_,h | .undef,_,_,h=>by
  simpa only[aj] using h
 | .ptr id o,u,hp,h=>by simp[aQ] at hp
 | .bN cs,u,hp,h=>by
  simp only[aj] at h ⊢;obtain⟨b,o,h1,h2,h3,h4⟩:=h;refine⟨b,o,h1,h2.imp id (hS b),h3,?_⟩;rcases h2 with rfl | h2
  .simp only [b5]
  .exact TW hS hw cs b o h3 h2 h4
 | .ap ex n cs,u,hp,h=>by
  simp only[aj] at h ⊢;rcases h with ⟨b,o,c,h1,h2,h3,h4,h5,h6⟩ | h
  .refine .inl ⟨b,o,c,h1,h2,h3,h4.imp id (hS b),h5,?_⟩;rcases h4 with rfl | h4
   .simp only [b5]
   .exact TW hS hw cs b o h5 h4 h6
  .exact .inr h
 | .cL _ _ _ _,u,hp,h=>by simp[aQ] at hp
 | .aq id o n,u,hp,h=>by simp[aQ] at hp
 | .fn (.f g) first cap,u,hp,h=>by
  simp only[aj] at h ⊢;simp only[aQ,ye] at hp;obtain⟨fi,ca,h1,h2,h3⟩:=h;exact⟨fi,ca,h1,Bn hS hw first _ hp.1 h2,Bn hS hw cap _ hp.2 h3⟩
 | .fn (.y l) _ _,u,hp,h=>by simp[aQ] at hp
 | .map id,u,hp,h=>by simp[aQ] at hp
 | .lL ks vs,u,hp,h=>by
  simp only[aj] at h ⊢;obtain⟨b,es,clock,h1,h2,h3,h4,h5,h6,h7⟩:=h;exact⟨b,es,clock,h1,hS b h2,h3,h4,(hw b h2).trans h5,Bn hS hw ks _ h3 h6,Bn hS hw vs _ h4 h7⟩
 | .it id,u,hp,h=>by simp[aQ] at hp
 | .agg cs,u,hp,h=>by
  simp only[aj] at h ⊢;simp only[aQ] at hp;obtain⟨xs,h1,h2⟩:=h;exact⟨xs,h1,Bn hS hw cs _ hp h2⟩
 | .av cs,u,hp,h=>by
  simp only[aj] at h ⊢;simp only[aQ] at hp;obtain⟨xs,h1,h2⟩:=h;exact⟨xs,h1,Bn hS hw cs _ hp h2⟩
def Bn(hS:∀b,S b->S' b)(hw:gj S w w'):∀(vs:List AV) (us:List yj),aE vs=ycN->aB ah m S w vs us->aB ah m' S' w' vs us
 | [],us,_,h=>by simpa only[aB] using h
 | v::r,us,hp,h=>by
  simp only[aB] at h ⊢;simp only[aE,ye] at hp;have⟨u,t,h1,h2,h3⟩:=h;exact⟨u,t,h1,zg hS hw v u hp.1 h2,Bn hS hw r t hp.2 h3⟩
def TW(hS:∀b,S b->S' b)(hw:gj S w w'):∀(cs:List AV) (b o:Nat),aE cs=ycN->S b->b5 ah m S w cs b o->b5 ah m' S' w' cs b o
 | [],_,_,_,_,_=>by simp only[b5]
 | c::cs,b,o,hp,hb,h=>by
  simp only[b5] at h ⊢;simp only[aE,ye] at hp;have⟨⟨u,h1,h2⟩,h3⟩:=h;exact⟨⟨u,(OT (hw b hb)).trans h1,zg hS hw c u hp.1 h2⟩,TW hS hw cs b (o+1) hp.2 hb h3⟩
end
def CA(hS:∀b,S b->S' b)(hw:gj S w w'):∀(cs:List AV) (b o:Nat),aE cs=ycN->w'.heap[b]? =w.heap[b]? ->b5 ah m S w cs b o->b5 ah m' S' w' cs b o
 | [],_,_,_,_,_=>by simp only[b5]
 | c::cs,b,o,hp,hb,h=>by
  simp only[aE,ye] at hp;have⟨⟨u,h1,h2⟩,h3⟩:=h;exact⟨⟨u,(OT hb).trans h1,zg hS hw c u hp.1 h2⟩,CA hS hw cs b (o+1) hp.2 hb h3⟩
end
section
variable {O:bz}{m:Mp}{S S':Nat->Prop}{w w':ym}{hp:Hp}{ct:Nat}
def amg(hh:aT O m S w hp ct)(hw:Calm w w'):gj S w w':=fun b hb=>hw.same b (hh.slt b hb)
def CF(hh:aT O m S w hp ct)(hw:Calm w w')(hS:∀b,S b->S' b)(hn:∀b,S' b->S b\/w.heap.size<=b)(hl:∀b,S' b->b<w'.heap.size):aT O m S' w' hp ct where
 obj id o p ho hm:=Ab (fun _ _ h=>h) hS (amg hh hw) (fun q hq=>hw.same _ (hh.blt id q hq)) (fun q hq hs=>(hn _ hs).resolve_right (by have:=hh.blt id q hq;lia)) (hh.obj id o p ho hm)
 lt:=hh.lt
 inj:=hh.inj
 slt:=hl
 blt id p h:=yR (hh.blt id p h) hw.size
 low:=hh.low
 mX b hb:=(hw.same b (yR hb hh.gJ)).trans (hh.mX b hb)
 gJ:=xn hh.gJ hw.size
 aH:=hh.aH
def Bp{base:Nat}(hh:aT O m S w hp ct)(hw:Calm w w')(hS:∀b,S b->S' b)(hn:∀b,S' b->S b\/w.heap.size<=b):cr m S w hp m S' w' hp base where
 os:=hw.os
 tape:=hw.tape
 output:=hw.output
 size:=hw.size
 same b hb _:=hw.same b hb
 sub:=hS
 still b hb:=hw.same b (hh.slt b hb)
 new b hb:=(hn b hb).imp id .inr
 own b hb:=.inl hb
 old _ _ _ h:=h
 loops b r hb:=⟨r,(hw.same b (xD.1 hb).1).trans hb⟩
def aoa{i:Nat}(hh:aT O m S w hp ct)(hi:m i=GX)(I4:i<ct){p:Pl}(hb:p.b<w.heap.size)(bf:O.w0.heap.size<=p.b)(I5:¬S p.b)(qC:∀j q,m j=GW q->q.b≠p.b)(hf:∀o,ax hp i=GW o->(fJ O (fU m i p) S w i o/\¬jf o)\/(jf o/\fJ O (fU m i p) (fun b=>S b\/b=p.b) w i o)):
  ∃S',aT O (fU m i p) S' w hp ct/\(∀b,S b->S' b)/\∀b,S' b->S b\/b=p.b:=by
 have aU:gj S w w:=fun _ _=>rfl
 have gen:∀S':Nat->Prop,(∀b,S b->S' b)->(∀b,S' b->S b\/b=p.b)->(∀o,ax hp i=GW o->fJ O (fU m i p) S' w i o)->aT O (fU m i p) S' w hp ct:=by
  intro S' h1 h2 h3;refine⟨?_,?_,?_,?_,?_,?_,hh.mX,hh.gJ,hh.aH⟩
  .intro id o q ho hm;by_cases hc:id=i
   .grind
   .rw [eK hc] at hm;refine Ab (jx hi) h1 aU (fun _ _=>rfl) (fun q' bB hs=>?_) (hh.obj id o q ho hm)
    grind
  .intro id q hm;by_cases hc:id=i
   .grind
   .rw [eK hc] at hm;exact hh.lt id q hm
  .intro a b oa ob pa pb ha bD Gj BT e;by_cases ca:a=i
   .by_cases cb:b=i
    .grind
    .subst ca;rw[dI] at Gj;rw[eK cb] at BT
     grind
   .rw [eK ca] at Gj;by_cases cb:b=i
    .subst cb;rw[dI] at BT
     grind
    .rw [eK cb] at BT;exact hh.inj a b oa ob pa pb ha bD Gj BT e
  .intro b hs;rcases h2 b hs with h | h
   .exact hh.slt b h
   .grind
  .intro id q hm;by_cases hc:id=i
   .subst hc;rw[dI] at hm
    grind
   .rw [eK hc] at hm;exact hh.blt id q hm
  .intro id q hm;by_cases hc:id=i
   .subst hc;rw[dI] at hm
    grind
   .rw [eK hc] at hm;exact hh.low id q hm
 cases ho:ax hp i with
 | none=>exact⟨S,gen S (fun _ h=>h) (fun _ h=>.inl h) (fun o h=>by rw[ho] at h;cases h),fun _ h=>h,fun _ h=>.inl h⟩
 | some o=>
  rcases hf o ho with ⟨h1,_⟩ | ⟨_,h1⟩
  .exact ⟨S,gen S (fun _ h=>h) (fun _ h=>.inl h) (fun o' h=>by rw[ho] at h;injection h with h;subst h;exact h1),fun _ h=>h,fun _ h=>.inl h⟩
  .exact ⟨_,gen (fun b=>S b\/b=p.b) (fun _ h=>.inl h) (fun _ h=>h) (fun o' h=>by rw[ho] at h;injection h with h;subst h;exact h1),fun _ h=>.inl h,fun _ h=>h⟩
def abI(h:jj ah S w lo r u bs)(m:Mp)(hS:∀b,S b->S' b)(hbs:∀b,b∈bs->S' b):aj ah m S' w (bA r) u:=by
 have aU:gj S w w:=fun _ _=>rfl
 cases r with
 | cL ex sz n cs=>
  obtain⟨b,o,c,arr,t,rfl,rfl,h1,h2,h3,h4,h5,h6,h7,h8,h9⟩:=h;exact .inl ⟨b,o,c,rfl,h1,h2,.inr (hbs b (by simp)),h9,CA hS aU cs b o h9 rfl h8⟩
 | _=>simp only[jj] at h;exact zg hS aU _ _ h.2.2 h.2.1
def abJ{ah:Nat->Nat}{lo:Nat}(m:Mp)(hS:∀b,S b->S' b):∀{vs:List AV} {us:List yj} {bs:List Nat},mv ah S w lo vs us bs->(∀b,b∈bs->S' b)->aB ah m S' w (Fm vs) us
 | [],us,bs,h,_=>by simp only[mv] at h;exact h.1
 | v::r,us,bs,h,hb=>by
  obtain⟨u,t,b1,b2,rfl,rfl,h1,h2⟩:=h;exact⟨u,t,rfl,abI h1 m hS (fun b bD=>hb b (by simp[bD])),abJ m hS h2 (fun b bD=>hb b (by simp[bD]))⟩
def Vd(h:jj ah S w lo r u bs):∀b,b∈bs->lo<=b/\b<w.heap.size:=by
 intro b hb
 cases r with
 | cL ex sz n cs=>
  simp only[jj] at h
  grind
 | _=>simp only[jj] at h;rw[h.1] at hb;cases hb
def Ve{ah:Nat->Nat}{lo:Nat}:∀{vs:List AV} {us:List yj} {bs:List Nat},mv ah S w lo vs us bs->∀b,b∈bs->lo<=b/\b<w.heap.size
 | [],us,bs,h,b,hb=>by simp only[mv] at h;rw[h.2] at hb;cases hb
 | v::r,us,bs,h,b,hb=>by
  obtain⟨u,t,b1,b2,rfl,rfl,h1,h2⟩:=h;rcases wR.1 hb with hb | hb
  .exact Vd h1 b hb
  .exact Ve h2 b hb
def abK(h:pW ah S w lo r u)(m:Mp):∃S',(∀b,S b->S' b)/\(∀b,S' b->S b\/(lo<=b/\b<w.heap.size))/\aj ah m S' w (shut r) u:=by
 have one:∀(r:AV) (bs:List Nat),shut r=bA r->jj ah S w lo r u bs->∃S',(∀b,S b->S' b)/\(∀b,S' b->S b\/(lo<=b/\b<w.heap.size))/\aj ah m S' w (shut r) u:=by
  intro r bs hs h;refine⟨fun b=>S b\/b∈bs,fun _ h=>.inl h,fun b hb=>hb.imp (fun x=>x) (fun hb=>Vd h b hb),?_⟩;rw[hs];exact abI h m (fun _ h=>.inl h) (fun _ h=>.inr h)
 cases r with
 | av vs=>
  obtain⟨us,bs,rfl,h1,h2⟩:=h;refine⟨fun b=>S b\/b∈bs,fun _ h=>.inl h,fun b hb=>hb.imp (fun x=>x) (fun hb=>Ve h1 b hb),?_⟩;exact⟨us,rfl,abJ m (fun _ h=>.inl h) h1 (fun _ h=>.inr h)⟩
 | _=>
  have⟨bs,h⟩:=h;exact one _ bs rfl h
end
end
end
section
open Go
section
variable {r:AV}{hp:Hp}{ct:Nat}
section
variable {O:bz}{m:Mp}{S:Nat->Prop}{w:ym}{H:Hp}{cH:Nat}
def PX:ct<=(fT hp ct r).2.2:=by
 cases r<;>simp only[fT]<;>lia
def PY:∀{vs:List AV} {hp:Hp} {ct:Nat},ct<=(kV hp ct vs).2.2
 | [],hp,ct=>by simp[kV]
 | v::r,hp,ct=>by
  simp only[kV];have h1:=PX (hp:=hp) (ct:=ct) (r:=v);have h2:=PY (vs:=r) (hp:=(fT hp ct v).2.1) (ct:=(fT hp ct v).2.2)
  lia
def Vf(hf:∀id o,ax hp id=GW o->id<ct):∀id o,ax hp id=GW o->ax (fT hp ct r).2.1 id=GW o:=by
 intro id o h;cases r<;>simp only[fT]<;>try exact h
 rw[fS,yI (by have:=hf id o h;lia)]
 exact h
def adM{lo:Nat}{u:yj}{bs:List Nat}(hh:aT O m S w H cH)(hl:cU (fT hp ct r).2.1 H)(hZ:(fT hp ct r).2.2<=cH)(hn:∀id,ct<=id->id<(fT hp ct r).2.2->m id=GX)(hr:jj O.ah S w lo r u bs)(bf:O.w0.heap.size<=lo)(qC:∀j q,m j=GW q->q.b∉bs):
  ∃m' S',aT O m' S' w H cH/\dz m m'/\(∀id p,m' id=GW p->m id=GW p\/(ct<=id/\id<(fT hp ct r).2.2/\p.b∈bs))/\aj O.ah m' S' w (fT hp ct r).1 u/\(∀b,S b->S' b)/\(∀b,S' b->S b\/b∈bs):=by
 have aU:gj S w w:=fun _ _=>rfl
 cases r with
 | cL ex sz n cs=>
  simp only[fT] at hl hZ hn;obtain⟨b,o,c,arr,t,rfl,rfl,h1,h2,h3,h4,h5,h6,h7,h8,h9⟩:=hr;have bO:m ct=GX:=hn ct (yz _) (Nat.lt_succ_self _);have ayK:b<w.heap.size:=(xD.1 h5).1;have qB:fJ O (fU m ct ⟨b,o,c*sz,sz⟩) S w ct (.cells ycN ycN ex sz cs):=by
   refine⟨_,arr,t,dI,h5,rfl,?_,h7,fun hx=>?_,CA (fun _ h=>h) aU cs b o h9 rfl h8,fun _=>h9,fun _=>h4,by simp⟩
   .show cs.length<=c*sz
    rw[h6];exact yQ _ h1
   .grind
  have⟨S',k1,k2,k3⟩:=aoa (p:=⟨b,o,c*sz,sz⟩) hh bO (by lia) ayK (by show _<=b;lia) h4 (fun j q hq e=>qC j q hq (by rw[e];simp)) (fun o' jm=>by
   have⟨Yz,g1,g2⟩:=hl ct (.cells ycN ycN ex sz cs) (by rw[fS];simp)
   rw[jm] at g1;injection g1 with g1
   subst g1
   exact TM (p:=⟨b,o,c*sz,sz⟩) g2 dI qB (by simp[jf]))
  refine⟨_,S',k1,jx bO,fun id p au=>?_,?_,k2,fun b' bD=>(k3 b' bD).imp (fun h=>h) (fun h=>by rw[h];simp)⟩
  .by_cases hc:id=ct
   .subst hc;rw[dI] at au;injection au with au
    subst au;exact .inr ⟨yz _,by simp[fT],by simp⟩
   .rw [eK hc] at au;exact .inl au
  .simp only [fT,aj];exact⟨_,c,dI,by simp,h1,by simp⟩
 | _=>
  exact⟨m,S,hh,dz.refl,fun _ _ h=>.inl h,zg (fun _ h=>h) aU _ _ hr.2.2 hr.2.1,fun _ h=>h,fun _ h=>.inl h⟩
def KV(hf:∀id o,ax hp id=GW o->id<ct):∀id o,ax (fT hp ct r).2.1 id=GW o->id<(fT hp ct r).2.2:=by
 intro id o h;cases r<;>simp only[fT] at h ⊢<;>try exact hf id o h
 rw[fS] at h
 grind
def PZ:∀{vs:List AV} {hp:Hp} {ct:Nat},(∀id o,ax hp id=GW o->id<ct)->∀id o,ax hp id=GW o->ax (kV hp ct vs).2.1 id=GW o
 | [],hp,ct,_,id,o,h=>by simpa[kV] using h
 | v::r,hp,ct,hf,id,o,h=>by
  exact PZ (KV hf) id o (Vf hf id o h)
def adN{lo:Nat}(bf:O.w0.heap.size<=lo):∀{vs:List AV} {us:List yj} {bs:List Nat} {hp:Hp} {ct:Nat} {m:Mp} {S:Nat->Prop},aT O m S w H cH->cU (kV hp ct vs).2.1 H->(kV hp ct vs).2.2<=cH->
  (∀id o,ax hp id=GW o->id<ct)->(∀id,ct<=id->id<(kV hp ct vs).2.2->m id=GX)->
  mv O.ah S w lo vs us bs->bs.Nodup->(∀j q,m j=GW q->q.b∉bs)->
  ∃m' S',aT O m' S' w H cH/\dz m m'/\(∀id p,m' id=GW p->m id=GW p\/(ct<=id/\id<(kV hp ct vs).2.2/\p.b∈bs))/\aB O.ah m' S' w (kV hp ct vs).1 us/\(∀b,S b->S' b)/\(∀b,S' b->S b\/b∈bs)
 | [],us,bs,hp,ct,m,S,hh,hl,hZ,hf,hn,hr,lh,qC=>by
  simp only[mv] at hr;exact⟨m,S,hh,dz.refl,fun _ _ h=>.inl h,by simp only[kV,aB];exact hr.1,fun _ h=>h,fun _ h=>.inl h⟩
 | v::r,us,bs,hp,ct,m,S,hh,hl,hZ,hf,hn,hr,lh,qC=>by
  simp only[mv] at hr;obtain⟨u,t,b1,b2,rfl,rfl,h1,h2⟩:=hr;simp only[kV] at hl hZ hn ⊢;have dW:=PX (hp:=hp) (ct:=ct) (r:=v);have A0:=PY (vs:=r) (hp:=(fT hp ct v).2.1) (ct:=(fT hp ct v).2.2);rw[List.nodup_append] at lh;have⟨m1,S1,k1,k2,k3,k4,k5,k6⟩:=adM (hp:=hp) (ct:=ct) (lo:=lo) hh ((fun id o h=>hl id o (PZ (KV hf) id o h))) (by lia) (fun id g1 g2=>hn id g1 (by lia)) h1 bf
   (fun j q hq hb=>qC j q hq (by simp[hb]))
  have h2':mv O.ah S1 w lo r t b2:=by
   clear k4;have WV:∀b,S1 b->S b\/b∈b1:=k6;have hd:∀b,b∈b2->b∉b1:=fun b hb jQ=>lh.2.2 b jQ b hb rfl
   have one:∀{v:AV} {u:yj} {bb:List Nat},(∀b,b∈bb->b∉b1)->jj O.ah S w lo v u bb->jj O.ah S1 w lo v u bb:=by
    intro v u bb AU h
    cases v with
    | cL ex sz n cs=>
     simp only[jj] at h ⊢;obtain⟨b,o,c,arr,tt,rfl,rfl,g1,g2,g3,g4,g5,g6,g7,g8,g9⟩:=h;exact⟨b,o,c,arr,tt,rfl,rfl,g1,g2,g3,fun hs=>(WV b hs).elim g4 (AU b (by simp)),g5,g6,g7,CA k5 (fun _ _=>rfl) cs b o g9 rfl g8,g9⟩
    | _=>simp only[jj] at h ⊢;exact⟨h.1,zg k5 (fun _ _=>rfl) _ _ h.2.2 h.2.1,h.2.2⟩
   clear k1 k2 k3 hl hZ hn qC lh;revert hd h2;generalize b2=bb
   induction r generalizing t bb with
   | nil=>intro h2 hd;simpa only[mv] using h2
   | cons v' r ih=>
    intro h2 hd;simp only[mv] at h2 ⊢;obtain⟨u',t',c1,c2,rfl,rfl,g1,g2⟩:=h2
    exact⟨u',t',c1,c2,rfl,rfl,one (fun b hb=>hd b (by simp[hb])) g1,ih _ (by
     have:=PY (vs:=r) (hp:=(fT hp ct v).2.1) (ct:=(fT hp ct v).2.2)
     exact this) _ g2 (fun b hb=>hd b (by simp[hb]))⟩
  have⟨m2,S2,g1,g2,g3,g4,g5,g6⟩:=adN bf (vs:=r) (us:=t) (bs:=b2) (m:=m1) (S:=S1) k1 hl hZ (KV hf) (fun id q1 q2=>by
   cases hq:m1 id with
   | none=>rfl
   | some p=>
    rcases k3 id p hq with h | ⟨_,h,_⟩
    .rw [hn id (by lia) q2] at h;cases h
    .lia) h2' lh.2.1 (fun j q hq hb=>by
     rcases k3 j q hq with h | ⟨_,_,h⟩
     .exact qC j q h (by simp[hb])
     .exact lh.2.2 q.b h q.b hb rfl)
  refine⟨m2,S2,g1,k2.trans g2,fun id p au=>?_,?_,fun b hb=>g5 b (k5 b hb),fun b hb=>?_⟩
  .rcases g3 id p au with h | ⟨a1,a2,a3⟩
   .rcases k3 id p h with h | ⟨a1,a2,a3⟩
    .exact .inl h
    .exact .inr ⟨a1,by lia,by simp[a3]⟩
   .exact .inr ⟨by lia,a2,by simp[a3]⟩
  .simp only [aB];exact⟨u,t,rfl,mI g2 g5 (fun _ _=>rfl) _ _ k4,g4⟩
  .rcases g6 b hb with h | h
   .exact (k6 b h).imp (fun h=>h) (fun h=>by simp[h])
   .exact .inr (by simp[h])
def asz{lo:Nat}{u:yj}(hh:aT O m S w H cH)(hl:cU (own hp ct r).2.1 H)(hZ:(own hp ct r).2.2<=cH)(hf:∀id o,ax hp id=GW o->id<ct)(hn:∀id,ct<=id->id<(own hp ct r).2.2->m id=GX)(hr:pW O.ah S w lo r u)(bf:O.w0.heap.size<=lo)(NU:∀j q,m j=GW q->q.b<lo):
  ∃m' S',aT O m' S' w H cH/\dz m m'/\(∀id p,m' id=GW p->m id=GW p\/(ct<=id/\id<(own hp ct r).2.2/\lo<=p.b))/\aj O.ah m' S' w (own hp ct r).1 u/\(∀b,S b->S' b)/\(∀b,S' b->S b\/lo<=b):=by
 have one:∀(r:AV) (bs:List Nat),own hp ct r=fT hp ct r->jj O.ah S w lo r u bs->cU (own hp ct r).2.1 H->(own hp ct r).2.2<=cH->(∀id,ct<=id->id<(own hp ct r).2.2->m id=GX)->
   ∃m' S',aT O m' S' w H cH/\dz m m'/\(∀id p,m' id=GW p->m id=GW p\/(ct<=id/\id<(own hp ct r).2.2/\lo<=p.b))/\aj O.ah m' S' w (own hp ct r).1 u/\(∀b,S b->S' b)/\(∀b,S' b->S b\/lo<=b):=by
  intro r bs he hr hl hZ hn;rw[he] at hl hZ hn ⊢;have FJ:=Vd hr;have⟨m',S',k1,k2,k3,k4,k5,k6⟩:=adM hh hl hZ hn hr bf (fun j q hq hb=>by have:=NU j q hq;have:=(FJ _ hb).1;lia)
  exact⟨m',S',k1,k2,fun id p h=>(k3 id p h).imp (fun h=>h) (fun h=>⟨h.1,h.2.1,(FJ _ h.2.2).1⟩),k4,k5,fun b hb=>(k6 b hb).imp (fun h=>h) (fun h=>(FJ _ h).1)⟩
 cases r with
 | av vs=>
  simp only[own] at hl hZ hn ⊢;simp only[pW] at hr;obtain⟨us,bs,rfl,h1,h2⟩:=hr;have FJ:=Ve h1;have⟨m',S',k1,k2,k3,k4,k5,k6⟩:=adN bf hh hl hZ hf hn h1 h2 (fun j q hq hb=>by have:=NU j q hq;have:=(FJ _ hb).1;lia)
  exact⟨m',S',k1,k2,fun id p h=>(k3 id p h).imp (fun h=>h) (fun h=>⟨h.1,h.2.1,(FJ _ h.2.2).1⟩),by simp only[aj];exact⟨us,rfl,k4⟩,k5,fun b hb=>(k6 b hb).imp (fun h=>h) (fun h=>(FJ _ h).1)⟩
 | _=>
  simp only[pW] at hr;have⟨bs,hr⟩:=hr;exact one _ bs rfl hr hl hZ hn
end
end
end
end VE
