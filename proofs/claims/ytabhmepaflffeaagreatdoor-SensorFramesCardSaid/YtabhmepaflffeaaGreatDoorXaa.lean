import GoSem.Core.Code
import GoSem.Core.Float
import GoSem.Core.Utf8
import Derived.CallsIn
import Derived.Laws.World
import GoSem.Op.Equal
import GoSem.Core.Region
import Derived.Below
import Derived.Laws.AppendOwn
import Derived.Laws.Rows
import Derived.WalkKit
import Derived.Laws.CopyRow
import Derived.Laws.Cells
import Derived.Laws.Strings
import Derived.Lib.Strings
import Derived.WideLaws
import Derived.Maps.Keyed
import Derived.ChangeKeysEq
import Derived.Laws.Tables
import Derived.IntWalk
import Derived.Laws.CopyOwn
set_option linter.all false
set_option maxRecDepth 100000
open Array renaming getElem?_eq_some_iff->xx,getElem?_modify->ybd,getElem?_toList->tN,length_toList->vK,range->tU
open BitVec renaming ofInt->xO
open Bool renaming and_assoc->yaP,and_eq_true->yf,eq_iff_iff->yai,false_eq_true->yD,not_eq_true'->ub
open ForInStep renaming yield->ybj
open Go renaming Addr->uW,BinOp->vj,Code->vD,Ending->ybm,Field->uj,FloatKind->xX,IntKind->xg,Loop->tq,MapEntry->vl,Next->ybk,Obj->yaG,Oper->xa,Operand->xz,Program->xp,TypeDesc->yad,TypeId->yB,TypeInfo->ydw,UnOp->yde,Value->ym,World->yo,binOp->xZ,sizeOf->vE
open Go.Utf8 renaming runeError->uZ,valid->ybM
open List renaming all_cons->yaB,append_assoc->xt,cons_append->yI,drop_drop->vS,eq_nil_of_length_eq_zero->yE,ext_getElem?->ybD,flatten_append->ybq,flatten_cons->tu,getElem?_append_left->wH,getElem?_append_right->wu,getElem?_drop->ybA,getElem?_eq_getElem->xn,getElem?_map->tr,getElem?_take_of_lt->tA,getElem?_toArray->ybf,length_append->yO,length_cons->yH,length_drop->wP,length_take->yU,map_cons->xb,map_eq_nil_iff->ybp,mem_append->wD,range->wq,replicate->yj,replicate_succ->wG,size_toArray->yaq,take_of_length_le->yK,take_succ_cons->wI,take_zero->yck
open List.cons renaming injEq->uA
open Nat renaming add_assoc->td,add_mul->xS,add_zero->yY,beq->yu,beq_eq->ydt,beq_refl->wL,ble->yG,ble_eq->ydu,blt->yP,eq_of_beq_eq_true->yi,eq_zero_or_pos->xi,le_of_ble_eq_true->yA,le_refl->yz,le_trans->y7,lt_of_lt_of_le->yF,min_le_left->ycl,mul_comm->xd,mul_le_mul_right->yT,one_mul->tM,testBit->vM,zero_add->yd
open Option renaming isSome_none->yac,map_none->uG,map_some->wS
open Option.some renaming injEq->yc
open PUnit renaming unit->yaM
open Prod.mk renaming injEq->yr
open UInt8 renaming toNat->xk,toNat_inj->ybN
open Option renaming some->GR,none->GS
open Bool renaming true->ydB,false->ydC
def vN:=@and_true
def yaL:=@beq_eq_false_iff_ne
def yaj:=@beq_iff_eq
def yae:=@beq_self_eq_true
def yS:=@cond_false
def yx:=@cond_true
def yJ:=@decide_eq_false
def yZ:=@decide_eq_true
def xj:=@decide_eq_true_eq
def yt:=@decide_false
def yp:=@decide_true
def vv:=@gt_iff_lt
def xv:=@if_false
def yq:=@if_neg
def yC:=@if_pos
def xN:=@if_true
def uO:=@ne_eq
def xG:=@not_false_eq_true
def ydv:=@not_true_eq_false
def yaA:=@or_false
def yaw:=@true_and
namespace VE
variable{rw:Bool}{x:Int}{ks:List Nat}{a aQ base by' cap ct d kx sz zW:Nat}{S S':Nat->Prop}
section
open Go (IntKind FloatKind BinOp UnOp)
inductive Fr where
 | f (n:Nat)
 | y (l:Nat)
 deriving DecidableEq,Inhabited
inductive AV where
 | int (k:xg) (n:Int)
 | bool (b:Bool)
 | an (k:xX) (bits:Nat)
 | dI (k:xX) (re im:Nat)
 | str (s:List Nat)
 | ll
 | ptr (id off:Nat)
 | bC (cells:List AV)
 | aj
 | au (ex:Bool) (n:Nat) (cells:List AV)
 | c9 (ex:Bool) (sz n:Nat) (cells:List AV)
 | ay (id off n:Nat)
 | fn (f:Fr) (first cap:List AV)
 | fQ
 | gU
 | map (id:Nat)
 | kj (ks vs:List AV)
 | it (id:Nat)
 | agg (cells:List AV)
 | av (vs:List AV)
 | undef
 deriving Inhabited
inductive X where
 | t (i:Nat)
 | c (v:AV)
 deriving Inhabited
inductive Conv where
 | toInt (k:xg)
 | toFlt (k:xX)
 | str
 | re
 | im
 deriving Inhabited
inductive Md where
 | pure | own | heap | dyn
 deriving Inhabited
inductive Cut where
 | str
 | sl (sz:Nat)
 | ar (len sz:Nat)
 deriving Inhabited
inductive Th where
 | b | sl | fn | ag (ks:List Nat)
 deriving Inhabited
inductive Op where
 | za (x:X)
 | pick (c a b:X)
 | box (sz:Nat) (x:X)
 | pM (zero:List AV) (parts:List (Nat×Nat×X))
 | km (n sz:Nat) (zero:List AV) (parts:List (Nat×Nat×X))
 | ld (sz:Nat) (ag:Bool) (x:X)
 | st (sz:Nat) (x v:X)
 | Mh (x:X)
 | bin (op:vj) (x y:X)
 | eq (ne:Bool) (k:Th) (x y:X)
 | un (op:yde) (x:X)
 | cv (k:Conv) (x:X)
 | Gb (f:Fr) (first cap:List X)
 | Bi
 | oP (sz bytes:Nat) (zero:List AV) (len cap:X)
 | zb (k:Cut) (x:X) (lo hi:Option X)
 | off (k:Nat) (x:X)
 | Ns (o sz:Nat) (ag:Bool) (x:X)
 | bk (sz:Nat) (x i:X)
 | D1 (len sz:Nat) (x i:X)
 | IB (x i:X)
 | IC (len sz:Nat) (ag:Bool) (x i:X)
 | Gc (kk:Nat) (zero:AV) (ok:Bool) (m k:X)
 | pZ (kk:Nat) (m k v:X)
 | zc (x:X)
 | zd (x:X)
 | ext (i:Nat) (x:X)
 | call (m:Md) (f:X) (xs:List X)
 | kJ (rs:List (Nat×Bool×Nat)) (f:X) (xs:List X)
 | mD (rs:List (Nat×Bool×Nat)) (sz:Nat) (x v:X)
 | nh (rs:List (Nat×Bool×Nat)) (sz bytes:Nat) (s x:X)
 | eE (sz bytes:Nat) (s x:X)
 | p7 (sz:Nat) (d s:X)
 | len (k:Nat) (x:X)
 | mn (xs:List X)
 | mx (xs:List X)
 | Nt (x y:X)
 | ru (n sz:Nat) (zero:List AV) (parts:List (Nat×Nat×X))
 deriving Inhabited
structure aV where
 dst:Option Nat
 guard:Option (Nat×Bool)
 op:Op
 deriving Inhabited
inductive VC where
 | skip
 | jA (ops:List aV)
 | seq (a b:VC)
 | cond (x:X) (a b:VC)
 | eS (id:Nat) (a:VC)
 | kp (live:List Nat)
 | fz (ts:List Nat)
 | loop (live:List Nat) (a:VC)
 | rf (f:X) (ps:List Nat) (assign body:VC)
 | exit (id:Nat)
 | ret
 deriving Inhabited
inductive RV where
 | t (i:Nat)
 | cell (i sz:Nat) (ag:Bool)
 deriving Inhabited
structure aw where
 dC:List RV
 body:VC
 deriving Inhabited
inductive A0 where
 | none | ret | exit (id:Nat)
 deriving Inhabited,DecidableEq
abbrev Env:=List (Nat×AV)
inductive Obj where
 | cells (rw pu ex:Bool) (sz:Nat) (cs:List AV)
 | mp (rw:Bool) (ks vs:List AV)
 | si (s:List Nat) (pos:Nat)
 | lp (tm:Env) (ps:List Nat) (assign body:VC) (state:Nat) (pending:A0)
 deriving Inhabited
abbrev Hp:=List (Nat×Obj)
structure St where
 tm:Env
 hp:Hp
 ct:Nat
 base:Nat
 deriving Inhabited
inductive Ex where
 | normal
 | ret
 | exit (id:Nat)
 deriving Inhabited,DecidableEq
def ak:Env->Nat->AV
 | [],_=>.undef
 | (j,v)::r,i=>bif yu j i then v else ak r i
def ah:Hp->Nat->Option Obj
 | [],_=>GS
 | (j,o)::r,i=>bif yu j i then GR o else ah r i
def aJ:Hp->Nat->Obj->Hp
 | [],_,_=>[]
 | (j,o)::r,i,u=>bif yu j i then (j,u)::r else (j,o)::aJ r i u
def cS:Hp->Nat->Hp
 | [],_=>[]
 | (j,o)::r,i=>bif yu j i then cS r i else (j,o)::cS r i
mutual
def aX:AV->Bool
 | .ptr _ _ | .ay _ _ _ | .map _ | .it _ | .c9 _ _ _ _=>ydC
 | .fn (.y _) _ _=>ydC
 | .fn (.f _) first cap=>aF first&&aF cap
 | .agg cs=>aF cs
 | .av vs=>aF vs
 | _=>ydB
def aF:List AV->Bool
 | []=>ydB
 | v::r=>aX v&&aF r
end
def cellsOf:AV->List AV
 | .agg cs=>cs
 | v=>[v]
def dN:AV->Bool
 | .agg _ | .av _ | .undef | .c9 _ _ _ _=>ydC
 | _=>ydB
def cf:List AV->Bool
 | []=>ydB
 | v::r=>dN v&&cf r
def az(tm:Env):X->AV
 | .t i=>ak tm i
 | .c v=>v
def dV(tm:Env):List X->List AV
 | []=>[]
 | x::r=>az tm x::dV tm r
def slice(o n:Nat)(cs:List AV):List AV:=(cs.drop o).take n
def over(o:Nat)(new cs:List AV):List AV:=cs.take o++new++cs.drop (o+new.length)
mutual
def freeze:Nat->Hp->AV->Option (AV×Hp)
 | 0,_,_=>GS
 | n+1,hp,v=>
  match v with
  | .ay id o k=>
   match zF n hp id with
   | some (ex,sz,cs,ap)=>
    bif yG (o+k*sz) cs.length then
     GR (.au (ex&&yP 0 sz&&yu (o+k*sz) cs.length) k (slice o (k*sz) cs),ap)
    else GS
   | none=>GS
  | .ptr id o=>
   match zF n hp id with
   | some (_,_,cs,ap)=>GR (.bC (cs.drop o),ap)
   | none=>GS
  | .map id=>
   match ah hp id with
   | some (.mp _ ks vs)=>bif aF ks&&aF vs then GR (.kj ks vs,aJ hp id (.mp ydC ks vs)) else GS
   | _=>GS
  | .fn (.f g) first cap=>
   match cD n hp first with
   | some (af8,aZ)=>
    match cD n aZ cap with
    | some (Rk,jB)=>GR (.fn (.f g) af8 Rk,jB)
    | none=>GS
   | none=>GS
  | .agg cs=>match cD n hp cs with | some (dJ,ap)=>GR (.agg dJ,ap) | none=>GS
  | .av cs=>match cD n hp cs with | some (dJ,ap)=>GR (.av dJ,ap) | none=>GS
  | v=>bif aX v then GR (v,hp) else GS
def zF:Nat->Hp->Nat->Option (Bool×Nat×List AV×Hp)
 | 0,_,_=>GS
 | n+1,hp,id=>
  match ah hp id with
  | some (.cells rw pu ex sz cs)=>
   bif pu then GR (ex,sz,cs,bif rw then aJ hp id (.cells ydC ydB ex sz cs) else hp)
   else match cD n hp cs with
    | some (dJ,ap)=>GR (ex,sz,dJ,aJ ap id (.cells ydC ydC ex sz cs))
    | none=>GS
  | _=>GS
def cD:Nat->Hp->List AV->Option (List AV×Hp)
 | 0,_,_=>GS
 | _+1,hp,[]=>GR ([],hp)
 | n+1,hp,v::r=>
  match freeze n hp v with
  | some (v',aZ)=>
   match cD n aZ r with
   | some (r',jB)=>GR (v'::r',jB)
   | none=>GS
  | none=>GS
end
def zP(n:Nat)(hp:Hp)(v:AV):Option (AV×Hp):=
 match v with
 | .ay id o k=>
  match ah hp id with
  | some (.cells ydB ydB ex sz cs)=>
   bif yG (o+k*sz) cs.length then
    GR (.c9 (ex&&yP 0 sz&&yu (o+k*sz) cs.length) sz k (slice o (k*sz) cs),cS hp id)
   else GS
  | _=>freeze n hp v
 | _=>freeze n hp v
def Qj:List AV->Option (List Nat)
 | []=>GR []
 | .ay id _ _::r=>match Qj r with | some l=>bif l.any (yu id) then GS else GR (id::l) | none=>GS
 | v::r=>bif aX v then Qj r else GS
def EY(n:Nat):Hp->List AV->Option (List AV×Hp)
 | hp,[]=>GR ([],hp)
 | hp,v::r=>
  match zP n hp v with
  | some (v',aZ)=>match EY n aZ r with | some (r',jB)=>GR (v'::r',jB) | none=>GS
  | none=>GS
def deep:Nat:=1000
def result(hp:Hp)(v:AV):Option AV:=
 match v with
 | .av vs=>
  match Qj vs with
  | some _=>match EY deep hp vs with | some (dS,_)=>GR (.av dS) | none=>GS
  | none=>match freeze deep hp v with | some (v',_)=>GR v' | none=>GS
 | v=>match zP deep hp v with | some (v',_)=>GR v' | none=>GS
def bN:AV->AV
 | .c9 ex _ n cs=>.au ex n cs
 | v=>v
def Fs:List AV->List AV
 | []=>[]
 | v::r=>bN v::Fs r
def shut:AV->AV
 | .c9 ex _ n cs=>.au ex n cs
 | .av vs=>.av (Fs vs)
 | v=>v
def gi(hp:Hp)(ct:Nat):AV->AV×Hp×Nat
 | .c9 ex sz n cs=>(.ay ct 0 n,(ct,.cells ydB ydB ex sz cs)::hp,ct+1)
 | v=>(v,hp,ct)
def lQ:Hp->Nat->List AV->List AV×Hp×Nat
 | hp,ct,[]=>([],hp,ct)
 | hp,ct,v::r=>((gi hp ct v).1::(lQ (gi hp ct v).2.1 (gi hp ct v).2.2 r).1,(lQ (gi hp ct v).2.1 (gi hp ct v).2.2 r).2)
def own(hp:Hp)(ct:Nat):AV->AV×Hp×Nat
 | .av vs=>(.av (lQ hp ct vs).1,(lQ hp ct vs).2)
 | v=>gi hp ct v
mutual
def refs:AV->List Nat
 | .ptr id _=>[id]
 | .ay id _ _=>[id]
 | .map id=>[id]
 | .it id=>[id]
 | .fn (.f _) first cap=>fY first++fY cap
 | .fn (.y l) _ _=>[l]
 | .agg cs=>fY cs
 | .av cs=>fY cs
 | _=>[]
def fY:List AV->List Nat
 | []=>[]
 | v::r=>refs v++fY r
end
def dw:Env->List Nat
 | []=>[]
 | (_,v)::r=>refs v++dw r
def dz:Obj->List Nat
 | .cells _ pu _ _ cs=>bif pu then [] else fY cs
 | .mp _ ks vs=>fY ks++fY vs
 | .si _ _=>[]
 | .lp tm _ _ _ _ _=>dw tm
mutual
def bn(f:Nat->Option Nat):AV->AV
 | .ptr id o=>match f id with | some j=>.ptr j o | none=>.undef
 | .ay id o n=>match f id with | some j=>.ay j o n | none=>.undef
 | .map id=>match f id with | some j=>.map j | none=>.undef
 | .it id=>match f id with | some j=>.it j | none=>.undef
 | .fn (.f g) first cap=>.fn (.f g) (dA f first) (dA f cap)
 | .fn (.y l) first cap=>match f l with | some j=>.fn (.y j) (dA f first) (dA f cap) | none=>.undef
 | .agg cs=>.agg (dA f cs)
 | .av cs=>.av (dA f cs)
 | v=>v
def dA(f:Nat->Option Nat):List AV->List AV
 | []=>[]
 | v::r=>bn f v::dA f r
end
def gj(f:Nat->Option Nat):Env->Env
 | []=>[]
 | (i,v)::r=>(i,bn f v)::gj f r
def dY(f:Nat->Option Nat):Obj->Obj
 | .cells rw pu ex sz cs=>.cells rw pu ex sz (bif pu then cs else dA f cs)
 | .mp rw ks vs=>.mp rw (dA f ks) (dA f vs)
 | .si s pos=>.si s pos
 | .lp tm ps as_ body st pe=>.lp (gj f tm) ps as_ body st pe
def bF(tm:Env):List Nat->Env
 | []=>[]
 | i::r=>(i,ak tm i)::bF tm r
def jt(i:Nat):List Nat->Bool
 | []=>ydC
 | j::r=>bif yu j i then ydB else jt i r
def reach(hp:Hp)(base:Nat):Nat->List Nat->List Nat->List Nat
 | 0,_,seen=>seen
 | _+1,[],seen=>seen
 | n+1,id::dh,seen=>
  bif yP id base||jt id seen then reach hp base n dh seen
  else match ah hp id with
   | some o=>reach hp base n (dz o++dh) (seen++[id])
   | none=>reach hp base n dh seen
def cE(base:Nat):Hp->List Nat
 | []=>[]
 | (id,o)::r=>bif yP id base then dz o++cE base r else cE base r
def gV(i:Nat):List Nat->Nat->Option Nat
 | [],_=>GS
 | j::r,k=>bif yu j i then GR k else gV i r (k+1)
def iZ(base:Nat)(seen:List Nat)(id:Nat):Option Nat:=bif yP id base then GR id else gV id seen base
def fZ(base:Nat)(f:Nat->Option Nat):Hp->Hp
 | []=>[]
 | (id,o)::r=>bif yP id base then (id,dY f o)::fZ base f r else fZ base f r
def ep(hp:Hp)(f:Nat->Option Nat):List Nat->Nat->Hp->Hp
 | [],_,acc=>acc
 | id::r,k,acc=>match ah hp id with | some o=>ep hp f r (k+1) ((k,dY f o)::acc) | none=>ep hp f r (k+1) acc
def bH(live:List Nat)(s:St):St:=
 let tm:=bF s.tm live
 let seen:=reach s.hp s.base 100000 (dw tm++cE s.base s.hp) []
 let f:=iZ s.base seen
 {tm:=gj f tm,hp:=ep s.hp f seen s.base (fZ s.base f s.hp),ct:=s.base+seen.length,base:=s.base}
def pE(hp:Hp)(sz:Nat):AV->Option (Nat×List AV)
 | .aj=>GR (0,[])
 | .au _ n cs=>bif yu cs.length (n*sz) then GR (n,cs) else GS
 | .ay id o n=>
  match ah hp id with
  | some (.cells _ _ _ _ cs)=>bif yG (o+n*sz) cs.length then GR (n,slice o (n*sz) cs) else GS
  | _=>GS
 | _=>GS
def PQ:List Nat->List AV
 | []=>[]
 | b::r=>.int .u8 b::PQ r
def D2:List Nat->List Nat->Bool
 | _,[]=>ydC
 | [],_::_=>ydB
 | a::x,b::y=>yP a b||(yu a b&&D2 x y)
def dZ:List Nat->List Nat->Bool
 | [],[]=>ydB
 | a::x,b::y=>yu a b&&dZ x y
 | _,_=>ydC
def dE:List Nat->List AV->List AV->Option Bool
 | [],[],[]=>GR ydB
 | 0::ks,.bool a::x,.bool b::y=>match dE ks x y with | some r=>GR ((a==b)&&r) | none=>GS
 | 1::ks,.int k a::x,.int k' b::y=>if k=k' then (match dE ks x y with | some r=>GR ((a==b)&&r) | none=>GS) else GS
 | 2::ks,.str a::x,.str b::y=>match dE ks x y with | some r=>GR (dZ a b&&r) | none=>GS
 | _,_,_=>GS
def lm:Th->AV->AV->Option Bool
 | .b,.bool a,.bool b=>GR (a==b)
 | .sl,.aj,.aj=>GR ydB
 | .sl,.aj,.au _ _ _=>GR ydC
 | .sl,.aj,.ay _ _ _=>GR ydC
 | .sl,.au _ _ _,.aj=>GR ydC
 | .sl,.ay _ _ _,.aj=>GR ydC
 | .fn,.fQ,.fQ=>GR ydB
 | .fn,.fQ,.fn _ _ _=>GR ydC
 | .fn,.fn _ _ _,.fQ=>GR ydC
 | .ag ks,.agg a,.agg b=>dE ks a b
 | _,_,_=>GS
def intCmp(op:vj)(x y:Int):Option Bool:=
 match op with
 | .eql=>GR (x==y)
 | .neq=>GR (x !=y)
 | .lss=>GR (decide (x<y))
 | .leq=>GR (decide (x<=y))
 | .gtr=>GR (decide (x>y))
 | .geq=>GR (decide (x>=y))
 | _=>GS
def nE(op:vj)(k:xg)(x y:Int):Option AV:=
 match op with
 | .add=>GR (.int k (k.wrap (x+y)))
 | .sub=>GR (.int k (k.wrap (x-y)))
 | .mul=>GR (.int k (k.wrap (x*y)))
 | .quo=>if y=0 then GS else GR (.int k (k.wrap (x.tdiv y)))
 | .rem=>if y=0 then GS else GR (.int k (x.tmod y))
 | .and=>GR (.int k (k.wrap (xO k.bits x&&&xO k.bits y).toNat))
 | .or=>GR (.int k (k.wrap (xO k.bits x|||xO k.bits y).toNat))
 | .xor=>GR (.int k (k.wrap (xO k.bits x^^^xO k.bits y).toNat))
 | .andNot=>GR (.int k (k.wrap (xO k.bits x&&&~~~(xO k.bits y)).toNat))
 | .shl | .shr=>GS
 | op=>match intCmp op x y with | some b=>GR (.bool b) | none=>GS
def EZ(op:vj)(k:xg)(x y:Int):Option AV:=
 if y<0 then GS else
 match op with
 | .shl=>GR (.int k (k.wrap (x*2^(min y.toNat k.bits))))
 | .shr=>GR (.int k (x.fdiv (2^(min y.toNat k.bits))))
 | _=>GS
def LR(op:vj)(x y:List Nat):Option AV:=
 match op with
 | .add=>bif yG (x.length+y.length) 9223372036854775807 then GR (.str (x++y)) else GS
 | .eql=>GR (.bool (dZ x y))
 | .neq=>GR (.bool (!dZ x y))
 | .lss=>GR (.bool (D2 x y))
 | .leq=>GR (.bool (D2 x y||dZ x y))
 | .gtr=>GR (.bool (!(D2 x y||dZ x y)))
 | .geq=>GR (.bool (!D2 x y))
 | _=>GS
def QE(op:vj)(k:xX)(x y:Nat):Option AV:=
 let c:=k.format.order x y
 let ar (r:Option Nat):Option AV:=match r with | some b=>GR (.an k b) | none=>GS
 match op with
 | .add=>ar (k.format.add x y)
 | .sub=>ar (k.format.sub x y)
 | .mul=>ar (k.format.mul x y)
 | .quo=>ar (k.format.div x y)
 | .eql=>GR (.bool (c==GR .eq))
 | .neq=>GR (.bool (c !=GR .eq))
 | .lss=>GR (.bool (c==GR .lt))
 | .leq=>GR (.bool (c==GR .lt||c==GR .eq))
 | .gtr=>GR (.bool (c==GR .gt))
 | .geq=>GR (.bool (c==GR .gt||c==GR .eq))
 | _=>GS
def D3(s k:xX)(b:Nat):Option Nat:=
 if s=k then GR b else
 match s.decode b with
 | .number sg m e=>if (k.decode (k.encode (.number sg m e))).isInfinity then GS else GR (k.encode (.number sg m e))
 | _=>GS
def nQ(op:vj)(k:xX)(x y:Nat):Option Nat:=
 match op with
 | .add=>k.format.add x y
 | .sub=>k.format.sub x y
 | .mul=>k.format.mul x y
 | _=>GS
def WJ(k:xX)(a b c d:Nat):Option AV:=
 match D3 k .f64 a,D3 k .f64 b,D3 k .f64 c,D3 k .f64 d with
 | some a,GR b,GR c,GR d=>
  match nQ .mul .f64 a c,nQ .mul .f64 b d,nQ .mul .f64 a d,nQ .mul .f64 b c with
  | some p,GR q,GR r,GR s=>
   match nQ .sub .f64 p q,nQ .add .f64 r s with
   | some e,GR f=>match D3 .f64 k e,D3 .f64 k f with | some e,GR f=>GR (.dI k e f) | _,_=>GS
   | _,_=>GS
  | _,_,_,_=>GS
 | _,_,_,_=>GS
def Xm(op:vj)(k:xX)(a b c d:Nat):Option AV:=
 match op with
 | .eql=>GR (.bool (k.format.order a c==GR .eq&&k.format.order b d==GR .eq))
 | .neq=>GR (.bool (!(k.format.order a c==GR .eq&&k.format.order b d==GR .eq)))
 | .add=>match nQ .add k a c,nQ .add k b d with | some r,GR i=>GR (.dI k r i) | _,_=>GS
 | .sub=>match nQ .sub k a c,nQ .sub k b d with | some r,GR i=>GR (.dI k r i) | _,_=>GS
 | .mul=>WJ k a b c d
 | _=>GS
def ag0(x y:AV):Option AV:=
 match x,y with
 | .an k a,.an k' b=>if k=k' then GR (.dI k a b) else GS
 | _,_=>GS
def binOp(op:vj)(x y:AV):Option AV:=
 match x,y with
 | .int k a,.int k' b=>
  match op with
  | .shl | .shr=>EZ op k a b
  | _=>if k=k' then nE op k a b else GS
 | .an k a,.an k' b=>if k=k' then QE op k a b else GS
 | .str a,.str b=>LR op a b
 | .dI k a b,.dI k' c d=>if k=k' then Xm op k a b c d else GS
 | _,_=>GS
def unOp(op:yde)(x:AV):Option AV:=
 match op,x with
 | .neg,.int k n=>GR (.int k (k.wrap (0-n)))
 | .xor,.int k n=>nE .xor k (if k.signed then -1 else k.max) n
 | .not,.bool b=>GR (.bool !b)
 | .neg,.an k b=>GR (.an k (b^^^2^(k.format.exponentBits+k.format.fractionBits)))
 | _,_=>GS
def iC(c:Conv)(x:AV):Option AV:=
 match c,x with
 | .toInt k,.int _ n=>GR (.int k (k.wrap n))
 | .toFlt k,.int _ n=>GR (.an k (k.nearest n))
 | .toInt k,.an s b=>
  match (s.decode b).toInt .zero with
  | some n=>if k.min<=n/\n<=k.max then GR (.int k n) else GS
  | none=>GS
 | .toFlt k,.an s b=>
  if s=k then GR (.an k b) else
  match s.decode b with
  | .number sg m e=>if (k.decode (k.encode (.number sg m e))).isInfinity then GS else GR (.an k (k.encode (.number sg m e)))
  | _=>GS
 | .str,.str s=>GR (.str s)
 | .re,.dI k a _=>GR (.an k a)
 | .im,.dI k _ b=>GR (.an k b)
 | _,_=>GS
def gY(sz:Nat)(ag:Bool)(cs:List AV):Option AV:=
 bif ag then (bif yG sz cs.length then GR (.agg (cs.take sz)) else GS)
 else match cs with | v::_=>GR v | []=>GS
def bY(x:AV):Option Nat:=
 match x with
 | .int _ n=>match n with | .ofNat k=>GR k | .negSucc _=>GS
 | _=>GS
def dn(tm:Env)(d:Nat):Option X->Option Nat
 | none=>GR d
 | some x=>bY (az tm x)
def gg(hp:Hp)(k:Cut)(x:AV)(tm:Env)(lo hi:Option X):Option AV:=
 match k,x with
 | .str,.str s=>
  match dn tm 0 lo,dn tm s.length hi with
  | some l,GR h=>bif yG l h&&yG h s.length then GR (.str ((s.take h).drop l)) else GS
  | _,_=>GS
 | .sl _,.aj=>
  match dn tm 0 lo,dn tm 0 hi with
  | some 0,GR 0=>GR .aj
  | _,_=>GS
 | .sl sz,.au ex n cs=>
  match dn tm 0 lo,dn tm n hi with
  | some l,GR h=>bif yG l h&&yG h n then GR (.au (ex&&yu h n) (h-l) (slice (l*sz) ((h-l)*sz) cs)) else GS
  | _,_=>GS
 | .sl sz,.ay id o n=>
  match ah hp id with
  | some (.cells _ _ _ z _)=>
   match dn tm 0 lo,dn tm n hi with
   | some l,GR h=>
    bif yG l h&&yG h n&&yu z sz then
     bif yu l h&& !yu l 0 then GR (.au ydC 0 []) else GR (.ay id (o+l*sz) (h-l))
    else GS
   | _,_=>GS
  | _=>GS
 | .ar n s,.bC cs=>
  match dn tm 0 lo,dn tm n hi with
  | some l,GR h=>bif yu l 0&&yu h n&&(yP 0 n&&yG (n*s) cs.length) then GR (.au ydB n (cs.take (n*s))) else GS
  | _,_=>GS
 | _,_=>GS
def fill(tm:Env):List AV->List (Nat×Nat×X)->Option (List AV)
 | cs,[]=>GR cs
 | cs,(o,sz,x)::r=>
  let new:=cellsOf (az tm x)
  bif yu new.length sz&&yG (o+sz) cs.length&&cf new then fill tm (over o new cs) r else GS
def nF:AV->AV->Option Bool
 | .int k a,.int k' b=>if k=k' then GR (a==b) else GS
 | .str a,.str b=>GR (dZ a b)
 | .bool a,.bool b=>GR (a==b)
 | .agg a,.agg b=>dE (yj a.length 1) a b
 | _,_=>GS
def lE:Nat->AV->Bool
 | 0,.bool _=>ydB
 | 1,.int _ _=>ydB
 | 2,.str _=>ydB
 | n+3,.agg cs=>yu cs.length n
 | _,_=>ydC
def sE(k:AV):List AV->List AV->Option (Option AV)
 | [],_=>GR GS
 | k'::ks,v::vs=>match nF k k' with | some ydB=>GR (GR v) | some ydC=>sE k ks vs | none=>GS
 | _::_,[]=>GS
def pQ(k v:AV):List AV->List AV->Option (List AV×List AV)
 | [],[]=>GR ([k],[v])
 | k'::ks,u::us=>
  match nF k k' with
  | some ydB=>GR (k'::ks,v::us)
  | some ydC=>match pQ k v ks us with | some (iF,Gd)=>GR (k'::iF,u::Gd) | none=>GS
  | none=>GS
 | _,_=>GS
def min2:AV->AV->Option AV
 | .int k x,.int _ y=>GR (.int k (if y<x then y else x))
 | .an k x,.an _ y=>
  match k.format.order x y with
  | none=>GS
  | some .lt=>GR (.an k x)
  | some .gt=>GR (.an k y)
  | some .eq=>GR (.an k (if (k.decode x).neg then x else y))
 | _,_=>GS
def max2:AV->AV->Option AV
 | .int k x,.int _ y=>GR (.int k (if y>x then y else x))
 | .an k x,.an _ y=>
  match k.format.order x y with
  | none=>GS
  | some .lt=>GR (.an k y)
  | some .gt=>GR (.an k x)
  | some .eq=>GR (.an k (if (k.decode x).neg then y else x))
 | _,_=>GS
def Dx(f:AV->AV->Option AV):AV->List AV->Option AV
 | a,[]=>GR a
 | a,b::r=>match f a b with | some c=>Dx f c r | none=>GS
def room:Nat:=1099511627776
abbrev gZ:=Option (AV×Hp×Nat)
def gk(hp:Hp)(sz:Nat)(ag:Bool):AV->Option AV
 | .ptr id o=>match ah hp id with | some (.cells _ _ _ _ cs)=>gY sz ag (cs.drop o) | _=>GS
 | .bC cs=>gY sz ag cs
 | _=>GS
def B4(k:Nat):AV->Option AV
 | .ptr id o=>GR (.ptr id (o+k))
 | .bC cs=>bif yG k cs.length then GR (.bC (cs.drop k)) else GS
 | _=>GS
def QF(o sz:Nat)(ag:Bool):AV->Option AV
 | .agg cs=>gY sz ag (cs.drop o)
 | _=>GS
def jq(sz i:Nat):AV->Option AV
 | .ay id o n=>bif yP i n then GR (.ptr id (o+i*sz)) else GS
 | .au _ n cs=>bif yP i n then GR (.bC (cs.drop (i*sz))) else GS
 | _=>GS
def sF(len sz i:Nat):AV->Option AV
 | .ptr id o=>bif yP i len then GR (.ptr id (o+i*sz)) else GS
 | .bC cs=>bif yP i len then GR (.bC (cs.drop (i*sz))) else GS
 | _=>GS
def AR(i:Nat):AV->Option AV
 | .str s=>match s[i]? with | some b=>GR (.int .u8 b) | none=>GS
 | _=>GS
def QG(len sz:Nat)(ag:Bool)(i:Nat):AV->Option AV
 | .agg cs=>bif yP i len then gY sz ag (cs.drop (i*sz)) else GS
 | _=>GS
def AS(hp:Hp)(k:AV):AV->Option (Option AV)
 | .gU=>GR GS
 | .map id=>match ah hp id with | some (.mp _ ks vs)=>sE k ks vs | _=>GS
 | .kj ks vs=>sE k ks vs
 | _=>GS
def jr(hp:Hp):Nat->AV->Option AV
 | 0,.str s=>GR (.int .i64 s.length)
 | 1,.aj=>GR (.int .i64 0)
 | 1,.au _ n _=>GR (.int .i64 n)
 | 1,.ay _ _ n=>GR (.int .i64 n)
 | 2,.gU=>GR (.int .i64 0)
 | 2,.kj ks _=>GR (.int .i64 ks.length)
 | 2,.map id=>match ah hp id with | some (.mp _ ks _)=>GR (.int .i64 ks.length) | _=>GS
 | _,_=>GS
def bm(tm:Env)(hp:Hp):Op->Option AV
 | .za x=>GR (az tm x)
 | .pick c a b=>match az tm c with | .bool t=>GR (bif t then az tm a else az tm b) | _=>GS
 | .pM zero parts=>match fill tm zero parts with | some cs=>GR (.agg cs) | none=>GS
 | .ld sz ag x=>gk hp sz ag (az tm x)
 | .Mh x=>
  match az tm x with
  | .ptr id o=>GR (.ptr id o)
  | .bC cs=>GR (.bC cs)
  | .fn f a b=>GR (.fn f a b)
  | _=>GS
 | .bin op x y=>binOp op (az tm x) (az tm y)
 | .eq ne k x y=>match lm k (az tm x) (az tm y) with | some r=>GR (.bool (ne !=r)) | none=>GS
 | .un op x=>unOp op (az tm x)
 | .cv k x=>iC k (az tm x)
 | .Nt x y=>ag0 (az tm x) (az tm y)
 | .ru n sz zero parts=>
  match fill tm zero parts with
  | some cs=>bif yu cs.length (n*sz)&&(yP 0 sz&&aF cs) then GR (.au ydB n cs) else GS
  | none=>GS
 | .Gb f first cap=>GR (.fn f (dV tm first) (dV tm cap))
 | .zb k x lo hi=>gg hp k (az tm x) tm lo hi
 | .off k x=>B4 k (az tm x)
 | .Ns o sz ag x=>QF o sz ag (az tm x)
 | .bk sz x i=>match bY (az tm i) with | some j=>jq sz j (az tm x) | none=>GS
 | .D1 len sz x i=>match bY (az tm i) with | some j=>sF len sz j (az tm x) | none=>GS
 | .IB x i=>match bY (az tm i) with | some j=>AR j (az tm x) | none=>GS
 | .IC len sz ag x i=>match bY (az tm i) with | some j=>QG len sz ag j (az tm x) | none=>GS
 | .Gc kk zero ok m k=>
  bif lE kk (az tm k) then
   match AS hp (az tm k) (az tm m) with
   | some (GR v)=>GR (bif ok then .av [v,.bool ydB] else v)
   | some GS=>GR (bif ok then .av [zero,.bool ydC] else zero)
   | none=>GS
  else GS
 | .ext i x=>match az tm x with | .av vs=>vs[i]? | _=>GS
 | .len k x=>jr hp k (az tm x)
 | .mn xs=>match dV tm xs with | a::r=>Dx min2 a r | []=>GS
 | .mx xs=>match dV tm xs with | a::r=>Dx max2 a r | []=>GS
 | _=>GS
def cR(tm:Env)(hp:Hp)(ct:Nat):Op->Option (AV×Obj)
 | .box sz x=>
  let cs:=cellsOf (az tm x)
  bif yu cs.length sz&&cf cs then GR (.ptr ct 0,.cells ydB (aF cs) ydB sz cs) else GS
 | .km n sz zero parts=>
  match fill tm zero parts with
  | some cs=>bif yu cs.length (n*sz) then GR (.ay ct 0 n,.cells ydB (aF cs) ydB sz cs) else GS
  | none=>GS
 | .oP sz bytes zero len cap=>
  match bY (az tm len),bY (az tm cap) with
  | some l,GR c=>
   bif yG l c&&(yG c room&&(yG (c*bytes) room&&(yu zero.length sz&&cf zero))) then
    GR (.ay ct 0 l,.cells ydB (aF zero) (yu l c) sz (yj l zero).flatten)
   else GS
  | _,_=>GS
 | .Bi=>GR (.map ct,.mp ydB [] [])
 | .zc x=>match az tm x with | .str s=>GR (.it ct,.si s 0) | _=>GS
 | _=>GS
def decodeL(s:List Nat)(i:Nat):Nat×Nat:=
 let at' (k:Nat):Nat:=s.getD (i+k) 0
 let cont (k:Nat):Bool:=decide (i+k<s.length)&&at' k/64==2
 let b0:=at' 0
 if b0<0x80 then (b0,1)
 else if b0/32==6&&cont 1 then
  let c:=(b0%32)*64+at' 1%64
  if c>=0x80 then (c,2) else (uZ,1)
 else if b0/16==14&&cont 1&&cont 2 then
  let c:=(b0%16)*4096+(at' 1%64)*64+at' 2%64
  if c>=0x800&&ybM c then (c,3) else (uZ,1)
 else if b0/8==30&&cont 1&&cont 2&&cont 3 then
  let c:=(b0%8)*262144+(at' 1%64)*4096+(at' 2%64)*64+at' 3%64
  if c>=0x10000&&ybM c then (c,4) else (uZ,1)
 else (uZ,1)
def sq(hp:Hp)(sz:Nat):AV->Option (Nat×List AV)
 | .str b=>bif yu sz 1 then GR (b.length,PQ b) else GS
 | v=>pE hp sz v
def cx(tm:Env)(hp:Hp)(ct:Nat):Op->gZ
 | .st sz x v=>
  let new:=cellsOf (az tm v)
  match az tm x with
  | .ptr id o=>
   match ah hp id with
   | some (.cells ydB pu ex z cs)=>
    bif yu new.length sz&&yG (o+sz) cs.length&&cf new then
     GR (.av [],aJ hp id (.cells ydB (pu&&aF new) ex z (over o new cs)),ct)
    else GS
   | _=>GS
  | _=>GS
 | .pZ kk m k v=>
  match az tm m with
  | .map id=>
   match ah hp id with
   | some (.mp ydB ks vs)=>bif !lE kk (az tm k) then GS else match pQ (az tm k) (az tm v) ks vs with | some (iF,dS)=>GR (.av [],aJ hp id (.mp ydB iF dS),ct) | none=>GS
   | _=>GS
  | _=>GS
 | .zd x=>
  match az tm x with
  | .it id=>
   match ah hp id with
   | some (.si s pos)=>
    bif yP pos s.length then
     match decodeL s pos with
     | (c,wd)=>GR (.av [.bool ydB,.int .i64 pos,.int .i32 c],aJ hp id (.si s (pos+wd)),ct)
    else GR (.av [.bool ydC],hp,ct)
   | _=>GS
  | _=>GS
 | .eE sz bytes s x=>
  match sq hp sz (az tm x) with
  | none=>GS
  | some (m,new)=>
   match az tm s with
   | .aj=>
    bif yu m 0 then GR (.aj,hp,ct)
    else bif yG m room&&(yG (m*bytes) room&&yP 0 sz) then GR (.ay ct 0 m,(ct,.cells ydB (aF new) ydC sz new)::hp,ct+1) else GS
   | .au ydB n cs=>
    bif yu m 0 then GR (.au ydB n cs,hp,ct)
    else bif yG (n+m) room&&(yG ((n+m)*bytes) room&&(yu cs.length (n*sz)&&yP 0 sz)) then GR (.ay ct 0 (n+m),(ct,.cells ydB (aF cs&&aF new) ydC sz (cs++new))::hp,ct+1) else GS
   | .ay id o n=>
    match ah hp id with
    | some (.cells ydB pu _ z cs)=>
     bif yu z sz&&(yG (n+m) room&&(yG ((n+m)*bytes) room&&(yG (o+n*sz) cs.length&&(yP 0 sz&&cf new)))) then
      GR (.ay ct 0 (n+m),(ct,.cells ydB (pu&&aF new) ydC sz (slice o (n*sz) cs++new))::cS hp id,ct+1)
     else GS
    | _=>GS
   | _=>GS
 | .p7 sz d s=>
  match pE hp sz (az tm s),az tm d with
  | some (m,new),.ay id o n=>
   match ah hp id with
   | some (.cells ydB pu ex z cs)=>
    bif yu z sz&&(yG (o+n*sz) cs.length&&cf new) then
     GR (.int .i64 (min m n:Nat),aJ hp id (.cells ydB (pu&&aF new) ex z (over o (new.take (min m n*sz)) cs)),ct)
    else GS
   | _=>GS
  | _,_=>GS
 | _=>GS
def kK:X->List Nat | .t i=>[i] | .c _=>[]
def BU:List X->List Nat
 | []=>[]
 | x::r=>kK x++BU r
def LS:Option X->List Nat | some x=>kK x | none=>[]
def LU:List (Nat×Nat×X)->List Nat
 | []=>[]
 | (_,_,x)::r=>kK x++LU r
def mq:Op->List Nat
 | .za x | .box _ x | .ld _ _ x | .Mh x | .un _ x | .cv _ x | .off _ x | .Ns _ _ _ x | .zc x | .zd x | .ext _ x | .len _ x=>kK x
 | .pick a b c | .pZ _ a b c=>kK a++(kK b++kK c)
 | .pM _ ps | .km _ _ _ ps | .ru _ _ _ ps=>LU ps
 | .st _ a b | .bin _ a b | .Nt a b | .eq _ _ a b | .bk _ a b | .D1 _ _ a b | .IB a b | .IC _ _ _ a b | .Gc _ _ _ a b | .eE _ _ a b | .p7 _ a b=>kK a++kK b
 | .Gb _ a b=>BU a++BU b
 | .Bi=>[]
 | .oP _ _ _ a b=>kK a++kK b
 | .zb _ x a b=>kK x++(LS a++LS b)
 | .call _ f xs=>kK f++BU xs
 | .kJ _ f xs=>kK f++BU xs
 | .mD _ _ a b=>kK a++kK b
 | .nh _ _ _ a b=>kK a++kK b
 | .mn xs | .mx xs=>BU xs
def br:Op->Nat
 | .za _ | .pick _ _ _ | .pM _ _ | .Mh _ | .bin _ _ _ | .eq _ _ _ _ | .un _ _ | .cv _ _ | .Gb _ _ _ | .off _ _ | .Ns _ _ _ _ | .bk _ _ _ | .D1 _ _ _ _ | .IB _ _ | .IC _ _ _ _ _ | .ext _ _ | .mn _ | .mx _ | .Nt _ _ | .ru _ _ _ _=>0
 | .zb .str _ _ _ | .len 0 _ | .len 1 _=>0
 | .st _ _ _ | .pZ _ _ _ _ | .zd _ | .eE _ _ _ _ | .p7 _ _ _ | .kJ _ _ _ | .mD _ _ _ _ | .nh _ _ _ _ _ | .call .heap _ _ | .call .dyn _ _=>2
 | _=>1
def Xn:Option (Nat×Bool)->List Nat | some (t,_)=>[t] | none=>[]
def E6(o:aV):List Nat:=Xn o.guard++mq o.op
def HV(d:Option Nat)(l:List Nat):Bool:=match d with | some i=>jt i l | none=>ydC
def Xo(d e:Option Nat):Bool:=match d,e with | some i,GR j=>yu i j | _,_=>ydC
def Ps(a b:aV):Bool:=HV a.dst (E6 b)||HV b.dst (E6 a)||Xo a.dst b.dst
def FK(sz:Nat)(ag:Bool)(t:Nat):List (Nat×Bool×Nat)->Bool
 | []=>ydC
 | (s,g,u)::r=>(yu s sz&&(g==ag&&yu u t))||FK sz ag t r
def Ft(t:Nat):List aV->Bool
 | []=>ydB
 | o::r=> !HV o.dst [t]&&Ft t r
def KE(a b:aV)(r:List aV):Bool:=
 match a.guard,a.op,b.op with
 | none,.ld sz ag (.t t),.kJ rs _ _=>FK sz ag t rs&&Ft t (a::r)
 | none,.ld sz ag (.t t),.mD rs _ _ _=>FK sz ag t rs&&Ft t (a::r)
 | none,.ld sz ag (.t t),.nh rs _ _ _ _=>FK sz ag t rs&&Ft t (a::r)
 | _,_,_=>ydC
def Ki(a b:aV):Bool:=
 match br a.op,br b.op with
 | 1,2 | 2,1 | 2,2=>ydB
 | _,_=>ydC
def Pt(m:Nat)(b:aV):List aV->Nat->Bool
 | [],_=>ydB
 | a::r,i=>(vM m i|| !(Ps a b||(Ki a b&& !KE a b r)))&&Pt m b r (i+1)
def AI(done:List aV):List aV->List Nat->Bool
 | [],_=>ydB
 | b::r,m::ms=>Pt m b done 0&&AI (done++[b]) r ms
 | _::_,[]=>ydC
def KF(m:Nat):List aV->Nat->List (Nat×Bool×Nat)
 | [],_=>[]
 | a::r,i=>
  match vM m i,a with
  | false,⟨_,GS,.ld sz ag (.t t)⟩=>(sz,ag,t)::KF m r (i+1)
  | _,_=>KF m r (i+1)
def stOp(rs:List (Nat×Bool×Nat))(sz:Nat)(x v:X):Op:=match rs with | []=>.st sz x v | rs=>.mD rs sz x v
def aiz(rs:List (Nat×Bool×Nat))(sz b:Nat)(x v:X):Op:=match rs with | []=>.eE sz b x v | rs=>.nh rs sz b x v
def mS(done:List aV):List aV->List Nat->List aV
 | ⟨d,g,.kJ _ f xs⟩::r,m::ms=>let o:aV:=⟨d,g,.kJ (KF m done 0) f xs⟩;o::mS (done++[o]) r ms
 | ⟨d,g,.st sz x v⟩::r,m::ms=>let o:aV:=⟨d,g,stOp (KF m done 0) sz x v⟩;o::mS (done++[o]) r ms
 | ⟨d,g,.eE sz b x v⟩::r,m::ms=>let o:aV:=⟨d,g,aiz (KF m done 0) sz b x v⟩;o::mS (done++[o]) r ms
 | o::r,_::ms=>o::mS (done++[o]) r ms
 | l,_=>l
def Qk(d:Option Nat):List aV->Bool
 | []=>ydC
 | ⟨_,_,.eE _ _ _ (.t i)⟩::r=>Xo d (GR i)||Qk d r
 | _::r=>Qk d r
def Fu(all:List aV):List aV->List aV
 | []=>[]
 | o::r=>(match o.op with | .km n sz z ps=>bif Qk o.dst all then ⟨o.dst,o.guard,.ru n sz z ps⟩ else o | _=>o)::Fu all r
def waits(m:Nat):List aV->Nat->Bool
 | [],_=>ydC
 | o::r,i=>(vM m i&&yu (br o.op) 2)||waits m r (i+1)
def early(all:List aV):List aV->List Nat->Nat->List Nat
 | o::r,m::ms,i=>bif !yu (br o.op) 2&& !waits m all 0 then i::early all r ms (i+1) else early all r ms (i+1)
 | _,_,_=>[]
def late(all:List aV):List aV->List Nat->Nat->List Nat
 | o::r,m::ms,i=>bif !yu (br o.op) 2&& !waits m all 0 then late all r ms (i+1) else i::late all r ms (i+1)
 | _,_,_=>[]
def places(l:List aV)(ms:List Nat):List Nat:=early l l ms 0++late l l ms 0
def Hg(m:Nat):List Nat->Nat->Nat
 | [],_=>0
 | x::r,i=>(bif vM m x then 2^i else 0)|||Hg m r (i+1)
def Dy(l:List aV):List Nat->List aV
 | []=>[]
 | x::r=>match l[x]? with | some o=>o::Dy l r | none=>Dy l r
def Dg(ms pm all:List Nat):List Nat->List Nat
 | []=>[]
 | x::r=>Hg (ms.getD x 0) pm 0::Dg ms pm all r
def KU(n:Nat)(pm inv:List Nat):Bool:=
 yu pm.length n&&(wq n).all fun i=>yP (pm.getD i i) n&&(yP (inv.getD i i) n&&(yu (inv.getD (pm.getD i i) i) i&&yu (pm.getD (inv.getD i i) i) i))
def AT(pm:List Nat)(n:Nat):List Nat:=(wq n).map fun x=>(gV x pm 0).getD x
abbrev aE:=Nat->Option aw
structure Lib where
 pure:Nat->Option (List AV->Option AV)
 heap:Nat->Option (Hp->Nat->List AV->gZ)
abbrev cp:=VC->St->Option (Ex×St)
def fw:Nat->List AV->Env
 | _,[]=>[]
 | i,v::r=>(i,v)::fw (i+1) r
def results1(s:St):RV->Option AV
 | .t i=>GR (ak s.tm i)
 | .cell i sz ag=>
  match ak s.tm i with
  | .ptr id o=>match ah s.hp id with | some (.cells _ _ _ _ cs)=>gY sz ag (cs.drop o) | _=>GS
  | .bC cs=>gY sz ag cs
  | _=>GS
def nB(s:St):List RV->Option (List AV)
 | []=>GR []
 | r::rest=>match results1 s r,nB s rest with | some v,GR vs=>GR (v::vs) | _,_=>GS
def jU(s:St)(rs:List RV):Option AV:=
 match nB s rs with
 | some [v]=>GR v
 | some vs=>GR (.av vs)
 | none=>GS
def bZ(P:aE)(L:Lib)(self:cp)(n:Nat)(ax:List AV):Option AV:=
 match L.pure n with
 | some sp=>sp ax
 | none=>
  match P n with
  | none=>GS
  | some F=>
   match self F.body ⟨fw 0 ax,[],0,0⟩ with
   | some (.normal,s) | some (.ret,s)=>match jU s F.dC with | some v=>result s.hp v | none=>GS
   | _=>GS
def WK:Ex->A0
 | .normal=>.none
 | .ret=>.ret
 | .exit id=>.exit id
def zQ:Env->List Nat->List AV->Option Env
 | tm,[],[]=>GR tm
 | tm,p::ps,v::vs=>zQ ((p,v)::tm) ps vs
 | _,_,_=>GS
def jZ(P:aE)(L:Lib)(self:cp)(hp:Hp)(ct:Nat)(n:Nat)(ax:List AV):gZ:=
 match L.heap n with
 | some sp=>sp hp ct ax
 | none=>
  match P n with
  | none=>GS
  | some F=>
   match self F.body ⟨fw 0 ax,hp,ct,ct⟩ with
   | some (.normal,s) | some (.ret,s)=>match jU s F.dC with | some v=>GR (v,s.hp,s.ct) | none=>GS
   | _=>GS
def kG(self:cp)(hp:Hp)(ct:Nat)(l:Nat)(xs:List AV):gZ:=
 match ah hp l with
 | some (.lp tm ps as_ body 0 _)=>
  match zQ tm ps xs with
  | none=>GS
  | some tm'=>
   match self as_ ⟨tm',hp,ct,ct⟩ with
   | some (.normal,s1)=>
    match ah s1.hp l with
    | some (.lp jC Bj D4 Fv 0 ze)=>
     match self body ⟨s1.tm,aJ s1.hp l (.lp jC Bj D4 Fv 1 ze),s1.ct,s1.ct⟩ with
     | some (ex,s2)=>
      match ah s2.hp l with
      | some (.lp rz Cz Nv LV 1 _)=>
       match ex with
       | .normal=>GR (.bool ydB,aJ s2.hp l (.lp rz Cz Nv LV 0 .none),s2.ct)
       | ex=>GR (.bool ydC,aJ s2.hp l (.lp rz Cz Nv LV 2 (WK ex)),s2.ct)
      | _=>GS
     | none=>GS
    | _=>GS
   | _=>GS
 | _=>GS
def fA(P:aE)(L:Lib)(self:cp)(hp:Hp)(ct:Nat)(m:Md)(fv:AV)(xs:List AV):gZ:=
 match fv with
 | .fn (.f n) first cap=>
  match m with
  | .pure=>
   match cD deep hp (first++(xs++cap)) with
   | some (ax,aZ)=>match bZ P L self n ax with | some r=>GR (shut r,aZ,ct) | none=>GS
   | none=>GS
  | .own=>
   match cD deep hp (first++(xs++cap)) with
   | some (ax,aZ)=>match bZ P L self n ax with | some r=>GR (own aZ ct r) | none=>GS
   | none=>GS
  | .heap=>jZ P L self hp ct n (first++(xs++cap))
  | .dyn=>
   bif aF (first++(xs++cap)) then
    match bZ P L self n (first++(xs++cap)) with | some r=>GR (shut r,hp,ct) | none=>GS
   else jZ P L self hp ct n (first++(xs++cap))
 | .fn (.y l) _ _=>
  match m with
  | .heap | .dyn=>kG self hp ct l xs
  | _=>GS
 | _=>GS
def X7:AV->AV->Bool
 | .int k a,.int k' b=>decide (k=k')&&a==b
 | .bool a,.bool b=>a==b
 | .str a,.str b=>dZ a b
 | .aj,.aj=>ydB
 | .ll,.ll=>ydB
 | .ptr i o,.ptr j p=>yu i j&&yu o p
 | .ay i o n,.ay j p m=>yu i j&&(yu o p&&yu n m)
 | .map i,.map j=>yu i j
 | _,_=>ydC
def r9(tm:Env)(hp ap:Hp):List (Nat×Bool×Nat)->Bool
 | []=>ydB
 | (sz,ag,x)::r=>
  match gk hp sz ag (ak tm x),gk ap sz ag (ak tm x) with
  | some a,GR b=>X7 a b&&r9 tm hp ap r
  | _,_=>ydC
def nC(tm:Env)(id:Nat):List (Nat×Bool×Nat)->Bool
 | []=>ydB
 | (_,_,x)::r=>(match ak tm x with | .ptr j _=> !yu j id | .bC _=>ydB | _=>ydC)&&nC tm id r
def HW(tm:Env)(s:AV)(rs:List (Nat×Bool×Nat)):Bool:=
 match s with
 | .ay id _ _=>nC tm id rs
 | .aj | .au _ _ _=>ydB
 | _=>ydC
def bc(P:aE)(L:Lib)(self:cp)(tm:Env)(hp:Hp)(ct:Nat)(o:Op):gZ:=
 match o with
 | .call m f xs=>fA P L self hp ct m (az tm f) (dV tm xs)
 | .kJ rs f xs=>
  match fA P L self hp ct .dyn (az tm f) (dV tm xs) with
  | some (v,ap,aQ)=>bif r9 tm hp ap rs then GR (v,ap,aQ) else GS
  | none=>GS
 | .mD rs sz x v=>
  match az tm x with
  | .ptr id _=>bif nC tm id rs then cx tm hp ct (.st sz x v) else GS
  | _=>GS
 | .nh rs sz b x v=>
  match cx tm hp ct (.eE sz b x v) with
  | some (v,ap,aQ)=>bif HW tm (az tm x) rs||r9 tm hp ap rs then GR (v,ap,aQ) else GS
  | none=>GS
 | .st .. | .pZ .. | .zd .. | .eE .. | .p7 .. =>cx tm hp ct o
 | .box .. | .km .. | .oP .. | .Bi | .zc .. =>match cR tm hp ct o with | some (v,b)=>GR (v,(ct,b)::hp,ct+1) | none=>GS
 | o=>match bm tm hp o with | some v=>GR (v,hp,ct) | none=>GS
def put(d:Option Nat)(v:AV)(tm:Env):Env:=
 match d with
 | some i=>(i,v)::tm
 | none=>tm
def dF(P:aE)(L:Lib)(self:cp):List aV->St->Option St
 | [],s=>GR s
 | ⟨d,g,o⟩::r,s=>
  let want:=match g with | none=>GR ydB | some (t,b)=>match ak s.tm t with | .bool c=>GR (c==b) | .av []=>GR ydC | _=>GS
  match want with
  | some ydB=>
   match bc P L self s.tm s.hp s.ct o with
   | some (v,hp,ct)=>dF P L self r {s with tm:=put d v s.tm,hp:=hp,ct:=ct}
   | none=>GS
  | some ydC=>dF P L self r {s with tm:=put d (.av []) s.tm}
  | none=>GS
def sG:List Nat->St->Option St
 | [],s=>GR s
 | t::r,s=>
  match freeze deep s.hp (ak s.tm t) with
  | some (v,hp)=>sG r {s with tm:=(t,v)::s.tm,hp:=hp}
  | none=>GS
def bI(P:aE)(L:Lib)(self:cp):VC->St->Option (Ex×St)
 | .skip,s=>GR (.normal,s)
 | .jA ops,s=>match dF P L self ops s with | some s'=>GR (.normal,s') | none=>GS
 | .seq a b,s=>
  match bI P L self a s with
  | some (.normal,s1)=>bI P L self b s1
  | r=>r
 | .cond x a b,s=>
  match az s.tm x with
  | .bool t=>bif t then bI P L self a s else bI P L self b s
  | _=>GS
 | .eS id a,s=>
  match bI P L self a s with
  | some (.exit j,s1)=>bif yu j id then GR (.normal,s1) else GR (.exit j,s1)
  | r=>r
 | .kp live,s=>GR (.normal,bH live s)
 | .fz ts,s=>match sG ts s with | some s'=>GR (.normal,s') | none=>GS
 | .loop live a,s=>
  match bI P L self a (bH live s) with
  | some (.normal,s1)=>self (.loop live a) s1
  | r=>r
 | .rf f ps as_ body,s=>
  match az s.tm f with
  | .fn (.f n) first cap=>
   match L.heap n with
   | some _=>GS
   | none=>
    match jZ P L self ((s.ct,.lp s.tm ps as_ body 0 .none)::s.hp) (s.ct+1) n (first++(.fn (.y s.ct) [] []::cap)) with
    | some (_,hp,ct)=>
     match ah hp s.ct with
     | some (.lp _ _ _ _ st pe)=>
      bif yu st 1 then GS else
      match pe with
      | .none=>GR (.normal,{s with hp:=cS hp s.ct,ct:=ct})
      | .ret=>GR (.ret,{s with hp:=cS hp s.ct,ct:=ct})
      | .exit id=>GR (.exit id,{s with hp:=cS hp s.ct,ct:=ct})
     | _=>GS
    | none=>GS
  | _=>GS
 | .exit id,s=>GR (.exit id,s)
 | .ret,s=>GR (.ret,s)
def ev(P:aE)(L:Lib)(n:Nat):cp:=Nat.rec (fun _ _=>GS) (fun _ ih=>bI P L ih) n
def ZL(P:aE)(L:Lib)(n:Nat)(f:Nat)(ax:List AV):Option AV:=bZ P L (ev P L n) f ax
end
section
open Go
structure Pl where
 b:Nat
 o:Nat
 e:Nat
 z:Nat
abbrev Mp:=Nat->Option Pl
section
variable (ae:Nat->Nat)(m:Mp)(S:Nat->Prop)(w:yo)
mutual
def af:AV->ym->Prop
 | .int k n,v=>v=.int k n
 | .bool b,v=>v=.bool b
 | .an k b,v=>v=.float k b
 | .dI k a b,v=>v=.complex k a b
 | .str s,v=>∃t:ByteArray,v=.string t/\t.data.toList.map xk=s
 | .ll,v=>v=.pointer GS
 | .ptr id o,v=>∃p,m id=GR p/\v=.pointer (GR ⟨p.b,p.o+o,GS⟩)
 | .bC cs,v=>∃b o,v=.pointer (GR ⟨b,o,GS⟩)/\(cs=[]\/S b)/\aF cs=ydB/\b9 cs b o
 | .aj,v=>v=.slice GS 0 0
 | .au ex n cs,v=>(∃b o c,v=.slice (GR ⟨b,o,GS⟩) n c/\n<=c/\(ex=ydB->c=n)/\(cs=[]\/S b)/\aF cs=ydB/\b9 cs b o)\/(∃a,v=.slice (GR a) 0 0/\n=0/\cs=[])
 | .c9 _ _ _ _,_=>False
 | .ay id o n,v=>∃p c,m id=GR p/\v=.slice (GR ⟨p.b,p.o+o,GS⟩) n c/\n<=c/\o+c*p.z=p.e
 | .fn (.f g) first cap,v=>∃fi ca:Array ym,v=.func (.func (ae g)) fi ca/\aA first fi.toList/\aA cap ca.toList
 | .fn (.y l) _ _,v=>∃p,m l=GR p/\v=.func (.yield p.b) #[] #[]
 | .fQ,v=>v=.nilFunc
 | .gU,v=>v=.map GS
 | .map id,v=>∃p,m id=GR p/\v=.map (GR p.b)
 | .kj ks vs,v=>∃b es clock,v=.map (GR b)/\S b/\aF ks=ydB/\aF vs=ydB/\w.heap[b]? =GR (.map es clock)/\
   aA ks (es.toList.map (·.key))/\aA vs (es.toList.map (·.val))
 | .it id,v=>∃p,m id=GR p/\v=.pointer (GR ⟨p.b,0,GS⟩)
 | .agg cs,v=>∃xs:Array ym,v=.agg xs/\aA cs xs.toList
 | .av cs,v=>∃xs:Array ym,v=.tuple xs/\aA cs xs.toList
 | .undef,_=>True
def aA:List AV->List ym->Prop
 | [],us=>us=[]
 | c::cs,us=>∃u r,us=u::r/\af c u/\aA cs r
def b9:List AV->Nat->Nat->Prop
 | [],_,_=>True
 | c::cs,b,o=>(∃u,w.cell? ⟨b,o,GS⟩=GR u/\af c u)/\b9 cs b (o+1)
end
end
def ic(S:Nat->Prop)(w w':yo):Prop:=∀b,S b->w'.heap[b]? =w.heap[b]?
def OL{w w':yo}{b o:Nat}(h:w'.heap[b]? =w.heap[b]?):w'.cell? ⟨b,o,GS⟩=w.cell? ⟨b,o,GS⟩:=by
 simp only[World.cell?,h]
section
variable {ae:Nat->Nat}{m m':Mp}{S S':Nat->Prop}{w w':yo}
mutual
def n8(hm:∀id p,m id=GR p->m' id=GR p)(hS:∀b,S b->S' b)(hw:ic S w w'):
  ∀(v:AV) (u:ym),af ae m S w v u->af ae m' S' w' v u
 | .int _ _,_,h | .bool _,_,h | .an _ _,_,h | .dI _ _ _,_,h | .str _,_,h | .ll,_,h | .aj,_,h | .fQ,_,h | .gU,_,h | .undef,_,h=>by
  simpa only[af] using h
 | .ptr id o,u,h=>by
  simp only[af] at h ⊢;obtain⟨p,h1,h2⟩:=h;exact⟨p,hm _ _ h1,h2⟩
 | .bC cs,u,h=>by
  simp only[af] at h ⊢;obtain⟨b,o,h1,h2,h3,h4⟩:=h;refine⟨b,o,h1,h2.imp id (hS b),h3,?_⟩;rcases h2 with rfl | h2
  .simp only [b9]
  .exact UJ hm hS hw cs b o h2 h4
 | .au ex n cs,u,h=>by
  simp only[af] at h ⊢;rcases h with ⟨b,o,c,h1,h2,h3,h4,h5,h6⟩ | h
  .refine .inl ⟨b,o,c,h1,h2,h3,h4.imp id (hS b),h5,?_⟩;rcases h4 with rfl | h4
   .simp only [b9]
   .exact UJ hm hS hw cs b o h4 h6
  .exact .inr h
 | .c9 _ _ _ _,u,h=>by simp only[af] at h
 | .ay id o n,u,h=>by
  simp only[af] at h ⊢;obtain⟨p,c,h1,h2⟩:=h;exact⟨p,c,hm _ _ h1,h2⟩
 | .fn (.f g) first cap,u,h=>by
  simp only[af] at h ⊢;obtain⟨fi,ca,h1,h2,h3⟩:=h;exact⟨fi,ca,h1,jM hm hS hw first _ h2,jM hm hS hw cap _ h3⟩
 | .fn (.y l) _ _,u,h=>by
  simp only[af] at h ⊢;obtain⟨p,h1,h2⟩:=h;exact⟨p,hm _ _ h1,h2⟩
 | .map id,u,h=>by
  simp only[af] at h ⊢;obtain⟨p,h1,h2⟩:=h;exact⟨p,hm _ _ h1,h2⟩
 | .kj ks vs,u,h=>by
  simp only[af] at h ⊢;obtain⟨b,es,clock,h1,h2,h3,h4,h5,h6,h7⟩:=h;exact⟨b,es,clock,h1,hS b h2,h3,h4,(hw b h2).trans h5,jM hm hS hw ks _ h6,jM hm hS hw vs _ h7⟩
 | .it id,u,h=>by
  simp only[af] at h ⊢;obtain⟨p,h1,h2⟩:=h;exact⟨p,hm _ _ h1,h2⟩
 | .agg cs,u,h=>by
  simp only[af] at h ⊢;obtain⟨xs,h1,h2⟩:=h;exact⟨xs,h1,jM hm hS hw cs _ h2⟩
 | .av cs,u,h=>by
  simp only[af] at h ⊢;obtain⟨xs,h1,h2⟩:=h;exact⟨xs,h1,jM hm hS hw cs _ h2⟩
def jM(hm:∀id p,m id=GR p->m' id=GR p)(hS:∀b,S b->S' b)(hw:ic S w w'):
  ∀(vs:List AV) (us:List ym),aA ae m S w vs us->aA ae m' S' w' vs us
 | [],us,h=>by simpa only[aA] using h
 | v::r,us,h=>by
  simp only[aA] at h ⊢;have⟨u,t,h1,h2,h3⟩:=h;exact⟨u,t,h1,n8 hm hS hw v u h2,jM hm hS hw r t h3⟩
def UJ(hm:∀id p,m id=GR p->m' id=GR p)(hS:∀b,S b->S' b)(hw:ic S w w'):
  ∀(cs:List AV) (b o:Nat),S b->b9 ae m S w cs b o->b9 ae m' S' w' cs b o
 | [],_,_,_,_=>by simp only[b9]
 | c::cs,b,o,hb,h=>by
  simp only[b9] at h ⊢;have⟨⟨u,h1,h2⟩,h3⟩:=h;exact⟨⟨u,(OL (hw b hb)).trans h1,n8 hm hS hw c u h2⟩,UJ hm hS hw cs b (o+1) hb h3⟩
end
end
end
section
open Go
structure Hint where
 n:Nat
 bn:FuncId->Option Nat
 live:Nat->List Nat
 out:Nat->Option (List Nat)
 mode:Nat->Md
 fz:Nat->List Nat
section
variable (P:xp)(H:Hint)
mutual
def fE:ym->AV
 | .int k n=>.int k n
 | .bool b=>.bool b
 | .float k b=>.an k b
 | .complex k a b=>.dI k a b
 | .string s=>.str (s.data.toList.map xk)
 | .pointer GS=>.ll
 | .slice GS 0 0=>.aj
 | .map GS=>.gU
 | .nilFunc=>.fQ
 | .agg ⟨cs⟩=>.agg (Hh cs)
 | .tuple ⟨cs⟩=>.av (Hh cs)
 | _=>.undef
def Hh:List ym->List AV
 | []=>[]
 | v::r=>fE v::Hh r
end
def aO:xz->X
 | .tmp t=>.t t
 | .const v=>.c (fE v)
 | .global _=>.c .undef
 | .func f=>match H.bn f with | some g=>.c (.fn (.f g) [] []) | none=>.c .undef
def ju:List xz->List X
 | []=>[]
 | x::r=>aO H x::ju r
def cF(t:yB):Option Nat:=match P.info? t with | some i=>GR i.size | none=>GS
def D5(t:yB):Option Nat:=match P.info? t with | some i=>GR i.bytes | none=>GS
def pN(t:yB):Option AV:=match P.info? t with | some i=>(match i.zero with | some v=>GR (fE v) | none=>GS) | none=>GS
def dQ(t:yB):Option Bool:=match P.underlying t with | some (.struct _) | some (.array _ _)=>GR ydB | some _=>GR ydC | none=>GS
def bad:Op:=.call .pure (.c .undef) []
def partsOf(place:Nat->Option (Nat×Nat)):List (Nat×xz)->Option (List (Nat×Nat×X))
 | []=>GR []
 | (i,x)::r=>
  match place i,partsOf place r with
  | some (o,s),GR l=>GR ((o,s,aO H x)::l)
  | _,_=>GS
def qB(self:yB->Option (List Nat)):List uj->Nat->Option (List Nat)
 | [],_=>GR []
 | f::r,o=>
  match self f.type,cF P f.type with
  | some ks,GR s=>
   bif f.name != "_"&&yu f.offset o&&yu ks.length s&& !P.stoodInHeld f.type then
    (match qB self r (o+s) with | some l=>GR (ks++l) | none=>GS)
   else GS
  | _,_=>GS
def kinds:Nat->yB->Option (List Nat)
 | 0,_=>GS
 | n+1,t=>
  match P.underlying t with
  | some .bool=>GR [0]
  | some (.int _)=>GR [1]
  | some .string=>GR [2]
  | some (.struct fs)=>qB P (fun u=>kinds n u) fs.toList 0
  | some (.array k e)=>
   match kinds n e,cF P e with
   | some ks,GR s=>bif yu ks.length s&& !P.stoodInHeld e then GR (yj k ks).flatten else GS
   | _,_=>GS
  | _=>GS
def Cd(t:yB):Bool:=match P.underlying t with | some (.int _)=>ydB | _=>ydC
def keyOf(t:yB):Option Nat:=
 match P.underlying t with
 | some .bool=>GR 0
 | some (.int _)=>GR 1
 | some .string=>GR 2
 | some (.struct fs)=>bif fs.toList.all (fun f=>Cd P f.type)&& !P.stoodInHeld t then
   (match kinds P 20 t with | some ks=>(bif yu ks.length fs.size then GR (fs.size+3) else GS) | none=>GS) else GS
 | _=>GS
def zL(ne:Bool)(t:yB)(a b:xz):Op:=
 match kinds P 20 t with
 | some ks=>bif P.stoodInHeld t||P.eqGuardType P.depth t then bad else .eq ne (.ag ks) (aO H a) (aO H b)
 | none=>bad
def sr(ne:Bool)(op:vj)(t:yB)(a b:xz):Op:=
 match P.underlying t with
 | some (.int _) | some .string | some (.float _) | some (.complex _)=>.bin op (aO H a) (aO H b)
 | some .bool=>.eq ne .b (aO H a) (aO H b)
 | some (.slice _)=>.eq ne .sl (aO H a) (aO H b)
 | some (.func _ _ _)=>.eq ne .fn (aO H a) (aO H b)
 | some (.struct _) | some (.array _ _)=>zL P H ne t a b
 | _=>bad
def aW(k:Nat)(o:xa):Op:=
 let x (y:xz):X:=aO H y
 match o.op with
 | .move a | .assign a=>.za (x a)
 | .pick c a b=>.pick (x c) (x a) (x b)
 | .alloc t=>match cF P t,pN P t with | some s,GR z=>.box s (.c z) | _,_=>bad
 | .box t v=>match cF P t with | some s=>.box s (x v) | none=>bad
 | .build t parts=>
  match P.underlying t,pN P t with
  | some (.struct fs),GR (.agg z)=>
   match fs.toList.mapM (fun f=>(P.info? f.type).map fun i=>(f.offset,i.size)) with
   | some pl=>(match partsOf H (fun i=>pl[i]?) parts.toList with | some ps=>.pM z ps | none=>bad)
   | none=>bad
  | some (.array _ e),GR (.agg z)=>
   match cF P e with
   | some s=>(match partsOf H (fun i=>GR (i*s,s)) parts.toList with | some ps=>.pM z ps | none=>bad)
   | none=>bad
  | _,_=>bad
 | .buildSlice t n parts=>
  match P.underlying t with
  | some (.slice e)=>
   match cF P e,pN P e with
   | some s,GR z=>
    bif yG (n*s) 16777216 then
     (match partsOf H (fun i=>GR (i*s,s)) parts.toList with | some ps=>.km n s (yj n (cellsOf z)).flatten ps | none=>bad)
    else bad
   | _,_=>bad
  | _=>bad
 | .load t a=>match cF P t,dQ P t with | some s,GR ag=>.ld s ag (x a) | _,_=>bad
 | .store t a v=>match cF P t with | some s=>.st s (x a) (x v) | none=>bad
 | .nilCheck a=>.Mh (x a)
 | .binOp op t a b _=>
  match op with
  | .eql=>sr P H ydC op t a b
  | .neq=>sr P H ydB op t a b
  | _=>.bin op (x a) (x b)
 | .unOp op _ a=>.un op (x a)
 | .convert s d a=>
  match P.underlying s,P.underlying d with
  | some (.int _),GR (.int k) | some (.float _),GR (.int k)=>.cv (.toInt k) (x a)
  | some (.int _),GR (.float k) | some (.float _),GR (.float k)=>.cv (.toFlt k) (x a)
  | some .string,GR .string=>.cv .str (x a)
  | _,_=>bad
 | .makeFunc (.func f) first cap=>match H.bn f with | some g=>.Gb (.f g) (ju H first.toList) (ju H cap.toList) | none=>bad
 | .makeMap t GS=>match P.underlying t with | some (.map ke _)=>(match keyOf P ke with | some _=>.Bi | none=>bad) | _=>bad
 | .makeSlice t l c=>
  match P.underlying t with
  | some (.slice e)=>(match cF P e,D5 P e,pN P e with | some s,GR b,GR z=>.oP s b (cellsOf z) (x l) (x c) | _,_,_=>bad)
  | _=>bad
 | .slice t a lo hi GS=>
  match P.underlying t with
  | some .string=>.zb .str (x a) (lo.map x) (hi.map x)
  | some (.slice e)=>(match cF P e with | some s=>.zb (.sl s) (x a) (lo.map x) (hi.map x) | none=>bad)
  | some (.array n e)=>(match cF P e with | some s=>.zb (.ar n s) (x a) (lo.map x) (hi.map x) | none=>bad)
  | _=>bad
 | .fieldAddr t a i=>
  match P.underlying t with
  | some (.struct fs)=>
   match fs[i]? with
   | some f=>(match cF P f.type with | some (_+1)=>.off f.offset (x a) | _=>bad)
   | none=>bad
  | _=>bad
 | .field t a i=>
  match P.underlying t with
  | some (.struct fs)=>
   match fs[i]? with
   | some f=>(match cF P f.type,dQ P f.type with | some s,GR ag=>.Ns f.offset s ag (x a) | _,_=>bad)
   | none=>bad
  | _=>bad
 | .indexAddr t a i=>
  match P.underlying t with
  | some (.slice e)=>(match cF P e with | some s=>.bk s (x a) (x i) | none=>bad)
  | some (.array n e)=>(match cF P e with | some s=>.D1 n s (x a) (x i) | none=>bad)
  | _=>bad
 | .index t a i=>
  match P.underlying t with
  | some .string=>.IB (x a) (x i)
  | some (.array n e)=>(match cF P e,dQ P e with | some s,GR ag=>.IC n s ag (x a) (x i) | _,_=>bad)
  | _=>bad
 | .lookup t a i ok=>
  match P.underlying t with
  | some (.map ke e)=>(match keyOf P ke,pN P e with | some kk,GR z=>.Gc kk z ok (x a) (x i) | _,_=>bad)
  | _=>bad
 | .mapUpdate t a i v | .insert t a i v=>
  match P.underlying t with
  | some (.map ke _)=>(match keyOf P ke with | some kk=>.pZ kk (x a) (x i) (x v) | none=>bad)
  | _=>bad
 | .range t a=>match P.underlying t with | some .string=>.zc (x a) | _=>bad
 | .next it ydB=>.zd (x it)
 | .extract t i=>.ext i (x t)
 | .call c=>
  match c.callee with
  | .value f=>(match H.mode k with | .dyn=>.kJ [] (x f) (ju H c.args.toList) | md=>.call md (x f) (ju H c.args.toList))
  | .builtin b=>
   match b,c.args.toList,c.argTypes.toList with
   | .append,[s,a],[t,u]=>
    match P.underlying t,P.underlying u with
    | some (.slice e),GR (.slice _) | some (.slice e),GR .string=>
     (match cF P e,D5 P e,pN P e with | some sz,GR by',GR z=>(bif yu (cellsOf z).length sz then .eE sz by' (x s) (x a) else bad) | _,_,_=>bad)
    | _,_=>bad
   | .len,[a],[t]=>
    match P.underlying t with
    | some (.array n _)=>.za (.c (.int .i64 n))
    | some .string=>.len 0 (x a)
    | some (.slice _)=>.len 1 (x a)
    | some (.map _ _)=>.len 2 (x a)
    | _=>bad
   | .copy,[d,s],[t,_]=>
    match P.underlying t with
    | some (.slice e)=>(match cF P e with | some sz=>.p7 sz (x d) (x s) | none=>bad)
    | _=>bad
   | .min,l,_=>.mn (ju H l)
   | .max,l,_=>.mx (ju H l)
   | .real,[a],_=>.cv .re (x a)
   | .imag,[a],_=>.cv .im (x a)
   | .complex,[a,b],_=>.Nt (x a) (x b)
   | _,_,_=>bad
  | _=>bad
 | _=>bad
def WL(o:xa):Bool:=match o.op with | .call {callee:=.value _,..}=>ydB | _=>ydC
def LW(d:Option Nat):Bool:=match d with | some i=>yP i H.n | none=>ydB
def B5(n:Nat):List Nat->Bool
 | []=>ydB
 | i::r=>yP i n&&B5 n r
def E0(ops:Array xa):List xa->Nat->List aV×Nat
 | [],k=>([],k)
 | o::r,k=>
  let g:=match o.guard with
   | none=>GR GS
   | some (j,b)=>match (ops[j]?).bind (·.dst) with | some t=>GR (GR (t,b)) | none=>GS
  match E0 ops r (k+(bif WL o then 1 else 0)) with
  | (l,k')=>
   match g,LW H o.dst with
   | some g,ydB=>(⟨o.dst,g,aW P H k o⟩::l,k')
   | _,_=>(⟨o.dst,GS,bad⟩::l,k')
def Dp(acc:List Nat):List Edge->Nat
 | []=>0
 | e::r=>bif Region.binds .any e then (2^e.on|||acc.getD e.on 0)|||Dp acc r else Dp acc r
def mv(acc:List Nat):List xa->List Nat
 | []=>acc
 | o::r=>mv (acc++[Dp acc o.after.toList]) r
def rX:List xa->Nat->Bool
 | [],_=>ydB
 | o::r,i=>o.after.toList.all (fun e=> !Region.binds .any e||yP e.on i)&&rX r (i+1)
def PR(ops:Array xa)(draw:Bool)(k:Nat):List aV×Nat:=
 match E0 P H ops ops.toList k with
 | (l,k')=>
  bif draw then
   (let ms:=mv [] ops.toList
    let l':=mS [] l ms
    bif rX ops.toList 0&&AI [] l' ms then (l',k') else
    (let pm:=places l ms
    let Af:=Dg ms pm pm pm
    let l2:=mS [] (Dy (Fu l l) pm) Af
    bif rX ops.toList 0&&(KU ops.size pm (AT pm ops.size)&&AI [] l2 Af) then (l2,k') else ([⟨GS,GS,bad⟩],k')))
  else (l,k')
def avB:vD->Bool
 | .loop _=>ydB
 | _=>ydC
def comp:vD->Nat->Nat->VC×Nat×Nat
 | .skip,l,k | .label _,l,k=>(.skip,l,k)
 | .region i ops d,l,k=>match PR P H ops d k with | (r,k')=>((match H.fz i with | []=>.jA r | t::ts=>.seq (.fz (t::ts)) (.jA r)),l,k')
 | .seq a b,l,k=>match comp a l k with | (a',l1,k1)=>match comp b l1 k1 with | (b',l2,k2)=>(.seq a' b',l2,k2)
 | .cond c a b,l,k=>
  match comp a (l+1) k with
  | (a',l1,k1)=>
   match comp b l1 k1 with
   | (b',l2,k2)=>(match H.out l with | some o=>.seq (.cond (aO H c) a' b') (.kp o) | none=>.cond (aO H c) a' b',l2,k2)
 | .block id a,l,k=>
  match comp a l k with
  | (a',r)=>(match avB a,H.out l with | true,GR o=>.seq (.eS id a') (.kp o) | _,_=>.eS id a',r)
 | .loop a,l,k=>match comp a (l+1) k with | (a',r)=>(.loop (H.live l) a',r)
 | .rangeFunc f ps as_ body,l,k=>
  match comp as_ l k with | (as',l1,k1)=>match comp body l1 k1 with | (b',l2,k2)=>(bif B5 H.n ps.toList then .rf (aO H f) ps.toList as' b' else .jA [⟨GS,GS,bad⟩],l2,k2)
 | .exit id,l,k=>(.exit id,l,k)
 | .scope a,l,k=>comp a l k
 | .ret,l,k=>(.ret,l,k)
 | .goto _,l,k | .refuse _,l,k=>(.jA [⟨GS,GS,bad⟩],l,k)
def sd:List ResultVar->Option (List RV)
 | []=>GR []
 | .tmp t::r=>match sd r with | some l=>GR (.t t::l) | none=>GS
 | .cell a t::r=>match cF P t,dQ P t,sd r with | some s,GR ag,GR l=>GR (.cell a s ag::l) | _,_,_=>GS
def Hi(fn:Func):Option aw:=
 match fn.body,sd P fn.results.toList with
 | some c,GR rs=>bif yG H.n fn.ntmps then GR ⟨rs,(comp P H c 0 0).1⟩ else GS
 | _,_=>GS
end
end
section
open Go
structure bE where
 P:xp
 aK:Lib
 ae:Nat->Nat
 prog:aE
 hint:Nat->Hint
 w0:yo
def D6(P:xp)(H:Hint)(v:VC)(c:vD):Prop:=∃l k,(comp P H c l k).1=v
def DI:Nat->LoopState
 | 0=>.ready
 | 1=>.busy
 | 2=>.done
 | _=>.exhausted
def BV:A0->Option vD
 | .none=>GS
 | .ret=>GR .ret
 | .exit id=>GR (.exit id)
section
variable (O:bE)(m:Mp)(S:Nat->Prop)(w:yo)
def cg(tm:Env)(tmps:Array ym):Prop:=∀i,af O.ae m S w (ak tm i) (tmps.getD i undef)
def gl(id:Nat):Obj->Prop
 | .cells rw pu ex sz cs=>∃p arr t,m id=GR p/\w.heap[p.b]? =GR (.cells arr t (0,0))/\p.z=sz/\cs.length<=p.e/\p.o+p.e<=arr.size/\
   (ex=ydB->cs.length=p.e)/\b9 O.ae m S w cs p.b p.o/\(pu=ydB->aF cs=ydB)/\(rw=ydB->¬S p.b)/\(rw=ydC->S p.b)
 | .mp rw ks vs=>∃p es clock,m id=GR p/\w.heap[p.b]? =GR (.map es clock)/\aA O.ae m S w ks (es.toList.map (·.key))/\aA O.ae m S w vs (es.toList.map (·.val))/\
   (rw=ydB->¬S p.b)/\(rw=ydC->S p.b)
 | .si s pos=>∃p t,m id=GR p/\w.heap[p.b]? =GR (.stringIter t pos)/\t.data.toList.map xk=s/\¬S p.b
 | .lp tm ps as_ body st pe=>∃p l h,m id=GR p/\w.heap[p.b]? =GR (.loop l)/\¬S p.b/\l.state=DI st/\st<=2/\l.pending=BV pe/\cg O m S w tm l.tmps/\
   l.params.toList=ps/\D6 O.P (O.hint h) as_ l.assign/\D6 O.P (O.hint h) body l.body/\(O.hint h).n<=l.tmps.size/\B5 (O.hint h).n ps=ydB
structure aU(hp:Hp)(ct:Nat):Prop where
 obj:∀id o p,ah hp id=GR o->m id=GR p->gl O m S w id o
 lt:∀id p,m id=GR p->id<ct
 inj:∀i j oi oj pi pj,ah hp i=GR oi->ah hp j=GR oj->m i=GR pi->m j=GR pj->pi.b=pj.b->i=j
 slt:∀b,S b->b<w.heap.size
 blt:∀id p,m id=GR p->p.b<w.heap.size
 low:∀id p,m id=GR p->O.w0.heap.size<=p.b
 nI:∀b,b<O.w0.heap.size->w.heap[b]? =O.w0.heap[b]?
 ig:O.w0.heap.size<=w.heap.size
 aG:∀id o,ah hp id=GR o->id<ct
end
def eO(m:Mp)(hp:Hp)(b:Nat):Prop:=∃id o p,ah hp id=GR o/\m id=GR p/\p.b=b
structure cr(m:Mp)(S:Nat->Prop)(w:yo)(hp:Hp)(m':Mp)(S':Nat->Prop)(w':yo)(ap:Hp)(base:Nat):Prop where
 os:w'.os=w.os
 tape:w'.tape=w.tape
 output:w'.output=w.output
 size:w.heap.size<=w'.heap.size
 same:∀b,b<w.heap.size->¬eO m hp b->w'.heap[b]? =w.heap[b]?
 sub:∀b,S b->S' b
 still:∀b,S b->w'.heap[b]? =w.heap[b]?
 new:∀b,S' b->S b\/eO m hp b\/w.heap.size<=b
 own:∀b,eO m' ap b->eO m hp b\/w.heap.size<=b
 old:∀id p,id<base->m id=GR p->m' id=GR p
 loops:∀(b:Nat) (r:tq),w.heap[b]? =GR (.loop r)->∃r':tq,w'.heap[b]? =GR (.loop r')
def cr.refl{m:Mp}{w:yo}{hp:Hp}:cr m S w hp m S w hp base:=
 ⟨rfl,rfl,rfl,yz _,fun _ _ _=>rfl,fun _ h=>h,fun _ _=>rfl,fun _ h=>.inl h,fun _ h=>.inl h,fun _ _ _ h=>h,fun _ r h=>⟨r,h⟩⟩
def cr.trans{m m' Nw:Mp}{D7:Nat->Prop}{w w' Ti:yo}{hp ap Mi:Hp}(h:cr m S w hp m' S' w' ap base)(k:cr m' S' w' ap Nw D7 Ti Mi base):cr m S w hp Nw D7 Ti Mi base where
 os:=k.os.trans h.os
 tape:=k.tape.trans h.tape
 output:=k.output.trans h.output
 size:=y7 h.size k.size
 same b hb ho:=(k.same b (yF hb h.size) (fun ni=>(h.own b ni).elim ho (fun h1=>by omega))).trans (h.same b hb ho)
 sub b hb:=k.sub b (h.sub b hb)
 still b hb:=(k.still b (h.sub b hb)).trans (h.still b hb)
 new b hb:=by
  rcases k.new b hb with h1 | h1 | h1
  .exact h.new b h1
  .rcases h.own b h1 with h2 | h2
   .grind
   .grind
  .exact .inr (.inr (y7 h.size h1))
 own b hb:=by
  rcases k.own b hb with h1 | h1
  .exact h.own b h1
  .exact .inr (y7 h.size h1)
 old id p hid hp:=k.old id p hid (h.old id p hid hp)
 loops b r hb:=let ⟨r',h1⟩:=h.loops b r hb;k.loops b r' h1
end
section
open Go
section
variable {ae:Nat->Nat}{m:Mp}{S:Nat->Prop}{w:yo}
mutual
def PS:∀v:ym,af ae m S w (fE v) v
 | .int _ _ | .bool _ | .float _ _ | .complex _ _ _=>by simp only[fE,af]
 | .string s=>by simp only[fE,af];exact⟨s,rfl,rfl⟩
 | .pointer GS=>by simp only[fE,af]
 | .pointer (GR _)=>by simp only[fE,af]
 | .slice GS 0 0=>by simp only[fE,af]
 | .slice GS 0 (_+1)=>by simp only[fE,af]
 | .slice GS (_+1) _=>by simp only[fE,af]
 | .slice (GR _) _ _=>by simp only[fE,af]
 | .map GS=>by simp only[fE,af]
 | .map (GR _)=>by simp only[fE,af]
 | .nilFunc=>by simp only[fE,af]
 | .agg ⟨cs⟩=>by simp only[fE,af];exact⟨⟨cs⟩,rfl,Vy cs⟩
 | .tuple ⟨cs⟩=>by simp only[fE,af];exact⟨⟨cs⟩,rfl,Vy cs⟩
 | .chan _ | .func _ _ _ | .iface _ _ | .nilIface=>by simp only[fE,af]
def Vy:∀l:List ym,aA ae m S w (Hh l) l
 | []=>by simp only[Hh,aA]
 | v::r=>by simp only[Hh,aA];exact⟨v,r,rfl,PS v,Vy r⟩
end
end
def fW(O:bE)(H:Hint):Prop:=∀f g,H.bn f=GR g->O.ae g=f
section
variable {O:bE}{H:Hint}{m:Mp}{S:Nat->Prop}{w:yo}{tm:Env}{a:Act}
def cl(hH:fW O H)(ht:cg O m S w tm a.tmps)(x:xz):af O.ae m S w (az tm (aO H x)) (a.eval x):=by
 cases x with
 | tmp t=>exact ht t
 | const v=>simp only[aO,az,Act.eval];exact PS v
 | global g=>simp only[aO,az,af]
 | func f=>
  simp only[aO,Act.eval]
  cases hr:H.bn f with
  | none=>simp only[az,af]
  | some g=>simp only[az,af,hH f g hr,aA];exact⟨#[],#[],rfl,rfl,rfl⟩
def E7(hH:fW O H)(ht:cg O m S w tm a.tmps):∀l:List xz,aA O.ae m S w (dV tm (ju H l)) (l.map a.eval)
 | []=>by simp only[ju,dV,List.map_nil,aA]
 | x::r=>by simp only[ju,dV,xb,aA];exact⟨_,_,rfl,cl hH ht x,E7 hH ht r⟩
end
section
variable {O:bE}{m:Mp}{S:Nat->Prop}{w:yo}
def AA{ae:Nat->Nat}:∀(k:Nat) (cs:List AV) (b o:Nat),b9 ae m S w cs b o->b9 ae m S w (cs.drop k) b (o+k)
 | 0,cs,b,o,h=>by simpa using h
 | k+1,[],b,o,_=>by simp only[List.drop_nil,b9]
 | k+1,c::cs,b,o,h=>by
  have:=AA k cs b (o+1) h.2
  grind
def C3{ae:Nat->Nat}:∀(k:Nat) (cs:List AV) (b o:Nat),b9 ae m S w cs b o->b9 ae m S w (cs.take k) b o
 | 0,cs,b,o,_=>by simp only[yck,b9]
 | k+1,[],b,o,_=>by simp only[List.take_nil,b9]
 | k+1,c::cs,b,o,h=>by
  exact⟨h.1,C3 k cs b (o+1) h.2⟩
def BK{ae:Nat->Nat}:∀(cs:List AV) (b o:Nat),b9 ae m S w cs b o->
  ∃us:List ym,aA ae m S w cs us/\us.length=cs.length/\∀j u,us[j]? =GR u->w.cell? ⟨b,o+j,GS⟩=GR u
 | [],b,o,_=>⟨[],by simp only[aA],rfl,fun j u h=>by simp at h⟩
 | c::cs,b,o,h=>by
  obtain⟨⟨u,h1,h2⟩,h3⟩:=h;obtain⟨us,h4,h5,h6⟩:=BK cs b (o+1) h3;refine⟨u::us,by simp only[aA];exact⟨u,us,rfl,h2,h4⟩,by simp[h5],fun j v hv=>?_⟩
  cases j with
  | zero=>simp at hv;subst hv;simpa using h1
  | succ j=>simp at hv;have:=h6 j v hv;rw[show o+(j+1)=o+1+j by omega];exact this
def jV{ae:Nat->Nat}:∀(cs:List AV) (us:List ym),aA ae m S w cs us->us.length=cs.length
 | [],us,h=>by simp only[aA] at h;subst h;rfl
 | c::cs,us,h=>by
  obtain⟨u,r,rfl,_,h3⟩:=h;simp[jV cs r h3]
end
end
section
open Go
def qJ(b o j:Nat):(⟨b,o,GS⟩:uW).add j=⟨b,o+j,GS⟩:=by
 unfold Addr.add;split<;>simp_all
section
variable {P:xp}{w:yo}
def anv(t:yB)(b o:Nat)(us:List ym)(ha:dQ P t=GR ydB)(hz:cF P t=GR us.length)(h:∀j u,us[j]? =GR u->w.cell? ⟨b,o+j,GS⟩=GR u):(loadVar t ⟨b,o,GS⟩).run P w=.ok (.agg us.toArray) w:=by
 have hl:=run_loadCells_list (P:=P) w ⟨b,o,GS⟩ us (fun j u hu=>by rw[qJ];exact h j u hu)
 unfold cF at hz
 cases hi:P.info? t with
 | none=>simp[hi] at hz
 | some i=>
  unfold dQ at ha
  cases hu:P.underlying t with
  | none=>simp[hu] at ha
  | some d=>cases d<;>simp_all[loadVar,isAgg,vE,typeInfo,underlying]
def anw(t:yB)(b o:Nat)(u:ym)(ha:dQ P t=GR ydC)(h:w.cell? ⟨b,o,GS⟩=GR u):(loadVar t ⟨b,o,GS⟩).run P w=.ok u w:=by
 unfold dQ at ha
 cases hu:P.underlying t with
 | none=>simp[hu] at ha
 | some d=>cases d<;>simp_all[loadVar,isAgg,underlying]
end
section
variable {O:bE}{m:Mp}{S:Nat->Prop}{w:yo}
def PT{t:yB}{ag:Bool}{cs:List AV}{b o:Nat}{v:AV}(hz:cF O.P t=GR sz)(ha:dQ O.P t=GR ag)(hr:b9 O.ae m S w cs b o)(hv:gY sz ag cs=GR v):∃u,(loadVar t ⟨b,o,GS⟩).run O.P w=.ok u w/\af O.ae m S w v u:=by
 cases ag with
 | true=>
  simp only[gY,yx] at hv
  cases hle:yG sz cs.length with
  | false=>simp only[hle,yS] at hv;cases hv
  | true=>
   simp only[hle,yx,yc] at hv;subst hv;obtain⟨us,h1,h2,h3⟩:=BK _ _ _ (C3 sz cs b o hr);have hlen:us.length=sz:=by
    simp_all
   refine⟨.agg us.toArray,anv t b o us ha (by rw[hlen];exact hz) h3,?_⟩
   simp only[af]
   grind
 | false=>
  simp only[gY,yS] at hv
  cases cs with
  | nil=>simp at hv
  | cons c cs=>
   simp only[yc] at hv;subst hv;obtain⟨⟨u,h1,h2⟩,_⟩:=hr;exact⟨u,anw t b o u ha h1,h2⟩
def ae5{t:yB}{o:Nat}{ag:Bool}{cs:List AV}{xs:Array ym}{v:AV}(hz:cF O.P t=GR sz)(ha:dQ O.P t=GR ag)(hr:aA O.ae m S w cs xs.toList)(hv:gY sz ag (cs.drop o)=GR v):∃u,(part t xs o).run O.P w=.ok u w/\af O.ae m S w v u:=by
 have hd:∀(k:Nat) (cs:List AV) (us:List ym),aA O.ae m S w cs us->aA O.ae m S w (cs.drop k) (us.drop k):=by
  intro k
  induction k with
  | zero=>intro cs us h;simpa using h
  | succ k ih=>
   intro cs us h
   cases cs with
   | nil=>simp only[aA] at h;subst h;simp[aA]
   | cons c cs=>simp only[aA] at h;obtain⟨u,r,rfl,_,h3⟩:=h;simpa using ih cs r h3
 have eU:∀(k:Nat) (cs:List AV) (us:List ym),aA O.ae m S w cs us->aA O.ae m S w (cs.take k) (us.take k):=by
  intro k
  induction k with
  | zero=>intro cs us h;simp[aA]
  | succ k ih=>
   intro cs us h
   cases cs with
   | nil=>simp only[aA] at h;subst h;simp[aA]
   | cons c cs=>simp only[aA] at h;obtain⟨u,r,rfl,h2,h3⟩:=h;simp only[wI,aA];exact⟨u,_,rfl,h2,ih cs r h3⟩
 have aiA:(isAgg t).run O.P w=.ok ag w:=by
  unfold dQ at ha
  cases hu:O.P.underlying t with
  | none=>simp[hu] at ha
  | some d=>cases d<;>simp_all[isAgg,underlying]
 have eZ:(vE t).run O.P w=.ok sz w:=by
  unfold cF at hz
  cases hi:O.P.info? t with
  | none=>simp[hi] at hz
  | some i=>simp_all[vE,typeInfo]
 have bO:=hd o cs xs.toList hr
 cases ag with
 | true=>
  simp only[gY,yx] at hv
  cases hle:yG sz (cs.drop o).length with
  | false=>simp only[hle,yS] at hv;cases hv
  | true=>
   simp only[hle,yx,yc] at hv;subst hv;refine⟨.agg (xs.extract o (o+sz)),by simp[part,Sem.run_bind,aiA,eZ],?_⟩;simp only[af]
   simp_all
 | false=>
  simp only[gY,yS] at hv
  cases hc:cs.drop o with
  | nil=>simp[hc] at hv
  | cons c r=>
   simp only[hc,yc] at hv;subst hv;rw[hc] at bO;simp only[aA] at bO;obtain⟨u,us,h1,h2,_⟩:=bO;have hx:xs[o]? =GR u:=by
    have:xs.toList[o]? =GR u:=by
     have:=congrArg (fun l=>l[0]?) h1
     simpa using this
    simpa using this
   exact⟨u,by simp[part,Sem.run_bind,aiA,hx],h2⟩
end
end
section
open Go
section
variable {v:AV}{k:xg}{b:Nat}
def oe(t:ByteArray):List Nat:=t.data.toList.map xk
def ae6:∀a b:List UInt8,dZ (a.map xk) (b.map xk)=(a==b)
 | [],[]=>rfl
 | [],_::_=>rfl
 | _::_,[]=>rfl
 | a::x,b::y=>by
  have h:yu a.toNat b.toNat=(a==b):=by
   rw[yai,ydt,yaj];exact ybN
  simp only[xb,dZ,ae6 x y,h,List.cons_beq_cons]
def ae7:∀a b:List UInt8,D2 (a.map xk) (b.map xk)=Op.bytesLess a b
 | [],[]=>rfl
 | [],_::_=>rfl
 | _::_,[]=>rfl
 | a::x,b::y=>by
  have h:yu a.toNat b.toNat=(a==b):=by
   rw[yai,ydt,yaj];exact ybN
  have h2:yP a.toNat b.toNat=decide (a<b):=by
   rw[yai];simp only[yP,ydu,xj,UInt8.lt_iff_toNat_lt]
   lia
  simp only[xb,D2,Op.bytesLess,ae7 x y,h,h2]
def acS(s t:ByteArray):dZ (oe s) (oe t)=(s.toList==t.toList):=by
 rw[oe,oe,ae6,ByteArray.toList_eq,ByteArray.toList_eq]
def aoO(s t:ByteArray):D2 (oe s) (oe t)=Op.bytesLess s.toList t.toList:=by
 rw[oe,oe,ae7,ByteArray.toList_eq,ByteArray.toList_eq]
def acT(s:ByteArray):(oe s).length=s.size:=by
 rw[oe,List.length_map,Lib.size_eq]
section
variable {ae:Nat->Nat}{P:xp}{m:Mp}{S:Nat->Prop}{w:yo}{t:yB}
def aqw{op:vj}{y:Int}(h:nE op k x y=GR v):
  ∃u,(xZ op t (.int k x) (.int k y)).run P w=.ok u w/\af ae m S w v u:=by
 cases op<;>simp only[nE,intCmp,yc] at h
 case quo=>
  by_cases hy:y=0
  .grind
  .simp only [hy,xv,yc] at h;subst h;exact⟨_,by simp[xZ,Op.intDiv,hy];rfl,by simp[af]⟩
 case rem=>
  by_cases hy:y=0
  .grind
  .simp only [hy,xv,yc] at h;subst h;exact⟨_,by simp[xZ,Op.intDiv,hy];rfl,by simp[af]⟩
 case shl=>cases h
 case shr=>cases h
 all_goals
  subst h;exact⟨_,by simp[xZ,Op.intCmp];rfl,by simp[af]⟩
def ab6{op:vj}{k':xg}{y:Int}(h:EZ op k x y=GR v):
  ∃u,(xZ op t (.int k x) (.int k' y)).run P w=.ok u w/\af ae m S w v u:=by
 unfold EZ at h;by_cases hy:y<0
 .grind
 .simp only [hy,xv] at h;cases op<;>simp only[yc] at h
  case shl=>subst h;exact⟨_,by simp[xZ,Op.shift,hy];rfl,by simp[af]⟩
  case shr=>subst h;exact⟨_,by simp[xZ,Op.shift,hy];rfl,by simp[af]⟩
  all_goals cases h
def aqx{op:vj}{x y:ByteArray}(h:LR op (oe x) (oe y)=GR v):
  ∃u,(xZ op t (.string x) (.string y)).run P w=.ok u w/\af ae m S w v u:=by
 cases op<;>simp only[LR,acS,aoO,acT,yc] at h
 case add=>
  cases hle:yG (x.size+y.size) 9223372036854775807 with
  | false=>rw[hle] at h;cases h
  | true=>
   rw[hle] at h;simp only[yx,yc] at h;subst h;have aIT:=yA hle;have Ce:¬(((x.size+y.size:Nat):Int)>IntKind.i64.max):=by
    have:IntKind.i64.max=9223372036854775807:=by decide
    grind
   refine⟨.string (x++y),?_,?_⟩
   .simp only [xZ,Op.stringOp,yq Ce,Sem.run_pure]
   .simp only [af];exact⟨x++y,rfl,by simp[oe]⟩
 all_goals first
  | (cases h;done)
  | (subst h;exact⟨_,by simp[xZ,Op.stringOp];rfl,by simp[af]⟩)
def aqy{op:vj}{k:xX}{x y:Nat}(h:QE op k x y=GR v):
  ∃u,(xZ op t (.float k x) (.float k y)).run P w=.ok u w/\af ae m S w v u:=by
 cases op<;>simp only[QE,yc] at h
 case add=>
  cases hr:k.format.add x y with
  | none=>simp[hr] at h
  | some r=>simp only[hr,yc] at h;subst h;exact⟨.float k r,by simp[xZ,Op.floatArith,hr],by simp[af]⟩
 case sub=>
  cases hr:k.format.sub x y with
  | none=>simp[hr] at h
  | some r=>simp only[hr,yc] at h;subst h;exact⟨.float k r,by simp[xZ,Op.floatArith,hr],by simp[af]⟩
 case mul=>
  cases hr:k.format.mul x y with
  | none=>simp[hr] at h
  | some r=>simp only[hr,yc] at h;subst h;exact⟨.float k r,by simp[xZ,Op.floatArith,hr],by simp[af]⟩
 case quo=>
  cases hr:k.format.div x y with
  | none=>simp[hr] at h
  | some r=>simp only[hr,yc] at h;subst h;exact⟨.float k r,by simp[xZ,Op.floatArith,hr],by simp[af]⟩
 all_goals first
  | (cases h;done)
  | (subst h;exact⟨_,by simp[xZ,Op.floatCmp];rfl,by simp[af]⟩)
def ae8(k:xX)(x y:Nat):(Op.Complex.cmp .eql k x y).run P w=.ok (k.format.order x y==GR .eq) w:=by
 simp[Op.Complex.cmp,Op.floatCmp,asBool]
def AK{op:vj}{k:xX}{x y r:Nat}(h:nQ op k x y=GR r):(Op.Complex.arith op k x y).run P w=.ok r w:=by
 unfold nQ at h
 split at h
 .simp [Op.Complex.arith,Op.floatArith,h]
 .simp [Op.Complex.arith,Op.floatArith,h]
 .simp [Op.Complex.arith,Op.floatArith,h]
 .cases h
def Hj{s k:xX}{r:Nat}(h:D3 s k b=GR r):(Op.Complex.conv s b k).run P w=.ok r w:=by
 unfold D3 at h;unfold Op.Complex.conv;by_cases hk:s=k
 .rw [yC hk] at h ⊢;cases h;rfl
 .rw [yq hk] at h ⊢
  cases hd:s.decode b with
  | nan _ _=>simp[hd] at h
  | infinity _=>simp[hd] at h
  | number sg m e=>
   simp only[hd] at h
   cases hi:(k.decode (k.encode (.number sg m e))).isInfinity with
   | true=>simp[hi] at h
   | false=>simp[hi] at h;subst h;simp[Conv.floatToFloat,hk,hd,hi]
def aoP{k:xX}{c:Nat}(h:WJ k a b c d=GR v):
  ∃u,(xZ .mul t (.complex k a b) (.complex k c d)).run P w=.ok u w/\af ae m S w v u:=by
 unfold WJ at h
 split at h
 .rename_i a' b' c' d' h1 h2 h3 h4
  split at h
  .rename_i p q r s g1 g2 g3 g4
   split at h
   .rename_i e f k1 k2
    split at h
    .rename_i e' f' l1 l2;cases h;exact⟨.complex k e' f',by simp[xZ,Op.complexOp,Op.Complex.product,Op.Complex.mul,Op.Complex.sub,Op.Complex.add,Hj h1,Hj h2,Hj h3,Hj h4,AK g1,AK g2,AK g3,AK g4,AK k1,AK k2,Hj l1,Hj l2],by simp[af]⟩
    .cases h
   .cases h
  .cases h
 .cases h
def aqz{op:vj}{k:xX}{c:Nat}(h:Xm op k a b c d=GR v):
  ∃u,(xZ op t (.complex k a b) (.complex k c d)).run P w=.ok u w/\af ae m S w v u:=by
 cases op<;>simp only[Xm,yc,reduceCtorEq] at h
 case add=>
  cases h1:nQ .add k a c with
  | none=>simp[h1] at h
  | some r=>
   cases h2:nQ .add k b d with
   | none=>simp[h1,h2] at h
   | some i=>
    simp only[h1,h2,yc] at h;subst h;exact⟨.complex k r i,by simp[xZ,Op.complexOp,AK h1,AK h2],by simp[af]⟩
 case sub=>
  cases h1:nQ .sub k a c with
  | none=>simp[h1] at h
  | some r=>
   cases h2:nQ .sub k b d with
   | none=>simp[h1,h2] at h
   | some i=>
    simp only[h1,h2,yc] at h;subst h;exact⟨.complex k r i,by simp[xZ,Op.complexOp,AK h1,AK h2],by simp[af]⟩
 case mul=>exact aoP h
 case eql=>subst h;exact⟨_,by simp[xZ,Op.complexOp,ae8];rfl,by simp[af]⟩
 case neq=>subst h;exact⟨_,by simp[xZ,Op.complexOp,ae8];rfl,by simp[af]⟩
def aqA{op:vj}{vx vy:AV}{x y:ym}(hx:af ae m S w vx x)(hy:af ae m S w vy y)(h:VE.binOp op vx vy=GR v):
  ∃u,(xZ op t x y).run P w=.ok u w/\af ae m S w v u:=by
 unfold VE.binOp at h
 split at h
 .rename_i k a k' b;simp only[af] at hx hy;subst hx;subst hy
  split at h
  .exact ab6 h
  .exact ab6 h
  .by_cases hk:k=k'
   .subst hk;simp only[xN] at h;exact aqw h
   .simp [hk] at h
 .rename_i k a k' b;simp only[af] at hx hy;subst hx;subst hy;by_cases hk:k=k'
  .subst hk;simp only[xN] at h;exact aqy h
  .simp [hk] at h
 .rename_i a b;simp only[af] at hx hy;obtain⟨s,rfl,rfl⟩:=hx;obtain⟨s',rfl,rfl⟩:=hy;exact aqx h
 .rename_i k a b k' c d;simp only[af] at hx hy;subst hx;subst hy;by_cases hk:k=k'
  .subst hk;simp only[xN] at h;exact aqz h
  .simp [hk] at h
 .cases h
end
end
end
section
open Go
section
variable {v vx:AV}{vr:Bool}{d:Nat}{x:ym}
section
variable {ae:Nat->Nat}{P:xp}{m:Mp}{S:Nat->Prop}{w:yo}{t:yB}
def an4{op:vj}{x y:xz}{a b:ym}(h:P.eqGuardType P.depth t=ydC\/∀xs ys,¬(a=.agg xs/\b=.agg ys))(hn:a≠.nilIface):
  (eqGuard op t x y a b).run P w=.ok () w:=by
 unfold eqGuard;cases op
 all_goals first
  | rfl
  | (
    cases a
    all_goals first
     | rfl
     | exact absurd rfl hn
     | (
      cases b
      all_goals first
       | rfl
       | (
         rcases h with h | h
         .simp [h]
         .exact absurd ⟨rfl,rfl⟩ (h _ _))))
def avC{p q:Bool}(ht:P.underlying t=GR .bool):(Op.equalIn (d+1) t (.bool p) (.bool q)).run P w=.ok (p==q) w:=by
 simp[Op.equalIn,underlying,ht]
def Xp{e:yB}(ht:P.underlying t=GR (.slice e))(y:Option uW)(n c n' c':Nat):
  (Op.equalIn (d+1) t (.slice GS n c) (.slice y n' c')).run P w=.ok y.isNone w:=by simp[Op.equalIn,underlying,ht]
def ag1{e:yB}(ht:P.underlying t=GR (.slice e))(x:uW)(n c n' c':Nat):
  (Op.equalIn (d+1) t (.slice (GR x) n c) (.slice GS n' c')).run P w=.ok ydC w:=by simp[Op.equalIn,underlying,ht]
def azK{ps rs:Array yB}(ht:P.underlying t=GR (.func ps rs vr)):
  (Op.equalIn (d+1) t .nilFunc .nilFunc).run P w=.ok ydB w:=by simp[Op.equalIn,underlying,ht]
def ag2{ps rs:Array yB}(ht:P.underlying t=GR (.func ps rs vr))(f:Go.Fn)(a b:Array ym):
  (Op.equalIn (d+1) t .nilFunc (.func f a b)).run P w=.ok ydC w:=by simp[Op.equalIn,underlying,ht]
def ag3{ps rs:Array yB}(ht:P.underlying t=GR (.func ps rs vr))(f:Go.Fn)(a b:Array ym):
  (Op.equalIn (d+1) t (.func f a b) .nilFunc).run P w=.ok ydC w:=by simp[Op.equalIn,underlying,ht]
def Vz(x y:ym):Op.equal t x y=Op.equalIn (9999+1) t x y:=rfl
def as4{vy:AV}{y:ym}{r:Bool}{e:yB}(ht:P.underlying t=GR (.slice e))(hx:af ae m S w vx x)(hy:af ae m S w vy y)(h:lm .sl vx vy=GR r):(Op.equal t x y).run P w=.ok r w:=by
 unfold lm at h
 split at h<;>simp_all only [yc,reduceCtorEq]
 all_goals subst h
 .subst hx;subst hy;exact Xp ht _ _ _ _ _
 .rcases hy with ⟨b,o,c,rfl,_⟩ | ⟨_,rfl,_⟩<;>(subst hx;exact Xp ht _ _ _ _ _)
 .obtain ⟨p,c,_,rfl,_⟩:=hy;subst hx;exact Xp ht _ _ _ _ _
 .rcases hx with ⟨b,o,c,rfl,_⟩ | ⟨_,rfl,_⟩<;>(subst hy;exact ag1 ht _ _ _ _ _)
 .obtain ⟨p,c,_,rfl,_⟩:=hx;subst hy;exact ag1 ht _ _ _ _ _
def as5{vy:AV}{y:ym}{r:Bool}{ps rs:Array yB}(ht:P.underlying t=GR (.func ps rs vr))(hx:af ae m S w vx x)(hy:af ae m S w vy y)(h:lm .fn vx vy=GR r):(Op.equal t x y).run P w=.ok r w:=by
 unfold lm at h
 split at h<;>simp_all only [yc,reduceCtorEq]
 all_goals subst h
 .simp only [af] at hx hy;subst hx;subst hy;exact azK ht
 .rename_i f _ _
  cases f with
  | f g=>simp only[af] at hx hy;obtain⟨fi,ca,rfl,_⟩:=hy;subst hx;exact ag2 ht _ _ _
  | y l=>simp only[af] at hx hy;obtain⟨p,_,rfl⟩:=hy;subst hx;exact ag2 ht _ _ _
 .rename_i f _ _
  cases f with
  | f g=>simp only[af] at hx hy;obtain⟨fi,ca,rfl,_⟩:=hx;subst hy;exact ag3 ht _ _ _
  | y l=>simp only[af] at hx hy;obtain⟨p,_,rfl⟩:=hx;subst hy;exact ag3 ht _ _ _
def as6{op:yde}(hx:af ae m S w vx x)(h:VE.unOp op vx=GR v):∃u,(Op.unary op x).run P w=.ok u w/\af ae m S w v u:=by
 unfold VE.unOp at h
 split at h
 .rename_i k n;subst hx;simp only[yc] at h;subst h;exact⟨_,by simp[Op.unary,Op.intArith];rfl,by simp[af]⟩
 .rename_i k n;subst hx;simp only[nE,yc] at h;subst h;exact⟨_,by simp[Op.unary,Op.intBits];rfl,by simp[af]⟩
 .rename_i b;subst hx;simp only[yc] at h;subst h;exact⟨_,by simp[Op.unary];rfl,by simp[af]⟩
 .rename_i k b;subst hx;simp only[yc] at h;subst h;exact⟨_,by simp[Op.unary,Op.negFloat];rfl,by simp[af]⟩
 .cases h
def adP{s d:yB}{k:xg}(hd:P.underlying d=GR (.int k))(hs:(∃k',P.underlying s=GR (.int k'))\/∃k',P.underlying s=GR (.float k'))(hx:af ae m S w vx x)(h:iC (.toInt k) vx=GR v):∃u,(convert s d x).run P w=.ok u w/\af ae m S w v u:=by
 cases vx<;>simp only[iC,reduceCtorEq] at h
 case int k0 n=>
  simp only[af] at hx;subst hx;simp only[yc] at h;subst h;refine⟨.int k (k.wrap n),?_,by simp[af]⟩;rcases hs with ⟨k',h'⟩ | ⟨k',h'⟩<;>simp[convert,underlying,Conv.intToInt,hd,h']
 case an sk b=>
  subst hx
  cases hi:(sk.decode b).toInt .zero with
  | none=>simp[hi] at h
  | some n=>
   simp only[hi] at h;by_cases hr:k.min<=n/\n<=k.max
   .simp only [hr,and_self,xN,yc] at h;subst h;refine⟨.int k n,?_,by simp[af]⟩;rcases hs with ⟨k',h'⟩ | ⟨k',h'⟩<;>simp[convert,underlying,Conv.floatToInt,hd,h',hi,hr]
   .grind
def adQ{s d:yB}{k:xX}(hd:P.underlying d=GR (.float k))(hs:(∃k',P.underlying s=GR (.int k'))\/∃k',P.underlying s=GR (.float k'))(hx:af ae m S w vx x)(h:iC (.toFlt k) vx=GR v):∃u,(convert s d x).run P w=.ok u w/\af ae m S w v u:=by
 cases vx<;>simp only[iC,reduceCtorEq] at h
 case int k0 n=>
  simp only[af] at hx;subst hx;simp only[yc] at h;subst h;refine⟨.float k (k.nearest n),?_,by simp[af]⟩;rcases hs with ⟨k',h'⟩ | ⟨k',h'⟩<;>simp[convert,underlying,Conv.intToFloat,hd,h']
 case an sk b=>
  simp only[af] at hx;subst hx;by_cases he:sk=k
  .subst he;simp only[xN,yc] at h;subst h;refine⟨.float sk b,?_,by simp[af]⟩;rcases hs with ⟨k',h'⟩ | ⟨k',h'⟩<;>simp[convert,underlying,Conv.floatToFloat,hd,h']
  .simp only [he,xv] at h
   cases Rl:sk.decode b with
   | nan _ _=>simp[Rl] at h
   | infinity _=>simp[Rl] at h
   | number sg mm ee=>
    simp only[Rl] at h
    cases X8:(k.decode (k.encode (.number sg mm ee))).isInfinity with
    | true=>simp[X8] at h
    | false=>
     simp only[X8,yD,xv,yc] at h;subst h;refine⟨.float k (k.encode (.number sg mm ee)),?_,by simp[af]⟩;rcases hs with ⟨k',h'⟩ | ⟨k',h'⟩<;>simp[convert,underlying,Conv.floatToFloat,hd,h',he,Rl,X8]
def aqB{s d:yB}(hd:P.underlying d=GR .string)(hs:P.underlying s=GR .string)(hx:af ae m S w vx x)(h:iC .str vx=GR v):∃u,(convert s d x).run P w=.ok u w/\af ae m S w v u:=by
 cases vx<;>simp only[iC,reduceCtorEq] at h
 simp only[yc] at h;subst h;obtain⟨b,rfl,hb⟩:=hx;exact⟨.string b,by simp[convert,underlying,hs,hd],by simp only[af];exact⟨b,rfl,hb⟩⟩
end
end
end
section
open Go
section
variable {v vx:AV}{hp:Hp}{k:Nat}{P:xp}{x:ym}
def aoQ(h:bY v=GR k):∃kd,v=.int kd (k:Int):=by
 cases v<;>simp only[bY,reduceCtorEq] at h
 rename_i kd n
 cases n with
 | ofNat j=>simp only[yc] at h;subst h;exact⟨kd,rfl⟩
 | negSucc j=>cases h
section
variable {O:bE}{H:Hint}{m:Mp}{S:Nat->Prop}{w:yo}{tm:Env}{a:Act}
def BR{ae:Nat->Nat}(hx:af ae m S w v x)(h:bY v=GR k):∃kd,x=.int kd (k:Int):=by
 obtain⟨kd,rfl⟩:=aoQ h;simp only[af] at hx
 grind
def run_sliceBound{kd:xg}{y:Nat}{code:BoundsCode}(h:k<=y):(Instr.sliceBound (.int kd (k:Int)) y code).run P w=.ok k w:=by
 have:(0:Int)<=(k:Int)/\(k:Int)<=(y:Int):=by lia
 simp[Instr.sliceBound,asIntOf,this]
def U7{isSlice:Bool}{len l h:Nat}{lo hi:Option xz}(hH:fW O H)(ht:cg O m S w tm a.tmps)(hl:dn tm 0 (lo.map (aO H))=GR l)(hh:dn tm len (hi.map (aO H))=GR h)(h1:l<=h)(h2:h<=cap):
  (Instr.sliceBounds isSlice len cap (lo.map a.eval) (hi.map a.eval) GS).run P w=.ok (l,h,cap) w:=by
 cases lo with
 | none=>
  simp only[uG,dn,yc] at hl;subst hl
  cases hi with
  | none=>
   simp only[uG,dn,yc] at hh;subst hh;simp[Instr.sliceBounds]
  | some y=>
   have⟨kd,e⟩:=BR (cl hH ht y) hh;simp only[Instr.sliceBounds,uG,wS,e,Sem.run_bind,Sem.run_pure,Result.andThen_ok,run_sliceBound h2]
 | some x=>
  have⟨kd,e⟩:=BR (cl hH ht x) hl
  cases hi with
  | none=>
   simp only[uG,dn,yc] at hh;subst hh;simp only[Instr.sliceBounds,uG,wS,e,Sem.run_bind,Sem.run_pure,Result.andThen_ok,run_sliceBound h1]
  | some y=>
   have⟨ZM,e'⟩:=BR (cl hH ht y) hh;simp only[Instr.sliceBounds,wS,e,e',Sem.run_bind,Sem.run_pure,Result.andThen_ok,run_sliceBound h2,run_sliceBound h1]
def aoR{t:yB}{lo hi:Option xz}(hH:fW O H)(ht:cg O m S w tm a.tmps)(hu:O.P.underlying t=GR .string)(hx:af O.ae m S w vx x)(h:gg hp .str vx tm (lo.map (aO H)) (hi.map (aO H))=GR v):
  ∃u,(Instr.sliceAt t x (lo.map a.eval) (hi.map a.eval) GS).run O.P w=.ok u w/\af O.ae m S w v u:=by
 cases vx<;>simp only[gg,reduceCtorEq] at h
 obtain⟨b,rfl,rfl⟩:=hx
 cases hl:dn tm 0 (lo.map (aO H)) with
 | none=>simp[hl] at h
 | some l=>
  simp only[hl] at h
  cases hh:dn tm (b.data.toList.map xk).length (hi.map (aO H)) with
  | none=>rw[hh] at h;cases h
  | some g=>
   rw[hh] at h;simp only at h
   cases hc:(yG l g&&yG g (b.data.toList.map xk).length) with
   | false=>rw[hc] at h;cases h
   | true=>
    rw[hc] at h;simp only[yx,yc] at h;subst h;simp only[yf] at hc;have h1:=yA hc.1;have h2:=yA hc.2;have hlen:(b.data.toList.map xk).length=b.size:=acT b;rw[hlen] at hh h2;refine⟨.string (b.extract l g),?_,?_⟩
    .simp only [Instr.sliceAt,Sem.run_bind,run_underlying hu,Result.andThen_ok,Instr.slice,yac,yD,xv,Sem.run_pure,
      U7 (P:=O.P) (isSlice:=ydC) (len:=b.size) (cap:=b.size) hH ht hl hh h1 h2]
    .simp only [af];refine⟨_,rfl,?_⟩;rw[Lib.extract_data,List.map_take,List.map_drop,List.drop_take]
def aqC{t e:yB}{lo hi:Option xz}(hH:fW O H)(ht:cg O m S w tm a.tmps)(hu:O.P.underlying t=GR (.slice e))(hz:cF O.P e=GR sz)(hh:aU O m S w hp ct)(hx:af O.ae m S w vx x)(h:gg hp (.sl sz) vx tm (lo.map (aO H)) (hi.map (aO H))=GR v):
  ∃u,(Instr.sliceAt t x (lo.map a.eval) (hi.map a.eval) GS).run O.P w=.ok u w/\af O.ae m S w v u:=by
 have eZ:(vE e).run O.P w=.ok sz w:=by
  unfold cF at hz
  cases hi:O.P.info? e with
  | none=>simp[hi] at hz
  | some i=>simp_all[vE,typeInfo]
 have KV:∀(ad:Option uW) (n c l g:Nat),dn tm 0 (lo.map (aO H))=GR l->dn tm n (hi.map (aO H))=GR g->l<=g->g<=c->
   (Instr.sliceAt t (.slice ad n c) (lo.map a.eval) (hi.map a.eval) GS).run O.P w=.ok (.slice (if c=l then ad else ad.map (·.add (l*sz))) (g-l) (c-l)) w:=by
  intro ad n c l g hl hg h1 h2
  simp only[Instr.sliceAt,Sem.run_bind,run_underlying hu,Result.andThen_ok,Instr.slice,Sem.run_pure,eZ,
   U7 (P:=O.P) (isSlice:=ydB) (len:=n) (cap:=c) hH ht hl hg h1 h2]
 cases vx<;>simp only[gg,reduceCtorEq] at h
 case aj=>
  simp only[af] at hx;subst hx
  cases hl:dn tm 0 (lo.map (aO H)) with
  | none=>simp[hl] at h
  | some l=>
   cases l with
   | succ l=>simp[hl] at h
   | zero=>
    simp only[hl] at h
    cases hh:dn tm 0 (hi.map (aO H)) with
    | none=>simp[hh] at h
    | some g=>
     cases g with
     | succ g=>simp[hh] at h
     | zero=>
      simp only[hh,yc] at h;subst h;exact⟨_,KV GS 0 0 0 0 hl hh (yz _) (yz _),by simp[af]⟩
 case au ex n cs=>
  simp only[af] at hx;rcases hx with ⟨b,o,c,rfl,Nx,hex,hS,jD,jE⟩ | ⟨ad,rfl,rfl,rfl⟩
  case inr=>
   cases hl:dn tm 0 (lo.map (aO H)) with
   | none=>simp[hl] at h
   | some l=>
    simp only[hl] at h
    cases hh:dn tm 0 (hi.map (aO H)) with
    | none=>simp[hh] at h
    | some g=>
     simp only[hh] at h
     cases hc:(yG l g&&yG g 0) with
     | false=>rw[hc] at h;cases h
     | true=>
      rw[hc] at h;simp only[yx,yc] at h;subst h;simp only[yf] at hc;have h1:=yA hc.1;have h2:=yA hc.2;have hg:g=0:=by lia
      subst hg;have mE:l=0:=by lia
      subst mE;refine⟨_,KV (GR ad) 0 0 0 0 hl hh h1 h2,?_⟩;simp only[af];exact .inr ⟨ad,by simp,by simp,by simp[slice]⟩
  cases hl:dn tm 0 (lo.map (aO H)) with
  | none=>simp[hl] at h
  | some l=>
   simp only[hl] at h
   cases hh:dn tm n (hi.map (aO H)) with
   | none=>simp[hh] at h
   | some g=>
    simp only[hh] at h
    cases hc:(yG l g&&yG g n) with
    | false=>rw[hc] at h;cases h
    | true=>
     rw[hc] at h;simp only[yx,yc] at h;subst h;simp only[yf] at hc;have h1:=yA hc.1;have h2:=yA hc.2;refine⟨_,KV (GR ⟨b,o,GS⟩) n c l g hl hh h1 (by lia),?_⟩;have QH:aF (slice (l*sz) ((g-l)*sz) cs)=ydB:=by
      have pd:∀(k:Nat) (cs:List AV),aF cs=ydB->aF (cs.drop k)=ydB:=by
       intro k
       induction k with
       | zero=>intro cs h;simpa using h
       | succ k ih=>intro cs h;cases cs with
        | nil=>simpa using h
        | cons c cs=>simp only[aF,yf] at h;simpa using ih cs h.2
      have pt:∀(k:Nat) (cs:List AV),aF cs=ydB->aF (cs.take k)=ydB:=by
       intro k
       induction k with
       | zero=>intro cs h;simp[aF]
       | succ k ih=>intro cs h;cases cs with
        | nil=>simp[aF]
        | cons c cs=>simp only[aF,yf,wI] at h ⊢;exact⟨h.1,ih cs h.2⟩
      exact pt _ _ (pd _ _ jD)
     have aiB:(ex&&yu g n)=ydB->c-l=g-l:=by
      intro hq;simp only[yf] at hq
      have:=hex hq.1
      have:=yi hq.2
      lia
     simp only[af];by_cases eF:c=l
     .have h0:g-l=0:=by lia
      have Ag:slice (l*sz) ((g-l)*sz) cs=[]:=by simp[slice,h0]
      rw[Ag];exact .inl ⟨b,o,c-l,by simp[eF],by lia,aiB,.inl rfl,rfl,by simp[b9]⟩
     .refine .inl ⟨b,o+l*sz,c-l,by simp[eF,qJ],by lia,aiB,?_,QH,?_⟩
      .rcases hS with rfl | hS
       .exact .inl (by simp[slice])
       .exact .inr hS
      .exact C3 _ _ _ _ (AA _ _ _ _ jE)
 case ay id o n=>
  simp only[af] at hx;obtain⟨p,c,hm,rfl,Nx,Tj⟩:=hx
  split at h
  case h_2=>cases h
  rename_i ZN pu0 Bk z0 cs0 Fw;have⟨p',arr,t',kD,_,eG,_⟩:=hh.obj id _ _ Fw hm;rw[hm] at kD;injection kD with kD
  subst kD
  cases hl:dn tm 0 (lo.map (aO H)) with
  | none=>simp[hl] at h
  | some l=>
   simp only[hl] at h
   cases hh:dn tm n (hi.map (aO H)) with
   | none=>simp[hh] at h
   | some g=>
    simp only[hh] at h
    cases hc:(yG l g&&yG g n&&yu z0 sz) with
    | false=>rw[hc] at h;cases h
    | true=>
     rw[hc] at h;simp only[yx] at h;simp only[yf] at hc;have h1:=yA hc.1.1;have h2:=yA hc.1.2;have hpz:p.z=sz:=eG.trans (yi hc.2)
     cases he:(yu l g&& !yu l 0) with
     | true=>
      rw[he] at h;simp only[yx,yc] at h;subst h;simp only[yf] at he;have Tk:=yi he.1;refine⟨_,KV (GR ⟨p.b,p.o+o,GS⟩) n c l g hl hh h1 (by lia),?_⟩;simp only[af];by_cases eF:c=l
      .exact .inl ⟨p.b,p.o+o,c-l,by simp[eF];lia,by lia,by simp,by simp,by simp[aF],by simp[b9]⟩
      .exact .inl ⟨p.b,p.o+o+l*sz,c-l,by simp[eF,qJ];lia,by lia,by simp,by simp,by simp[aF],by simp[b9]⟩
     | false=>
      rw[he] at h;simp only[yS,yc] at h;subst h;have eF:c=l->l=0:=by
       intro eF;have Tk:l=g:=by lia
       cases mE:yu l 0 with
       | true=>exact yi mE
       | false=>rw[Tk,wL,<-Tk,mE] at he;cases he
      refine⟨_,KV (GR ⟨p.b,p.o+o,GS⟩) n c l g hl hh h1 (by lia),?_⟩;simp only[af];refine⟨p,c-l,hm,?_,by lia,?_⟩
      .by_cases X9:c=l
       .have:=eF X9;subst this;subst X9;simp
       .simp [X9,qJ,td]
      .rw [hpz] at Tj ⊢
       have:c*sz=l*sz+(c-l)*sz:=by rw[<-xS];congr 1;lia
       lia
def aqD{t e:yB}{n:Nat}{lo hi:Option xz}(hH:fW O H)(ht:cg O m S w tm a.tmps)(hu:O.P.underlying t=GR (.array n e))(hz:cF O.P e=GR sz)(hx:af O.ae m S w vx x)(h:gg hp (.ar n sz) vx tm (lo.map (aO H)) (hi.map (aO H))=GR v):
  ∃u,(Instr.sliceAt t x (lo.map a.eval) (hi.map a.eval) GS).run O.P w=.ok u w/\af O.ae m S w v u:=by
 have eZ:(vE e).run O.P w=.ok sz w:=by
  unfold cF at hz
  cases hi:O.P.info? e with
  | none=>simp[hi] at hz
  | some i=>simp_all[vE,typeInfo]
 cases vx<;>simp only[gg,reduceCtorEq] at h
 rename_i cs;simp only[af] at hx;obtain⟨b,o,rfl,hS,jD,jE⟩:=hx
 cases hl:dn tm 0 (lo.map (aO H)) with
 | none=>simp[hl] at h
 | some l=>
  simp only[hl] at h
  cases hh:dn tm n (hi.map (aO H)) with
  | none=>simp[hh] at h
  | some g=>
   simp only[hh] at h
   cases hc:(yu l 0&&yu g n&&(yP 0 n&&yG (n*sz) cs.length)) with
   | false=>rw[hc] at h;cases h
   | true=>
    rw[hc] at h;simp only[yx,yc] at h;subst h;simp only[yf] at hc;have h1:=yi hc.1.1;have h2:=yi hc.1.2;have h3:0<n:=yA hc.2.1;subst h1 h2;have bL:¬g=0:=by omega
    refine⟨.slice (GR ⟨b,o,GS⟩) g g,?_,?_⟩
    .simp only [Instr.sliceAt,Sem.run_bind,run_underlying hu,Result.andThen_ok,Instr.sureAddr,Sem.run_pure,eZ,
      U7 (P:=O.P) (isSlice:=ydC) (len:=g) (cap:=g) hH ht hl hh (Nat.zero_le _) (yz _)]
     simp[qJ]
    .have pt:∀(k:Nat) (cs:List AV),aF cs=ydB->aF (cs.take k)=ydB:=by
      intro k
      induction k with
      | zero=>intro cs h;simp[aF]
      | succ k ih=>intro cs h;cases cs with
       | nil=>simp[aF]
       | cons c cs=>simp only[aF,yf,wI] at h ⊢;exact⟨h.1,ih cs h.2⟩
     simp only[af];refine .inl ⟨b,o,g,rfl,yz _,fun _=>rfl,?_,pt _ _ jD,C3 _ _ _ _ jE⟩;rcases hS with rfl | hS
     .exact .inl (by simp)
     .exact .inr hS
end
end
end
section
open Go
section
variable {v vi vx:AV}{ag:Bool}{cs:List AV}{k sz:Nat}{i x:ym}
def qw{P:xp}{w:yo}{t:yB}(hz:cF P t=GR sz):(vE t).run P w=.ok sz w:=by
 unfold cF at hz
 cases hi:P.info? t with
 | none=>simp[hi] at hz
 | some i=>simp_all[vE,typeInfo]
section
variable {O:bE}{H:Hint}{m:Mp}{S:Nat->Prop}{w:yo}{tm:Env}{a:Act}{hp:Hp}{ct:Nat}
def VA{id o n:Nat}{pu ex:Bool}{p:Pl}(hh:aU O m S w hp ct)(hg:ah hp id=GR (.cells rw pu ex sz cs))(hm:m id=GR p):
  b9 O.ae m S w cs p.b p.o:=by
 have⟨p',arr,t',kD,_,_,_,_,_,hr,_⟩:=hh.obj id _ _ hg hm
 grind
def azL{t:yB}(hh:aU O m S w hp ct)(hz:cF O.P t=GR sz)(ha:dQ O.P t=GR ag)(hx:af O.ae m S w vx x)(h:gk hp sz ag vx=GR v):∃u,(Instr.loadAt t x).run O.P w=.ok u w/\af O.ae m S w v u:=by
 cases vx<;>simp only[gk,reduceCtorEq] at h
 case ptr id o=>
  obtain⟨p,hm,rfl⟩:=hx
  split at h
  case h_2=>cases h
  rename_i ZN pu0 Bk z0 cs0 Fw;have hr:=VA (id:=id) (o:=0) (n:=0) hh Fw hm;have⟨u,h1,h2⟩:=PT hz ha (AA o cs0 p.b p.o hr) h;exact⟨u,by simp only[Instr.loadAt,Instr.sureAddr,Sem.run_bind,Sem.run_pure,Result.andThen_ok];exact h1,h2⟩
 case bC cs=>
  obtain⟨b,o,rfl,_,_,hr⟩:=hx;have⟨u,h1,h2⟩:=PT hz ha hr h;exact⟨u,by simp only[Instr.loadAt,Instr.sureAddr,Sem.run_bind,Sem.run_pure,Result.andThen_ok];exact h1,h2⟩
def C4:∀(k:Nat) (cs:List AV),aF cs=ydB->aF (cs.drop k)=ydB
 | 0,cs,h=>by simpa using h
 | k+1,[],h=>by simpa using h
 | k+1,c::cs,h=>by simp only[aF,yf] at h;simpa using C4 k cs h.2
def U8{b o:Nat}(h2:cs=[]\/S b)(h3:aF cs=ydB)(h4:b9 O.ae m S w cs b o):af O.ae m S w (.bC (cs.drop k)) (.pointer (GR ⟨b,o+k,GS⟩)):=by
 refine⟨b,o+k,rfl,?_,C4 k cs h3,AA k cs b o h4⟩
 grind
def avD{t:yB}{fs:Array uj}{i:Nat}{f:uj}(hu:O.P.underlying t=GR (.struct fs))(hf:fs[i]? =GR f)(hz:cF O.P f.type=GR (sz+1))(hx:af O.ae m S w vx x)(h:B4 f.offset vx=GR v):∃u,(Instr.fieldAt t x i).run O.P w=.ok u w/\af O.ae m S w v u:=by
 have ag4:∀(b o:Nat),(Instr.fieldAt t (.pointer (GR ⟨b,o,GS⟩)) i).run O.P w=.ok (.pointer (GR ⟨b,o+f.offset,GS⟩)) w:=by
  intro b o;simp only[Instr.fieldAt,Sem.run_bind,run_underlying hu,Result.andThen_ok,hf,Instr.sureAddr,Sem.run_pure,fieldPlace,qw hz,Nat.succ_ne_zero,xv,qJ]
 cases vx<;>simp only[B4,reduceCtorEq] at h
 case ptr id o=>
  obtain⟨p,hm,rfl⟩:=hx;simp only[yc] at h;subst h;exact⟨_,ag4 _ _,by simp only[af];exact⟨p,hm,by rw[td]⟩⟩
 case bC cs=>
  obtain⟨b,o,rfl,h2,h3,h4⟩:=hx
  cases hc:yG f.offset cs.length with
  | false=>rw[hc] at h;cases h
  | true=>
   rw[hc] at h;simp only[yx,yc] at h;subst h;exact⟨_,ag4 _ _,U8 h2 h3 h4⟩
def avE{t:yB}{fs:Array uj}{i:Nat}{f:uj}(hu:O.P.underlying t=GR (.struct fs))(hf:fs[i]? =GR f)(hz:cF O.P f.type=GR sz)(ha:dQ O.P f.type=GR ag)(hx:af O.ae m S w vx x)(h:QF f.offset sz ag vx=GR v):∃u,(Instr.field t x i).run O.P w=.ok u w/\af O.ae m S w v u:=by
 cases vx<;>simp only[QF,reduceCtorEq] at h
 obtain⟨xs,rfl,hr⟩:=hx;have⟨u,h1,h2⟩:=ae5 hz ha hr h;exact⟨u,by simp only[Instr.field,Sem.run_bind,run_underlying hu,Result.andThen_ok,hf,asAgg,Sem.run_pure];exact h1,h2⟩
def avF{t e:yB}(hu:O.P.underlying t=GR (.slice e))(hz:cF O.P e=GR sz)(hx:af O.ae m S w vx x)(hi:af O.ae m S w vi i)(hk:bY vi=GR k)(h:jq sz k vx=GR v):∃u,(Instr.indexAt t x i).run O.P w=.ok u w/\af O.ae m S w v u:=by
 obtain⟨kd,rfl⟩:=BR hi hk;have LX:∀(b o n c:Nat),k<n->(Instr.indexAt t (.slice (GR ⟨b,o,GS⟩) n c) (.int kd (k:Int))).run O.P w=.ok (.pointer (GR ⟨b,o+k*sz,GS⟩)) w:=by
  intro b o n c p8;have hr:(0:Int)<=(k:Int)/\(k:Int)<(n:Int):=by lia
  simp[Instr.indexAt,asIntOf,run_underlying hu,qw hz,hr,qJ]
  grind
 cases vx<;>simp only[jq,reduceCtorEq] at h
 case ay id o n=>
  obtain⟨p,c,hm,rfl,Nx,Tj⟩:=hx
  cases hc:yP k n with
  | false=>rw[hc] at h;cases h
  | true=>
   rw[hc] at h;simp only[yx,yc] at h;subst h;have p8:k<n:=by simp_all
   exact⟨_,LX _ _ _ _ p8,by simp only[af];exact⟨p,hm,by rw[td]⟩⟩
 case au ex n cs=>
  rcases hx with ⟨b,o,c,rfl,Nx,hex,h2,h3,h4⟩ | ⟨a,rfl,rfl,rfl⟩
  case inr=>
   have:yP k 0=ydC:=by cases hq:yP k 0 with | false=>rfl | true=>simp only[yP,ydu] at hq;lia
   grind
  cases hc:yP k n with
  | false=>rw[hc] at h;cases h
  | true=>
   rw[hc] at h;simp only[yx,yc] at h;subst h;have p8:k<n:=by simp_all
   exact⟨_,LX _ _ _ _ p8,U8 h2 h3 h4⟩
def avG{t e:yB}{len:Nat}(hu:O.P.underlying t=GR (.array len e))(hz:cF O.P e=GR sz)(hx:af O.ae m S w vx x)(hi:af O.ae m S w vi i)(hk:bY vi=GR k)(h:sF len sz k vx=GR v):∃u,(Instr.indexAt t x i).run O.P w=.ok u w/\af O.ae m S w v u:=by
 obtain⟨kd,rfl⟩:=BR hi hk;have LX:∀(b o:Nat),k<len->(Instr.indexAt t (.pointer (GR ⟨b,o,GS⟩)) (.int kd (k:Int))).run O.P w=.ok (.pointer (GR ⟨b,o+k*sz,GS⟩)) w:=by
  intro b o p8;have hr:(0:Int)<=(k:Int)/\(k:Int)<(len:Int):=by lia
  simp[Instr.indexAt,asIntOf,run_underlying hu,qw hz,hr,qJ,Instr.sureAddr]
  grind
 cases vx<;>simp only[sF,reduceCtorEq] at h
 case ptr id o=>
  obtain⟨p,hm,rfl⟩:=hx
  cases hc:yP k len with
  | false=>rw[hc] at h;cases h
  | true=>
   rw[hc] at h;simp only[yx,yc] at h;subst h;have p8:k<len:=by simp_all
   exact⟨_,LX _ _ p8,by simp only[af];exact⟨p,hm,by rw[td]⟩⟩
 case bC cs=>
  obtain⟨b,o,rfl,h2,h3,h4⟩:=hx
  cases hc:yP k len with
  | false=>rw[hc] at h;cases h
  | true=>
   rw[hc] at h;simp only[yx,yc] at h;subst h;have p8:k<len:=by simp_all
   exact⟨_,LX _ _ p8,U8 h2 h3 h4⟩
def avH{t e:yB}{len:Nat}(hu:O.P.underlying t=GR (.array len e))(hz:cF O.P e=GR sz)(ha:dQ O.P e=GR ag)(hx:af O.ae m S w vx x)(hi:af O.ae m S w vi i)(hk:bY vi=GR k)(h:QG len sz ag k vx=GR v):
  ∃u,(Instr.index t x i).run O.P w=.ok u w/\af O.ae m S w v u:=by
 obtain⟨kd,rfl⟩:=BR hi hk;cases vx<;>simp only[QG,reduceCtorEq] at h
 obtain⟨xs,rfl,hr⟩:=hx
 cases hc:yP k len with
 | false=>rw[hc] at h;cases h
 | true=>
  rw[hc] at h;have p8:k<len:=by simp_all
  have⟨u,h1,h2⟩:=ae5 hz ha hr h;have bO:(0:Int)<=(k:Int)/\(k:Int)<(len:Int):=by lia
  exact⟨u,by simp[Instr.index,asIntOf,run_underlying hu,qw hz,bO,h1];intro hle;exact absurd hle (by lia),h2⟩
def avI{t:yB}(hu:O.P.underlying t=GR .string)(hx:af O.ae m S w vx x)(hi:af O.ae m S w vi i)(hk:bY vi=GR k)(h:AR k vx=GR v):
  ∃u,(Instr.index t x i).run O.P w=.ok u w/\af O.ae m S w v u:=by
 obtain⟨kd,rfl⟩:=BR hi hk;cases vx<;>simp only[AR,reduceCtorEq] at h
 obtain⟨b,rfl,rfl⟩:=hx
 cases hs:(b.data.toList.map xk)[k]? with
 | none=>rw[hs] at h;cases h
 | some q=>
  rw[hs] at h;simp only[yc] at h;subst h;rw[tr] at hs
  cases hb:b.data.toList[k]? with
  | none=>rw[hb] at hs;cases hs
  | some c=>
   rw[hb] at hs;simp only[wS,yc] at hs;subst hs;have aS:b[k]? =GR c:=by
    have aG:k<b.data.toList.length:=by
     grind
    have eZ:k<b.size:=by simp_all
    rw[getElem?_pos b k eZ];rw[xn aG] at hb;rw[<-hb];rfl
   refine⟨.int .u8 c.toNat,?_,by simp[af]⟩;simp[Instr.index,asIntOf,run_underlying hu,aS]
end
end
end
section
open Go
section
variable {ae:Nat->Nat}{m:Mp}{S:Nat->Prop}{w:yo}
def U9:∀{v:AV} {u:ym},af ae m S w v u->cf (cellsOf v)=ydB->aA ae m S w (cellsOf v) u.cells.toList:=by
 intro v u h h1;cases v
 case undef=>simp[cellsOf,cf,dN] at h1
 case c9=>simp[cellsOf,cf,dN] at h1
 case fn f a b=>
  cases f with
  | f g=>have h':=h;obtain⟨fi,ca,rfl,_⟩:=h';exact⟨_,_,rfl,h,rfl⟩
  | y l=>have h':=h;obtain⟨p,_,rfl⟩:=h';exact⟨_,_,rfl,h,rfl⟩
 all_goals
  have h':=h;simp only[af] at h';simp only[cellsOf,Value.cells,aA]
  grind
def GU(v:ym):aA ae m S w (cellsOf (fE v)) v.cells.toList:=by
 have h:=PS (ae:=ae) (m:=m) (S:=S) (w:=w) v;cases v
 case agg xs=>
  obtain⟨xs,e,hr⟩:=h;injection e with e
  subst e;exact hr
 case pointer p=>cases p<;>(simp only[fE] at h ⊢;exact⟨_,_,rfl,h,rfl⟩)
 case map p=>cases p<;>(simp only[fE] at h ⊢;exact⟨_,_,rfl,h,rfl⟩)
 case slice p n c=>
  cases p
  .cases n
   .cases c<;>(simp only[fE] at h ⊢;exact⟨_,_,rfl,h,rfl⟩)
   .simp only [fE] at h ⊢;exact⟨_,_,rfl,h,rfl⟩
  .simp only [fE] at h ⊢;exact⟨_,_,rfl,h,rfl⟩
 all_goals (simp only[fE] at h ⊢;exact⟨_,_,rfl,h,rfl⟩)
def nZ:∀{a b:List AV} {x y:List ym},aA ae m S w a x->aA ae m S w b y->aA ae m S w (a++b) (x++y)
 | [],b,x,y,h,k=>by simp only[aA] at h;subst h;simpa using k
 | c::a,b,x,y,h,k=>by
  obtain⟨u,r,rfl,h2,h3⟩:=h;exact⟨u,r++y,rfl,h2,nZ h3 k⟩
def Kj:∀(k:Nat) {cs:List AV} {us:List ym},aA ae m S w cs us->aA ae m S w (cs.drop k) (us.drop k)
 | 0,cs,us,h=>by simpa using h
 | k+1,[],us,h=>by simp only[aA] at h;subst h;simp[aA]
 | k+1,c::cs,us,h=>by simp only[aA] at h;obtain⟨u,r,rfl,_,h3⟩:=h;simpa using Kj k h3
def G0:∀(k:Nat) {cs:List AV} {us:List ym},aA ae m S w cs us->aA ae m S w (cs.take k) (us.take k)
 | 0,cs,us,h=>by simp[aA]
 | k+1,[],us,h=>by simp only[aA] at h;subst h;simp[aA]
 | k+1,c::cs,us,h=>by
  simp only[aA] at h;obtain⟨u,r,rfl,h2,h3⟩:=h;exact⟨u,_,rfl,h2,G0 k h3⟩
def VB:∀{cs:List AV} {us:List ym} {i:Nat} {v:AV},aA ae m S w cs us->cs[i]? =GR v->∃u,us[i]? =GR u/\af ae m S w v u
 | [],us,i,v,_,h=>by simp at h
 | c::cs,us,0,v,h,e=>by
  simp only[aA] at h;obtain⟨u,r,rfl,h2,h3⟩:=h;simp at e;subst e;exact⟨u,rfl,h2⟩
 | c::cs,us,i+1,v,h,e=>by
  simp only[aA] at h;obtain⟨u,r,rfl,h2,h3⟩:=h;simpa using VB h3 e
end
def acU(off:Nat):∀(new:List ym) (j:Nat) (cells:Array ym),off+j+new.length<=cells.size->
  ((new.zipIdx j).foldl (fun (cs:Array ym) (p:ym×Nat)=>cs.setIfInBounds (off+p.2) p.1) cells).toList=
   cells.toList.take (off+j)++new++cells.toList.drop (off+j+new.length)
 | [],j,cells,_=>by simp
 | v::r,j,cells,h=>by
  simp only[yH] at h;have ih:=acU off r (j+1) (cells.setIfInBounds (off+j) v) (by simp;omega);simp only[List.zipIdx_cons,List.foldl_cons];rw[ih];have aG:off+j<cells.toList.length:=by grind
  have h1:(cells.setIfInBounds (off+j) v).toList=cells.toList.set (off+j) v:=by simp
  rw[h1,show off+(j+1)=off+j+1 by omega];have h2:(cells.toList.set (off+j) v).take (off+j+1)=cells.toList.take (off+j)++[v]:=by
   rw[List.take_succ_eq_append_getElem (by simpa using aG)];simp[List.take_set_of_le]
  have h3:(cells.toList.set (off+j) v).drop (off+j+1+r.length)=cells.toList.drop (off+j+(r.length+1)):=by
   rw[List.drop_set_of_lt (by omega)];congr 1;omega
  grind
section
variable {O:bE}{H:Hint}{m:Mp}{S:Nat->Prop}{w:yo}{tm:Env}{a:Act}
def PU(hH:fW O H)(ht:cg O m S w tm a.tmps){place:Nat->Option (Nat×Nat)}:∀(parts:List (Nat×xz)) (ps:List (Nat×Nat×X)) (zero cs:List AV) (cells:Array ym),
  partsOf H place parts=GR ps->aA O.ae m S w zero cells.toList->fill tm zero ps=GR cs->
  ∃out,Instr.fill place cells (parts.map fun p=>(p.1,a.eval p.2))=GR out/\aA O.ae m S w cs out.toList
 | [],ps,zero,cs,cells,hp,hz,hf=>by
  simp only[partsOf,yc] at hp;subst hp;simp only[fill,yc] at hf;subst hf;exact⟨cells,rfl,hz⟩
 | (i,x)::r,ps,zero,cs,cells,hp,hz,hf=>by
  simp only[partsOf] at hp
  cases rA:place i with
  | none=>simp[rA] at hp
  | some q=>
   obtain⟨o,s⟩:=q;simp only[rA] at hp
   cases rD:partsOf H place r with
   | none=>simp[rD] at hp
   | some l=>
    simp only[rD,yc] at hp;subst hp;simp only[fill] at hf
    cases hc:(yu (cellsOf (az tm (aO H x))).length s&&yG (o+s) zero.length&&cf (cellsOf (az tm (aO H x)))) with
    | false=>rw[hc] at hf;cases hf
    | true=>
     rw[hc] at hf;simp only[yf] at hc;have hle:=yA hc.1.2;have hrx:=U9 (cl hH ht x) hc.2;have rE:=jV _ _ hrx;have rF:=jV _ _ hz;have eZ:(a.eval x).cells.size=s:=by simp_all
     have iG:cells.size=zero.length:=by omega
     have azM:=acU o (a.eval x).cells.toList 0 cells (by simp;omega);have eG:aA O.ae m S w (over o (cellsOf (az tm (aO H x))) zero)
       ((a.eval x).cells.zipIdx.foldl (fun (cs:Array ym) (p:ym×Nat)=>cs.setIfInBounds (o+p.2) p.1) cells).toList:=by
      rw[<-Array.foldl_toList,Array.toList_zipIdx,azM];rw[show (a.eval x).cells.toList.length=(cellsOf (az tm (aO H x))).length from rE];exact nZ (nZ (G0 o hz) hrx) (Kj _ hz)
     obtain⟨out,h1,h2⟩:=PU hH ht r l _ cs _ rD eG hf;simp only[xb,Instr.fill,rA,eZ]
     grind
end
end
section
open Go
def Va(p q:ByteArray):(p==q)=dZ (oe p) (oe q):=by
 have h:(p==q)=(p.data==q.data):=by cases p;rfl
 rw[h,acS,ByteArray.toList_eq,ByteArray.toList_eq]
 simp_all
def Ya:yad->Bool
 | .bool | .int _ | .string=>ydB
 | _=>ydC
def fits(d:yad)(v:AV):Bool:=
 match d,v with
 | .int _,.int _ _ | .string,.str _ | .bool,.bool _=>ydB
 | _,_=>ydC
section
variable {O:bE}{ae:Nat->Nat}{m:Mp}{S:Nat->Prop}{w:yo}
def aqE{vk vk':AV}{k k':ym}{r:Bool}{d:yad}(hk:af ae m S w vk k)(p9:af ae m S w vk' k')(h:nF vk vk'=GR r)(hd:fits d vk=ydB):Instr.sameNow d k k'=GR r:=by
 unfold nF at h
 split at h
 .rename_i j x j' y;simp only[af] at hk p9;subst hk;subst p9;by_cases hj:j=j'
  .simp only [hj,xN,yc] at h;subst hj;cases d<;>simp[fits] at hd
   simpa[Instr.sameNow] using h
  .simp [hj] at h
 .simp only [af] at hk p9;obtain⟨s,rfl,rfl⟩:=hk;obtain⟨s',rfl,rfl⟩:=p9;simp only[yc] at h;cases d<;>simp[fits] at hd
  simp only[Instr.sameNow,Va];rw[<-h];rfl
 .simp only [af] at hk p9;subst hk;subst p9;simp only[yc] at h;cases d<;>simp[fits] at hd
  simp[Instr.sameNow,h]
 .cases d<;>simp[fits] at hd
 .cases h
def amY{P:xp}{kt:yB}{d:yad}(hu:P.underlying kt=GR d)(hd:Ya d=ydB)(b:Bool)(k:ym):(Instr.checkKey b 10000 kt k).run P w=.ok () w:=by
 have:∀n,(Instr.checkKey b (n+1) kt k).run P w=.ok () w:=by
  cases d<;>simp[Ya] at hd<;>simp[Instr.checkKey,run_underlying hu]
 grind
end
end
section
open Go
def J5:∀(k1 k2:List Nat) (a b:List AV) (r:Bool),dE (k1++k2) a b=GR r->
  ∃r1 r2,dE k1 (a.take k1.length) (b.take k1.length)=GR r1/\dE k2 (a.drop k1.length) (b.drop k1.length)=GR r2/\r=(r1&&r2)
 | [],k2,a,b,r,h=>⟨ydB,r,by simp[dE],by simpa using h,by simp⟩
 | k::k1,k2,[],b,r,h=>by
  simp only[yI] at h;unfold dE at h
  grind
 | k::k1,k2,x::a,[],r,h=>by
  unfold dE at h
  grind
 | k::k1,k2,x::a,y::b,r,h=>by
  have step:∀(q:Bool) (f:Bool->Bool),(match dE (k1++k2) a b with | some r=>GR (f r) | none=>GS)=GR q->∃r0,dE (k1++k2) a b=GR r0/\q=f r0:=by grind
  unfold dE at h
  split at h
  .grind
  .rename_i e1 e2 e3;obtain⟨rfl,rfl⟩:=e1;obtain⟨rfl,rfl⟩:=e2;obtain⟨rfl,rfl⟩:=e3;obtain⟨r0,h0,rfl⟩:=step r _ h;obtain⟨r1,r2,h1,h2,rfl⟩:=J5 k1 k2 _ _ r0 h0;exact⟨_,r2,by simp only[yH,wI,dE,h1],by simpa using h2,(yaP _ _ _).symm⟩
  .rename_i e1 e2 e3;obtain⟨rfl,rfl⟩:=e1;obtain⟨rfl,rfl⟩:=e2;obtain⟨rfl,rfl⟩:=e3
   split at h
   .rename_i hk;obtain⟨r0,h0,rfl⟩:=step r _ h;obtain⟨r1,r2,h1,h2,rfl⟩:=J5 k1 k2 _ _ r0 h0;exact⟨_,r2,by simp only[yH,wI,dE,h1,hk,xN],by simpa using h2,(yaP _ _ _).symm⟩
   .cases h
  .rename_i e1 e2 e3;obtain⟨rfl,rfl⟩:=e1;obtain⟨rfl,rfl⟩:=e2;obtain⟨rfl,rfl⟩:=e3;obtain⟨r0,h0,rfl⟩:=step r _ h;obtain⟨r1,r2,h1,h2,rfl⟩:=J5 k1 k2 _ _ r0 h0;exact⟨_,r2,by simp only[yH,wI,dE,h1],by simpa using h2,(yaP _ _ _).symm⟩
  .cases h
def abJ:∀(ks:List Nat) (a b:List AV) (r:Bool),dE ks a b=GR r->a.length=ks.length/\b.length=ks.length
 | [],a,b,r,h=>by
  unfold dE at h
  grind
 | k::ks,[],b,r,h=>by
  unfold dE at h
  grind
 | k::ks,x::a,[],r,h=>by
  unfold dE at h
  grind
 | k::ks,x::a,y::b,r,h=>by
  have:∃r0,dE ks a b=GR r0:=by
   cases he:dE ks a b with
   | some r0=>exact⟨r0,rfl⟩
   | none=>unfold dE at h;split at h<;>simp_all
  have⟨r0,h0⟩:=this
  have:=abJ ks a b r0 h0
  simp[this]
def ID(P:xp)(t:yB)(x:ym)(xs:List ym):Prop:=(dQ P t=GR ydB/\x=.agg xs.toArray)\/(dQ P t=GR ydC/\xs=[x])
section
variable {P:xp}{ae:Nat->Nat}{m:Mp}{S:Nat->Prop}{w:yo}
def OW{t:yB}{ag:Bool}(ha:dQ P t=GR ag):(isAgg t).run P w=.ok ag w:=by
 unfold dQ at ha
 cases hu:P.underlying t with
 | none=>simp[hu] at ha
 | some d=>cases d<;>simp_all[isAgg,underlying]
def aqF{t:yB}{s o:Nat}{xs:List ym}(hz:cF P t=GR s)(ha:∃ag,dQ P t=GR ag)(h1:dQ P t=GR ydC->s=1)(hl:o+s<=xs.length):
  ∃u,(part t xs.toArray o).run P w=.ok u w/\ID P t u ((xs.drop o).take s):=by
 have⟨ag,ha⟩:=ha
 cases ag with
 | true=>
  refine⟨.agg ((xs.drop o).take s).toArray,?_,.inl ⟨ha,rfl⟩⟩;simp[part,OW ha,qw hz,List.extract_eq_take_drop]
 | false=>
  have hs:=h1 ha;subst hs;have aG:o<xs.length:=by lia
  refine⟨xs[o],?_,.inr ⟨ha,?_⟩⟩
  .simp [part,OW ha,xn aG]
  .rw [List.drop_eq_getElem_cons aG,wI,yck]
def acV{n:Nat}{t:yB}(h:kinds P n t=GR ks):∃ag,dQ P t=GR ag/\(ag=ydC->ks.length=1):=by
 cases n with
 | zero=>simp[kinds] at h
 | succ n=>
  unfold kinds at h;unfold dQ
  split at h<;>simp_all
  all_goals (rw[<-h];rfl)
def Xq(P:xp)(ae:Nat->Nat)(m:Mp)(S:Nat->Prop)(w:yo)(n:Nat):Prop:=
 ∀(t:yB) (ks:List Nat),kinds P n t=GR ks->P.stoodInHeld t=ydC->∀(d:Nat),n<=d->∀(xs ys:List ym) (cs dJ:List AV) (r:Bool) (x y:ym),
  aA ae m S w cs xs->aA ae m S w dJ ys->dE ks cs dJ=GR r->ID P t x xs->ID P t y ys->(Op.equalIn d t x y).run P w=.ok r w
def acW{n:Nat}(ih:Xq P ae m S w n){t:yB}{s o:Nat}(hk:kinds P n t=GR ks)(aR:P.stoodInHeld t=ydC)(hz:cF P t=GR s)(hs:ks.length=s)(hd:n<=d){xs ys:List ym}{cs dJ:List AV}(h1:aA ae m S w cs xs)(h2:aA ae m S w dJ ys){r:Bool}(he:dE ks ((cs.drop o).take s) ((dJ.drop o).take s)=GR r):
  ∃u u',(part t xs.toArray o).run P w=.ok u w/\(part t ys.toArray o).run P w=.ok u' w/\(Op.equalIn d t u u').run P w=.ok r w:=by
 have⟨ag,ha,h1s⟩:=acV hk;have⟨l1,l2⟩:=abJ _ _ _ _ he;have q1:=jV _ _ h1;have q2:=jV _ _ h2;simp only[yU,wP] at l1 l2;have iH:dQ P t=GR ydC->s=1:=fun h=>by
  grind
 have rE:o+s<=xs.length\/s=0:=by lia
 have rF:o+s<=ys.length\/s=0:=by lia
 have get:∀(zs:List ym),(o+s<=zs.length\/s=0)->∃u,(part t zs.toArray o).run P w=.ok u w/\ID P t u ((zs.drop o).take s):=by
  intro zs hl;rcases hl with hl | hl
  .exact aqF hz ⟨ag,ha⟩ iH hl
  .subst hl
   cases ag with
   | false=>have:=iH ha;lia
   | true=>
    refine⟨.agg ((zs.drop o).take 0).toArray,?_,.inl ⟨ha,rfl⟩⟩;simp[part,OW ha,qw hz]
 have⟨u,p1,v1⟩:=get xs rE;have⟨u',p2,v2⟩:=get ys rF;exact⟨u,u',p1,p2,ih t ks hk aR d hd _ _ _ _ r u u' (G0 s (Kj o h1)) (G0 s (Kj o h2)) he v1 v2⟩
def abK{n:Nat}(ih:Xq P ae m S w n){d:Nat}(hd:n<=d){xs ys:List ym}{cs dJ:List AV}(h1:aA ae m S w cs xs)(h2:aA ae m S w dJ ys):
  ∀(fs:List uj) (o:Nat) (ks:List Nat) (r:Bool),qB P (fun u=>kinds P n u) fs o=GR ks->dE ks (cs.drop o) (dJ.drop o)=GR r->(Op.eqFields d xs.toArray ys.toArray fs).run P w=.ok r w
 | [],o,ks,r,h,he=>by
  simp only[qB,yc] at h;unfold dE at he
  split at he<;>simp_all[Op.eqFields]
 | f::fs,o,ks,r,h,he=>by
  simp only[qB] at h
  cases hk:kinds P n f.type with
  | none=>simp[hk] at h
  | some kf=>
   cases hz:cF P f.type with
   | none=>simp[hk,hz] at h
   | some s=>
    simp only[hk,hz] at h
    cases hc:(f.name != "_"&&yu f.offset o&&yu kf.length s&& !P.stoodInHeld f.type) with
    | false=>rw[hc] at h;cases h
    | true=>
     rw[hc] at h;simp only[yx] at h;simp only[yf,bne_iff_ne,ub] at hc;have⟨⟨⟨hn,ho⟩,hl⟩,aR⟩:=hc;have ho:=yi ho;have hl:=yi hl
     cases hr:qB P (fun u=>kinds P n u) fs (o+s) with
     | none=>simp[hr] at h
     | some kr=>
      simp only[hr,yc] at h;subst h;obtain⟨r1,r2,e1,e2,rfl⟩:=J5 _ _ _ _ _ he;rw[hl] at e1 e2;rw[vS,vS] at e2;have⟨u,u',p1,p2,p3⟩:=acW ih (o:=o) hk aR hz hl hd h1 h2 e1;have rest:=abK ih hd h1 h2 fs (o+s) kr r2 hr e2;subst ho;simp only[Op.eqFields]
      cases r1 with
      | true=>simp[hn,p1,p2,p3,rest]
      | false=>simp[hn,p1,p2,p3]
def ab7{n:Nat}(ih:Xq P ae m S w n){d:Nat}(hd:n<=d){xs ys:List ym}{cs dJ:List AV}(h1:aA ae m S w cs xs)(h2:aA ae m S w dJ ys){e:yB}{ks:List Nat}{s:Nat}(hk:kinds P n e=GR ks)(aR:P.stoodInHeld e=ydC)(hz:cF P e=GR s)(hl:ks.length=s):
  ∀(k j:Nat) (r:Bool),dE (yj k ks).flatten (cs.drop (j*s)) (dJ.drop (j*s))=GR r->(Op.eqItems d e s xs.toArray ys.toArray (List.range' j k)).run P w=.ok r w
 | 0,j,r,he=>by
  unfold dE at he
  split at he<;>simp_all[Op.eqItems]
 | k+1,j,r,he=>by
  obtain⟨r1,r2,e1,e2,rfl⟩:=J5 _ _ _ _ _ he;rw[hl] at e1 e2;rw[vS,vS,show j*s+s=(j+1)*s by rw[xS,tM]] at e2;have⟨u,u',p1,p2,p3⟩:=acW ih (o:=j*s) hk aR hz hl hd h1 h2 e1;have rest:=ab7 ih hd h1 h2 hk aR hz hl k (j+1) r2 e2;rw[List.range'_succ];simp only[Op.eqItems]
  cases r1 with
  | true=>simp[p1,p2,p3,rest]
  | false=>simp[p1,p2,p3]
def Ql:∀(n:Nat) (t:yB) (ks:List Nat),kinds P n t=GR ks->P.stoodInHeld t=ydC->∀(d:Nat),n<=d->∀(xs ys:List ym) (cs dJ:List AV) (r:Bool) (x y:ym),
  aA ae m S w cs xs->aA ae m S w dJ ys->dE ks cs dJ=GR r->ID P t x xs->ID P t y ys->(Op.equalIn d t x y).run P w=.ok r w
 | 0,t,ks,h,_,_,_,_,_,_,_,_,_,_,_,_,_,_,_=>by simp[kinds] at h
 | n+1,t,ks,h,aR,0,hd,_,_,_,_,_,_,_,_,_,_,_,_=>by lia
 | n+1,t,ks,h,aR,d+1,hd,xs,ys,cs,dJ,r,x,y,h1,h2,he,hx,hy=>by
  unfold kinds at h;have one:∀{k:Nat},ks=[k]->dQ P t=GR ydC->∃c c',cs=[c]/\dJ=[c']/\af ae m S w c x/\af ae m S w c' y:=by
   intro k hk ha;rcases hx with ⟨hx,_⟩ | ⟨_,rfl⟩
   .grind
   rcases hy with ⟨hy,_⟩ | ⟨_,rfl⟩
   .grind
   have l1:=jV _ _ h1;have l2:=jV _ _ h2
   match cs,dJ,l1,l2 with
   | [c],[c'],_,_=>
    simp only[aA] at h1 h2
    grind
  split at h
  .rename_i hu;simp only[yc] at h;have ha:dQ P t=GR ydC:=by simp[dQ,hu]
   obtain⟨c,c',rfl,rfl,r1,r2⟩:=one h.symm ha;subst h;unfold dE at he
   split at he<;>simp_all[dE]
   subst he;simp only[af] at r1 r2;subst r1;subst r2;simp[Op.equalIn,run_underlying hu]
  .rename_i k0 hu;simp only[yc] at h;have ha:dQ P t=GR ydC:=by simp[dQ,hu]
   obtain⟨c,c',rfl,rfl,r1,r2⟩:=one h.symm ha;subst h;unfold dE at he
   split at he<;>simp_all[dE]
   have⟨hk,he⟩:=he;subst he;simp only[af] at r1 r2;subst r1;subst r2;simp[Op.equalIn,run_underlying hu]
  .rename_i hu;simp only[yc] at h;have ha:dQ P t=GR ydC:=by simp[dQ,hu]
   obtain⟨c,c',rfl,rfl,r1,r2⟩:=one h.symm ha;subst h;unfold dE at he
   split at he<;>simp_all[dE]
   subst he;simp only[af] at r1 r2;obtain⟨s,rfl,rfl⟩:=r1;obtain⟨s',rfl,rfl⟩:=r2;simp only[Op.equalIn,Sem.run_bind,run_underlying hu,Result.andThen_ok,Sem.run_pure,Va];rfl
  .rename_i fs hu;have ha:dQ P t=GR ydB:=by simp[dQ,hu]
   rcases hx with ⟨_,rfl⟩ | ⟨hx,_⟩
   .rcases hy with ⟨_,rfl⟩ | ⟨hy,_⟩
    .have hf:P.fieldsOf t=fs:=by simp[Program.fieldsOf,hu]
     rw[run_equalIn_struct w d t _ _ (by rw[hf];exact hu) aR,hf]
     exact abK (Ql n) (by lia) h1 h2 fs.toList 0 ks r h (by simpa using he)
    .rw [ha] at hy;cases hy
   .rw [ha] at hx;cases hx
  .rename_i k e hu;have ha:dQ P t=GR ydB:=by simp[dQ,hu]
   rcases hx with ⟨_,rfl⟩ | ⟨hx,_⟩
   .rcases hy with ⟨_,rfl⟩ | ⟨hy,_⟩
    .cases hk:kinds P n e with
     | none=>simp[hk] at h
     | some ke=>
      cases hz:cF P e with
      | none=>simp[hk,hz] at h
      | some s=>
       simp only[hk,hz] at h
       cases hc:(yu ke.length s&& !P.stoodInHeld e) with
       | false=>rw[hc] at h;cases h
       | true=>
        rw[hc] at h;simp only[yx,yc] at h;subst h;simp only[yf,ub] at hc;have eG:=hz;unfold cF at eG
        cases hi:P.info? e with
        | none=>simp[hi] at eG
        | some i=>
         simp only[hi,yc] at eG;have iG:P.cellsOf e=s:=by simp[Program.cellsOf,hi,eG]
         rw[run_equalIn_array w d _ _ hu hi,iG,List.range_eq_range'];exact ab7 (Ql n) (by lia) h1 h2 hk hc.2 hz (yi hc.1) k 0 r (by simpa using he)
    .rw [ha] at hy;cases hy
   .rw [ha] at hx;cases hx
  .cases h
end
end
section
open Go
section
variable {vk:AV}{ks:List Nat}{kk:Nat}{P:xp}{k:ym}
inductive Ah(E:ym->Bool->Prop):List vl->Nat->Option (Nat×ym)->Prop
 | nil {i:Nat}:Ah E [] i GS
 | hit {e:vl} {es:List vl} {i:Nat}:E e.key ydB->Ah E (e::es) i (GR (i,e.val))
 | FL {e:vl} {es:List vl} {i:Nat} {f:Option (Nat×ym)}:E e.key ydC->Ah E es (i+1) f->Ah E (e::es) i f
def as7{d:yad}{es:List vl}{i:Nat}{f:Option (Nat×ym)}(h:Ah (fun u b=>Instr.sameNow d k u=GR b) es i f):Instr.findNow d k es i=GR f:=by
 induction h with
 | nil=>rfl
 | hit h=>simp[Instr.findNow,h]
 | FL h _ ih=>simp[Instr.findNow,h,ih]
def ae9{w:yo}{kt:yB}{es:List vl}{i:Nat}{f:Option (Nat×ym)}(h:Ah (fun u b=>(Op.equal kt k u).run P w=.ok b w) es i f):
  (Instr.findAsking kt k es i).run P w=.ok f w:=by
 induction h with
 | nil=>simp[Instr.findAsking]
 | hit h=>simp[Instr.findAsking,h]
 | FL h _ ih=>simp[Instr.findAsking,h,ih]
section
variable {O:bE}{ae:Nat->Nat}{m:Mp}{S:Nat->Prop}{w:yo}
def Found(ae:Nat->Nat)(m:Mp)(S:Nat->Prop)(w:yo)(f:Option (Nat×ym)):Option AV->Prop
 | none=>f=GS
 | some v=>∃j u,f=GR (j,u)/\af ae m S w v u
def VD{vk:AV}{E:ym->Bool->Prop}(hE:∀c u b,af ae m S w c u->nF vk c=GR b->E u b):∀(ks vs:List AV) (es:List vl) (i:Nat) (r:Option AV),
  aA ae m S w ks (es.map (·.key))->aA ae m S w vs (es.map (·.val))->sE vk ks vs=GR r->∃f,Ah E es i f/\Found ae m S w f r
 | [],vs,es,i,r,h1,h2,h=>by
  simp only[aA,ybp] at h1;subst h1;simp only[sE,yc] at h;subst h;exact⟨GS,.nil,rfl⟩
 | c::ks,[],es,i,r,h1,h2,h=>by simp only[sE] at h;cases h
 | c::ks,v::vs,es,i,r,h1,h2,h=>by
  cases es with
  | nil=>simp[aA] at h1
  | cons e es=>
   simp only[xb,aA,uA] at h1 h2;obtain⟨u,t,⟨rfl,rfl⟩,hc,qc⟩:=h1;obtain⟨u',t',⟨rfl,rfl⟩,hv,CA⟩:=h2;simp only[sE] at h
   cases Bl:nF vk c with
   | none=>simp[Bl] at h
   | some b=>
    have hs:=hE _ _ _ hc Bl
    cases b with
    | true=>
     simp only[Bl,yc] at h;subst h;exact⟨_,.hit hs,i,e.val,rfl,hv⟩
    | false=>
     simp only[Bl] at h;obtain⟨f,h1,h2⟩:=VD hE ks vs es (i+1) r qc CA h;exact⟨f,.FL hs h1,h2⟩
def Put(ae:Nat->Nat)(m:Mp)(S:Nat->Prop)(w:yo)(E:ym->Bool->Prop)(k x:ym)(es:List vl)(i:Nat)(iF dS:List AV):Prop:=
 (Ah E es i GS/\aA ae m S w iF (es.map (·.key)++[k])/\aA ae m S w dS (es.map (·.val)++[x]))\/
 ∃(j:Nat) (e0:vl) (c vk:AV),Ah E es i (GR (i+j,e0.val))/\es[j]? =GR e0/\(af ae m S w vk k/\af ae m S w c e0.key/\nF vk c=GR ydB)/\aA ae m S w iF (es.map (·.key))/\aA ae m S w dS ((es.map (·.val)).set j x)
def afa{vk vx:AV}{k x:ym}{E:ym->Bool->Prop}(hE:∀c u b,af ae m S w c u->nF vk c=GR b->E u b)(hk:af ae m S w vk k)(hx:af ae m S w vx x):∀(ks vs:List AV) (es:List vl) (i:Nat) (iF dS:List AV),
  aA ae m S w ks (es.map (·.key))->aA ae m S w vs (es.map (·.val))->pQ vk vx ks vs=GR (iF,dS)->Put ae m S w E k x es i iF dS
 | [],[],es,i,iF,dS,h1,h2,h=>by
  simp only[aA,ybp] at h1;subst h1;simp only[pQ,yc,yr] at h;obtain⟨rfl,rfl⟩:=h;exact .inl ⟨.nil,by simp[aA,hk],by simp[aA,hx]⟩
 | [],_::_,es,i,iF,dS,h1,h2,h=>by simp[pQ] at h
 | _::_,[],es,i,iF,dS,h1,h2,h=>by simp[pQ] at h
 | c::ks,v::vs,es,i,iF,dS,h1,h2,h=>by
  cases es with
  | nil=>simp[aA] at h1
  | cons e es=>
   simp only[xb,aA,uA] at h1 h2;obtain⟨u,t,⟨rfl,rfl⟩,hc,qc⟩:=h1;obtain⟨u',t',⟨rfl,rfl⟩,hv,CA⟩:=h2;simp only[pQ] at h
   cases Bl:nF vk c with
   | none=>simp[Bl] at h
   | some b=>
    have hs:=hE _ _ _ hc Bl
    cases b with
    | true=>
     simp only[Bl,yc,yr] at h;obtain⟨rfl,rfl⟩:=h;refine .inr ⟨0,e,c,vk,.hit hs,rfl,⟨hk,hc,Bl⟩,?_,?_⟩
     .simp only [xb,aA];exact⟨_,_,rfl,hc,qc⟩
     .simp only [xb,List.set_cons_zero,aA];exact⟨_,_,rfl,hx,CA⟩
    | false=>
     simp only[Bl] at h
     cases hm:pQ vk vx ks vs with
     | none=>simp[hm] at h
     | some q=>
      obtain⟨k1,v1⟩:=q;simp only[hm,yc,yr] at h;obtain⟨rfl,rfl⟩:=h;rcases afa hE hk hx ks vs es (i+1) k1 v1 qc CA hm with ⟨g1,g2,g3⟩ | ⟨j,e0,c0,vk0,g1,g2,g3,g4,g5⟩
      .refine .inl ⟨.FL hs g1,?_,?_⟩
       .simp only [xb,yI,aA];exact⟨_,_,rfl,hc,g2⟩
       .simp only [xb,yI,aA];exact⟨_,_,rfl,hv,g3⟩
      .refine .inr ⟨j+1,e0,c0,vk0,?_,by simpa using g2,g3,?_,?_⟩
       .rw [show i+(j+1)=i+1+j by omega];exact .FL hs g1
       .simp only [xb,aA];exact⟨_,_,rfl,hc,g4⟩
       .simp only [xb,List.set_cons_succ,aA];exact⟨_,_,rfl,hv,g5⟩
def acX:∀(n:Nat) (a b:List AV) (x y:List ym),dE (yj n 1) a b=GR ydB->aA ae m S w a x->aA ae m S w b y->x=y/\(x.zip x).all (fun (p,q)=>Instr.sameBits 9999 p q)=ydB
 | 0,a,b,x,y,h,hx,hy=>by
  match a,b with
  | [],[]=>simp only[aA] at hx hy;subst hx;subst hy;exact⟨rfl,rfl⟩
  | [],_::_=>simp[dE] at h
  | _::_,[]=>simp[dE] at h
  | _::_,_::_=>simp[dE] at h
 | n+1,a,b,x,y,h,hx,hy=>by
  rw[wG] at h;unfold dE at h
  split at h
  any_goals (cases h;done)
  .simp_all
  .simp_all
  .rename_i ks k p xs k' q ys qc;simp only[uA,yaw] at qc;subst qc;by_cases hk:k=k'
   .subst hk;simp only[xN] at h
    cases hr:dE (yj n 1) xs ys with
    | none=>simp[hr] at h
    | some r=>
     simp only[hr,yc,yf,yaj] at h;obtain⟨rfl,rfl⟩:=h;simp only[aA] at hx hy;obtain⟨u,us,rfl,e1,e2⟩:=hx;obtain⟨u',Gd,rfl,e1',e2'⟩:=hy;simp only[af] at e1 e1';subst e1;subst e1';obtain⟨rfl,g⟩:=acX n xs ys us Gd hr e2 e2';refine⟨rfl,?_⟩;simp only[List.zip_cons_cons,yaB,g,Bool.and_true];simp[Instr.sameBits]
   .simp [hk] at h
  .simp_all
def aqG{c:AV}{u:ym}(hk:af ae m S w vk k)(hc:af ae m S w c u)(h:nF vk c=GR ydB):k=u/\Instr.sameBits 10000 k k=ydB:=by
 unfold nF at h
 split at h
 .rename_i j x j' y;simp only[af] at hk hc;subst hk;subst hc;by_cases hj:j=j'
  .simp only [hj,xN,yc,yaj] at h;exact⟨by rw[hj,h],by simp[Instr.sameBits]⟩
  .simp [hj] at h
 .simp only [af] at hk hc;obtain⟨s,rfl,rfl⟩:=hk;obtain⟨s',rfl,rfl⟩:=hc;simp only[yc] at h;have h2:(s==s')=ydB:=by rw[Va];exact h
  have h3:(s.data==s'.data)=ydB:=by cases s;cases s';exact h2
  rw[yaj] at h3;have e:s=s':=by cases s;cases s';simp only at h3;rw[h3]
  subst e;exact⟨rfl,by simp[Instr.sameBits,h2]⟩
 .simp only [af] at hk hc;subst hk;subst hc;simp only[yc,yaj] at h;exact⟨by rw[h],by simp[Instr.sameBits]⟩
 .rename_i a b;simp only[af] at hk hc;obtain⟨xs,rfl,hx⟩:=hk;obtain⟨ys,rfl,hy⟩:=hc;obtain⟨e,g⟩:=acX _ _ _ _ _ h hx hy;have e':xs=ys:=by cases xs;cases ys;simp only at e;rw[e]
  subst e';refine⟨rfl,?_⟩;simp only[Instr.sameBits,yae,Bool.true_and];exact g
 .cases h
def ab8{kt:yB}(hk:keyOf P kt=GR kk)(h:lE kk vk=ydB):
  (∃d,P.underlying kt=GR d/\Ya d=ydB/\fits d vk=ydB)\/
  ∃fs ks cs,P.underlying kt=GR (.struct fs)/\fs.toList.all (fun f=>Cd P f.type)=ydB/\P.stoodInHeld kt=ydC/\kinds P 20 kt=GR ks/\ks.length=fs.size/\vk=.agg cs/\cs.length=fs.size:=by
 unfold keyOf at hk
 split at hk
 .rename_i hu;simp only[yc] at hk;subst hk;refine .inl ⟨_,hu,rfl,?_⟩;cases vk<;>simp_all[lE,fits]
 .rename_i hu;simp only[yc] at hk;subst hk;refine .inl ⟨_,hu,rfl,?_⟩;cases vk<;>simp_all[lE,fits]
 .rename_i hu;simp only[yc] at hk;subst hk;refine .inl ⟨_,hu,rfl,?_⟩;cases vk<;>simp_all[lE,fits]
 .rename_i fs hu
  cases hc:(fs.toList.all (fun f=>Cd P f.type)&& !P.stoodInHeld kt) with
  | false=>rw[hc] at hk;cases hk
  | true=>
   rw[hc] at hk;simp only[yx] at hk;simp only[yf,ub] at hc
   cases hs:kinds P 20 kt with
   | none=>simp[hs] at hk
   | some ks=>
    simp only[hs] at hk
    cases hl:yu ks.length fs.size with
    | false=>rw[hl] at hk;cases hk
    | true=>
     rw[hl] at hk;simp only[yx,yc] at hk;subst hk;cases vk<;>simp only[lE,yD] at h
     exact .inr ⟨fs,ks,_,hu,hc.1,hc.2,rfl,yi hl,rfl,yi h⟩
 .cases hk
def abx{P:xp}{n:Nat}:∀(fs:List uj) (o:Nat) (ks:List Nat),fs.all (fun f=>Cd P f.type)=ydB->qB P (fun u=>kinds P n u) fs o=GR ks->ks=yj fs.length 1
 | [],o,ks,_,h=>by simp only[qB,yc] at h;subst h;rfl
 | f::fs,o,ks,ha,h=>by
  simp only[yaB,yf] at ha;simp only[qB] at h
  cases hk:kinds P n f.type with
  | none=>simp[hk] at h
  | some kf=>
   cases hz:cF P f.type with
   | none=>simp[hk,hz] at h
   | some s=>
    simp only[hk,hz] at h
    cases hc:(f.name != "_"&&yu f.offset o&&yu kf.length s&& !P.stoodInHeld f.type) with
    | false=>rw[hc] at h;cases h
    | true=>
     rw[hc] at h;simp only[yx] at h
     cases hr:qB P (fun u=>kinds P n u) fs (o+s) with
     | none=>simp[hr] at h
     | some kr=>
      simp only[hr,yc] at h;subst h;have hkf:kf=[1]:=by
       have hi:=ha.1;unfold Cd at hi
       cases n with
       | zero=>simp[kinds] at hk
       | succ n=>
        unfold kinds at hk
        split at hi
        .rename_i hu;simp only[hu,yc] at hk;exact hk.symm
        .cases hi
      rw[hkf,abx fs (o+s) kr ha.2 hr];rfl
def an5{kt:yB}{fs:Array uj}(hu:P.underlying kt=GR (.struct fs))(ha:fs.toList.all (fun f=>Cd P f.type)=ydB)(hk:kinds P 20 kt=GR ks):
  ks=yj fs.size 1:=by
 unfold kinds at hk;simp only[hu] at hk
 have:=abx (n:=19) fs.toList 0 ks ha hk
 simpa using this
def anx{b:Bool}{n:Nat}{t:yB}{k:xg}{u:ym}(hu:P.underlying t=GR (.int k)):(Instr.checkKey b (n+1) t u).run P w=.ok () w:=by
 simp[Instr.checkKey,run_underlying hu]
def aby{P:xp}{b:Bool}{q q':Nat}(hq:q=q'+1){cs:Array ym}:∀(fs:List uj) (o n:Nat) (ks:List Nat),fs.all (fun f=>Cd P f.type)=ydB->qB P (fun u=>kinds P n u) fs o=GR ks->o+ks.length<=cs.size->
  Sem.run P (forIn fs yaM fun f _=>
      if f.name≠ "_" then do
       let x <-part f.type cs f.offset
       Instr.checkKey b q f.type x
       pure (ybj yaM)
      else pure (ybj yaM)) w=.ok yaM w
 | [],o,n,ks,_,h,_=>by simp
 | f::fs,o,n,ks,ha,h,hl=>by
  simp only[yaB,yf] at ha;simp only[qB] at h
  cases hk:kinds P n f.type with
  | none=>simp[hk] at h
  | some kf=>
   cases hz:cF P f.type with
   | none=>simp[hk,hz] at h
   | some s=>
    simp only[hk,hz] at h
    cases hc:(f.name != "_"&&yu f.offset o&&yu kf.length s&& !P.stoodInHeld f.type) with
    | false=>rw[hc] at h;cases h
    | true=>
     rw[hc] at h;simp only[yx] at h;simp only[yf,bne_iff_ne,ub] at hc;obtain⟨⟨⟨hn,ho⟩,hls⟩,aR⟩:=hc;have ho:=yi ho;have hls:=yi hls
     cases hr:qB P (fun u=>kinds P n u) fs (o+s) with
     | none=>simp[hr] at h
     | some kr=>
      simp only[hr,yc] at h;subst h;rw[yO] at hl;have hi:=ha.1;unfold Cd at hi
      split at hi
      .rename_i kd hu;obtain⟨ag,Bm,h1⟩:=acV hk;have aiC:dQ P f.type=GR ydC:=by simp[dQ,hu]
       have h2:=Bm;rw[aiC] at h2;injection h2 with h2
       have aG:f.offset<cs.size:=by have:=h1 h2.symm;omega
       have hp:(part f.type cs f.offset).run P w=.ok cs[f.offset] w:=by
        simp[part,OW aiC,Array.getElem?_eq_getElem aG]
       have cL:(Instr.checkKey b q f.type cs[f.offset]).run P w=.ok () w:=by
        rw[hq];exact anx hu
       have rest:=aby (b:=b) hq (cs:=cs) fs (o+s) n kr ha.2 hr (by omega);rw[List.forIn_cons];simp only[hn,uO,xG,xN,Sem.run_bind,hp,cL,Result.andThen_ok,Sem.run_pure];simpa only[uO] using rest
      .cases hi
def am5{b:Bool}{q q':Nat}(hq:q=q'+1){kt:yB}{fs:Array uj}{cs:Array ym}(hu:P.underlying kt=GR (.struct fs))(ha:fs.toList.all (fun f=>Cd P f.type)=ydB)(hk:kinds P 20 kt=GR ks)(hl:ks.length<=cs.size):(Instr.checkKey b (q+1) kt (.agg cs)).run P w=.ok () w:=by
 unfold kinds at hk;simp only[hu] at hk;have h:=aby (w:=w) (b:=b) hq (cs:=cs) fs.toList 0 19 ks ha hk (by omega);simp only[Instr.checkKey,Sem.run_bind,run_underlying hu,Result.andThen_ok,<-Array.forIn_toList];rw[h]
 simp
def abL{kt:yB}(hk:keyOf P kt=GR kk)(h:lE kk vk=ydB)(hr:af ae m S w vk k)(b:Bool):(Instr.checkKey b 10000 kt k).run P w=.ok () w:=by
 rcases ab8 hk h with ⟨d,h1,h2,h3⟩ | ⟨fs,ks,cs,hu,ha,aR,qc,hl,rfl,eF⟩
 .exact amY h1 h2 b k
 .simp only [af] at hr;obtain⟨xs,rfl,hx⟩:=hr;have ZO:=jV _ _ hx;rw[vK] at ZO
  exact am5 (q:=9999) (q':=9998) rfl hu ha qc (by omega)
def ab9{kt:yB}(hk:keyOf P kt=GR kk)(h:lE kk vk=ydB)(hr:af ae m S w vk k):
  ∃E:ym->Bool->Prop,(∀c u b,af ae m S w c u->nF vk c=GR b->E u b)/\∀es f,Ah E es 0 f->(Instr.findKey kt k es).run P w=.ok f w:=by
 rcases ab8 hk h with ⟨d,h1,h2,h3⟩ | ⟨fs,ks,cs,hu,ha,aR,qc,hl,rfl,eF⟩
 .refine ⟨fun u b=>Instr.sameNow d k u=GR b,fun c u b hc he=>aqE hr hc he h3,fun es f hf=>?_⟩;simp[Instr.findKey,run_underlying h1,as7 hf]
 .refine ⟨fun u b=>(Op.equal kt k u).run P w=.ok b w,fun c u b hc he=>?_,fun es f hf=>?_⟩
  .cases c<;>simp only[nF,reduceCtorEq] at he
   rename_i dJ;simp only[af] at hr hc;obtain⟨xs,rfl,hx⟩:=hr;obtain⟨ys,rfl,hy⟩:=hc;rw[eF,<-an5 hu ha qc] at he;have Bm:dQ P kt=GR ydB:=by simp[dQ,hu]
   rw[Vz];exact Ql 20 kt ks qc aR 10000 (by omega) _ _ _ _ b _ _ hx hy he (.inl ⟨Bm,by simp⟩) (.inl ⟨Bm,by simp⟩)
  .simp only [af] at hr;obtain⟨xs,rfl,hx⟩:=hr
   cases hf with
   | nil=>simp[Instr.findKey,run_underlying hu,Instr.findNow]
   | hit g=>simp[Instr.findKey,run_underlying hu,Instr.findNow,Instr.sameNow,ae9 (.hit g)]
   | FL g g'=>simp[Instr.findKey,run_underlying hu,Instr.findNow,Instr.sameNow,ae9 (.FL g g')]
def avJ{t kt e:yB}{ok:Bool}{hp:Hp}{vx v:AV}{x zero:ym}(hh:aU O m S w hp ct)(hu:O.P.underlying t=GR (.map kt e))(hk:keyOf O.P kt=GR kk)(hdk:lE kk vk=ydB)(hz:(zeroValue e).run O.P w=.ok zero w)(hx:af O.ae m S w vx x)(Bn:af O.ae m S w vk k){z:AV}(ZP:af O.ae m S w z zero){r:Option AV}(hr:AS hp vk vx=GR r)(hv:(match r with | some u=>(bif ok then AV.av [u,.bool ydB] else u) | none=>(bif ok then AV.av [z,.bool ydC] else z))=v):
  ∃u,(Instr.lookup t x k ok).run O.P w=.ok u w/\af O.ae m S w v u:=by
 have fin:∀(u:AV) (uu:ym) (b:Bool),af O.ae m S w u uu->af O.ae m S w (bif ok then AV.av [u,.bool b] else u) (if ok then .tuple #[uu,.bool b] else uu):=by
  intro u uu b h
  cases ok with
  | true=>simp only[yx,xN,af,aA];exact⟨_,rfl,_,_,rfl,h,_,_,rfl,rfl,rfl⟩
  | false=>simpa using h
 have cL:=fun b:Bool=>abL (P:=O.P) (w:=w) hk hdk Bn b
 obtain⟨E,hE,hF⟩:=ab9 (P:=O.P) hk hdk Bn;have body:∀(x':ym) (es:Array vl),((x'=.map GS/\es=#[])\/∃b clock,x'=.map (GR b)/\w.heap[b]? =GR (.map es clock))->(∃f,Ah E es.toList 0 f/\Found O.ae m S w f r)->
   ∃u,(Instr.lookup t x' k ok).run O.P w=.ok u w/\af O.ae m S w v u:=by
  rintro x' es hl ⟨f,hf,iI⟩;have ff:=hF _ _ hf
  cases r with
  | none=>
   have D8:f=GS:=iI;subst D8;refine⟨if ok then .tuple #[zero,.bool ydC] else zero,?_,by rw[<-hv];exact fin z zero ydC ZP⟩
   rcases hl with ⟨rfl,rfl⟩ | ⟨b,clock,rfl,hb⟩
   .have LY:(Instr.findKey kt k []).run O.P w=.ok GS w:=ff;simp[Instr.lookup,run_underlying hu,cL,LY,hz]
   .simp [Instr.lookup,run_underlying hu,getObj,Sem.run,hb];rw[cL];simp[ff,hz]
  | some v'=>
   obtain⟨j,u,rfl,h2⟩:=iI;refine⟨if ok then .tuple #[u,.bool ydB] else u,?_,by rw[<-hv];exact fin v' u ydB h2⟩
   rcases hl with ⟨rfl,rfl⟩ | ⟨b,clock,rfl,hb⟩
   .cases hf
   .simp [Instr.lookup,run_underlying hu,getObj,Sem.run,hb];rw[cL];simp[ff]
 cases vx<;>simp only[AS,reduceCtorEq] at hr
 case gU=>
  simp only[yc] at hr;subst hr;simp only[af] at hx;subst hx;exact body _ #[] (.inl ⟨rfl,rfl⟩) ⟨GS,.nil,rfl⟩
 case map id=>
  simp only[af] at hx;obtain⟨p,hm,rfl⟩:=hx
  split at hr
  case h_2=>cases hr
  rename_i ZN ks vs Fw;obtain⟨p',es,clock,kD,hb,h1,h2,_⟩:=hh.obj id _ _ Fw hm;rw[hm] at kD;injection kD with kD;subst kD
  exact body _ es (.inr ⟨_,_,rfl,hb⟩) (VD hE ks vs es.toList 0 r h1 h2 hr)
 case kj ks vs=>
  simp only[af] at hx;obtain⟨b,es,clock,rfl,_,_,_,hb,h1,h2⟩:=hx;exact body _ es (.inr ⟨_,_,rfl,hb⟩) (VD hE ks vs es.toList 0 r h1 h2 hr)
end
end
end
section
open Go
def dM{tm:Env}{hp:Hp}{v:AV}(h:bm tm hp bad=GR v):False:=by simp[bad,bm] at h
section
variable {O:bE}{H:Hint}{m:Mp}{S:Nat->Prop}{w:yo}{tm:Env}{a:Act}{hp:Hp}{ct:Nat}
def as8{ae:Nat->Nat}{va vb v:AV}{x y:ym}(hx:af ae m S w va x)(hy:af ae m S w vb y)(h:VE.min2 va vb=GR v):∃u,(Builtin.min2 x y).run O.P w=.ok u w/\af ae m S w v u:=by
 unfold VE.min2 at h
 split at h
 .simp only [af] at hx hy;subst hx;subst hy;simp only[yc] at h;subst h;exact⟨_,by simp only[Builtin.min2,Sem.run_pure];rfl,by simp only[af]⟩
 .rename_i k p k' q;subst hx;subst hy
  cases ho:k.format.order p q with
  | none=>simp[ho] at h
  | some c=>cases c<;>(simp only[ho,yc] at h;subst h;exact⟨_,by simp only[Builtin.min2,ho,Sem.run_pure];rfl,by simp only[af]⟩)
 .cases h
def as9{ae:Nat->Nat}{va vb v:AV}{x y:ym}(hx:af ae m S w va x)(hy:af ae m S w vb y)(h:VE.max2 va vb=GR v):∃u,(Builtin.max2 x y).run O.P w=.ok u w/\af ae m S w v u:=by
 unfold VE.max2 at h
 split at h
 .simp only [af] at hx hy;subst hx;subst hy;simp only[yc] at h;subst h;exact⟨_,by simp only[Builtin.max2,Sem.run_pure];rfl,by simp only[af]⟩
 .rename_i k p k' q;subst hx;subst hy
  cases ho:k.format.order p q with
  | none=>simp[ho] at h
  | some c=>cases c<;>(simp only[ho,yc] at h;subst h;exact⟨_,by simp only[Builtin.max2,ho,Sem.run_pure];rfl,by simp only[af]⟩)
 .cases h
def V8{ae:Nat->Nat}{f:AV->AV->Option AV}{g:ym->ym->Sem ym}(hfg:∀va vb v x y,af ae m S w va x->af ae m S w vb y->f va vb=GR v->∃u,(g x y).run O.P w=.ok u w/\af ae m S w v u):
  ∀(l:List AV) (us:List ym) (va v:AV) (x:ym),af ae m S w va x->aA ae m S w l us->Dx f va l=GR v->∃u,(us.foldlM g x).run O.P w=.ok u w/\af ae m S w v u
 | [],us,va,v,x,hx,hl,h=>by
  simp only[aA] at hl;simp only[Dx,yc] at h
  simp_all
 | b::l,us,va,v,x,hx,hl,h=>by
  obtain⟨u,r,rfl,hu,hr⟩:=hl;simp only[Dx] at h
  cases hf:f va b with
  | none=>simp[hf] at h
  | some c=>
   simp only[hf] at h;obtain⟨u1,h1,h2⟩:=hfg _ _ _ _ _ hx hu hf;obtain⟨u2,h3,h4⟩:=V8 hfg l r c v u1 h2 hr h
   simp_all
def WM{t:yB}{vx v:AV}{x:ym}{ty:yB}(hh:aU O m S w hp ct)(hx:af O.ae m S w vx x){k:Nat}(hu:(k=0/\O.P.underlying t=GR .string)\/(k=1/\∃e,O.P.underlying t=GR (.slice e))\/(k=2/\∃kt e,O.P.underlying t=GR (.map kt e)))(h:jr hp k vx=GR v):∃u,(Builtin.len_ #[t] ty #[x]).run O.P w=.ok u w/\af O.ae m S w v u:=by
 rcases hu with ⟨rfl,hu⟩ | ⟨rfl,e,hu⟩ | ⟨rfl,kt,e,hu⟩
 all_goals cases vx<;>simp only[jr,reduceCtorEq] at h
 case inl.str s=>
  simp only[af] at hx;obtain⟨b,rfl,rfl⟩:=hx;simp only[yc] at h;subst h;refine⟨_,by simp[Builtin.len_,run_underlying hu];rfl,?_⟩
  simp only[af,goInt]
  simp_all
 case inr.inl.aj=>
  simp only[af] at hx;subst hx;simp only[yc] at h;subst h;exact⟨_,by simp[Builtin.len_,run_underlying hu];rfl,by simp[af,goInt]⟩
 case inr.inl.au ex n cs=>
  simp only[af] at hx;rcases hx with ⟨b,o,c,rfl,_⟩ | ⟨a,rfl,rfl,rfl⟩
  all_goals
   simp only[yc] at h;subst h;exact⟨_,by simp[Builtin.len_,run_underlying hu];rfl,by simp[af,goInt]⟩
 case inr.inl.ay id o n=>
  simp only[af] at hx;obtain⟨p,c,_,rfl,_⟩:=hx;simp only[yc] at h;subst h;exact⟨_,by simp[Builtin.len_,run_underlying hu];rfl,by simp[af,goInt]⟩
 case inr.inr.gU=>
  simp only[af] at hx;subst hx;simp only[yc] at h;subst h;exact⟨_,by simp[Builtin.len_,run_underlying hu];rfl,by simp[af,goInt]⟩
 case inr.inr.kj ks vs=>
  simp only[af] at hx;obtain⟨b,es,clock,rfl,_,_,_,hb,h1,_⟩:=hx;simp only[yc] at h;subst h;refine⟨_,by simp[Builtin.len_,run_underlying hu,getObj,Sem.run,hb];rfl,?_⟩
  have:=jV _ _ h1
  simp only[af,goInt];rw[<-this];simp
 case inr.inr.map id=>
  simp only[af] at hx;obtain⟨p,hm,rfl⟩:=hx
  split at h
  case h_2=>cases h
  rename_i ZN ks vs Fw;simp only[yc] at h;subst h;obtain⟨p',es,clock,kD,hb,h1,_⟩:=hh.obj id _ _ Fw hm;rw[hm] at kD;injection kD with kD;subst kD
  refine⟨_,by simp[Builtin.len_,run_underlying hu,getObj,Sem.run,hb];rfl,?_⟩
  have:=jV _ _ h1
  simp only[af,goInt];rw[<-this];simp
end
end
section
open Go
section
variable {O:bE}{H:Hint}{m:Mp}{S:Nat->Prop}{w:yo}{tm:Env}{a:Act}{hp:Hp}{ct:Nat}
def Ha{t:yB}{z:AV}(h:pN O.P t=GR z):∃v,(zeroValue t).run O.P w=.ok v w/\z=fE v:=by
 unfold pN at h
 cases hi:O.P.info? t with
 | none=>simp[hi] at h
 | some i=>
  simp only[hi] at h
  cases hz:i.zero with
  | none=>simp[hz] at h
  | some v=>
   simp only[hz,yc] at h;exact⟨v,by simp[zeroValue,typeInfo,hi,hz],h.symm⟩
def Reads(O:bE)(m:Mp)(S:Nat->Prop)(w:yo)(a:Act)(o:xa)(v:AV):Prop:=
 ∃u,(execOp a.eval o).run O.P w=.ok (.value u) w/\af O.ae m S w v u
def lD{o:xa}{v:AV}{s:Sem ym}(he:execOp a.eval o=(do pure (.value (<-s)):Sem ybk))(h:∃u,s.run O.P w=.ok u w/\af O.ae m S w v u):Reads O m S w a o v:=by
 have⟨u,h1,h2⟩:=h;exact⟨u,by rw[he];simp[h1],h2⟩
def aqH{o:xa}{op:vj}{t ty:yB}{x y:xz}{k:Nat}{v:AV}(hH:fW O H)(ht:cg O m S w tm a.tmps)(ho:o.op=.binOp op t x y ty)(hv:bm tm hp (aW O.P H k o)=GR v):Reads O m S w a o v:=by
 have rx:=cl hH ht x;have ry:=cl hH ht y;have guard:∀{u:ym},(∀xs ys,¬(a.eval x=.agg xs/\a.eval y=.agg ys))\/O.P.eqGuardType O.P.depth t=ydC->a.eval x≠.nilIface->(xZ op t (a.eval x) (a.eval y)).run O.P w=.ok u w->
   (do eqGuard op t x y (a.eval x) (a.eval y);xZ op t (a.eval x) (a.eval y):Sem ym).run O.P w=.ok u w:=by
  intro u h1 h2 h3
  simp only[Sem.run_bind,an4 (P:=O.P) (w:=w) (t:=t) (op:=op) (x:=x) (y:=y) (h1.symm) h2,Result.andThen_ok,h3]
 have plain:bm tm hp (.bin op (aO H x) (aO H y))=GR v->Reads O m S w a o v:=by
  intro hv;simp only[bm] at hv;obtain⟨u,h1,h2⟩:=aqA (P:=O.P) (t:=t) rx ry hv
  refine lD (s:=do eqGuard op t x y (a.eval x) (a.eval y);xZ op t (a.eval x) (a.eval y)) (by simp only[execOp,ho]) ⟨u,guard (.inl ?_) ?_ h1,h2⟩
  .rintro xs ys ⟨e1,e2⟩;rw[e1] at rx;unfold VE.binOp at hv
   split at hv
   .rename_i h3 _;rw[h3] at rx;simp[af] at rx
   .rename_i h3 _;rw[h3] at rx;simp[af] at rx
   .rename_i h3 _;rw[h3] at rx;simp[af] at rx
   .rename_i h3 _;rw[h3] at rx;simp[af] at rx
   .cases hv
  .intro e1;rw[e1] at rx;unfold VE.binOp at hv
   split at hv
   .rename_i h3 _;rw[h3] at rx;simp[af] at rx
   .rename_i h3 _;rw[h3] at rx;simp[af] at rx
   .rename_i h3 _;rw[h3] at rx;simp[af] at rx
   .rename_i h3 _;rw[h3] at rx;simp[af] at rx
   .cases hv
 have other:∀(ne:Bool) (kd:VE.Th),(op=.eql/\ne=ydC\/op=.neq/\ne=ydB)->(∀r,lm kd (az tm (aO H x)) (az tm (aO H y))=GR r->(Op.equal t (a.eval x) (a.eval y)).run O.P w=.ok r w/\
    ((∀xs ys,¬(a.eval x=.agg xs/\a.eval y=.agg ys))\/O.P.eqGuardType O.P.depth t=ydC)/\a.eval x≠.nilIface/\
    ∀q:Bool,(op=.eql->xZ op t (a.eval x) (a.eval y)=(do pure (.bool (<-Op.equal t (a.eval x) (a.eval y)))))/\(op=.neq->xZ op t (a.eval x) (a.eval y)=(do pure (.bool (!(<-Op.equal t (a.eval x) (a.eval y)))))))->
   bm tm hp (.eq ne kd (aO H x) (aO H y))=GR v->Reads O m S w a o v:=by
  intro ne kd jP mW hv;simp only[bm] at hv
  cases he:lm kd (az tm (aO H x)) (az tm (aO H y)) with
  | none=>simp[he] at hv
  | some r=>
   simp only[he,yc] at hv;subst hv;obtain⟨h1,h2,h3,h4⟩:=mW r he;obtain⟨h5,h6⟩:=h4 ydB
   refine lD (s:=do eqGuard op t x y (a.eval x) (a.eval y);xZ op t (a.eval x) (a.eval y)) (by simp only[execOp,ho]) ⟨.bool (ne !=r),guard h2 h3 ?_,by simp[af]⟩
   rcases jP with ⟨rfl,rfl⟩ | ⟨rfl,rfl⟩
   .rw [h5 rfl];simp[h1]
   .rw [h6 rfl];simp[h1]
 have pB:O.P.underlying t=GR .bool->∀r,lm .b (az tm (aO H x)) (az tm (aO H y))=GR r->∃p q,a.eval x=.bool p/\a.eval y=.bool q/\(Op.equal t (a.eval x) (a.eval y)).run O.P w=.ok r w:=by
  intro hu r he;cases hx:az tm (aO H x)<;>cases hy:az tm (aO H y)<;>rw[hx,hy] at he<;>simp only[lm,reduceCtorEq] at he
  rw[hx] at rx;rw[hy] at ry;simp only[af] at rx ry;simp only[yc] at he;refine⟨_,_,rx,ry,?_⟩;rw[rx,ry,Vz,<-he];exact avC hu
 have pS:∀e,O.P.underlying t=GR (.slice e)->∀r,lm .sl (az tm (aO H x)) (az tm (aO H y))=GR r->∃p n c q n' c',a.eval x=.slice p n c/\a.eval y=.slice q n' c'/\(Op.equal t (a.eval x) (a.eval y)).run O.P w=.ok r w:=by
  intro e hu r he;have h1:=as4 hu rx ry he;have sl:∀{v:AV} {u:ym},af O.ae m S w v u->(v=.aj\/(∃a b c,v=.au a b c)\/∃a b c,v=.ay a b c)->∃p n c,u=.slice p n c:=by
   intro v u hr hv;rcases hv with rfl | ⟨_,_,_,rfl⟩ | ⟨_,_,_,rfl⟩
   .simp only [af] at hr;exact⟨_,_,_,hr⟩
   .simp only [af] at hr;rcases hr with ⟨b,o,c,hr,_⟩ | ⟨_,hr,_⟩<;>exact⟨_,_,_,hr⟩
   .simp only [af] at hr;obtain⟨b,c,_,hr,_⟩:=hr;exact⟨_,_,_,hr⟩
  have de:(az tm (aO H x)=.aj\/(∃a b c,az tm (aO H x)=.au a b c)\/∃a b c,az tm (aO H x)=.ay a b c)/\
    (az tm (aO H y)=.aj\/(∃a b c,az tm (aO H y)=.au a b c)\/∃a b c,az tm (aO H y)=.ay a b c):=by
   cases hx:az tm (aO H x)<;>cases hy:az tm (aO H y)<;>rw[hx,hy] at he<;>simp[lm] at he ⊢
  obtain⟨p,n,c,e1⟩:=sl rx de.1;obtain⟨q,n',c',e2⟩:=sl ry de.2;exact⟨p,n,c,q,n',c',e1,e2,h1⟩
 have pF:∀ps rs vr,O.P.underlying t=GR (.func ps rs vr)->∀r,lm .fn (az tm (aO H x)) (az tm (aO H y))=GR r->
   ((a.eval x=.nilFunc\/∃f p q,a.eval x=.func f p q)/\(a.eval y=.nilFunc\/∃f p q,a.eval y=.func f p q))/\(Op.equal t (a.eval x) (a.eval y)).run O.P w=.ok r w:=by
  intro ps rs vr hu r he;have h1:=as5 hu rx ry he;have sl:∀{v:AV} {u:ym},af O.ae m S w v u->(v=.fQ\/(∃a b c,v=.fn a b c))->(u=.nilFunc\/∃f p q,u=.func f p q):=by
   intro v u hr hv;rcases hv with rfl | ⟨f,_,_,rfl⟩
   .simp only [af] at hr;exact .inl hr
   .cases f with
    | f g=>simp only[af] at hr;obtain⟨b,c,hr,_⟩:=hr;exact .inr ⟨_,_,_,hr⟩
    | y l=>simp only[af] at hr;obtain⟨b,_,hr⟩:=hr;exact .inr ⟨_,_,_,hr⟩
  have de:(az tm (aO H x)=.fQ\/(∃a b c,az tm (aO H x)=.fn a b c))/\(az tm (aO H y)=.fQ\/(∃a b c,az tm (aO H y)=.fn a b c)):=by
   cases hx:az tm (aO H x)<;>cases hy:az tm (aO H y)<;>rw[hx,hy] at he<;>simp[lm] at he ⊢
  exact⟨⟨sl rx de.1,sl ry de.2⟩,h1⟩
 have pA:∀ks,kinds O.P 20 t=GR ks->dQ O.P t=GR ydB->O.P.stoodInHeld t=ydC->∀r,lm (.ag ks) (az tm (aO H x)) (az tm (aO H y))=GR r->∃p q,a.eval x=.agg p/\a.eval y=.agg q/\(Op.equal t (a.eval x) (a.eval y)).run O.P w=.ok r w:=by
  intro ks hk ha aR r he;cases hx:az tm (aO H x)<;>cases hy:az tm (aO H y)<;>rw[hx,hy] at he<;>simp only[lm,reduceCtorEq] at he
  rw[hx] at rx;rw[hy] at ry;simp only[af] at rx ry;obtain⟨p,e1,h1⟩:=rx;obtain⟨q,e2,h2⟩:=ry;refine⟨p,q,e1,e2,?_⟩;rw[e1,e2,Vz];exact Ql 20 t ks hk aR 10000 (by omega) _ _ _ _ r _ _ h1 h2 he (.inl ⟨ha,by simp⟩) (.inl ⟨ha,by simp⟩)
 have eqs:∀(ne:Bool),(op=.eql/\ne=ydC\/op=.neq/\ne=ydB)->bm tm hp (sr O.P H ne op t x y)=GR v->Reads O m S w a o v:=by
  intro ne jP hv;have agg:dQ O.P t=GR ydB->bm tm hp (zL O.P H ne t x y)=GR v->Reads O m S w a o v:=by
   intro ha hv;unfold zL at hv
   cases hk:kinds O.P 20 t with
   | none=>rw[hk] at hv;exact (dM hv).elim
   | some ks=>
    simp only[hk] at hv
    cases hc:(O.P.stoodInHeld t||O.P.eqGuardType O.P.depth t) with
    | true=>rw[hc] at hv;exact (dM hv).elim
    | false=>
     rw[hc] at hv;simp only[yS] at hv;simp only[Bool.or_eq_false_iff] at hc;refine other ne (.ag ks) jP (fun r hr=>?_) hv;obtain⟨p,q,e1,e2,h1⟩:=pA ks hk ha hc.1 r hr;refine⟨h1,.inr hc.2,by rw[e1];simp,fun _=>?_⟩
     rw[e1,e2];exact⟨fun e=>by subst e;rfl,fun e=>by subst e;rfl⟩
  unfold sr at hv
  split at hv
  .exact plain hv
  .exact plain hv
  .exact plain hv
  .exact plain hv
  .rename_i hu;refine other ne .b jP (fun r hr=>?_) hv;obtain⟨p,q,e1,e2,h1⟩:=pB hu r hr;refine⟨h1,.inl (by rw[e1];simp),by rw[e1];simp,fun _=>?_⟩
   rw[e1,e2];exact⟨fun e=>by subst e;rfl,fun e=>by subst e;rfl⟩
  .rename_i e hu;refine other ne .sl jP (fun r hr=>?_) hv;obtain⟨p,n,c,q,n',c',e1,e2,h1⟩:=pS e hu r hr;refine⟨h1,.inl (by rw[e1];simp),by rw[e1];simp,fun _=>?_⟩
   rw[e1,e2];exact⟨fun e=>by subst e;rfl,fun e=>by subst e;rfl⟩
  .rename_i ps rs vr hu;refine other ne .fn jP (fun r hr=>?_) hv;obtain⟨⟨e1,e2⟩,h1⟩:=pF ps rs vr hu r hr;refine⟨h1,.inl ?_,?_,fun _=>?_⟩
   .rcases e1 with e1 | ⟨_,_,_,e1⟩<;>rw[e1]<;>simp
   .rcases e1 with e1 | ⟨_,_,_,e1⟩<;>rw[e1]<;>simp
   .rcases e1 with e1 | ⟨_,_,_,e1⟩<;>rcases e2 with e2 | ⟨_,_,_,e2⟩<;>rw[e1,e2]<;>exact⟨fun e=>by subst e;rfl,fun e=>by subst e;rfl⟩
  .rename_i fs hu;exact agg (by simp[dQ,hu]) hv
  .rename_i k0 e hu;exact agg (by simp[dQ,hu]) hv
  .exact (dM hv).elim
 cases op
 case eql=>exact eqs ydC (.inl ⟨rfl,rfl⟩) (by simpa only[aW,ho] using hv)
 case neq=>exact eqs ydB (.inr ⟨rfl,rfl⟩) (by simpa only[aW,ho] using hv)
 all_goals exact plain (by simpa only[aW,ho] using hv)
end
end
section
open Go
section
variable {O:bE}{H:Hint}{m:Mp}{S:Nat->Prop}{w:yo}{tm:Env}{a:Act}{hp:Hp}{ct:Nat}
def CW{o:xa}{b:Builtin}{args:Array xz}{ts:Array yB}(ho:o.op=.call {callee:=.builtin b,args:=args,argTypes:=ts}):
  ∃cs,(execOp a.eval o).run O.P w=(builtin b ts o.type cs (args.map a.eval)).run O.P w:=by
 exact⟨_,by simp only[execOp,ho,resolve,Sem.run_bind,Sem.run_pure,Result.andThen_ok,invoke];rfl⟩
def aoS{o:xa}{c:Call}{k:Nat}{v:AV}(hH:fW O H)(ht:cg O m S w tm a.tmps)(hh:aU O m S w hp ct)(ho:o.op=.call c)(hv:bm tm hp (aW O.P H k o)=GR v):Reads O m S w a o v:=by
 obtain⟨callee,args,ts⟩:=c;simp only[aW,ho] at hv
 split at hv
 .cases Ny:H.mode k<;>simp[Ny,bm] at hv
 .rename_i _ b
  split at hv
  .have key:∀{bb:Bool} {sz by':Nat} {x y:X},bm tm hp (bif bb then .eE sz by' x y else bad)=GR v->False:=by
    intro bb sz by' x y h
    cases bb
    .exact dM h
    .simp [bm] at h
   split at hv
   .split at hv
    .exact (key hv).elim
    .exact (dM hv).elim
   .split at hv
    .exact (key hv).elim
    .exact (dM hv).elim
   .exact (dM hv).elim
  .rename_i x t fF zf;obtain⟨al⟩:=args;obtain⟨tl⟩:=ts;simp only at fF zf;subst fF;subst zf;obtain⟨cs,ff⟩:=CW (O:=O) (w:=w) (a:=a) ho;have fin:(∃u,(Builtin.len_ #[t] o.type #[a.eval x]).run O.P w=.ok u w/\af O.ae m S w v u)->Reads O m S w a o v:=by
    rintro⟨u,h1,h2⟩;refine⟨u,?_,h2⟩;rw[ff];simp[builtin,h1]
   split at hv
   .rename_i n e hu;simp only[bm,az,yc] at hv;subst hv;exact fin ⟨_,by simp[Builtin.len_,run_underlying hu];rfl,by simp[af,goInt]⟩
   .rename_i hu;simp only[bm] at hv;exact fin (WM hh (cl hH ht x) (.inl ⟨rfl,hu⟩) hv)
   .rename_i e hu;simp only[bm] at hv;exact fin (WM hh (cl hH ht x) (.inr (.inl ⟨rfl,e,hu⟩)) hv)
   .rename_i kt e hu;simp only[bm] at hv;exact fin (WM hh (cl hH ht x) (.inr (.inr ⟨rfl,kt,e,hu⟩)) hv)
   .exact (dM hv).elim
  .split at hv
   .split at hv
    .simp [bm] at hv
    .exact (dM hv).elim
   .exact (dM hv).elim
  .simp only [bm] at hv;obtain⟨cs,ff⟩:=CW (O:=O) (w:=w) (a:=a) ho;have hl:=E7 hH ht args.toList
   cases hx:dV tm (ju H args.toList) with
   | nil=>simp[hx] at hv
   | cons c r=>
    simp only[hx] at hv;rw[hx] at hl;simp only[aA] at hl;obtain⟨u,us,h1,h2,h3⟩:=hl;obtain⟨q,h4,h5⟩:=V8 (O:=O) (g:=Builtin.min2) (fun va vb v x y hx hy h=>as8 hx hy h) r us c v u h2 h3 hv;refine⟨q,?_,h5⟩;rw[ff];simp[builtin,Builtin.min_,h1,h4]
  .simp only [bm] at hv;obtain⟨cs,ff⟩:=CW (O:=O) (w:=w) (a:=a) ho;have hl:=E7 hH ht args.toList
   cases hx:dV tm (ju H args.toList) with
   | nil=>simp[hx] at hv
   | cons c r=>
    simp only[hx] at hv;rw[hx] at hl;simp only[aA] at hl;obtain⟨u,us,h1,h2,h3⟩:=hl;obtain⟨q,h4,h5⟩:=V8 (O:=O) (g:=Builtin.max2) (fun va vb v x y hx hy h=>as9 hx hy h) r us c v u h2 h3 hv;refine⟨q,?_,h5⟩;rw[ff];simp[builtin,Builtin.max_,h1,h4]
  .rename_i ts' x fF;obtain⟨al⟩:=args;simp only at fF;subst fF;obtain⟨cs,ff⟩:=CW (O:=O) (w:=w) (a:=a) ho;simp only[bm] at hv;have rx:=cl hH ht x;cases hx:az tm (aO H x)<;>rw[hx] at hv rx<;>simp only[iC,reduceCtorEq,yc] at hv
   rename_i k0 p0 q0;subst hv;simp only[af] at rx;have e1:(#[x]:Array xz).map a.eval=#[Value.complex k0 p0 q0]:=by simp[rx]
   have e2:Builtin.real_ ts o.type #[Value.complex k0 p0 q0]=pure (.float k0 p0):=rfl;exact⟨.float k0 p0,by rw[ff,e1];simp[builtin,e2],by simp[af]⟩
  .rename_i ts' x fF;obtain⟨al⟩:=args;simp only at fF;subst fF;obtain⟨cs,ff⟩:=CW (O:=O) (w:=w) (a:=a) ho;simp only[bm] at hv;have rx:=cl hH ht x;cases hx:az tm (aO H x)<;>rw[hx] at hv rx<;>simp only[iC,reduceCtorEq,yc] at hv
   rename_i k0 p0 q0;subst hv;simp only[af] at rx;have e1:(#[x]:Array xz).map a.eval=#[Value.complex k0 p0 q0]:=by simp[rx]
   have e2:Builtin.imag_ ts o.type #[Value.complex k0 p0 q0]=pure (.float k0 q0):=rfl;exact⟨.float k0 q0,by rw[ff,e1];simp[builtin,e2],by simp[af]⟩
  .rename_i ts' x y fF;obtain⟨al⟩:=args;simp only at fF;subst fF;obtain⟨cs,ff⟩:=CW (O:=O) (w:=w) (a:=a) ho;simp only[bm] at hv;have rx:=cl hH ht x;have ry:=cl hH ht y;cases hx:az tm (aO H x)<;>cases hy:az tm (aO H y)<;>rw[hx] at hv rx<;>rw[hy] at hv ry<;>simp only[ag0,reduceCtorEq] at hv
   rename_i k1 a1 k2 b1;simp only[af] at rx ry;by_cases hk:k1=k2
   .subst hk;simp only[xN,yc] at hv;subst hv;have e1:(#[x,y]:Array xz).map a.eval=#[Value.float k1 a1,Value.float k1 b1]:=by simp[rx,ry]
    have e2:Builtin.complex_ ts o.type #[Value.float k1 a1,Value.float k1 b1]=pure (.complex k1 a1 b1):=by
     show (if k1=k1 then _ else _)=_
     simp
    exact⟨.complex k1 a1 b1,by rw[ff,e1];simp[builtin,e2],by simp[af]⟩
   .simp [hk] at hv
  .exact (dM hv).elim
 .exact (dM hv).elim
def afb{o:xa}{k:Nat}{v:AV}(hH:fW O H)(ht:cg O m S w tm a.tmps)(hh:aU O m S w hp ct)(hv:bm tm hp (aW O.P H k o)=GR v):Reads O m S w a o v:=by
 cases ho:o.op with
 | call c=>exact aoS hH ht hh ho hv
 | binOp op t x y ty=>exact aqH hH ht ho hv
 | move x=>
  simp only[aW,ho,bm,yc] at hv;subst hv;exact⟨_,by simp only[execOp,ho,Sem.run_pure],cl hH ht x⟩
 | assign x=>
  simp only[aW,ho,bm,yc] at hv;subst hv;exact⟨_,by simp only[execOp,ho,Sem.run_pure],cl hH ht x⟩
 | pick c x y=>
  simp only[aW,ho,bm] at hv;have rc:=cl hH ht c;cases hc:az tm (aO H c)<;>rw[hc] at hv<;>simp only[reduceCtorEq] at hv
  rename_i b;rw[hc] at rc;simp only[af] at rc;simp only[yc] at hv;subst hv
  cases b with
  | true=>exact⟨a.eval x,by simp[execOp,ho,rc,asBool],cl hH ht x⟩
  | false=>exact⟨a.eval y,by simp[execOp,ho,rc,asBool],cl hH ht y⟩
 | load t x=>
  simp only[aW,ho] at hv
  split at hv
  .rename_i s ag hz ha;simp only[bm] at hv;exact lD (by simp only[execOp,ho]) (azL hh hz ha (cl hH ht x) hv)
  .exact (dM hv).elim
 | fieldAddr t x i=>
  simp only[aW,ho] at hv
  split at hv
  .rename_i fs hu
   split at hv
   .rename_i f hf
    split at hv
    .rename_i s hz;simp only[bm] at hv;exact lD (by simp only[execOp,ho]) (avD hu hf hz (cl hH ht x) hv)
    .exact (dM hv).elim
   .exact (dM hv).elim
  .exact (dM hv).elim
 | field t x i=>
  simp only[aW,ho] at hv
  split at hv
  .rename_i fs hu
   split at hv
   .rename_i f hf
    split at hv
    .rename_i s ag hz ha;simp only[bm] at hv;exact lD (by simp only[execOp,ho]) (avE hu hf hz ha (cl hH ht x) hv)
    .exact (dM hv).elim
   .exact (dM hv).elim
  .exact (dM hv).elim
 | nilCheck x=>
  simp only[aW,ho,bm] at hv;have rx:=cl hH ht x;cases hx:az tm (aO H x)<;>rw[hx] at hv rx<;>simp only[reduceCtorEq,yc] at hv
  .subst hv;have r':=rx;simp only[af] at r';obtain⟨p,_,e⟩:=r';exact⟨a.eval x,by simp only[execOp,ho,e,Sem.run_pure],rx⟩
  .subst hv;have r':=rx;simp only[af] at r';obtain⟨b,o',e,_⟩:=r';exact⟨a.eval x,by simp only[execOp,ho,e,Sem.run_pure],rx⟩
  .subst hv;rename_i f _ _
   cases f with
   | f g=>
    have r':=rx;simp only[af] at r';obtain⟨fi,ca,e,_⟩:=r';exact⟨a.eval x,by simp only[execOp,ho,e,Sem.run_pure],rx⟩
   | y l=>
    have r':=rx;simp only[af] at r';obtain⟨p,_,e⟩:=r';exact⟨a.eval x,by simp only[execOp,ho,e,Sem.run_pure],rx⟩
 | unOp op t x=>
  simp only[aW,ho,bm] at hv;exact lD (by simp only[execOp,ho]) (as6 (cl hH ht x) hv)
 | convert s d x=>
  simp only[aW,ho] at hv
  split at hv
  .rename_i k1 k2 hs hd;simp only[bm] at hv;exact lD (by simp only[execOp,ho]) (adP hd (.inl ⟨_,hs⟩) (cl hH ht x) hv)
  .rename_i k1 k2 hs hd;simp only[bm] at hv;exact lD (by simp only[execOp,ho]) (adP hd (.inr ⟨_,hs⟩) (cl hH ht x) hv)
  .rename_i k1 k2 hs hd;simp only[bm] at hv;exact lD (by simp only[execOp,ho]) (adQ hd (.inl ⟨_,hs⟩) (cl hH ht x) hv)
  .rename_i k1 k2 hs hd;simp only[bm] at hv;exact lD (by simp only[execOp,ho]) (adQ hd (.inr ⟨_,hs⟩) (cl hH ht x) hv)
  .rename_i hs hd;simp only[bm] at hv;exact lD (by simp only[execOp,ho]) (aqB hd hs (cl hH ht x) hv)
  .exact (dM hv).elim
 | makeFunc fn first cap=>
  cases fn with
  | func f=>
   simp only[aW,ho] at hv
   split at hv
   .rename_i g hg;simp only[bm,yc] at hv;subst hv;refine⟨.func (.func f) (first.map a.eval) (cap.map a.eval),by simp[execOp,ho,Instr.makeFunc],?_⟩;simp only[af];exact⟨_,_,by rw[hH f g hg],by simpa using E7 hH ht first.toList,by simpa using E7 hH ht cap.toList⟩
   .exact (dM hv).elim
  | _=>simp only[aW,ho] at hv;exact (dM hv).elim
 | slice t x lo hi mx=>
  cases mx with
  | some q=>simp only[aW,ho] at hv;exact (dM hv).elim
  | none=>
   simp only[aW,ho] at hv
   split at hv
   .rename_i hu;simp only[bm] at hv;exact lD (by simp only[execOp,ho];rfl) (aoR hH ht hu (cl hH ht x) hv)
   .rename_i e hu
    split at hv
    .rename_i s hz;simp only[bm] at hv;exact lD (by simp only[execOp,ho];rfl) (aqC hH ht hu hz hh (cl hH ht x) hv)
    .exact (dM hv).elim
   .rename_i n e hu
    split at hv
    .rename_i s hz;simp only[bm] at hv;exact lD (by simp only[execOp,ho];rfl) (aqD hH ht hu hz (cl hH ht x) hv)
    .exact (dM hv).elim
   .exact (dM hv).elim
 | indexAddr t x i=>
  simp only[aW,ho] at hv
  split at hv
  .rename_i e hu
   split at hv
   .rename_i s hz;simp only[bm] at hv
    cases hk:bY (az tm (aO H i)) with
    | none=>simp[hk] at hv
    | some j=>
     simp only[hk] at hv;exact lD (by simp only[execOp,ho]) (avF hu hz (cl hH ht x) (cl hH ht i) hk hv)
   .exact (dM hv).elim
  .rename_i n e hu
   split at hv
   .rename_i s hz;simp only[bm] at hv
    cases hk:bY (az tm (aO H i)) with
    | none=>simp[hk] at hv
    | some j=>
     simp only[hk] at hv;exact lD (by simp only[execOp,ho]) (avG hu hz (cl hH ht x) (cl hH ht i) hk hv)
   .exact (dM hv).elim
  .exact (dM hv).elim
 | index t x i=>
  simp only[aW,ho] at hv
  split at hv
  .rename_i hu;simp only[bm] at hv
   cases hk:bY (az tm (aO H i)) with
   | none=>simp[hk] at hv
   | some j=>
    simp only[hk] at hv;exact lD (by simp only[execOp,ho]) (avI hu (cl hH ht x) (cl hH ht i) hk hv)
  .rename_i n e hu
   split at hv
   .rename_i s ag hz ha;simp only[bm] at hv
    cases hk:bY (az tm (aO H i)) with
    | none=>simp[hk] at hv
    | some j=>
     simp only[hk] at hv;exact lD (by simp only[execOp,ho]) (avH hu hz ha (cl hH ht x) (cl hH ht i) hk hv)
   .exact (dM hv).elim
  .exact (dM hv).elim
 | lookup t x i ok=>
  simp only[aW,ho] at hv
  split at hv
  .rename_i kt e hu
   split at hv
   .rename_i kk z qd hz;simp only[bm] at hv
    cases hf:lE kk (az tm (aO H i)) with
    | false=>simp[hf] at hv
    | true=>
     simp only[hf,yx] at hv;obtain⟨zv,nS,rfl⟩:=Ha (w:=w) hz
     cases hr:AS hp (az tm (aO H i)) (az tm (aO H x)) with
     | none=>simp[hr] at hv
     | some r=>
      refine lD (by simp only[execOp,ho]) (avJ (ok:=ok) (r:=r) (z:=fE zv) hh hu qd hf nS (cl hH ht x) (cl hH ht i) (PS zv) hr ?_);cases r<;>simpa[hr] using hv
   .exact (dM hv).elim
  .exact (dM hv).elim
 | extract x i=>
  simp only[aW,ho,bm] at hv;have rx:=cl hH ht x;cases hx:az tm (aO H x)<;>rw[hx] at hv rx<;>simp only[reduceCtorEq] at hv
  simp only[af] at rx;obtain⟨xs,e,hr⟩:=rx;obtain⟨u,h1,h2⟩:=VB hr hv;refine⟨u,?_,h2⟩;have Ge:xs[i]? =GR u:=by simpa using h1
  simp[execOp,ho,e,Instr.extract,Ge]
 | build t parts=>
  simp only[aW,ho] at hv
  split at hv
  .rename_i fs z hu hz
   split at hv
   .rename_i pl aBF;have rA:=run_places (P:=O.P) w fs.toList pl aBF
    split at hv
    case h_2=>exact (dM hv).elim
    rename_i ps jQ;simp only[bm] at hv
    cases hf:fill tm z ps with
    | none=>simp[hf] at hv
    | some cs=>
     simp only[hf,yc] at hv;subst hv;obtain⟨zv,nS,lX⟩:=Ha (w:=w) hz;have CB:aA O.ae m S w z zv.cells.toList:=by
      have:=GU (ae:=O.ae) (m:=m) (S:=S) (w:=w) zv
      rw[<-lX] at this;exact this
     obtain⟨out,h1,h2⟩:=PU hH ht (place:=fun i=>pl[i]?) parts.toList ps z cs zv.cells jQ CB hf;refine⟨.agg out,?_,by simp only[af];exact⟨out,rfl,h2⟩⟩
     have hm:(Array.mapM (fun f=>Functor.map (Prod.mk f.offset) (vE f.type)) fs:Sem (Array (Nat×Nat))).run O.P w=.ok pl.toArray w:=by
      rw[Array.mapM_eq_mapM_toList];simp[rA]
     simp[execOp,ho,Instr.build,nS,run_underlying hu,hm,h1]
   .exact (dM hv).elim
  .rename_i n e z hu hz
   split at hv
   .rename_i s hs
    split at hv
    .rename_i ps jQ;simp only[bm] at hv
     cases hf:fill tm z ps with
     | none=>simp[hf] at hv
     | some cs=>
      simp only[hf,yc] at hv;subst hv;obtain⟨zv,nS,lX⟩:=Ha (w:=w) hz;have CB:aA O.ae m S w z zv.cells.toList:=by
       have:=GU (ae:=O.ae) (m:=m) (S:=S) (w:=w) zv
       rw[<-lX] at this;exact this
      obtain⟨out,h1,h2⟩:=PU hH ht (place:=fun i=>GR (i*s,s)) parts.toList ps z cs zv.cells jQ CB hf;refine⟨.agg out,?_,by simp only[af];exact⟨out,rfl,h2⟩⟩
      simp[execOp,ho,Instr.build,nS,run_underlying hu,qw hs,h1]
    .exact (dM hv).elim
   .exact (dM hv).elim
  .exact (dM hv).elim
 | alloc t=>simp only[aW,ho] at hv;split at hv<;>simp[bm,bad] at hv
 | box t x=>simp only[aW,ho] at hv;split at hv<;>simp[bm,bad] at hv
 | buildSlice t n parts=>
  simp only[aW,ho] at hv
  split at hv
  .split at hv
   .rename_i s z _ _
    cases hc:yG (n*s) 16777216 with
    | false=>rw[hc] at hv;exact (dM hv).elim
    | true=>
     rw[hc] at hv;simp only[yx] at hv
     split at hv
     .simp [bm] at hv
     .exact (dM hv).elim
   .exact (dM hv).elim
  .exact (dM hv).elim
 | makeMap t r=>
  cases r<;>simp only[aW,ho] at hv
  .repeat' split at hv
   all_goals simp[bm,bad] at hv
  .exact (dM hv).elim
 | makeSlice t l c=>
  simp only[aW,ho] at hv
  repeat' split at hv
  all_goals simp[bm,bad] at hv
 | insert t x k y=>
  simp only[aW,ho] at hv
  repeat' split at hv
  all_goals simp[bm,bad] at hv
 | mapUpdate t x k y=>
  simp only[aW,ho] at hv
  repeat' split at hv
  all_goals simp[bm,bad] at hv
 | store t x y=>simp only[aW,ho] at hv;split at hv<;>simp[bm,bad] at hv
 | range t x=>simp only[aW,ho] at hv;split at hv<;>simp[bm,bad] at hv
 | next x b=>cases b<;>simp[aW,ho,bm,bad] at hv
 | _=>simp[aW,ho,bm,bad] at hv
end
end
section
open Go
def gn(m:Mp)(id:Nat)(p:Pl):Mp:=fun i=>if i=id then GR p else m i
def eB{m:Mp}{id:Nat}{p:Pl}:gn m id p id=GR p:=by simp[gn]
def eX{m:Mp}{id i:Nat}{p:Pl}(h:i≠id):gn m id p i=m i:=by simp[gn,h]
section
variable {O:bE}{m:Mp}{S:Nat->Prop}{w:yo}{hp:Hp}{ct:Nat}
def dT(m m':Mp):Prop:=∀id p,m id=GR p->m' id=GR p
def dT.refl{m:Mp}:dT m m:=fun _ _ h=>h
def dT.trans{m m' Nw:Mp}(h:dT m m')(k:dT m' Nw):dT m Nw:=fun id p hp=>k id p (h id p hp)
def mh{i:Nat}(h:m i=GS){p:Pl}:dT m (gn m i p):=by
 intro id q hq;rw[eX]
 .grind
 .grind
def C6{tm:Env}{tmps:Array ym}{m':Mp}{w':yo}(hm:∀id p,m id=GR p->m' id=GR p)(hS:∀b,S b->S' b)(hw:ic S w w')(h:cg O m S w tm tmps):cg O m' S' w' tm tmps:=fun i=>n8 hm hS hw _ _ (h i)
def alloc_old{o:yaG}{b:Nat}(hb:b<w.heap.size):(w.alloc o).heap[b]? =w.heap[b]? :=RowKit.Below.heap_alloc w o b hb
def AB{m':Mp}{w':yo}{id:Nat}{o:Obj}(hm:∀id p,m id=GR p->m' id=GR p)(hS:∀b,S b->S' b)(hw:ic S w w')(hb:∀p,m id=GR p->w'.heap[p.b]? =w.heap[p.b]?)(hn:∀p,m id=GR p->S' p.b->S p.b)(h:gl O m S w id o):gl O m' S' w' id o:=by
 have rowAt:∀(cs:List AV) (b k:Nat),w'.heap[b]? =w.heap[b]? ->b9 O.ae m S w cs b k->b9 O.ae m' S' w' cs b k:=by
  intro cs
  induction cs with
  | nil=>intro b k _ _;simp only[b9]
  | cons c cs ih=>
   intro b k oQ hr;have⟨⟨u,h1,h2⟩,h3⟩:=hr;exact⟨⟨u,(OL oQ).trans h1,n8 hm hS hw _ _ h2⟩,ih b (k+1) oQ h3⟩
 cases o with
 | cells rw pu ex sz cs=>
  have⟨p,arr,t,h1,h2,h3,h4,h5,h6,h7,h8,h9,jF⟩:=h;exact⟨p,arr,t,hm _ _ h1,(hb p h1).trans h2,h3,h4,h5,h6,rowAt cs p.b p.o (hb p h1) h7,h8,fun hr hs=>h9 hr (hn p h1 hs),fun hr=>hS _ (jF hr)⟩
 | mp rw ks vs=>
  have⟨p,es,clock,h1,h2,h3,h4,h5,h6⟩:=h;exact⟨p,es,clock,hm _ _ h1,(hb p h1).trans h2,jM hm hS hw _ _ h3,jM hm hS hw _ _ h4,fun hr hs=>h5 hr (hn p h1 hs),fun hr=>hS _ (h6 hr)⟩
 | si s pos=>
  have⟨p,t,h1,h2,h3,h4⟩:=h;exact⟨p,t,hm _ _ h1,(hb p h1).trans h2,h3,fun hs=>h4 (hn p h1 hs)⟩
 | lp tm ps as_ body st pe=>
  have⟨p,l,hi,h1,h2,h3,h4,h5,h6,h7,h8⟩:=h;exact⟨p,l,hi,hm _ _ h1,(hb p h1).trans h2,fun hs=>h3 (hn p h1 hs),h4,h5,h6,C6 hm hS hw h7,h8⟩
def iU{id i:Nat}{o:Obj}:ah ((id,o)::hp) i=if id=i then GR o else ah hp i:=by
 simp only[ah]
 simp_all
def Kc(hh:aU O m S w hp ct)(g:yaG):ic S w (w.alloc g):=fun b hb=>alloc_old (hh.slt b hb)
def kP:Obj->Obj->Prop
 | .cells rw pu ex sz cs,o'=>∃cP,o'=.cells cP pu ex sz cs/\(cP=ydB->rw=ydB)
 | .mp rw ks vs,o'=>∃cP,o'=.mp cP ks vs/\(cP=ydB->rw=ydB)
 | .si s pos,o'=>o'=.si s pos
 | .lp tm ps as_ body st pe,o'=>o'=.lp tm ps as_ body st pe
def kP.refl:∀o,kP o o
 | .cells rw _ _ _ _=>⟨rw,rfl,fun h=>h⟩
 | .mp rw _ _=>⟨rw,rfl,fun h=>h⟩
 | .si _ _=>rfl
 | .lp _ _ _ _ _ _=>rfl
def kP.trans{a b c:Obj}(h:kP a b)(k:kP b c):kP a c:=by
 cases a with
 | cells rw pu ex sz cs=>
  obtain⟨r1,rfl,h1⟩:=h;obtain⟨r2,rfl,h2⟩:=k;exact⟨r2,rfl,fun h=>h1 (h2 h)⟩
 | mp rw ks vs=>
  obtain⟨r1,rfl,h1⟩:=h;obtain⟨r2,rfl,h2⟩:=k;exact⟨r2,rfl,fun h=>h1 (h2 h)⟩
 | si s pos=>simp only[kP] at h;subst h;exact k
 | lp tm ps as_ body st pe=>simp only[kP] at h;subst h;exact k
def dD(hp ap:Hp):Prop:=∀id o,ah hp id=GR o->∃o',ah ap id=GR o'/\kP o o'
def dD.refl{hp:Hp}:dD hp hp:=fun _ o h=>⟨o,h,kP.refl o⟩
def dD.trans{a b c:Hp}(h:dD a b)(k:dD b c):dD a c:=fun id o ho=>
 let ⟨o1,h1,l1⟩:=h id o ho
 let ⟨o2,h2,l2⟩:=k id o1 h1
 ⟨o2,h2,l1.trans l2⟩
def kY:Obj->Prop
 | .cells rw _ _ _ _=>rw=ydC
 | .mp rw _ _=>rw=ydC
 | _=>False
def afc{ap:Hp}(hh:aU O m S w hp ct)(hl:dD hp ap)(hd:∀id o p,ah ap id=GR o->m id=GR p->∃o',ah hp id=GR o')(jg:ct<=aQ)(aBG:∀id o,ah ap id=GR o->id<aQ):
  ∃S',aU O m S' w ap aQ/\(∀b,S b->S' b)/\∀b,S' b->S b\/eO m hp b:=by
 refine⟨fun b=>S b\/∃id p o,m id=GR p/\p.b=b/\ah ap id=GR o/\kY o,?_,fun b h=>.inl h,?_⟩
 .refine ⟨?_,fun id p h=>yF (hh.lt id p h) jg,?_,?_,hh.blt,hh.low,hh.nI,hh.ig,aBG⟩
  .intro id o' p ni hm;have⟨o,ho⟩:=hd id o' p ni hm;have⟨o'',h1,h2⟩:=hl id o ho;rw[ni] at h1;injection h1 with h1
   subst h1;have h3:=hh.obj id o p ho hm;have hS:∀b,S b->(S b\/∃id p o,m id=GR p/\p.b=b/\ah ap id=GR o/\kY o):=fun b h=>.inl h
   have fa:∀q,m id=GR q->(∃id p o,m id=GR p/\p.b=q.b/\ah ap id=GR o/\kY o)->kY o':=by
    rintro q hq ⟨j,pj,oj,Gf,hj2,hj3,hj4⟩;have⟨Nz,hj5⟩:=hd j oj pj hj3 Gf
    have:=hh.inj id j o Nz q pj ho hj5 hq Gf hj2.symm
    grind
   have aR:ic S w w:=fun _ _=>rfl
   cases o with
   | cells rw pu ex sz cs=>
    obtain⟨cP,rfl,rG⟩:=h2;have⟨q,arr,t,h1,h2,h3,h4,h5,h6,h7,h8,h9,jF⟩:=h3;refine⟨q,arr,t,h1,h2,h3,h4,h5,h6,?_,h8,?_,?_⟩
    .clear h4 h6 h8;revert h7;generalize q.o=k
     induction cs generalizing k with
     | nil=>intro _;simp only[b9]
     | cons c cs ih=>
      intro hr;simp only[b9] at hr ⊢;have⟨⟨u,g1,g2⟩,g3⟩:=hr
      exact⟨⟨u,g1,n8 (fun _ _ h=>h) hS aR _ _ g2⟩,by
       have jE:∀(cs:List AV) (b k:Nat),b9 O.ae m S w cs b k->b9 O.ae m (fun b=>S b\/∃id p o,m id=GR p/\p.b=b/\ah ap id=GR o/\kY o) w cs b k:=by
        intro cs
        induction cs with
        | nil=>intro b k _;simp only[b9]
        | cons c cs ih=>
         intro b k hr;simp only[b9] at hr ⊢;have⟨⟨u,g1,g2⟩,g3⟩:=hr;exact⟨⟨u,g1,n8 (fun _ _ h=>h) hS aR _ _ g2⟩,ih b (k+1) g3⟩
       exact jE _ _ _ g3⟩
    .rintro hr (hs | hs)
     .grind
     .have:=fa q h1 hs
      simp only[kY] at this
      grind
    .intro hr;exact .inr ⟨id,q,_,h1,rfl,ni,hr⟩
   | mp rw ks vs=>
    obtain⟨cP,rfl,rG⟩:=h2;have⟨q,es,clock,h1,h2,h3,h4,h5,h6⟩:=h3;refine⟨q,es,clock,h1,h2,jM (fun _ _ h=>h) hS aR _ _ h3,jM (fun _ _ h=>h) hS aR _ _ h4,?_,?_⟩
    .rintro hr (hs | hs)
     .grind
     .have:=fa q h1 hs
      simp only[kY] at this
      grind
    .intro hr;exact .inr ⟨id,q,_,h1,rfl,ni,hr⟩
   | si s pos=>
    simp only[kP] at h2;subst h2;refine AB (fun _ _ h=>h) hS aR (fun _ _=>rfl) (fun q hq hs=>?_) h3;rcases hs with hs | hs
    .grind
    .exact (fa q hq hs).elim
   | lp tm ps as_ body st pe=>
    simp only[kP] at h2;subst h2;refine AB (fun _ _ h=>h) hS aR (fun _ _=>rfl) (fun q hq hs=>?_) h3;rcases hs with hs | hs
    .grind
    .exact (fa q hq hs).elim
  .intro i j oi oj pi pj hi hj bM iJ e;have⟨NA,b6⟩:=hd i oi pi hi bM;have⟨Nz,ZQ⟩:=hd j oj pj hj iJ;exact hh.inj i j NA Nz pi pj b6 ZQ bM iJ e
  .rintro b (hb | ⟨id,p,o,h1,rfl,_,_⟩)
   .exact hh.slt b hb
   .exact hh.blt id p h1
 .rintro b (hb | ⟨id,p,o,h1,rfl,h3,_⟩)
  .exact .inl hb
  .have ⟨o',ni⟩:=hd id o p h3 h1;exact .inr ⟨id,o',p,ni,h1,rfl⟩
def adR{i:Nat}(hh:aU O m S w hp ct)(hi:m i=GS)(IE:i<ct){g:yaG}{p:Pl}(hb:p.b=w.heap.size)(hf:∀o,ah hp i=GR o->(gl O (gn m i p) S (w.alloc g) i o/\¬kY o)\/
   (kY o/\gl O (gn m i p) (fun b=>S b\/b=w.heap.size) (w.alloc g) i o)):
  ∃S',aU O (gn m i p) S' (w.alloc g) hp ct/\(∀b,S b->S' b)/\∀b,S' b->S b\/b=w.heap.size:=by
 have eZ:(w.alloc g).heap.size=w.heap.size+1:=by simp
 have aY:O.w0.heap.size<=w.heap.size:=hh.ig;have gen:∀S':Nat->Prop,(∀b,S b->S' b)->(∀b,S' b->S b\/b=w.heap.size)->(∀o,ah hp i=GR o->gl O (gn m i p) S' (w.alloc g) i o)->aU O (gn m i p) S' (w.alloc g) hp ct:=by
  intro S' h1 h2 h3;have NB:∀id q,m id=GR q->¬q.b=w.heap.size:=fun id q hq=>by have:=hh.blt id q hq;lia
  refine⟨?_,?_,?_,?_,?_,?_,?_,?_,hh.aG⟩
  .intro id o q ho hm;by_cases hc:id=i
   .grind
   .rw [eX hc] at hm;refine AB (mh hi) h1 (Kc hh g) (fun q' bR=>alloc_old (hh.blt id q' bR)) (fun q' bR hs=>?_) (hh.obj id o q ho hm)
    grind
  .intro id q hm;by_cases hc:id=i
   .grind
   .rw [eX hc] at hm;exact hh.lt id q hm
  .intro a b oa ob pa pb ha aS Gg Cf e;by_cases ca:a=i
   .by_cases cb:b=i
    .grind
    .subst ca;rw[eB] at Gg;rw[eX cb] at Cf
     grind
   .rw [eX ca] at Gg;by_cases cb:b=i
    .subst cb;rw[eB] at Cf
     grind
    .rw [eX cb] at Cf;exact hh.inj a b oa ob pa pb ha aS Gg Cf e
  .intro b hs;rcases h2 b hs with h | h
   .have:=hh.slt b h;lia
   .lia
  .intro id q hm;by_cases hc:id=i
   .subst hc;rw[eB] at hm
    grind
   .rw [eX hc] at hm
    have:=hh.blt id q hm
    lia
  .intro id q hm;by_cases hc:id=i
   .subst hc;rw[eB] at hm
    grind
   .rw [eX hc] at hm;exact hh.low id q hm
  .intro b oQ;exact (alloc_old (by lia)).trans (hh.nI b oQ)
  .lia
 cases ho:ah hp i with
 | none=>exact⟨S,gen S (fun _ h=>h) (fun _ h=>.inl h) (fun o h=>by rw[ho] at h;cases h),fun _ h=>h,fun _ h=>.inl h⟩
 | some o=>
  rcases hf o ho with ⟨h1,_⟩ | ⟨_,h1⟩
  .exact ⟨S,gen S (fun _ h=>h) (fun _ h=>.inl h) (fun o' h=>by rw[ho] at h;injection h with h;subst h;exact h1),fun _ h=>h,fun _ h=>.inl h⟩
  .exact ⟨_,gen (fun b=>S b\/b=w.heap.size) (fun _ h=>.inl h) (fun _ h=>h) (fun o' h=>by rw[ho] at h;injection h with h;subst h;exact h1),fun _ h=>.inl h,fun _ h=>h⟩
def abM{id:Nat}{o o':Obj}{p:Pl}(hl:kP o o')(hm:m id=GR p)(h:gl O m S w id o)(hn:¬kY o):
  (gl O m S w id o'/\¬kY o')\/(kY o'/\gl O m (fun b=>S b\/b=p.b) w id o'):=by
 have hS:∀b,S b->(S b\/b=p.b):=fun _ h=>.inl h
 have aR:ic S w w:=fun _ _=>rfl
 cases o with
 | cells rw pu ex sz cs=>
  obtain⟨cP,rfl,rG⟩:=hl
  cases cP with
  | true=>
   grind
  | false=>
   refine .inr ⟨rfl,?_⟩;have⟨q,arr,t,h1,h2,h3,h4,h5,h6,h7,h8,h9,jF⟩:=h;rw[hm] at h1;injection h1 with h1
   subst h1;have jE:∀(cs:List AV) (b k:Nat),b9 O.ae m S w cs b k->b9 O.ae m (fun b=>S b\/b=p.b) w cs b k:=by
    intro cs
    induction cs with
    | nil=>intro b k _;simp only[b9]
    | cons c cs ih=>
     intro b k hr;have⟨⟨u,g1,g2⟩,g3⟩:=hr;exact⟨⟨u,g1,n8 (fun _ _ h=>h) hS aR _ _ g2⟩,ih b (k+1) g3⟩
   exact⟨p,arr,t,hm,h2,h3,h4,h5,h6,jE _ _ _ h7,h8,by simp,fun _=>.inr rfl⟩
 | mp rw ks vs=>
  obtain⟨cP,rfl,rG⟩:=hl
  cases cP with
  | true=>
   grind
  | false=>
   refine .inr ⟨rfl,?_⟩;have⟨q,es,clock,h1,h2,h3,h4,h5,h6⟩:=h;rw[hm] at h1;injection h1 with h1
   subst h1;exact⟨p,es,clock,hm,h2,jM (fun _ _ h=>h) hS aR _ _ h3,jM (fun _ _ h=>h) hS aR _ _ h4,by simp,fun _=>.inr rfl⟩
 | si s pos=>simp only[kP] at hl;subst hl;exact .inl ⟨h,hn⟩
 | lp tm ps as_ body st pe=>simp only[kP] at hl;subst hl;exact .inl ⟨h,hn⟩
end
end
section
open Go
section
variable {v:AV}{arr:Array ym}{cs:List AV}{sz:Nat}{b:Obj}
section
variable {O:bE}{H:Hint}{m:Mp}{S:Nat->Prop}{w:yo}{tm:Env}{a:Act}{hp:Hp}{ct cq:Nat}
def Vb{ae:Nat->Nat}{b:Nat}{arr:Array ym}{t:yB}{fr:Nat×Nat}(hb:w.heap[b]? =GR (.cells arr t fr)):∀(cs:List AV) (us:List ym) (o:Nat),
  aA ae m S w cs us->(∀(j:Nat) (u:ym),us[j]? =GR u->arr[o+j]? =GR u)->b9 ae m S w cs b o
 | [],us,o,_,_=>by simp only[b9]
 | c::cs,us,o,h,hu=>by
  simp only[aA] at h;obtain⟨u,r,rfl,h2,h3⟩:=h;simp only[b9];refine⟨⟨u,?_,h2⟩,Vb hb cs r (o+1) h3 (fun j v hv=>?_)⟩
  .have:=hu 0 u (by simp)
   simpa[World.cell?,hb] using this
  .have:=hu (j+1) v (by simpa using hv)
   rw[show o+1+j=o+(j+1) by lia];exact this
def ata(hh:aU O m S w hp cq){i:Nat}{t:yB}{us:List ym}{pu ex:Bool}(hr:aA O.ae m S w cs us)(hu:∀(j:Nat) (u:ym),us[j]? =GR u->arr[j]? =GR u)(hl:cs.length<=arr.size)(hex:ex=ydB->cs.length=arr.size)(jD:pu=ydB->aF cs=ydB)(m':Mp)(hm:dT m m')(hi:m' i=GR ⟨w.heap.size,0,arr.size,sz⟩):gl O m' S (w.alloc (.cells arr t)) i (.cells ydB pu ex sz cs):=by
 refine⟨⟨w.heap.size,0,arr.size,sz⟩,arr,t,hi,heap_alloc_new w _,rfl,hl,by simp,hex,?_,jD,?_,by simp⟩
 .exact Vb (heap_alloc_new w _) cs us 0 (jM hm (fun _ h=>h) (Kc hh _) _ _ hr) (by simpa using hu)
 .intro _ hS
  have:=hh.slt _ hS
  simp at this
def FA(O:bE)(m:Mp)(S:Nat->Prop)(w:yo)(a:Act)(ct:Nat)(o:xa)(v:AV)(b:Obj):Prop:=
 ∃u g p,(execOp a.eval o).run O.P w=.ok (.value u) (w.alloc g)/\p.b=w.heap.size/\¬kY b/\
  ∀m',dT m m'->m' ct=GR p->gl O m' S (w.alloc g) ct b/\af O.ae m' S (w.alloc g) v u
def Vc{o:xa}{t:yB}{us:List ym}{pu ex:Bool}{u:ym}(hh:aU O m S w hp cq)(he:(execOp a.eval o).run O.P w=.ok (.value u) (w.alloc (.cells arr t)))(hr:aA O.ae m S w cs us)(hu:∀(j:Nat) (u:ym),us[j]? =GR u->arr[j]? =GR u)(hl:cs.length<=arr.size)(hex:ex=ydB->cs.length=arr.size)(jD:pu=ydB->aF cs=ydB)(hv:∀m':Mp,m' ct=GR ⟨w.heap.size,0,arr.size,sz⟩->af O.ae m' S (w.alloc (.cells arr t)) v u):FA O m S w a ct o v (.cells ydB pu ex sz cs):=
 ⟨u,_,⟨w.heap.size,0,arr.size,sz⟩,he,rfl,by simp[kY],fun m' hm hi=>⟨ata hh hr hu hl hex jD m' hm hi,hv m' hi⟩⟩
def adS{o:xa}{t:yB}{x:ym}{vx:AV}(hh:aU O m S w hp cq)(he:(execOp a.eval o).run O.P w=.ok (.value (.pointer (GR ⟨w.heap.size,0,GS⟩))) (w.alloc (.cells x.cells t)))(hx:aA O.ae m S w (cellsOf vx) x.cells.toList)(hv:(bif yu (cellsOf vx).length sz&&cf (cellsOf vx) then GR (AV.ptr ct 0,Obj.cells ydB (aF (cellsOf vx)) ydB sz (cellsOf vx)) else GS)=GR (v,b)):FA O m S w a ct o v b:=by
 cases hc:(yu (cellsOf vx).length sz&&cf (cellsOf vx)) with
 | false=>rw[hc] at hv;cases hv
 | true=>
  rw[hc] at hv;obtain⟨rfl,rfl⟩:=hv;have hlen:=jV _ _ hx;refine Vc hh he hx (fun j u hj=>by simpa using hj) (by rw[<-hlen];simp) (fun _=>by rw[<-hlen];simp) (fun h=>h) (fun m' hi=>?_)
  simp only[af];exact⟨_,hi,by simp⟩
def aqI{o:xa}{t:yB}{r:Option xz}(hh:aU O m S w hp cq)(ho:o.op=.makeMap t r)(hr:r=GS):FA O m S w a ct o (.map ct) (.mp ydB [] []):=by
 subst hr;refine⟨.map (GR w.heap.size),.map #[] 0,⟨w.heap.size,0,0,0⟩,by simp[execOp,ho,Instr.makeMap],rfl,by simp[kY],fun m' _ hi=>⟨?_,?_⟩⟩
 .refine ⟨_,#[],0,hi,heap_alloc_new w _,by simp[aA],by simp[aA],?_,by simp⟩;intro _ hS
  have:=hh.slt _ hS
  simp at this
 .simp only [af];exact⟨_,hi,rfl⟩
def aoT{o:xa}{t:yB}{x:xz}{s:List Nat}(hh:aU O m S w hp cq)(ho:o.op=.range t x)(hu:O.P.underlying t=GR .string)(hx:af O.ae m S w (.str s) (a.eval x)):
  FA O m S w a ct o (.it ct) (.si s 0):=by
 obtain⟨b,e,rfl⟩:=hx;refine⟨.pointer (GR ⟨w.heap.size,0,GS⟩),.stringIter b 0,⟨w.heap.size,0,0,0⟩,by simp[execOp,ho,Instr.range,run_underlying hu,e],rfl,by simp[kY],fun m' _ hi=>⟨?_,?_⟩⟩
 .refine ⟨_,b,hi,heap_alloc_new w _,rfl,?_⟩;intro hS
  have:=hh.slt _ hS
  simp at this
 .simp only [af];exact⟨_,hi,rfl⟩
end
def aoU(zero:Array ym):(wq zero.size).map (fun j=>zero[j]!)=zero.toList:=by
 apply List.ext_getElem
 .simp
 .grind
def aca(zero:Array ym):∀n:Nat,(wq (n*zero.size)).map (fun i=>zero[i%zero.size]!)=(yj n zero.toList).flatten
 | 0=>by simp
 | n+1=>by
  rw[xS,tM,List.range_add,List.map_append,aca zero n,List.replicate_succ',ybq]
  congr 1
  simp only[List.map_map,tu,List.flatten_nil,List.append_nil];rw[<-aoU zero];apply List.map_congr_left;intro j hj;simp at hj;simp[Function.comp,xd n,Nat.mod_eq_of_lt hj]
def VF{ae:Nat->Nat}{m:Mp}{S:Nat->Prop}{w:yo}{cs:List AV}{us:List ym}(h:aA ae m S w cs us):∀n,aA ae m S w (yj n cs).flatten (yj n us).flatten
 | 0=>by simp[aA]
 | n+1=>by rw[wG,wG,tu,tu];exact nZ h (VF h n)
section
variable {O:bE}{H:Hint}{m:Mp}{S:Nat->Prop}{w:yo}{tm:Env}{a:Act}{hp:Hp}{ct cq:Nat}
def acY(zero:Array ym)(n:Nat):(Array.map (fun i=>zero[i%zero.size]!) (tU (n*zero.size))).toList=(yj n zero.toList).flatten:=by
 rw[<-aca zero n]
 simp
def adT(tm:Env):∀(ps:List (Nat×Nat×X)) (zero cs:List AV),fill tm zero ps=GR cs->cs.length=zero.length
 | [],zero,cs,h=>by simp only[fill,yc] at h;rw[h]
 | (o,sz,x)::r,zero,cs,h=>by
  simp only[fill] at h
  cases hc:(yu (cellsOf (az tm x)).length sz&&yG (o+sz) zero.length&&cf (cellsOf (az tm x))) with
  | false=>rw[hc] at h;cases h
  | true=>
   rw[hc] at h;simp only[yf] at hc;have h1:=yi hc.1.1;have h2:=yA hc.1.2;rw[adT tm r _ _ h];simp only[over,yO,yU,wP]
   lia
def Pu{α:Type}(l:List α):∀n,(yj n l).flatten.length=n*l.length
 | 0=>by simp
 | n+1=>by simp[wG,Pu l n,xS,Nat.add_comm]
def aoV{o:xa}{t e:yB}{n s:Nat}{z:AV}{parts:Array (Nat×xz)}{ps:List (Nat×Nat×X)}(hH:fW O H)(ht:cg O m S w tm a.tmps)(hh:aU O m S w hp cq)(ho:o.op=.buildSlice t n parts)(hu:O.P.underlying t=GR (.slice e))(hs:cF O.P e=GR s)(hz:pN O.P e=GR z)(hn:n*s<=16777216)(jQ:partsOf H (fun i=>GR (i*s,s)) parts.toList=GR ps)(hv:cR tm hp ct (.km n s (yj n (cellsOf z)).flatten ps)=GR (v,b)):FA O m S w a ct o v b:=by
 simp only[cR] at hv
 cases hf:fill tm (yj n (cellsOf z)).flatten ps with
 | none=>simp[hf] at hv
 | some cs=>
  simp only[hf] at hv
  cases hc:yu cs.length (n*s) with
  | false=>rw[hc] at hv;cases hv
  | true=>
   rw[hc] at hv;simp only[yx,yc,yr] at hv;obtain⟨rfl,rfl⟩:=hv;have hlen:=yi hc;obtain⟨zv,nS,rfl⟩:=Ha (w:=w) hz;have CB:aA O.ae m S w (cellsOf (fE zv)) zv.cells.toList:=GU zv;have CC:=jV _ _ CB;have nj:=adT tm ps _ _ hf;rw[Pu] at nj;have IF:n*s=n*zv.cells.size:=by
    rw[<-hlen,nj,<-CC];simp
   have key:∃zr:Array ym,(n*s=0->zr=#[])/\(n*s≠0->zr=zv.cells)/\aA O.ae m S w (yj n (cellsOf (fE zv))).flatten ((tU (n*s)).map (fun x=>zr[x%zr.size]!)).toList:=by
    by_cases h0:n*s=0
    .refine ⟨#[],fun _=>rfl,fun h=>(h h0).elim,?_⟩
     have:(yj n (cellsOf (fE zv))).flatten=[]:=by
      apply yE;rw[Pu,<-CC];simp only[vK]
      lia
     rw[this];simp[aA,h0]
    .refine ⟨zv.cells,fun h=>(h0 h).elim,fun _=>rfl,?_⟩;rw[IF,acY];exact VF CB n
   have⟨zr,Bo,gC,jG⟩:=key;have⟨out,h1,h2⟩:=PU hH ht (place:=fun i=>GR (i*s,s)) parts.toList ps _ cs _ jQ jG hf;have rF:=jV _ _ h2
   refine Vc (arr:=out) (t:=e) (us:=out.toList) hh ?_ h2 (fun j u hj=>by simpa using hj) (by rw[<-rF];simp) (fun _=>by rw[<-rF];simp) (fun h=>h) (u:=.slice (GR ⟨w.heap.size,0,GS⟩) n n) ?_
   .have ef:¬(n*s>2^24):=by lia
    by_cases h0:n*s=0
    .have:=Bo h0
     subst this;simp only[h0] at h1;simp[execOp,ho,Instr.buildSlice,run_underlying hu,qw hs,h0,newRow] at h1 ⊢;simp[h1]
    .have:=gC h0
     subst this;simp[execOp,ho,Instr.buildSlice,run_underlying hu,qw hs,h0,ef,nS,newRow] at h1 ⊢;simp[h1]
   .intro m' hi;simp only[af];refine⟨_,n,hi,by simp,yz _,?_⟩;simp only[yd];rw[<-hlen,<-rF];simp
def GV:∀{a b:List AV},aF a=ydB->aF b=ydB->aF (a++b)=ydB
 | [],_,_,h=>h
 | c::r,b,h,k=>by
  simp only[aF,yf] at h;simp only[yI,aF,yf];exact⟨h.1,GV h.2 k⟩
def acZ{z:List AV}(h:aF z=ydB):∀n,aF (yj n z).flatten=ydB
 | 0=>by simp[aF]
 | n+1=>by rw[wG,tu];exact GV h (acZ h n)
def aqJ{o:xa}{t e:yB}{s:Nat}{z:AV}{l c:xz}(hH:fW O H)(ht:cg O m S w tm a.tmps)(hh:aU O m S w hp cq)(ho:o.op=.makeSlice t l c)(hu:O.P.underlying t=GR (.slice e))(hs:cF O.P e=GR s)(hb:D5 O.P e=GR by')(hz:pN O.P e=GR z)(hv:cR tm hp ct (.oP s by' (cellsOf z) (aO H l) (aO H c))=GR (v,b)):FA O m S w a ct o v b:=by
 simp only[cR] at hv
 cases hl:bY (az tm (aO H l)) with
 | none=>simp[hl] at hv
 | some ln=>
  cases hc:bY (az tm (aO H c)) with
  | none=>simp[hl,hc] at hv
  | some cn=>
   simp only[hl,hc] at hv
   cases hk:(yG ln cn&&(yG cn room&&(yG (cn*by') room&&(yu (cellsOf z).length s&&cf (cellsOf z))))) with
   | false=>rw[hk] at hv;cases hv
   | true=>
    rw[hk] at hv;simp only[yx,yc,yr] at hv;obtain⟨rfl,rfl⟩:=hv;simp only[yf] at hk;have h1:=yA hk.1;have h2:=yA hk.2.1;have h3:=yA hk.2.2.1;have h4:=yi hk.2.2.2.1;simp only[room] at h2 h3;have⟨kl,el⟩:=BR (cl hH ht l) hl;have⟨kc,ec⟩:=BR (cl hH ht c) hc;obtain⟨zv,nS,rfl⟩:=Ha (w:=w) hz;have CB:aA O.ae m S w (cellsOf (fE zv)) zv.cells.toList:=GU zv;have CC:=jV _ _ CB;have NC:zv.cells.size=s:=by rw[<-h4,<-CC];simp
    have wrapN:∀k:Nat,k<=1099511627776->IntKind.i64.wrap (k:Int)=k:=fun k hk=>IntWalk.i64_in _ (by lia)
    obtain⟨ti,CD,eZ,ZR⟩:∃ti,O.P.info? e=GR ti/\ti.size=s/\ti.bytes=by':=by
     unfold cF at hs;unfold D5 at hb
     cases hi:O.P.info? e with
     | none=>simp[hi] at hs
     | some ti=>simp only[hi,yc] at hs hb;exact⟨ti,rfl,hs,hb⟩
    have FM:((tU (cn*s)).map (zv.cells[·%zv.cells.size]!)).toList=(yj ln zv.cells.toList).flatten++(yj (cn-ln) zv.cells.toList).flatten:=by
     rw[<-NC,acY,<-ybq,List.replicate_append_replicate]
     grind
    have eF:(yj ln (cellsOf (fE zv))).flatten.length=ln*s:=by rw[Pu,h4]
    have hmul:ln*s<=cn*s:=yT _ h1
    refine Vc (arr:=(tU (cn*s)).map (zv.cells[·%zv.cells.size]!)) (t:=e) (us:=(yj ln zv.cells.toList).flatten) hh (u:=.slice (GR ⟨w.heap.size,0,GS⟩) ln cn) ?_
     (VF CB ln) ?_ ?_ ?_ (fun h=>?_) ?_
    .have aIU:by'*cn<=1099511627776:=by rw[xd];exact h3
     have Ai:((by'*cn:Nat):Int)<=1099511627776:=by lia
     rw[Int.natCast_mul] at Ai;have IG:(ln:Int)<=(cn:Int):=by lia
     have g1:¬(281474976710656<(by':Int)*(cn:Int)):=by lia
     have g2:¬(((ln:Int)<0)):=by lia
     have g3:¬(((cn:Int)<0)):=by lia
     have g4:¬((ln:Int)>(cn:Int)):=by lia
     by_cases h0:cn*s=0
     .simp [execOp,ho,Instr.makeSlice,run_underlying hu,el,ec,asInt,asIntOf,typeInfo,CD,ZR,wrapN ln (by lia),wrapN cn h2,g1,g2,g3,g4,qw hs,h0,newRow,askRoom,roomBytes]
      grind
     .simp [execOp,ho,Instr.makeSlice,run_underlying hu,el,ec,asInt,asIntOf,typeInfo,CD,ZR,wrapN ln (by lia),wrapN cn h2,g1,g2,g3,g4,qw hs,h0,newRow,askRoom,roomBytes,nS]
    .intro j u hj
     have:((tU (cn*s)).map (zv.cells[·%zv.cells.size]!)).toList[j]? =GR u:=by
      grind
     grind
    .grind
    .simp_all
    .exact acZ h ln
    .intro m' hi;simp only[af];refine⟨_,cn,hi,by simp,h1,?_⟩
     simp
def afd{o:xa}{k:Nat}(hH:fW O H)(ht:cg O m S w tm a.tmps)(hh:aU O m S w hp cq)(hv:cR tm hp ct (aW O.P H k o)=GR (v,b)):FA O m S w a ct o v b:=by
 cases ho:o.op with
 | call c=>
  have⟨callee,args,ts⟩:=c;simp only[aW,ho] at hv
  repeat' split at hv
  all_goals first
   | (simp[cR,bad] at hv;done)
   | (revert hv;generalize yu _ _=bb;intro hv;cases bb<;>simp[cR,bad] at hv)
 | alloc t=>
  simp only[aW,ho] at hv
  split at hv
  .rename_i s z hs hz;obtain⟨zv,nS,rfl⟩:=Ha (w:=w) hz
   exact adS (x:=zv) (t:=t) hh (by simp[execOp,ho,Instr.alloc,nS,newVar,newRow]) (GU zv) (by simpa only[cR,az] using hv)
  .simp [cR,bad] at hv
 | box t x=>
  simp only[aW,ho] at hv
  split at hv
  .rename_i s hs;simp only[cR] at hv
   cases hc:(yu (cellsOf (az tm (aO H x))).length s&&cf (cellsOf (az tm (aO H x)))) with
   | false=>rw[hc] at hv;cases hv
   | true=>
    have h1:=hc;simp only[yf] at h1
    exact adS (x:=a.eval x) (t:=t) hh (by simp[execOp,ho,Instr.box,newVar,newRow]) (U9 (cl hH ht x) h1.2) hv
  .simp [cR,bad] at hv
 | buildSlice t n parts=>
  simp only[aW,ho] at hv
  split at hv
  .rename_i e hu
   split at hv
   .rename_i s z hs hz
    cases hc:yG (n*s) 16777216 with
    | false=>rw[hc] at hv;simp[cR,bad] at hv
    | true=>
     rw[hc] at hv;simp only[yx] at hv
     split at hv
     .rename_i ps jQ;exact aoV hH ht hh ho hu hs hz (yA hc) jQ hv
     .simp [cR,bad] at hv
   .simp [cR,bad] at hv
  .simp [cR,bad] at hv
 | makeSlice t l c=>
  simp only[aW,ho] at hv
  split at hv
  .rename_i e hu
   split at hv
   .rename_i s by' z hs hb hz
    exact aqJ hH ht hh ho hu hs hb hz hv
   .simp [cR,bad] at hv
  .simp [cR,bad] at hv
 | makeMap t r=>
  cases r with
  | some x=>simp[aW,ho,cR,bad] at hv
  | none=>
   simp only[aW,ho] at hv
   repeat' split at hv
   all_goals first
    | (simp[cR,bad] at hv;done)
    | (
      simp only[cR,yc,yr] at hv;obtain⟨rfl,rfl⟩:=hv
      exact aqI hh ho rfl)
 | range t x=>
  simp only[aW,ho] at hv
  split at hv
  .rename_i hu;simp only[cR] at hv;have rx:=cl hH ht x;cases hx:az tm (aO H x)<;>rw[hx] at hv rx<;>simp only[reduceCtorEq] at hv
   simp only[yc,yr] at hv;obtain⟨rfl,rfl⟩:=hv;exact aoT hh ho hu rx
  .simp [cR,bad] at hv
 | next x b=>cases b<;>simp[aW,ho,cR,bad] at hv
 | binOp op t x y ty=>
  cases op<;>simp only[aW,ho,sr,zL] at hv
  case eql=>
        repeat' split at hv
        all_goals first
         | (simp[cR,bad] at hv;done)
         | (cases hb:(O.P.stoodInHeld t||O.P.eqGuardType O.P.depth t)<;>rw[hb] at hv<;>simp[cR,bad] at hv)
  case neq=>
        repeat' split at hv
        all_goals first
         | (simp[cR,bad] at hv;done)
         | (cases hb:(O.P.stoodInHeld t||O.P.eqGuardType O.P.depth t)<;>rw[hb] at hv<;>simp[cR,bad] at hv)
  all_goals simp[cR] at hv
 | _=>
  simp only[aW,ho] at hv
  (repeat' split at hv)
  all_goals first
   | contradiction
   | (simp[cR,bad] at hv;done)
end
end
end
section
open Go
section
variable {hp ap:Hp}{cs vs dS:List AV}
def AD{id i:Nat}{o:Obj}:ah (aJ hp id o) i=if id=i then (if (ah hp id).isSome then GR o else GS) else ah hp i:=by
 induction hp with
 | nil=>simp[aJ,ah]
 | cons x r ih=>
  have⟨j,q⟩:=x;simp only[aJ];by_cases hj:j=id
  .subst hj;simp only[wL,yx,ah];by_cases hi:j=i
   .simp_all
   .have:yu j i=ydC:=by
     cases hq:yu j i with
     | false=>rfl
     | true=>exact absurd (yi hq) hi
    grind
  .have hb:yu j id=ydC:=by
    cases hq:yu j id with
    | false=>rfl
    | true=>exact absurd (yi hq) hj
   simp only[hb,yS];rw[show ah ((j,q)::aJ r id o) i=bif yu j i then GR q else ah (aJ r id o) i from rfl,ih];by_cases hi:j=i
   .subst hi
    have:¬id=j:=fun h=>hj h.symm
    simp[wL,this,ah]
   .have Ai:yu j i=ydC:=by
     cases hq:yu j i with
     | false=>rfl
     | true=>exact absurd (yi hq) hi
    simp[Ai,ah,hb]
def mj(hp ap:Hp):Prop:=∀id,(ah ap id).isSome=(ah hp id).isSome
def mj.refl:mj hp hp:=fun _=>rfl
def mj.trans{a b c:Hp}(h:mj a b)(k:mj b c):mj a c:=fun id=>(k id).trans (h id)
def V9{id:Nat}{o o':Obj}(h:ah hp id=GR o)(hl:kP o o'):dD hp (aJ hp id o')/\mj hp (aJ hp id o'):=by
 constructor
 .intro i q hq;rw[AD];by_cases hi:id=i
  .grind
  .exact ⟨q,by simp[hi,hq],kP.refl q⟩
 .intro i;rw[AD]
  grind
def ac0{H:Hp}{id:Nat}{pu ex:Bool}(hl:dD hp H)(h:ah hp id=GR (.cells ydC pu ex sz cs)):ah H id=GR (.cells ydC pu ex sz cs):=by
 obtain⟨o',h1,cP,rfl,h2⟩:=hl id _ h
 cases cP with
 | false=>exact h1
 | true=>exact absurd (h2 rfl) (by simp)
section
variable {O:bE}
def azN(O:bE)(m:Mp)(S:Nat->Prop)(w:yo)(p:Pl)(ex:Bool)(sz:Nat)(cs:List AV):Prop:=
 p.z=sz/\cs.length<=p.e/\(ex=ydB->cs.length=p.e)/\S p.b/\aF cs=ydB/\b9 O.ae m S w cs p.b p.o
def Yb(O:bE)(ap:Hp)(v v':AV):Prop:=∀H m S w ct,dD ap H->aU O m S w H ct->(∀u,af O.ae m S w v u->af O.ae m S w v' u)/\aX v'=ydB
def aiD(O:bE)(ap:Hp)(vs dS:List AV):Prop:=∀H m S w ct,dD ap H->aU O m S w H ct->(∀us,aA O.ae m S w vs us->aA O.ae m S w dS us)/\aF dS=ydB
def aBH(O:bE)(ap:Hp)(id:Nat)(ex:Bool)(sz:Nat)(cs:List AV):Prop:=∀H m S w ct,dD ap H->aU O m S w H ct->∀p,m id=GR p->azN O m S w p ex sz cs
def G3{ae:Nat->Nat}{m:Mp}{S:Nat->Prop}{w:yo}{b:Nat}:∀(cs:List AV) (us:List ym) (o:Nat),aA ae m S w cs us->
  (∀(j:Nat) (u:ym),us[j]? =GR u->w.cell? ⟨b,o+j,GS⟩=GR u)->b9 ae m S w cs b o
 | [],us,o,_,_=>by simp only[b9]
 | c::cs,us,o,h,hu=>by
  obtain⟨u,r,rfl,h2,h3⟩:=h;refine⟨⟨u,by simpa using hu 0 u (by simp),h2⟩,G3 cs r (o+1) h3 (fun j v hv=>?_)⟩;rw[show o+1+j=o+(j+1) by lia]
  simp_all
def azO{m:Mp}{w:yo}{dJ:List AV}(h:∀us,aA O.ae m S w cs us->aA O.ae m S w dJ us){b o:Nat}(hr:b9 O.ae m S w cs b o):b9 O.ae m S w dJ b o:=by
 have⟨us,h1,_,h3⟩:=BK cs b o hr;exact G3 dJ us o (h us h1) h3
def EL:∀(k:Nat) {cs:List AV},aF cs=ydB->aF (cs.take k)=ydB
 | 0,_,_=>by simp[aF]
 | k+1,[],_=>by simp[aF]
 | k+1,c::cs,h=>by
  simp only[aF,yf,wI] at h ⊢;exact⟨h.1,EL k h.2⟩
def aqK:∀{n:Nat} {hp:Hp},cD n hp vs=GR (dS,ap)->dS.length=vs.length:=by
 intro n
 induction n generalizing vs dS ap with
 | zero=>intro hp h;simp[cD] at h
 | succ n ih=>
  intro hp h
  cases vs with
  | nil=>simp only[cD,yc,yr] at h;rw[<-h.1]
  | cons v r=>
   simp only[cD] at h
   cases h1:freeze n hp v with
   | none=>simp[h1] at h
   | some q=>
    have⟨v',aZ⟩:=q;simp only[h1] at h
    cases h2:cD n aZ r with
    | none=>simp[h2] at h
    | some q2=>
     grind
def acb:∀n:Nat,
  (∀hp v v' ap,freeze n hp v=GR (v',ap)->dD hp ap/\mj hp ap/\Yb O ap v v')/\
  (∀hp id ex sz cs ap,zF n hp id=GR (ex,sz,cs,ap)->dD hp ap/\mj hp ap/\aBH O ap id ex sz cs)/\
  (∀hp vs dS ap,cD n hp vs=GR (dS,ap)->dD hp ap/\mj hp ap/\aiD O ap vs dS):=by
 intro n
 induction n with
 | zero=>refine⟨?_,?_,?_⟩<;>intros<;>simp_all[freeze,zF,cD]
 | succ n ih=>
  have⟨ihV,ihB,II⟩:=ih;refine⟨?_,?_,?_⟩
  .intro hp v v' ap h;have plain:∀{v v':AV} {hp ap:Hp},(bif aX v then GR (v,hp) else GS)=GR (v',ap)->dD hp ap/\mj hp ap/\Yb O ap v v':=by
    intro v v' hp ap h
    cases hc:aX v with
    | false=>rw[hc] at h;cases h
    | true=>
     rw[hc] at h;simp only[yx,yc,yr] at h;obtain⟨rfl,rfl⟩:=h;exact⟨dD.refl,mj.refl,fun _ _ _ _ _ _ _=>⟨fun _ h=>h,hc⟩⟩
   cases v<;>simp only[freeze] at h<;>first | exact plain h | skip
   case ay id o k=>
    cases hb:zF n hp id with
    | none=>simp[hb] at h
    | some q=>
     have⟨ex,sz,cs,aZ⟩:=q;simp only[hb] at h
     cases hc:yG (o+k*sz) cs.length with
     | false=>rw[hc] at h;cases h
     | true=>
      rw[hc] at h;simp only[yx,yc,yr] at h;obtain⟨rfl,rfl⟩:=h;have hle:=yA hc;have⟨h1,h2,h3⟩:=ihB _ _ _ _ _ _ hb;refine⟨h1,h2,fun H m S w ct hl hh=>⟨fun u hu=>?_,by simp only[aX]⟩⟩;simp only[af] at hu ⊢;obtain⟨p,c,hm,rfl,CE,Tj⟩:=hu;have⟨g1,g2,g3,g4,g5,g6⟩:=h3 H m S w ct hl hh p hm;refine .inl ⟨p.b,p.o+o,c,rfl,CE,?_,.inr g4,EL _ (C4 _ _ g5),C3 _ _ _ _ (AA _ _ _ _ g6)⟩;intro hx;simp only[yf] at hx;have e1:=yi hx.2;have e2:0<sz:=by
       simp_all
      have e3:=g3 hx.1.1;rw[g1] at Tj
      have:c*sz=k*sz:=by lia
      exact Nat.eq_of_mul_eq_mul_right e2 this
   case ptr id o=>
    cases hb:zF n hp id with
    | none=>simp[hb] at h
    | some q=>
     have⟨ex,sz,cs,aZ⟩:=q;simp only[hb,yc,yr] at h;obtain⟨rfl,rfl⟩:=h;have⟨h1,h2,h3⟩:=ihB _ _ _ _ _ _ hb;refine⟨h1,h2,fun H m S w ct hl hh=>⟨fun u hu=>?_,by simp only[aX]⟩⟩;simp only[af] at hu ⊢;obtain⟨p,hm,rfl⟩:=hu;have⟨g1,g2,g3,g4,g5,g6⟩:=h3 H m S w ct hl hh p hm;exact⟨p.b,p.o+o,rfl,.inr g4,C4 _ _ g5,AA _ _ _ _ g6⟩
   case map id=>
    cases hg:ah hp id with
    | none=>simp[hg] at h
    | some ob=>
     cases ob<;>simp only[hg,reduceCtorEq] at h
     rename_i rw ks vs
     cases hc:(aF ks&&aF vs) with
     | false=>rw[hc] at h;cases h
     | true=>
      rw[hc] at h;simp only[yx,yc,yr] at h;obtain⟨rfl,rfl⟩:=h;simp only[yf] at hc;have⟨h1,h2⟩:=V9 hg (o':=.mp ydC ks vs) ⟨ydC,rfl,by simp⟩;refine⟨h1,h2,fun H m S w ct hl hh=>⟨fun u hu=>?_,by simp only[aX]⟩⟩;simp only[af] at hu ⊢;obtain⟨p,hm,rfl⟩:=hu;have hq:ah (aJ hp id (.mp ydC ks vs)) id=GR (.mp ydC ks vs):=by rw[AD];simp[hg]
      obtain⟨o',h3,cP,rfl,h4⟩:=hl id _ hq;have rG:cP=ydC:=by cases cP with | false=>rfl | true=>exact absurd (h4 rfl) (by simp)
      subst rG;have⟨p',es,clock,g1,g2,g3,g4,g5,g6⟩:=hh.obj id _ _ h3 hm;rw[hm] at g1;injection g1 with g1
      subst g1;exact⟨p.b,es,clock,rfl,g6 rfl,hc.1,hc.2,g2,g3,g4⟩
   case fn f first cap=>
    cases f with
    | y l=>simp only[aX,yS,reduceCtorEq] at h
    | f g=>
     simp only at h
     cases h1:cD n hp first with
     | none=>simp[h1] at h
     | some q=>
      have⟨af8,aZ⟩:=q;simp only[h1] at h
      cases h2:cD n aZ cap with
      | none=>simp[h2] at h
      | some q2=>
       have⟨Rk,jB⟩:=q2;simp only[h2,yc,yr] at h;obtain⟨rfl,rfl⟩:=h;have⟨a1,a2,a3⟩:=II _ _ _ _ h1;have⟨b1,b2,b3⟩:=II _ _ _ _ h2;refine⟨a1.trans b1,a2.trans b2,fun H m S w ct hl hh=>?_⟩;have⟨c1,c2⟩:=a3 H m S w ct (b1.trans hl) hh;have⟨d1,d2⟩:=b3 H m S w ct hl hh;refine⟨fun u hu=>?_,by simp[aX,c2,d2]⟩;simp only[af] at hu ⊢;obtain⟨fi,ca,rfl,e1,e2⟩:=hu;exact⟨fi,ca,rfl,c1 _ e1,d1 _ e2⟩
   case agg cs=>
    cases h1:cD n hp cs with
    | none=>simp[h1] at h
    | some q=>
     have⟨dJ,aZ⟩:=q;simp only[h1,yc,yr] at h;obtain⟨rfl,rfl⟩:=h;have⟨a1,a2,a3⟩:=II _ _ _ _ h1;refine⟨a1,a2,fun H m S w ct hl hh=>?_⟩;have⟨c1,c2⟩:=a3 H m S w ct hl hh;refine⟨fun u hu=>?_,by simpa[aX] using c2⟩;simp only[af] at hu ⊢;obtain⟨xs,rfl,e1⟩:=hu;exact⟨xs,rfl,c1 _ e1⟩
   case av cs=>
    cases h1:cD n hp cs with
    | none=>simp[h1] at h
    | some q=>
     have⟨dJ,aZ⟩:=q;simp only[h1,yc,yr] at h;obtain⟨rfl,rfl⟩:=h;have⟨a1,a2,a3⟩:=II _ _ _ _ h1;refine⟨a1,a2,fun H m S w ct hl hh=>?_⟩;have⟨c1,c2⟩:=a3 H m S w ct hl hh;refine⟨fun u hu=>?_,by simpa[aX] using c2⟩;simp only[af] at hu ⊢;obtain⟨xs,rfl,e1⟩:=hu;exact⟨xs,rfl,c1 _ e1⟩
  .intro hp id ex sz dJ ap h;simp only[zF] at h
   cases hg:ah hp id with
   | none=>simp[hg] at h
   | some ob=>
    cases ob<;>simp only[hg,reduceCtorEq] at h
    rename_i rw pu Bk D9 cs
    cases pu with
    | true=>
     simp only[yx,yc,yr] at h;obtain⟨rfl,rfl,rfl,rfl⟩:=h;have hq:dD hp (bif rw then aJ hp id (.cells ydC ydB Bk D9 cs) else hp)/\mj hp (bif rw then aJ hp id (.cells ydC ydB Bk D9 cs) else hp)/\ah (bif rw then aJ hp id (.cells ydC ydB Bk D9 cs) else hp) id=GR (.cells ydC ydB Bk D9 cs):=by
      cases rw with
      | true=>
       have⟨h1,h2⟩:=V9 hg (o':=.cells ydC ydB Bk D9 cs) ⟨ydC,rfl,by simp⟩;exact⟨h1,h2,by simp[AD,hg]⟩
      | false=>exact⟨dD.refl,mj.refl,hg⟩
     refine⟨hq.1,hq.2.1,fun H m S w ct hl hh p hm=>?_⟩;have⟨p',arr,t,g1,g2,g3,g4,g5,g6,g7,g8,g9,g10⟩:=hh.obj id _ _ (ac0 hl hq.2.2) hm;rw[hm] at g1;injection g1 with g1
     subst g1;exact⟨g3,g4,g6,g10 rfl,g8 rfl,g7⟩
    | false=>
     simp only[yS] at h
     cases h1:cD n hp cs with
     | none=>simp[h1] at h
     | some q=>
      have⟨Bp,aZ⟩:=q;simp only[h1,yc,yr] at h;obtain⟨rfl,rfl,rfl,rfl⟩:=h;have⟨a1,a2,a3⟩:=II _ _ _ _ h1;obtain⟨o1,lY,rw1,rfl,_⟩:=a1 id _ hg;have⟨b1,b2⟩:=V9 lY (o':=.cells ydC ydC Bk D9 cs) ⟨ydC,rfl,by simp⟩;refine⟨a1.trans b1,a2.trans b2,fun H m S w ct hl hh p hm=>?_⟩;have hq:ah (aJ aZ id (.cells ydC ydC Bk D9 cs)) id=GR (.cells ydC ydC Bk D9 cs):=by simp[AD,lY]
      have⟨p',arr,t,g1,g2,g3,g4,g5,g6,g7,g8,g9,g10⟩:=hh.obj id _ _ (ac0 hl hq) hm;rw[hm] at g1;injection g1 with g1
      subst g1;have⟨c1,c2⟩:=a3 H m S w ct (b1.trans hl) hh;have hlen:=aqK h1
      exact⟨g3,by lia,fun hx=>by have:=g6 hx;lia,g10 rfl,c2,azO c1 g7⟩
  .intro hp vs dS ap h
   cases vs with
   | nil=>
    simp only[cD,yc,yr] at h;obtain⟨rfl,rfl⟩:=h;exact⟨dD.refl,mj.refl,fun _ _ _ _ _ _ _=>⟨fun _ h=>h,rfl⟩⟩
   | cons v r=>
    simp only[cD] at h
    cases h1:freeze n hp v with
    | none=>simp[h1] at h
    | some q=>
     have⟨v1,aZ⟩:=q;simp only[h1] at h
     cases h2:cD n aZ r with
     | none=>simp[h2] at h
     | some q2=>
      have⟨r1,jB⟩:=q2;simp only[h2,yc,yr] at h;obtain⟨rfl,rfl⟩:=h;have⟨a1,a2,a3⟩:=ihV _ _ _ _ h1;have⟨b1,b2,b3⟩:=II _ _ _ _ h2;refine⟨a1.trans b1,a2.trans b2,fun H m S w ct hl hh=>?_⟩;have⟨c1,c2⟩:=a3 H m S w ct (b1.trans hl) hh;have⟨d1,d2⟩:=b3 H m S w ct hl hh;refine⟨fun us hu=>?_,by simp[aF,c2,d2]⟩;simp only[aA] at hu ⊢;obtain⟨u,t,rfl,e1,e2⟩:=hu;exact⟨u,t,rfl,c1 _ e1,d1 _ e2⟩
def UK{n:Nat}(h:cD n hp vs=GR (dS,ap)):dD hp ap/\mj hp ap/\aiD O ap vs dS:=(acb n).2.2 _ _ _ _ h
def Vd{n:Nat}{v v':AV}(h:freeze n hp v=GR (v',ap)):dD hp ap/\mj hp ap/\Yb O ap v v':=(acb n).1 _ _ _ _ h
end
end
end
section
open Go
section
variable {v:AV}{ap:Hp}{cs new:List AV}{aQ o:Nat}
section
variable {O:bE}{H:Hint}{m:Mp}{S:Nat->Prop}{w:yo}{tm:Env}{a:Act}{hp:Hp}{ct:Nat}
structure One(w w':yo)(g:Nat):Prop where
 os:w'.os=w.os
 tape:w'.tape=w.tape
 output:w'.output=w.output
 size:w'.heap.size=w.heap.size
 other:∀b,b≠g->w'.heap[b]? =w.heap[b]?
def UL(w:yo)(g:Nat)(cs:Array ym):One w (w.setRow g cs) g:=
 ⟨rfl,rfl,rfl,by simp,fun b hb=>setRow_other w g b cs hb⟩
def KW{id:Nat}{o:Obj}{p:Pl}(h:ah hp id=GR o)(hm:m id=GR p):eO m hp p.b:=⟨id,o,p,h,hm,rfl⟩
def aqL{id:Nat}{o':Obj}{b:Nat}(h:eO m (aJ hp id o') b):eO m hp b:=by
 have⟨i,o,p,h1,h2,h3⟩:=h;rw[AD] at h1;by_cases hi:id=i
 .subst hi
  cases hq:ah hp id with
  | none=>simp[hq] at h1
  | some q=>exact⟨id,q,p,hq,h2,h3⟩
 .simp only [hi,xv] at h1;exact⟨i,o,p,h1,h2,h3⟩
def Ks(hh:aU O m S w hp ct){id:Nat}{o o':Obj}{p:Pl}{w':yo}(ho:ah hp id=GR o)(hm:m id=GR p)(hn:¬S p.b)(hw:One w w' p.b)(h':gl O m S w' id o')(hk:∀r:tq,w.heap[p.b]? =GR (.loop r)->∃r':tq,w'.heap[p.b]? =GR (.loop r')):
  aU O m S w' (aJ hp id o') ct/\cr m S w hp m S w' (aJ hp id o') ct:=by
 have aR:ic S w w':=fun b hb=>hw.other b (fun e=>hn (e▸hb))
 refine⟨⟨?_,hh.lt,?_,?_,?_,hh.low,?_,?_,fun i q hq=>(by
  rw[AD] at hq;by_cases hc:id=i
  .subst hc;exact hh.aG _ _ ho
  .simp only [hc,xv] at hq;exact hh.aG _ _ hq)⟩,⟨hw.os,hw.tape,hw.output,by rw[hw.size];exact yz _,?_,fun _ h=>h,fun b hb=>aR b hb,fun b hb=>.inl hb,fun b hb=>.inl (aqL hb),fun _ _ _ h=>h,fun b r hb=>?_⟩⟩
 rotate_right
 .by_cases hc:b=p.b
  .subst hc;exact hk r hb
  .exact ⟨r,(hw.other b hc).trans hb⟩
 .intro i q pi hi bM;rw[AD] at hi;by_cases hc:id=i
  .subst hc;simp only[xN,ho,Option.isSome_some] at hi;injection hi with hi
   subst hi;exact h'
  .simp only [hc,xv] at hi;refine AB (fun _ _ h=>h) (fun _ h=>h) aR (fun q' bR=>?_) (fun _ _ h=>h) (hh.obj i q pi hi bM);exact hw.other _ (fun e=>hc (hh.inj i id q o q' p hi ho bR hm e).symm)
 .intro i j oi oj pi pj hi hj bM iJ e;have key:∀{i:Nat} {oi:Obj},ah (aJ hp id o') i=GR oi->∃NA,ah hp i=GR NA:=by
   intro i oi hi;rw[AD] at hi;by_cases hc:id=i
   .subst hc;exact⟨o,ho⟩
   .simp only [hc,xv] at hi;exact⟨oi,hi⟩
  have⟨NA,b6⟩:=key hi;have⟨Nz,ZQ⟩:=key hj;exact hh.inj i j NA Nz pi pj b6 ZQ bM iJ e
 .intro b hb;rw[hw.size];exact hh.slt b hb
 .intro i q hq;rw[hw.size];exact hh.blt i q hq
 .intro b hb
  rw[hw.other b (fun e=>by have:=hh.low id p hm;lia)]
  exact hh.nI b hb
 .rw [hw.size];exact hh.ig
 .intro b _ hb;exact hw.other b (fun e=>hb (e▸KW ho hm))
def B6(O:bE)(m:Mp)(S:Nat->Prop)(w:yo)(a:Act)(hp:Hp)(ct:Nat)(o:xa)(v:AV)(ap:Hp)(aQ:Nat):Prop:=
 ∃n u w' m' S',(execOp a.eval o).run O.P w=.ok n w'/\(n=.value u\/(n=.skip/\u=undef))/\aU O m' S' w' ap aQ/\af O.ae m' S' w' v u/\dT m m'/\cr m S w hp m' S' w' ap ct
def aqM{ae:Nat->Nat}{u:ym}(h:af ae m S w v u)(ho:dN v=ydB):u.oneCell'=ydB:=by
 cases v with
 | fn f a b=>
  cases f with
  | f g=>simp only[af] at h;obtain⟨_,_,rfl,_⟩:=h;rfl
  | y l=>simp only[af] at h;obtain⟨_,_,rfl⟩:=h;rfl
 | int k n=>simp only[af] at h;subst h;rfl
 | bool b=>simp only[af] at h;subst h;rfl
 | an k n=>simp only[af] at h;subst h;rfl
 | dI k n i=>simp only[af] at h;subst h;rfl
 | str s=>simp only[af] at h;obtain⟨_,rfl,_⟩:=h;rfl
 | ll=>simp only[af] at h;subst h;rfl
 | ptr i k=>simp only[af] at h;obtain⟨_,_,rfl⟩:=h;rfl
 | bC cs=>simp only[af] at h;obtain⟨_,_,rfl,_⟩:=h;rfl
 | aj=>simp only[af] at h;subst h;rfl
 | au e n cs=>simp only[af] at h;rcases h with ⟨_,_,_,rfl,_⟩ | ⟨_,rfl,_,_⟩<;>rfl
 | c9 _ _ _ _=>simp[dN] at ho
 | ay i k n=>simp only[af] at h;obtain⟨_,_,_,rfl,_⟩:=h;rfl
 | fQ=>simp only[af] at h;subst h;rfl
 | gU=>simp only[af] at h;subst h;rfl
 | map i=>simp only[af] at h;obtain⟨_,_,rfl⟩:=h;rfl
 | kj ks vs=>simp only[af] at h;obtain⟨_,_,_,rfl,_⟩:=h;rfl
 | it i=>simp only[af] at h;obtain⟨_,_,rfl⟩:=h;rfl
 | agg cs=>simp[dN] at ho
 | av cs=>simp[dN] at ho
 | undef=>simp[dN] at ho
def Pb{ae:Nat->Nat}:∀{vs:List AV} {us:List ym},aA ae m S w vs us->cf vs=ydB->∀u∈us,u.oneCell'=ydB
 | [],us,h,_,u,hu=>by simp only[aA] at h;subst h;cases hu
 | v::r,us,h,ho,u,hu=>by
  obtain⟨u',t,rfl,h1,h2⟩:=h;simp only[cf,yf] at ho;rcases List.mem_cons.1 hu with rfl | hu
  .exact aqM h1 ho.1
  .exact Pb h2 ho.2 u hu
def adU{arr:Array ym}{t:yB}{p:Pl}{vs:List ym}{m':Mp}(hb:w.heap[p.b]? =GR (.cells arr t (0,0)))(hr:b9 O.ae m S w cs p.b p.o)(hv:aA O.ae m S w new vs)(hl:o+new.length<=cs.length)(hs:p.o+cs.length<=arr.size){w':yo}(hm:dT m m')(hS:∀b,S b->S' b)(aR:ic S w w')(hw:w'.heap[p.b]? =GR (.cells (arr.toList.take (p.o+o)++vs++arr.toList.drop (p.o+o+vs.length)).toArray t (0,0))):b9 O.ae m' S' w' (over o new cs) p.b p.o:=by
 have⟨us,h1,h2,h3⟩:=BK cs p.b p.o hr;have hvl:=jV _ _ hv;have h4:aA O.ae m S w (over o new cs) (us.take o++vs++us.drop (o+new.length)):=nZ (nZ (G0 o h1) hv) (Kj _ h1);refine G3 _ _ _ (jM hm hS aR _ _ h4) (fun j u hj=>?_);have FB:∀k u,us[k]? =GR u->arr[p.o+k]? =GR u:=by
  intro k u hk
  have:=h3 k u hk
  simpa[World.cell?,hb] using this
 simp only[World.cell?,hw,yac,yD,xv];rw[ybf];have e1:(arr.toList.take (p.o+o)).length=p.o+o:=by rw[yU,vK];lia
 have e2:(us.take o).length=o:=by rw[yU];lia
 by_cases c1:j<o
 .have g1:(us.take o++vs++us.drop (o+new.length))[j]? =us[j]? :=by
   rw[xt,wH (by lia),tA c1]
  rw[g1] at hj;rw[xt,wH (by lia),tA (by lia)];simpa using FB j u hj
 .by_cases c2:j<o+vs.length
  .have g1:(us.take o++vs++us.drop (o+new.length))[j]? =vs[j-o]? :=by
    rw[xt,wu (by lia),e2,wH (by lia)]
   rw[g1] at hj;rw[xt,wu (by lia),e1,wH (by lia),show p.o+j-(p.o+o)=j-o by lia];exact hj
  .have g1:(us.take o++vs++us.drop (o+new.length))[j]? =us[j]? :=by
    rw[xt,wu (by lia),e2,wu (by lia),ybA]
    congr 1
    lia
   rw[g1] at hj;rw[xt,wu (by lia),e1,wu (by lia),ybA,show p.o+o+vs.length+(p.o+j-(p.o+o)-vs.length)=p.o+j by lia];simpa using FB j u hj
def Pv(hl:o+new.length<=cs.length):(over o new cs).length=cs.length:=by
 simp only[over,yO,yU,wP];lia
def acd(h:aF cs=ydB)(h':aF new=ydB):aF (over o new cs)=ydB:=
 GV (GV (EL _ h) h') (C4 _ _ h)
def atb{o:xa}{t:yB}{x y:xz}(hH:fW O H)(ht:cg O m S w tm a.tmps)(hh:aU O m S w hp ct)(ho:o.op=.store t x y)(hz:cF O.P t=GR sz)(hv:cx tm hp ct (.st sz (aO H x) (aO H y))=GR (v,ap,aQ)):B6 O m S w a hp ct o v ap aQ:=by
 simp only[cx] at hv;have rx:=cl hH ht x;cases hx:az tm (aO H x)<;>rw[hx] at hv rx<;>simp only[reduceCtorEq] at hv
 rename_i id k;simp only[af] at rx;have⟨p,hm,ex⟩:=rx
 split at hv
 case h_2=>cases hv
 rename_i pu Tl z cs hg
 cases hc:(yu (cellsOf (az tm (aO H y))).length sz&&yG (k+sz) cs.length&&cf (cellsOf (az tm (aO H y)))) with
 | false=>rw[hc] at hv;cases hv
 | true=>
  rw[hc] at hv;simp only[yx,yc,yr] at hv;obtain⟨rfl,rfl,rfl⟩:=hv;simp only[yf] at hc;have c1:=yi hc.1.1;have c2:=yA hc.1.2;have ry:=U9 (cl hH ht y) hc.2;have hl:=jV _ _ ry;have⟨p',arr,t',g1,g2,g3,g4,g5,g6,g7,g8,g9,g10⟩:=hh.obj id _ _ hg hm;rw[hm] at g1;injection g1 with g1
  subst g1;have gW:=Pb ry hc.2;have ff:=run_storeCells_at O.P p.b (p.o+k) t' (a.eval y).cells.toList 0 arr w g2 (by rw[hl];lia) gW
  simp only[yY] at ff;have azP:(a.eval y).cells.size=sz:=by simp_all
  have rH:gl O m S (w.setRow p.b (arr.toList.take (p.o+k)++(a.eval y).cells.toList++arr.toList.drop (p.o+k+(a.eval y).cells.toList.length)).toArray) id
    (.cells ydB (pu&&aF (cellsOf (az tm (aO H y)))) Tl z (over k (cellsOf (az tm (aO H y))) cs)):=by
   refine⟨p,_,t',hm,setRow_heap w p.b arr _ t' _ g2,g3,by rw[Pv (by lia)];exact g4,?_,fun h=>by rw[Pv (by lia)];exact g6 h,?_,?_,fun _=>g9 rfl,by simp⟩
   .grind
   .exact adU g2 g7 ry (by lia) (by lia) dT.refl (fun _ h=>h) (fun b hb=>setRow_other w p.b b _ (fun e=>g9 rfl (e▸hb))) (setRow_heap w p.b arr _ t' _ g2)
   .intro h;simp only[yf] at h;exact acd (g8 h.1) h.2
  have⟨e1,e2⟩:=Ks hh hg hm (g9 rfl) (UL w p.b _) rH (fun r hr=>by rw[g2] at hr;cases hr);refine⟨.skip,undef,_,m,S,?_,.inr ⟨rfl,rfl⟩,e1,by simp[af,aA,undef],dT.refl,e2⟩;simp only[execOp,ho,Instr.storeAt,ex,Instr.sureAddr,Sem.run_bind,Sem.run_pure,Result.andThen_ok,storeVar,qw hz,azP,uO,ydv,xv];simp[ff]
def GX(w:yo)(g:Nat)(o:yaG):One w {w with heap:=w.heap.setIfInBounds g o} g:=
 ⟨rfl,rfl,rfl,by simp,fun b hb=>by simp[Array.getElem?_setIfInBounds_ne (fun e=>hb e.symm)]⟩
def OX{g:Nat}{o q:yaG}(h:w.heap[g]? =GR q):({w with heap:=w.heap.setIfInBounds g o}:yo).heap[g]? =GR o:=by grind
def adV{o:xa}{t kt e:yB}{x k y:xz}{kk:Nat}(hH:fW O H)(ht:cg O m S w tm a.tmps)(hh:aU O m S w hp ct)(ho:o.op=.mapUpdate t x k y\/o.op=.insert t x k y)(hu:O.P.underlying t=GR (.map kt e))(qd:VE.keyOf O.P kt=GR kk)(hv:cx tm hp ct (.pZ kk (aO H x) (aO H k) (aO H y))=GR (v,ap,aQ)):B6 O m S w a hp ct o v ap aQ:=by
 simp only[cx] at hv;have rx:=cl hH ht x;cases hx:az tm (aO H x)<;>rw[hx] at hv rx<;>simp only[reduceCtorEq] at hv
 rename_i id;simp only[af] at rx;obtain⟨p,hm,ex⟩:=rx
 split at hv
 case h_2=>cases hv
 rename_i ks vs hg
 cases hc:lE kk (az tm (aO H k)) with
 | false=>simp[hc] at hv
 | true=>
  simp only[hc,Bool.not_true,yS] at hv
  cases aZ:pQ (az tm (aO H k)) (az tm (aO H y)) ks vs with
  | none=>simp[aZ] at hv
  | some q=>
   obtain⟨iF,dS⟩:=q;simp only[aZ,yc,yr] at hv;obtain⟨rfl,rfl,rfl⟩:=hv;obtain⟨E,hE,hF⟩:=ab9 (P:=O.P) qd hc (cl hH ht k);obtain⟨p',es,clock,g1,g2,g3,g4,g5,g6⟩:=hh.obj id _ _ hg hm;rw[hm] at g1;injection g1 with g1
   subst g1;have aBI:=afa hE (cl hH ht k) (cl hH ht y) ks vs es.toList 0 iF dS g3 g4 aZ
   have fin:∀(Gh:Array vl) (c':Nat),(Instr.mapUpdate t (a.eval x) (a.eval k) (a.eval y)).run O.P w=.ok () {w with heap:=w.heap.setIfInBounds p.b (.map Gh c')}->
     aA O.ae m S w iF (Gh.toList.map (·.key))->aA O.ae m S w dS (Gh.toList.map (·.val))->B6 O m S w a hp ct o (.av []) (aJ hp id (.mp ydB iF dS)) ct:=by
    intro Gh c' ff h1 h2
    have aR:ic S w {w with heap:=w.heap.setIfInBounds p.b (.map Gh c')}:=fun b hb=>(GX w p.b _).other b (fun e=>g5 rfl (e▸hb))
    have rH:gl O m S {w with heap:=w.heap.setIfInBounds p.b (.map Gh c')} id (.mp ydB iF dS):=
     ⟨p,Gh,c',hm,OX g2,jM (fun _ _ h=>h) (fun _ h=>h) aR _ _ h1,jM (fun _ _ h=>h) (fun _ h=>h) aR _ _ h2,fun _=>g5 rfl,by simp⟩
    obtain⟨e1,e2⟩:=Ks hh hg hm (g5 rfl) (GX w p.b _) rH (fun r hr=>by rw[g2] at hr;cases hr);refine⟨.skip,undef,_,m,S,?_,.inr ⟨rfl,rfl⟩,e1,by simp[af,aA,undef],dT.refl,e2⟩;rcases ho with ho | ho<;>simp[execOp,ho,ff]
   have cL:=abL (P:=O.P) (w:=w) qd hc (cl hH ht k) ydC;rcases aBI with ⟨h1,h2,h3⟩ | ⟨j,e0,vc,vk0,h1,h2,⟨q1,q2,h3⟩,h4,h5⟩
   .refine fin (es.push ⟨a.eval k,a.eval y,clock⟩) (clock+1) ?_ (by simpa using h2) (by simpa using h3);rw[ex];simp[Instr.mapUpdate,run_underlying hu,MapKept.run_getObj_map g2,cL,hF _ _ h1,MapKept.run_setObj_map _ g2]
   .have hj:es[j]? =GR e0:=by simpa using h2
    simp only[yd] at h1;obtain⟨aiE,hsb⟩:=aqG q1 q2 h3
    refine fin (es.modify j fun e=>{e with key:=a.eval k,val:=a.eval y}) clock ?_ ?_ ?_
    .rw [ex];simp[Instr.mapUpdate,run_underlying hu,MapKept.run_getObj_map g2,cL,hF _ _ h1,MapKept.run_setObj_map _ g2,hj,Instr.keyThatStays,hsb,aiE.symm]
    .have:(es.modify j fun e=>{e with key:=a.eval k,val:=a.eval y}).toList.map (·.key)=es.toList.map (·.key):=by
      apply ybD;intro n;simp only[tr,tN,ybd];by_cases hn:j=n
      .subst hn;simp[hj,aiE]
      .simp [hn]
     rw[this];exact h4
    .have:(es.modify j fun e=>{e with key:=a.eval k,val:=a.eval y}).toList.map (·.val)=(es.toList.map (·.val)).set j (a.eval y):=by
      apply ybD;intro n;simp only[tr,tN,ybd,List.getElem?_set];by_cases hn:j=n
      .subst hn
       have:=(xx.1 hj).1
       simp[this]
      .simp [hn]
     rw[this];exact h5
def atc(t:ByteArray)(i:Nat):(t.get! i).toNat=(t.data.toList.map xk).getD i 0:=by
 have:t.get! i=t.data[i]! :=by cases t;rfl
 rw[this];by_cases h:i<t.data.size
 .grind
 .simp only [Array.getElem!_eq_getD,Array.getD_eq_getD_getElem?,List.getD_eq_getElem?_getD,tr,tN];rw[Array.getElem?_eq_none (by lia)];rfl
def aoW(t:ByteArray)(i:Nat):decodeL (t.data.toList.map xk) i=Utf8.decode t i:=by
 have eZ:(t.data.toList.map xk).length=t.size:=by simp
 simp only[decodeL,Utf8.decode,atc,eZ]
def aqN{o:xa}{x:xz}(hH:fW O H)(ht:cg O m S w tm a.tmps)(hh:aU O m S w hp ct)(ho:o.op=.next x ydB)(hv:cx tm hp ct (.zd (aO H x))=GR (v,ap,aQ)):B6 O m S w a hp ct o v ap aQ:=by
 simp only[cx] at hv;have rx:=cl hH ht x;cases hx:az tm (aO H x)<;>rw[hx] at hv rx<;>simp only[reduceCtorEq] at hv
 rename_i id;simp only[af] at rx;have⟨p,hm,ex⟩:=rx
 split at hv
 case h_2=>cases hv
 rename_i s pos hg;have⟨p',t,g1,g2,g3,g4⟩:=hh.obj id _ _ hg hm;rw[hm] at g1;injection g1 with g1
 subst g1;have ah:(getObj p.b).run O.P w=.ok (.stringIter t pos) w:=by simp[getObj,Sem.run,g2]
 have hlen:s.length=t.size:=by rw[<-g3];simp
 cases hc:yP pos s.length with
 | false=>
  rw[hc] at hv;simp only[yS,yc,yr] at hv;obtain⟨rfl,rfl,rfl⟩:=hv;have aG:¬pos<t.size:=by
   intro h
   have:yP pos s.length=ydB:=by simp[yP];lia
   grind
  refine⟨.value (.tuple #[.bool ydC]),.tuple #[.bool ydC],w,m,S,?_,.inl rfl,hh,by simp[af,aA],dT.refl,cr.refl⟩;simp[execOp,ho,ex,Instr.next,ah,aG]
 | true=>
  rw[hc] at hv;simp only[yx] at hv;have aG:pos<t.size:=by
   simp_all
  cases hdc:decodeL s pos with | mk c wd=>
  rw[hdc] at hv;simp only[yc,yr] at hv;obtain⟨rfl,rfl,rfl⟩:=hv;have hd:Utf8.decode t pos=(c,wd):=by rw[<-aoW,g3,hdc]
  have rH:gl O m S {w with heap:=w.heap.setIfInBounds p.b (.stringIter t (pos+wd))} id (.si s (pos+wd)):=⟨p,t,hm,OX g2,g3,g4⟩;have⟨e1,e2⟩:=Ks hh hg hm g4 (GX w p.b _) rH (fun r hr=>by rw[g2] at hr;cases hr);refine⟨.value (.tuple #[.bool ydB,goInt pos,.int .i32 c]),_,_,m,S,?_,.inl rfl,e1,by simp[af,aA,goInt],dT.refl,e2⟩
  have aJ:(setObj p.b (.stringIter t (pos+wd))).run O.P w=.ok () {w with heap:=w.heap.setIfInBounds p.b (.stringIter t (pos+wd))}:=by simp[setObj,Sem.run,g2]
  simp[execOp,ho,ex,Instr.next,ah,aG,hd,aJ]
end
end
end
section
open Go
section
variable {cs:List AV}{n size:Nat}{P:xp}{x:ym}
def Kk{hp:Hp}{id i:Nat}:ah (cS hp id) i=if id=i then GS else ah hp i:=by
 induction hp with
 | nil=>simp[cS,ah]
 | cons x r ih=>
  have⟨j,q⟩:=x;simp only[cS];by_cases hj:j=id
  .subst hj;simp only[wL,yx,ih,ah];by_cases hi:j=i
   .grind
   .have:yu j i=ydC:=by
     cases hq:yu j i with
     | false=>rfl
     | true=>exact absurd (yi hq) hi
    grind
  .have hb:yu j id=ydC:=by
    cases hq:yu j id with
    | false=>rfl
    | true=>exact absurd (yi hq) hj
   simp only[hb,yS];rw[show ah ((j,q)::cS r id) i=bif yu j i then GR q else ah (cS r id) i from rfl,ih];by_cases hi:j=i
   .subst hi
    have:¬id=j:=fun h=>hj h.symm
    simp[wL,this,ah]
   .have Ai:yu j i=ydC:=by
     cases hq:yu j i with
     | false=>rfl
     | true=>exact absurd (yi hq) hi
    simp[Ai,ah]
section
variable {O:bE}{H:Hint}{m:Mp}{S:Nat->Prop}{w:yo}{tm:Env}{a:Act}{hp:Hp}{ct:Nat}
def Src(P:xp)(w:yo)(size n:Nat)(news:List ym)(x:ym):Prop:=
 (∀w',(Builtin.lenOf x).run P w'=.ok n w')/\news.length=n*size/\
 ∀w',w'.heap=w.heap->∀k,k<=n->(Builtin.firstCells size k x).run P w'=.ok (news.take (k*size)).toArray w'
def Kl{c:Nat}{b:uW}{news:List ym}(hl:news.length=n*size)(hc:∀j u,news[j]? =GR u->w.cell? (b.add j)=GR u):
  Src P w size n news (.slice (GR b) n c):=by
 refine⟨fun w'=>by simp[Builtin.lenOf],hl,fun w' hw k hk=>?_⟩;have hle:k*size<=news.length:=by rw[hl];exact yT _ hk
 refine run_firstCells_some (P:=P) w' size k b n c (news.take (k*size)) (by rw[yU];lia) (fun j v hv=>?_)
 rw[List.getElem?_take] at hv
 split at hv
 .have:=hc j v hv
  simpa[World.cell?,hw] using this
 .cases hv
def afe:Src P w size 0 [] (.slice GS 0 0):=
 ⟨fun w'=>by simp[Builtin.lenOf],by simp,fun w' _ k hk=>by simp[Builtin.firstCells]⟩
def an6(s:ByteArray)(k:Nat):(s.extract 0 k).data.map (fun b=>Value.int .u8 b.toNat)=((s.data.toList.map fun b=>Value.int .u8 (b.toNat:Int)).take k).toArray:=by
 have:(s.extract 0 k).data=s.data.extract 0 k:=by simp
 grind
def atd{s:ByteArray}:Src P w 1 s.size (s.data.toList.map fun b=>Value.int .u8 (b.toNat:Int)) (.string s):=by
 refine⟨fun w'=>by simp[Builtin.lenOf],by simp,fun w' _ k hk=>?_⟩;simp only[Builtin.firstCells,Sem.run_pure,Nat.mul_one];rw[an6]
def abN{ae:Nat->Nat}:∀l:List UInt8,aA ae m S w (PQ (l.map xk)) (l.map fun b=>Value.int .u8 (b.toNat:Int))
 | []=>by simp[PQ,aA]
 | b::r=>by
  exact⟨_,_,rfl,by simp[af],abN r⟩
def ace{vx:AV}(hh:aU O m S w hp ct)(hx:af O.ae m S w vx x)(h:pE hp size vx=GR (n,cs)):
  ∃us,aA O.ae m S w cs us/\Src O.P w size n us x:=by
 cases vx<;>simp only[pE,reduceCtorEq] at h
 case aj=>
  obtain⟨rfl,rfl⟩:=h;subst hx;exact⟨[],by simp[aA],afe⟩
 case au ex n' dJ=>
  cases hc:yu dJ.length (n'*size) with
  | false=>rw[hc] at h;cases h
  | true=>
   rw[hc] at h;obtain⟨rfl,rfl⟩:=h;have hl:=yi hc;rcases hx with ⟨b,o,c,rfl,h1,h2,h3,h4,h5⟩ | ⟨ad,rfl,rfl,rfl⟩
   .have ⟨us,g1,g2,g3⟩:=BK _ b o h5;exact⟨us,g1,Kl (by lia) (fun j u hj=>by rw[qJ];exact g3 j u hj)⟩
   .exact ⟨[],by simp[aA],Kl (by simp) (fun j u hj=>by simp at hj)⟩
 case ay id o n'=>
  cases hg:ah hp id with
  | none=>simp[hg] at h
  | some ob=>
   cases ob<;>simp only[hg,reduceCtorEq] at h
   rename_i rw pu ex z dJ
   cases hc:yG (o+n'*size) dJ.length with
   | false=>rw[hc] at h;cases h
   | true=>
    rw[hc] at h;simp only[yx,yc,yr] at h;obtain⟨rfl,rfl⟩:=h;have hl:=yA hc;obtain⟨p,c,hm,rfl,h1,h2⟩:=hx;have hr:=VA (o:=0) (n:=0) hh hg hm;have CF:=C3 (n'*size) _ _ _ (AA o _ _ _ hr);have⟨us,g1,g2,g3⟩:=BK _ p.b (p.o+o) CF;refine⟨us,g1,Kl ?_ (fun j u hj=>by rw[qJ];exact g3 j u hj)⟩
    grind
def aoX{vx:AV}(hh:aU O m S w hp ct)(hx:af O.ae m S w vx x)(h:sq hp size vx=GR (n,cs)):
  ∃us,aA O.ae m S w cs us/\Src O.P w size n us x:=by
 cases vx<;>try exact ace hh hx h
 simp only[sq] at h
 cases hc:yu size 1 with
 | false=>rw[hc] at h;cases h
 | true=>
  rw[hc] at h;obtain⟨rfl,rfl⟩:=h
  have:=yi hc
  subst this;obtain⟨t,rfl,rfl⟩:=hx;refine⟨_,abN _,?_⟩
  have:(List.map xk t.data.toList).length=t.size:=by simp
  rw[this];exact atd
def ani{t u ty e:yB}{i:ydw}(ht:P.underlying t=GR (.slice e))(hu:(∃e',P.underlying u=GR (.slice e'))\/P.underlying u=GR .string)(hi:P.info? e=GR i){g o:Nat}{ND:Array ym}{te:yB}(hg:w.heap[g]? =GR (.cells ND te (0,0))){news:List ym}(hs:Src P w i.size n news x)(h1:∀u∈news,u.oneCell'=ydB)(HN:kx+n<=zW)(Yc:o+kx*i.size+news.length<=ND.size):
  (Builtin.append_ #[t,u] ty #[.slice (GR ⟨g,o,GS⟩) kx zW,x]).run P w=
   .ok (.slice (GR ⟨g,o,GS⟩) (kx+n) zW) (w.setRow g (ND.toList.take (o+kx*i.size)++news++ND.toList.drop (o+kx*i.size+news.length)).toArray):=by
 have⟨iH,CG,ZS⟩:=hs;have hf:=ZS w rfl n (yz _);rw[yK (by lia)] at hf;have aR:=run_storeCells_at P g (o+kx*i.size) te news 0 ND w hg (by lia) h1;rcases hu with ⟨e',hd⟩ | hd<;>
  simp[Builtin.append_,run_underlying ht,run_underlying hd,vE,typeInfo,hi,iH,HN,hf,qJ,aR]
def Us{t u ty e:yB}{i:ydw}{z:ym}(ht:P.underlying t=GR (.slice e))(hu:(∃e',P.underlying u=GR (.slice e'))\/P.underlying u=GR .string)(hi:P.info? e=GR i)(hz:i.zero=GR z){s:ym}{base:Option uW}(es:s=.slice base kx zW){pR:List ym}(ho:Src P w i.size kx pR s){news:List ym}(hs:Src P w i.size n news x)(hg:zW<kx+n)(h63:kx+n<=1099511627776)(ZR:(kx+n)*i.bytes<=1099511627776):
  (Builtin.append_ #[t,u] ty #[s,x]).run P w=
   .ok (.slice (GR ⟨w.heap.size,0,GS⟩) (kx+n) (grownCap w (kx+n) zW e))
    (w.drew.alloc (.cells ((pR++news).toArray++Builtin.zeroCells z.cells (grownCap w (kx+n) zW e-(kx+n))) e)):=by
 have⟨iH,CG,ZS⟩:=hs;have⟨ho1,ZT,ho3⟩:=ho;have hf:=ZS w.drew rfl n (yz _);rw[yK (by lia)] at hf;have hfo:=ho3 w.drew rfl kx (yz _);have hn:¬(kx+n<=zW):=by lia
 have aBJ:¬(9223372036854775807<((kx:Int)+(n:Int))):=by lia
 have Yc:=growslice_fits (need:=kx+n) (old:=zW) (bytes:=i.bytes) hg (by lia);have aBK:¬(281474976710656<Builtin.nextslicecap (kx+n) zW*i.bytes):=by lia
 subst es;rcases hu with ⟨e',hd⟩ | hd
 all_goals
  simp[Builtin.append_,run_underlying ht,run_underlying hd,vE,typeInfo,zeroValue,hi,hz,iH,hn,aBJ,aBK,Question.forced,hf,hfo,newRow,askRoom,grownCap]
  grind
def Ve{e:yB}{z:ym}{need:Nat}{us:List ym}(hh:aU O m S w hp ct)(hr:aA O.ae m S w cs us)(hl:us.length=need*sz)(hz:z.cells.size=sz)(QH:Bool)(ZU:QH=ydB->aF cs=ydB)(hc:need<=cap):
  let w':=w.drew.alloc (.cells (us.toArray++Builtin.zeroCells z.cells (cap-need)) e)
  let p:Pl:=⟨w.heap.size,0,cap*sz,sz⟩
  ∀m',dT m m'->m' ct=GR p->gl O m' S w' ct (.cells ydB QH ydC sz cs):=by
 intro w' p m' hm hi;have aR:ic S w w':=fun b hb=>by
  have:=hh.slt b hb
  exact RowKit.Below.heap_alloc w.drew _ b (by simpa using this)
 have nJ:w'.heap[w.heap.size]? =GR (.cells (us.toArray++Builtin.zeroCells z.cells (cap-need)) e (0,0)):=heap_alloc_new w.drew _;have eF:=jV _ _ hr;refine⟨p,_,e,hi,nJ,rfl,?_,?_,by simp,?_,ZU,?_,by simp⟩
 .show cs.length<=cap*sz
  rw[<-eF,hl];exact yT _ hc
 .show 0+cap*sz<=_
  rw[Array.size_append,yaq,size_zeroCells,hz,hl,<-xS]
  grind
 .refine Vb nJ cs us 0 (jM hm (fun _ h=>h) aR _ _ hr) (fun j u hj=>?_)
  grind
 .intro _ hS
  have:=hh.slt _ hS
  grind
def am3(hh:aU O m S w hp ct)(g:yaG):ic S w (w.drew.alloc g):=fun b hb=>by
 have:=hh.slt b hb
 exact RowKit.Below.heap_alloc w.drew _ b (by simpa using this)
def Vf(hh:aU O m S w hp ct){hp0:Hp}{g:yaG}{p:Pl}{o:Obj}(Ro:∀i q,ah hp0 i=GR q->ah hp i=GR q)(hb:p.b=w.heap.size)(ho:∀m',dT m m'->m' ct=GR p->gl O m' S (w.drew.alloc g) ct o):
  aU O (gn m ct p) S (w.drew.alloc g) ((ct,o)::hp0) (ct+1)/\cr m S w hp (gn m ct p) S (w.drew.alloc g) ((ct,o)::hp0) ct:=by
 have hn:m ct=GS:=by
  cases h:m ct with
  | none=>rfl
  | some q=>have:=hh.lt _ _ h;lia
 have hle:=mh hn (p:=p);have aR:=am3 hh g;have hold:∀b,b<w.heap.size->(w.drew.alloc g).heap[b]? =w.heap[b]? :=fun b hb=>RowKit.Below.heap_alloc w.drew _ b (by simpa using hb)
 have eZ:(w.drew.alloc g).heap.size=w.heap.size+1:=by simp
 have cA:∀i q,ah ((ct,o)::hp0) i=GR q->i≠ct->ah hp i=GR q:=fun i q h hi=>by
  rw[iU,yq (fun e=>hi e.symm)] at h
  grind
 refine⟨⟨?_,?_,?_,?_,?_,?_,?_,?_,fun i q hq=>(by
  by_cases hc:i=ct
  .lia
  .have:=hh.aG _ _ (cA i q hq hc);lia)⟩,⟨rfl,rfl,rfl,by lia,?_,fun _ h=>h,fun b hb=>aR b hb,fun b hb=>.inl hb,?_,fun i q _ h=>hle i q h,fun b r hb=>⟨r,(hold b (xx.1 hb).1).trans hb⟩⟩⟩
 .intro i q pi hi bM;by_cases hc:i=ct
  .subst hc;rw[iU] at hi;simp only[xN,yc] at hi;subst hi;exact ho _ hle eB
  .rw [eX hc] at bM;exact AB hle (fun _ h=>h) aR (fun q' bR=>hold _ (hh.blt i q' bR)) (fun _ _ h=>h) (hh.obj i q pi (cA i q hi hc) bM)
 .intro i q bM;by_cases hc:i=ct
  .lia
  .rw [eX hc] at bM;have:=hh.lt i q bM;lia
 .intro i j oi oj pi pj hi hj bM iJ e;by_cases ci:i=ct
  .by_cases cj:j=ct
   .grind
   .subst ci;rw[eB] at bM;rw[eX cj] at iJ;injection bM with bM
    subst bM
    have:=hh.blt j pj iJ
    lia
  .rw [eX ci] at bM;by_cases cj:j=ct
   .subst cj;rw[eB] at iJ;injection iJ with iJ
    subst iJ
    have:=hh.blt i pi bM
    lia
   .rw [eX cj] at iJ;exact hh.inj i j oi oj pi pj (cA i oi hi ci) (cA j oj hj cj) bM iJ e
 .intro b hb;have:=hh.slt b hb;lia
 .intro i q bM;by_cases hc:i=ct
  .subst hc;rw[eB] at bM;injection bM with bM
   subst bM
   lia
  .rw [eX hc] at bM;have:=hh.blt i q bM;lia
 .intro i q bM;have h0:=hh.ig;by_cases hc:i=ct
  .subst hc;rw[eB] at bM;injection bM with bM
   subst bM
   lia
  .rw [eX hc] at bM;exact hh.low i q bM
 .intro b hb;have h0:=hh.ig;exact (hold b (by lia)).trans (hh.nI b hb)
 .have h0:=hh.ig;lia
 .intro b hb _;exact hold b hb
 .rintro b ⟨i,q,pi,h1,h2,h3⟩;by_cases hc:i=ct
  .subst hc;rw[eB] at h2;injection h2 with h2
   subst h2;exact .inr (by lia)
  .rw [eX hc] at h2;exact .inl ⟨i,q,pi,cA i q h1 hc,h2,h3⟩
def aoY(hh:aU O m S w hp ct){id:Nat}{o o':Obj}{p p':Pl}{w':yo}(hg:ah hp id=GR o)(hm:m id=GR p)(hn:¬S p.b)(hw:One w w' p.b)(hk:∀r:tq,w.heap[p.b]? =GR (.loop r)->∃r':tq,w'.heap[p.b]? =GR (.loop r'))(hb:p'.b=p.b)(ho:∀m',dT m m'->m' ct=GR p'->gl O m' S w' ct o'):
  aU O (gn m ct p') S w' ((ct,o')::cS hp id) (ct+1)/\cr m S w hp (gn m ct p') S w' ((ct,o')::cS hp id) ct:=by
 have ef:m ct=GS:=by
  cases h:m ct with
  | none=>rfl
  | some q=>have:=hh.lt _ _ h;lia
 have hle:=mh ef (p:=p');have aR:ic S w w':=fun b hb=>hw.other b (fun e=>hn (e▸hb))
 have cA:∀i q,ah ((ct,o')::cS hp id) i=GR q->i≠ct->ah hp i=GR q/\i≠id:=fun i q h hi=>by
  rw[iU,yq (fun e=>hi e.symm),Kk] at h
  grind
 have aiF:∀i q pi,ah hp i=GR q->i≠id->m i=GR pi->pi.b≠p.b:=fun i q pi h hi bM e=>hi (hh.inj i id q o pi p h hg bM hm e)
 refine⟨⟨?_,?_,?_,?_,?_,?_,?_,?_,fun i q hq=>(by
  by_cases hc:i=ct
  .lia
  .have:=hh.aG _ _ (cA i q hq hc).1;lia)⟩,⟨hw.os,hw.tape,hw.output,by rw[hw.size];exact yz _,?_,fun _ h=>h,fun b hb=>aR b hb,fun b hb=>.inl hb,?_,fun i q _ h=>hle i q h,fun b r hb=>(by
  by_cases hc:b=p.b
  .grind
  .exact ⟨r,(hw.other b hc).trans hb⟩)⟩⟩
 .intro i q pi hi bM;by_cases hc:i=ct
  .subst hc;rw[iU] at hi;simp only[xN,yc] at hi;subst hi;exact ho _ hle eB
  .rw [eX hc] at bM;have⟨h1,h2⟩:=cA i q hi hc;exact AB hle (fun _ h=>h) aR (fun q' bR=>hw.other _ (aiF i q q' h1 h2 bR)) (fun _ _ h=>h) (hh.obj i q pi h1 bM)
 .intro i q bM;by_cases hc:i=ct
  .lia
  .rw [eX hc] at bM;have:=hh.lt i q bM;lia
 .intro i j oi oj pi pj hi hj bM iJ e;by_cases ci:i=ct
  .by_cases cj:j=ct
   .grind
   .subst ci;rw[eB] at bM;rw[eX cj] at iJ
    grind
  .rw [eX ci] at bM;have⟨h1,h2⟩:=cA i oi hi ci;by_cases cj:j=ct
   .subst cj;rw[eB] at iJ;injection iJ with iJ
    subst iJ;exact (aiF i oi pi h1 h2 bM (by rw[e,hb])).elim
   .rw [eX cj] at iJ;exact hh.inj i j oi oj pi pj h1 (cA j oj hj cj).1 bM iJ e
 .intro b hb;rw[hw.size];exact hh.slt b hb
 .intro i q bM;rw[hw.size];by_cases hc:i=ct
  .subst hc;rw[eB] at bM;injection bM with bM
   subst bM;rw[hb];exact hh.blt id p hm
  .rw [eX hc] at bM;exact hh.blt i q bM
 .intro i q bM;by_cases hc:i=ct
  .subst hc;rw[eB] at bM;injection bM with bM
   subst bM;rw[hb];exact hh.low id p hm
  .rw [eX hc] at bM;exact hh.low i q bM
 .intro b hb
  rw[hw.other b (fun e=>by have:=hh.low id p hm;lia)]
  exact hh.nI b hb
 .rw [hw.size];exact hh.ig
 .intro b _ aS;exact hw.other b (fun e=>aS (e▸KW hg hm))
 .rintro b ⟨i,q,pi,h1,h2,h3⟩;by_cases hc:i=ct
  .subst hc;rw[eB] at h2;injection h2 with h2
   subst h2;exact .inl ⟨id,o,p,hg,hm,by rw[<-h3,hb]⟩
  .rw [eX hc] at h2;exact .inl ⟨i,q,pi,(cA i q h1 hc).1,h2,h3⟩
def ate{e:yB}{s:Nat}{z:AV}(hs:cF P e=GR s)(hb:D5 P e=GR by')(hz:pN P e=GR z):
  ∃ti zv,P.info? e=GR ti/\ti.size=s/\ti.bytes=by'/\ti.zero=GR zv/\z=fE zv:=by
 unfold cF at hs;unfold D5 at hb;unfold pN at hz
 cases hi:P.info? e with
 | none=>simp[hi] at hs
 | some ti=>
  simp only[hi,yc] at hs hb hz
  cases eG:ti.zero with
  | none=>simp[eG] at hz
  | some zv=>
   grind
def Kt{o:xa}{v:AV}{u:ym}{w':yo}{m':Mp}{ap:Hp}(h1:(execOp a.eval o).run O.P w=.ok (.value u) w')(h2:aU O m' S' w' ap aQ)(h3:af O.ae m' S' w' v u)(h4:dT m m')(h5:cr m S w hp m' S' w' ap ct):B6 O m S w a hp ct o v ap aQ:=⟨_,u,w',m',S',h1,.inl rfl,h2,h3,h4,h5⟩
def aqO{o:xa}{b':yB}{t u e:yB}{z:AV}{x y:xz}{v:AV}{ap:Hp}(hH:fW O H)(ht:cg O m S w tm a.tmps)(hh:aU O m S w hp ct)(ff:(execOp a.eval o).run O.P w=((do pure (.value (<-Builtin.append_ #[t,u] b' #[a.eval x,a.eval y])):Sem ybk)).run O.P w)(Ea:O.P.underlying t=GR (.slice e))(hu:(∃e',O.P.underlying u=GR (.slice e'))\/O.P.underlying u=GR .string)(hs:cF O.P e=GR sz)(hb:D5 O.P e=GR by')(hz:pN O.P e=GR z)(CC:(cellsOf z).length=sz)(hv:cx tm hp ct (.eE sz by' (aO H x) (aO H y))=GR (v,ap,aQ)):B6 O m S w a hp ct o v ap aQ:=by
 simp only[cx] at hv;obtain⟨ti,zv,CD,rfl,rfl,ZV,rfl⟩:=ate hs hb hz;have aM:∀u' w',(Builtin.append_ #[t,u] b' #[a.eval x,a.eval y]).run O.P w=.ok u' w'->(execOp a.eval o).run O.P w=.ok (.value u') w':=fun u' w' h=>by
  rw[ff,Sem.run_bind,h];rfl
 have AU:m ct=GS:=by
  cases h:m ct with
  | none=>rfl
  | some q=>have:=hh.lt _ _ h;lia
 have NC:zv.cells.size=ti.size:=by
  have:=jV _ _ (GU (ae:=O.ae) (m:=m) (S:=S) (w:=w) zv)
  rw[<-CC,<-this];simp
 cases sM:sq hp ti.size (az tm (aO H y)) with
 | none=>simp[sM] at hv
 | some q=>
  have⟨n,new⟩:=q;simp only[sM] at hv;have⟨news,oS,et⟩:=aoX hh (cl hH ht y) sM;have CH:=jV _ _ oS;have rx:=cl hH ht x
  cases hx:az tm (aO H x) with
  | aj=>
   rw[hx] at hv rx;simp only at hv;simp only[af] at rx
   cases h0:yu n 0 with
   | true=>
    rw[h0] at hv;simp only[yx,yc,yr] at hv;obtain⟨rfl,rfl,rfl⟩:=hv;have zg:=yi h0;subst zg;have Xr:news=[]:=yE (by rw[et.2.1];simp)
    subst Xr;have hf:=et.2.2 w rfl 0 (yz _);have mE:=et.1 w;refine⟨.value (.slice GS 0 0),.slice GS 0 0,w,m,S,?_,.inl rfl,hh,by simp[af],dT.refl,cr.refl⟩;rw[ff,rx];rcases hu with ⟨e',hu⟩ | hu<;>
     simp[Builtin.append_,run_underlying Ea,run_underlying hu,vE,typeInfo,CD,mE,hf]
   | false=>
    rw[h0] at hv;simp only[yS] at hv
    cases hc:(yG n room&&(yG (n*ti.bytes) room&&yP 0 ti.size)) with
    | false=>rw[hc] at hv;cases hv
    | true=>
     rw[hc] at hv;simp only[yx,yc,yr] at hv;obtain⟨rfl,rfl,rfl⟩:=hv;simp only[yf] at hc;have c1:=yA hc.1;have c2:=yA hc.2.1;simp only[room] at c1 c2;have zg:0<n:=by
      rcases xi n with h | h
      .subst h;simp at h0
      .exact h
     have hr:=Us (P:=O.P) (ty:=b') (w:=w) Ea hu CD ZV (s:=.slice GS 0 0) rfl (afe (P:=O.P) (size:=ti.size)) et (by lia) (by lia) (by simpa using c2);simp only[yd,List.nil_append] at hr;have mF:=grownCap_ge w n 0 e;have nJ:=Ve (e:=e) (z:=zv) (cap:=grownCap w n 0 e) hh oS (need:=n) (sz:=ti.size) et.2.1 NC (aF new) (fun h=>h) mF;have⟨k1,k2⟩:=Vf hh (hp0:=hp) (p:=⟨w.heap.size,0,grownCap w n 0 e*ti.size,ti.size⟩) (fun _ _ h=>h) rfl nJ;exact Kt (aM _ _ (by rw[rx];exact hr)) k1 (by simp only[af];exact⟨_,_,eB,rfl,mF,by simp⟩) (mh AU) k2
  | au ex k cs=>
   rw[hx] at hv rx
   cases ex with
   | false=>simp at hv
   | true=>
    simp only at hv;have rx0:=rx;simp only[af] at rx;have rx1:∃ad pR,a.eval x=.slice (GR ad) k k/\aA O.ae m S w cs pR/\pR.length=cs.length/\(∀(j:Nat) (u:ym),pR[j]? =GR u->w.cell? (ad.add j)=GR u)/\aF cs=ydB:=by
     rcases rx with ⟨bb,oo,c,ex,h1,h2,h3,h4,h5⟩ | ⟨ad,ex,rfl,rfl⟩
     .have cL:c=k:=h2 (by trivial);subst cL;have⟨pR,g1,g2,g3⟩:=BK cs bb oo h5;exact⟨_,pR,ex,g1,g2,fun j u hj=>by rw[qJ];exact g3 j u hj,h4⟩
     .exact ⟨ad,[],ex,by simp[aA],rfl,fun j u hj=>by simp at hj,rfl⟩
    have⟨ad,pR,ex,g1,g2,g3,h4⟩:=rx1
    cases h0:yu n 0 with
    | true=>
     rw[h0] at hv;simp only[yx,yc,yr] at hv;obtain⟨rfl,rfl,rfl⟩:=hv;have zg:=yi h0;subst zg;have Xr:news=[]:=yE (by rw[et.2.1];simp)
     subst Xr;have hf:=et.2.2 w rfl 0 (yz _);have mE:=et.1 w;refine⟨.value (a.eval x),a.eval x,w,m,S,?_,.inl rfl,hh,rx0,dT.refl,cr.refl⟩;rw[ff,ex];rcases hu with ⟨e',hu⟩ | hu<;>
      simp[Builtin.append_,run_underlying Ea,run_underlying hu,vE,typeInfo,CD,mE,hf,storeCells]
    | false=>
     rw[h0] at hv;simp only[yS] at hv
     cases hc:(yG (k+n) room&&(yG ((k+n)*ti.bytes) room&&(yu cs.length (k*ti.size)&&yP 0 ti.size))) with
     | false=>rw[hc] at hv;cases hv
     | true=>
      rw[hc] at hv;simp only[yx,yc,yr] at hv;obtain⟨rfl,rfl,rfl⟩:=hv;simp only[yf] at hc;have c1:=yA hc.1;have c2:=yA hc.2.1;have c3:=yi hc.2.2.1;simp only[room] at c1 c2;have zg:0<n:=by
       rcases xi n with h | h
       .subst h;simp at h0
       .exact h
      have ZW:Src O.P w ti.size k pR (.slice (GR ad) k k):=Kl (by lia) g3;have hr:=Us (P:=O.P) (ty:=b') (w:=w) Ea hu CD ZV rfl ZW et (by lia) c1 c2;have mF:=grownCap_ge w (k+n) k e;have nJ:=Ve (e:=e) (z:=zv) (cap:=grownCap w (k+n) k e) hh (nZ g1 oS) (need:=k+n) (sz:=ti.size) (by rw[yO,g2,c3,et.2.1,xS]) NC (aF cs&&aF new)
       (fun h=>by simp only[yf] at h;exact GV h.1 h.2) mF
      have⟨k1,k2⟩:=Vf hh (hp0:=hp) (p:=⟨w.heap.size,0,grownCap w (k+n) k e*ti.size,ti.size⟩) (fun _ _ h=>h) rfl nJ;exact Kt (aM _ _ (by rw[ex];exact hr)) k1 (by simp only[af];exact⟨_,_,eB,rfl,mF,by simp⟩) (mh AU) k2
  | ay id o0 k=>
   rw[hx] at hv rx;simp only at hv;simp only[af] at rx;have⟨p,c,hm,ex,h1,h2⟩:=rx
   split at hv
   case h_2=>cases hv
   rename_i pu Tl zz cs hg
   cases hc:(yu zz ti.size&&(yG (k+n) room&&(yG ((k+n)*ti.bytes) room&&(yG (o0+k*ti.size) cs.length&&(yP 0 ti.size&&cf new))))) with
   | false=>rw[hc] at hv;cases hv
   | true=>
    rw[hc] at hv;simp only[yx,yc,yr] at hv;obtain⟨rfl,rfl,rfl⟩:=hv;simp only[yf] at hc;have c0:=yi hc.1;have c1:=yA hc.2.1;have c2:=yA hc.2.2.1;have c3:=yA hc.2.2.2.1;have c4:=hc.2.2.2.2.2;simp only[room] at c1 c2;have⟨p',arr,t',g1,g2,g3,g4,g5,g6,g7,g8,g9,g10⟩:=hh.obj id _ _ hg hm;rw[hm] at g1;injection g1 with g1
    subst g1;subst c0;rw[g3] at h2;have IJ:b9 O.ae m S w (slice o0 (k*ti.size) cs) p.b (p.o+o0):=C3 _ _ _ _ (AA _ _ _ _ g7);have⟨pR,f1,f2,f3⟩:=BK _ _ _ IJ;have aiG:(slice o0 (k*ti.size) cs).length=k*ti.size:=by simp only[slice,yU,wP];lia
    have rA:(pu&&aF new)=ydB->aF (slice o0 (k*ti.size) cs++new)=ydB:=fun h=>by
     simp only[yf] at h;exact GV (EL _ (C4 _ _ (g8 h.1))) h.2
    by_cases HN:k+n<=c
    .have gW:=Pb oS c4;have Yc:p.o+o0+k*ti.size+news.length<=arr.size:=by
      rw[et.2.1]
      have:(k+n)*ti.size<=c*ti.size:=yT _ HN
      rw[xS] at this
      lia
     have hr:=ani (P:=O.P) (ty:=b') (w:=w) Ea hu CD g2 et gW HN Yc;have ho:∀m',dT m m'->m' ct=GR ⟨p.b,p.o+o0,c*ti.size,ti.size⟩->
       gl O m' S (w.setRow p.b (arr.toList.take (p.o+o0+k*ti.size)++news++arr.toList.drop (p.o+o0+k*ti.size+news.length)).toArray) ct
        (.cells ydB (pu&&aF new) ydC ti.size (slice o0 (k*ti.size) cs++new)):=by
      intro m' hle hi;have aR:ic S w (w.setRow p.b (arr.toList.take (p.o+o0+k*ti.size)++news++arr.toList.drop (p.o+o0+k*ti.size+news.length)).toArray):=fun b hb=>setRow_other w p.b b _ (fun e=>g9 rfl (e▸hb))
      refine⟨_,_,t',hi,setRow_heap w p.b arr _ t' _ g2,rfl,?_,?_,by simp,?_,rA,fun _=>g9 rfl,by simp⟩
      .show (slice o0 (k*ti.size) cs++new).length<=c*ti.size
       rw[yO,aiG,<-CH,et.2.1,<-xS];exact yT _ HN
      .show p.o+o0+c*ti.size<=_
       rw[yaq,yO,yO,yU,wP,vK]
       lia
      .refine G3 _ (pR++news) _ (nZ (jM hle (fun _ h=>h) aR _ _ f1) (jM hle (fun _ h=>h) aR _ _ oS)) (fun j u hj=>?_);show World.cell? _ ⟨p.b,p.o+o0+j,GS⟩=GR u
       simp only[World.cell?,setRow_heap w p.b arr _ t' _ g2,yac,yD,xv];rw[ybf];have e1:(arr.toList.take (p.o+o0+k*ti.size)).length=p.o+o0+k*ti.size:=by rw[yU,vK];lia
       by_cases Gf:j<k*ti.size
       .rw [wH (by lia)] at hj;rw[xt,wH (by lia),tA (by lia)]
        have:=f3 j u hj
        simpa[World.cell?,g2] using this
       .rw [wu (by lia)] at hj;have hjl:=(List.getElem?_eq_some_iff.1 hj).1;rw[xt,wu (by lia),e1,wH (by lia),show p.o+o0+j-(p.o+o0+k*ti.size)=j-pR.length by lia];exact hj
     have⟨k1,k2⟩:=aoY (p':=⟨p.b,p.o+o0,c*ti.size,ti.size⟩) hh hg hm (g9 rfl) (UL w p.b _) (fun r hr=>by rw[g2] at hr;cases hr) rfl ho;exact Kt (aM _ _ (by rw[ex];exact hr)) k1 (by simp only[af];exact⟨_,c,eB,rfl,HN,by simp⟩) (mh AU) k2
    .have ZW:Src O.P w ti.size k pR (.slice (GR ⟨p.b,p.o+o0,GS⟩) k c):=Kl (by lia) (fun j u hj=>by rw[qJ];exact f3 j u hj)
     have hr:=Us (P:=O.P) (ty:=b') (w:=w) Ea hu CD ZV rfl ZW et (by lia) c1 c2;have mF:=grownCap_ge w (k+n) c e;have nJ:=Ve (e:=e) (z:=zv) (cap:=grownCap w (k+n) c e) hh (nZ f1 oS) (need:=k+n) (sz:=ti.size) (by rw[yO,f2,aiG,et.2.1,xS]) NC (pu&&aF new) rA mF;have⟨k1,k2⟩:=Vf hh (hp0:=cS hp id) (p:=⟨w.heap.size,0,grownCap w (k+n) c e*ti.size,ti.size⟩) (fun i q h=>by
      rw[Kk] at h;by_cases hi:id=i
      .simp [hi] at h
      .simpa only [hi,xv] using h) rfl nJ
     exact Kt (aM _ _ (by rw[ex];exact hr)) k1 (by simp only[af];exact⟨_,_,eB,rfl,mF,by simp⟩) (mh AU) k2
  | _=>rw[hx] at hv;simp at hv
end
end
end
section
open Go
section
variable {O:bE}{H:Hint}{m:Mp}{S:Nat->Prop}{w:yo}{tm:Env}{a:Act}{hp:Hp}{ct:Nat}
def anz{n:Nat}{cs:List AV}(h:aF cs=ydB):aF (cs.take n)=ydB:=EL n h
def abA:∀(n:Nat) {cs:List AV},cf cs=ydB->cf (cs.take n)=ydB
 | 0,_,_=>by simp[cf]
 | n+1,[],_=>by simp[cf]
 | n+1,c::cs,h=>by
  simp only[wI,cf,yf] at h ⊢;exact⟨h.1,abA n h.2⟩
def aqP{o:xa}{b':yB}{t u e:yB}{x y:xz}{v:AV}{ap:Hp}(hH:fW O H)(ht:cg O m S w tm a.tmps)(hh:aU O m S w hp ct)(ff:(execOp a.eval o).run O.P w=((do pure (.value (<-Builtin.copy_ #[t,u] b' #[a.eval x,a.eval y])):Sem ybk)).run O.P w)(Ea:O.P.underlying t=GR (.slice e))(hs:cF O.P e=GR sz)(hv:cx tm hp ct (.p7 sz (aO H x) (aO H y))=GR (v,ap,aQ)):B6 O m S w a hp ct o v ap aQ:=by
 simp only[cx] at hv
 cases sM:pE hp sz (az tm (aO H y)) with
 | none=>simp[sM] at hv
 | some q=>
  have⟨n,new⟩:=q;simp only[sM] at hv;have⟨news,oS,et⟩:=ace hh (cl hH ht y) sM;have CH:=jV _ _ oS;have rx:=cl hH ht x;cases hx:az tm (aO H x)<;>rw[hx] at hv rx<;>simp only[reduceCtorEq] at hv
  rename_i id o0 k;simp only[af] at rx;have⟨p,c,hm,ex,h1,h2⟩:=rx
  split at hv
  case h_2=>cases hv
  rename_i pu Tl zz cs hg
  cases hc:(yu zz sz&&(yG (o0+k*sz) cs.length&&cf new)) with
  | false=>rw[hc] at hv;cases hv
  | true=>
   rw[hc] at hv;simp only[yx,yc,yr] at hv;obtain⟨rfl,rfl,rfl⟩:=hv;simp only[yf] at hc;have c0:=yi hc.1;have c1:=yA hc.2.1;subst c0;have⟨p',arr,t',g1,g2,g3,g4,g5,g6,g7,g8,g9,g10⟩:=hh.obj id _ _ hg hm;rw[hm] at g1;injection g1 with g1
   subst g1;have aiH:min n k*zz<=k*zz:=yT _ (Nat.min_le_right _ _);have aIM:min n k*zz<=n*zz:=yT _ (ycl _ _);have rt:=G0 (min n k*zz) oS;have zh:(news.take (min n k*zz)).length=min n k*zz:=by rw[yU,et.2.1];lia
   have aIV:(new.take (min n k*zz)).length=min n k*zz:=by rw[yU,<-CH,et.2.1];lia
   have gW:=Pb rt (abA _ hc.2.2);have hf:=et.2.2 w rfl (min n k) (ycl _ _);have aR:=run_storeCells_at O.P p.b (p.o+o0) t' (news.take (min n k*zz)) 0 arr w g2 (by rw[zh];lia) gW
   simp only[yY] at aR;have rH:gl O m S (w.setRow p.b (arr.toList.take (p.o+o0)++news.take (min n k*zz)++arr.toList.drop (p.o+o0+(news.take (min n k*zz)).length)).toArray) id
     (.cells ydB (pu&&aF new) Tl zz (over o0 (new.take (min n k*zz)) cs)):=by
    refine⟨p,_,t',hm,setRow_heap w p.b arr _ t' _ g2,g3,by rw[Pv (by lia)];exact g4,?_,fun h=>by rw[Pv (by lia)];exact g6 h,?_,?_,fun _=>g9 rfl,by simp⟩
    .rw [yaq,yO,yO,yU,wP,vK,zh];lia
    .exact adU g2 g7 rt (by lia) (by lia) dT.refl (fun _ h=>h) (fun b hb=>setRow_other w p.b b _ (fun e=>g9 rfl (e▸hb))) (setRow_heap w p.b arr _ t' _ g2)
    .intro h;simp only[yf] at h;exact acd (g8 h.1) (anz h.2)
   have⟨e1,e2⟩:=Ks hh hg hm (g9 rfl) (UL w p.b _) rH (fun r hr=>by rw[g2] at hr;cases hr)
   refine Kt (u:=goInt ((min n k:Nat):Int)) (m':=m) (S':=S) ?_ e1 (by simp[af,goInt]) dT.refl e2;rw[ff,ex];simp[Builtin.copy_,run_underlying Ea,et.1 w,qw hs,show Nat.min n k=min n k from rfl,hf,aR]
def atf{o:xa}{k:Nat}{v:AV}{ap:Hp}(hH:fW O H)(ht:cg O m S w tm a.tmps)(hh:aU O m S w hp ct)(hv:cx tm hp ct (aW O.P H k o)=GR (v,ap,aQ)):B6 O m S w a hp ct o v ap aQ:=by
 have oD:∀{r:AV×Hp×Nat},cx tm hp ct bad=GR r->False:=fun h=>by simp[bad,cx] at h
 cases ho:o.op with
 | call c=>
  obtain⟨callee,args,ts⟩:=c;simp only[aW,ho] at hv
  split at hv
  .cases Ny:H.mode k<;>simp[Ny,cx] at hv
  .rename_i _ b
   split at hv
   .rename_i x y t u fF zf;obtain⟨al⟩:=args;obtain⟨tl⟩:=ts;simp only at fF zf;subst fF;subst zf;obtain⟨cs,ff⟩:=CW (O:=O) (w:=w) (a:=a) ho;have LY:(execOp a.eval o).run O.P w=((do pure (.value (<-Builtin.append_ #[t,u] o.type #[a.eval x,a.eval y])):Sem ybk)).run O.P w:=by
     rw[ff];simp[builtin]
    have key:∀{z:AV} {sz by':Nat} {e:yB},O.P.underlying t=GR (.slice e)->((∃e',O.P.underlying u=GR (.slice e'))\/O.P.underlying u=GR .string)->cF O.P e=GR sz->D5 O.P e=GR by'->pN O.P e=GR z->
      cx tm hp ct (bif yu (cellsOf z).length sz then .eE sz by' (aO H x) (aO H y) else bad)=GR (v,ap,aQ)->B6 O m S w a hp ct o v ap aQ:=by
     intro z sz by' e h1 h2 h3 h4 h5 h
     cases hb:yu (cellsOf z).length sz with
     | false=>rw[hb] at h;exact (oD h).elim
     | true=>
      rw[hb] at h;exact aqO hH ht hh LY h1 h2 h3 h4 h5 (yi hb) h
    split at hv
    .rename_i e e' h1 h2
     split at hv
     .rename_i sz by' z h3 h4 h5
      exact key h1 (.inl ⟨_,h2⟩) h3 h4 h5 hv
     .exact (oD hv).elim
    .rename_i e h1 h2
     split at hv
     .rename_i sz by' z h3 h4 h5
      exact key h1 (.inr h2) h3 h4 h5 hv
     .exact (oD hv).elim
    .exact (oD hv).elim
   .repeat' split at hv
    all_goals simp[cx,bad] at hv
   .rename_i x y t u fF zf;obtain⟨al⟩:=args;obtain⟨tl⟩:=ts;simp only at fF zf;subst fF;subst zf;obtain⟨cs,ff⟩:=CW (O:=O) (w:=w) (a:=a) ho;have LY:(execOp a.eval o).run O.P w=((do pure (.value (<-Builtin.copy_ #[t,u] o.type #[a.eval x,a.eval y])):Sem ybk)).run O.P w:=by
     rw[ff];simp[builtin]
    split at hv
    .rename_i e h1
     split at hv
     .rename_i sz h3;exact aqP hH ht hh LY h1 h3 hv
     .exact (oD hv).elim
    .exact (oD hv).elim
   .simp [cx] at hv
   .simp [cx] at hv
   .simp [cx] at hv
   .simp [cx] at hv
   .simp [cx] at hv
   .exact (oD hv).elim
  .exact (oD hv).elim
 | store t x y=>
  simp only[aW,ho] at hv
  split at hv
  .rename_i s hs;exact atb hH ht hh ho hs hv
  .exact (oD hv).elim
 | mapUpdate t x k y=>
  simp only[aW,ho] at hv
  split at hv
  .rename_i kt e hu
   split at hv
   .rename_i kk qd;exact adV hH ht hh (.inl ho) hu qd hv
   .exact (oD hv).elim
  .exact (oD hv).elim
 | insert t x k y=>
  simp only[aW,ho] at hv
  split at hv
  .rename_i kt e hu
   split at hv
   .rename_i kk qd;exact adV hH ht hh (.inr ho) hu qd hv
   .exact (oD hv).elim
  .exact (oD hv).elim
 | next x b=>
  cases b with
  | false=>simp only[aW,ho] at hv;exact (oD hv).elim
  | true=>exact aqN hH ht hh ho (by simpa only[aW,ho] using hv)
 | binOp op t x y ty=>
  cases op<;>simp only[aW,ho,sr,zL] at hv
  case eql=>
        repeat' split at hv
        all_goals first
         | (simp[cx,bad] at hv;done)
         | (cases hb:(O.P.stoodInHeld t||O.P.eqGuardType O.P.depth t)<;>rw[hb] at hv<;>simp[cx,bad] at hv)
  case neq=>
        repeat' split at hv
        all_goals first
         | (simp[cx,bad] at hv;done)
         | (cases hb:(O.P.stoodInHeld t||O.P.eqGuardType O.P.depth t)<;>rw[hb] at hv<;>simp[cx,bad] at hv)
  all_goals simp[cx] at hv
 | buildSlice t n parts=>
  simp only[aW,ho] at hv
  repeat' split at hv
  all_goals first
   | (simp[cx,bad] at hv;done)
   | (
     revert hv;generalize yG _ _=bb;intro hv;cases bb<;>simp[cx,bad] at hv
     try (split at hv<;>simp[cx,bad] at hv))
 | makeMap t r=>
  cases r<;>simp only[aW,ho] at hv
  .repeat' split at hv
   all_goals simp[cx,bad] at hv
  .exact (oD hv).elim
 | _=>
  simp only[aW,ho] at hv
  (repeat' split at hv)
  all_goals first
   | contradiction
   | (simp[cx,bad] at hv;done)
end
end
section
variable {v x:AV}{hp:Hp}{o:Op}
section
variable {hp H:Hp}{tm tm':Env}
def aff(hl:dD hp H){id:Nat}{pu ex:Bool}{cs:List AV}(h:ah hp id=GR (.cells rw pu ex sz cs)):∃cP,ah H id=GR (.cells cP pu ex sz cs):=by
 obtain⟨o',h1,cP,rfl,_⟩:=hl id _ h
 grind
def afg(hl:dD hp H){id:Nat}{ks vs:List AV}(h:ah hp id=GR (.mp rw ks vs)):∃cP,ah H id=GR (.mp cP ks vs):=by
 obtain⟨o',h1,cP,rfl,_⟩:=hl id _ h
 grind
def Wa(hl:dD hp H){ag:Bool}(h:gk hp sz ag x=GR v):gk H sz ag x=GR v:=by
 cases x<;>simp only[gk,reduceCtorEq] at h ⊢
 .rename_i id o
  cases hg:ah hp id with
  | none=>simp[hg] at h
  | some ob=>
   cases ob<;>simp only[hg,reduceCtorEq] at h
   obtain⟨r,h1⟩:=aff hl hg
   grind
 .exact h
def aqQ(hl:dD hp H){k:AV}{v:Option AV}(h:AS hp k x=GR v):AS H k x=GR v:=by
 cases x<;>simp only[AS,reduceCtorEq] at h ⊢
 .grind
 .rename_i id
  cases hg:ah hp id with
  | none=>simp[hg] at h
  | some ob=>
   cases ob<;>simp only[hg,reduceCtorEq] at h
   obtain⟨r,h1⟩:=afg hl hg
   grind
 .exact h
def aqR(hl:dD hp H){k:Nat}(h:jr hp k x=GR v):jr H k x=GR v:=by
 unfold jr at h ⊢
 split at h
 all_goals first
  | exact h
  | cases h
  | skip
 rename_i id
 cases hg:ah hp id with
 | none=>simp[hg] at h
 | some ob=>
  cases ob<;>simp only[hg,reduceCtorEq] at h
  obtain⟨r,h1⟩:=afg hl hg
  grind
def aqS(hl:dD hp H){k:Cut}{lo hi:Option X}(h:gg hp k x tm lo hi=GR v):gg H k x tm lo hi=GR v:=by
 unfold gg at h ⊢
 split at h
 all_goals first
  | exact h
  | cases h
  | skip
 rename_i sz id o n
 cases hg:ah hp id with
 | none=>simp[hg] at h
 | some ob=>
  cases ob<;>simp only[hg,reduceCtorEq] at h
  obtain⟨r,h1⟩:=aff hl hg
  grind
def aoZ(hl:dD hp H)(h:bm tm hp o=GR v):bm tm H o=GR v:=by
 cases o<;>simp only[bm,reduceCtorEq] at h ⊢<;>first
  | exact h
  | exact Wa hl h
  | exact aqR hl h
  | exact aqS hl h
  | skip
 rename_i kk zero ok m k
 cases hk:lE kk (az tm k) with
 | false=>rw[hk] at h;cases h
 | true=>
  rw[hk] at h
  cases hr:AS hp (az tm k) (az tm m) with
  | none=>simp[hr] at h
  | some r=>rw[aqQ hl hr];simpa only[hr] using h
def ao0(hk:br o=0)(hp H:Hp):bm tm hp o=bm tm H o:=by
 cases o with
 | zb k x lo hi=>
  cases k with
  | str=>simp only[bm,gg];cases az tm x<;>rfl
  | sl sz=>simp[br] at hk
  | ar n sz=>simp[br] at hk
 | len k x=>
  match k,hk with
  | 0,_=>simp only[bm];unfold jr;split<;>simp_all
  | 1,_=>simp only[bm];unfold jr;split<;>simp_all
  | k+2,hk=>simp[br] at hk
 | call md f xs=>cases md<;>simp[br] at hk
 | _=>first
  | rfl
  | simp[br] at hk
end
section
variable {tm tm':Env}
def ek{x:X}(h:∀t,t∈kK x->ak tm' t=ak tm t):az tm' x=az tm x:=by
 cases x with
 | t i=>exact h i (by simp[kK])
 | c v=>rfl
def EM:∀{xs:List X},(∀t,t∈BU xs->ak tm' t=ak tm t)->dV tm' xs=dV tm xs
 | [],_=>rfl
 | x::r,h=>by
  simp only[dV]
  rw[ek (x:=x) (fun t ht=>h t (by simp[BU,ht])),EM (fun t ht=>h t (by simp[BU,ht]))]
def Pc:∀{ps:List (Nat×Nat×X)} {z:List AV},(∀t,t∈LU ps->ak tm' t=ak tm t)->fill tm' z ps=fill tm z ps
 | [],_,_=>rfl
 | (o,s,x)::r,z,h=>by
  simp only[fill]
  rw[ek (x:=x) (fun t ht=>h t (by simp[LU,ht]))]
  rw[Pc (ps:=r) (fun t ht=>h t (by simp[LU,ht]))]
def acf{x:Option X}(h:∀t,t∈LS x->ak tm' t=ak tm t):dn tm' d x=dn tm d x:=by
 cases x with
 | none=>rfl
 | some x=>simp only[dn];rw[ek h]
def an7{k:Cut}{lo hi:Option X}(h1:∀t,t∈LS lo->ak tm' t=ak tm t)(h2:∀t,t∈LS hi->ak tm' t=ak tm t):
  gg hp k x tm' lo hi=gg hp k x tm lo hi:=by
 unfold gg;simp only[acf h1,acf h2]
def anA(h:∀t,t∈mq o->ak tm' t=ak tm t):bm tm' hp o=bm tm hp o:=by
 cases o<;>simp only[mq,wD] at h<;>simp only[bm]
 case pick c a b=>rw[ek (x:=c) fun t ht=>h t (.inl ht),ek (x:=a) fun t ht=>h t (.inr (.inl ht)),ek (x:=b) fun t ht=>h t (.inr (.inr ht))]
 case pM z ps=>rw[Pc h]
 case ru n s z ps=>rw[Pc h]
 case Gb f a b=>rw[EM (xs:=a) fun t ht=>h t (.inl ht),EM (xs:=b) fun t ht=>h t (.inr ht)]
 case zb k x lo hi=>rw[ek (x:=x) fun t ht=>h t (.inl ht),an7 (fun t ht=>h t (.inr (.inl ht))) (fun t ht=>h t (.inr (.inr ht)))]
 case mn xs=>rw[EM h]
 case mx xs=>rw[EM h]
 case bin op x y=>rw[ek (x:=x) fun t ht=>h t (.inl ht),ek (x:=y) fun t ht=>h t (.inr ht)]
 case Nt x y=>rw[ek (x:=x) fun t ht=>h t (.inl ht),ek (x:=y) fun t ht=>h t (.inr ht)]
 case eq n k x y=>rw[ek (x:=x) fun t ht=>h t (.inl ht),ek (x:=y) fun t ht=>h t (.inr ht)]
 case bk s x y=>rw[ek (x:=x) fun t ht=>h t (.inl ht),ek (x:=y) fun t ht=>h t (.inr ht)]
 case D1 l s x y=>rw[ek (x:=x) fun t ht=>h t (.inl ht),ek (x:=y) fun t ht=>h t (.inr ht)]
 case IB x y=>rw[ek (x:=x) fun t ht=>h t (.inl ht),ek (x:=y) fun t ht=>h t (.inr ht)]
 case IC l s g x y=>rw[ek (x:=x) fun t ht=>h t (.inl ht),ek (x:=y) fun t ht=>h t (.inr ht)]
 case Gc kk z ok x y=>rw[ek (x:=x) fun t ht=>h t (.inl ht),ek (x:=y) fun t ht=>h t (.inr ht)]
 all_goals first
  | rfl
  | (rename_i x;rw[ek (x:=x) h])
def J8{ap:Hp}(h:∀t,t∈mq o->ak tm' t=ak tm t):cR tm' ap ct o=cR tm hp ct o:=by
 cases o<;>simp only[mq,wD] at h<;>simp only[cR]
 case box s x=>rw[ek (x:=x) h]
 case km n s z ps=>rw[Pc h]
 case oP s b z x y=>rw[ek (x:=x) fun t ht=>h t (.inl ht),ek (x:=y) fun t ht=>h t (.inr ht)]
 case zc x=>rw[ek (x:=x) h]
def EK(h:∀t,t∈mq o->ak tm' t=ak tm t):cx tm' hp ct o=cx tm hp ct o:=by
 cases o<;>simp only[mq,wD] at h<;>simp only[cx]
 case st s x y=>rw[ek (x:=x) fun t ht=>h t (.inl ht),ek (x:=y) fun t ht=>h t (.inr ht)]
 case pZ kk c a b=>rw[ek (x:=c) fun t ht=>h t (.inl ht),ek (x:=a) fun t ht=>h t (.inr (.inl ht)),ek (x:=b) fun t ht=>h t (.inr (.inr ht))]
 case zd x=>rw[ek (x:=x) h]
 case eE s b x y=>rw[ek (x:=x) fun t ht=>h t (.inl ht),ek (x:=y) fun t ht=>h t (.inr ht)]
 case p7 s x y=>rw[ek (x:=x) fun t ht=>h t (.inl ht),ek (x:=y) fun t ht=>h t (.inr ht)]
end
end
section
open Go
section
variable {r:AV}{bs:List Nat}{lo:Nat}{ae:Nat->Nat}{u:ym}
structure Calm(w w':yo):Prop where
 os:w'.os=w.os
 tape:w'.tape=w.tape
 output:w'.output=w.output
 size:w.heap.size<=w'.heap.size
 same:∀b,b<w.heap.size->w'.heap[b]? =w.heap[b]?
def Calm.refl{w:yo}:Calm w w:=⟨rfl,rfl,rfl,yz _,fun _ _=>rfl⟩
def Dz(O:bE)(w:yo):Prop:=(∀b,b<O.w0.heap.size->w.heap[b]? =O.w0.heap[b]?)/\O.w0.heap.size<=w.heap.size
def fI:Mp:=fun _=>GS
def kB(ae:Nat->Nat)(S:Nat->Prop)(w:yo)(lo:Nat):AV->ym->List Nat->Prop
 | .c9 ex sz n cs,u,bs=>∃b o c arr t,bs=[b]/\u=.slice (GR ⟨b,o,GS⟩) n c/\n<=c/\(ex=ydB->c=n)/\lo<=b/\¬S b/\w.heap[b]? =GR (.cells arr t (0,0))/\cs.length=n*sz/\
   o+c*sz<=arr.size/\b9 ae fI S w cs b o/\aF cs=ydB
 | r,u,bs=>bs=[]/\af ae fI S w r u/\aX r=ydB
def mX(ae:Nat->Nat)(S:Nat->Prop)(w:yo)(lo:Nat):List AV->List ym->List Nat->Prop
 | [],us,bs=>us=[]/\bs=[]
 | v::r,us,bs=>∃u t b1 b2,us=u::t/\bs=b1++b2/\kB ae S w lo v u b1/\mX ae S w lo r t b2
def qW(ae:Nat->Nat)(S:Nat->Prop)(w:yo)(lo:Nat)(r:AV)(u:ym):Prop:=
 match r with
 | .av vs=>∃(us:Array ym) (bs:List Nat),u=.tuple us/\mX ae S w lo vs us.toList bs/\bs.Nodup
 | r=>∃bs,kB ae S w lo r u bs
def Dh(P:xp)(f:FuncId)(args:Array ym)(w:yo)(R:ybm->yo->Prop):Prop:=
 ((callFunc f args).run P w=.ok (.enter f args) w/\CallsIn Fence.wide 0 P f args w R)\/∃u w',(callFunc f args).run P w=.ok (.value u) w'/\R (.returned u) w'
def adW(O:bE)(w:yo)(S:Nat->Prop)(r:AV)(e:ybm)(w':yo):Prop:=
 ∃u S',e=.returned u/\Calm w w'/\(∀b,S b->S' b)/\(∀b,S' b->S b\/w.heap.size<=b)/\(∀b,S' b->b<w'.heap.size)/\qW O.ae S' w' w.heap.size r u
def eR(O:bE)(n:Nat)(ax:List AV)(r:AV):Prop:=
 ∀(w:yo) (S:Nat->Prop) (args:Array ym),Dz O w->(∀b,S b->b<w.heap.size)->aA O.ae fI S w ax args.toList->aF ax=ydB->
  Dh O.P (O.ae n) args w (adW O w S r)
def BN(O:bE)(m:Mp)(S:Nat->Prop)(w:yo)(hp:Hp)(ct:Nat)(v:AV)(ap:Hp)(aQ:Nat)(e:ybm)(w':yo):Prop:=
 ∃u m' S',e=.returned u/\aU O m' S' w' ap aQ/\ct<=aQ/\af O.ae m' S' w' v u/\cr m S w hp m' S' w' ap ct
def DA(O:bE)(n:Nat)(hp:Hp)(ct:Nat)(ax:List AV)(v:AV)(ap:Hp)(aQ:Nat):Prop:=
 ∀(m:Mp) (S:Nat->Prop) (w:yo) (args:Array ym),aU O m S w hp ct->aA O.ae m S w ax args.toList->Dh O.P (O.ae n) args w (BN O m S w hp ct v ap aQ)
section
variable {ae:Nat->Nat}{m m':Mp}{S S':Nat->Prop}{w w':yo}
mutual
def zH(hS:∀b,S b->S' b)(hw:ic S w w'):∀(v:AV) (u:ym),aX v=ydB->af ae m S w v u->af ae m' S' w' v u
 | .int _ _,_,_,h | .bool _,_,_,h | .an _ _,_,_,h | .dI _ _ _,_,_,h | .str _,_,_,h | .ll,_,_,h | .aj,_,_,h | .fQ,_,_,h | .gU,_,_,h | .undef,_,_,h=>by
  simpa only[af] using h
 | .ptr id o,u,hp,h=>by simp[aX] at hp
 | .bC cs,u,hp,h=>by
  simp only[af] at h ⊢;obtain⟨b,o,h1,h2,h3,h4⟩:=h;refine⟨b,o,h1,h2.imp id (hS b),h3,?_⟩;rcases h2 with rfl | h2
  .simp only [b9]
  .exact UM hS hw cs b o h3 h2 h4
 | .au ex n cs,u,hp,h=>by
  simp only[af] at h ⊢;rcases h with ⟨b,o,c,h1,h2,h3,h4,h5,h6⟩ | h
  .refine .inl ⟨b,o,c,h1,h2,h3,h4.imp id (hS b),h5,?_⟩;rcases h4 with rfl | h4
   .simp only [b9]
   .exact UM hS hw cs b o h5 h4 h6
  .exact .inr h
 | .c9 _ _ _ _,u,hp,h=>by simp[aX] at hp
 | .ay id o n,u,hp,h=>by simp[aX] at hp
 | .fn (.f g) first cap,u,hp,h=>by
  simp only[af] at h ⊢;simp only[aX,yf] at hp;obtain⟨fi,ca,h1,h2,h3⟩:=h;exact⟨fi,ca,h1,BL hS hw first _ hp.1 h2,BL hS hw cap _ hp.2 h3⟩
 | .fn (.y l) _ _,u,hp,h=>by simp[aX] at hp
 | .map id,u,hp,h=>by simp[aX] at hp
 | .kj ks vs,u,hp,h=>by
  simp only[af] at h ⊢;obtain⟨b,es,clock,h1,h2,h3,h4,h5,h6,h7⟩:=h;exact⟨b,es,clock,h1,hS b h2,h3,h4,(hw b h2).trans h5,BL hS hw ks _ h3 h6,BL hS hw vs _ h4 h7⟩
 | .it id,u,hp,h=>by simp[aX] at hp
 | .agg cs,u,hp,h=>by
  simp only[af] at h ⊢;simp only[aX] at hp;obtain⟨xs,h1,h2⟩:=h;exact⟨xs,h1,BL hS hw cs _ hp h2⟩
 | .av cs,u,hp,h=>by
  simp only[af] at h ⊢;simp only[aX] at hp;obtain⟨xs,h1,h2⟩:=h;exact⟨xs,h1,BL hS hw cs _ hp h2⟩
def BL(hS:∀b,S b->S' b)(hw:ic S w w'):∀(vs:List AV) (us:List ym),aF vs=ydB->aA ae m S w vs us->aA ae m' S' w' vs us
 | [],us,_,h=>by simpa only[aA] using h
 | v::r,us,hp,h=>by
  simp only[aA] at h ⊢;simp only[aF,yf] at hp;have⟨u,t,h1,h2,h3⟩:=h;exact⟨u,t,h1,zH hS hw v u hp.1 h2,BL hS hw r t hp.2 h3⟩
def UM(hS:∀b,S b->S' b)(hw:ic S w w'):∀(cs:List AV) (b o:Nat),aF cs=ydB->S b->b9 ae m S w cs b o->b9 ae m' S' w' cs b o
 | [],_,_,_,_,_=>by simp only[b9]
 | c::cs,b,o,hp,hb,h=>by
  simp only[b9] at h ⊢;simp only[aF,yf] at hp;have⟨⟨u,h1,h2⟩,h3⟩:=h;exact⟨⟨u,(OL (hw b hb)).trans h1,zH hS hw c u hp.1 h2⟩,UM hS hw cs b (o+1) hp.2 hb h3⟩
end
def CX(hS:∀b,S b->S' b)(hw:ic S w w'):∀(cs:List AV) (b o:Nat),aF cs=ydB->w'.heap[b]? =w.heap[b]? ->b9 ae m S w cs b o->b9 ae m' S' w' cs b o
 | [],_,_,_,_,_=>by simp only[b9]
 | c::cs,b,o,hp,hb,h=>by
  simp only[aF,yf] at hp;have⟨⟨u,h1,h2⟩,h3⟩:=h;exact⟨⟨u,(OL hb).trans h1,zH hS hw c u hp.1 h2⟩,CX hS hw cs b (o+1) hp.2 hb h3⟩
end
section
variable {O:bE}{m:Mp}{S S':Nat->Prop}{w w':yo}{hp:Hp}{ct:Nat}
def ao1(hh:aU O m S w hp ct)(hw:Calm w w'):ic S w w':=fun b hb=>hw.same b (hh.slt b hb)
def ES(hh:aU O m S w hp ct)(hw:Calm w w')(hS:∀b,S b->S' b)(hn:∀b,S' b->S b\/w.heap.size<=b)(hl:∀b,S' b->b<w'.heap.size):aU O m S' w' hp ct where
 obj id o p ho hm:=AB (fun _ _ h=>h) hS (ao1 hh hw) (fun q hq=>hw.same _ (hh.blt id q hq)) (fun q hq hs=>(hn _ hs).resolve_right (by have:=hh.blt id q hq;lia)) (hh.obj id o p ho hm)
 lt:=hh.lt
 inj:=hh.inj
 slt:=hl
 blt id p h:=yF (hh.blt id p h) hw.size
 low:=hh.low
 nI b hb:=(hw.same b (yF hb hh.ig)).trans (hh.nI b hb)
 ig:=y7 hh.ig hw.size
 aG:=hh.aG
def C9(hh:aU O m S w hp ct)(hw:Calm w w')(hS:∀b,S b->S' b)(hn:∀b,S' b->S b\/w.heap.size<=b):cr m S w hp m S' w' hp base where
 os:=hw.os
 tape:=hw.tape
 output:=hw.output
 size:=hw.size
 same b hb _:=hw.same b hb
 sub:=hS
 still b hb:=hw.same b (hh.slt b hb)
 new b hb:=(hn b hb).imp id .inr
 own b hb:=.inl hb
 old _ _ _ h:=h
 loops b r hb:=⟨r,(hw.same b (xx.1 hb).1).trans hb⟩
def aqT{i:Nat}(hh:aU O m S w hp ct)(hi:m i=GS)(IE:i<ct){p:Pl}(hb:p.b<w.heap.size)(aY:O.w0.heap.size<=p.b)(IF:¬S p.b)(rI:∀j q,m j=GR q->q.b≠p.b)(hf:∀o,ah hp i=GR o->(gl O (gn m i p) S w i o/\¬kY o)\/(kY o/\gl O (gn m i p) (fun b=>S b\/b=p.b) w i o)):
  ∃S',aU O (gn m i p) S' w hp ct/\(∀b,S b->S' b)/\∀b,S' b->S b\/b=p.b:=by
 have aR:ic S w w:=fun _ _=>rfl
 have gen:∀S':Nat->Prop,(∀b,S b->S' b)->(∀b,S' b->S b\/b=p.b)->(∀o,ah hp i=GR o->gl O (gn m i p) S' w i o)->aU O (gn m i p) S' w hp ct:=by
  intro S' h1 h2 h3;refine⟨?_,?_,?_,?_,?_,?_,hh.nI,hh.ig,hh.aG⟩
  .intro id o q ho hm;by_cases hc:id=i
   .grind
   .rw [eX hc] at hm;refine AB (mh hi) h1 aR (fun _ _=>rfl) (fun q' bR hs=>?_) (hh.obj id o q ho hm)
    grind
  .intro id q hm;by_cases hc:id=i
   .grind
   .rw [eX hc] at hm;exact hh.lt id q hm
  .intro a b oa ob pa pb ha aS Gg Cf e;by_cases ca:a=i
   .by_cases cb:b=i
    .grind
    .subst ca;rw[eB] at Gg;rw[eX cb] at Cf
     grind
   .rw [eX ca] at Gg;by_cases cb:b=i
    .subst cb;rw[eB] at Cf
     grind
    .rw [eX cb] at Cf;exact hh.inj a b oa ob pa pb ha aS Gg Cf e
  .intro b hs;rcases h2 b hs with h | h
   .exact hh.slt b h
   .grind
  .intro id q hm;by_cases hc:id=i
   .subst hc;rw[eB] at hm
    grind
   .rw [eX hc] at hm;exact hh.blt id q hm
  .intro id q hm;by_cases hc:id=i
   .subst hc;rw[eB] at hm
    grind
   .rw [eX hc] at hm;exact hh.low id q hm
 cases ho:ah hp i with
 | none=>exact⟨S,gen S (fun _ h=>h) (fun _ h=>.inl h) (fun o h=>by rw[ho] at h;cases h),fun _ h=>h,fun _ h=>.inl h⟩
 | some o=>
  rcases hf o ho with ⟨h1,_⟩ | ⟨_,h1⟩
  .exact ⟨S,gen S (fun _ h=>h) (fun _ h=>.inl h) (fun o' h=>by rw[ho] at h;injection h with h;subst h;exact h1),fun _ h=>h,fun _ h=>.inl h⟩
  .exact ⟨_,gen (fun b=>S b\/b=p.b) (fun _ h=>.inl h) (fun _ h=>h) (fun o' h=>by rw[ho] at h;injection h with h;subst h;exact h1),fun _ h=>.inl h,fun _ h=>h⟩
def ac1(h:kB ae S w lo r u bs)(m:Mp)(hS:∀b,S b->S' b)(hbs:∀b,b∈bs->S' b):af ae m S' w (bN r) u:=by
 have aR:ic S w w:=fun _ _=>rfl
 cases r with
 | c9 ex sz n cs=>
  obtain⟨b,o,c,arr,t,rfl,rfl,h1,h2,h3,h4,h5,h6,h7,h8,h9⟩:=h;exact .inl ⟨b,o,c,rfl,h1,h2,.inr (hbs b (by simp)),h9,CX hS aR cs b o h9 rfl h8⟩
 | _=>simp only[kB] at h;exact zH hS aR _ _ h.2.2 h.2.1
def ac2{ae:Nat->Nat}{lo:Nat}(m:Mp)(hS:∀b,S b->S' b):∀{vs:List AV} {us:List ym} {bs:List Nat},mX ae S w lo vs us bs->(∀b,b∈bs->S' b)->aA ae m S' w (Fs vs) us
 | [],us,bs,h,_=>by simp only[mX] at h;exact h.1
 | v::r,us,bs,h,hb=>by
  obtain⟨u,t,b1,b2,rfl,rfl,h1,h2⟩:=h;exact⟨u,t,rfl,ac1 h1 m hS (fun b aS=>hb b (by simp[aS])),ac2 m hS h2 (fun b aS=>hb b (by simp[aS]))⟩
def Wb(h:kB ae S w lo r u bs):∀b,b∈bs->lo<=b/\b<w.heap.size:=by
 intro b hb
 cases r with
 | c9 ex sz n cs=>
  simp only[kB] at h
  grind
 | _=>simp only[kB] at h;rw[h.1] at hb;cases hb
def Wc{ae:Nat->Nat}{lo:Nat}:∀{vs:List AV} {us:List ym} {bs:List Nat},mX ae S w lo vs us bs->∀b,b∈bs->lo<=b/\b<w.heap.size
 | [],us,bs,h,b,hb=>by simp only[mX] at h;rw[h.2] at hb;cases hb
 | v::r,us,bs,h,b,hb=>by
  obtain⟨u,t,b1,b2,rfl,rfl,h1,h2⟩:=h;rcases wD.1 hb with hb | hb
  .exact Wb h1 b hb
  .exact Wc h2 b hb
def ac3(h:qW ae S w lo r u)(m:Mp):∃S',(∀b,S b->S' b)/\(∀b,S' b->S b\/(lo<=b/\b<w.heap.size))/\af ae m S' w (shut r) u:=by
 have one:∀(r:AV) (bs:List Nat),shut r=bN r->kB ae S w lo r u bs->∃S',(∀b,S b->S' b)/\(∀b,S' b->S b\/(lo<=b/\b<w.heap.size))/\af ae m S' w (shut r) u:=by
  intro r bs hs h;refine⟨fun b=>S b\/b∈bs,fun _ h=>.inl h,fun b hb=>hb.imp (fun x=>x) (fun hb=>Wb h b hb),?_⟩;rw[hs];exact ac1 h m (fun _ h=>.inl h) (fun _ h=>.inr h)
 cases r with
 | av vs=>
  obtain⟨us,bs,rfl,h1,h2⟩:=h;refine⟨fun b=>S b\/b∈bs,fun _ h=>.inl h,fun b hb=>hb.imp (fun x=>x) (fun hb=>Wc h1 b hb),?_⟩;exact⟨us,rfl,ac2 m (fun _ h=>.inl h) h1 (fun _ h=>.inr h)⟩
 | _=>
  have⟨bs,h⟩:=h;exact one _ bs rfl h
end
end
end
section
open Go
section
variable {r:AV}{hp:Hp}{ct:Nat}
section
variable {O:bE}{m:Mp}{S:Nat->Prop}{w:yo}{H:Hp}{cH:Nat}
def PV:ct<=(gi hp ct r).2.2:=by
 cases r<;>simp only[gi]<;>lia
def PW:∀{vs:List AV} {hp:Hp} {ct:Nat},ct<=(lQ hp ct vs).2.2
 | [],hp,ct=>by simp[lQ]
 | v::r,hp,ct=>by
  simp only[lQ];have h1:=PV (hp:=hp) (ct:=ct) (r:=v);have h2:=PW (vs:=r) (hp:=(gi hp ct v).2.1) (ct:=(gi hp ct v).2.2)
  lia
def We(hf:∀id o,ah hp id=GR o->id<ct):∀id o,ah hp id=GR o->ah (gi hp ct r).2.1 id=GR o:=by
 intro id o h;cases r<;>simp only[gi]<;>try exact h
 rw[iU,yq (by have:=hf id o h;lia)]
 exact h
def afh{lo:Nat}{u:ym}{bs:List Nat}(hh:aU O m S w H cH)(hl:dD (gi hp ct r).2.1 H)(jg:(gi hp ct r).2.2<=cH)(hn:∀id,ct<=id->id<(gi hp ct r).2.2->m id=GS)(hr:kB O.ae S w lo r u bs)(aY:O.w0.heap.size<=lo)(rI:∀j q,m j=GR q->q.b∉bs):
  ∃m' S',aU O m' S' w H cH/\dT m m'/\(∀id p,m' id=GR p->m id=GR p\/(ct<=id/\id<(gi hp ct r).2.2/\p.b∈bs))/\af O.ae m' S' w (gi hp ct r).1 u/\(∀b,S b->S' b)/\(∀b,S' b->S b\/b∈bs):=by
 have aR:ic S w w:=fun _ _=>rfl
 cases r with
 | c9 ex sz n cs=>
  simp only[gi] at hl jg hn;obtain⟨b,o,c,arr,t,rfl,rfl,h1,h2,h3,h4,h5,h6,h7,h8,h9⟩:=hr;have bM:m ct=GS:=hn ct (yz _) (Nat.lt_succ_self _);have aBL:b<w.heap.size:=(xx.1 h5).1;have rH:gl O (gn m ct ⟨b,o,c*sz,sz⟩) S w ct (.cells ydB ydB ex sz cs):=by
   refine⟨_,arr,t,eB,h5,rfl,?_,h7,fun hx=>?_,CX (fun _ h=>h) aR cs b o h9 rfl h8,fun _=>h9,fun _=>h4,by simp⟩
   .show cs.length<=c*sz
    rw[h6];exact yT _ h1
   .grind
  have⟨S',k1,k2,k3⟩:=aqT (p:=⟨b,o,c*sz,sz⟩) hh bM (by lia) aBL (by show _<=b;lia) h4 (fun j q hq e=>rI j q hq (by rw[e];simp)) (fun o' ni=>by
   have⟨o'',g1,g2⟩:=hl ct (.cells ydB ydB ex sz cs) (by rw[iU];simp)
   rw[ni] at g1;injection g1 with g1
   subst g1
   exact abM (p:=⟨b,o,c*sz,sz⟩) g2 eB rH (by simp[kY]))
  refine⟨_,S',k1,mh bM,fun id p ap=>?_,?_,k2,fun b' aS=>(k3 b' aS).imp (fun h=>h) (fun h=>by rw[h];simp)⟩
  .by_cases hc:id=ct
   .subst hc;rw[eB] at ap;injection ap with ap
    subst ap;exact .inr ⟨yz _,by simp[gi],by simp⟩
   .rw [eX hc] at ap;exact .inl ap
  .simp only [gi,af];exact⟨_,c,eB,by simp,h1,by simp⟩
 | _=>
  exact⟨m,S,hh,dT.refl,fun _ _ h=>.inl h,zH (fun _ h=>h) aR _ _ hr.2.2 hr.2.1,fun _ h=>h,fun _ h=>.inl h⟩
def KG(hf:∀id o,ah hp id=GR o->id<ct):∀id o,ah (gi hp ct r).2.1 id=GR o->id<(gi hp ct r).2.2:=by
 intro id o h;cases r<;>simp only[gi] at h ⊢<;>try exact hf id o h
 rw[iU] at h
 grind
def PX:∀{vs:List AV} {hp:Hp} {ct:Nat},(∀id o,ah hp id=GR o->id<ct)->∀id o,ah hp id=GR o->ah (lQ hp ct vs).2.1 id=GR o
 | [],hp,ct,_,id,o,h=>by simpa[lQ] using h
 | v::r,hp,ct,hf,id,o,h=>by
  exact PX (KG hf) id o (We hf id o h)
def afi{lo:Nat}(aY:O.w0.heap.size<=lo):∀{vs:List AV} {us:List ym} {bs:List Nat} {hp:Hp} {ct:Nat} {m:Mp} {S:Nat->Prop},aU O m S w H cH->dD (lQ hp ct vs).2.1 H->(lQ hp ct vs).2.2<=cH->
  (∀id o,ah hp id=GR o->id<ct)->(∀id,ct<=id->id<(lQ hp ct vs).2.2->m id=GS)->
  mX O.ae S w lo vs us bs->bs.Nodup->(∀j q,m j=GR q->q.b∉bs)->
  ∃m' S',aU O m' S' w H cH/\dT m m'/\(∀id p,m' id=GR p->m id=GR p\/(ct<=id/\id<(lQ hp ct vs).2.2/\p.b∈bs))/\aA O.ae m' S' w (lQ hp ct vs).1 us/\(∀b,S b->S' b)/\(∀b,S' b->S b\/b∈bs)
 | [],us,bs,hp,ct,m,S,hh,hl,jg,hf,hn,hr,nk,rI=>by
  simp only[mX] at hr;exact⟨m,S,hh,dT.refl,fun _ _ h=>.inl h,by simp only[lQ,aA];exact hr.1,fun _ h=>h,fun _ h=>.inl h⟩
 | v::r,us,bs,hp,ct,m,S,hh,hl,jg,hf,hn,hr,nk,rI=>by
  simp only[mX] at hr;obtain⟨u,t,b1,b2,rfl,rfl,h1,h2⟩:=hr;simp only[lQ] at hl jg hn ⊢;have fk:=PV (hp:=hp) (ct:=ct) (r:=v);have Eb:=PW (vs:=r) (hp:=(gi hp ct v).2.1) (ct:=(gi hp ct v).2.2);rw[List.nodup_append] at nk;have⟨m1,S1,k1,k2,k3,k4,k5,k6⟩:=afh (hp:=hp) (ct:=ct) (lo:=lo) hh ((fun id o h=>hl id o (PX (KG hf) id o h))) (by lia) (fun id g1 g2=>hn id g1 (by lia)) h1 aY
   (fun j q hq hb=>rI j q hq (by simp[hb]))
  have h2':mX O.ae S1 w lo r t b2:=by
   clear k4;have Yd:∀b,S1 b->S b\/b∈b1:=k6;have hd:∀b,b∈b2->b∉b1:=fun b hb jh=>nk.2.2 b jh b hb rfl
   have one:∀{v:AV} {u:ym} {bb:List Nat},(∀b,b∈bb->b∉b1)->kB O.ae S w lo v u bb->kB O.ae S1 w lo v u bb:=by
    intro v u bb oQ h
    cases v with
    | c9 ex sz n cs=>
     simp only[kB] at h ⊢;obtain⟨b,o,c,arr,tt,rfl,rfl,g1,g2,g3,g4,g5,g6,g7,g8,g9⟩:=h;exact⟨b,o,c,arr,tt,rfl,rfl,g1,g2,g3,fun hs=>(Yd b hs).elim g4 (oQ b (by simp)),g5,g6,g7,CX k5 (fun _ _=>rfl) cs b o g9 rfl g8,g9⟩
    | _=>simp only[kB] at h ⊢;exact⟨h.1,zH k5 (fun _ _=>rfl) _ _ h.2.2 h.2.1,h.2.2⟩
   clear k1 k2 k3 hl jg hn rI nk;revert hd h2;generalize b2=bb
   induction r generalizing t bb with
   | nil=>intro h2 hd;simpa only[mX] using h2
   | cons v' r ih=>
    intro h2 hd;simp only[mX] at h2 ⊢;obtain⟨u',t',c1,c2,rfl,rfl,g1,g2⟩:=h2
    exact⟨u',t',c1,c2,rfl,rfl,one (fun b hb=>hd b (by simp[hb])) g1,ih _ (by
     have:=PW (vs:=r) (hp:=(gi hp ct v).2.1) (ct:=(gi hp ct v).2.2)
     exact this) _ g2 (fun b hb=>hd b (by simp[hb]))⟩
  have⟨m2,S2,g1,g2,g3,g4,g5,g6⟩:=afi aY (vs:=r) (us:=t) (bs:=b2) (m:=m1) (S:=S1) k1 hl jg (KG hf) (fun id q1 q2=>by
   cases hq:m1 id with
   | none=>rfl
   | some p=>
    rcases k3 id p hq with h | ⟨_,h,_⟩
    .rw [hn id (by lia) q2] at h;cases h
    .lia) h2' nk.2.1 (fun j q hq hb=>by
     rcases k3 j q hq with h | ⟨_,_,h⟩
     .exact rI j q h (by simp[hb])
     .exact nk.2.2 q.b h q.b hb rfl)
  refine⟨m2,S2,g1,k2.trans g2,fun id p ap=>?_,?_,fun b hb=>g5 b (k5 b hb),fun b hb=>?_⟩
  .rcases g3 id p ap with h | ⟨a1,a2,a3⟩
   .rcases k3 id p h with h | ⟨a1,a2,a3⟩
    .exact .inl h
    .exact .inr ⟨a1,by lia,by simp[a3]⟩
   .exact .inr ⟨by lia,a2,by simp[a3]⟩
  .simp only [aA];exact⟨u,t,rfl,n8 g2 g5 (fun _ _=>rfl) _ _ k4,g4⟩
  .rcases g6 b hb with h | h
   .exact (k6 b h).imp (fun h=>h) (fun h=>by simp[h])
   .exact .inr (by simp[h])
def avK{lo:Nat}{u:ym}(hh:aU O m S w H cH)(hl:dD (own hp ct r).2.1 H)(jg:(own hp ct r).2.2<=cH)(hf:∀id o,ah hp id=GR o->id<ct)(hn:∀id,ct<=id->id<(own hp ct r).2.2->m id=GS)(hr:qW O.ae S w lo r u)(aY:O.w0.heap.size<=lo)(NB:∀j q,m j=GR q->q.b<lo):
  ∃m' S',aU O m' S' w H cH/\dT m m'/\(∀id p,m' id=GR p->m id=GR p\/(ct<=id/\id<(own hp ct r).2.2/\lo<=p.b))/\af O.ae m' S' w (own hp ct r).1 u/\(∀b,S b->S' b)/\(∀b,S' b->S b\/lo<=b):=by
 have one:∀(r:AV) (bs:List Nat),own hp ct r=gi hp ct r->kB O.ae S w lo r u bs->dD (own hp ct r).2.1 H->(own hp ct r).2.2<=cH->(∀id,ct<=id->id<(own hp ct r).2.2->m id=GS)->
   ∃m' S',aU O m' S' w H cH/\dT m m'/\(∀id p,m' id=GR p->m id=GR p\/(ct<=id/\id<(own hp ct r).2.2/\lo<=p.b))/\af O.ae m' S' w (own hp ct r).1 u/\(∀b,S b->S' b)/\(∀b,S' b->S b\/lo<=b):=by
  intro r bs he hr hl jg hn;rw[he] at hl jg hn ⊢;have FN:=Wb hr;have⟨m',S',k1,k2,k3,k4,k5,k6⟩:=afh hh hl jg hn hr aY (fun j q hq hb=>by have:=NB j q hq;have:=(FN _ hb).1;lia)
  exact⟨m',S',k1,k2,fun id p h=>(k3 id p h).imp (fun h=>h) (fun h=>⟨h.1,h.2.1,(FN _ h.2.2).1⟩),k4,k5,fun b hb=>(k6 b hb).imp (fun h=>h) (fun h=>(FN _ h).1)⟩
 cases r with
 | av vs=>
  simp only[own] at hl jg hn ⊢;simp only[qW] at hr;obtain⟨us,bs,rfl,h1,h2⟩:=hr;have FN:=Wc h1;have⟨m',S',k1,k2,k3,k4,k5,k6⟩:=afi aY hh hl jg hf hn h1 h2 (fun j q hq hb=>by have:=NB j q hq;have:=(FN _ hb).1;lia)
  exact⟨m',S',k1,k2,fun id p h=>(k3 id p h).imp (fun h=>h) (fun h=>⟨h.1,h.2.1,(FN _ h.2.2).1⟩),by simp only[af];exact⟨us,rfl,k4⟩,k5,fun b hb=>(k6 b hb).imp (fun h=>h) (fun h=>(FN _ h).1)⟩
 | _=>
  simp only[qW] at hr;have⟨bs,hr⟩:=hr;exact one _ bs rfl hr hl jg hn
end
end
end
section
open Go
section
variable {tmps:Array ym}{seen:List Nat}
section
variable {O:bE}{m m':Mp}{S:Nat->Prop}{w:yo}{f:Nat->Option Nat}
def HO(f:Nat->Option Nat)(m m':Mp):Prop:=∀id j,f id=GR j->m' j=m id
mutual
def afj{ae:Nat->Nat}(hf:HO f m m'):∀(v:AV) (u:ym),af ae m S w v u->af ae m' S w (bn f v) u
 | .int _ _,_,h | .bool _,_,h | .an _ _,_,h | .dI _ _ _,_,h | .str _,_,h | .ll,_,h | .aj,_,h | .fQ,_,h | .gU,_,h | .undef,_,h=>by
  simpa only[bn,af] using h
 | .ptr id o,u,h=>by
  simp only[bn]
  cases hi:f id with
  | none=>simp only[af]
  | some j=>
   simp only[af] at h ⊢;rw[hf id j hi];exact h
 | .bC cs,u,h=>by
  simp only[bn];exact zH (fun _ h=>h) (fun _ _=>rfl) _ _ (by simp[aX]) h
 | .au ex n cs,u,h=>by
  simp only[bn];exact zH (fun _ h=>h) (fun _ _=>rfl) _ _ (by simp[aX]) h
 | .c9 _ _ _ _,u,h=>by simp only[af] at h
 | .ay id o n,u,h=>by
  simp only[bn]
  cases hi:f id with
  | none=>simp only[af]
  | some j=>
   simp only[af] at h ⊢;rw[hf id j hi];exact h
 | .fn (.f g) first cap,u,h=>by
  simp only[bn,af] at h ⊢;obtain⟨fi,ca,h1,h2,h3⟩:=h;exact⟨fi,ca,h1,Da hf first _ h2,Da hf cap _ h3⟩
 | .fn (.y l) first cap,u,h=>by
  simp only[bn]
  cases hi:f l with
  | none=>simp only[af]
  | some j=>
   simp only[af] at h ⊢;rw[hf l j hi];exact h
 | .map id,u,h=>by
  simp only[bn]
  cases hi:f id with
  | none=>simp only[af]
  | some j=>
   simp only[af] at h ⊢;rw[hf id j hi];exact h
 | .kj ks vs,u,h=>by
  simp only[bn];exact zH (fun _ h=>h) (fun _ _=>rfl) _ _ (by simp[aX]) h
 | .it id,u,h=>by
  simp only[bn]
  cases hi:f id with
  | none=>simp only[af]
  | some j=>
   simp only[af] at h ⊢;rw[hf id j hi];exact h
 | .agg cs,u,h=>by
  simp only[bn,af] at h ⊢;obtain⟨xs,h1,h2⟩:=h;exact⟨xs,h1,Da hf cs _ h2⟩
 | .av cs,u,h=>by
  simp only[bn,af] at h ⊢;obtain⟨xs,h1,h2⟩:=h;exact⟨xs,h1,Da hf cs _ h2⟩
def Da{ae:Nat->Nat}(hf:HO f m m'):∀(vs:List AV) (us:List ym),aA ae m S w vs us->aA ae m' S w (dA f vs) us
 | [],us,h=>by simpa only[dA,aA] using h
 | v::r,us,h=>by
  simp only[dA,aA] at h ⊢;have⟨u,t,h1,h2,h3⟩:=h;exact⟨u,t,h1,afj hf v u h2,Da hf r t h3⟩
end
def ao2{ae:Nat->Nat}(hf:HO f m m'){cs:List AV}{b o:Nat}(h:b9 ae m S w cs b o):b9 ae m' S w (dA f cs) b o:=by
 have⟨us,h1,_,h3⟩:=BK cs b o h;exact G3 _ us o (Da hf cs us h1) h3
def VG:∀cs:List AV,(dA f cs).length=cs.length
 | []=>rfl
 | c::r=>by simp[dA,VG r]
def adX:∀(tm:Env) (i:Nat),ak (gj f tm) i=bn f (ak tm i)
 | [],i=>by simp[gj,ak,bn]
 | (j,v)::r,i=>by
  simp only[gj,ak]
  cases yu j i with
  | true=>rfl
  | false=>exact adX r i
def ac4(tm:Env)(i:Nat):∀live:List Nat,ak (bF tm live) i=ak tm i\/ak (bF tm live) i=.undef
 | []=>.inr rfl
 | j::r=>by
  simp only[bF,ak]
  cases hb:yu j i with
  | true=>rw[yi hb];exact .inl rfl
  | false=>exact ac4 tm i r
def adY{tm:Env}(hf:HO f m m')(h:cg O m S w tm tmps):cg O m' S w (gj f tm) tmps:=fun i=>by
 rw[adX];exact afj hf _ _ (h i)
def aqU{id j:Nat}{o:Obj}{p:Pl}(hf:HO f m m')(hm:m id=GR p)(hj:m' j=GR p)(h:gl O m S w id o):gl O m' S w j (dY f o):=by
 cases o with
 | cells rw pu ex sz cs=>
  have⟨q,arr,t,h1,h2,h3,h4,h5,h6,h7,h8,h9,jF⟩:=h;rw[hm] at h1;injection h1 with h1;subst h1
  cases pu with
  | true=>exact⟨p,arr,t,hj,h2,h3,h4,h5,h6,CX (fun _ h=>h) (fun _ _=>rfl) _ _ _ (h8 rfl) rfl h7,h8,h9,jF⟩
  | false=>exact⟨p,arr,t,hj,h2,h3,by rw[yS,VG];exact h4,h5,by rw[yS,VG];exact h6,ao2 hf h7,by simp,h9,jF⟩
 | mp rw ks vs=>
  have⟨q,es,clock,h1,h2,h3,h4,h5,h6⟩:=h;rw[hm] at h1;injection h1 with h1;subst h1
  exact⟨p,es,clock,hj,h2,Da hf _ _ h3,Da hf _ _ h4,h5,h6⟩
 | si s pos=>
  have⟨q,t,h1,h2,h3,h4⟩:=h;rw[hm] at h1;injection h1 with h1;subst h1
  exact⟨p,t,hj,h2,h3,h4⟩
 | lp tm ps as_ body st pe=>
  have⟨q,l,hi,h1,h2,h3,h4,h5,h6,h7,h8⟩:=h;rw[hm] at h1;injection h1 with h1;subst h1
  exact⟨p,l,hi,hj,h2,h3,h4,h5,h6,adY hf h7,h8⟩
def ac5{i:Nat}:∀{l:List Nat} {k j:Nat},gV i l k=GR j->k<=j/\l[j-k]? =GR i
 | [],k,j,h=>by simp[gV] at h
 | x::r,k,j,h=>by
  simp only[gV] at h
  cases hb:yu x i with
  | true=>
   simp_all
  | false=>
   rw[hb] at h;have⟨h1,h2⟩:=ac5 h
   grind
def se{b:Nat}:yP a b=ydB↔a<b:=by simp_all
def OY{hp:Hp}{j:Nat}{o':Obj}:∀{l:List Nat} {k:Nat} {acc:Hp},ah (ep hp f l k acc) j=GR o'->
  (∃i id o,l[i]? =GR id/\j=k+i/\ah hp id=GR o/\o'=dY f o)\/ah acc j=GR o'
 | [],k,acc,h=>.inr h
 | x::r,k,acc,h=>by
  simp only[ep] at h
  cases hx:ah hp x with
  | none=>
   simp only[hx] at h;rcases OY h with ⟨i,id,o,h1,h2,h3,h4⟩ | h
   .exact .inl ⟨i+1,id,o,by simpa using h1,by lia,h3,h4⟩
   .grind
  | some o=>
   simp only[hx] at h;rcases OY h with ⟨i,id,o,h1,h2,h3,h4⟩ | h
   .exact .inl ⟨i+1,id,o,by simpa using h1,by lia,h3,h4⟩
   .rw [iU] at h;by_cases hc:k=j
    .simp only [hc,xN,yc] at h;exact .inl ⟨0,x,o,by simp,by lia,hx,h.symm⟩
    .grind
def OZ{base:Nat}{j:Nat}{o':Obj}:∀{hp:Hp},ah (fZ base f hp) j=GR o'->j<base/\∃o,ah hp j=GR o/\o'=dY f o
 | [],h=>by simp[fZ,ah] at h
 | (i,q)::r,h=>by
  simp only[fZ] at h
  cases hb:yP i base with
  | true=>
   rw[hb] at h;simp only[yx] at h;rw[iU] at h;by_cases hc:i=j
   .simp only [hc,xN,yc] at h;exact⟨by rw[<-hc];exact se.1 hb,q,by rw[iU];simp[hc],h.symm⟩
   .simp only [hc,xv] at h;have⟨h1,o,h2,h3⟩:=OZ h;exact⟨h1,o,by rw[iU];simp[hc,h2],h3⟩
  | false=>
   rw[hb] at h;have⟨h1,o,h2,h3⟩:=OZ h;have hc:¬i=j:=fun e=>by
    have:=se.2 h1
    grind
   exact⟨h1,o,by rw[iU];simp[hc,h2],h3⟩
def sN(m:Mp)(base:Nat)(seen:List Nat):Mp:=fun j=>
 if j<base then m j else match seen[j-base]? with
  | some id=>if iZ base seen id=GR j then m id else GS
  | none=>GS
def Vg{j:Nat}{p:Pl}(h:sN m base seen j=GR p):∃id,iZ base seen id=GR j/\m id=GR p/\(j<base->id=j):=by
 unfold sN at h
 split at h
 .rename_i hj;exact⟨j,by simp[iZ,se.2 hj],h,fun _=>rfl⟩
 .grind
def aqV:HO (iZ base seen) m (sN m base seen):=by
 intro id j h;have h0:=h;unfold iZ at h
 cases hb:yP id base with
 | true=>
  rw[hb] at h;simp only[yx,yc] at h;subst h;simp[sN,se.1 hb]
 | false=>
  rw[hb] at h;have⟨h1,h2⟩:=ac5 h
  have:¬j<base:=by lia
  simp only[sN,this,xv,h2,h0,xN]
def UN{s:St}{live:List Nat}(ht:cg O m S w s.tm tmps)(hh:aU O m S w s.hp s.ct)(hb:s.base<=s.ct):
  ∃m',cg O m' S w (bH live s).tm tmps/\aU O m' S w (bH live s).hp (bH live s).ct/\(bH live s).base=s.base/\s.base<=(bH live s).ct/\cr m S w s.hp m' S w (bH live s).hp s.base:=by
 simp only[bH];generalize QI:reach s.hp s.base 100000 (dw (bF s.tm live)++cE s.base s.hp) []=seen;have hr:=aqV (m:=m) (base:=s.base) (seen:=seen);have aG:∀j p,sN m s.base seen j=GR p->j<s.base+seen.length:=by
  intro j p h;unfold sN at h
  grind
 have back:∀j o' p,ah (ep s.hp (iZ s.base seen) seen s.base (fZ s.base (iZ s.base seen) s.hp)) j=GR o'->sN m s.base seen j=GR p->
   ∃id o,iZ s.base seen id=GR j/\ah s.hp id=GR o/\m id=GR p/\o'=dY (iZ s.base seen) o:=by
  intro j o' p ho hm;have⟨id,h1,h2,h3⟩:=Vg hm;rcases OY ho with ⟨i,ZX,o,g1,g2,g3,g4⟩ | ho
  .have hj:¬j<s.base:=by lia
   have:sN m s.base seen j=if iZ s.base seen ZX=GR j then m ZX else GS:=by
    simp only[sN,hj,xv,show j-s.base=i by lia,g1]
   grind
  .have ⟨g1,o,g2,g3⟩:=OZ ho
   grind
 refine⟨sN m s.base seen,?_,⟨?_,aG,?_,hh.slt,?_,?_,hh.nI,hh.ig,fun j o' ho=>(by
  rcases OY ho with ⟨i,ZX,o,g1,g2,g3,g4⟩ | ho
  .grind
  .have:=(OZ ho).1;lia)⟩,by trivial,by lia,⟨rfl,rfl,rfl,yz _,fun _ _ _=>rfl,fun _ h=>h,fun _ _=>rfl,fun _ h=>.inl h,?_,?_,fun _ r h=>⟨r,h⟩⟩⟩
 .refine adY hr (fun i=>?_);rcases ac4 s.tm i live with h | h
  .rw [h];exact ht i
  .rw [h];simp only[af]
 .intro j o' p ho hm;obtain⟨id,o,h1,h2,h3,rfl⟩:=back j o' p ho hm;exact aqU hr h3 hm (hh.obj id o p h2 h3)
 .intro i j oi oj pi pj hi hj bM iJ e;have⟨idi,o1,a1,a2,a3,_⟩:=back i oi pi hi bM;have⟨idj,o2,b1,b2,b3,_⟩:=back j oj pj hj iJ
  have:=hh.inj idi idj o1 o2 pi pj a2 b2 a3 b3 e
  grind
 .intro j p hm;have⟨id,_,h2,_⟩:=Vg hm;exact hh.blt id p h2
 .intro j p hm;have⟨id,_,h2,_⟩:=Vg hm;exact hh.low id p h2
 .rintro b ⟨j,o',p,h1,h2,h3⟩;have⟨id,o,_,g2,g3,_⟩:=back j o' p h1 h2;exact .inl ⟨id,o,p,g2,g3,h3⟩
 .intro id p hid hm;simp[sN,hid,hm]
end
end
end
end VE
