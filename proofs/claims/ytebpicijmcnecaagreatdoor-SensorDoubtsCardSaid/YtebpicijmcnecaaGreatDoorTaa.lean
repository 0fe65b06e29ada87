import GoSem.Core.Code
import GoSem.Core.Float
import GoSem.Core.Utf8
import Derived.CallsIn
import Derived.Laws.World
import GoSem.Op.Equal
import GoSem.Core.Region
import Derived.Below
import Derived.Laws.AppendOwn
import Derived.Laws.Rows
import Derived.WalkKit
import Derived.Laws.CopyRow
import Derived.Laws.Cells
import Derived.Laws.Strings
import Derived.Lib.Strings
import Derived.WideLaws
import Derived.Maps.Keyed
import Derived.ChangeKeysEq
import Derived.Laws.Tables
import Derived.IntWalk
import Derived.Laws.CopyOwn
set_option linter.all false
set_option maxRecDepth 100000
open Array renaming getElem?_eq_some_iff->xv,getElem?_modify->yaG,getElem?_toList->tr,length_toList->vG,range->tG
open BitVec renaming ofInt->wu
open Bool renaming and_assoc->yar,and_eq_true->yf,eq_iff_iff->yak,false_eq_true->yC,not_eq_true'->vT
open ForInStep renaming yield->yaQ
open Go renaming Addr->uN,BinOp->wY,Code->vA,Ending->yaS,Field->ua,FloatKind->xX,FuncId->tS,IntKind->xc,Loop->uY,MapEntry->wZ,Next->yaF,Obj->yal,Oper->yV,Operand->xt,Program->xp,TypeDesc->tO,TypeId->yA,TypeInfo->ycW,UnOp->ycE,Value->yh,World->yj,binOp->wa,sizeOf->vB
open Go.Utf8 renaming runeError->uQ,valid->ybq
open List renaming all_cons->yaf,append_assoc->xy,cons_append->ym,drop_drop->vO,eq_nil_of_length_eq_zero->yL,ext_getElem?->ybk,flatten_append->yaV,flatten_cons->ta,getElem?_append_left->wC,getElem?_append_right->wm,getElem?_drop->ybh,getElem?_eq_getElem->xo,getElem?_map->uZ,getElem?_take_of_lt->tj,getElem?_toArray->yaL,length_append->yN,length_cons->yy,length_drop->xY,length_take->yT,map_cons->y7,map_eq_nil_iff->yaU,mem_append->xJ,range->xx,replicate->yF,replicate_succ->wN,size_toArray->tu,take_of_length_le->yK,take_succ_cons->wD,take_zero->ybJ
open List.cons renaming injEq->tX
open Nat renaming add_assoc->uI,add_mul->xH,add_zero->y5,beq->yq,beq_eq->ycS,beq_refl->wO,ble->yE,ble_eq->ycT,blt->yO,eq_of_beq_eq_true->yg,eq_zero_or_pos->xj,le_of_ble_eq_true->yv,le_refl->yu,le_trans->xi,lt_of_lt_of_le->yP,min_le_left->ybL,mul_comm->xn,mul_le_mul_right->yI,one_mul->uR,testBit->vJ,zero_add->yd
open Option renaming isSome_none->tN,map_none->uB,map_some->wM
open Option.some renaming injEq->yc
open PUnit renaming unit->yap
open Prod.mk renaming injEq->yo
open UInt8 renaming toNat->xk,toNat_inj->ybr
open Option renaming some->FL,none->FM
open Bool renaming true->ycZ,false->yda
def vS:=@and_true
def tT:=@beq_iff_eq
def tQ:=@beq_self_eq_true
def yR:=@cond_false
def yx:=@cond_true
def vz:=@decide_eq_decide
def yQ:=@decide_eq_false
def y8:=@decide_eq_true
def vU:=@decide_eq_true_eq
def yH:=@decide_false
def yM:=@decide_true
def yct:=@false_or
def xm:=@if_false
def yt:=@if_neg
def yD:=@if_pos
def xA:=@if_true
def ycU:=@not_false_eq_true
def ycV:=@not_true_eq_false
def tP:=@true_and
namespace VE
section
open Go (IntKind FloatKind BinOp UnOp)
inductive Fr where
 | f (n:Nat)
 | y (l:Nat)
 deriving DecidableEq,Inhabited
inductive AV where
 | int (k:xc) (n:Int)
 | bool (b:Bool)
 | av (k:xX) (bits:Nat)
 | dl (k:xX) (re im:Nat)
 | str (s:List Nat)
 | kY
 | ptr (id off:Nat)
 | bN (cells:List AV)
 | ah
 | au (ex:Bool) (n:Nat) (cells:List AV)
 | c7 (ex:Bool) (sz n:Nat) (cells:List AV)
 | ax (id off n:Nat)
 | fn (f:Fr) (first cap:List AV)
 | iG
 | jM
 | map (id:Nat)
 | jN (ks vs:List AV)
 | it (id:Nat)
 | agg (cells:List AV)
 | aw (vs:List AV)
 | undef
 deriving Inhabited
inductive X where
 | t (i:Nat)
 | c (v:AV)
 deriving Inhabited
inductive Conv where
 | toInt (k:xc)
 | toFlt (k:xX)
 | str
 | re
 | im
 deriving Inhabited
inductive Md where
 | pure | own | heap | dyn
 deriving Inhabited
inductive Cut where
 | str
 | sl (sz:Nat)
 | ar (len sz:Nat)
 deriving Inhabited
inductive Q5 where
 | b | sl | fn | ag (ks:List Nat)
 deriving Inhabited
inductive Op where
 | sK (x:X)
 | pick (c a b:X)
 | box (sz:Nat) (x:X)
 | qR (zero:List AV) (parts:List (Nat×Nat×X))
 | jo (n sz:Nat) (zero:List AV) (parts:List (Nat×Nat×X))
 | ld (sz:Nat) (ag:Bool) (x:X)
 | st (sz:Nat) (x v:X)
 | KU (x:X)
 | bin (op:wY) (x y:X)
 | eq (ne:Bool) (k:Q5) (x y:X)
 | un (op:ycE) (x:X)
 | cv (k:Conv) (x:X)
 | Hx (f:Fr) (first cap:List X)
 | Bz
 | pK (sz bytes:Nat) (zero:List AV) (len cap:X)
 | rC (k:Cut) (x:X) (lo hi:Option X)
 | off (k:Nat) (x:X)
 | L8 (o sz:Nat) (ag:Bool) (x:X)
 | bq (sz:Nat) (x i:X)
 | Aa (len sz:Nat) (x i:X)
 | Hy (x i:X)
 | Hz (len sz:Nat) (ag:Bool) (x i:X)
 | Q6 (kk:Nat) (zero:AV) (ok:Bool) (m k:X)
 | rD (kk:Nat) (m k v:X)
 | rE (x:X)
 | rF (x:X)
 | ext (i:Nat) (x:X)
 | call (m:Md) (f:X) (xs:List X)
 | jH (rs:List (Nat×Bool×Nat)) (f:X) (xs:List X)
 | lI (rs:List (Nat×Bool×Nat)) (sz:Nat) (x v:X)
 | lJ (rs:List (Nat×Bool×Nat)) (sz bytes:Nat) (s x:X)
 | db (sz bytes:Nat) (s x:X)
 | rG (sz bytes:Nat) (s x:X)
 | rH (sz:Nat) (d s:X)
 | len (k:Nat) (x:X)
 | mn (xs:List X)
 | mx (xs:List X)
 | L9 (x y:X)
 | mT (n sz:Nat) (zero:List AV) (parts:List (Nat×Nat×X))
 deriving Inhabited
structure aR where
 dst:Option Nat
 guard:Option (Nat×Bool)
 op:Op
 deriving Inhabited
inductive VC where
 | skip
 | ml (ops:List aR)
 | seq (a b:VC)
 | cond (x:X) (a b:VC)
 | ew (id:Nat) (a:VC)
 | kp (live:List Nat)
 | fz (ts:List Nat)
 | loop (live:List Nat) (a:VC)
 | rf (f:X) (ps:List Nat) (assign body:VC)
 | exit (id:Nat)
 | ret
 deriving Inhabited
inductive RV where
 | t (i:Nat)
 | cell (i sz:Nat) (ag:Bool)
 deriving Inhabited
structure aA where
 eA:List RV
 body:VC
 deriving Inhabited
inductive zM where
 | none | ret | exit (id:Nat)
 deriving Inhabited,DecidableEq
abbrev Env:=List (Nat×AV)
inductive Obj where
 | cells (rw pu ex:Bool) (sz:Nat) (cs:List AV)
 | mp (rw:Bool) (ks vs:List AV)
 | si (s:List Nat) (pos:Nat)
 | lp (tm:Env) (ps:List Nat) (assign body:VC) (state:Nat) (pending:zM)
 deriving Inhabited
abbrev Hp:=List (Nat×Obj)
structure St where
 tm:Env
 hp:Hp
 ct:Nat
 base:Nat
 deriving Inhabited
inductive Ex where
 | normal
 | ret
 | exit (id:Nat)
 deriving Inhabited,DecidableEq
def aj:Env->Nat->AV
 | [],_=>.undef
 | (j,v)::r,i=>bif yq j i then v else aj r i
def ak:Hp->Nat->Option Obj
 | [],_=>FM
 | (j,o)::r,i=>bif yq j i then FL o else ak r i
def aW:Hp->Nat->Obj->Hp
 | [],_,_=>[]
 | (j,o)::r,i,u=>bif yq j i then (j,u)::r else (j,o)::aW r i u
def cT:Hp->Nat->Hp
 | [],_=>[]
 | (j,o)::r,i=>bif yq j i then cT r i else (j,o)::cT r i
mutual
def aX:AV->Bool
 | .ptr _ _ | .ax _ _ _ | .map _ | .it _ | .c7 _ _ _ _=>yda
 | .fn (.y _) _ _=>yda
 | .fn (.f _) first cap=>aG first&&aG cap
 | .agg cs=>aG cs
 | .aw vs=>aG vs
 | _=>ycZ
def aG:List AV->Bool
 | []=>ycZ
 | v::r=>aX v&&aG r
end
def cellsOf:AV->List AV
 | .agg cs=>cs
 | v=>[v]
def er:AV->Bool
 | .agg _ | .aw _ | .undef | .c7 _ _ _ _=>yda
 | _=>ycZ
def cd:List AV->Bool
 | []=>ycZ
 | v::r=>er v&&cd r
def ay(tm:Env):X->AV
 | .t i=>aj tm i
 | .c v=>v
def dG(tm:Env):List X->List AV
 | []=>[]
 | x::r=>ay tm x::dG tm r
def slice(o n:Nat)(cs:List AV):List AV:=(cs.drop o).take n
def over(o:Nat)(new cs:List AV):List AV:=cs.take o++new++cs.drop (o+new.length)
mutual
def freeze:Nat->Hp->AV->Option (AV×Hp)
 | 0,_,_=>FM
 | n+1,hp,v=>
  match v with
  | .ax id o k=>
   match r7 n hp id with
   | some (ex,sz,cs,an)=>
    bif yE (o+k*sz) cs.length then
     FL (.au (ex&&yO 0 sz&&yq (o+k*sz) cs.length) k (slice o (k*sz) cs),an)
    else FM
   | none=>FM
  | .ptr id o=>
   match r7 n hp id with
   | some (_,_,cs,an)=>FL (.bN (cs.drop o),an)
   | none=>FM
  | .map id=>
   match ak hp id with
   | some (.mp _ ks vs)=>bif aG ks&&aG vs then FL (.jN ks vs,aW hp id (.mp yda ks vs)) else FM
   | _=>FM
  | .fn (.f g) first cap=>
   match cE n hp first with
   | some (adU,aZ)=>
    match cE n aZ cap with
    | some (PK,ja)=>FL (.fn (.f g) adU PK,ja)
    | none=>FM
   | none=>FM
  | .agg cs=>match cE n hp cs with | some (dB,an)=>FL (.agg dB,an) | none=>FM
  | .aw cs=>match cE n hp cs with | some (dB,an)=>FL (.aw dB,an) | none=>FM
  | v=>bif aX v then FL (v,hp) else FM
def r7:Nat->Hp->Nat->Option (Bool×Nat×List AV×Hp)
 | 0,_,_=>FM
 | n+1,hp,id=>
  match ak hp id with
  | some (.cells rw pu ex sz cs)=>
   bif pu then FL (ex,sz,cs,bif rw then aW hp id (.cells yda ycZ ex sz cs) else hp)
   else match cE n hp cs with
    | some (dB,an)=>FL (ex,sz,dB,aW an id (.cells yda yda ex sz cs))
    | none=>FM
  | _=>FM
def cE:Nat->Hp->List AV->Option (List AV×Hp)
 | 0,_,_=>FM
 | _+1,hp,[]=>FL ([],hp)
 | n+1,hp,v::r=>
  match freeze n hp v with
  | some (v',aZ)=>
   match cE n aZ r with
   | some (r',ja)=>FL (v'::r',ja)
   | none=>FM
  | none=>FM
end
def qO(n:Nat)(hp:Hp)(v:AV):Option (AV×Hp):=
 match v with
 | .ax id o k=>
  match ak hp id with
  | some (.cells ycZ ycZ ex sz cs)=>
   bif yE (o+k*sz) cs.length then
    FL (.c7 (ex&&yO 0 sz&&yq (o+k*sz) cs.length) sz k (slice o (k*sz) cs),cT hp id)
   else FM
  | _=>freeze n hp v
 | _=>freeze n hp v
def OP:List AV->Option (List Nat)
 | []=>FL []
 | .ax id _ _::r=>match OP r with | some l=>bif l.any (yq id) then FM else FL (id::l) | none=>FM
 | v::r=>bif aX v then OP r else FM
def DS(n:Nat):Hp->List AV->Option (List AV×Hp)
 | hp,[]=>FL ([],hp)
 | hp,v::r=>
  match qO n hp v with
  | some (v',aZ)=>match DS n aZ r with | some (r',ja)=>FL (v'::r',ja) | none=>FM
  | none=>FM
def deep:Nat:=1000
def result(hp:Hp)(v:AV):Option AV:=
 match v with
 | .aw vs=>
  match OP vs with
  | some _=>match DS deep hp vs with | some (eB,_)=>FL (.aw eB) | none=>FM
  | none=>match freeze deep hp v with | some (v',_)=>FL v' | none=>FM
 | v=>match qO deep hp v with | some (v',_)=>FL v' | none=>FM
def cg:AV->AV
 | .c7 ex _ n cs=>.au ex n cs
 | v=>v
def Ej:List AV->List AV
 | []=>[]
 | v::r=>cg v::Ej r
def shut:AV->AV
 | .c7 ex _ n cs=>.au ex n cs
 | .aw vs=>.aw (Ej vs)
 | v=>v
def fK(hp:Hp)(ct:Nat):AV->AV×Hp×Nat
 | .c7 ex sz n cs=>(.ax ct 0 n,(ct,.cells ycZ ycZ ex sz cs)::hp,ct+1)
 | v=>(v,hp,ct)
def kZ:Hp->Nat->List AV->List AV×Hp×Nat
 | hp,ct,[]=>([],hp,ct)
 | hp,ct,v::r=>((fK hp ct v).1::(kZ (fK hp ct v).2.1 (fK hp ct v).2.2 r).1,(kZ (fK hp ct v).2.1 (fK hp ct v).2.2 r).2)
def own(hp:Hp)(ct:Nat):AV->AV×Hp×Nat
 | .aw vs=>(.aw (kZ hp ct vs).1,(kZ hp ct vs).2)
 | v=>fK hp ct v
mutual
def refs:AV->List Nat
 | .ptr id _=>[id]
 | .ax id _ _=>[id]
 | .map id=>[id]
 | .it id=>[id]
 | .fn (.f _) first cap=>gh first++gh cap
 | .fn (.y l) _ _=>[l]
 | .agg cs=>gh cs
 | .aw cs=>gh cs
 | _=>[]
def gh:List AV->List Nat
 | []=>[]
 | v::r=>refs v++gh r
end
def dR:Env->List Nat
 | []=>[]
 | (_,v)::r=>refs v++dR r
def jI:Obj->List Nat
 | .cells _ pu _ _ cs=>bif pu then [] else gh cs
 | .mp _ ks vs=>gh ks++gh vs
 | .si _ _=>[]
 | .lp tm _ _ _ _ _=>dR tm
mutual
def br(f:Nat->Option Nat):AV->AV
 | .ptr id o=>match f id with | some j=>.ptr j o | none=>.undef
 | .ax id o n=>match f id with | some j=>.ax j o n | none=>.undef
 | .map id=>match f id with | some j=>.map j | none=>.undef
 | .it id=>match f id with | some j=>.it j | none=>.undef
 | .fn (.f g) first cap=>.fn (.f g) (dI f first) (dI f cap)
 | .fn (.y l) first cap=>match f l with | some j=>.fn (.y j) (dI f first) (dI f cap) | none=>.undef
 | .agg cs=>.agg (dI f cs)
 | .aw cs=>.aw (dI f cs)
 | v=>v
def dI(f:Nat->Option Nat):List AV->List AV
 | []=>[]
 | v::r=>br f v::dI f r
end
def dS(f:Nat->Option Nat):Env->Env
 | []=>[]
 | (i,v)::r=>(i,br f v)::dS f r
def gI(f:Nat->Option Nat):Obj->Obj
 | .cells rw pu ex sz cs=>.cells rw pu ex sz (bif pu then cs else dI f cs)
 | .mp rw ks vs=>.mp rw (dI f ks) (dI f vs)
 | .si s pos=>.si s pos
 | .lp tm ps as_ body st pe=>.lp (dS f tm) ps as_ body st pe
def bm(tm:Env):List Nat->Env
 | []=>[]
 | i::r=>(i,aj tm i)::bm tm r
def jq(i:Nat):List Nat->Bool
 | []=>yda
 | j::r=>bif yq j i then ycZ else jq i r
def reach(hp:Hp)(base:Nat):Nat->List Nat->List Nat->List Nat
 | 0,_,seen=>seen
 | _+1,[],seen=>seen
 | n+1,id::cB,seen=>
  bif yO id base||jq id seen then reach hp base n cB seen
  else match ak hp id with
   | some o=>reach hp base n (jI o++cB) (seen++[id])
   | none=>reach hp base n cB seen
def cQ(base:Nat):Hp->List Nat
 | []=>[]
 | (id,o)::r=>bif yO id base then jI o++cQ base r else cQ base r
def gZ(i:Nat):List Nat->Nat->Option Nat
 | [],_=>FM
 | j::r,k=>bif yq j i then FL k else gZ i r (k+1)
def iD(base:Nat)(seen:List Nat)(id:Nat):Option Nat:=bif yO id base then FL id else gZ id seen base
def fQ(base:Nat)(f:Nat->Option Nat):Hp->Hp
 | []=>[]
 | (id,o)::r=>bif yO id base then (id,gI f o)::fQ base f r else fQ base f r
def eE(hp:Hp)(f:Nat->Option Nat):List Nat->Nat->Hp->Hp
 | [],_,acc=>acc
 | id::r,k,acc=>match ak hp id with | some o=>eE hp f r (k+1) ((k,gI f o)::acc) | none=>eE hp f r (k+1) acc
def bk(live:List Nat)(s:St):St:=
 let tm:=bm s.tm live
 let seen:=reach s.hp s.base 100000 (dR tm++cQ s.base s.hp) []
 let f:=iD s.base seen
 {tm:=dS f tm,hp:=eE s.hp f seen s.base (fQ s.base f s.hp),ct:=s.base+seen.length,base:=s.base}
def lX(hp:Hp)(sz:Nat):AV->Option (Nat×List AV)
 | .ah=>FL (0,[])
 | .au _ n cs=>bif yq cs.length (n*sz) then FL (n,cs) else FM
 | .ax id o n=>
  match ak hp id with
  | some (.cells _ _ _ _ cs)=>bif yE (o+n*sz) cs.length then FL (n,slice o (n*sz) cs) else FM
  | _=>FM
 | _=>FM
def Oi:List Nat->List AV
 | []=>[]
 | b::r=>.int .u8 b::Oi r
def C8:List Nat->List Nat->Bool
 | _,[]=>yda
 | [],_::_=>ycZ
 | a::x,b::y=>yO a b||(yq a b&&C8 x y)
def cW:List Nat->List Nat->Bool
 | [],[]=>ycZ
 | a::x,b::y=>yq a b&&cW x y
 | _,_=>yda
def dd:List Nat->List AV->List AV->Option Bool
 | [],[],[]=>FL ycZ
 | 0::ks,.bool a::x,.bool b::y=>match dd ks x y with | some r=>FL ((a==b)&&r) | none=>FM
 | 1::ks,.int k a::x,.int k' b::y=>if k=k' then (match dd ks x y with | some r=>FL ((a==b)&&r) | none=>FM) else FM
 | 2::ks,.str a::x,.str b::y=>match dd ks x y with | some r=>FL (cW a b&&r) | none=>FM
 | _,_,_=>FM
def jr:Q5->AV->AV->Option Bool
 | .b,.bool a,.bool b=>FL (a==b)
 | .sl,.ah,.ah=>FL ycZ
 | .sl,.ah,.au _ _ _=>FL yda
 | .sl,.ah,.ax _ _ _=>FL yda
 | .sl,.au _ _ _,.ah=>FL yda
 | .sl,.ax _ _ _,.ah=>FL yda
 | .fn,.iG,.iG=>FL ycZ
 | .fn,.iG,.fn _ _ _=>FL yda
 | .fn,.fn _ _ _,.iG=>FL yda
 | .ag ks,.agg a,.agg b=>dd ks a b
 | _,_,_=>FM
def intCmp(op:wY)(x y:Int):Option Bool:=
 match op with
 | .eql=>FL (x==y)
 | .neq=>FL (x !=y)
 | .lss=>FL (decide (x<y))
 | .leq=>FL (decide (x<=y))
 | .gtr=>FL (decide (x>y))
 | .geq=>FL (decide (x>=y))
 | _=>FM
def mJ(op:wY)(k:xc)(x y:Int):Option AV:=
 match op with
 | .add=>FL (.int k (k.wrap (x+y)))
 | .sub=>FL (.int k (k.wrap (x-y)))
 | .mul=>FL (.int k (k.wrap (x*y)))
 | .quo=>if y=0 then FM else FL (.int k (k.wrap (x.tdiv y)))
 | .rem=>if y=0 then FM else FL (.int k (x.tmod y))
 | .and=>FL (.int k (k.wrap (wu k.bits x&&&wu k.bits y).toNat))
 | .or=>FL (.int k (k.wrap (wu k.bits x|||wu k.bits y).toNat))
 | .xor=>FL (.int k (k.wrap (wu k.bits x^^^wu k.bits y).toNat))
 | .andNot=>FL (.int k (k.wrap (wu k.bits x&&&~~~(wu k.bits y)).toNat))
 | .shl | .shr=>FM
 | op=>match intCmp op x y with | some b=>FL (.bool b) | none=>FM
def DT(op:wY)(k:xc)(x y:Int):Option AV:=
 if y<0 then FM else
 match op with
 | .shl=>FL (.int k (k.wrap (x*2^(min y.toNat k.bits))))
 | .shr=>FL (.int k (x.fdiv (2^(min y.toNat k.bits))))
 | _=>FM
def KA(op:wY)(x y:List Nat):Option AV:=
 match op with
 | .add=>bif yE (x.length+y.length) 9223372036854775807 then FL (.str (x++y)) else FM
 | .eql=>FL (.bool (cW x y))
 | .neq=>FL (.bool (!cW x y))
 | .lss=>FL (.bool (C8 x y))
 | .leq=>FL (.bool (C8 x y||cW x y))
 | .gtr=>FL (.bool (!(C8 x y||cW x y)))
 | .geq=>FL (.bool (!C8 x y))
 | _=>FM
def Pd(op:wY)(k:xX)(x y:Nat):Option AV:=
 let c:=k.format.order x y
 let ar (r:Option Nat):Option AV:=match r with | some b=>FL (.av k b) | none=>FM
 match op with
 | .add=>ar (k.format.add x y)
 | .sub=>ar (k.format.sub x y)
 | .mul=>ar (k.format.mul x y)
 | .quo=>ar (k.format.div x y)
 | .eql=>FL (.bool (c==FL .eq))
 | .neq=>FL (.bool (c !=FL .eq))
 | .lss=>FL (.bool (c==FL .lt))
 | .leq=>FL (.bool (c==FL .lt||c==FL .eq))
 | .gtr=>FL (.bool (c==FL .gt))
 | .geq=>FL (.bool (c==FL .gt||c==FL .eq))
 | _=>FM
def C9(s k:xX)(b:Nat):Option Nat:=
 if s=k then FL b else
 match s.decode b with
 | .number sg m e=>if (k.decode (k.encode (.number sg m e))).isInfinity then FM else FL (k.encode (.number sg m e))
 | _=>FM
def mU(op:wY)(k:xX)(x y:Nat):Option Nat:=
 match op with
 | .add=>k.format.add x y
 | .sub=>k.format.sub x y
 | .mul=>k.format.mul x y
 | _=>FM
def Uz(k:xX)(a b c d:Nat):Option AV:=
 match C9 k .f64 a,C9 k .f64 b,C9 k .f64 c,C9 k .f64 d with
 | some a,FL b,FL c,FL d=>
  match mU .mul .f64 a c,mU .mul .f64 b d,mU .mul .f64 a d,mU .mul .f64 b c with
  | some p,FL q,FL r,FL s=>
   match mU .sub .f64 p q,mU .add .f64 r s with
   | some e,FL f=>match C9 .f64 k e,C9 .f64 k f with | some e,FL f=>FL (.dl k e f) | _,_=>FM
   | _,_=>FM
  | _,_,_,_=>FM
 | _,_,_,_=>FM
def U5(op:wY)(k:xX)(a b c d:Nat):Option AV:=
 match op with
 | .eql=>FL (.bool (k.format.order a c==FL .eq&&k.format.order b d==FL .eq))
 | .neq=>FL (.bool (!(k.format.order a c==FL .eq&&k.format.order b d==FL .eq)))
 | .add=>match mU .add k a c,mU .add k b d with | some r,FL i=>FL (.dl k r i) | _,_=>FM
 | .sub=>match mU .sub k a c,mU .sub k b d with | some r,FL i=>FL (.dl k r i) | _,_=>FM
 | .mul=>Uz k a b c d
 | _=>FM
def aeI(x y:AV):Option AV:=
 match x,y with
 | .av k a,.av k' b=>if k=k' then FL (.dl k a b) else FM
 | _,_=>FM
def binOp(op:wY)(x y:AV):Option AV:=
 match x,y with
 | .int k a,.int k' b=>
  match op with
  | .shl | .shr=>DT op k a b
  | _=>if k=k' then mJ op k a b else FM
 | .av k a,.av k' b=>if k=k' then Pd op k a b else FM
 | .str a,.str b=>KA op a b
 | .dl k a b,.dl k' c d=>if k=k' then U5 op k a b c d else FM
 | _,_=>FM
def unOp(op:ycE)(x:AV):Option AV:=
 match op,x with
 | .neg,.int k n=>FL (.int k (k.wrap (0-n)))
 | .xor,.int k n=>mJ .xor k (if k.signed then -1 else k.max) n
 | .not,.bool b=>FL (.bool !b)
 | .neg,.av k b=>FL (.av k (b^^^2^(k.format.exponentBits+k.format.fractionBits)))
 | _,_=>FM
def me(c:Conv)(x:AV):Option AV:=
 match c,x with
 | .toInt k,.int _ n=>FL (.int k (k.wrap n))
 | .toFlt k,.int _ n=>FL (.av k (k.nearest n))
 | .toInt k,.av s b=>
  match (s.decode b).toInt .zero with
  | some n=>if k.min<=n/\n<=k.max then FL (.int k n) else FM
  | none=>FM
 | .toFlt k,.av s b=>
  if s=k then FL (.av k b) else
  match s.decode b with
  | .number sg m e=>if (k.decode (k.encode (.number sg m e))).isInfinity then FM else FL (.av k (k.encode (.number sg m e)))
  | _=>FM
 | .str,.str s=>FL (.str s)
 | .re,.dl k a _=>FL (.av k a)
 | .im,.dl k _ b=>FL (.av k b)
 | _,_=>FM
def fT(sz:Nat)(ag:Bool)(cs:List AV):Option AV:=
 bif ag then (bif yE sz cs.length then FL (.agg (cs.take sz)) else FM)
 else match cs with | v::_=>FL v | []=>FM
def dH(x:AV):Option Nat:=
 match x with
 | .int _ n=>match n with | .ofNat k=>FL k | .negSucc _=>FM
 | _=>FM
def cV(tm:Env)(d:Nat):Option X->Option Nat
 | none=>FL d
 | some x=>dH (ay tm x)
def fJ(hp:Hp)(k:Cut)(x:AV)(tm:Env)(lo hi:Option X):Option AV:=
 match k,x with
 | .str,.str s=>
  match cV tm 0 lo,cV tm s.length hi with
  | some l,FL h=>bif yE l h&&yE h s.length then FL (.str ((s.take h).drop l)) else FM
  | _,_=>FM
 | .sl _,.ah=>
  match cV tm 0 lo,cV tm 0 hi with
  | some 0,FL 0=>FL .ah
  | _,_=>FM
 | .sl sz,.au ex n cs=>
  match cV tm 0 lo,cV tm n hi with
  | some l,FL h=>bif yE l h&&yE h n then FL (.au (ex&&yq h n) (h-l) (slice (l*sz) ((h-l)*sz) cs)) else FM
  | _,_=>FM
 | .sl sz,.ax id o n=>
  match ak hp id with
  | some (.cells _ _ _ z _)=>
   match cV tm 0 lo,cV tm n hi with
   | some l,FL h=>
    bif yE l h&&yE h n&&yq z sz then
     bif yq l h&& !yq l 0 then FL (.au yda 0 []) else FL (.ax id (o+l*sz) (h-l))
    else FM
   | _,_=>FM
  | _=>FM
 | .ar n s,.bN cs=>
  match cV tm 0 lo,cV tm n hi with
  | some l,FL h=>bif yq l 0&&yq h n&&(yO 0 n&&yE (n*s) cs.length) then FL (.au ycZ n (cs.take (n*s))) else FM
  | _,_=>FM
 | _,_=>FM
def fill(tm:Env):List AV->List (Nat×Nat×X)->Option (List AV)
 | cs,[]=>FL cs
 | cs,(o,sz,x)::r=>
  let new:=cellsOf (ay tm x)
  bif yq new.length sz&&yE (o+sz) cs.length&&cd new then fill tm (over o new cs) r else FM
def ph:AV->AV->Option Bool
 | .int k a,.int k' b=>if k=k' then FL (a==b) else FM
 | .str a,.str b=>FL (cW a b)
 | .bool a,.bool b=>FL (a==b)
 | .agg a,.agg b=>dd (yF a.length 1) a b
 | _,_=>FM
def oS:Nat->AV->Bool
 | 0,.bool _=>ycZ
 | 1,.int _ _=>ycZ
 | 2,.str _=>ycZ
 | n+3,.agg cs=>yq cs.length n
 | _,_=>yda
def Ek(k:AV):List AV->List AV->Option (Option AV)
 | [],_=>FL FM
 | k'::ks,v::vs=>match ph k k' with | some ycZ=>FL (FL v) | some yda=>Ek k ks vs | none=>FM
 | _::_,[]=>FM
def Bg(k v:AV):List AV->List AV->Option (List AV×List AV)
 | [],[]=>FL ([k],[v])
 | k'::ks,u::us=>
  match ph k k' with
  | some ycZ=>FL (k'::ks,v::us)
  | some yda=>match Bg k v ks us with | some (lK,Ma)=>FL (k'::lK,u::Ma) | none=>FM
  | none=>FM
 | _,_=>FM
def min2:AV->AV->Option AV
 | .int k x,.int _ y=>FL (.int k (if y<x then y else x))
 | .av k x,.av _ y=>
  match k.format.order x y with
  | none=>FM
  | some .lt=>FL (.av k x)
  | some .gt=>FL (.av k y)
  | some .eq=>FL (.av k (if (k.decode x).neg then x else y))
 | _,_=>FM
def max2:AV->AV->Option AV
 | .int k x,.int _ y=>FL (.int k (if y>x then y else x))
 | .av k x,.av _ y=>
  match k.format.order x y with
  | none=>FM
  | some .lt=>FL (.av k y)
  | some .gt=>FL (.av k x)
  | some .eq=>FL (.av k (if (k.decode x).neg then y else x))
 | _,_=>FM
def CB(f:AV->AV->Option AV):AV->List AV->Option AV
 | a,[]=>FL a
 | a,b::r=>match f a b with | some c=>CB f c r | none=>FM
def room:Nat:=1099511627776
abbrev gB:=Option (AV×Hp×Nat)
def gJ(hp:Hp)(sz:Nat)(ag:Bool):AV->Option AV
 | .ptr id o=>match ak hp id with | some (.cells _ _ _ _ cs)=>fT sz ag (cs.drop o) | _=>FM
 | .bN cs=>fT sz ag cs
 | _=>FM
def CC(k:Nat):AV->Option AV
 | .ptr id o=>FL (.ptr id (o+k))
 | .bN cs=>bif yE k cs.length then FL (.bN (cs.drop k)) else FM
 | _=>FM
def Pe(o sz:Nat)(ag:Bool):AV->Option AV
 | .agg cs=>fT sz ag (cs.drop o)
 | _=>FM
def jm(sz i:Nat):AV->Option AV
 | .ax id o n=>bif yO i n then FL (.ptr id (o+i*sz)) else FM
 | .au _ n cs=>bif yO i n then FL (.bN (cs.drop (i*sz))) else FM
 | _=>FM
def GQ(len sz i:Nat):AV->Option AV
 | .ptr id o=>bif yO i len then FL (.ptr id (o+i*sz)) else FM
 | .bN cs=>bif yO i len then FL (.bN (cs.drop (i*sz))) else FM
 | _=>FM
def oh(i:Nat):AV->Option AV
 | .str s=>match s[i]? with | some b=>FL (.int .u8 b) | none=>FM
 | _=>FM
def GR(len sz:Nat)(ag:Bool)(i:Nat):AV->Option AV
 | .agg cs=>bif yO i len then fT sz ag (cs.drop (i*sz)) else FM
 | _=>FM
def CD(hp:Hp)(k:AV):AV->Option (Option AV)
 | .jM=>FL FM
 | .map id=>match ak hp id with | some (.mp _ ks vs)=>Ek k ks vs | _=>FM
 | .jN ks vs=>Ek k ks vs
 | _=>FM
def kB(hp:Hp):Nat->AV->Option AV
 | 0,.str s=>FL (.int .i64 s.length)
 | 1,.ah=>FL (.int .i64 0)
 | 1,.au _ n _=>FL (.int .i64 n)
 | 1,.ax _ _ n=>FL (.int .i64 n)
 | 2,.jM=>FL (.int .i64 0)
 | 2,.jN ks _=>FL (.int .i64 ks.length)
 | 2,.map id=>match ak hp id with | some (.mp _ ks _)=>FL (.int .i64 ks.length) | _=>FM
 | _,_=>FM
def bg(tm:Env)(hp:Hp):Op->Option AV
 | .sK x=>FL (ay tm x)
 | .pick c a b=>match ay tm c with | .bool t=>FL (bif t then ay tm a else ay tm b) | _=>FM
 | .qR zero parts=>match fill tm zero parts with | some cs=>FL (.agg cs) | none=>FM
 | .ld sz ag x=>gJ hp sz ag (ay tm x)
 | .KU x=>
  match ay tm x with
  | .ptr id o=>FL (.ptr id o)
  | .bN cs=>FL (.bN cs)
  | .fn f a b=>FL (.fn f a b)
  | _=>FM
 | .bin op x y=>binOp op (ay tm x) (ay tm y)
 | .eq ne k x y=>match jr k (ay tm x) (ay tm y) with | some r=>FL (.bool (ne !=r)) | none=>FM
 | .un op x=>unOp op (ay tm x)
 | .cv k x=>me k (ay tm x)
 | .L9 x y=>aeI (ay tm x) (ay tm y)
 | .mT n sz zero parts=>
  match fill tm zero parts with
  | some cs=>bif yq cs.length (n*sz)&&(yO 0 sz&&aG cs) then FL (.au ycZ n cs) else FM
  | none=>FM
 | .Hx f first cap=>FL (.fn f (dG tm first) (dG tm cap))
 | .rC k x lo hi=>fJ hp k (ay tm x) tm lo hi
 | .off k x=>CC k (ay tm x)
 | .L8 o sz ag x=>Pe o sz ag (ay tm x)
 | .bq sz x i=>match dH (ay tm i) with | some j=>jm sz j (ay tm x) | none=>FM
 | .Aa len sz x i=>match dH (ay tm i) with | some j=>GQ len sz j (ay tm x) | none=>FM
 | .Hy x i=>match dH (ay tm i) with | some j=>oh j (ay tm x) | none=>FM
 | .Hz len sz ag x i=>match dH (ay tm i) with | some j=>GR len sz ag j (ay tm x) | none=>FM
 | .Q6 kk zero ok m k=>
  bif oS kk (ay tm k) then
   match CD hp (ay tm k) (ay tm m) with
   | some (FL v)=>FL (bif ok then .aw [v,.bool ycZ] else v)
   | some FM=>FL (bif ok then .aw [zero,.bool yda] else zero)
   | none=>FM
  else FM
 | .ext i x=>match ay tm x with | .aw vs=>vs[i]? | _=>FM
 | .len k x=>kB hp k (ay tm x)
 | .mn xs=>match dG tm xs with | a::r=>CB min2 a r | []=>FM
 | .mx xs=>match dG tm xs with | a::r=>CB max2 a r | []=>FM
 | _=>FM
def cK(tm:Env)(hp:Hp)(ct:Nat):Op->Option (AV×Obj)
 | .box sz x=>
  let cs:=cellsOf (ay tm x)
  bif yq cs.length sz&&cd cs then FL (.ptr ct 0,.cells ycZ (aG cs) ycZ sz cs) else FM
 | .jo n sz zero parts=>
  match fill tm zero parts with
  | some cs=>bif yq cs.length (n*sz) then FL (.ax ct 0 n,.cells ycZ (aG cs) ycZ sz cs) else FM
  | none=>FM
 | .pK sz bytes zero len cap=>
  match dH (ay tm len),dH (ay tm cap) with
  | some l,FL c=>
   bif yE l c&&(yE c room&&(yE (c*bytes) room&&(yq zero.length sz&&cd zero))) then
    FL (.ax ct 0 l,.cells ycZ (aG zero) (yq l c) sz (yF l zero).flatten)
   else FM
  | _,_=>FM
 | .Bz=>FL (.map ct,.mp ycZ [] [])
 | .rE x=>match ay tm x with | .str s=>FL (.it ct,.si s 0) | _=>FM
 | _=>FM
def decodeL(s:List Nat)(i:Nat):Nat×Nat:=
 let at' (k:Nat):Nat:=s.getD (i+k) 0
 let cont (k:Nat):Bool:=decide (i+k<s.length)&&at' k/64==2
 let b0:=at' 0
 if b0<0x80 then (b0,1)
 else if b0/32==6&&cont 1 then
  let c:=(b0%32)*64+at' 1%64
  if c>=0x80 then (c,2) else (uQ,1)
 else if b0/16==14&&cont 1&&cont 2 then
  let c:=(b0%16)*4096+(at' 1%64)*64+at' 2%64
  if c>=0x800&&ybq c then (c,3) else (uQ,1)
 else if b0/8==30&&cont 1&&cont 2&&cont 3 then
  let c:=(b0%8)*262144+(at' 1%64)*4096+(at' 2%64)*64+at' 3%64
  if c>=0x10000&&ybq c then (c,4) else (uQ,1)
 else (uQ,1)
def jk(hp:Hp)(sz:Nat):AV->Option (Nat×List AV)
 | .str b=>bif yq sz 1 then FL (b.length,Oi b) else FM
 | v=>lX hp sz v
def zH(hp:Hp)(ct sz bytes:Nat)(s:AV)(src:Option (Nat×List AV)):Option (AV×Obj):=
 match src with
 | none=>FM
 | some (m,new)=>
  match s with
  | .ax id o n=>
   match ak hp id with
   | some (.cells _ pu ycZ z cs)=>
    bif yq z sz&&(yO 0 m&&(yE (n+m) room&&(yE ((n+m)*bytes) room&&(yq (o+n*sz) cs.length&&yO 0 sz)))) then
     FL (.ax ct 0 (n+m),.cells ycZ (pu&&aG new) yda sz (slice o (n*sz) cs++new))
    else FM
   | _=>FM
  | _=>FM
def cp(tm:Env)(hp:Hp)(ct:Nat):Op->gB
 | .st sz x v=>
  let new:=cellsOf (ay tm v)
  match ay tm x with
  | .ptr id o=>
   match ak hp id with
   | some (.cells ycZ pu ex z cs)=>
    bif yq new.length sz&&yE (o+sz) cs.length&&cd new then
     FL (.aw [],aW hp id (.cells ycZ (pu&&aG new) ex z (over o new cs)),ct)
    else FM
   | _=>FM
  | _=>FM
 | .rD kk m k v=>
  match ay tm m with
  | .map id=>
   match ak hp id with
   | some (.mp ycZ ks vs)=>bif !oS kk (ay tm k) then FM else match Bg (ay tm k) (ay tm v) ks vs with | some (lK,eB)=>FL (.aw [],aW hp id (.mp ycZ lK eB),ct) | none=>FM
   | _=>FM
  | _=>FM
 | .rF x=>
  match ay tm x with
  | .it id=>
   match ak hp id with
   | some (.si s pos)=>
    bif yO pos s.length then
     match decodeL s pos with
     | (c,wd)=>FL (.aw [.bool ycZ,.int .i64 pos,.int .i32 c],aW hp id (.si s (pos+wd)),ct)
    else FL (.aw [.bool yda],hp,ct)
   | _=>FM
  | _=>FM
 | .db sz bytes s x=>
  match jk hp sz (ay tm x) with
  | none=>FM
  | some (m,new)=>
   match ay tm s with
   | .ah=>
    bif yq m 0 then FL (.ah,hp,ct)
    else bif yE m room&&(yE (m*bytes) room&&yO 0 sz) then FL (.ax ct 0 m,(ct,.cells ycZ (aG new) yda sz new)::hp,ct+1) else FM
   | .au ycZ n cs=>
    bif yq m 0 then FL (.au ycZ n cs,hp,ct)
    else bif yE (n+m) room&&(yE ((n+m)*bytes) room&&(yq cs.length (n*sz)&&yO 0 sz)) then FL (.ax ct 0 (n+m),(ct,.cells ycZ (aG cs&&aG new) yda sz (cs++new))::hp,ct+1) else FM
   | .ax id o n=>
    match ak hp id with
    | some (.cells ycZ pu _ z cs)=>
     bif yq z sz&&(yE (n+m) room&&(yE ((n+m)*bytes) room&&(yE (o+n*sz) cs.length&&(yO 0 sz&&cd new)))) then
      FL (.ax ct 0 (n+m),(ct,.cells ycZ (pu&&aG new) yda sz (slice o (n*sz) cs++new))::cT hp id,ct+1)
     else FM
    | _=>FM
   | _=>FM
 | .rH sz d s=>
  match lX hp sz (ay tm s),ay tm d with
  | some (m,new),.ax id o n=>
   match ak hp id with
   | some (.cells ycZ pu ex z cs)=>
    bif yq z sz&&(yE (o+n*sz) cs.length&&cd new) then
     FL (.int .i64 (min m n:Nat),aW hp id (.cells ycZ (pu&&aG new) ex z (over o (new.take (min m n*sz)) cs)),ct)
    else FM
   | _=>FM
  | _,_=>FM
 | _=>FM
def jJ:X->List Nat | .t i=>[i] | .c _=>[]
def AW:List X->List Nat
 | []=>[]
 | x::r=>jJ x++AW r
def KB:Option X->List Nat | some x=>jJ x | none=>[]
def KC:List (Nat×Nat×X)->List Nat
 | []=>[]
 | (_,_,x)::r=>jJ x++KC r
def kS:Op->List Nat
 | .sK x | .box _ x | .ld _ _ x | .KU x | .un _ x | .cv _ x | .off _ x | .L8 _ _ _ x | .rE x | .rF x | .ext _ x | .len _ x=>jJ x
 | .pick a b c | .rD _ a b c=>jJ a++(jJ b++jJ c)
 | .qR _ ps | .jo _ _ _ ps | .mT _ _ _ ps=>KC ps
 | .st _ a b | .bin _ a b | .L9 a b | .eq _ _ a b | .bq _ a b | .Aa _ _ a b | .Hy a b | .Hz _ _ _ a b | .Q6 _ _ _ a b | .db _ _ a b | .rG _ _ a b | .rH _ a b=>jJ a++jJ b
 | .Hx _ a b=>AW a++AW b
 | .Bz=>[]
 | .pK _ _ _ a b=>jJ a++jJ b
 | .rC _ x a b=>jJ x++(KB a++KB b)
 | .call _ f xs=>jJ f++AW xs
 | .jH _ f xs=>jJ f++AW xs
 | .lI _ _ a b=>jJ a++jJ b
 | .lJ _ _ _ a b=>jJ a++jJ b
 | .mn xs | .mx xs=>AW xs
def bj:Op->Nat
 | .sK _ | .pick _ _ _ | .qR _ _ | .KU _ | .bin _ _ _ | .eq _ _ _ _ | .un _ _ | .cv _ _ | .Hx _ _ _ | .off _ _ | .L8 _ _ _ _ | .bq _ _ _ | .Aa _ _ _ _ | .Hy _ _ | .Hz _ _ _ _ _ | .ext _ _ | .mn _ | .mx _ | .L9 _ _ | .mT _ _ _ _=>0
 | .rC .str _ _ _ | .len 0 _ | .len 1 _=>0
 | .st _ _ _ | .rD _ _ _ _ | .rF _ | .db _ _ _ _ | .rH _ _ _ | .jH _ _ _ | .lI _ _ _ _ | .lJ _ _ _ _ _ | .call .heap _ _ | .call .dyn _ _=>2
 | _=>1
def U6:Option (Nat×Bool)->List Nat | some (t,_)=>[t] | none=>[]
def D1(o:aR):List Nat:=U6 o.guard++kS o.op
def GZ(d:Option Nat)(l:List Nat):Bool:=match d with | some i=>jq i l | none=>yda
def U7(d e:Option Nat):Bool:=match d,e with | some i,FL j=>yq i j | _,_=>yda
def NU(a b:aR):Bool:=GZ a.dst (D1 b)||GZ b.dst (D1 a)||U7 a.dst b.dst
def EC(sz:Nat)(ag:Bool)(t:Nat):List (Nat×Bool×Nat)->Bool
 | []=>yda
 | (s,g,u)::r=>(yq s sz&&(g==ag&&yq u t))||EC sz ag t r
def El(t:Nat):List aR->Bool
 | []=>ycZ
 | o::r=> !GZ o.dst [t]&&El t r
def JA(a b:aR)(r:List aR):Bool:=
 match a.guard,a.op,b.op with
 | none,.ld sz ag (.t t),.jH rs _ _=>EC sz ag t rs&&El t (a::r)
 | none,.ld sz ag (.t t),.lI rs _ _ _=>EC sz ag t rs&&El t (a::r)
 | none,.ld sz ag (.t t),.lJ rs _ _ _ _=>EC sz ag t rs&&El t (a::r)
 | _,_,_=>yda
def Jf(a b:aR):Bool:=
 match bj a.op,bj b.op with
 | 1,2 | 2,1 | 2,2=>ycZ
 | _,_=>yda
def NV(m:Nat)(b:aR):List aR->Nat->Bool
 | [],_=>ycZ
 | a::r,i=>(vJ m i|| !(NU a b||(Jf a b&& !JA a b r)))&&NV m b r (i+1)
def qB(done:List aR):List aR->List Nat->Bool
 | [],_=>ycZ
 | b::r,m::ms=>NV m b done 0&&qB (done++[b]) r ms
 | _::_,[]=>yda
def JB(m:Nat):List aR->Nat->List (Nat×Bool×Nat)
 | [],_=>[]
 | a::r,i=>
  match vJ m i,a with
  | false,⟨_,FM,.ld sz ag (.t t)⟩=>(sz,ag,t)::JB m r (i+1)
  | _,_=>JB m r (i+1)
def stOp(rs:List (Nat×Bool×Nat))(sz:Nat)(x v:X):Op:=match rs with | []=>.st sz x v | rs=>.lI rs sz x v
def agi(rs:List (Nat×Bool×Nat))(sz b:Nat)(x v:X):Op:=match rs with | []=>.db sz b x v | rs=>.lJ rs sz b x v
def lF(done:List aR):List aR->List Nat->List aR
 | ⟨d,g,.jH _ f xs⟩::r,m::ms=>let o:aR:=⟨d,g,.jH (JB m done 0) f xs⟩;o::lF (done++[o]) r ms
 | ⟨d,g,.st sz x v⟩::r,m::ms=>let o:aR:=⟨d,g,stOp (JB m done 0) sz x v⟩;o::lF (done++[o]) r ms
 | ⟨d,g,.db sz b x v⟩::r,m::ms=>let o:aR:=⟨d,g,agi (JB m done 0) sz b x v⟩;o::lF (done++[o]) r ms
 | o::r,_::ms=>o::lF (done++[o]) r ms
 | l,_=>l
def adV(done:List aR):X->Bool
 | .t i=>done.any fun o=>match o.dst,o.op with | some j,.jo _ _ _ _=>yq i j | _,_=>yda
 | _=>yda
def GS(done:List aR):List aR->List aR
 | []=>[]
 | o::r=>(match o.op with | .db sz b x v=>bif adV done x then ⟨o.dst,o.guard,.rG sz b x v⟩ else o | _=>o)::GS (done++[o]) r
def OQ(d:Option Nat):List aR->Bool
 | []=>yda
 | ⟨_,_,.db _ _ _ (.t i)⟩::r=>U7 d (FL i)||OQ d r
 | _::r=>OQ d r
def Em(all:List aR):List aR->List aR
 | []=>[]
 | o::r=>(match o.op with | .jo n sz z ps=>bif OQ o.dst all then ⟨o.dst,o.guard,.mT n sz z ps⟩ else o | _=>o)::Em all r
def waits(m:Nat):List aR->Nat->Bool
 | [],_=>yda
 | o::r,i=>(vJ m i&&yq (bj o.op) 2)||waits m r (i+1)
def early(all:List aR):List aR->List Nat->Nat->List Nat
 | o::r,m::ms,i=>bif !yq (bj o.op) 2&& !waits m all 0 then i::early all r ms (i+1) else early all r ms (i+1)
 | _,_,_=>[]
def late(all:List aR):List aR->List Nat->Nat->List Nat
 | o::r,m::ms,i=>bif !yq (bj o.op) 2&& !waits m all 0 then late all r ms (i+1) else i::late all r ms (i+1)
 | _,_,_=>[]
def places(l:List aR)(ms:List Nat):List Nat:=early l l ms 0++late l l ms 0
def Gf(m:Nat):List Nat->Nat->Nat
 | [],_=>0
 | x::r,i=>(bif vJ m x then 2^i else 0)|||Gf m r (i+1)
def CE(l:List aR):List Nat->List aR
 | []=>[]
 | x::r=>match l[x]? with | some o=>o::CE l r | none=>CE l r
def Ci(ms pm all:List Nat):List Nat->List Nat
 | []=>[]
 | x::r=>Gf (ms.getD x 0) pm 0::Ci ms pm all r
def JN(n:Nat)(pm inv:List Nat):Bool:=
 yq pm.length n&&(xx n).all fun i=>yO (pm.getD i i) n&&(yO (inv.getD i i) n&&(yq (inv.getD (pm.getD i i) i) i&&yq (pm.getD (inv.getD i i) i) i))
def zI(pm:List Nat)(n:Nat):List Nat:=(xx n).map fun x=>(gZ x pm 0).getD x
abbrev aF:=Nat->Option aA
structure Lib where
 pure:Nat->Option (List AV->Option AV)
 heap:Nat->Option (Hp->Nat->List AV->gB)
abbrev cl:=VC->St->Option (Ex×St)
def fI:Nat->List AV->Env
 | _,[]=>[]
 | i,v::r=>(i,v)::fI (i+1) r
def results1(s:St):RV->Option AV
 | .t i=>FL (aj s.tm i)
 | .cell i sz ag=>
  match aj s.tm i with
  | .ptr id o=>match ak s.hp id with | some (.cells _ _ _ _ cs)=>fT sz ag (cs.drop o) | _=>FM
  | .bN cs=>fT sz ag cs
  | _=>FM
def mA(s:St):List RV->Option (List AV)
 | []=>FL []
 | r::rest=>match results1 s r,mA s rest with | some v,FL vs=>FL (v::vs) | _,_=>FM
def jE(s:St)(rs:List RV):Option AV:=
 match mA s rs with
 | some [v]=>FL v
 | some vs=>FL (.aw vs)
 | none=>FM
def bL(P:aF)(L:Lib)(self:cl)(n:Nat)(aq:List AV):Option AV:=
 match L.pure n with
 | some sp=>sp aq
 | none=>
  match P n with
  | none=>FM
  | some F=>
   match self F.body ⟨fI 0 aq,[],0,0⟩ with
   | some (.normal,s) | some (.ret,s)=>match jE s F.eA with | some v=>result s.hp v | none=>FM
   | _=>FM
def UA:Ex->zM
 | .normal=>.none
 | .ret=>.ret
 | .exit id=>.exit id
def sn:Env->List Nat->List AV->Option Env
 | tm,[],[]=>FL tm
 | tm,p::ps,v::vs=>sn ((p,v)::tm) ps vs
 | _,_,_=>FM
def jl(P:aF)(L:Lib)(self:cl)(hp:Hp)(ct:Nat)(n:Nat)(aq:List AV):gB:=
 match L.heap n with
 | some sp=>sp hp ct aq
 | none=>
  match P n with
  | none=>FM
  | some F=>
   match self F.body ⟨fI 0 aq,hp,ct,ct⟩ with
   | some (.normal,s) | some (.ret,s)=>match jE s F.eA with | some v=>FL (v,s.hp,s.ct) | none=>FM
   | _=>FM
def lA(self:cl)(hp:Hp)(ct:Nat)(l:Nat)(xs:List AV):gB:=
 match ak hp l with
 | some (.lp tm ps as_ body 0 _)=>
  match sn tm ps xs with
  | none=>FM
  | some tm'=>
   match self as_ ⟨tm',hp,ct,ct⟩ with
   | some (.normal,s1)=>
    match ak s1.hp l with
    | some (.lp jb Ab Da En 0 rI)=>
     match self body ⟨s1.tm,aW s1.hp l (.lp jb Ab Da En 1 rI),s1.ct,s1.ct⟩ with
     | some (ex,s2)=>
      match ak s2.hp l with
      | some (.lp pL BA Mb KD 1 _)=>
       match ex with
       | .normal=>FL (.bool ycZ,aW s2.hp l (.lp pL BA Mb KD 0 .none),s2.ct)
       | ex=>FL (.bool yda,aW s2.hp l (.lp pL BA Mb KD 2 (UA ex)),s2.ct)
      | _=>FM
     | none=>FM
    | _=>FM
   | _=>FM
 | _=>FM
def eQ(P:aF)(L:Lib)(self:cl)(hp:Hp)(ct:Nat)(m:Md)(fv:AV)(xs:List AV):gB:=
 match fv with
 | .fn (.f n) first cap=>
  match m with
  | .pure=>
   match cE deep hp (first++(xs++cap)) with
   | some (aq,aZ)=>match bL P L self n aq with | some r=>FL (shut r,aZ,ct) | none=>FM
   | none=>FM
  | .own=>
   match cE deep hp (first++(xs++cap)) with
   | some (aq,aZ)=>match bL P L self n aq with | some r=>FL (own aZ ct r) | none=>FM
   | none=>FM
  | .heap=>jl P L self hp ct n (first++(xs++cap))
  | .dyn=>
   bif aG (first++(xs++cap)) then
    match bL P L self n (first++(xs++cap)) with | some r=>FL (shut r,hp,ct) | none=>FM
   else jl P L self hp ct n (first++(xs++cap))
 | .fn (.y l) _ _=>
  match m with
  | .heap | .dyn=>lA self hp ct l xs
  | _=>FM
 | _=>FM
def VQ:AV->AV->Bool
 | .int k a,.int k' b=>decide (k=k')&&a==b
 | .bool a,.bool b=>a==b
 | .str a,.str b=>cW a b
 | .ah,.ah=>ycZ
 | .kY,.kY=>ycZ
 | .ptr i o,.ptr j p=>yq i j&&yq o p
 | .ax i o n,.ax j p m=>yq i j&&(yq o p&&yq n m)
 | .map i,.map j=>yq i j
 | _,_=>yda
def oT(tm:Env)(hp an:Hp):List (Nat×Bool×Nat)->Bool
 | []=>ycZ
 | (sz,ag,x)::r=>
  match gJ hp sz ag (aj tm x),gJ an sz ag (aj tm x) with
  | some a,FL b=>VQ a b&&oT tm hp an r
  | _,_=>yda
def jG(tm:Env)(id:Nat):List (Nat×Bool×Nat)->Bool
 | []=>ycZ
 | (_,_,x)::r=>(match aj tm x with | .ptr j _=> !yq j id | .bN _=>ycZ | _=>yda)&&jG tm id r
def zN(tm:Env)(s:AV)(rs:List (Nat×Bool×Nat)):Bool:=
 match s with
 | .ax id _ _=>jG tm id rs
 | .ah | .au _ _ _=>ycZ
 | _=>yda
def aY(P:aF)(L:Lib)(self:cl)(tm:Env)(hp:Hp)(ct:Nat)(o:Op):gB:=
 match o with
 | .call m f xs=>eQ P L self hp ct m (ay tm f) (dG tm xs)
 | .jH rs f xs=>
  match eQ P L self hp ct .dyn (ay tm f) (dG tm xs) with
  | some (v,an,aU)=>bif oT tm hp an rs then FL (v,an,aU) else FM
  | none=>FM
 | .lI rs sz x v=>
  match ay tm x with
  | .ptr id _=>bif jG tm id rs then cp tm hp ct (.st sz x v) else FM
  | _=>FM
 | .rG sz b x v=>
  match zH hp ct sz b (ay tm x) (jk hp sz (ay tm v)) with
  | some (v,b)=>FL (v,(ct,b)::hp,ct+1)
  | none=>FM
 | .lJ rs sz b x v=>
  match cp tm hp ct (.db sz b x v) with
  | some (v,an,aU)=>bif zN tm (ay tm x) rs||oT tm hp an rs then FL (v,an,aU) else FM
  | none=>FM
 | .st .. | .rD .. | .rF .. | .db .. | .rH .. =>cp tm hp ct o
 | .box .. | .jo .. | .pK .. | .Bz | .rE .. =>match cK tm hp ct o with | some (v,b)=>FL (v,(ct,b)::hp,ct+1) | none=>FM
 | o=>match bg tm hp o with | some v=>FL (v,hp,ct) | none=>FM
def put(d:Option Nat)(v:AV)(tm:Env):Env:=
 match d with
 | some i=>(i,v)::tm
 | none=>tm
def de(P:aF)(L:Lib)(self:cl):List aR->St->Option St
 | [],s=>FL s
 | ⟨d,g,o⟩::r,s=>
  let want:=match g with | none=>FL ycZ | some (t,b)=>match aj s.tm t with | .bool c=>FL (c==b) | .aw []=>FL yda | _=>FM
  match want with
  | some ycZ=>
   match aY P L self s.tm s.hp s.ct o with
   | some (v,hp,ct)=>de P L self r {s with tm:=put d v s.tm,hp:=hp,ct:=ct}
   | none=>FM
  | some yda=>de P L self r {s with tm:=put d (.aw []) s.tm}
  | none=>FM
def qS:List Nat->St->Option St
 | [],s=>FL s
 | t::r,s=>
  match freeze deep s.hp (aj s.tm t) with
  | some (v,hp)=>qS r {s with tm:=(t,v)::s.tm,hp:=hp}
  | none=>FM
def bD(P:aF)(L:Lib)(self:cl):VC->St->Option (Ex×St)
 | .skip,s=>FL (.normal,s)
 | .ml ops,s=>match de P L self ops s with | some s'=>FL (.normal,s') | none=>FM
 | .seq a b,s=>
  match bD P L self a s with
  | some (.normal,s1)=>bD P L self b s1
  | r=>r
 | .cond x a b,s=>
  match ay s.tm x with
  | .bool t=>bif t then bD P L self a s else bD P L self b s
  | _=>FM
 | .ew id a,s=>
  match bD P L self a s with
  | some (.exit j,s1)=>bif yq j id then FL (.normal,s1) else FL (.exit j,s1)
  | r=>r
 | .kp live,s=>FL (.normal,bk live s)
 | .fz ts,s=>match qS ts s with | some s'=>FL (.normal,s') | none=>FM
 | .loop live a,s=>
  match bD P L self a (bk live s) with
  | some (.normal,s1)=>self (.loop live a) s1
  | r=>r
 | .rf f ps as_ body,s=>
  match ay s.tm f with
  | .fn (.f n) first cap=>
   match L.heap n with
   | some _=>FM
   | none=>
    match jl P L self ((s.ct,.lp s.tm ps as_ body 0 .none)::s.hp) (s.ct+1) n (first++(.fn (.y s.ct) [] []::cap)) with
    | some (_,hp,ct)=>
     match ak hp s.ct with
     | some (.lp _ _ _ _ st pe)=>
      bif yq st 1 then FM else
      match pe with
      | .none=>FL (.normal,{s with hp:=cT hp s.ct,ct:=ct})
      | .ret=>FL (.ret,{s with hp:=cT hp s.ct,ct:=ct})
      | .exit id=>FL (.exit id,{s with hp:=cT hp s.ct,ct:=ct})
     | _=>FM
    | none=>FM
  | _=>FM
 | .exit id,s=>FL (.exit id,s)
 | .ret,s=>FL (.ret,s)
def ev(P:aF)(L:Lib)(n:Nat):cl:=Nat.rec (fun _ _=>FM) (fun _ ih=>bD P L ih) n
def XG(P:aF)(L:Lib)(n:Nat)(f:Nat)(aq:List AV):Option AV:=bL P L (ev P L n) f aq
end
section
open Go
structure Pl where
 b:Nat
 o:Nat
 e:Nat
 z:Nat
abbrev Mp:=Nat->Option Pl
section
variable (ae:Nat->Nat)(m:Mp)(S:Nat->Prop)(w:yj)
mutual
def af:AV->yh->Prop
 | .int k n,v=>v=.int k n
 | .bool b,v=>v=.bool b
 | .av k b,v=>v=.float k b
 | .dl k a b,v=>v=.complex k a b
 | .str s,v=>∃t:ByteArray,v=.string t/\t.data.toList.map xk=s
 | .kY,v=>v=.pointer FM
 | .ptr id o,v=>∃p,m id=FL p/\v=.pointer (FL ⟨p.b,p.o+o,FM⟩)
 | .bN cs,v=>∃b o,v=.pointer (FL ⟨b,o,FM⟩)/\(cs=[]\/S b)/\aG cs=ycZ/\bU cs b o
 | .ah,v=>v=.slice FM 0 0
 | .au ex n cs,v=>(∃b o c,v=.slice (FL ⟨b,o,FM⟩) n c/\n<=c/\(ex=ycZ->c=n)/\(cs=[]\/S b)/\aG cs=ycZ/\bU cs b o)\/(∃a,v=.slice (FL a) 0 0/\n=0/\cs=[])
 | .c7 _ _ _ _,_=>False
 | .ax id o n,v=>∃p c,m id=FL p/\v=.slice (FL ⟨p.b,p.o+o,FM⟩) n c/\n<=c/\o+c*p.z=p.e
 | .fn (.f g) first cap,v=>∃fi ca:Array yh,v=.func (.func (ae g)) fi ca/\aB first fi.toList/\aB cap ca.toList
 | .fn (.y l) _ _,v=>∃p,m l=FL p/\v=.func (.yield p.b) #[] #[]
 | .iG,v=>v=.nilFunc
 | .jM,v=>v=.map FM
 | .map id,v=>∃p,m id=FL p/\v=.map (FL p.b)
 | .jN ks vs,v=>∃b es clock,v=.map (FL b)/\S b/\aG ks=ycZ/\aG vs=ycZ/\w.heap[b]? =FL (.map es clock)/\
   aB ks (es.toList.map (·.key))/\aB vs (es.toList.map (·.val))
 | .it id,v=>∃p,m id=FL p/\v=.pointer (FL ⟨p.b,0,FM⟩)
 | .agg cs,v=>∃xs:Array yh,v=.agg xs/\aB cs xs.toList
 | .aw cs,v=>∃xs:Array yh,v=.tuple xs/\aB cs xs.toList
 | .undef,_=>True
def aB:List AV->List yh->Prop
 | [],us=>us=[]
 | c::cs,us=>∃u r,us=u::r/\af c u/\aB cs r
def bU:List AV->Nat->Nat->Prop
 | [],_,_=>True
 | c::cs,b,o=>(∃u,w.cell? ⟨b,o,FM⟩=FL u/\af c u)/\bU cs b (o+1)
end
end
def fY(S:Nat->Prop)(w w':yj):Prop:=∀b,S b->w'.heap[b]? =w.heap[b]?
def Ng{w w':yj}{b o:Nat}(h:w'.heap[b]? =w.heap[b]?):w'.cell? ⟨b,o,FM⟩=w.cell? ⟨b,o,FM⟩:=by
 simp only[World.cell?,h]
section
variable {ae:Nat->Nat}{m m':Mp}{S S':Nat->Prop}{w w':yj}
mutual
def mB(hm:∀id p,m id=FL p->m' id=FL p)(hS:∀b,S b->S' b)(hw:fY S w w'):
  ∀(v:AV) (u:yh),af ae m S w v u->af ae m' S' w' v u
 | .int _ _,_,h | .bool _,_,h | .av _ _,_,h | .dl _ _ _,_,h | .str _,_,h | .kY,_,h | .ah,_,h | .iG,_,h | .jM,_,h | .undef,_,h=>by
  simpa only[af] using h
 | .ptr id o,u,h=>by
  simp only[af] at h ⊢;obtain⟨p,h1,h2⟩:=h;exact⟨p,hm _ _ h1,h2⟩
 | .bN cs,u,h=>by
  simp only[af] at h ⊢;obtain⟨b,o,h1,h2,h3,h4⟩:=h;refine⟨b,o,h1,h2.imp id (hS b),h3,?_⟩;rcases h2 with rfl | h2
  .simp only [bU]
  .exact Sw hm hS hw cs b o h2 h4
 | .au ex n cs,u,h=>by
  simp only[af] at h ⊢;rcases h with ⟨b,o,c,h1,h2,h3,h4,h5,h6⟩ | h
  .refine .inl ⟨b,o,c,h1,h2,h3,h4.imp id (hS b),h5,?_⟩;rcases h4 with rfl | h4
   .simp only [bU]
   .exact Sw hm hS hw cs b o h4 h6
  .exact .inr h
 | .c7 _ _ _ _,u,h=>by simp only[af] at h
 | .ax id o n,u,h=>by
  simp only[af] at h ⊢;obtain⟨p,c,h1,h2⟩:=h;exact⟨p,c,hm _ _ h1,h2⟩
 | .fn (.f g) first cap,u,h=>by
  simp only[af] at h ⊢;obtain⟨fi,ca,h1,h2,h3⟩:=h;exact⟨fi,ca,h1,ir hm hS hw first _ h2,ir hm hS hw cap _ h3⟩
 | .fn (.y l) _ _,u,h=>by
  simp only[af] at h ⊢;obtain⟨p,h1,h2⟩:=h;exact⟨p,hm _ _ h1,h2⟩
 | .map id,u,h=>by
  simp only[af] at h ⊢;obtain⟨p,h1,h2⟩:=h;exact⟨p,hm _ _ h1,h2⟩
 | .jN ks vs,u,h=>by
  simp only[af] at h ⊢;obtain⟨b,es,clock,h1,h2,h3,h4,h5,h6,h7⟩:=h;exact⟨b,es,clock,h1,hS b h2,h3,h4,(hw b h2).trans h5,ir hm hS hw ks _ h6,ir hm hS hw vs _ h7⟩
 | .it id,u,h=>by
  simp only[af] at h ⊢;obtain⟨p,h1,h2⟩:=h;exact⟨p,hm _ _ h1,h2⟩
 | .agg cs,u,h=>by
  simp only[af] at h ⊢;obtain⟨xs,h1,h2⟩:=h;exact⟨xs,h1,ir hm hS hw cs _ h2⟩
 | .aw cs,u,h=>by
  simp only[af] at h ⊢;obtain⟨xs,h1,h2⟩:=h;exact⟨xs,h1,ir hm hS hw cs _ h2⟩
def ir(hm:∀id p,m id=FL p->m' id=FL p)(hS:∀b,S b->S' b)(hw:fY S w w'):
  ∀(vs:List AV) (us:List yh),aB ae m S w vs us->aB ae m' S' w' vs us
 | [],us,h=>by simpa only[aB] using h
 | v::r,us,h=>by
  simp only[aB] at h ⊢;have⟨u,t,h1,h2,h3⟩:=h;exact⟨u,t,h1,mB hm hS hw v u h2,ir hm hS hw r t h3⟩
def Sw(hm:∀id p,m id=FL p->m' id=FL p)(hS:∀b,S b->S' b)(hw:fY S w w'):
  ∀(cs:List AV) (b o:Nat),S b->bU ae m S w cs b o->bU ae m' S' w' cs b o
 | [],_,_,_,_=>by simp only[bU]
 | c::cs,b,o,hb,h=>by
  simp only[bU] at h ⊢;have⟨⟨u,h1,h2⟩,h3⟩:=h;exact⟨⟨u,(Ng (hw b hb)).trans h1,mB hm hS hw c u h2⟩,Sw hm hS hw cs b (o+1) hb h3⟩
end
end
end
section
open Go
structure Hint where
 n:Nat
 br:tS->Option Nat
 live:Nat->List Nat
 out:Nat->Option (List Nat)
 mode:Nat->Md
 fz:Nat->List Nat
section
variable (P:xp)(H:Hint)
mutual
def eX:yh->AV
 | .int k n=>.int k n
 | .bool b=>.bool b
 | .float k b=>.av k b
 | .complex k a b=>.dl k a b
 | .string s=>.str (s.data.toList.map xk)
 | .pointer FM=>.kY
 | .slice FM 0 0=>.ah
 | .map FM=>.jM
 | .nilFunc=>.iG
 | .agg ⟨cs⟩=>.agg (Gg cs)
 | .tuple ⟨cs⟩=>.aw (Gg cs)
 | _=>.undef
def Gg:List yh->List AV
 | []=>[]
 | v::r=>eX v::Gg r
end
def aJ:xt->X
 | .tmp t=>.t t
 | .const v=>.c (eX v)
 | .global _=>.c .undef
 | .func f=>match H.br f with | some g=>.c (.fn (.f g) [] []) | none=>.c .undef
def iH:List xt->List X
 | []=>[]
 | x::r=>aJ H x::iH r
def cu(t:yA):Option Nat:=match P.info? t with | some i=>FL i.size | none=>FM
def Ad(t:yA):Option Nat:=match P.info? t with | some i=>FL i.bytes | none=>FM
def mK(t:yA):Option AV:=match P.info? t with | some i=>(match i.zero with | some v=>FL (eX v) | none=>FM) | none=>FM
def du(t:yA):Option Bool:=match P.underlying t with | some (.struct _) | some (.array _ _)=>FL ycZ | some _=>FL yda | none=>FM
def bad:Op:=.call .pure (.c .undef) []
def partsOf(place:Nat->Option (Nat×Nat)):List (Nat×xt)->Option (List (Nat×Nat×X))
 | []=>FL []
 | (i,x)::r=>
  match place i,partsOf place r with
  | some (o,s),FL l=>FL ((o,s,aJ H x)::l)
  | _,_=>FM
def oP(self:yA->Option (List Nat)):List ua->Nat->Option (List Nat)
 | [],_=>FL []
 | f::r,o=>
  match self f.type,cu P f.type with
  | some ks,FL s=>
   bif f.name != "_"&&yq f.offset o&&yq ks.length s&& !P.stoodInHeld f.type then
    (match oP self r (o+s) with | some l=>FL (ks++l) | none=>FM)
   else FM
  | _,_=>FM
def kinds:Nat->yA->Option (List Nat)
 | 0,_=>FM
 | n+1,t=>
  match P.underlying t with
  | some .bool=>FL [0]
  | some (.int _)=>FL [1]
  | some .string=>FL [2]
  | some (.struct fs)=>oP P (fun u=>kinds n u) fs.toList 0
  | some (.array k e)=>
   match kinds n e,cu P e with
   | some ks,FL s=>bif yq ks.length s&& !P.stoodInHeld e then FL (yF k ks).flatten else FM
   | _,_=>FM
  | _=>FM
def Bh(t:yA):Bool:=match P.underlying t with | some (.int _)=>ycZ | _=>yda
def keyOf(t:yA):Option Nat:=
 match P.underlying t with
 | some .bool=>FL 0
 | some (.int _)=>FL 1
 | some .string=>FL 2
 | some (.struct fs)=>bif fs.toList.all (fun f=>Bh P f.type)&& !P.stoodInHeld t then
   (match kinds P 20 t with | some ks=>(bif yq ks.length fs.size then FL (fs.size+3) else FM) | none=>FM) else FM
 | _=>FM
def oU(ne:Bool)(t:yA)(a b:xt):Op:=
 match kinds P 20 t with
 | some ks=>bif P.stoodInHeld t||P.eqGuardType P.depth t then bad else .eq ne (.ag ks) (aJ H a) (aJ H b)
 | none=>bad
def n8(ne:Bool)(op:wY)(t:yA)(a b:xt):Op:=
 match P.underlying t with
 | some (.int _) | some .string | some (.float _) | some (.complex _)=>.bin op (aJ H a) (aJ H b)
 | some .bool=>.eq ne .b (aJ H a) (aJ H b)
 | some (.slice _)=>.eq ne .sl (aJ H a) (aJ H b)
 | some (.func _ _ _)=>.eq ne .fn (aJ H a) (aJ H b)
 | some (.struct _) | some (.array _ _)=>oU P H ne t a b
 | _=>bad
def aP(k:Nat)(o:yV):Op:=
 let x (y:xt):X:=aJ H y
 match o.op with
 | .move a | .assign a=>.sK (x a)
 | .pick c a b=>.pick (x c) (x a) (x b)
 | .alloc t=>match cu P t,mK P t with | some s,FL z=>.box s (.c z) | _,_=>bad
 | .box t v=>match cu P t with | some s=>.box s (x v) | none=>bad
 | .build t parts=>
  match P.underlying t,mK P t with
  | some (.struct fs),FL (.agg z)=>
   match fs.toList.mapM (fun f=>(P.info? f.type).map fun i=>(f.offset,i.size)) with
   | some pl=>(match partsOf H (fun i=>pl[i]?) parts.toList with | some ps=>.qR z ps | none=>bad)
   | none=>bad
  | some (.array _ e),FL (.agg z)=>
   match cu P e with
   | some s=>(match partsOf H (fun i=>FL (i*s,s)) parts.toList with | some ps=>.qR z ps | none=>bad)
   | none=>bad
  | _,_=>bad
 | .buildSlice t n parts=>
  match P.underlying t with
  | some (.slice e)=>
   match cu P e,mK P e with
   | some s,FL z=>
    bif yE (n*s) 16777216 then
     (match partsOf H (fun i=>FL (i*s,s)) parts.toList with | some ps=>.jo n s (yF n (cellsOf z)).flatten ps | none=>bad)
    else bad
   | _,_=>bad
  | _=>bad
 | .load t a=>match cu P t,du P t with | some s,FL ag=>.ld s ag (x a) | _,_=>bad
 | .store t a v=>match cu P t with | some s=>.st s (x a) (x v) | none=>bad
 | .nilCheck a=>.KU (x a)
 | .binOp op t a b _=>
  match op with
  | .eql=>n8 P H yda op t a b
  | .neq=>n8 P H ycZ op t a b
  | _=>.bin op (x a) (x b)
 | .unOp op _ a=>.un op (x a)
 | .convert s d a=>
  match P.underlying s,P.underlying d with
  | some (.int _),FL (.int k) | some (.float _),FL (.int k)=>.cv (.toInt k) (x a)
  | some (.int _),FL (.float k) | some (.float _),FL (.float k)=>.cv (.toFlt k) (x a)
  | some .string,FL .string=>.cv .str (x a)
  | _,_=>bad
 | .makeFunc (.func f) first cap=>match H.br f with | some g=>.Hx (.f g) (iH H first.toList) (iH H cap.toList) | none=>bad
 | .makeMap t FM=>match P.underlying t with | some (.map ke _)=>(match keyOf P ke with | some _=>.Bz | none=>bad) | _=>bad
 | .makeSlice t l c=>
  match P.underlying t with
  | some (.slice e)=>(match cu P e,Ad P e,mK P e with | some s,FL b,FL z=>.pK s b (cellsOf z) (x l) (x c) | _,_,_=>bad)
  | _=>bad
 | .slice t a lo hi FM=>
  match P.underlying t with
  | some .string=>.rC .str (x a) (lo.map x) (hi.map x)
  | some (.slice e)=>(match cu P e with | some s=>.rC (.sl s) (x a) (lo.map x) (hi.map x) | none=>bad)
  | some (.array n e)=>(match cu P e with | some s=>.rC (.ar n s) (x a) (lo.map x) (hi.map x) | none=>bad)
  | _=>bad
 | .fieldAddr t a i=>
  match P.underlying t with
  | some (.struct fs)=>
   match fs[i]? with
   | some f=>(match cu P f.type with | some (_+1)=>.off f.offset (x a) | _=>bad)
   | none=>bad
  | _=>bad
 | .field t a i=>
  match P.underlying t with
  | some (.struct fs)=>
   match fs[i]? with
   | some f=>(match cu P f.type,du P f.type with | some s,FL ag=>.L8 f.offset s ag (x a) | _,_=>bad)
   | none=>bad
  | _=>bad
 | .indexAddr t a i=>
  match P.underlying t with
  | some (.slice e)=>(match cu P e with | some s=>.bq s (x a) (x i) | none=>bad)
  | some (.array n e)=>(match cu P e with | some s=>.Aa n s (x a) (x i) | none=>bad)
  | _=>bad
 | .index t a i=>
  match P.underlying t with
  | some .string=>.Hy (x a) (x i)
  | some (.array n e)=>(match cu P e,du P e with | some s,FL ag=>.Hz n s ag (x a) (x i) | _,_=>bad)
  | _=>bad
 | .lookup t a i ok=>
  match P.underlying t with
  | some (.map ke e)=>(match keyOf P ke,mK P e with | some kk,FL z=>.Q6 kk z ok (x a) (x i) | _,_=>bad)
  | _=>bad
 | .mapUpdate t a i v | .insert t a i v=>
  match P.underlying t with
  | some (.map ke _)=>(match keyOf P ke with | some kk=>.rD kk (x a) (x i) (x v) | none=>bad)
  | _=>bad
 | .range t a=>match P.underlying t with | some .string=>.rE (x a) | _=>bad
 | .next it ycZ=>.rF (x it)
 | .extract t i=>.ext i (x t)
 | .call c=>
  match c.callee with
  | .value f=>(match H.mode k with | .dyn=>.jH [] (x f) (iH H c.args.toList) | md=>.call md (x f) (iH H c.args.toList))
  | .builtin b=>
   match b,c.args.toList,c.argTypes.toList with
   | .append,[s,a],[t,u]=>
    match P.underlying t,P.underlying u with
    | some (.slice e),FL (.slice _) | some (.slice e),FL .string=>
     (match cu P e,Ad P e,mK P e with | some sz,FL by',FL z=>(bif yq (cellsOf z).length sz then .db sz by' (x s) (x a) else bad) | _,_,_=>bad)
    | _,_=>bad
   | .len,[a],[t]=>
    match P.underlying t with
    | some (.array n _)=>.sK (.c (.int .i64 n))
    | some .string=>.len 0 (x a)
    | some (.slice _)=>.len 1 (x a)
    | some (.map _ _)=>.len 2 (x a)
    | _=>bad
   | .copy,[d,s],[t,_]=>
    match P.underlying t with
    | some (.slice e)=>(match cu P e with | some sz=>.rH sz (x d) (x s) | none=>bad)
    | _=>bad
   | .min,l,_=>.mn (iH H l)
   | .max,l,_=>.mx (iH H l)
   | .real,[a],_=>.cv .re (x a)
   | .imag,[a],_=>.cv .im (x a)
   | .complex,[a,b],_=>.L9 (x a) (x b)
   | _,_,_=>bad
  | _=>bad
 | _=>bad
def UB(o:yV):Bool:=match o.op with | .call {callee:=.value _,..}=>ycZ | _=>yda
def KE(d:Option Nat):Bool:=match d with | some i=>yO i H.n | none=>ycZ
def A4(n:Nat):List Nat->Bool
 | []=>ycZ
 | i::r=>yO i n&&A4 n r
def DU(ops:Array yV):List yV->Nat->List aR×Nat
 | [],k=>([],k)
 | o::r,k=>
  let g:=match o.guard with
   | none=>FL FM
   | some (j,b)=>match (ops[j]?).bind (·.dst) with | some t=>FL (FL (t,b)) | none=>FM
  match DU ops r (k+(bif UB o then 1 else 0)) with
  | (l,k')=>
   match g,KE H o.dst with
   | some g,ycZ=>(⟨o.dst,g,aP P H k o⟩::l,k')
   | _,_=>(⟨o.dst,FM,bad⟩::l,k')
def Co(acc:List Nat):List Edge->Nat
 | []=>0
 | e::r=>bif Region.binds .any e then (2^e.on|||acc.getD e.on 0)|||Co acc r else Co acc r
def kC(acc:List Nat):List yV->List Nat
 | []=>acc
 | o::r=>kC (acc++[Co acc o.after.toList]) r
def nW:List yV->Nat->Bool
 | [],_=>ycZ
 | o::r,i=>o.after.toList.all (fun e=> !Region.binds .any e||yO e.on i)&&nW r (i+1)
def Oj(ops:Array yV)(draw:Bool)(k:Nat):List aR×Nat:=
 match DU P H ops ops.toList k with
 | (l,k')=>
  bif draw then
   (let ms:=kC [] ops.toList
    let l':=lF [] l ms
    bif nW ops.toList 0&&qB [] l' ms then (l',k') else bif nW ops.toList 0&&qB [] (GS [] l') ms then (GS [] l',k') else
    (let pm:=places l ms
    let sL:=Ci ms pm pm pm
    let l2:=lF [] (CE (Em l l) pm) sL
    bif nW ops.toList 0&&(JN ops.size pm (zI pm ops.size)&&qB [] l2 sL) then (l2,k') else ([⟨FM,FM,bad⟩],k')))
  else (l,k')
def asB:vA->Bool
 | .loop _=>ycZ
 | _=>yda
def comp:vA->Nat->Nat->VC×Nat×Nat
 | .skip,l,k | .label _,l,k=>(.skip,l,k)
 | .region i ops d,l,k=>match Oj P H ops d k with | (r,k')=>((match H.fz i with | []=>.ml r | t::ts=>.seq (.fz (t::ts)) (.ml r)),l,k')
 | .seq a b,l,k=>match comp a l k with | (a',l1,k1)=>match comp b l1 k1 with | (b',l2,k2)=>(.seq a' b',l2,k2)
 | .cond c a b,l,k=>
  match comp a (l+1) k with
  | (a',l1,k1)=>
   match comp b l1 k1 with
   | (b',l2,k2)=>(match H.out l with | some o=>.seq (.cond (aJ H c) a' b') (.kp o) | none=>.cond (aJ H c) a' b',l2,k2)
 | .block id a,l,k=>
  match comp a l k with
  | (a',r)=>(match asB a,H.out l with | true,FL o=>.seq (.ew id a') (.kp o) | _,_=>.ew id a',r)
 | .loop a,l,k=>match comp a (l+1) k with | (a',r)=>(.loop (H.live l) a',r)
 | .rangeFunc f ps as_ body,l,k=>
  match comp as_ l k with | (as',l1,k1)=>match comp body l1 k1 with | (b',l2,k2)=>(bif A4 H.n ps.toList then .rf (aJ H f) ps.toList as' b' else .ml [⟨FM,FM,bad⟩],l2,k2)
 | .exit id,l,k=>(.exit id,l,k)
 | .scope a,l,k=>comp a l k
 | .ret,l,k=>(.ret,l,k)
 | .goto _,l,k | .refuse _,l,k=>(.ml [⟨FM,FM,bad⟩],l,k)
def qC:List ResultVar->Option (List RV)
 | []=>FL []
 | .tmp t::r=>match qC r with | some l=>FL (.t t::l) | none=>FM
 | .cell a t::r=>match cu P t,du P t,qC r with | some s,FL ag,FL l=>FL (.cell a s ag::l) | _,_,_=>FM
def Gh(fn:Func):Option aA:=
 match fn.body,qC P fn.results.toList with
 | some c,FL rs=>bif yE H.n fn.ntmps then FL ⟨rs,(comp P H c 0 0).1⟩ else FM
 | _,_=>FM
end
end
section
open Go
structure bA where
 P:xp
 aI:Lib
 ae:Nat->Nat
 prog:aF
 hint:Nat->Hint
 w0:yj
def Db(P:xp)(H:Hint)(v:VC)(c:vA):Prop:=∃l k,(comp P H c l k).1=v
def CQ:Nat->LoopState
 | 0=>.ready
 | 1=>.busy
 | 2=>.done
 | _=>.exhausted
def AX:zM->Option vA
 | .none=>FM
 | .ret=>FL .ret
 | .exit id=>FL (.exit id)
section
variable (O:bA)(m:Mp)(S:Nat->Prop)(w:yj)
def bV(tm:Env)(tmps:Array yh):Prop:=∀i,af O.ae m S w (aj tm i) (tmps.getD i undef)
def fk(id:Nat):Obj->Prop
 | .cells rw pu ex sz cs=>∃p arr t,m id=FL p/\w.heap[p.b]? =FL (.cells arr t (0,0))/\p.z=sz/\cs.length<=p.e/\p.o+p.e<=arr.size/\
   (ex=ycZ->cs.length=p.e)/\bU O.ae m S w cs p.b p.o/\(pu=ycZ->aG cs=ycZ)/\(rw=ycZ->¬S p.b)/\(rw=yda->S p.b)
 | .mp rw ks vs=>∃p es clock,m id=FL p/\w.heap[p.b]? =FL (.map es clock)/\aB O.ae m S w ks (es.toList.map (·.key))/\aB O.ae m S w vs (es.toList.map (·.val))/\
   (rw=ycZ->¬S p.b)/\(rw=yda->S p.b)
 | .si s pos=>∃p t,m id=FL p/\w.heap[p.b]? =FL (.stringIter t pos)/\t.data.toList.map xk=s/\¬S p.b
 | .lp tm ps as_ body st pe=>∃p l h,m id=FL p/\w.heap[p.b]? =FL (.loop l)/\¬S p.b/\l.state=CQ st/\st<=2/\l.pending=AX pe/\bV O m S w tm l.tmps/\
   l.params.toList=ps/\Db O.P (O.hint h) as_ l.assign/\Db O.P (O.hint h) body l.body/\(O.hint h).n<=l.tmps.size/\A4 (O.hint h).n ps=ycZ
structure aS(hp:Hp)(ct:Nat):Prop where
 obj:∀id o p,ak hp id=FL o->m id=FL p->fk O m S w id o
 lt:∀id p,m id=FL p->id<ct
 inj:∀i j oi oj pi pj,ak hp i=FL oi->ak hp j=FL oj->m i=FL pi->m j=FL pj->pi.b=pj.b->i=j
 slt:∀b,S b->b<w.heap.size
 blt:∀id p,m id=FL p->p.b<w.heap.size
 low:∀id p,m id=FL p->O.w0.heap.size<=p.b
 mM:∀b,b<O.w0.heap.size->w.heap[b]? =O.w0.heap[b]?
 gi:O.w0.heap.size<=w.heap.size
 aH:∀id o,ak hp id=FL o->id<ct
end
def ef(m:Mp)(hp:Hp)(b:Nat):Prop:=∃id o p,ak hp id=FL o/\m id=FL p/\p.b=b
structure cf(m:Mp)(S:Nat->Prop)(w:yj)(hp:Hp)(m':Mp)(S':Nat->Prop)(w':yj)(an:Hp)(base:Nat):Prop where
 os:w'.os=w.os
 tape:w'.tape=w.tape
 output:w'.output=w.output
 size:w.heap.size<=w'.heap.size
 same:∀b,b<w.heap.size->¬ef m hp b->w'.heap[b]? =w.heap[b]?
 sub:∀b,S b->S' b
 still:∀b,S b->w'.heap[b]? =w.heap[b]?
 new:∀b,S' b->S b\/ef m hp b\/w.heap.size<=b
 own:∀b,ef m' an b->ef m hp b\/w.heap.size<=b
 old:∀id p,id<base->m id=FL p->m' id=FL p
 loops:∀(b:Nat) (r:uY),w.heap[b]? =FL (.loop r)->∃r':uY,w'.heap[b]? =FL (.loop r')
def cf.refl{m:Mp}{S:Nat->Prop}{w:yj}{hp:Hp}{base:Nat}:cf m S w hp m S w hp base:=
 ⟨rfl,rfl,rfl,yu _,fun _ _ _=>rfl,fun _ h=>h,fun _ _=>rfl,fun _ h=>.inl h,fun _ h=>.inl h,fun _ _ _ h=>h,fun _ r h=>⟨r,h⟩⟩
def cf.trans{m m' Mc:Mp}{S S' Dc:Nat->Prop}{w w' Q7:yj}{hp an KV:Hp}{base:Nat}(h:cf m S w hp m' S' w' an base)(k:cf m' S' w' an Mc Dc Q7 KV base):cf m S w hp Mc Dc Q7 KV base where
 os:=k.os.trans h.os
 tape:=k.tape.trans h.tape
 output:=k.output.trans h.output
 size:=xi h.size k.size
 same b hb ho:=(k.same b (yP hb h.size) (fun jz=>(h.own b jz).elim ho (fun h1=>by omega))).trans (h.same b hb ho)
 sub b hb:=k.sub b (h.sub b hb)
 still b hb:=(k.still b (h.sub b hb)).trans (h.still b hb)
 new b hb:=by
  rcases k.new b hb with h1 | h1 | h1
  .exact h.new b h1
  .rcases h.own b h1 with h2 | h2
   .grind
   .grind
  .exact .inr (.inr (xi h.size h1))
 own b hb:=by
  rcases k.own b hb with h1 | h1
  .exact h.own b h1
  .exact .inr (xi h.size h1)
 old id p hid hp:=k.old id p hid (h.old id p hid hp)
 loops b r hb:=let ⟨r',h1⟩:=h.loops b r hb;k.loops b r' h1
end
section
open Go
section
variable {ae:Nat->Nat}{m:Mp}{S:Nat->Prop}{w:yj}
mutual
def Ok:∀v:yh,af ae m S w (eX v) v
 | .int _ _ | .bool _ | .float _ _ | .complex _ _ _=>by simp only[eX,af]
 | .string s=>by simp only[eX,af];exact⟨s,rfl,rfl⟩
 | .pointer FM=>by simp only[eX,af]
 | .pointer (FL _)=>by simp only[eX,af]
 | .slice FM 0 0=>by simp only[eX,af]
 | .slice FM 0 (_+1)=>by simp only[eX,af]
 | .slice FM (_+1) _=>by simp only[eX,af]
 | .slice (FL _) _ _=>by simp only[eX,af]
 | .map FM=>by simp only[eX,af]
 | .map (FL _)=>by simp only[eX,af]
 | .nilFunc=>by simp only[eX,af]
 | .agg ⟨cs⟩=>by simp only[eX,af];exact⟨⟨cs⟩,rfl,Tk cs⟩
 | .tuple ⟨cs⟩=>by simp only[eX,af];exact⟨⟨cs⟩,rfl,Tk cs⟩
 | .chan _ | .func _ _ _ | .iface _ _ | .nilIface=>by simp only[eX,af]
def Tk:∀l:List yh,aB ae m S w (Gg l) l
 | []=>by simp only[Gg,aB]
 | v::r=>by simp only[Gg,aB];exact⟨v,r,rfl,Ok v,Tk r⟩
end
end
def fh(O:bA)(H:Hint):Prop:=∀f g,H.br f=FL g->O.ae g=f
section
variable {O:bA}{H:Hint}{m:Mp}{S:Nat->Prop}{w:yj}{tm:Env}{a:Act}
def bW(hH:fh O H)(ht:bV O m S w tm a.tmps)(x:xt):af O.ae m S w (ay tm (aJ H x)) (a.eval x):=by
 cases x with
 | tmp t=>exact ht t
 | const v=>simp only[aJ,ay,Act.eval];exact Ok v
 | global g=>simp only[aJ,ay,af]
 | func f=>
  simp only[aJ,Act.eval]
  cases hr:H.br f with
  | none=>simp only[ay,af]
  | some g=>simp only[ay,af,hH f g hr,aB];exact⟨#[],#[],rfl,rfl,rfl⟩
def D2(hH:fh O H)(ht:bV O m S w tm a.tmps):∀l:List xt,aB O.ae m S w (dG tm (iH H l)) (l.map a.eval)
 | []=>by simp only[iH,dG,List.map_nil,aB]
 | x::r=>by simp only[iH,dG,y7,aB];exact⟨_,_,rfl,bW hH ht x,D2 hH ht r⟩
end
section
variable {O:bA}{m:Mp}{S:Nat->Prop}{w:yj}
def rZ{ae:Nat->Nat}:∀(k:Nat) (cs:List AV) (b o:Nat),bU ae m S w cs b o->bU ae m S w (cs.drop k) b (o+k)
 | 0,cs,b,o,h=>by simpa using h
 | k+1,[],b,o,_=>by simp only[List.drop_nil,bU]
 | k+1,c::cs,b,o,h=>by
  have:=rZ k cs b (o+1) h.2
  grind
def AK{ae:Nat->Nat}:∀(k:Nat) (cs:List AV) (b o:Nat),bU ae m S w cs b o->bU ae m S w (cs.take k) b o
 | 0,cs,b,o,_=>by simp only[ybJ,bU]
 | k+1,[],b,o,_=>by simp only[List.take_nil,bU]
 | k+1,c::cs,b,o,h=>by
  exact⟨h.1,AK k cs b (o+1) h.2⟩
def zm{ae:Nat->Nat}:∀(cs:List AV) (b o:Nat),bU ae m S w cs b o->
  ∃us:List yh,aB ae m S w cs us/\us.length=cs.length/\∀j u,us[j]? =FL u->w.cell? ⟨b,o+j,FM⟩=FL u
 | [],b,o,_=>⟨[],by simp only[aB],rfl,fun j u h=>by simp at h⟩
 | c::cs,b,o,h=>by
  obtain⟨⟨u,h1,h2⟩,h3⟩:=h;obtain⟨us,h4,h5,h6⟩:=zm cs b (o+1) h3;refine⟨u::us,by simp only[aB];exact⟨u,us,rfl,h2,h4⟩,by simp[h5],fun j v hv=>?_⟩
  cases j with
  | zero=>simp at hv;subst hv;simpa using h1
  | succ j=>simp at hv;have:=h6 j v hv;rw[show o+(j+1)=o+1+j by omega];exact this
def gU{ae:Nat->Nat}:∀(cs:List AV) (us:List yh),aB ae m S w cs us->us.length=cs.length
 | [],us,h=>by simp only[aB] at h;subst h;rfl
 | c::cs,us,h=>by
  obtain⟨u,r,rfl,_,h3⟩:=h;simp[gU cs r h3]
end
end
section
open Go
def n9(b o j:Nat):(⟨b,o,FM⟩:uN).add j=⟨b,o+j,FM⟩:=by
 unfold Addr.add;split<;>simp_all
section
variable {P:xp}{w:yj}
def akt(t:yA)(b o:Nat)(us:List yh)(ha:du P t=FL ycZ)(hz:cu P t=FL us.length)(h:∀j u,us[j]? =FL u->w.cell? ⟨b,o+j,FM⟩=FL u):(loadVar t ⟨b,o,FM⟩).run P w=.ok (.agg us.toArray) w:=by
 have hl:=run_loadCells_list (P:=P) w ⟨b,o,FM⟩ us (fun j u hu=>by rw[n9];exact h j u hu)
 unfold cu at hz
 cases hi:P.info? t with
 | none=>simp[hi] at hz
 | some i=>
  unfold du at ha
  cases hu:P.underlying t with
  | none=>simp[hu] at ha
  | some d=>cases d<;>simp_all[loadVar,isAgg,vB,typeInfo,underlying]
def aku(t:yA)(b o:Nat)(u:yh)(ha:du P t=FL yda)(h:w.cell? ⟨b,o,FM⟩=FL u):(loadVar t ⟨b,o,FM⟩).run P w=.ok u w:=by
 unfold du at ha
 cases hu:P.underlying t with
 | none=>simp[hu] at ha
 | some d=>cases d<;>simp_all[loadVar,isAgg,underlying]
end
section
variable {O:bA}{m:Mp}{S:Nat->Prop}{w:yj}
def Ol{t:yA}{sz:Nat}{ag:Bool}{cs:List AV}{b o:Nat}{v:AV}(hz:cu O.P t=FL sz)(ha:du O.P t=FL ag)(hr:bU O.ae m S w cs b o)(hv:fT sz ag cs=FL v):∃u,(loadVar t ⟨b,o,FM⟩).run O.P w=.ok u w/\af O.ae m S w v u:=by
 cases ag with
 | true=>
  simp only[fT,yx] at hv
  cases hle:yE sz cs.length with
  | false=>simp only[hle,yR] at hv;cases hv
  | true=>
   simp only[hle,yx,yc] at hv;subst hv;obtain⟨us,h1,h2,h3⟩:=zm _ _ _ (AK sz cs b o hr);have hlen:us.length=sz:=by
    simp_all
   refine⟨.agg us.toArray,akt t b o us ha (by rw[hlen];exact hz) h3,?_⟩
   simp only[af]
   grind
 | false=>
  simp only[fT,yR] at hv
  cases cs with
  | nil=>simp at hv
  | cons c cs=>
   simp only[yc] at hv;subst hv;obtain⟨⟨u,h1,h2⟩,_⟩:=hr;exact⟨u,aku t b o u ha h1,h2⟩
def acP{t:yA}{sz o:Nat}{ag:Bool}{cs:List AV}{xs:Array yh}{v:AV}(hz:cu O.P t=FL sz)(ha:du O.P t=FL ag)(hr:aB O.ae m S w cs xs.toList)(hv:fT sz ag (cs.drop o)=FL v):∃u,(part t xs o).run O.P w=.ok u w/\af O.ae m S w v u:=by
 have hd:∀(k:Nat) (cs:List AV) (us:List yh),aB O.ae m S w cs us->aB O.ae m S w (cs.drop k) (us.drop k):=by
  intro k
  induction k with
  | zero=>intro cs us h;simpa using h
  | succ k ih=>
   intro cs us h
   cases cs with
   | nil=>simp only[aB] at h;subst h;simp[aB]
   | cons c cs=>simp only[aB] at h;obtain⟨u,r,rfl,_,h3⟩:=h;simpa using ih cs r h3
 have eZ:∀(k:Nat) (cs:List AV) (us:List yh),aB O.ae m S w cs us->aB O.ae m S w (cs.take k) (us.take k):=by
  intro k
  induction k with
  | zero=>intro cs us h;simp[aB]
  | succ k ih=>
   intro cs us h
   cases cs with
   | nil=>simp only[aB] at h;subst h;simp[aB]
   | cons c cs=>simp only[aB] at h;obtain⟨u,r,rfl,h2,h3⟩:=h;simp only[wD,aB];exact⟨u,_,rfl,h2,ih cs r h3⟩
 have agj:(isAgg t).run O.P w=.ok ag w:=by
  unfold du at ha
  cases hu:O.P.underlying t with
  | none=>simp[hu] at ha
  | some d=>cases d<;>simp_all[isAgg,underlying]
 have eG:(vB t).run O.P w=.ok sz w:=by
  unfold cu at hz
  cases hi:O.P.info? t with
  | none=>simp[hi] at hz
  | some i=>simp_all[vB,typeInfo]
 have bh:=hd o cs xs.toList hr
 cases ag with
 | true=>
  simp only[fT,yx] at hv
  cases hle:yE sz (cs.drop o).length with
  | false=>simp only[hle,yR] at hv;cases hv
  | true=>
   simp only[hle,yx,yc] at hv;subst hv;refine⟨.agg (xs.extract o (o+sz)),by simp[part,Sem.run_bind,agj,eG],?_⟩;simp only[af]
   simp_all
 | false=>
  simp only[fT,yR] at hv
  cases hc:cs.drop o with
  | nil=>simp[hc] at hv
  | cons c r=>
   simp only[hc,yc] at hv;subst hv;rw[hc] at bh;simp only[aB] at bh;obtain⟨u,us,h1,h2,_⟩:=bh;have hx:xs[o]? =FL u:=by
    have:xs.toList[o]? =FL u:=by
     have:=congrArg (fun l=>l[0]?) h1
     simpa using this
    simpa using this
   exact⟨u,by simp[part,Sem.run_bind,agj,hx],h2⟩
end
end
section
open Go
section
variable {v:AV}{k:xc}{b:Nat}
def nn(t:ByteArray):List Nat:=t.data.toList.map xk
def acQ:∀a b:List UInt8,cW (a.map xk) (b.map xk)=(a==b)
 | [],[]=>rfl
 | [],_::_=>rfl
 | _::_,[]=>rfl
 | a::x,b::y=>by
  have h:yq a.toNat b.toNat=(a==b):=by
   rw[yak,ycS,tT];exact ybr
  simp only[y7,cW,acQ x y,h,List.cons_beq_cons]
def acR:∀a b:List UInt8,C8 (a.map xk) (b.map xk)=Op.bytesLess a b
 | [],[]=>rfl
 | [],_::_=>rfl
 | _::_,[]=>rfl
 | a::x,b::y=>by
  have h:yq a.toNat b.toNat=(a==b):=by
   rw[yak,ycS,tT];exact ybr
  have h2:yO a.toNat b.toNat=decide (a<b):=by
   rw[yak];simp only[yO,ycT,vU,UInt8.lt_iff_toNat_lt]
   lia
  simp only[y7,C8,Op.bytesLess,acR x y,h,h2]
def aaG(s t:ByteArray):cW (nn s) (nn t)=(s.toList==t.toList):=by
 rw[nn,nn,acQ,ByteArray.toList_eq,ByteArray.toList_eq]
def alU(s t:ByteArray):C8 (nn s) (nn t)=Op.bytesLess s.toList t.toList:=by
 rw[nn,nn,acR,ByteArray.toList_eq,ByteArray.toList_eq]
def aaH(s:ByteArray):(nn s).length=s.size:=by
 rw[nn,List.length_map,Lib.size_eq]
section
variable {ae:Nat->Nat}{P:xp}{m:Mp}{S:Nat->Prop}{w:yj}{t:yA}
def anE{op:wY}{x y:Int}(h:mJ op k x y=FL v):
  ∃u,(wa op t (.int k x) (.int k y)).run P w=.ok u w/\af ae m S w v u:=by
 cases op<;>simp only[mJ,intCmp,yc] at h
 case quo=>
  by_cases hy:y=0
  .grind
  .simp only [hy,xm,yc] at h;subst h;exact⟨_,by simp[wa,Op.intDiv,hy];rfl,by simp[af]⟩
 case rem=>
  by_cases hy:y=0
  .grind
  .simp only [hy,xm,yc] at h;subst h;exact⟨_,by simp[wa,Op.intDiv,hy];rfl,by simp[af]⟩
 case shl=>cases h
 case shr=>cases h
 all_goals
  subst h;exact⟨_,by simp[wa,Op.intCmp];rfl,by simp[af]⟩
def Z1{op:wY}{k':xc}{x y:Int}(h:DT op k x y=FL v):
  ∃u,(wa op t (.int k x) (.int k' y)).run P w=.ok u w/\af ae m S w v u:=by
 unfold DT at h;by_cases hy:y<0
 .grind
 .simp only [hy,xm] at h;cases op<;>simp only[yc] at h
  case shl=>subst h;exact⟨_,by simp[wa,Op.shift,hy];rfl,by simp[af]⟩
  case shr=>subst h;exact⟨_,by simp[wa,Op.shift,hy];rfl,by simp[af]⟩
  all_goals cases h
def anF{op:wY}{x y:ByteArray}(h:KA op (nn x) (nn y)=FL v):
  ∃u,(wa op t (.string x) (.string y)).run P w=.ok u w/\af ae m S w v u:=by
 cases op<;>simp only[KA,aaG,alU,aaH,yc] at h
 case add=>
  cases hle:yE (x.size+y.size) 9223372036854775807 with
  | false=>rw[hle] at h;cases h
  | true=>
   rw[hle] at h;simp only[yx,yc] at h;subst h;have aEK:=yv hle;have ayw:¬(((x.size+y.size:Nat):Int)>IntKind.i64.max):=by
    have:IntKind.i64.max=9223372036854775807:=by decide
    grind
   refine⟨.string (x++y),?_,?_⟩
   .simp only [wa,Op.stringOp,yt ayw,Sem.run_pure]
   .simp only [af];exact⟨x++y,rfl,by simp[nn]⟩
 all_goals first
  | (cases h;done)
  | (subst h;exact⟨_,by simp[wa,Op.stringOp];rfl,by simp[af]⟩)
def anG{op:wY}{k:xX}{x y:Nat}(h:Pd op k x y=FL v):
  ∃u,(wa op t (.float k x) (.float k y)).run P w=.ok u w/\af ae m S w v u:=by
 cases op<;>simp only[Pd,yc] at h
 case add=>
  cases hr:k.format.add x y with
  | none=>simp[hr] at h
  | some r=>simp only[hr,yc] at h;subst h;exact⟨.float k r,by simp[wa,Op.floatArith,hr],by simp[af]⟩
 case sub=>
  cases hr:k.format.sub x y with
  | none=>simp[hr] at h
  | some r=>simp only[hr,yc] at h;subst h;exact⟨.float k r,by simp[wa,Op.floatArith,hr],by simp[af]⟩
 case mul=>
  cases hr:k.format.mul x y with
  | none=>simp[hr] at h
  | some r=>simp only[hr,yc] at h;subst h;exact⟨.float k r,by simp[wa,Op.floatArith,hr],by simp[af]⟩
 case quo=>
  cases hr:k.format.div x y with
  | none=>simp[hr] at h
  | some r=>simp only[hr,yc] at h;subst h;exact⟨.float k r,by simp[wa,Op.floatArith,hr],by simp[af]⟩
 all_goals first
  | (cases h;done)
  | (subst h;exact⟨_,by simp[wa,Op.floatCmp];rfl,by simp[af]⟩)
def acS(k:xX)(x y:Nat):(Op.Complex.cmp .eql k x y).run P w=.ok (k.format.order x y==FL .eq) w:=by
 simp[Op.Complex.cmp,Op.floatCmp,asBool]
def zA{op:wY}{k:xX}{x y r:Nat}(h:mU op k x y=FL r):(Op.Complex.arith op k x y).run P w=.ok r w:=by
 unfold mU at h
 split at h
 .simp [Op.Complex.arith,Op.floatArith,h]
 .simp [Op.Complex.arith,Op.floatArith,h]
 .simp [Op.Complex.arith,Op.floatArith,h]
 .cases h
def Gi{s k:xX}{r:Nat}(h:C9 s k b=FL r):(Op.Complex.conv s b k).run P w=.ok r w:=by
 unfold C9 at h;unfold Op.Complex.conv;by_cases hk:s=k
 .rw [yD hk] at h ⊢;cases h;rfl
 .rw [yt hk] at h ⊢
  cases hd:s.decode b with
  | nan _ _=>simp[hd] at h
  | infinity _=>simp[hd] at h
  | number sg m e=>
   simp only[hd] at h
   cases hi:(k.decode (k.encode (.number sg m e))).isInfinity with
   | true=>simp[hi] at h
   | false=>simp[hi] at h;subst h;simp[Conv.floatToFloat,hk,hd,hi]
def alV{k:xX}{a c d:Nat}(h:Uz k a b c d=FL v):
  ∃u,(wa .mul t (.complex k a b) (.complex k c d)).run P w=.ok u w/\af ae m S w v u:=by
 unfold Uz at h
 split at h
 .rename_i a' b' c' d' h1 h2 h3 h4
  split at h
  .rename_i p q r s g1 g2 g3 g4
   split at h
   .rename_i e f k1 k2
    split at h
    .rename_i e' f' l1 l2;cases h;exact⟨.complex k e' f',by simp[wa,Op.complexOp,Op.Complex.product,Op.Complex.mul,Op.Complex.sub,Op.Complex.add,Gi h1,Gi h2,Gi h3,Gi h4,zA g1,zA g2,zA g3,zA g4,zA k1,zA k2,Gi l1,Gi l2],by simp[af]⟩
    .cases h
   .cases h
  .cases h
 .cases h
def anH{op:wY}{k:xX}{a c d:Nat}(h:U5 op k a b c d=FL v):
  ∃u,(wa op t (.complex k a b) (.complex k c d)).run P w=.ok u w/\af ae m S w v u:=by
 cases op<;>simp only[U5,yc,reduceCtorEq] at h
 case add=>
  cases h1:mU .add k a c with
  | none=>simp[h1] at h
  | some r=>
   cases h2:mU .add k b d with
   | none=>simp[h1,h2] at h
   | some i=>
    simp only[h1,h2,yc] at h;subst h;exact⟨.complex k r i,by simp[wa,Op.complexOp,zA h1,zA h2],by simp[af]⟩
 case sub=>
  cases h1:mU .sub k a c with
  | none=>simp[h1] at h
  | some r=>
   cases h2:mU .sub k b d with
   | none=>simp[h1,h2] at h
   | some i=>
    simp only[h1,h2,yc] at h;subst h;exact⟨.complex k r i,by simp[wa,Op.complexOp,zA h1,zA h2],by simp[af]⟩
 case mul=>exact alV h
 case eql=>subst h;exact⟨_,by simp[wa,Op.complexOp,acS];rfl,by simp[af]⟩
 case neq=>subst h;exact⟨_,by simp[wa,Op.complexOp,acS];rfl,by simp[af]⟩
def anI{op:wY}{vx vy:AV}{x y:yh}(hx:af ae m S w vx x)(hy:af ae m S w vy y)(h:VE.binOp op vx vy=FL v):
  ∃u,(wa op t x y).run P w=.ok u w/\af ae m S w v u:=by
 unfold VE.binOp at h
 split at h
 .rename_i k a k' b;simp only[af] at hx hy;subst hx;subst hy
  split at h
  .exact Z1 h
  .exact Z1 h
  .by_cases hk:k=k'
   .subst hk;simp only[xA] at h;exact anE h
   .simp [hk] at h
 .rename_i k a k' b;simp only[af] at hx hy;subst hx;subst hy;by_cases hk:k=k'
  .subst hk;simp only[xA] at h;exact anG h
  .simp [hk] at h
 .rename_i a b;simp only[af] at hx hy;obtain⟨s,rfl,rfl⟩:=hx;obtain⟨s',rfl,rfl⟩:=hy;exact anF h
 .rename_i k a b k' c d;simp only[af] at hx hy;subst hx;subst hy;by_cases hk:k=k'
  .subst hk;simp only[xA] at h;exact anH h
  .simp [hk] at h
 .cases h
end
end
end
section
open Go
section
variable {v vx:AV}{vr:Bool}{d:Nat}{x:yh}
section
variable {ae:Nat->Nat}{P:xp}{m:Mp}{S:Nat->Prop}{w:yj}{t:yA}
def ak1{op:wY}{x y:xt}{a b:yh}(h:P.eqGuardType P.depth t=yda\/∀xs ys,¬(a=.agg xs/\b=.agg ys))(hn:a≠.nilIface):
  (eqGuard op t x y a b).run P w=.ok () w:=by
 unfold eqGuard;cases op
 all_goals first
  | rfl
  | (
    cases a
    all_goals first
     | rfl
     | exact absurd rfl hn
     | (
      cases b
      all_goals first
       | rfl
       | (
         rcases h with h | h
         .simp [h]
         .exact absurd ⟨rfl,rfl⟩ (h _ _))))
def asC{p q:Bool}(ht:P.underlying t=FL .bool):(Op.equalIn (d+1) t (.bool p) (.bool q)).run P w=.ok (p==q) w:=by
 simp[Op.equalIn,underlying,ht]
def U8{e:yA}(ht:P.underlying t=FL (.slice e))(y:Option uN)(n c n' c':Nat):
  (Op.equalIn (d+1) t (.slice FM n c) (.slice y n' c')).run P w=.ok y.isNone w:=by simp[Op.equalIn,underlying,ht]
def aeJ{e:yA}(ht:P.underlying t=FL (.slice e))(x:uN)(n c n' c':Nat):
  (Op.equalIn (d+1) t (.slice (FL x) n c) (.slice FM n' c')).run P w=.ok yda w:=by simp[Op.equalIn,underlying,ht]
def awN{ps rs:Array yA}(ht:P.underlying t=FL (.func ps rs vr)):
  (Op.equalIn (d+1) t .nilFunc .nilFunc).run P w=.ok ycZ w:=by simp[Op.equalIn,underlying,ht]
def aeK{ps rs:Array yA}(ht:P.underlying t=FL (.func ps rs vr))(f:Go.Fn)(a b:Array yh):
  (Op.equalIn (d+1) t .nilFunc (.func f a b)).run P w=.ok yda w:=by simp[Op.equalIn,underlying,ht]
def aeL{ps rs:Array yA}(ht:P.underlying t=FL (.func ps rs vr))(f:Go.Fn)(a b:Array yh):
  (Op.equalIn (d+1) t (.func f a b) .nilFunc).run P w=.ok yda w:=by simp[Op.equalIn,underlying,ht]
def Tl(x y:yh):Op.equal t x y=Op.equalIn (9999+1) t x y:=rfl
def ap2{vy:AV}{y:yh}{r:Bool}{e:yA}(ht:P.underlying t=FL (.slice e))(hx:af ae m S w vx x)(hy:af ae m S w vy y)(h:jr .sl vx vy=FL r):(Op.equal t x y).run P w=.ok r w:=by
 unfold jr at h
 split at h<;>simp_all only [yc,reduceCtorEq]
 all_goals subst h
 .subst hx;subst hy;exact U8 ht _ _ _ _ _
 .rcases hy with ⟨b,o,c,rfl,_⟩ | ⟨_,rfl,_⟩<;>(subst hx;exact U8 ht _ _ _ _ _)
 .obtain ⟨p,c,_,rfl,_⟩:=hy;subst hx;exact U8 ht _ _ _ _ _
 .rcases hx with ⟨b,o,c,rfl,_⟩ | ⟨_,rfl,_⟩<;>(subst hy;exact aeJ ht _ _ _ _ _)
 .obtain ⟨p,c,_,rfl,_⟩:=hx;subst hy;exact aeJ ht _ _ _ _ _
def ap3{vy:AV}{y:yh}{r:Bool}{ps rs:Array yA}(ht:P.underlying t=FL (.func ps rs vr))(hx:af ae m S w vx x)(hy:af ae m S w vy y)(h:jr .fn vx vy=FL r):(Op.equal t x y).run P w=.ok r w:=by
 unfold jr at h
 split at h<;>simp_all only [yc,reduceCtorEq]
 all_goals subst h
 .simp only [af] at hx hy;subst hx;subst hy;exact awN ht
 .rename_i f _ _
  cases f with
  | f g=>simp only[af] at hx hy;obtain⟨fi,ca,rfl,_⟩:=hy;subst hx;exact aeK ht _ _ _
  | y l=>simp only[af] at hx hy;obtain⟨p,_,rfl⟩:=hy;subst hx;exact aeK ht _ _ _
 .rename_i f _ _
  cases f with
  | f g=>simp only[af] at hx hy;obtain⟨fi,ca,rfl,_⟩:=hx;subst hy;exact aeL ht _ _ _
  | y l=>simp only[af] at hx hy;obtain⟨p,_,rfl⟩:=hx;subst hy;exact aeL ht _ _ _
def ap4{op:ycE}(hx:af ae m S w vx x)(h:VE.unOp op vx=FL v):∃u,(Op.unary op x).run P w=.ok u w/\af ae m S w v u:=by
 unfold VE.unOp at h
 split at h
 .rename_i k n;subst hx;simp only[yc] at h;subst h;exact⟨_,by simp[Op.unary,Op.intArith];rfl,by simp[af]⟩
 .rename_i k n;subst hx;simp only[mJ,yc] at h;subst h;exact⟨_,by simp[Op.unary,Op.intBits];rfl,by simp[af]⟩
 .rename_i b;subst hx;simp only[yc] at h;subst h;exact⟨_,by simp[Op.unary];rfl,by simp[af]⟩
 .rename_i k b;subst hx;simp only[yc] at h;subst h;exact⟨_,by simp[Op.unary,Op.negFloat];rfl,by simp[af]⟩
 .cases h
def abE{s d:yA}{k:xc}(hd:P.underlying d=FL (.int k))(hs:(∃k',P.underlying s=FL (.int k'))\/∃k',P.underlying s=FL (.float k'))(hx:af ae m S w vx x)(h:me (.toInt k) vx=FL v):∃u,(convert s d x).run P w=.ok u w/\af ae m S w v u:=by
 cases vx<;>simp only[me,reduceCtorEq] at h
 case int k0 n=>
  simp only[af] at hx;subst hx;simp only[yc] at h;subst h;refine⟨.int k (k.wrap n),?_,by simp[af]⟩;rcases hs with ⟨k',h'⟩ | ⟨k',h'⟩<;>simp[convert,underlying,Conv.intToInt,hd,h']
 case av sk b=>
  subst hx
  cases hi:(sk.decode b).toInt .zero with
  | none=>simp[hi] at h
  | some n=>
   simp only[hi] at h;by_cases hr:k.min<=n/\n<=k.max
   .simp only [hr,and_self,xA,yc] at h;subst h;refine⟨.int k n,?_,by simp[af]⟩;rcases hs with ⟨k',h'⟩ | ⟨k',h'⟩<;>simp[convert,underlying,Conv.floatToInt,hd,h',hi,hr]
   .grind
def abF{s d:yA}{k:xX}(hd:P.underlying d=FL (.float k))(hs:(∃k',P.underlying s=FL (.int k'))\/∃k',P.underlying s=FL (.float k'))(hx:af ae m S w vx x)(h:me (.toFlt k) vx=FL v):∃u,(convert s d x).run P w=.ok u w/\af ae m S w v u:=by
 cases vx<;>simp only[me,reduceCtorEq] at h
 case int k0 n=>
  simp only[af] at hx;subst hx;simp only[yc] at h;subst h;refine⟨.float k (k.nearest n),?_,by simp[af]⟩;rcases hs with ⟨k',h'⟩ | ⟨k',h'⟩<;>simp[convert,underlying,Conv.intToFloat,hd,h']
 case av sk b=>
  simp only[af] at hx;subst hx;by_cases he:sk=k
  .subst he;simp only[xA,yc] at h;subst h;refine⟨.float sk b,?_,by simp[af]⟩;rcases hs with ⟨k',h'⟩ | ⟨k',h'⟩<;>simp[convert,underlying,Conv.floatToFloat,hd,h']
  .simp only [he,xm] at h
   cases PL:sk.decode b with
   | nan _ _=>simp[PL] at h
   | infinity _=>simp[PL] at h
   | number sg mm ee=>
    simp only[PL] at h
    cases VR:(k.decode (k.encode (.number sg mm ee))).isInfinity with
    | true=>simp[VR] at h
    | false=>
     simp only[VR,yC,xm,yc] at h;subst h;refine⟨.float k (k.encode (.number sg mm ee)),?_,by simp[af]⟩;rcases hs with ⟨k',h'⟩ | ⟨k',h'⟩<;>simp[convert,underlying,Conv.floatToFloat,hd,h',he,PL,VR]
def anJ{s d:yA}(hd:P.underlying d=FL .string)(hs:P.underlying s=FL .string)(hx:af ae m S w vx x)(h:me .str vx=FL v):∃u,(convert s d x).run P w=.ok u w/\af ae m S w v u:=by
 cases vx<;>simp only[me,reduceCtorEq] at h
 simp only[yc] at h;subst h;obtain⟨b,rfl,hb⟩:=hx;exact⟨.string b,by simp[convert,underlying,hs,hd],by simp only[af];exact⟨b,rfl,hb⟩⟩
end
end
end
section
open Go
section
variable {v vx:AV}{hp:Hp}{k:Nat}{P:xp}{x:yh}
def alW(h:dH v=FL k):∃kd,v=.int kd (k:Int):=by
 cases v<;>simp only[dH,reduceCtorEq] at h
 rename_i kd n
 cases n with
 | ofNat j=>simp only[yc] at h;subst h;exact⟨kd,rfl⟩
 | negSucc j=>cases h
section
variable {O:bA}{H:Hint}{m:Mp}{S:Nat->Prop}{w:yj}{tm:Env}{a:Act}
def AS{ae:Nat->Nat}(hx:af ae m S w v x)(h:dH v=FL k):∃kd,x=.int kd (k:Int):=by
 obtain⟨kd,rfl⟩:=alW h;simp only[af] at hx
 grind
def run_sliceBound{kd:xc}{y:Nat}{code:BoundsCode}(h:k<=y):(Instr.sliceBound (.int kd (k:Int)) y code).run P w=.ok k w:=by
 have:(0:Int)<=(k:Int)/\(k:Int)<=(y:Int):=by lia
 simp[Instr.sliceBound,asIntOf,this]
def SO{isSlice:Bool}{len cap l h:Nat}{lo hi:Option xt}(hH:fh O H)(ht:bV O m S w tm a.tmps)(hl:cV tm 0 (lo.map (aJ H))=FL l)(hh:cV tm len (hi.map (aJ H))=FL h)(h1:l<=h)(h2:h<=cap):
  (Instr.sliceBounds isSlice len cap (lo.map a.eval) (hi.map a.eval) FM).run P w=.ok (l,h,cap) w:=by
 cases lo with
 | none=>
  simp only[uB,cV,yc] at hl;subst hl
  cases hi with
  | none=>
   simp only[uB,cV,yc] at hh;subst hh;simp[Instr.sliceBounds]
  | some y=>
   have⟨kd,e⟩:=AS (bW hH ht y) hh;simp only[Instr.sliceBounds,uB,wM,e,Sem.run_bind,Sem.run_pure,Result.andThen_ok,run_sliceBound h2]
 | some x=>
  have⟨kd,e⟩:=AS (bW hH ht x) hl
  cases hi with
  | none=>
   simp only[uB,cV,yc] at hh;subst hh;simp only[Instr.sliceBounds,uB,wM,e,Sem.run_bind,Sem.run_pure,Result.andThen_ok,run_sliceBound h1]
  | some y=>
   have⟨XH,e'⟩:=AS (bW hH ht y) hh;simp only[Instr.sliceBounds,wM,e,e',Sem.run_bind,Sem.run_pure,Result.andThen_ok,run_sliceBound h2,run_sliceBound h1]
def alX{t:yA}{lo hi:Option xt}(hH:fh O H)(ht:bV O m S w tm a.tmps)(hu:O.P.underlying t=FL .string)(hx:af O.ae m S w vx x)(h:fJ hp .str vx tm (lo.map (aJ H)) (hi.map (aJ H))=FL v):
  ∃u,(Instr.sliceAt t x (lo.map a.eval) (hi.map a.eval) FM).run O.P w=.ok u w/\af O.ae m S w v u:=by
 cases vx<;>simp only[fJ,reduceCtorEq] at h
 obtain⟨b,rfl,rfl⟩:=hx
 cases hl:cV tm 0 (lo.map (aJ H)) with
 | none=>simp[hl] at h
 | some l=>
  simp only[hl] at h
  cases hh:cV tm (b.data.toList.map xk).length (hi.map (aJ H)) with
  | none=>rw[hh] at h;cases h
  | some g=>
   rw[hh] at h;simp only at h
   cases hc:(yE l g&&yE g (b.data.toList.map xk).length) with
   | false=>rw[hc] at h;cases h
   | true=>
    rw[hc] at h;simp only[yx,yc] at h;subst h;simp only[yf] at hc;have h1:=yv hc.1;have h2:=yv hc.2;have hlen:(b.data.toList.map xk).length=b.size:=aaH b;rw[hlen] at hh h2;refine⟨.string (b.extract l g),?_,?_⟩
    .simp only [Instr.sliceAt,Sem.run_bind,run_underlying hu,Result.andThen_ok,Instr.slice,tN,yC,xm,Sem.run_pure,
      SO (P:=O.P) (isSlice:=yda) (len:=b.size) (cap:=b.size) hH ht hl hh h1 h2]
    .simp only [af];refine⟨_,rfl,?_⟩;rw[Lib.extract_data,List.map_take,List.map_drop,List.drop_take]
def anK{t e:yA}{sz:Nat}{lo hi:Option xt}(hH:fh O H)(ht:bV O m S w tm a.tmps)(hu:O.P.underlying t=FL (.slice e))(hz:cu O.P e=FL sz){ct:Nat}(hh:aS O m S w hp ct)(hx:af O.ae m S w vx x)(h:fJ hp (.sl sz) vx tm (lo.map (aJ H)) (hi.map (aJ H))=FL v):
  ∃u,(Instr.sliceAt t x (lo.map a.eval) (hi.map a.eval) FM).run O.P w=.ok u w/\af O.ae m S w v u:=by
 have eG:(vB e).run O.P w=.ok sz w:=by
  unfold cu at hz
  cases hi:O.P.info? e with
  | none=>simp[hi] at hz
  | some i=>simp_all[vB,typeInfo]
 have JO:∀(ad:Option uN) (n c l g:Nat),cV tm 0 (lo.map (aJ H))=FL l->cV tm n (hi.map (aJ H))=FL g->l<=g->g<=c->
   (Instr.sliceAt t (.slice ad n c) (lo.map a.eval) (hi.map a.eval) FM).run O.P w=.ok (.slice (if c=l then ad else ad.map (·.add (l*sz))) (g-l) (c-l)) w:=by
  intro ad n c l g hl hg h1 h2
  simp only[Instr.sliceAt,Sem.run_bind,run_underlying hu,Result.andThen_ok,Instr.slice,Sem.run_pure,eG,
   SO (P:=O.P) (isSlice:=ycZ) (len:=n) (cap:=c) hH ht hl hg h1 h2]
 cases vx<;>simp only[fJ,reduceCtorEq] at h
 case ah=>
  simp only[af] at hx;subst hx
  cases hl:cV tm 0 (lo.map (aJ H)) with
  | none=>simp[hl] at h
  | some l=>
   cases l with
   | succ l=>simp[hl] at h
   | zero=>
    simp only[hl] at h
    cases hh:cV tm 0 (hi.map (aJ H)) with
    | none=>simp[hh] at h
    | some g=>
     cases g with
     | succ g=>simp[hh] at h
     | zero=>
      simp only[hh,yc] at h;subst h;exact⟨_,JO FM 0 0 0 0 hl hh (yu _) (yu _),by simp[af]⟩
 case au ex n cs=>
  simp only[af] at hx;rcases hx with ⟨b,o,c,rfl,Me,hex,hS,ic,BB⟩ | ⟨ad,rfl,rfl,rfl⟩
  case inr=>
   cases hl:cV tm 0 (lo.map (aJ H)) with
   | none=>simp[hl] at h
   | some l=>
    simp only[hl] at h
    cases hh:cV tm 0 (hi.map (aJ H)) with
    | none=>simp[hh] at h
    | some g=>
     simp only[hh] at h
     cases hc:(yE l g&&yE g 0) with
     | false=>rw[hc] at h;cases h
     | true=>
      rw[hc] at h;simp only[yx,yc] at h;subst h;simp only[yf] at hc;have h1:=yv hc.1;have h2:=yv hc.2;have hg:g=0:=by lia
      subst hg;have lL:l=0:=by lia
      subst lL;refine⟨_,JO (FL ad) 0 0 0 0 hl hh h1 h2,?_⟩;simp only[af];exact .inr ⟨ad,by simp,by simp,by simp[slice]⟩
  cases hl:cV tm 0 (lo.map (aJ H)) with
  | none=>simp[hl] at h
  | some l=>
   simp only[hl] at h
   cases hh:cV tm n (hi.map (aJ H)) with
   | none=>simp[hh] at h
   | some g=>
    simp only[hh] at h
    cases hc:(yE l g&&yE g n) with
    | false=>rw[hc] at h;cases h
    | true=>
     rw[hc] at h;simp only[yx,yc] at h;subst h;simp only[yf] at hc;have h1:=yv hc.1;have h2:=yv hc.2;refine⟨_,JO (FL ⟨b,o,FM⟩) n c l g hl hh h1 (by lia),?_⟩;have Eo:aG (slice (l*sz) ((g-l)*sz) cs)=ycZ:=by
      have pd:∀(k:Nat) (cs:List AV),aG cs=ycZ->aG (cs.drop k)=ycZ:=by
       intro k
       induction k with
       | zero=>intro cs h;simpa using h
       | succ k ih=>intro cs h;cases cs with
        | nil=>simpa using h
        | cons c cs=>simp only[aG,yf] at h;simpa using ih cs h.2
      have pt:∀(k:Nat) (cs:List AV),aG cs=ycZ->aG (cs.take k)=ycZ:=by
       intro k
       induction k with
       | zero=>intro cs h;simp[aG]
       | succ k ih=>intro cs h;cases cs with
        | nil=>simp[aG]
        | cons c cs=>simp only[aG,yf,wD] at h ⊢;exact⟨h.1,ih cs h.2⟩
      exact pt _ _ (pd _ _ ic)
     have agk:(ex&&yq g n)=ycZ->c-l=g-l:=by
      intro hq;simp only[yf] at hq
      have:=hex hq.1
      have:=yg hq.2
      lia
     simp only[af];by_cases gM:c=l
     .have h0:g-l=0:=by lia
      have pM:slice (l*sz) ((g-l)*sz) cs=[]:=by simp[slice,h0]
      rw[pM];exact .inl ⟨b,o,c-l,by simp[gM],by lia,agk,.inl rfl,rfl,by simp[bU]⟩
     .refine .inl ⟨b,o+l*sz,c-l,by simp[gM,n9],by lia,agk,?_,Eo,?_⟩
      .rcases hS with rfl | hS
       .exact .inl (by simp[slice])
       .exact .inr hS
      .exact AK _ _ _ _ (rZ _ _ _ _ BB)
 case ax id o n=>
  simp only[af] at hx;obtain⟨p,c,hm,rfl,Me,Q8⟩:=hx
  split at h
  case h_2=>cases h
  rename_i XI pu0 Ae z0 lM Ep;have⟨p',arr,t',iK,_,dc,_⟩:=hh.obj id _ _ Ep hm;rw[hm] at iK;injection iK with iK
  subst iK
  cases hl:cV tm 0 (lo.map (aJ H)) with
  | none=>simp[hl] at h
  | some l=>
   simp only[hl] at h
   cases hh:cV tm n (hi.map (aJ H)) with
   | none=>simp[hh] at h
   | some g=>
    simp only[hh] at h
    cases hc:(yE l g&&yE g n&&yq z0 sz) with
    | false=>rw[hc] at h;cases h
    | true=>
     rw[hc] at h;simp only[yx] at h;simp only[yf] at hc;have h1:=yv hc.1.1;have h2:=yv hc.1.2;have hpz:p.z=sz:=dc.trans (yg hc.2)
     cases he:(yq l g&& !yq l 0) with
     | true=>
      rw[he] at h;simp only[yx,yc] at h;subst h;simp only[yf] at he;have Dd:=yg he.1;refine⟨_,JO (FL ⟨p.b,p.o+o,FM⟩) n c l g hl hh h1 (by lia),?_⟩;simp only[af];by_cases gM:c=l
      .exact .inl ⟨p.b,p.o+o,c-l,by simp[gM];lia,by lia,by simp,by simp,by simp[aG],by simp[bU]⟩
      .exact .inl ⟨p.b,p.o+o+l*sz,c-l,by simp[gM,n9];lia,by lia,by simp,by simp,by simp[aG],by simp[bU]⟩
     | false=>
      rw[he] at h;simp only[yR,yc] at h;subst h;have gM:c=l->l=0:=by
       intro gM;have Dd:l=g:=by lia
       cases lL:yq l 0 with
       | true=>exact yg lL
       | false=>rw[Dd,wO,<-Dd,lL] at he;cases he
      refine⟨_,JO (FL ⟨p.b,p.o+o,FM⟩) n c l g hl hh h1 (by lia),?_⟩;simp only[af];refine⟨p,c-l,hm,?_,by lia,?_⟩
      .by_cases VS:c=l
       .have:=gM VS;subst this;subst VS;simp
       .simp [VS,n9,uI]
      .rw [hpz] at Q8 ⊢
       have:c*sz=l*sz+(c-l)*sz:=by rw[<-xH];congr 1;lia
       lia
def anL{t e:yA}{n sz:Nat}{lo hi:Option xt}(hH:fh O H)(ht:bV O m S w tm a.tmps)(hu:O.P.underlying t=FL (.array n e))(hz:cu O.P e=FL sz)(hx:af O.ae m S w vx x)(h:fJ hp (.ar n sz) vx tm (lo.map (aJ H)) (hi.map (aJ H))=FL v):
  ∃u,(Instr.sliceAt t x (lo.map a.eval) (hi.map a.eval) FM).run O.P w=.ok u w/\af O.ae m S w v u:=by
 have eG:(vB e).run O.P w=.ok sz w:=by
  unfold cu at hz
  cases hi:O.P.info? e with
  | none=>simp[hi] at hz
  | some i=>simp_all[vB,typeInfo]
 cases vx<;>simp only[fJ,reduceCtorEq] at h
 rename_i cs;simp only[af] at hx;obtain⟨b,o,rfl,hS,ic,BB⟩:=hx
 cases hl:cV tm 0 (lo.map (aJ H)) with
 | none=>simp[hl] at h
 | some l=>
  simp only[hl] at h
  cases hh:cV tm n (hi.map (aJ H)) with
  | none=>simp[hh] at h
  | some g=>
   simp only[hh] at h
   cases hc:(yq l 0&&yq g n&&(yO 0 n&&yE (n*sz) cs.length)) with
   | false=>rw[hc] at h;cases h
   | true=>
    rw[hc] at h;simp only[yx,yc] at h;subst h;simp only[yf] at hc;have h1:=yg hc.1.1;have h2:=yg hc.1.2;have h3:0<n:=yv hc.2.1;subst h1 h2;have eh:¬g=0:=by omega
    refine⟨.slice (FL ⟨b,o,FM⟩) g g,?_,?_⟩
    .simp only [Instr.sliceAt,Sem.run_bind,run_underlying hu,Result.andThen_ok,Instr.sureAddr,Sem.run_pure,eG,
      SO (P:=O.P) (isSlice:=yda) (len:=g) (cap:=g) hH ht hl hh (Nat.zero_le _) (yu _)]
     simp[n9]
    .have pt:∀(k:Nat) (cs:List AV),aG cs=ycZ->aG (cs.take k)=ycZ:=by
      intro k
      induction k with
      | zero=>intro cs h;simp[aG]
      | succ k ih=>intro cs h;cases cs with
       | nil=>simp[aG]
       | cons c cs=>simp only[aG,yf,wD] at h ⊢;exact⟨h.1,ih cs h.2⟩
     simp only[af];refine .inl ⟨b,o,g,rfl,yu _,fun _=>rfl,?_,pt _ _ ic,AK _ _ _ _ BB⟩;rcases hS with rfl | hS
     .exact .inl (by simp)
     .exact .inr hS
end
end
end
section
open Go
section
variable {v vi vx:AV}{ag:Bool}{cs:List AV}{k sz:Nat}{i x:yh}
def oO{P:xp}{w:yj}{t:yA}(hz:cu P t=FL sz):(vB t).run P w=.ok sz w:=by
 unfold cu at hz
 cases hi:P.info? t with
 | none=>simp[hi] at hz
 | some i=>simp_all[vB,typeInfo]
section
variable {O:bA}{H:Hint}{m:Mp}{S:Nat->Prop}{w:yj}{tm:Env}{a:Act}{hp:Hp}{ct:Nat}
def Tm{id o n:Nat}{rw pu ex:Bool}{p:Pl}(hh:aS O m S w hp ct)(hg:ak hp id=FL (.cells rw pu ex sz cs))(hm:m id=FL p):
  bU O.ae m S w cs p.b p.o:=by
 have⟨p',arr,t',iK,_,_,_,_,_,hr,_⟩:=hh.obj id _ _ hg hm
 grind
def awO{t:yA}(hh:aS O m S w hp ct)(hz:cu O.P t=FL sz)(ha:du O.P t=FL ag)(hx:af O.ae m S w vx x)(h:gJ hp sz ag vx=FL v):∃u,(Instr.loadAt t x).run O.P w=.ok u w/\af O.ae m S w v u:=by
 cases vx<;>simp only[gJ,reduceCtorEq] at h
 case ptr id o=>
  obtain⟨p,hm,rfl⟩:=hx
  split at h
  case h_2=>cases h
  rename_i XI pu0 Ae z0 lM Ep;have hr:=Tm (id:=id) (o:=0) (n:=0) hh Ep hm;have⟨u,h1,h2⟩:=Ol hz ha (rZ o lM p.b p.o hr) h;exact⟨u,by simp only[Instr.loadAt,Instr.sureAddr,Sem.run_bind,Sem.run_pure,Result.andThen_ok];exact h1,h2⟩
 case bN cs=>
  obtain⟨b,o,rfl,_,_,hr⟩:=hx;have⟨u,h1,h2⟩:=Ol hz ha hr h;exact⟨u,by simp only[Instr.loadAt,Instr.sureAddr,Sem.run_bind,Sem.run_pure,Result.andThen_ok];exact h1,h2⟩
def AL:∀(k:Nat) (cs:List AV),aG cs=ycZ->aG (cs.drop k)=ycZ
 | 0,cs,h=>by simpa using h
 | k+1,[],h=>by simpa using h
 | k+1,c::cs,h=>by simp only[aG,yf] at h;simpa using AL k cs h.2
def SP{b o:Nat}(h2:cs=[]\/S b)(h3:aG cs=ycZ)(h4:bU O.ae m S w cs b o):af O.ae m S w (.bN (cs.drop k)) (.pointer (FL ⟨b,o+k,FM⟩)):=by
 refine⟨b,o+k,rfl,?_,AL k cs h3,rZ k cs b o h4⟩
 grind
def asD{t:yA}{fs:Array ua}{i:Nat}{f:ua}(hu:O.P.underlying t=FL (.struct fs))(hf:fs[i]? =FL f)(hz:cu O.P f.type=FL (sz+1))(hx:af O.ae m S w vx x)(h:CC f.offset vx=FL v):∃u,(Instr.fieldAt t x i).run O.P w=.ok u w/\af O.ae m S w v u:=by
 have aeM:∀(b o:Nat),(Instr.fieldAt t (.pointer (FL ⟨b,o,FM⟩)) i).run O.P w=.ok (.pointer (FL ⟨b,o+f.offset,FM⟩)) w:=by
  intro b o;simp only[Instr.fieldAt,Sem.run_bind,run_underlying hu,Result.andThen_ok,hf,Instr.sureAddr,Sem.run_pure,fieldPlace,oO hz,Nat.succ_ne_zero,xm,n9]
 cases vx<;>simp only[CC,reduceCtorEq] at h
 case ptr id o=>
  obtain⟨p,hm,rfl⟩:=hx;simp only[yc] at h;subst h;exact⟨_,aeM _ _,by simp only[af];exact⟨p,hm,by rw[uI]⟩⟩
 case bN cs=>
  obtain⟨b,o,rfl,h2,h3,h4⟩:=hx
  cases hc:yE f.offset cs.length with
  | false=>rw[hc] at h;cases h
  | true=>
   rw[hc] at h;simp only[yx,yc] at h;subst h;exact⟨_,aeM _ _,SP h2 h3 h4⟩
def asE{t:yA}{fs:Array ua}{i:Nat}{f:ua}(hu:O.P.underlying t=FL (.struct fs))(hf:fs[i]? =FL f)(hz:cu O.P f.type=FL sz)(ha:du O.P f.type=FL ag)(hx:af O.ae m S w vx x)(h:Pe f.offset sz ag vx=FL v):∃u,(Instr.field t x i).run O.P w=.ok u w/\af O.ae m S w v u:=by
 cases vx<;>simp only[Pe,reduceCtorEq] at h
 obtain⟨xs,rfl,hr⟩:=hx;have⟨u,h1,h2⟩:=acP hz ha hr h;exact⟨u,by simp only[Instr.field,Sem.run_bind,run_underlying hu,Result.andThen_ok,hf,asAgg,Sem.run_pure];exact h1,h2⟩
def asF{t e:yA}(hu:O.P.underlying t=FL (.slice e))(hz:cu O.P e=FL sz)(hx:af O.ae m S w vx x)(hi:af O.ae m S w vi i)(hk:dH vi=FL k)(h:jm sz k vx=FL v):∃u,(Instr.indexAt t x i).run O.P w=.ok u w/\af O.ae m S w v u:=by
 obtain⟨kd,rfl⟩:=AS hi hk;have KF:∀(b o n c:Nat),k<n->(Instr.indexAt t (.slice (FL ⟨b,o,FM⟩) n c) (.int kd (k:Int))).run O.P w=.ok (.pointer (FL ⟨b,o+k*sz,FM⟩)) w:=by
  intro b o n c Af;have hr:(0:Int)<=(k:Int)/\(k:Int)<(n:Int):=by lia
  simp[Instr.indexAt,asIntOf,run_underlying hu,oO hz,hr,n9]
  grind
 cases vx<;>simp only[jm,reduceCtorEq] at h
 case ax id o n=>
  obtain⟨p,c,hm,rfl,Me,Q8⟩:=hx
  cases hc:yO k n with
  | false=>rw[hc] at h;cases h
  | true=>
   rw[hc] at h;simp only[yx,yc] at h;subst h;have Af:k<n:=by simp_all
   exact⟨_,KF _ _ _ _ Af,by simp only[af];exact⟨p,hm,by rw[uI]⟩⟩
 case au ex n cs=>
  rcases hx with ⟨b,o,c,rfl,Me,hex,h2,h3,h4⟩ | ⟨a,rfl,rfl,rfl⟩
  case inr=>
   have:yO k 0=yda:=by cases hq:yO k 0 with | false=>rfl | true=>simp only[yO,ycT] at hq;lia
   grind
  cases hc:yO k n with
  | false=>rw[hc] at h;cases h
  | true=>
   rw[hc] at h;simp only[yx,yc] at h;subst h;have Af:k<n:=by simp_all
   exact⟨_,KF _ _ _ _ Af,SP h2 h3 h4⟩
def asG{t e:yA}{len:Nat}(hu:O.P.underlying t=FL (.array len e))(hz:cu O.P e=FL sz)(hx:af O.ae m S w vx x)(hi:af O.ae m S w vi i)(hk:dH vi=FL k)(h:GQ len sz k vx=FL v):∃u,(Instr.indexAt t x i).run O.P w=.ok u w/\af O.ae m S w v u:=by
 obtain⟨kd,rfl⟩:=AS hi hk;have KF:∀(b o:Nat),k<len->(Instr.indexAt t (.pointer (FL ⟨b,o,FM⟩)) (.int kd (k:Int))).run O.P w=.ok (.pointer (FL ⟨b,o+k*sz,FM⟩)) w:=by
  intro b o Af;have hr:(0:Int)<=(k:Int)/\(k:Int)<(len:Int):=by lia
  simp[Instr.indexAt,asIntOf,run_underlying hu,oO hz,hr,n9,Instr.sureAddr]
  grind
 cases vx<;>simp only[GQ,reduceCtorEq] at h
 case ptr id o=>
  obtain⟨p,hm,rfl⟩:=hx
  cases hc:yO k len with
  | false=>rw[hc] at h;cases h
  | true=>
   rw[hc] at h;simp only[yx,yc] at h;subst h;have Af:k<len:=by simp_all
   exact⟨_,KF _ _ Af,by simp only[af];exact⟨p,hm,by rw[uI]⟩⟩
 case bN cs=>
  obtain⟨b,o,rfl,h2,h3,h4⟩:=hx
  cases hc:yO k len with
  | false=>rw[hc] at h;cases h
  | true=>
   rw[hc] at h;simp only[yx,yc] at h;subst h;have Af:k<len:=by simp_all
   exact⟨_,KF _ _ Af,SP h2 h3 h4⟩
def asH{t e:yA}{len:Nat}(hu:O.P.underlying t=FL (.array len e))(hz:cu O.P e=FL sz)(ha:du O.P e=FL ag)(hx:af O.ae m S w vx x)(hi:af O.ae m S w vi i)(hk:dH vi=FL k)(h:GR len sz ag k vx=FL v):
  ∃u,(Instr.index t x i).run O.P w=.ok u w/\af O.ae m S w v u:=by
 obtain⟨kd,rfl⟩:=AS hi hk;cases vx<;>simp only[GR,reduceCtorEq] at h
 obtain⟨xs,rfl,hr⟩:=hx
 cases hc:yO k len with
 | false=>rw[hc] at h;cases h
 | true=>
  rw[hc] at h;have Af:k<len:=by simp_all
  have⟨u,h1,h2⟩:=acP hz ha hr h;have bh:(0:Int)<=(k:Int)/\(k:Int)<(len:Int):=by lia
  exact⟨u,by simp[Instr.index,asIntOf,run_underlying hu,oO hz,bh,h1];intro hle;exact absurd hle (by lia),h2⟩
def asI{t:yA}(hu:O.P.underlying t=FL .string)(hx:af O.ae m S w vx x)(hi:af O.ae m S w vi i)(hk:dH vi=FL k)(h:oh k vx=FL v):
  ∃u,(Instr.index t x i).run O.P w=.ok u w/\af O.ae m S w v u:=by
 obtain⟨kd,rfl⟩:=AS hi hk;cases vx<;>simp only[oh,reduceCtorEq] at h
 obtain⟨b,rfl,rfl⟩:=hx
 cases hs:(b.data.toList.map xk)[k]? with
 | none=>rw[hs] at h;cases h
 | some q=>
  rw[hs] at h;simp only[yc] at h;subst h;rw[uZ] at hs
  cases hb:b.data.toList[k]? with
  | none=>rw[hb] at hs;cases hs
  | some c=>
   rw[hb] at hs;simp only[wM,yc] at hs;subst hs;have bG:b[k]? =FL c:=by
    have aH:k<b.data.toList.length:=by
     grind
    have eG:k<b.size:=by simp_all
    rw[getElem?_pos b k eG];rw[xo aH] at hb;rw[<-hb];rfl
   refine⟨.int .u8 c.toNat,?_,by simp[af]⟩;simp[Instr.index,asIntOf,run_underlying hu,bG]
end
end
end
section
open Go
section
variable {ae:Nat->Nat}{m:Mp}{S:Nat->Prop}{w:yj}
def SQ:∀{v:AV} {u:yh},af ae m S w v u->cd (cellsOf v)=ycZ->aB ae m S w (cellsOf v) u.cells.toList:=by
 intro v u h h1;cases v
 case undef=>simp[cellsOf,cd,er] at h1
 case c7=>simp[cellsOf,cd,er] at h1
 case fn f a b=>
  cases f with
  | f g=>have h':=h;obtain⟨fi,ca,rfl,_⟩:=h';exact⟨_,_,rfl,h,rfl⟩
  | y l=>have h':=h;obtain⟨p,_,rfl⟩:=h';exact⟨_,_,rfl,h,rfl⟩
 all_goals
  have h':=h;simp only[af] at h';simp only[cellsOf,Value.cells,aB]
  grind
def DJ(v:yh):aB ae m S w (cellsOf (eX v)) v.cells.toList:=by
 have h:=Ok (ae:=ae) (m:=m) (S:=S) (w:=w) v;cases v
 case agg xs=>
  obtain⟨xs,e,hr⟩:=h;injection e with e
  subst e;exact hr
 case pointer p=>cases p<;>(simp only[eX] at h ⊢;exact⟨_,_,rfl,h,rfl⟩)
 case map p=>cases p<;>(simp only[eX] at h ⊢;exact⟨_,_,rfl,h,rfl⟩)
 case slice p n c=>
  cases p
  .cases n
   .cases c<;>(simp only[eX] at h ⊢;exact⟨_,_,rfl,h,rfl⟩)
   .simp only [eX] at h ⊢;exact⟨_,_,rfl,h,rfl⟩
  .simp only [eX] at h ⊢;exact⟨_,_,rfl,h,rfl⟩
 all_goals (simp only[eX] at h ⊢;exact⟨_,_,rfl,h,rfl⟩)
def mz:∀{a b:List AV} {x y:List yh},aB ae m S w a x->aB ae m S w b y->aB ae m S w (a++b) (x++y)
 | [],b,x,y,h,k=>by simp only[aB] at h;subst h;simpa using k
 | c::a,b,x,y,h,k=>by
  obtain⟨u,r,rfl,h2,h3⟩:=h;exact⟨u,r++y,rfl,h2,mz h3 k⟩
def Jg:∀(k:Nat) {cs:List AV} {us:List yh},aB ae m S w cs us->aB ae m S w (cs.drop k) (us.drop k)
 | 0,cs,us,h=>by simpa using h
 | k+1,[],us,h=>by simp only[aB] at h;subst h;simp[aB]
 | k+1,c::cs,us,h=>by simp only[aB] at h;obtain⟨u,r,rfl,_,h3⟩:=h;simpa using Jg k h3
def FT:∀(k:Nat) {cs:List AV} {us:List yh},aB ae m S w cs us->aB ae m S w (cs.take k) (us.take k)
 | 0,cs,us,h=>by simp[aB]
 | k+1,[],us,h=>by simp only[aB] at h;subst h;simp[aB]
 | k+1,c::cs,us,h=>by
  simp only[aB] at h;obtain⟨u,r,rfl,h2,h3⟩:=h;exact⟨u,_,rfl,h2,FT k h3⟩
def Tn:∀{cs:List AV} {us:List yh} {i:Nat} {v:AV},aB ae m S w cs us->cs[i]? =FL v->∃u,us[i]? =FL u/\af ae m S w v u
 | [],us,i,v,_,h=>by simp at h
 | c::cs,us,0,v,h,e=>by
  simp only[aB] at h;obtain⟨u,r,rfl,h2,h3⟩:=h;simp at e;subst e;exact⟨u,rfl,h2⟩
 | c::cs,us,i+1,v,h,e=>by
  simp only[aB] at h;obtain⟨u,r,rfl,h2,h3⟩:=h;simpa using Tn h3 e
end
def aaI(off:Nat):∀(new:List yh) (j:Nat) (cells:Array yh),off+j+new.length<=cells.size->
  ((new.zipIdx j).foldl (fun (cs:Array yh) (p:yh×Nat)=>cs.setIfInBounds (off+p.2) p.1) cells).toList=
   cells.toList.take (off+j)++new++cells.toList.drop (off+j+new.length)
 | [],j,cells,_=>by simp
 | v::r,j,cells,h=>by
  simp only[yy] at h;have ih:=aaI off r (j+1) (cells.setIfInBounds (off+j) v) (by simp;omega);simp only[List.zipIdx_cons,List.foldl_cons];rw[ih];have aH:off+j<cells.toList.length:=by grind
  have h1:(cells.setIfInBounds (off+j) v).toList=cells.toList.set (off+j) v:=by simp
  rw[h1,show off+(j+1)=off+j+1 by omega];have h2:(cells.toList.set (off+j) v).take (off+j+1)=cells.toList.take (off+j)++[v]:=by
   rw[List.take_succ_eq_append_getElem (by simpa using aH)];simp[List.take_set_of_le]
  have h3:(cells.toList.set (off+j) v).drop (off+j+1+r.length)=cells.toList.drop (off+j+(r.length+1)):=by
   rw[List.drop_set_of_lt (by omega)];congr 1;omega
  grind
section
variable {O:bA}{H:Hint}{m:Mp}{S:Nat->Prop}{w:yj}{tm:Env}{a:Act}
def Om(hH:fh O H)(ht:bV O m S w tm a.tmps){place:Nat->Option (Nat×Nat)}:∀(parts:List (Nat×xt)) (ps:List (Nat×Nat×X)) (zero cs:List AV) (cells:Array yh),
  partsOf H place parts=FL ps->aB O.ae m S w zero cells.toList->fill tm zero ps=FL cs->
  ∃out,Instr.fill place cells (parts.map fun p=>(p.1,a.eval p.2))=FL out/\aB O.ae m S w cs out.toList
 | [],ps,zero,cs,cells,hp,hz,hf=>by
  simp only[partsOf,yc] at hp;subst hp;simp only[fill,yc] at hf;subst hf;exact⟨cells,rfl,hz⟩
 | (i,x)::r,ps,zero,cs,cells,hp,hz,hf=>by
  simp only[partsOf] at hp
  cases nJ:place i with
  | none=>simp[nJ] at hp
  | some q=>
   obtain⟨o,s⟩:=q;simp only[nJ] at hp
   cases pN:partsOf H place r with
   | none=>simp[pN] at hp
   | some l=>
    simp only[pN,yc] at hp;subst hp;simp only[fill] at hf
    cases hc:(yq (cellsOf (ay tm (aJ H x))).length s&&yE (o+s) zero.length&&cd (cellsOf (ay tm (aJ H x)))) with
    | false=>rw[hc] at hf;cases hf
    | true=>
     rw[hc] at hf;simp only[yf] at hc;have hle:=yv hc.1.2;have hrx:=SQ (bW hH ht x) hc.2;have pO:=gU _ _ hrx;have sM:=gU _ _ hz;have eG:(a.eval x).cells.size=s:=by simp_all
     have BC:cells.size=zero.length:=by omega
     have awP:=aaI o (a.eval x).cells.toList 0 cells (by simp;omega);have dc:aB O.ae m S w (over o (cellsOf (ay tm (aJ H x))) zero)
       ((a.eval x).cells.zipIdx.foldl (fun (cs:Array yh) (p:yh×Nat)=>cs.setIfInBounds (o+p.2) p.1) cells).toList:=by
      rw[<-Array.foldl_toList,Array.toList_zipIdx,awP];rw[show (a.eval x).cells.toList.length=(cellsOf (ay tm (aJ H x))).length from pO];exact mz (mz (FT o hz) hrx) (Jg _ hz)
     obtain⟨out,h1,h2⟩:=Om hH ht r l _ cs _ pN dc hf;simp only[y7,Instr.fill,nJ,eG]
     grind
end
end
section
open Go
def SR(p q:ByteArray):(p==q)=cW (nn p) (nn q):=by
 have h:(p==q)=(p.data==q.data):=by cases p;rfl
 rw[h,aaG,ByteArray.toList_eq,ByteArray.toList_eq]
 simp_all
def VT:tO->Bool
 | .bool | .int _ | .string=>ycZ
 | _=>yda
def fits(d:tO)(v:AV):Bool:=
 match d,v with
 | .int _,.int _ _ | .string,.str _ | .bool,.bool _=>ycZ
 | _,_=>yda
section
variable {O:bA}{ae:Nat->Nat}{m:Mp}{S:Nat->Prop}{w:yj}
def anM{vk vk':AV}{k k':yh}{r:Bool}{d:tO}(hk:af ae m S w vk k)(Ag:af ae m S w vk' k')(h:ph vk vk'=FL r)(hd:fits d vk=ycZ):Instr.sameNow d k k'=FL r:=by
 unfold ph at h
 split at h
 .rename_i j x j' y;simp only[af] at hk Ag;subst hk;subst Ag;by_cases hj:j=j'
  .simp only [hj,xA,yc] at h;subst hj;cases d<;>simp[fits] at hd
   simpa[Instr.sameNow] using h
  .simp [hj] at h
 .simp only [af] at hk Ag;obtain⟨s,rfl,rfl⟩:=hk;obtain⟨s',rfl,rfl⟩:=Ag;simp only[yc] at h;cases d<;>simp[fits] at hd
  simp only[Instr.sameNow,SR];rw[<-h];rfl
 .simp only [af] at hk Ag;subst hk;subst Ag;simp only[yc] at h;cases d<;>simp[fits] at hd
  simp[Instr.sameNow,h]
 .cases d<;>simp[fits] at hd
 .cases h
def ajY{P:xp}{kt:yA}{d:tO}(hu:P.underlying kt=FL d)(hd:VT d=ycZ)(b:Bool)(k:yh):(Instr.checkKey b 10000 kt k).run P w=.ok () w:=by
 have:∀n,(Instr.checkKey b (n+1) kt k).run P w=.ok () w:=by
  cases d<;>simp[VT] at hd<;>simp[Instr.checkKey,run_underlying hu]
 grind
end
end
section
open Go
def I5:∀(k1 k2:List Nat) (a b:List AV) (r:Bool),dd (k1++k2) a b=FL r->
  ∃r1 r2,dd k1 (a.take k1.length) (b.take k1.length)=FL r1/\dd k2 (a.drop k1.length) (b.drop k1.length)=FL r2/\r=(r1&&r2)
 | [],k2,a,b,r,h=>⟨ycZ,r,by simp[dd],by simpa using h,by simp⟩
 | k::k1,k2,[],b,r,h=>by
  simp only[ym] at h;unfold dd at h
  grind
 | k::k1,k2,x::a,[],r,h=>by
  unfold dd at h
  grind
 | k::k1,k2,x::a,y::b,r,h=>by
  have step:∀(q:Bool) (f:Bool->Bool),(match dd (k1++k2) a b with | some r=>FL (f r) | none=>FM)=FL q->∃r0,dd (k1++k2) a b=FL r0/\q=f r0:=by grind
  unfold dd at h
  split at h
  .grind
  .rename_i e1 e2 e3;obtain⟨rfl,rfl⟩:=e1;obtain⟨rfl,rfl⟩:=e2;obtain⟨rfl,rfl⟩:=e3;obtain⟨r0,h0,rfl⟩:=step r _ h;obtain⟨r1,r2,h1,h2,rfl⟩:=I5 k1 k2 _ _ r0 h0;exact⟨_,r2,by simp only[yy,wD,dd,h1],by simpa using h2,(yar _ _ _).symm⟩
  .rename_i e1 e2 e3;obtain⟨rfl,rfl⟩:=e1;obtain⟨rfl,rfl⟩:=e2;obtain⟨rfl,rfl⟩:=e3
   split at h
   .rename_i hk;obtain⟨r0,h0,rfl⟩:=step r _ h;obtain⟨r1,r2,h1,h2,rfl⟩:=I5 k1 k2 _ _ r0 h0;exact⟨_,r2,by simp only[yy,wD,dd,h1,hk,xA],by simpa using h2,(yar _ _ _).symm⟩
   .cases h
  .rename_i e1 e2 e3;obtain⟨rfl,rfl⟩:=e1;obtain⟨rfl,rfl⟩:=e2;obtain⟨rfl,rfl⟩:=e3;obtain⟨r0,h0,rfl⟩:=step r _ h;obtain⟨r1,r2,h1,h2,rfl⟩:=I5 k1 k2 _ _ r0 h0;exact⟨_,r2,by simp only[yy,wD,dd,h1],by simpa using h2,(yar _ _ _).symm⟩
  .cases h
def ZD:∀(ks:List Nat) (a b:List AV) (r:Bool),dd ks a b=FL r->a.length=ks.length/\b.length=ks.length
 | [],a,b,r,h=>by
  unfold dd at h
  grind
 | k::ks,[],b,r,h=>by
  unfold dd at h
  grind
 | k::ks,x::a,[],r,h=>by
  unfold dd at h
  grind
 | k::ks,x::a,y::b,r,h=>by
  have:∃r0,dd ks a b=FL r0:=by
   cases he:dd ks a b with
   | some r0=>exact⟨r0,rfl⟩
   | none=>unfold dd at h;split at h<;>simp_all
  have⟨r0,h0⟩:=this
  have:=ZD ks a b r0 h0
  simp[this]
def HA(P:xp)(t:yA)(x:yh)(xs:List yh):Prop:=(du P t=FL ycZ/\x=.agg xs.toArray)\/(du P t=FL yda/\xs=[x])
section
variable {P:xp}{ae:Nat->Nat}{m:Mp}{S:Nat->Prop}{w:yj}
def Nr{t:yA}{ag:Bool}(ha:du P t=FL ag):(isAgg t).run P w=.ok ag w:=by
 unfold du at ha
 cases hu:P.underlying t with
 | none=>simp[hu] at ha
 | some d=>cases d<;>simp_all[isAgg,underlying]
def anN{t:yA}{s o:Nat}{xs:List yh}(hz:cu P t=FL s)(ha:∃ag,du P t=FL ag)(h1:du P t=FL yda->s=1)(hl:o+s<=xs.length):
  ∃u,(part t xs.toArray o).run P w=.ok u w/\HA P t u ((xs.drop o).take s):=by
 have⟨ag,ha⟩:=ha
 cases ag with
 | true=>
  refine⟨.agg ((xs.drop o).take s).toArray,?_,.inl ⟨ha,rfl⟩⟩;simp[part,Nr ha,oO hz,List.extract_eq_take_drop]
 | false=>
  have hs:=h1 ha;subst hs;have aH:o<xs.length:=by lia
  refine⟨xs[o],?_,.inr ⟨ha,?_⟩⟩
  .simp [part,Nr ha,xo aH]
  .rw [List.drop_eq_getElem_cons aH,wD,ybJ]
def aaJ{n:Nat}{t:yA}{ks:List Nat}(h:kinds P n t=FL ks):∃ag,du P t=FL ag/\(ag=yda->ks.length=1):=by
 cases n with
 | zero=>simp[kinds] at h
 | succ n=>
  unfold kinds at h;unfold du
  split at h<;>simp_all
  all_goals (rw[<-h];rfl)
def U9(P:xp)(ae:Nat->Nat)(m:Mp)(S:Nat->Prop)(w:yj)(n:Nat):Prop:=
 ∀(t:yA) (ks:List Nat),kinds P n t=FL ks->P.stoodInHeld t=yda->∀(d:Nat),n<=d->∀(xs ys:List yh) (cs dB:List AV) (r:Bool) (x y:yh),
  aB ae m S w cs xs->aB ae m S w dB ys->dd ks cs dB=FL r->HA P t x xs->HA P t y ys->(Op.equalIn d t x y).run P w=.ok r w
def aaK{n:Nat}(ih:U9 P ae m S w n){t:yA}{ks:List Nat}{s o d:Nat}(hk:kinds P n t=FL ks)(aM:P.stoodInHeld t=yda)(hz:cu P t=FL s)(hs:ks.length=s)(hd:n<=d){xs ys:List yh}{cs dB:List AV}(h1:aB ae m S w cs xs)(h2:aB ae m S w dB ys){r:Bool}(he:dd ks ((cs.drop o).take s) ((dB.drop o).take s)=FL r):
  ∃u u',(part t xs.toArray o).run P w=.ok u w/\(part t ys.toArray o).run P w=.ok u' w/\(Op.equalIn d t u u').run P w=.ok r w:=by
 have⟨ag,ha,h1s⟩:=aaJ hk;have⟨l1,l2⟩:=ZD _ _ _ _ he;have q1:=gU _ _ h1;have q2:=gU _ _ h2;simp only[yT,xY] at l1 l2;have mV:du P t=FL yda->s=1:=fun h=>by
  grind
 have pO:o+s<=xs.length\/s=0:=by lia
 have sM:o+s<=ys.length\/s=0:=by lia
 have get:∀(zs:List yh),(o+s<=zs.length\/s=0)->∃u,(part t zs.toArray o).run P w=.ok u w/\HA P t u ((zs.drop o).take s):=by
  intro zs hl;rcases hl with hl | hl
  .exact anN hz ⟨ag,ha⟩ mV hl
  .subst hl
   cases ag with
   | false=>have:=mV ha;lia
   | true=>
    refine⟨.agg ((zs.drop o).take 0).toArray,?_,.inl ⟨ha,rfl⟩⟩;simp[part,Nr ha,oO hz]
 have⟨u,p1,v1⟩:=get xs pO;have⟨u',p2,v2⟩:=get ys sM;exact⟨u,u',p1,p2,ih t ks hk aM d hd _ _ _ _ r u u' (FT s (Jg o h1)) (FT s (Jg o h2)) he v1 v2⟩
def ZE{n:Nat}(ih:U9 P ae m S w n){d:Nat}(hd:n<=d){xs ys:List yh}{cs dB:List AV}(h1:aB ae m S w cs xs)(h2:aB ae m S w dB ys):
  ∀(fs:List ua) (o:Nat) (ks:List Nat) (r:Bool),oP P (fun u=>kinds P n u) fs o=FL ks->dd ks (cs.drop o) (dB.drop o)=FL r->(Op.eqFields d xs.toArray ys.toArray fs).run P w=.ok r w
 | [],o,ks,r,h,he=>by
  simp only[oP,yc] at h;unfold dd at he
  split at he<;>simp_all[Op.eqFields]
 | f::fs,o,ks,r,h,he=>by
  simp only[oP] at h
  cases hk:kinds P n f.type with
  | none=>simp[hk] at h
  | some kf=>
   cases hz:cu P f.type with
   | none=>simp[hk,hz] at h
   | some s=>
    simp only[hk,hz] at h
    cases hc:(f.name != "_"&&yq f.offset o&&yq kf.length s&& !P.stoodInHeld f.type) with
    | false=>rw[hc] at h;cases h
    | true=>
     rw[hc] at h;simp only[yx] at h;simp only[yf,bne_iff_ne,vT] at hc;have⟨⟨⟨hn,ho⟩,hl⟩,aM⟩:=hc;have ho:=yg ho;have hl:=yg hl
     cases hr:oP P (fun u=>kinds P n u) fs (o+s) with
     | none=>simp[hr] at h
     | some kr=>
      simp only[hr,yc] at h;subst h;obtain⟨r1,r2,e1,e2,rfl⟩:=I5 _ _ _ _ _ he;rw[hl] at e1 e2;rw[vO,vO] at e2;have⟨u,u',p1,p2,p3⟩:=aaK ih (o:=o) hk aM hz hl hd h1 h2 e1;have rest:=ZE ih hd h1 h2 fs (o+s) kr r2 hr e2;subst ho;simp only[Op.eqFields]
      cases r1 with
      | true=>simp[hn,p1,p2,p3,rest]
      | false=>simp[hn,p1,p2,p3]
def Z2{n:Nat}(ih:U9 P ae m S w n){d:Nat}(hd:n<=d){xs ys:List yh}{cs dB:List AV}(h1:aB ae m S w cs xs)(h2:aB ae m S w dB ys){e:yA}{ks:List Nat}{s:Nat}(hk:kinds P n e=FL ks)(aM:P.stoodInHeld e=yda)(hz:cu P e=FL s)(hl:ks.length=s):
  ∀(k j:Nat) (r:Bool),dd (yF k ks).flatten (cs.drop (j*s)) (dB.drop (j*s))=FL r->(Op.eqItems d e s xs.toArray ys.toArray (List.range' j k)).run P w=.ok r w
 | 0,j,r,he=>by
  unfold dd at he
  split at he<;>simp_all[Op.eqItems]
 | k+1,j,r,he=>by
  obtain⟨r1,r2,e1,e2,rfl⟩:=I5 _ _ _ _ _ he;rw[hl] at e1 e2;rw[vO,vO,show j*s+s=(j+1)*s by rw[xH,uR]] at e2;have⟨u,u',p1,p2,p3⟩:=aaK ih (o:=j*s) hk aM hz hl hd h1 h2 e1;have rest:=Z2 ih hd h1 h2 hk aM hz hl k (j+1) r2 e2;rw[List.range'_succ];simp only[Op.eqItems]
  cases r1 with
  | true=>simp[p1,p2,p3,rest]
  | false=>simp[p1,p2,p3]
def OR:∀(n:Nat) (t:yA) (ks:List Nat),kinds P n t=FL ks->P.stoodInHeld t=yda->∀(d:Nat),n<=d->∀(xs ys:List yh) (cs dB:List AV) (r:Bool) (x y:yh),
  aB ae m S w cs xs->aB ae m S w dB ys->dd ks cs dB=FL r->HA P t x xs->HA P t y ys->(Op.equalIn d t x y).run P w=.ok r w
 | 0,t,ks,h,_,_,_,_,_,_,_,_,_,_,_,_,_,_,_=>by simp[kinds] at h
 | n+1,t,ks,h,aM,0,hd,_,_,_,_,_,_,_,_,_,_,_,_=>by lia
 | n+1,t,ks,h,aM,d+1,hd,xs,ys,cs,dB,r,x,y,h1,h2,he,hx,hy=>by
  unfold kinds at h;have one:∀{k:Nat},ks=[k]->du P t=FL yda->∃c c',cs=[c]/\dB=[c']/\af ae m S w c x/\af ae m S w c' y:=by
   intro k hk ha;rcases hx with ⟨hx,_⟩ | ⟨_,rfl⟩
   .grind
   rcases hy with ⟨hy,_⟩ | ⟨_,rfl⟩
   .grind
   have l1:=gU _ _ h1;have l2:=gU _ _ h2
   match cs,dB,l1,l2 with
   | [c],[c'],_,_=>
    simp only[aB] at h1 h2
    grind
  split at h
  .rename_i hu;simp only[yc] at h;have ha:du P t=FL yda:=by simp[du,hu]
   obtain⟨c,c',rfl,rfl,r1,r2⟩:=one h.symm ha;subst h;unfold dd at he
   split at he<;>simp_all[dd]
   subst he;simp only[af] at r1 r2;subst r1;subst r2;simp[Op.equalIn,run_underlying hu]
  .rename_i k0 hu;simp only[yc] at h;have ha:du P t=FL yda:=by simp[du,hu]
   obtain⟨c,c',rfl,rfl,r1,r2⟩:=one h.symm ha;subst h;unfold dd at he
   split at he<;>simp_all[dd]
   have⟨hk,he⟩:=he;subst he;simp only[af] at r1 r2;subst r1;subst r2;simp[Op.equalIn,run_underlying hu]
  .rename_i hu;simp only[yc] at h;have ha:du P t=FL yda:=by simp[du,hu]
   obtain⟨c,c',rfl,rfl,r1,r2⟩:=one h.symm ha;subst h;unfold dd at he
   split at he<;>simp_all[dd]
   subst he;simp only[af] at r1 r2;obtain⟨s,rfl,rfl⟩:=r1;obtain⟨s',rfl,rfl⟩:=r2;simp only[Op.equalIn,Sem.run_bind,run_underlying hu,Result.andThen_ok,Sem.run_pure,SR];rfl
  .rename_i fs hu;have ha:du P t=FL ycZ:=by simp[du,hu]
   rcases hx with ⟨_,rfl⟩ | ⟨hx,_⟩
   .rcases hy with ⟨_,rfl⟩ | ⟨hy,_⟩
    .have hf:P.fieldsOf t=fs:=by simp[Program.fieldsOf,hu]
     rw[run_equalIn_struct w d t _ _ (by rw[hf];exact hu) aM,hf]
     exact ZE (OR n) (by lia) h1 h2 fs.toList 0 ks r h (by simpa using he)
    .rw [ha] at hy;cases hy
   .rw [ha] at hx;cases hx
  .rename_i k e hu;have ha:du P t=FL ycZ:=by simp[du,hu]
   rcases hx with ⟨_,rfl⟩ | ⟨hx,_⟩
   .rcases hy with ⟨_,rfl⟩ | ⟨hy,_⟩
    .cases hk:kinds P n e with
     | none=>simp[hk] at h
     | some ke=>
      cases hz:cu P e with
      | none=>simp[hk,hz] at h
      | some s=>
       simp only[hk,hz] at h
       cases hc:(yq ke.length s&& !P.stoodInHeld e) with
       | false=>rw[hc] at h;cases h
       | true=>
        rw[hc] at h;simp only[yx,yc] at h;subst h;simp only[yf,vT] at hc;have dc:=hz;unfold cu at dc
        cases hi:P.info? e with
        | none=>simp[hi] at dc
        | some i=>
         simp only[hi,yc] at dc;have BC:P.cellsOf e=s:=by simp[Program.cellsOf,hi,dc]
         rw[run_equalIn_array w d _ _ hu hi,BC,List.range_eq_range'];exact Z2 (OR n) (by lia) h1 h2 hk hc.2 hz (yg hc.1) k 0 r (by simpa using he)
    .rw [ha] at hy;cases hy
   .rw [ha] at hx;cases hx
  .cases h
end
end
section
open Go
section
variable {vk:AV}{ks:List Nat}{kk:Nat}{P:xp}{k:yh}
inductive sN(E:yh->Bool->Prop):List wZ->Nat->Option (Nat×yh)->Prop
 | nil {i:Nat}:sN E [] i FM
 | hit {e:wZ} {es:List wZ} {i:Nat}:E e.key ycZ->sN E (e::es) i (FL (i,e.val))
 | ED {e:wZ} {es:List wZ} {i:Nat} {f:Option (Nat×yh)}:E e.key yda->sN E es (i+1) f->sN E (e::es) i f
def ap5{d:tO}{es:List wZ}{i:Nat}{f:Option (Nat×yh)}(h:sN (fun u b=>Instr.sameNow d k u=FL b) es i f):Instr.findNow d k es i=FL f:=by
 induction h with
 | nil=>rfl
 | hit h=>simp[Instr.findNow,h]
 | ED h _ ih=>simp[Instr.findNow,h,ih]
def acT{w:yj}{kt:yA}{es:List wZ}{i:Nat}{f:Option (Nat×yh)}(h:sN (fun u b=>(Op.equal kt k u).run P w=.ok b w) es i f):
  (Instr.findAsking kt k es i).run P w=.ok f w:=by
 induction h with
 | nil=>simp[Instr.findAsking]
 | hit h=>simp[Instr.findAsking,h]
 | ED h _ ih=>simp[Instr.findAsking,h,ih]
section
variable {O:bA}{ae:Nat->Nat}{m:Mp}{S:Nat->Prop}{w:yj}
def Found(ae:Nat->Nat)(m:Mp)(S:Nat->Prop)(w:yj)(f:Option (Nat×yh)):Option AV->Prop
 | none=>f=FM
 | some v=>∃j u,f=FL (j,u)/\af ae m S w v u
def To{vk:AV}{E:yh->Bool->Prop}(hE:∀c u b,af ae m S w c u->ph vk c=FL b->E u b):∀(ks vs:List AV) (es:List wZ) (i:Nat) (r:Option AV),
  aB ae m S w ks (es.map (·.key))->aB ae m S w vs (es.map (·.val))->Ek vk ks vs=FL r->∃f,sN E es i f/\Found ae m S w f r
 | [],vs,es,i,r,h1,h2,h=>by
  simp only[aB,yaU] at h1;subst h1;simp only[Ek,yc] at h;subst h;exact⟨FM,.nil,rfl⟩
 | c::ks,[],es,i,r,h1,h2,h=>by simp only[Ek] at h;cases h
 | c::ks,v::vs,es,i,r,h1,h2,h=>by
  cases es with
  | nil=>simp[aB] at h1
  | cons e es=>
   simp only[y7,aB,tX] at h1 h2;obtain⟨u,t,⟨rfl,rfl⟩,hc,oD⟩:=h1;obtain⟨u',t',⟨rfl,rfl⟩,hv,BD⟩:=h2;simp only[Ek] at h
   cases Ah:ph vk c with
   | none=>simp[Ah] at h
   | some b=>
    have hs:=hE _ _ _ hc Ah
    cases b with
    | true=>
     simp only[Ah,yc] at h;subst h;exact⟨_,.hit hs,i,e.val,rfl,hv⟩
    | false=>
     simp only[Ah] at h;obtain⟨f,h1,h2⟩:=To hE ks vs es (i+1) r oD BD h;exact⟨f,.ED hs h1,h2⟩
def Put(ae:Nat->Nat)(m:Mp)(S:Nat->Prop)(w:yj)(E:yh->Bool->Prop)(k x:yh)(es:List wZ)(i:Nat)(lK eB:List AV):Prop:=
 (sN E es i FM/\aB ae m S w lK (es.map (·.key)++[k])/\aB ae m S w eB (es.map (·.val)++[x]))\/
 ∃(j:Nat) (e0:wZ) (c vk:AV),sN E es i (FL (i+j,e0.val))/\es[j]? =FL e0/\(af ae m S w vk k/\af ae m S w c e0.key/\ph vk c=FL ycZ)/\aB ae m S w lK (es.map (·.key))/\aB ae m S w eB ((es.map (·.val)).set j x)
def acU{vk vx:AV}{k x:yh}{E:yh->Bool->Prop}(hE:∀c u b,af ae m S w c u->ph vk c=FL b->E u b)(hk:af ae m S w vk k)(hx:af ae m S w vx x):∀(ks vs:List AV) (es:List wZ) (i:Nat) (lK eB:List AV),
  aB ae m S w ks (es.map (·.key))->aB ae m S w vs (es.map (·.val))->Bg vk vx ks vs=FL (lK,eB)->Put ae m S w E k x es i lK eB
 | [],[],es,i,lK,eB,h1,h2,h=>by
  simp only[aB,yaU] at h1;subst h1;simp only[Bg,yc,yo] at h;obtain⟨rfl,rfl⟩:=h;exact .inl ⟨.nil,by simp[aB,hk],by simp[aB,hx]⟩
 | [],_::_,es,i,lK,eB,h1,h2,h=>by simp[Bg] at h
 | _::_,[],es,i,lK,eB,h1,h2,h=>by simp[Bg] at h
 | c::ks,v::vs,es,i,lK,eB,h1,h2,h=>by
  cases es with
  | nil=>simp[aB] at h1
  | cons e es=>
   simp only[y7,aB,tX] at h1 h2;obtain⟨u,t,⟨rfl,rfl⟩,hc,oD⟩:=h1;obtain⟨u',t',⟨rfl,rfl⟩,hv,BD⟩:=h2;simp only[Bg] at h
   cases Ah:ph vk c with
   | none=>simp[Ah] at h
   | some b=>
    have hs:=hE _ _ _ hc Ah
    cases b with
    | true=>
     simp only[Ah,yc,yo] at h;obtain⟨rfl,rfl⟩:=h;refine .inr ⟨0,e,c,vk,.hit hs,rfl,⟨hk,hc,Ah⟩,?_,?_⟩
     .simp only [y7,aB];exact⟨_,_,rfl,hc,oD⟩
     .simp only [y7,List.set_cons_zero,aB];exact⟨_,_,rfl,hx,BD⟩
    | false=>
     simp only[Ah] at h
     cases hm:Bg vk vx ks vs with
     | none=>simp[hm] at h
     | some q=>
      obtain⟨k1,v1⟩:=q;simp only[hm,yc,yo] at h;obtain⟨rfl,rfl⟩:=h;rcases acU hE hk hx ks vs es (i+1) k1 v1 oD BD hm with ⟨g1,g2,g3⟩ | ⟨j,e0,c0,vk0,g1,g2,g3,g4,g5⟩
      .refine .inl ⟨.ED hs g1,?_,?_⟩
       .simp only [y7,ym,aB];exact⟨_,_,rfl,hc,g2⟩
       .simp only [y7,ym,aB];exact⟨_,_,rfl,hv,g3⟩
      .refine .inr ⟨j+1,e0,c0,vk0,?_,by simpa using g2,g3,?_,?_⟩
       .rw [show i+(j+1)=i+1+j by omega];exact .ED hs g1
       .simp only [y7,aB];exact⟨_,_,rfl,hc,g4⟩
       .simp only [y7,List.set_cons_succ,aB];exact⟨_,_,rfl,hv,g5⟩
def aaL:∀(n:Nat) (a b:List AV) (x y:List yh),dd (yF n 1) a b=FL ycZ->aB ae m S w a x->aB ae m S w b y->x=y/\(x.zip x).all (fun (p,q)=>Instr.sameBits 9999 p q)=ycZ
 | 0,a,b,x,y,h,hx,hy=>by
  match a,b with
  | [],[]=>simp only[aB] at hx hy;subst hx;subst hy;exact⟨rfl,rfl⟩
  | [],_::_=>simp[dd] at h
  | _::_,[]=>simp[dd] at h
  | _::_,_::_=>simp[dd] at h
 | n+1,a,b,x,y,h,hx,hy=>by
  rw[wN] at h;unfold dd at h
  split at h
  any_goals (cases h;done)
  .simp_all
  .simp_all
  .rename_i ks k p xs k' q ys oD;simp only[tX,tP] at oD;subst oD;by_cases hk:k=k'
   .subst hk;simp only[xA] at h
    cases hr:dd (yF n 1) xs ys with
    | none=>simp[hr] at h
    | some r=>
     simp only[hr,yc,yf,tT] at h;obtain⟨rfl,rfl⟩:=h;simp only[aB] at hx hy;obtain⟨u,us,rfl,e1,e2⟩:=hx;obtain⟨u',Ma,rfl,e1',e2'⟩:=hy;simp only[af] at e1 e1';subst e1;subst e1';obtain⟨rfl,g⟩:=aaL n xs ys us Ma hr e2 e2';refine⟨rfl,?_⟩;simp only[List.zip_cons_cons,yaf,g,Bool.and_true];simp[Instr.sameBits]
   .simp [hk] at h
  .simp_all
def anO{c:AV}{u:yh}(hk:af ae m S w vk k)(hc:af ae m S w c u)(h:ph vk c=FL ycZ):k=u/\Instr.sameBits 10000 k k=ycZ:=by
 unfold ph at h
 split at h
 .rename_i j x j' y;simp only[af] at hk hc;subst hk;subst hc;by_cases hj:j=j'
  .simp only [hj,xA,yc,tT] at h;exact⟨by rw[hj,h],by simp[Instr.sameBits]⟩
  .simp [hj] at h
 .simp only [af] at hk hc;obtain⟨s,rfl,rfl⟩:=hk;obtain⟨s',rfl,rfl⟩:=hc;simp only[yc] at h;have h2:(s==s')=ycZ:=by rw[SR];exact h
  have h3:(s.data==s'.data)=ycZ:=by cases s;cases s';exact h2
  rw[tT] at h3;have e:s=s':=by cases s;cases s';simp only at h3;rw[h3]
  subst e;exact⟨rfl,by simp[Instr.sameBits,h2]⟩
 .simp only [af] at hk hc;subst hk;subst hc;simp only[yc,tT] at h;exact⟨by rw[h],by simp[Instr.sameBits]⟩
 .rename_i a b;simp only[af] at hk hc;obtain⟨xs,rfl,hx⟩:=hk;obtain⟨ys,rfl,hy⟩:=hc;obtain⟨e,g⟩:=aaL _ _ _ _ _ h hx hy;have e':xs=ys:=by cases xs;cases ys;simp only at e;rw[e]
  subst e';refine⟨rfl,?_⟩;simp only[Instr.sameBits,tQ,Bool.true_and];exact g
 .cases h
def Z3{kt:yA}(hk:keyOf P kt=FL kk)(h:oS kk vk=ycZ):
  (∃d,P.underlying kt=FL d/\VT d=ycZ/\fits d vk=ycZ)\/
  ∃fs ks cs,P.underlying kt=FL (.struct fs)/\fs.toList.all (fun f=>Bh P f.type)=ycZ/\P.stoodInHeld kt=yda/\kinds P 20 kt=FL ks/\ks.length=fs.size/\vk=.agg cs/\cs.length=fs.size:=by
 unfold keyOf at hk
 split at hk
 .rename_i hu;simp only[yc] at hk;subst hk;refine .inl ⟨_,hu,rfl,?_⟩;cases vk<;>simp_all[oS,fits]
 .rename_i hu;simp only[yc] at hk;subst hk;refine .inl ⟨_,hu,rfl,?_⟩;cases vk<;>simp_all[oS,fits]
 .rename_i hu;simp only[yc] at hk;subst hk;refine .inl ⟨_,hu,rfl,?_⟩;cases vk<;>simp_all[oS,fits]
 .rename_i fs hu
  cases hc:(fs.toList.all (fun f=>Bh P f.type)&& !P.stoodInHeld kt) with
  | false=>rw[hc] at hk;cases hk
  | true=>
   rw[hc] at hk;simp only[yx] at hk;simp only[yf,vT] at hc
   cases hs:kinds P 20 kt with
   | none=>simp[hs] at hk
   | some ks=>
    simp only[hs] at hk
    cases hl:yq ks.length fs.size with
    | false=>rw[hl] at hk;cases hk
    | true=>
     rw[hl] at hk;simp only[yx,yc] at hk;subst hk;cases vk<;>simp only[oS,yC] at h
     exact .inr ⟨fs,ks,_,hu,hc.1,hc.2,rfl,yg hl,rfl,yg h⟩
 .cases hk
def Zs{P:xp}{n:Nat}:∀(fs:List ua) (o:Nat) (ks:List Nat),fs.all (fun f=>Bh P f.type)=ycZ->oP P (fun u=>kinds P n u) fs o=FL ks->ks=yF fs.length 1
 | [],o,ks,_,h=>by simp only[oP,yc] at h;subst h;rfl
 | f::fs,o,ks,ha,h=>by
  simp only[yaf,yf] at ha;simp only[oP] at h
  cases hk:kinds P n f.type with
  | none=>simp[hk] at h
  | some kf=>
   cases hz:cu P f.type with
   | none=>simp[hk,hz] at h
   | some s=>
    simp only[hk,hz] at h
    cases hc:(f.name != "_"&&yq f.offset o&&yq kf.length s&& !P.stoodInHeld f.type) with
    | false=>rw[hc] at h;cases h
    | true=>
     rw[hc] at h;simp only[yx] at h
     cases hr:oP P (fun u=>kinds P n u) fs (o+s) with
     | none=>simp[hr] at h
     | some kr=>
      simp only[hr,yc] at h;subst h;have hkf:kf=[1]:=by
       have hi:=ha.1;unfold Bh at hi
       cases n with
       | zero=>simp[kinds] at hk
       | succ n=>
        unfold kinds at hk
        split at hi
        .rename_i hu;simp only[hu,yc] at hk;exact hk.symm
        .cases hi
      rw[hkf,Zs fs (o+s) kr ha.2 hr];rfl
def ak2{kt:yA}{fs:Array ua}(hu:P.underlying kt=FL (.struct fs))(ha:fs.toList.all (fun f=>Bh P f.type)=ycZ)(hk:kinds P 20 kt=FL ks):
  ks=yF fs.size 1:=by
 unfold kinds at hk;simp only[hu] at hk
 have:=Zs (n:=19) fs.toList 0 ks ha hk
 simpa using this
def akv{b:Bool}{n:Nat}{t:yA}{k:xc}{u:yh}(hu:P.underlying t=FL (.int k)):(Instr.checkKey b (n+1) t u).run P w=.ok () w:=by
 simp[Instr.checkKey,run_underlying hu]
def Zt{P:xp}{b:Bool}{q q':Nat}(hq:q=q'+1){cs:Array yh}:∀(fs:List ua) (o n:Nat) (ks:List Nat),fs.all (fun f=>Bh P f.type)=ycZ->oP P (fun u=>kinds P n u) fs o=FL ks->o+ks.length<=cs.size->
  Sem.run P (forIn fs yap fun f _=>
      if f.name≠ "_" then do
       let x <-part f.type cs f.offset
       Instr.checkKey b q f.type x
       pure (yaQ yap)
      else pure (yaQ yap)) w=.ok yap w
 | [],o,n,ks,_,h,_=>by simp
 | f::fs,o,n,ks,ha,h,hl=>by
  simp only[yaf,yf] at ha;simp only[oP] at h
  cases hk:kinds P n f.type with
  | none=>simp[hk] at h
  | some kf=>
   cases hz:cu P f.type with
   | none=>simp[hk,hz] at h
   | some s=>
    simp only[hk,hz] at h
    cases hc:(f.name != "_"&&yq f.offset o&&yq kf.length s&& !P.stoodInHeld f.type) with
    | false=>rw[hc] at h;cases h
    | true=>
     rw[hc] at h;simp only[yx] at h;simp only[yf,bne_iff_ne,vT] at hc;obtain⟨⟨⟨hn,ho⟩,Q9⟩,aM⟩:=hc;have ho:=yg ho;have Q9:=yg Q9
     cases hr:oP P (fun u=>kinds P n u) fs (o+s) with
     | none=>simp[hr] at h
     | some kr=>
      simp only[hr,yc] at h;subst h;rw[yN] at hl;have hi:=ha.1;unfold Bh at hi
      split at hi
      .rename_i kd hu;obtain⟨ag,Ai,h1⟩:=aaJ hk;have agl:du P f.type=FL yda:=by simp[du,hu]
       have h2:=Ai;rw[agl] at h2;injection h2 with h2
       have aH:f.offset<cs.size:=by have:=h1 h2.symm;omega
       have hp:(part f.type cs f.offset).run P w=.ok cs[f.offset] w:=by
        simp[part,Nr agl,Array.getElem?_eq_getElem aH]
       have cO:(Instr.checkKey b q f.type cs[f.offset]).run P w=.ok () w:=by
        rw[hq];exact akv hu
       have rest:=Zt (b:=b) hq (cs:=cs) fs (o+s) n kr ha.2 hr (by omega);rw[List.forIn_cons];simp only[hn,ne_eq,ycU,xA,Sem.run_bind,hp,cO,Result.andThen_ok,Sem.run_pure];simpa only[ne_eq] using rest
      .cases hi
def aj5{b:Bool}{q q':Nat}(hq:q=q'+1){kt:yA}{fs:Array ua}{cs:Array yh}(hu:P.underlying kt=FL (.struct fs))(ha:fs.toList.all (fun f=>Bh P f.type)=ycZ)(hk:kinds P 20 kt=FL ks)(hl:ks.length<=cs.size):(Instr.checkKey b (q+1) kt (.agg cs)).run P w=.ok () w:=by
 unfold kinds at hk;simp only[hu] at hk;have h:=Zt (w:=w) (b:=b) hq (cs:=cs) fs.toList 0 19 ks ha hk (by omega);simp only[Instr.checkKey,Sem.run_bind,run_underlying hu,Result.andThen_ok,<-Array.forIn_toList];rw[h]
 simp
def ZF{kt:yA}(hk:keyOf P kt=FL kk)(h:oS kk vk=ycZ)(hr:af ae m S w vk k)(b:Bool):(Instr.checkKey b 10000 kt k).run P w=.ok () w:=by
 rcases Z3 hk h with ⟨d,h1,h2,h3⟩ | ⟨fs,ks,cs,hu,ha,aM,oD,hl,rfl,gM⟩
 .exact ajY h1 h2 b k
 .simp only [af] at hr;obtain⟨xs,rfl,hx⟩:=hr;have XJ:=gU _ _ hx;rw[vG] at XJ
  exact aj5 (q:=9999) (q':=9998) rfl hu ha oD (by omega)
def Z4{kt:yA}(hk:keyOf P kt=FL kk)(h:oS kk vk=ycZ)(hr:af ae m S w vk k):
  ∃E:yh->Bool->Prop,(∀c u b,af ae m S w c u->ph vk c=FL b->E u b)/\∀es f,sN E es 0 f->(Instr.findKey kt k es).run P w=.ok f w:=by
 rcases Z3 hk h with ⟨d,h1,h2,h3⟩ | ⟨fs,ks,cs,hu,ha,aM,oD,hl,rfl,gM⟩
 .refine ⟨fun u b=>Instr.sameNow d k u=FL b,fun c u b hc he=>anM hr hc he h3,fun es f hf=>?_⟩;simp[Instr.findKey,run_underlying h1,ap5 hf]
 .refine ⟨fun u b=>(Op.equal kt k u).run P w=.ok b w,fun c u b hc he=>?_,fun es f hf=>?_⟩
  .cases c<;>simp only[ph,reduceCtorEq] at he
   rename_i dB;simp only[af] at hr hc;obtain⟨xs,rfl,hx⟩:=hr;obtain⟨ys,rfl,hy⟩:=hc;rw[gM,<-ak2 hu ha oD] at he;have Ai:du P kt=FL ycZ:=by simp[du,hu]
   rw[Tl];exact OR 20 kt ks oD aM 10000 (by omega) _ _ _ _ b _ _ hx hy he (.inl ⟨Ai,by simp⟩) (.inl ⟨Ai,by simp⟩)
  .simp only [af] at hr;obtain⟨xs,rfl,hx⟩:=hr
   cases hf with
   | nil=>simp[Instr.findKey,run_underlying hu,Instr.findNow]
   | hit g=>simp[Instr.findKey,run_underlying hu,Instr.findNow,Instr.sameNow,acT (.hit g)]
   | ED g g'=>simp[Instr.findKey,run_underlying hu,Instr.findNow,Instr.sameNow,acT (.ED g g')]
def asJ{t kt e:yA}{ok:Bool}{hp:Hp}{ct:Nat}{vx v:AV}{x zero:yh}(hh:aS O m S w hp ct)(hu:O.P.underlying t=FL (.map kt e))(hk:keyOf O.P kt=FL kk)(hdk:oS kk vk=ycZ)(hz:(zeroValue e).run O.P w=.ok zero w)(hx:af O.ae m S w vx x)(HB:af O.ae m S w vk k){z:AV}(XK:af O.ae m S w z zero){r:Option AV}(hr:CD hp vk vx=FL r)(hv:(match r with | some u=>(bif ok then AV.aw [u,.bool ycZ] else u) | none=>(bif ok then AV.aw [z,.bool yda] else z))=v):
  ∃u,(Instr.lookup t x k ok).run O.P w=.ok u w/\af O.ae m S w v u:=by
 have fin:∀(u:AV) (uu:yh) (b:Bool),af O.ae m S w u uu->af O.ae m S w (bif ok then AV.aw [u,.bool b] else u) (if ok then .tuple #[uu,.bool b] else uu):=by
  intro u uu b h
  cases ok with
  | true=>simp only[yx,xA,af,aB];exact⟨_,rfl,_,_,rfl,h,_,_,rfl,rfl,rfl⟩
  | false=>simpa using h
 have cO:=fun b:Bool=>ZF (P:=O.P) (w:=w) hk hdk HB b
 obtain⟨E,hE,hF⟩:=Z4 (P:=O.P) hk hdk HB;have body:∀(x':yh) (es:Array wZ),((x'=.map FM/\es=#[])\/∃b clock,x'=.map (FL b)/\w.heap[b]? =FL (.map es clock))->(∃f,sN E es.toList 0 f/\Found O.ae m S w f r)->
   ∃u,(Instr.lookup t x' k ok).run O.P w=.ok u w/\af O.ae m S w v u:=by
  rintro x' es hl ⟨f,hf,iL⟩;have dT:=hF _ _ hf
  cases r with
  | none=>
   have nK:f=FM:=iL;subst nK;refine⟨if ok then .tuple #[zero,.bool yda] else zero,?_,by rw[<-hv];exact fin z zero yda XK⟩
   rcases hl with ⟨rfl,rfl⟩ | ⟨b,clock,rfl,hb⟩
   .have Er:(Instr.findKey kt k []).run O.P w=.ok FM w:=dT;simp[Instr.lookup,run_underlying hu,cO,Er,hz]
   .simp [Instr.lookup,run_underlying hu,getObj,Sem.run,hb];rw[cO];simp[dT,hz]
  | some v'=>
   obtain⟨j,u,rfl,h2⟩:=iL;refine⟨if ok then .tuple #[u,.bool ycZ] else u,?_,by rw[<-hv];exact fin v' u ycZ h2⟩
   rcases hl with ⟨rfl,rfl⟩ | ⟨b,clock,rfl,hb⟩
   .cases hf
   .simp [Instr.lookup,run_underlying hu,getObj,Sem.run,hb];rw[cO];simp[dT]
 cases vx<;>simp only[CD,reduceCtorEq] at hr
 case jM=>
  simp only[yc] at hr;subst hr;simp only[af] at hx;subst hx;exact body _ #[] (.inl ⟨rfl,rfl⟩) ⟨FM,.nil,rfl⟩
 case map id=>
  simp only[af] at hx;obtain⟨p,hm,rfl⟩:=hx
  split at hr
  case h_2=>cases hr
  rename_i XI ks vs Ep;obtain⟨p',es,clock,iK,hb,h1,h2,_⟩:=hh.obj id _ _ Ep hm;rw[hm] at iK;injection iK with iK;subst iK
  exact body _ es (.inr ⟨_,_,rfl,hb⟩) (To hE ks vs es.toList 0 r h1 h2 hr)
 case jN ks vs=>
  simp only[af] at hx;obtain⟨b,es,clock,rfl,_,_,_,hb,h1,h2⟩:=hx;exact body _ es (.inr ⟨_,_,rfl,hb⟩) (To hE ks vs es.toList 0 r h1 h2 hr)
end
end
end
section
open Go
def dt{tm:Env}{hp:Hp}{v:AV}(h:bg tm hp bad=FL v):False:=by simp[bad,bg] at h
section
variable {O:bA}{H:Hint}{m:Mp}{S:Nat->Prop}{w:yj}{tm:Env}{a:Act}{hp:Hp}{ct:Nat}
def ap6{ae:Nat->Nat}{va vb v:AV}{x y:yh}(hx:af ae m S w va x)(hy:af ae m S w vb y)(h:VE.min2 va vb=FL v):∃u,(Builtin.min2 x y).run O.P w=.ok u w/\af ae m S w v u:=by
 unfold VE.min2 at h
 split at h
 .simp only [af] at hx hy;subst hx;subst hy;simp only[yc] at h;subst h;exact⟨_,by simp only[Builtin.min2,Sem.run_pure];rfl,by simp only[af]⟩
 .rename_i k p k' q;subst hx;subst hy
  cases ho:k.format.order p q with
  | none=>simp[ho] at h
  | some c=>cases c<;>(simp only[ho,yc] at h;subst h;exact⟨_,by simp only[Builtin.min2,ho,Sem.run_pure];rfl,by simp only[af]⟩)
 .cases h
def ap7{ae:Nat->Nat}{va vb v:AV}{x y:yh}(hx:af ae m S w va x)(hy:af ae m S w vb y)(h:VE.max2 va vb=FL v):∃u,(Builtin.max2 x y).run O.P w=.ok u w/\af ae m S w v u:=by
 unfold VE.max2 at h
 split at h
 .simp only [af] at hx hy;subst hx;subst hy;simp only[yc] at h;subst h;exact⟨_,by simp only[Builtin.max2,Sem.run_pure];rfl,by simp only[af]⟩
 .rename_i k p k' q;subst hx;subst hy
  cases ho:k.format.order p q with
  | none=>simp[ho] at h
  | some c=>cases c<;>(simp only[ho,yc] at h;subst h;exact⟨_,by simp only[Builtin.max2,ho,Sem.run_pure];rfl,by simp only[af]⟩)
 .cases h
def T9{ae:Nat->Nat}{f:AV->AV->Option AV}{g:yh->yh->Sem yh}(hfg:∀va vb v x y,af ae m S w va x->af ae m S w vb y->f va vb=FL v->∃u,(g x y).run O.P w=.ok u w/\af ae m S w v u):
  ∀(l:List AV) (us:List yh) (va v:AV) (x:yh),af ae m S w va x->aB ae m S w l us->CB f va l=FL v->∃u,(us.foldlM g x).run O.P w=.ok u w/\af ae m S w v u
 | [],us,va,v,x,hx,hl,h=>by
  simp only[aB] at hl;simp only[CB,yc] at h
  simp_all
 | b::l,us,va,v,x,hx,hl,h=>by
  obtain⟨u,r,rfl,hu,hr⟩:=hl;simp only[CB] at h
  cases hf:f va b with
  | none=>simp[hf] at h
  | some c=>
   simp only[hf] at h;obtain⟨u1,h1,h2⟩:=hfg _ _ _ _ _ hx hu hf;obtain⟨u2,h3,h4⟩:=T9 hfg l r c v u1 h2 hr h
   simp_all
def UC{t:yA}{vx v:AV}{x:yh}{ty:yA}(hh:aS O m S w hp ct)(hx:af O.ae m S w vx x){k:Nat}(hu:(k=0/\O.P.underlying t=FL .string)\/(k=1/\∃e,O.P.underlying t=FL (.slice e))\/(k=2/\∃kt e,O.P.underlying t=FL (.map kt e)))(h:kB hp k vx=FL v):∃u,(Builtin.len_ #[t] ty #[x]).run O.P w=.ok u w/\af O.ae m S w v u:=by
 rcases hu with ⟨rfl,hu⟩ | ⟨rfl,e,hu⟩ | ⟨rfl,kt,e,hu⟩
 all_goals cases vx<;>simp only[kB,reduceCtorEq] at h
 case inl.str s=>
  simp only[af] at hx;obtain⟨b,rfl,rfl⟩:=hx;simp only[yc] at h;subst h;refine⟨_,by simp[Builtin.len_,run_underlying hu];rfl,?_⟩
  simp only[af,goInt]
  simp_all
 case inr.inl.ah=>
  simp only[af] at hx;subst hx;simp only[yc] at h;subst h;exact⟨_,by simp[Builtin.len_,run_underlying hu];rfl,by simp[af,goInt]⟩
 case inr.inl.au ex n cs=>
  simp only[af] at hx;rcases hx with ⟨b,o,c,rfl,_⟩ | ⟨a,rfl,rfl,rfl⟩
  all_goals
   simp only[yc] at h;subst h;exact⟨_,by simp[Builtin.len_,run_underlying hu];rfl,by simp[af,goInt]⟩
 case inr.inl.ax id o n=>
  simp only[af] at hx;obtain⟨p,c,_,rfl,_⟩:=hx;simp only[yc] at h;subst h;exact⟨_,by simp[Builtin.len_,run_underlying hu];rfl,by simp[af,goInt]⟩
 case inr.inr.jM=>
  simp only[af] at hx;subst hx;simp only[yc] at h;subst h;exact⟨_,by simp[Builtin.len_,run_underlying hu];rfl,by simp[af,goInt]⟩
 case inr.inr.jN ks vs=>
  simp only[af] at hx;obtain⟨b,es,clock,rfl,_,_,_,hb,h1,_⟩:=hx;simp only[yc] at h;subst h;refine⟨_,by simp[Builtin.len_,run_underlying hu,getObj,Sem.run,hb];rfl,?_⟩
  have:=gU _ _ h1
  simp only[af,goInt];rw[<-this];simp
 case inr.inr.map id=>
  simp only[af] at hx;obtain⟨p,hm,rfl⟩:=hx
  split at h
  case h_2=>cases h
  rename_i XI ks vs Ep;simp only[yc] at h;subst h;obtain⟨p',es,clock,iK,hb,h1,_⟩:=hh.obj id _ _ Ep hm;rw[hm] at iK;injection iK with iK;subst iK
  refine⟨_,by simp[Builtin.len_,run_underlying hu,getObj,Sem.run,hb];rfl,?_⟩
  have:=gU _ _ h1
  simp only[af,goInt];rw[<-this];simp
end
end
section
open Go
section
variable {O:bA}{H:Hint}{m:Mp}{S:Nat->Prop}{w:yj}{tm:Env}{a:Act}{hp:Hp}{ct:Nat}
def F7{t:yA}{z:AV}(h:mK O.P t=FL z):∃v,(zeroValue t).run O.P w=.ok v w/\z=eX v:=by
 unfold mK at h
 cases hi:O.P.info? t with
 | none=>simp[hi] at h
 | some i=>
  simp only[hi] at h
  cases hz:i.zero with
  | none=>simp[hz] at h
  | some v=>
   simp only[hz,yc] at h;exact⟨v,by simp[zeroValue,typeInfo,hi,hz],h.symm⟩
def Reads(O:bA)(m:Mp)(S:Nat->Prop)(w:yj)(a:Act)(o:yV)(v:AV):Prop:=
 ∃u,(execOp a.eval o).run O.P w=.ok (.value u) w/\af O.ae m S w v u
def kQ{o:yV}{v:AV}{s:Sem yh}(he:execOp a.eval o=(do pure (.value (<-s)):Sem yaF))(h:∃u,s.run O.P w=.ok u w/\af O.ae m S w v u):Reads O m S w a o v:=by
 have⟨u,h1,h2⟩:=h;exact⟨u,by rw[he];simp[h1],h2⟩
def anP{o:yV}{op:wY}{t ty:yA}{x y:xt}{k:Nat}{v:AV}(hH:fh O H)(ht:bV O m S w tm a.tmps)(ho:o.op=.binOp op t x y ty)(hv:bg tm hp (aP O.P H k o)=FL v):Reads O m S w a o v:=by
 have rx:=bW hH ht x;have ry:=bW hH ht y;have guard:∀{u:yh},(∀xs ys,¬(a.eval x=.agg xs/\a.eval y=.agg ys))\/O.P.eqGuardType O.P.depth t=yda->a.eval x≠.nilIface->(wa op t (a.eval x) (a.eval y)).run O.P w=.ok u w->
   (do eqGuard op t x y (a.eval x) (a.eval y);wa op t (a.eval x) (a.eval y):Sem yh).run O.P w=.ok u w:=by
  intro u h1 h2 h3
  simp only[Sem.run_bind,ak1 (P:=O.P) (w:=w) (t:=t) (op:=op) (x:=x) (y:=y) (h1.symm) h2,Result.andThen_ok,h3]
 have plain:bg tm hp (.bin op (aJ H x) (aJ H y))=FL v->Reads O m S w a o v:=by
  intro hv;simp only[bg] at hv;obtain⟨u,h1,h2⟩:=anI (P:=O.P) (t:=t) rx ry hv
  refine kQ (s:=do eqGuard op t x y (a.eval x) (a.eval y);wa op t (a.eval x) (a.eval y)) (by simp only[execOp,ho]) ⟨u,guard (.inl ?_) ?_ h1,h2⟩
  .rintro xs ys ⟨e1,e2⟩;rw[e1] at rx;unfold VE.binOp at hv
   split at hv
   .rename_i h3 _;rw[h3] at rx;simp[af] at rx
   .rename_i h3 _;rw[h3] at rx;simp[af] at rx
   .rename_i h3 _;rw[h3] at rx;simp[af] at rx
   .rename_i h3 _;rw[h3] at rx;simp[af] at rx
   .cases hv
  .intro e1;rw[e1] at rx;unfold VE.binOp at hv
   split at hv
   .rename_i h3 _;rw[h3] at rx;simp[af] at rx
   .rename_i h3 _;rw[h3] at rx;simp[af] at rx
   .rename_i h3 _;rw[h3] at rx;simp[af] at rx
   .rename_i h3 _;rw[h3] at rx;simp[af] at rx
   .cases hv
 have other:∀(ne:Bool) (kd:VE.Q5),(op=.eql/\ne=yda\/op=.neq/\ne=ycZ)->(∀r,jr kd (ay tm (aJ H x)) (ay tm (aJ H y))=FL r->(Op.equal t (a.eval x) (a.eval y)).run O.P w=.ok r w/\
    ((∀xs ys,¬(a.eval x=.agg xs/\a.eval y=.agg ys))\/O.P.eqGuardType O.P.depth t=yda)/\a.eval x≠.nilIface/\
    ∀q:Bool,(op=.eql->wa op t (a.eval x) (a.eval y)=(do pure (.bool (<-Op.equal t (a.eval x) (a.eval y)))))/\(op=.neq->wa op t (a.eval x) (a.eval y)=(do pure (.bool (!(<-Op.equal t (a.eval x) (a.eval y)))))))->
   bg tm hp (.eq ne kd (aJ H x) (aJ H y))=FL v->Reads O m S w a o v:=by
  intro ne kd ie mf hv;simp only[bg] at hv
  cases he:jr kd (ay tm (aJ H x)) (ay tm (aJ H y)) with
  | none=>simp[he] at hv
  | some r=>
   simp only[he,yc] at hv;subst hv;obtain⟨h1,h2,h3,h4⟩:=mf r he;obtain⟨h5,h6⟩:=h4 ycZ
   refine kQ (s:=do eqGuard op t x y (a.eval x) (a.eval y);wa op t (a.eval x) (a.eval y)) (by simp only[execOp,ho]) ⟨.bool (ne !=r),guard h2 h3 ?_,by simp[af]⟩
   rcases ie with ⟨rfl,rfl⟩ | ⟨rfl,rfl⟩
   .rw [h5 rfl];simp[h1]
   .rw [h6 rfl];simp[h1]
 have pB:O.P.underlying t=FL .bool->∀r,jr .b (ay tm (aJ H x)) (ay tm (aJ H y))=FL r->∃p q,a.eval x=.bool p/\a.eval y=.bool q/\(Op.equal t (a.eval x) (a.eval y)).run O.P w=.ok r w:=by
  intro hu r he;cases hx:ay tm (aJ H x)<;>cases hy:ay tm (aJ H y)<;>rw[hx,hy] at he<;>simp only[jr,reduceCtorEq] at he
  rw[hx] at rx;rw[hy] at ry;simp only[af] at rx ry;simp only[yc] at he;refine⟨_,_,rx,ry,?_⟩;rw[rx,ry,Tl,<-he];exact asC hu
 have pS:∀e,O.P.underlying t=FL (.slice e)->∀r,jr .sl (ay tm (aJ H x)) (ay tm (aJ H y))=FL r->∃p n c q n' c',a.eval x=.slice p n c/\a.eval y=.slice q n' c'/\(Op.equal t (a.eval x) (a.eval y)).run O.P w=.ok r w:=by
  intro e hu r he;have h1:=ap2 hu rx ry he;have sl:∀{v:AV} {u:yh},af O.ae m S w v u->(v=.ah\/(∃a b c,v=.au a b c)\/∃a b c,v=.ax a b c)->∃p n c,u=.slice p n c:=by
   intro v u hr hv;rcases hv with rfl | ⟨_,_,_,rfl⟩ | ⟨_,_,_,rfl⟩
   .simp only [af] at hr;exact⟨_,_,_,hr⟩
   .simp only [af] at hr;rcases hr with ⟨b,o,c,hr,_⟩ | ⟨_,hr,_⟩<;>exact⟨_,_,_,hr⟩
   .simp only [af] at hr;obtain⟨b,c,_,hr,_⟩:=hr;exact⟨_,_,_,hr⟩
  have c9:(ay tm (aJ H x)=.ah\/(∃a b c,ay tm (aJ H x)=.au a b c)\/∃a b c,ay tm (aJ H x)=.ax a b c)/\
    (ay tm (aJ H y)=.ah\/(∃a b c,ay tm (aJ H y)=.au a b c)\/∃a b c,ay tm (aJ H y)=.ax a b c):=by
   cases hx:ay tm (aJ H x)<;>cases hy:ay tm (aJ H y)<;>rw[hx,hy] at he<;>simp[jr] at he ⊢
  obtain⟨p,n,c,e1⟩:=sl rx c9.1;obtain⟨q,n',c',e2⟩:=sl ry c9.2;exact⟨p,n,c,q,n',c',e1,e2,h1⟩
 have pF:∀ps rs vr,O.P.underlying t=FL (.func ps rs vr)->∀r,jr .fn (ay tm (aJ H x)) (ay tm (aJ H y))=FL r->
   ((a.eval x=.nilFunc\/∃f p q,a.eval x=.func f p q)/\(a.eval y=.nilFunc\/∃f p q,a.eval y=.func f p q))/\(Op.equal t (a.eval x) (a.eval y)).run O.P w=.ok r w:=by
  intro ps rs vr hu r he;have h1:=ap3 hu rx ry he;have sl:∀{v:AV} {u:yh},af O.ae m S w v u->(v=.iG\/(∃a b c,v=.fn a b c))->(u=.nilFunc\/∃f p q,u=.func f p q):=by
   intro v u hr hv;rcases hv with rfl | ⟨f,_,_,rfl⟩
   .simp only [af] at hr;exact .inl hr
   .cases f with
    | f g=>simp only[af] at hr;obtain⟨b,c,hr,_⟩:=hr;exact .inr ⟨_,_,_,hr⟩
    | y l=>simp only[af] at hr;obtain⟨b,_,hr⟩:=hr;exact .inr ⟨_,_,_,hr⟩
  have c9:(ay tm (aJ H x)=.iG\/(∃a b c,ay tm (aJ H x)=.fn a b c))/\(ay tm (aJ H y)=.iG\/(∃a b c,ay tm (aJ H y)=.fn a b c)):=by
   cases hx:ay tm (aJ H x)<;>cases hy:ay tm (aJ H y)<;>rw[hx,hy] at he<;>simp[jr] at he ⊢
  exact⟨⟨sl rx c9.1,sl ry c9.2⟩,h1⟩
 have pA:∀ks,kinds O.P 20 t=FL ks->du O.P t=FL ycZ->O.P.stoodInHeld t=yda->∀r,jr (.ag ks) (ay tm (aJ H x)) (ay tm (aJ H y))=FL r->∃p q,a.eval x=.agg p/\a.eval y=.agg q/\(Op.equal t (a.eval x) (a.eval y)).run O.P w=.ok r w:=by
  intro ks hk ha aM r he;cases hx:ay tm (aJ H x)<;>cases hy:ay tm (aJ H y)<;>rw[hx,hy] at he<;>simp only[jr,reduceCtorEq] at he
  rw[hx] at rx;rw[hy] at ry;simp only[af] at rx ry;obtain⟨p,e1,h1⟩:=rx;obtain⟨q,e2,h2⟩:=ry;refine⟨p,q,e1,e2,?_⟩;rw[e1,e2,Tl];exact OR 20 t ks hk aM 10000 (by omega) _ _ _ _ r _ _ h1 h2 he (.inl ⟨ha,by simp⟩) (.inl ⟨ha,by simp⟩)
 have eqs:∀(ne:Bool),(op=.eql/\ne=yda\/op=.neq/\ne=ycZ)->bg tm hp (n8 O.P H ne op t x y)=FL v->Reads O m S w a o v:=by
  intro ne ie hv;have agg:du O.P t=FL ycZ->bg tm hp (oU O.P H ne t x y)=FL v->Reads O m S w a o v:=by
   intro ha hv;unfold oU at hv
   cases hk:kinds O.P 20 t with
   | none=>rw[hk] at hv;exact (dt hv).elim
   | some ks=>
    simp only[hk] at hv
    cases hc:(O.P.stoodInHeld t||O.P.eqGuardType O.P.depth t) with
    | true=>rw[hc] at hv;exact (dt hv).elim
    | false=>
     rw[hc] at hv;simp only[yR] at hv;simp only[Bool.or_eq_false_iff] at hc;refine other ne (.ag ks) ie (fun r hr=>?_) hv;obtain⟨p,q,e1,e2,h1⟩:=pA ks hk ha hc.1 r hr;refine⟨h1,.inr hc.2,by rw[e1];simp,fun _=>?_⟩
     rw[e1,e2];exact⟨fun e=>by subst e;rfl,fun e=>by subst e;rfl⟩
  unfold n8 at hv
  split at hv
  .exact plain hv
  .exact plain hv
  .exact plain hv
  .exact plain hv
  .rename_i hu;refine other ne .b ie (fun r hr=>?_) hv;obtain⟨p,q,e1,e2,h1⟩:=pB hu r hr;refine⟨h1,.inl (by rw[e1];simp),by rw[e1];simp,fun _=>?_⟩
   rw[e1,e2];exact⟨fun e=>by subst e;rfl,fun e=>by subst e;rfl⟩
  .rename_i e hu;refine other ne .sl ie (fun r hr=>?_) hv;obtain⟨p,n,c,q,n',c',e1,e2,h1⟩:=pS e hu r hr;refine⟨h1,.inl (by rw[e1];simp),by rw[e1];simp,fun _=>?_⟩
   rw[e1,e2];exact⟨fun e=>by subst e;rfl,fun e=>by subst e;rfl⟩
  .rename_i ps rs vr hu;refine other ne .fn ie (fun r hr=>?_) hv;obtain⟨⟨e1,e2⟩,h1⟩:=pF ps rs vr hu r hr;refine⟨h1,.inl ?_,?_,fun _=>?_⟩
   .rcases e1 with e1 | ⟨_,_,_,e1⟩<;>rw[e1]<;>simp
   .rcases e1 with e1 | ⟨_,_,_,e1⟩<;>rw[e1]<;>simp
   .rcases e1 with e1 | ⟨_,_,_,e1⟩<;>rcases e2 with e2 | ⟨_,_,_,e2⟩<;>rw[e1,e2]<;>exact⟨fun e=>by subst e;rfl,fun e=>by subst e;rfl⟩
  .rename_i fs hu;exact agg (by simp[du,hu]) hv
  .rename_i k0 e hu;exact agg (by simp[du,hu]) hv
  .exact (dt hv).elim
 cases op
 case eql=>exact eqs yda (.inl ⟨rfl,rfl⟩) (by simpa only[aP,ho] using hv)
 case neq=>exact eqs ycZ (.inr ⟨rfl,rfl⟩) (by simpa only[aP,ho] using hv)
 all_goals exact plain (by simpa only[aP,ho] using hv)
end
end
section
open Go
section
variable {O:bA}{H:Hint}{m:Mp}{S:Nat->Prop}{w:yj}{tm:Env}{a:Act}{hp:Hp}{ct:Nat}
def AJ{o:yV}{b:Builtin}{args:Array xt}{ts:Array yA}(ho:o.op=.call {callee:=.builtin b,args:=args,argTypes:=ts}):
  ∃cs,(execOp a.eval o).run O.P w=(builtin b ts o.type cs (args.map a.eval)).run O.P w:=by
 exact⟨_,by simp only[execOp,ho,resolve,Sem.run_bind,Sem.run_pure,Result.andThen_ok,invoke];rfl⟩
def alY{o:yV}{c:Call}{k:Nat}{v:AV}(hH:fh O H)(ht:bV O m S w tm a.tmps)(hh:aS O m S w hp ct)(ho:o.op=.call c)(hv:bg tm hp (aP O.P H k o)=FL v):Reads O m S w a o v:=by
 obtain⟨callee,args,ts⟩:=c;simp only[aP,ho] at hv
 split at hv
 .cases E4:H.mode k<;>simp[E4,bg] at hv
 .rename_i _ b
  split at hv
  .have key:∀{bb:Bool} {sz by':Nat} {x y:X},bg tm hp (bif bb then .db sz by' x y else bad)=FL v->False:=by
    intro bb sz by' x y h
    cases bb
    .exact dt h
    .simp [bg] at h
   split at hv
   .split at hv
    .exact (key hv).elim
    .exact (dt hv).elim
   .split at hv
    .exact (key hv).elim
    .exact (dt hv).elim
   .exact (dt hv).elim
  .rename_i x t eF nL;obtain⟨al⟩:=args;obtain⟨tl⟩:=ts;simp only at eF nL;subst eF;subst nL;obtain⟨cs,dT⟩:=AJ (O:=O) (w:=w) (a:=a) ho;have fin:(∃u,(Builtin.len_ #[t] o.type #[a.eval x]).run O.P w=.ok u w/\af O.ae m S w v u)->Reads O m S w a o v:=by
    rintro⟨u,h1,h2⟩;refine⟨u,?_,h2⟩;rw[dT];simp[builtin,h1]
   split at hv
   .rename_i n e hu;simp only[bg,ay,yc] at hv;subst hv;exact fin ⟨_,by simp[Builtin.len_,run_underlying hu];rfl,by simp[af,goInt]⟩
   .rename_i hu;simp only[bg] at hv;exact fin (UC hh (bW hH ht x) (.inl ⟨rfl,hu⟩) hv)
   .rename_i e hu;simp only[bg] at hv;exact fin (UC hh (bW hH ht x) (.inr (.inl ⟨rfl,e,hu⟩)) hv)
   .rename_i kt e hu;simp only[bg] at hv;exact fin (UC hh (bW hH ht x) (.inr (.inr ⟨rfl,kt,e,hu⟩)) hv)
   .exact (dt hv).elim
  .split at hv
   .split at hv
    .simp [bg] at hv
    .exact (dt hv).elim
   .exact (dt hv).elim
  .simp only [bg] at hv;obtain⟨cs,dT⟩:=AJ (O:=O) (w:=w) (a:=a) ho;have hl:=D2 hH ht args.toList
   cases hx:dG tm (iH H args.toList) with
   | nil=>simp[hx] at hv
   | cons c r=>
    simp only[hx] at hv;rw[hx] at hl;simp only[aB] at hl;obtain⟨u,us,h1,h2,h3⟩:=hl;obtain⟨q,h4,h5⟩:=T9 (O:=O) (g:=Builtin.min2) (fun va vb v x y hx hy h=>ap6 hx hy h) r us c v u h2 h3 hv;refine⟨q,?_,h5⟩;rw[dT];simp[builtin,Builtin.min_,h1,h4]
  .simp only [bg] at hv;obtain⟨cs,dT⟩:=AJ (O:=O) (w:=w) (a:=a) ho;have hl:=D2 hH ht args.toList
   cases hx:dG tm (iH H args.toList) with
   | nil=>simp[hx] at hv
   | cons c r=>
    simp only[hx] at hv;rw[hx] at hl;simp only[aB] at hl;obtain⟨u,us,h1,h2,h3⟩:=hl;obtain⟨q,h4,h5⟩:=T9 (O:=O) (g:=Builtin.max2) (fun va vb v x y hx hy h=>ap7 hx hy h) r us c v u h2 h3 hv;refine⟨q,?_,h5⟩;rw[dT];simp[builtin,Builtin.max_,h1,h4]
  .rename_i ts' x eF;obtain⟨al⟩:=args;simp only at eF;subst eF;obtain⟨cs,dT⟩:=AJ (O:=O) (w:=w) (a:=a) ho;simp only[bg] at hv;have rx:=bW hH ht x;cases hx:ay tm (aJ H x)<;>rw[hx] at hv rx<;>simp only[me,reduceCtorEq,yc] at hv
   rename_i k0 p0 q0;subst hv;simp only[af] at rx;have e1:(#[x]:Array xt).map a.eval=#[Value.complex k0 p0 q0]:=by simp[rx]
   have e2:Builtin.real_ ts o.type #[Value.complex k0 p0 q0]=pure (.float k0 p0):=rfl;exact⟨.float k0 p0,by rw[dT,e1];simp[builtin,e2],by simp[af]⟩
  .rename_i ts' x eF;obtain⟨al⟩:=args;simp only at eF;subst eF;obtain⟨cs,dT⟩:=AJ (O:=O) (w:=w) (a:=a) ho;simp only[bg] at hv;have rx:=bW hH ht x;cases hx:ay tm (aJ H x)<;>rw[hx] at hv rx<;>simp only[me,reduceCtorEq,yc] at hv
   rename_i k0 p0 q0;subst hv;simp only[af] at rx;have e1:(#[x]:Array xt).map a.eval=#[Value.complex k0 p0 q0]:=by simp[rx]
   have e2:Builtin.imag_ ts o.type #[Value.complex k0 p0 q0]=pure (.float k0 q0):=rfl;exact⟨.float k0 q0,by rw[dT,e1];simp[builtin,e2],by simp[af]⟩
  .rename_i ts' x y eF;obtain⟨al⟩:=args;simp only at eF;subst eF;obtain⟨cs,dT⟩:=AJ (O:=O) (w:=w) (a:=a) ho;simp only[bg] at hv;have rx:=bW hH ht x;have ry:=bW hH ht y;cases hx:ay tm (aJ H x)<;>cases hy:ay tm (aJ H y)<;>rw[hx] at hv rx<;>rw[hy] at hv ry<;>simp only[aeI,reduceCtorEq] at hv
   rename_i k1 a1 k2 b1;simp only[af] at rx ry;by_cases hk:k1=k2
   .subst hk;simp only[xA,yc] at hv;subst hv;have e1:(#[x,y]:Array xt).map a.eval=#[Value.float k1 a1,Value.float k1 b1]:=by simp[rx,ry]
    have e2:Builtin.complex_ ts o.type #[Value.float k1 a1,Value.float k1 b1]=pure (.complex k1 a1 b1):=by
     show (if k1=k1 then _ else _)=_
     simp
    exact⟨.complex k1 a1 b1,by rw[dT,e1];simp[builtin,e2],by simp[af]⟩
   .simp [hk] at hv
  .exact (dt hv).elim
 .exact (dt hv).elim
def acV{o:yV}{k:Nat}{v:AV}(hH:fh O H)(ht:bV O m S w tm a.tmps)(hh:aS O m S w hp ct)(hv:bg tm hp (aP O.P H k o)=FL v):Reads O m S w a o v:=by
 cases ho:o.op with
 | call c=>exact alY hH ht hh ho hv
 | binOp op t x y ty=>exact anP hH ht ho hv
 | move x=>
  simp only[aP,ho,bg,yc] at hv;subst hv;exact⟨_,by simp only[execOp,ho,Sem.run_pure],bW hH ht x⟩
 | assign x=>
  simp only[aP,ho,bg,yc] at hv;subst hv;exact⟨_,by simp only[execOp,ho,Sem.run_pure],bW hH ht x⟩
 | pick c x y=>
  simp only[aP,ho,bg] at hv;have rc:=bW hH ht c;cases hc:ay tm (aJ H c)<;>rw[hc] at hv<;>simp only[reduceCtorEq] at hv
  rename_i b;rw[hc] at rc;simp only[af] at rc;simp only[yc] at hv;subst hv
  cases b with
  | true=>exact⟨a.eval x,by simp[execOp,ho,rc,asBool],bW hH ht x⟩
  | false=>exact⟨a.eval y,by simp[execOp,ho,rc,asBool],bW hH ht y⟩
 | load t x=>
  simp only[aP,ho] at hv
  split at hv
  .rename_i s ag hz ha;simp only[bg] at hv;exact kQ (by simp only[execOp,ho]) (awO hh hz ha (bW hH ht x) hv)
  .exact (dt hv).elim
 | fieldAddr t x i=>
  simp only[aP,ho] at hv
  split at hv
  .rename_i fs hu
   split at hv
   .rename_i f hf
    split at hv
    .rename_i s hz;simp only[bg] at hv;exact kQ (by simp only[execOp,ho]) (asD hu hf hz (bW hH ht x) hv)
    .exact (dt hv).elim
   .exact (dt hv).elim
  .exact (dt hv).elim
 | field t x i=>
  simp only[aP,ho] at hv
  split at hv
  .rename_i fs hu
   split at hv
   .rename_i f hf
    split at hv
    .rename_i s ag hz ha;simp only[bg] at hv;exact kQ (by simp only[execOp,ho]) (asE hu hf hz ha (bW hH ht x) hv)
    .exact (dt hv).elim
   .exact (dt hv).elim
  .exact (dt hv).elim
 | nilCheck x=>
  simp only[aP,ho,bg] at hv;have rx:=bW hH ht x;cases hx:ay tm (aJ H x)<;>rw[hx] at hv rx<;>simp only[reduceCtorEq,yc] at hv
  .subst hv;have r':=rx;simp only[af] at r';obtain⟨p,_,e⟩:=r';exact⟨a.eval x,by simp only[execOp,ho,e,Sem.run_pure],rx⟩
  .subst hv;have r':=rx;simp only[af] at r';obtain⟨b,o',e,_⟩:=r';exact⟨a.eval x,by simp only[execOp,ho,e,Sem.run_pure],rx⟩
  .subst hv;rename_i f _ _
   cases f with
   | f g=>
    have r':=rx;simp only[af] at r';obtain⟨fi,ca,e,_⟩:=r';exact⟨a.eval x,by simp only[execOp,ho,e,Sem.run_pure],rx⟩
   | y l=>
    have r':=rx;simp only[af] at r';obtain⟨p,_,e⟩:=r';exact⟨a.eval x,by simp only[execOp,ho,e,Sem.run_pure],rx⟩
 | unOp op t x=>
  simp only[aP,ho,bg] at hv;exact kQ (by simp only[execOp,ho]) (ap4 (bW hH ht x) hv)
 | convert s d x=>
  simp only[aP,ho] at hv
  split at hv
  .rename_i k1 k2 hs hd;simp only[bg] at hv;exact kQ (by simp only[execOp,ho]) (abE hd (.inl ⟨_,hs⟩) (bW hH ht x) hv)
  .rename_i k1 k2 hs hd;simp only[bg] at hv;exact kQ (by simp only[execOp,ho]) (abE hd (.inr ⟨_,hs⟩) (bW hH ht x) hv)
  .rename_i k1 k2 hs hd;simp only[bg] at hv;exact kQ (by simp only[execOp,ho]) (abF hd (.inl ⟨_,hs⟩) (bW hH ht x) hv)
  .rename_i k1 k2 hs hd;simp only[bg] at hv;exact kQ (by simp only[execOp,ho]) (abF hd (.inr ⟨_,hs⟩) (bW hH ht x) hv)
  .rename_i hs hd;simp only[bg] at hv;exact kQ (by simp only[execOp,ho]) (anJ hd hs (bW hH ht x) hv)
  .exact (dt hv).elim
 | makeFunc fn first cap=>
  cases fn with
  | func f=>
   simp only[aP,ho] at hv
   split at hv
   .rename_i g hg;simp only[bg,yc] at hv;subst hv;refine⟨.func (.func f) (first.map a.eval) (cap.map a.eval),by simp[execOp,ho,Instr.makeFunc],?_⟩;simp only[af];exact⟨_,_,by rw[hH f g hg],by simpa using D2 hH ht first.toList,by simpa using D2 hH ht cap.toList⟩
   .exact (dt hv).elim
  | _=>simp only[aP,ho] at hv;exact (dt hv).elim
 | slice t x lo hi mx=>
  cases mx with
  | some q=>simp only[aP,ho] at hv;exact (dt hv).elim
  | none=>
   simp only[aP,ho] at hv
   split at hv
   .rename_i hu;simp only[bg] at hv;exact kQ (by simp only[execOp,ho];rfl) (alX hH ht hu (bW hH ht x) hv)
   .rename_i e hu
    split at hv
    .rename_i s hz;simp only[bg] at hv;exact kQ (by simp only[execOp,ho];rfl) (anK hH ht hu hz hh (bW hH ht x) hv)
    .exact (dt hv).elim
   .rename_i n e hu
    split at hv
    .rename_i s hz;simp only[bg] at hv;exact kQ (by simp only[execOp,ho];rfl) (anL hH ht hu hz (bW hH ht x) hv)
    .exact (dt hv).elim
   .exact (dt hv).elim
 | indexAddr t x i=>
  simp only[aP,ho] at hv
  split at hv
  .rename_i e hu
   split at hv
   .rename_i s hz;simp only[bg] at hv
    cases hk:dH (ay tm (aJ H i)) with
    | none=>simp[hk] at hv
    | some j=>
     simp only[hk] at hv;exact kQ (by simp only[execOp,ho]) (asF hu hz (bW hH ht x) (bW hH ht i) hk hv)
   .exact (dt hv).elim
  .rename_i n e hu
   split at hv
   .rename_i s hz;simp only[bg] at hv
    cases hk:dH (ay tm (aJ H i)) with
    | none=>simp[hk] at hv
    | some j=>
     simp only[hk] at hv;exact kQ (by simp only[execOp,ho]) (asG hu hz (bW hH ht x) (bW hH ht i) hk hv)
   .exact (dt hv).elim
  .exact (dt hv).elim
 | index t x i=>
  simp only[aP,ho] at hv
  split at hv
  .rename_i hu;simp only[bg] at hv
   cases hk:dH (ay tm (aJ H i)) with
   | none=>simp[hk] at hv
   | some j=>
    simp only[hk] at hv;exact kQ (by simp only[execOp,ho]) (asI hu (bW hH ht x) (bW hH ht i) hk hv)
  .rename_i n e hu
   split at hv
   .rename_i s ag hz ha;simp only[bg] at hv
    cases hk:dH (ay tm (aJ H i)) with
    | none=>simp[hk] at hv
    | some j=>
     simp only[hk] at hv;exact kQ (by simp only[execOp,ho]) (asH hu hz ha (bW hH ht x) (bW hH ht i) hk hv)
   .exact (dt hv).elim
  .exact (dt hv).elim
 | lookup t x i ok=>
  simp only[aP,ho] at hv
  split at hv
  .rename_i kt e hu
   split at hv
   .rename_i kk z sO hz;simp only[bg] at hv
    cases hf:oS kk (ay tm (aJ H i)) with
    | false=>simp[hf] at hv
    | true=>
     simp only[hf,yx] at hv;obtain⟨zv,mW,rfl⟩:=F7 (w:=w) hz
     cases hr:CD hp (ay tm (aJ H i)) (ay tm (aJ H x)) with
     | none=>simp[hr] at hv
     | some r=>
      refine kQ (by simp only[execOp,ho]) (asJ (ok:=ok) (r:=r) (z:=eX zv) hh hu sO hf mW (bW hH ht x) (bW hH ht i) (Ok zv) hr ?_);cases r<;>simpa[hr] using hv
   .exact (dt hv).elim
  .exact (dt hv).elim
 | extract x i=>
  simp only[aP,ho,bg] at hv;have rx:=bW hH ht x;cases hx:ay tm (aJ H x)<;>rw[hx] at hv rx<;>simp only[reduceCtorEq] at hv
  simp only[af] at rx;obtain⟨xs,e,hr⟩:=rx;obtain⟨u,h1,h2⟩:=Tn hr hv;refine⟨u,?_,h2⟩;have E5:xs[i]? =FL u:=by simpa using h1
  simp[execOp,ho,e,Instr.extract,E5]
 | build t parts=>
  simp only[aP,ho] at hv
  split at hv
  .rename_i fs z hu hz
   split at hv
   .rename_i pl ayx;have nJ:=run_places (P:=O.P) w fs.toList pl ayx
    split at hv
    case h_2=>exact (dt hv).elim
    rename_i ps jc;simp only[bg] at hv
    cases hf:fill tm z ps with
    | none=>simp[hf] at hv
    | some cs=>
     simp only[hf,yc] at hv;subst hv;obtain⟨zv,mW,lc⟩:=F7 (w:=w) hz;have BE:aB O.ae m S w z zv.cells.toList:=by
      have:=DJ (ae:=O.ae) (m:=m) (S:=S) (w:=w) zv
      rw[<-lc] at this;exact this
     obtain⟨out,h1,h2⟩:=Om hH ht (place:=fun i=>pl[i]?) parts.toList ps z cs zv.cells jc BE hf;refine⟨.agg out,?_,by simp only[af];exact⟨out,rfl,h2⟩⟩
     have hm:(Array.mapM (fun f=>Functor.map (Prod.mk f.offset) (vB f.type)) fs:Sem (Array (Nat×Nat))).run O.P w=.ok pl.toArray w:=by
      rw[Array.mapM_eq_mapM_toList];simp[nJ]
     simp[execOp,ho,Instr.build,mW,run_underlying hu,hm,h1]
   .exact (dt hv).elim
  .rename_i n e z hu hz
   split at hv
   .rename_i s hs
    split at hv
    .rename_i ps jc;simp only[bg] at hv
     cases hf:fill tm z ps with
     | none=>simp[hf] at hv
     | some cs=>
      simp only[hf,yc] at hv;subst hv;obtain⟨zv,mW,lc⟩:=F7 (w:=w) hz;have BE:aB O.ae m S w z zv.cells.toList:=by
       have:=DJ (ae:=O.ae) (m:=m) (S:=S) (w:=w) zv
       rw[<-lc] at this;exact this
      obtain⟨out,h1,h2⟩:=Om hH ht (place:=fun i=>FL (i*s,s)) parts.toList ps z cs zv.cells jc BE hf;refine⟨.agg out,?_,by simp only[af];exact⟨out,rfl,h2⟩⟩
      simp[execOp,ho,Instr.build,mW,run_underlying hu,oO hs,h1]
    .exact (dt hv).elim
   .exact (dt hv).elim
  .exact (dt hv).elim
 | alloc t=>simp only[aP,ho] at hv;split at hv<;>simp[bg,bad] at hv
 | box t x=>simp only[aP,ho] at hv;split at hv<;>simp[bg,bad] at hv
 | buildSlice t n parts=>
  simp only[aP,ho] at hv
  split at hv
  .split at hv
   .rename_i s z _ _
    cases hc:yE (n*s) 16777216 with
    | false=>rw[hc] at hv;exact (dt hv).elim
    | true=>
     rw[hc] at hv;simp only[yx] at hv
     split at hv
     .simp [bg] at hv
     .exact (dt hv).elim
   .exact (dt hv).elim
  .exact (dt hv).elim
 | makeMap t r=>
  cases r<;>simp only[aP,ho] at hv
  .repeat' split at hv
   all_goals simp[bg,bad] at hv
  .exact (dt hv).elim
 | makeSlice t l c=>
  simp only[aP,ho] at hv
  repeat' split at hv
  all_goals simp[bg,bad] at hv
 | insert t x k y=>
  simp only[aP,ho] at hv
  repeat' split at hv
  all_goals simp[bg,bad] at hv
 | mapUpdate t x k y=>
  simp only[aP,ho] at hv
  repeat' split at hv
  all_goals simp[bg,bad] at hv
 | store t x y=>simp only[aP,ho] at hv;split at hv<;>simp[bg,bad] at hv
 | range t x=>simp only[aP,ho] at hv;split at hv<;>simp[bg,bad] at hv
 | next x b=>cases b<;>simp[aP,ho,bg,bad] at hv
 | _=>simp[aP,ho,bg,bad] at hv
end
end
section
open Go
def fL(m:Mp)(id:Nat)(p:Pl):Mp:=fun i=>if i=id then FL p else m i
def dE{m:Mp}{id:Nat}{p:Pl}:fL m id p id=FL p:=by simp[fL]
def ep{m:Mp}{id i:Nat}{p:Pl}(h:i≠id):fL m id p i=m i:=by simp[fL,h]
section
variable {O:bA}{m:Mp}{S:Nat->Prop}{w:yj}{hp:Hp}{ct:Nat}
def dh(m m':Mp):Prop:=∀id p,m id=FL p->m' id=FL p
def dh.refl{m:Mp}:dh m m:=fun _ _ h=>h
def dh.trans{m m' Mc:Mp}(h:dh m m')(k:dh m' Mc):dh m Mc:=fun id p hp=>k id p (h id p hp)
def jF{i:Nat}(h:m i=FM){p:Pl}:dh m (fL m i p):=by
 intro id q hq;rw[ep]
 .grind
 .grind
def B8{tm:Env}{tmps:Array yh}{m':Mp}{S':Nat->Prop}{w':yj}(hm:∀id p,m id=FL p->m' id=FL p)(hS:∀b,S b->S' b)(hw:fY S w w')(h:bV O m S w tm tmps):bV O m' S' w' tm tmps:=fun i=>mB hm hS hw _ _ (h i)
def alloc_old{o:yal}{b:Nat}(hb:b<w.heap.size):(w.alloc o).heap[b]? =w.heap[b]? :=RowKit.Below.heap_alloc w o b hb
def zn{m':Mp}{S':Nat->Prop}{w':yj}{id:Nat}{o:Obj}(hm:∀id p,m id=FL p->m' id=FL p)(hS:∀b,S b->S' b)(hw:fY S w w')(hb:∀p,m id=FL p->w'.heap[p.b]? =w.heap[p.b]?)(hn:∀p,m id=FL p->S' p.b->S p.b)(h:fk O m S w id o):fk O m' S' w' id o:=by
 have rowAt:∀(cs:List AV) (b k:Nat),w'.heap[b]? =w.heap[b]? ->bU O.ae m S w cs b k->bU O.ae m' S' w' cs b k:=by
  intro cs
  induction cs with
  | nil=>intro b k _ _;simp only[bU]
  | cons c cs ih=>
   intro b k Aj hr;have⟨⟨u,h1,h2⟩,h3⟩:=hr;exact⟨⟨u,(Ng Aj).trans h1,mB hm hS hw _ _ h2⟩,ih b (k+1) Aj h3⟩
 cases o with
 | cells rw pu ex sz cs=>
  have⟨p,arr,t,h1,h2,h3,h4,h5,h6,h7,h8,h9,iM⟩:=h;exact⟨p,arr,t,hm _ _ h1,(hb p h1).trans h2,h3,h4,h5,h6,rowAt cs p.b p.o (hb p h1) h7,h8,fun hr hs=>h9 hr (hn p h1 hs),fun hr=>hS _ (iM hr)⟩
 | mp rw ks vs=>
  have⟨p,es,clock,h1,h2,h3,h4,h5,h6⟩:=h;exact⟨p,es,clock,hm _ _ h1,(hb p h1).trans h2,ir hm hS hw _ _ h3,ir hm hS hw _ _ h4,fun hr hs=>h5 hr (hn p h1 hs),fun hr=>hS _ (h6 hr)⟩
 | si s pos=>
  have⟨p,t,h1,h2,h3,h4⟩:=h;exact⟨p,t,hm _ _ h1,(hb p h1).trans h2,h3,fun hs=>h4 (hn p h1 hs)⟩
 | lp tm ps as_ body st pe=>
  have⟨p,l,hi,h1,h2,h3,h4,h5,h6,h7,h8⟩:=h;exact⟨p,l,hi,hm _ _ h1,(hb p h1).trans h2,fun hs=>h3 (hn p h1 hs),h4,h5,h6,B8 hm hS hw h7,h8⟩
def fH{id i:Nat}{o:Obj}:ak ((id,o)::hp) i=if id=i then FL o else ak hp i:=by
 simp only[ak]
 simp_all
def I9(hh:aS O m S w hp ct)(g:yal):fY S w (w.alloc g):=fun b hb=>alloc_old (hh.slt b hb)
def jA:Obj->Obj->Prop
 | .cells rw pu ex sz cs,o'=>∃da,o'=.cells da pu ex sz cs/\(da=ycZ->rw=ycZ)
 | .mp rw ks vs,o'=>∃da,o'=.mp da ks vs/\(da=ycZ->rw=ycZ)
 | .si s pos,o'=>o'=.si s pos
 | .lp tm ps as_ body st pe,o'=>o'=.lp tm ps as_ body st pe
def jA.refl:∀o,jA o o
 | .cells rw _ _ _ _=>⟨rw,rfl,fun h=>h⟩
 | .mp rw _ _=>⟨rw,rfl,fun h=>h⟩
 | .si _ _=>rfl
 | .lp _ _ _ _ _ _=>rfl
def jA.trans{a b c:Obj}(h:jA a b)(k:jA b c):jA a c:=by
 cases a with
 | cells rw pu ex sz cs=>
  obtain⟨r1,rfl,h1⟩:=h;obtain⟨r2,rfl,h2⟩:=k;exact⟨r2,rfl,fun h=>h1 (h2 h)⟩
 | mp rw ks vs=>
  obtain⟨r1,rfl,h1⟩:=h;obtain⟨r2,rfl,h2⟩:=k;exact⟨r2,rfl,fun h=>h1 (h2 h)⟩
 | si s pos=>simp only[jA] at h;subst h;exact k
 | lp tm ps as_ body st pe=>simp only[jA] at h;subst h;exact k
def cR(hp an:Hp):Prop:=∀id o,ak hp id=FL o->∃o',ak an id=FL o'/\jA o o'
def cR.refl{hp:Hp}:cR hp hp:=fun _ o h=>⟨o,h,jA.refl o⟩
def cR.trans{a b c:Hp}(h:cR a b)(k:cR b c):cR a c:=fun id o ho=>
 let ⟨o1,h1,l1⟩:=h id o ho
 let ⟨o2,h2,l2⟩:=k id o1 h1
 ⟨o2,h2,l1.trans l2⟩
def jj:Obj->Prop
 | .cells rw _ _ _ _=>rw=yda
 | .mp rw _ _=>rw=yda
 | _=>False
def acW{an:Hp}{aU:Nat}(hh:aS O m S w hp ct)(hl:cR hp an)(hd:∀id o p,ak an id=FL o->m id=FL p->∃o',ak hp id=FL o')(fw:ct<=aU)(ayy:∀id o,ak an id=FL o->id<aU):
  ∃S',aS O m S' w an aU/\(∀b,S b->S' b)/\∀b,S' b->S b\/ef m hp b:=by
 refine⟨fun b=>S b\/∃id p o,m id=FL p/\p.b=b/\ak an id=FL o/\jj o,?_,fun b h=>.inl h,?_⟩
 .refine ⟨?_,fun id p h=>yP (hh.lt id p h) fw,?_,?_,hh.blt,hh.low,hh.mM,hh.gi,ayy⟩
  .intro id o' p jz hm;have⟨o,ho⟩:=hd id o' p jz hm;have⟨XL,h1,h2⟩:=hl id o ho;rw[jz] at h1;injection h1 with h1
   subst h1;have h3:=hh.obj id o p ho hm;have hS:∀b,S b->(S b\/∃id p o,m id=FL p/\p.b=b/\ak an id=FL o/\jj o):=fun b h=>.inl h
   have kF:∀q,m id=FL q->(∃id p o,m id=FL p/\p.b=q.b/\ak an id=FL o/\jj o)->jj o':=by
    rintro q hq ⟨j,pj,oj,Mf,hj2,hj3,hj4⟩;have⟨Mg,hj5⟩:=hd j oj pj hj3 Mf
    have:=hh.inj id j o Mg q pj ho hj5 hq Mf hj2.symm
    grind
   have aM:fY S w w:=fun _ _=>rfl
   cases o with
   | cells rw pu ex sz cs=>
    obtain⟨da,rfl,mX⟩:=h2;have⟨q,arr,t,h1,h2,h3,h4,h5,h6,h7,h8,h9,iM⟩:=h3;refine⟨q,arr,t,h1,h2,h3,h4,h5,h6,?_,h8,?_,?_⟩
    .clear h4 h6 h8;revert h7;generalize q.o=k
     induction cs generalizing k with
     | nil=>intro _;simp only[bU]
     | cons c cs ih=>
      intro hr;simp only[bU] at hr ⊢;have⟨⟨u,g1,g2⟩,g3⟩:=hr
      exact⟨⟨u,g1,mB (fun _ _ h=>h) hS aM _ _ g2⟩,by
       have BB:∀(cs:List AV) (b k:Nat),bU O.ae m S w cs b k->bU O.ae m (fun b=>S b\/∃id p o,m id=FL p/\p.b=b/\ak an id=FL o/\jj o) w cs b k:=by
        intro cs
        induction cs with
        | nil=>intro b k _;simp only[bU]
        | cons c cs ih=>
         intro b k hr;simp only[bU] at hr ⊢;have⟨⟨u,g1,g2⟩,g3⟩:=hr;exact⟨⟨u,g1,mB (fun _ _ h=>h) hS aM _ _ g2⟩,ih b (k+1) g3⟩
       exact BB _ _ _ g3⟩
    .rintro hr (hs | hs)
     .grind
     .have:=kF q h1 hs
      simp only[jj] at this
      grind
    .intro hr;exact .inr ⟨id,q,_,h1,rfl,jz,hr⟩
   | mp rw ks vs=>
    obtain⟨da,rfl,mX⟩:=h2;have⟨q,es,clock,h1,h2,h3,h4,h5,h6⟩:=h3;refine⟨q,es,clock,h1,h2,ir (fun _ _ h=>h) hS aM _ _ h3,ir (fun _ _ h=>h) hS aM _ _ h4,?_,?_⟩
    .rintro hr (hs | hs)
     .grind
     .have:=kF q h1 hs
      simp only[jj] at this
      grind
    .intro hr;exact .inr ⟨id,q,_,h1,rfl,jz,hr⟩
   | si s pos=>
    simp only[jA] at h2;subst h2;refine zn (fun _ _ h=>h) hS aM (fun _ _=>rfl) (fun q hq hs=>?_) h3;rcases hs with hs | hs
    .grind
    .exact (kF q hq hs).elim
   | lp tm ps as_ body st pe=>
    simp only[jA] at h2;subst h2;refine zn (fun _ _ h=>h) hS aM (fun _ _=>rfl) (fun q hq hs=>?_) h3;rcases hs with hs | hs
    .grind
    .exact (kF q hq hs).elim
  .intro i j oi oj pi pj hi hj bK gN e;have⟨Mh,cL⟩:=hd i oi pi hi bK;have⟨Mg,XM⟩:=hd j oj pj hj gN;exact hh.inj i j Mh Mg pi pj cL XM bK gN e
  .rintro b (hb | ⟨id,p,o,h1,rfl,_,_⟩)
   .exact hh.slt b hb
   .exact hh.blt id p h1
 .rintro b (hb | ⟨id,p,o,h1,rfl,h3,_⟩)
  .exact .inl hb
  .have ⟨o',jz⟩:=hd id o p h3 h1;exact .inr ⟨id,o',p,jz,h1,rfl⟩
def Tp{i:Nat}(hh:aS O m S w hp ct)(hi:m i=FM)(HC:i<ct){g:yal}{p:Pl}(hb:p.b=w.heap.size)(hf:∀o,ak hp i=FL o->(fk O (fL m i p) S (w.alloc g) i o/\¬jj o)\/
   (jj o/\fk O (fL m i p) (fun b=>S b\/b=w.heap.size) (w.alloc g) i o)):
  ∃S',aS O (fL m i p) S' (w.alloc g) hp ct/\(∀b,S b->S' b)/\∀b,S' b->S b\/b=w.heap.size:=by
 have eG:(w.alloc g).heap.size=w.heap.size+1:=by simp
 have bc:O.w0.heap.size<=w.heap.size:=hh.gi;have gen:∀S':Nat->Prop,(∀b,S b->S' b)->(∀b,S' b->S b\/b=w.heap.size)->(∀o,ak hp i=FL o->fk O (fL m i p) S' (w.alloc g) i o)->aS O (fL m i p) S' (w.alloc g) hp ct:=by
  intro S' h1 h2 h3;have Mi:∀id q,m id=FL q->¬q.b=w.heap.size:=fun id q hq=>by have:=hh.blt id q hq;lia
  refine⟨?_,?_,?_,?_,?_,?_,?_,?_,hh.aH⟩
  .intro id o q ho hm;by_cases hc:id=i
   .grind
   .rw [ep hc] at hm;refine zn (jF hi) h1 (I9 hh g) (fun q' bO=>alloc_old (hh.blt id q' bO)) (fun q' bO hs=>?_) (hh.obj id o q ho hm)
    grind
  .intro id q hm;by_cases hc:id=i
   .grind
   .rw [ep hc] at hm;exact hh.lt id q hm
  .intro a b oa ob pa pb ha bG E6 Bi e;by_cases ca:a=i
   .by_cases cb:b=i
    .grind
    .subst ca;rw[dE] at E6;rw[ep cb] at Bi
     grind
   .rw [ep ca] at E6;by_cases cb:b=i
    .subst cb;rw[dE] at Bi
     grind
    .rw [ep cb] at Bi;exact hh.inj a b oa ob pa pb ha bG E6 Bi e
  .intro b hs;rcases h2 b hs with h | h
   .have:=hh.slt b h;lia
   .lia
  .intro id q hm;by_cases hc:id=i
   .subst hc;rw[dE] at hm
    grind
   .rw [ep hc] at hm
    have:=hh.blt id q hm
    lia
  .intro id q hm;by_cases hc:id=i
   .subst hc;rw[dE] at hm
    grind
   .rw [ep hc] at hm;exact hh.low id q hm
  .intro b Aj;exact (alloc_old (by lia)).trans (hh.mM b Aj)
  .lia
 cases ho:ak hp i with
 | none=>exact⟨S,gen S (fun _ h=>h) (fun _ h=>.inl h) (fun o h=>by rw[ho] at h;cases h),fun _ h=>h,fun _ h=>.inl h⟩
 | some o=>
  rcases hf o ho with ⟨h1,_⟩ | ⟨_,h1⟩
  .exact ⟨S,gen S (fun _ h=>h) (fun _ h=>.inl h) (fun o' h=>by rw[ho] at h;injection h with h;subst h;exact h1),fun _ h=>h,fun _ h=>.inl h⟩
  .exact ⟨_,gen (fun b=>S b\/b=w.heap.size) (fun _ h=>.inl h) (fun _ h=>h) (fun o' h=>by rw[ho] at h;injection h with h;subst h;exact h1),fun _ h=>.inl h,fun _ h=>h⟩
def Sn{id:Nat}{o o':Obj}{p:Pl}(hl:jA o o')(hm:m id=FL p)(h:fk O m S w id o)(hn:¬jj o):
  (fk O m S w id o'/\¬jj o')\/(jj o'/\fk O m (fun b=>S b\/b=p.b) w id o'):=by
 have hS:∀b,S b->(S b\/b=p.b):=fun _ h=>.inl h
 have aM:fY S w w:=fun _ _=>rfl
 cases o with
 | cells rw pu ex sz cs=>
  obtain⟨da,rfl,mX⟩:=hl
  cases da with
  | true=>
   grind
  | false=>
   refine .inr ⟨rfl,?_⟩;have⟨q,arr,t,h1,h2,h3,h4,h5,h6,h7,h8,h9,iM⟩:=h;rw[hm] at h1;injection h1 with h1
   subst h1;have BB:∀(cs:List AV) (b k:Nat),bU O.ae m S w cs b k->bU O.ae m (fun b=>S b\/b=p.b) w cs b k:=by
    intro cs
    induction cs with
    | nil=>intro b k _;simp only[bU]
    | cons c cs ih=>
     intro b k hr;have⟨⟨u,g1,g2⟩,g3⟩:=hr;exact⟨⟨u,g1,mB (fun _ _ h=>h) hS aM _ _ g2⟩,ih b (k+1) g3⟩
   exact⟨p,arr,t,hm,h2,h3,h4,h5,h6,BB _ _ _ h7,h8,by simp,fun _=>.inr rfl⟩
 | mp rw ks vs=>
  obtain⟨da,rfl,mX⟩:=hl
  cases da with
  | true=>
   grind
  | false=>
   refine .inr ⟨rfl,?_⟩;have⟨q,es,clock,h1,h2,h3,h4,h5,h6⟩:=h;rw[hm] at h1;injection h1 with h1
   subst h1;exact⟨p,es,clock,hm,h2,ir (fun _ _ h=>h) hS aM _ _ h3,ir (fun _ _ h=>h) hS aM _ _ h4,by simp,fun _=>.inr rfl⟩
 | si s pos=>simp only[jA] at hl;subst hl;exact .inl ⟨h,hn⟩
 | lp tm ps as_ body st pe=>simp only[jA] at hl;subst hl;exact .inl ⟨h,hn⟩
end
end
section
open Go
section
variable {v:AV}{arr:Array yh}{cs:List AV}{sz:Nat}{b:Obj}
section
variable {O:bA}{H:Hint}{m:Mp}{S:Nat->Prop}{w:yj}{tm:Env}{a:Act}{hp:Hp}{ct cq:Nat}
def NH{ae:Nat->Nat}{b:Nat}{arr:Array yh}{t:yA}{fr:Nat×Nat}(hb:w.heap[b]? =FL (.cells arr t fr)):∀(cs:List AV) (us:List yh) (o:Nat),
  aB ae m S w cs us->(∀(j:Nat) (u:yh),us[j]? =FL u->arr[o+j]? =FL u)->bU ae m S w cs b o
 | [],us,o,_,_=>by simp only[bU]
 | c::cs,us,o,h,hu=>by
  simp only[aB] at h;obtain⟨u,r,rfl,h2,h3⟩:=h;simp only[bU];refine⟨⟨u,?_,h2⟩,NH hb cs r (o+1) h3 (fun j v hv=>?_)⟩
  .have:=hu 0 u (by simp)
   simpa[World.cell?,hb] using this
  .have:=hu (j+1) v (by simpa using hv)
   rw[show o+1+j=o+(j+1) by lia];exact this
def ap8(hh:aS O m S w hp cq){i:Nat}{t:yA}{us:List yh}{pu ex:Bool}(hr:aB O.ae m S w cs us)(hu:∀(j:Nat) (u:yh),us[j]? =FL u->arr[j]? =FL u)(hl:cs.length<=arr.size)(hex:ex=ycZ->cs.length=arr.size)(ic:pu=ycZ->aG cs=ycZ)(m':Mp)(hm:dh m m')(hi:m' i=FL ⟨w.heap.size,0,arr.size,sz⟩):fk O m' S (w.alloc (.cells arr t)) i (.cells ycZ pu ex sz cs):=by
 refine⟨⟨w.heap.size,0,arr.size,sz⟩,arr,t,hi,heap_alloc_new w _,rfl,hl,by simp,hex,?_,ic,?_,by simp⟩
 .exact NH (heap_alloc_new w _) cs us 0 (ir hm (fun _ h=>h) (I9 hh _) _ _ hr) (by simpa using hu)
 .intro _ hS
  have:=hh.slt _ hS
  simp at this
def Es(O:bA)(m:Mp)(S:Nat->Prop)(w:yj)(a:Act)(ct:Nat)(o:yV)(v:AV)(b:Obj):Prop:=
 ∃u g p,(execOp a.eval o).run O.P w=.ok (.value u) (w.alloc g)/\p.b=w.heap.size/\¬jj b/\
  ∀m',dh m m'->m' ct=FL p->fk O m' S (w.alloc g) ct b/\af O.ae m' S (w.alloc g) v u
def SS{o:yV}{t:yA}{us:List yh}{pu ex:Bool}{u:yh}(hh:aS O m S w hp cq)(he:(execOp a.eval o).run O.P w=.ok (.value u) (w.alloc (.cells arr t)))(hr:aB O.ae m S w cs us)(hu:∀(j:Nat) (u:yh),us[j]? =FL u->arr[j]? =FL u)(hl:cs.length<=arr.size)(hex:ex=ycZ->cs.length=arr.size)(ic:pu=ycZ->aG cs=ycZ)(hv:∀m':Mp,m' ct=FL ⟨w.heap.size,0,arr.size,sz⟩->af O.ae m' S (w.alloc (.cells arr t)) v u):Es O m S w a ct o v (.cells ycZ pu ex sz cs):=
 ⟨u,_,⟨w.heap.size,0,arr.size,sz⟩,he,rfl,by simp[jj],fun m' hm hi=>⟨ap8 hh hr hu hl hex ic m' hm hi,hv m' hi⟩⟩
def abG{o:yV}{t:yA}{x:yh}{vx:AV}(hh:aS O m S w hp cq)(he:(execOp a.eval o).run O.P w=.ok (.value (.pointer (FL ⟨w.heap.size,0,FM⟩))) (w.alloc (.cells x.cells t)))(hx:aB O.ae m S w (cellsOf vx) x.cells.toList)(hv:(bif yq (cellsOf vx).length sz&&cd (cellsOf vx) then FL (AV.ptr ct 0,Obj.cells ycZ (aG (cellsOf vx)) ycZ sz (cellsOf vx)) else FM)=FL (v,b)):Es O m S w a ct o v b:=by
 cases hc:(yq (cellsOf vx).length sz&&cd (cellsOf vx)) with
 | false=>rw[hc] at hv;cases hv
 | true=>
  rw[hc] at hv;obtain⟨rfl,rfl⟩:=hv;have hlen:=gU _ _ hx;refine SS hh he hx (fun j u hj=>by simpa using hj) (by rw[<-hlen];simp) (fun _=>by rw[<-hlen];simp) (fun h=>h) (fun m' hi=>?_)
  simp only[af];exact⟨_,hi,by simp⟩
def anQ{o:yV}{t:yA}{r:Option xt}(hh:aS O m S w hp cq)(ho:o.op=.makeMap t r)(hr:r=FM):Es O m S w a ct o (.map ct) (.mp ycZ [] []):=by
 subst hr;refine⟨.map (FL w.heap.size),.map #[] 0,⟨w.heap.size,0,0,0⟩,by simp[execOp,ho,Instr.makeMap],rfl,by simp[jj],fun m' _ hi=>⟨?_,?_⟩⟩
 .refine ⟨_,#[],0,hi,heap_alloc_new w _,by simp[aB],by simp[aB],?_,by simp⟩;intro _ hS
  have:=hh.slt _ hS
  simp at this
 .simp only [af];exact⟨_,hi,rfl⟩
def alZ{o:yV}{t:yA}{x:xt}{s:List Nat}(hh:aS O m S w hp cq)(ho:o.op=.range t x)(hu:O.P.underlying t=FL .string)(hx:af O.ae m S w (.str s) (a.eval x)):
  Es O m S w a ct o (.it ct) (.si s 0):=by
 obtain⟨b,e,rfl⟩:=hx;refine⟨.pointer (FL ⟨w.heap.size,0,FM⟩),.stringIter b 0,⟨w.heap.size,0,0,0⟩,by simp[execOp,ho,Instr.range,run_underlying hu,e],rfl,by simp[jj],fun m' _ hi=>⟨?_,?_⟩⟩
 .refine ⟨_,b,hi,heap_alloc_new w _,rfl,?_⟩;intro hS
  have:=hh.slt _ hS
  simp at this
 .simp only [af];exact⟨_,hi,rfl⟩
end
def al0(zero:Array yh):(xx zero.size).map (fun j=>zero[j]!)=zero.toList:=by
 apply List.ext_getElem
 .simp
 .grind
def Z5(zero:Array yh):∀n:Nat,(xx (n*zero.size)).map (fun i=>zero[i%zero.size]!)=(yF n zero.toList).flatten
 | 0=>by simp
 | n+1=>by
  rw[xH,uR,List.range_add,List.map_append,Z5 zero n,List.replicate_succ',yaV]
  congr 1
  simp only[List.map_map,ta,List.flatten_nil,List.append_nil];rw[<-al0 zero];apply List.map_congr_left;intro j hj;simp at hj;simp[Function.comp,xn n,Nat.mod_eq_of_lt hj]
def Tq{ae:Nat->Nat}{m:Mp}{S:Nat->Prop}{w:yj}{cs:List AV}{us:List yh}(h:aB ae m S w cs us):∀n,aB ae m S w (yF n cs).flatten (yF n us).flatten
 | 0=>by simp[aB]
 | n+1=>by rw[wN,wN,ta,ta];exact mz h (Tq h n)
section
variable {O:bA}{H:Hint}{m:Mp}{S:Nat->Prop}{w:yj}{tm:Env}{a:Act}{hp:Hp}{ct cq:Nat}
def aaM(zero:Array yh)(n:Nat):(Array.map (fun i=>zero[i%zero.size]!) (tG (n*zero.size))).toList=(yF n zero.toList).flatten:=by
 rw[<-Z5 zero n]
 simp
def abH(tm:Env):∀(ps:List (Nat×Nat×X)) (zero cs:List AV),fill tm zero ps=FL cs->cs.length=zero.length
 | [],zero,cs,h=>by simp only[fill,yc] at h;rw[h]
 | (o,sz,x)::r,zero,cs,h=>by
  simp only[fill] at h
  cases hc:(yq (cellsOf (ay tm x)).length sz&&yE (o+sz) zero.length&&cd (cellsOf (ay tm x))) with
  | false=>rw[hc] at h;cases h
  | true=>
   rw[hc] at h;simp only[yf] at hc;have h1:=yg hc.1.1;have h2:=yv hc.1.2;rw[abH tm r _ _ h];simp only[over,yN,yT,xY]
   lia
def NW{α:Type}(l:List α):∀n,(yF n l).flatten.length=n*l.length
 | 0=>by simp
 | n+1=>by simp[wN,NW l n,xH,Nat.add_comm]
def al1{o:yV}{t e:yA}{n s:Nat}{z:AV}{parts:Array (Nat×xt)}{ps:List (Nat×Nat×X)}(hH:fh O H)(ht:bV O m S w tm a.tmps)(hh:aS O m S w hp cq)(ho:o.op=.buildSlice t n parts)(hu:O.P.underlying t=FL (.slice e))(hs:cu O.P e=FL s)(hz:mK O.P e=FL z)(hn:n*s<=16777216)(jc:partsOf H (fun i=>FL (i*s,s)) parts.toList=FL ps)(hv:cK tm hp ct (.jo n s (yF n (cellsOf z)).flatten ps)=FL (v,b)):Es O m S w a ct o v b:=by
 simp only[cK] at hv
 cases hf:fill tm (yF n (cellsOf z)).flatten ps with
 | none=>simp[hf] at hv
 | some cs=>
  simp only[hf] at hv
  cases hc:yq cs.length (n*s) with
  | false=>rw[hc] at hv;cases hv
  | true=>
   rw[hc] at hv;simp only[yx,yc,yo] at hv;obtain⟨rfl,rfl⟩:=hv;have hlen:=yg hc;obtain⟨zv,mW,rfl⟩:=F7 (w:=w) hz;have BE:aB O.ae m S w (cellsOf (eX zv)) zv.cells.toList:=DJ zv;have sR:=gU _ _ BE;have Ak:=abH tm ps _ _ hf;rw[NW] at Ak;have HE:n*s=n*zv.cells.size:=by
    rw[<-hlen,Ak,<-sR];simp
   have key:∃zr:Array yh,(n*s=0->zr=#[])/\(n*s≠0->zr=zv.cells)/\aB O.ae m S w (yF n (cellsOf (eX zv))).flatten ((tG (n*s)).map (fun x=>zr[x%zr.size]!)).toList:=by
    by_cases h0:n*s=0
    .refine ⟨#[],fun _=>rfl,fun h=>(h h0).elim,?_⟩
     have:(yF n (cellsOf (eX zv))).flatten=[]:=by
      apply yL;rw[NW,<-sR];simp only[vG]
      lia
     rw[this];simp[aB,h0]
    .refine ⟨zv.cells,fun h=>(h0 h).elim,fun _=>rfl,?_⟩;rw[HE,aaM];exact Tq BE n
   have⟨zr,E7,lf,sS⟩:=key;have⟨out,h1,h2⟩:=Om hH ht (place:=fun i=>FL (i*s,s)) parts.toList ps _ cs _ jc sS hf;have sM:=gU _ _ h2
   refine SS (arr:=out) (t:=e) (us:=out.toList) hh ?_ h2 (fun j u hj=>by simpa using hj) (by rw[<-sM];simp) (fun _=>by rw[<-sM];simp) (fun h=>h) (u:=.slice (FL ⟨w.heap.size,0,FM⟩) n n) ?_
   .have jB:¬(n*s>2^24):=by lia
    by_cases h0:n*s=0
    .have:=E7 h0
     subst this;simp only[h0] at h1;simp[execOp,ho,Instr.buildSlice,run_underlying hu,oO hs,h0,newRow] at h1 ⊢;simp[h1]
    .have:=lf h0
     subst this;simp[execOp,ho,Instr.buildSlice,run_underlying hu,oO hs,h0,jB,mW,newRow] at h1 ⊢;simp[h1]
   .intro m' hi;simp only[af];refine⟨_,n,hi,by simp,yu _,?_⟩;simp only[yd];rw[<-hlen,<-sM];simp
def DK:∀{a b:List AV},aG a=ycZ->aG b=ycZ->aG (a++b)=ycZ
 | [],_,_,h=>h
 | c::r,b,h,k=>by
  simp only[aG,yf] at h;simp only[ym,aG,yf];exact⟨h.1,DK h.2 k⟩
def aaN{z:List AV}(h:aG z=ycZ):∀n,aG (yF n z).flatten=ycZ
 | 0=>by simp[aG]
 | n+1=>by rw[wN,ta];exact DK h (aaN h n)
def anR{o:yV}{t e:yA}{s by':Nat}{z:AV}{l c:xt}(hH:fh O H)(ht:bV O m S w tm a.tmps)(hh:aS O m S w hp cq)(ho:o.op=.makeSlice t l c)(hu:O.P.underlying t=FL (.slice e))(hs:cu O.P e=FL s)(hb:Ad O.P e=FL by')(hz:mK O.P e=FL z)(hv:cK tm hp ct (.pK s by' (cellsOf z) (aJ H l) (aJ H c))=FL (v,b)):Es O m S w a ct o v b:=by
 simp only[cK] at hv
 cases hl:dH (ay tm (aJ H l)) with
 | none=>simp[hl] at hv
 | some ln=>
  cases hc:dH (ay tm (aJ H c)) with
  | none=>simp[hl,hc] at hv
  | some cn=>
   simp only[hl,hc] at hv
   cases hk:(yE ln cn&&(yE cn room&&(yE (cn*by') room&&(yq (cellsOf z).length s&&cd (cellsOf z))))) with
   | false=>rw[hk] at hv;cases hv
   | true=>
    rw[hk] at hv;simp only[yx,yc,yo] at hv;obtain⟨rfl,rfl⟩:=hv;simp only[yf] at hk;have h1:=yv hk.1;have h2:=yv hk.2.1;have h3:=yv hk.2.2.1;have h4:=yg hk.2.2.2.1;simp only[room] at h2 h3;have⟨kl,el⟩:=AS (bW hH ht l) hl;have⟨kc,ec⟩:=AS (bW hH ht c) hc;obtain⟨zv,mW,rfl⟩:=F7 (w:=w) hz;have BE:aB O.ae m S w (cellsOf (eX zv)) zv.cells.toList:=DJ zv;have sR:=gU _ _ BE;have E8:zv.cells.size=s:=by rw[<-h4,<-sR];simp
    have wrapN:∀k:Nat,k<=1099511627776->IntKind.i64.wrap (k:Int)=k:=fun k hk=>IntWalk.i64_in _ (by lia)
    obtain⟨ti,sT,eG,XN⟩:∃ti,O.P.info? e=FL ti/\ti.size=s/\ti.bytes=by':=by
     unfold cu at hs;unfold Ad at hb
     cases hi:O.P.info? e with
     | none=>simp[hi] at hs
     | some ti=>simp only[hi,yc] at hs hb;exact⟨ti,rfl,hs,hb⟩
    have EE:((tG (cn*s)).map (zv.cells[·%zv.cells.size]!)).toList=(yF ln zv.cells.toList).flatten++(yF (cn-ln) zv.cells.toList).flatten:=by
     rw[<-E8,aaM,<-yaV,List.replicate_append_replicate]
     grind
    have gM:(yF ln (cellsOf (eX zv))).flatten.length=ln*s:=by rw[NW,h4]
    have hmul:ln*s<=cn*s:=yI _ h1
    refine SS (arr:=(tG (cn*s)).map (zv.cells[·%zv.cells.size]!)) (t:=e) (us:=(yF ln zv.cells.toList).flatten) hh (u:=.slice (FL ⟨w.heap.size,0,FM⟩) ln cn) ?_
     (Tq BE ln) ?_ ?_ ?_ (fun h=>?_) ?_
    .have aEL:by'*cn<=1099511627776:=by rw[xn];exact h3
     have sU:((by'*cn:Nat):Int)<=1099511627776:=by lia
     rw[Int.natCast_mul] at sU;have hlc:(ln:Int)<=(cn:Int):=by lia
     have g1:¬(281474976710656<(by':Int)*(cn:Int)):=by lia
     have g2:¬(((ln:Int)<0)):=by lia
     have g3:¬(((cn:Int)<0)):=by lia
     have g4:¬((ln:Int)>(cn:Int)):=by lia
     by_cases h0:cn*s=0
     .simp [execOp,ho,Instr.makeSlice,run_underlying hu,el,ec,asInt,asIntOf,typeInfo,sT,XN,wrapN ln (by lia),wrapN cn h2,g1,g2,g3,g4,oO hs,h0,newRow,askRoom,roomBytes]
      grind
     .simp [execOp,ho,Instr.makeSlice,run_underlying hu,el,ec,asInt,asIntOf,typeInfo,sT,XN,wrapN ln (by lia),wrapN cn h2,g1,g2,g3,g4,oO hs,h0,newRow,askRoom,roomBytes,mW]
    .intro j u hj
     have:((tG (cn*s)).map (zv.cells[·%zv.cells.size]!)).toList[j]? =FL u:=by
      grind
     grind
    .grind
    .simp_all
    .exact aaN h ln
    .intro m' hi;simp only[af];refine⟨_,cn,hi,by simp,h1,?_⟩
     simp
def acX{o:yV}{k:Nat}(hH:fh O H)(ht:bV O m S w tm a.tmps)(hh:aS O m S w hp cq)(hv:cK tm hp ct (aP O.P H k o)=FL (v,b)):Es O m S w a ct o v b:=by
 cases ho:o.op with
 | call c=>
  have⟨callee,args,ts⟩:=c;simp only[aP,ho] at hv
  repeat' split at hv
  all_goals first
   | (simp[cK,bad] at hv;done)
   | (revert hv;generalize yq _ _=bb;intro hv;cases bb<;>simp[cK,bad] at hv)
 | alloc t=>
  simp only[aP,ho] at hv
  split at hv
  .rename_i s z hs hz;obtain⟨zv,mW,rfl⟩:=F7 (w:=w) hz
   exact abG (x:=zv) (t:=t) hh (by simp[execOp,ho,Instr.alloc,mW,newVar,newRow]) (DJ zv) (by simpa only[cK,ay] using hv)
  .simp [cK,bad] at hv
 | box t x=>
  simp only[aP,ho] at hv
  split at hv
  .rename_i s hs;simp only[cK] at hv
   cases hc:(yq (cellsOf (ay tm (aJ H x))).length s&&cd (cellsOf (ay tm (aJ H x)))) with
   | false=>rw[hc] at hv;cases hv
   | true=>
    have h1:=hc;simp only[yf] at h1
    exact abG (x:=a.eval x) (t:=t) hh (by simp[execOp,ho,Instr.box,newVar,newRow]) (SQ (bW hH ht x) h1.2) hv
  .simp [cK,bad] at hv
 | buildSlice t n parts=>
  simp only[aP,ho] at hv
  split at hv
  .rename_i e hu
   split at hv
   .rename_i s z hs hz
    cases hc:yE (n*s) 16777216 with
    | false=>rw[hc] at hv;simp[cK,bad] at hv
    | true=>
     rw[hc] at hv;simp only[yx] at hv
     split at hv
     .rename_i ps jc;exact al1 hH ht hh ho hu hs hz (yv hc) jc hv
     .simp [cK,bad] at hv
   .simp [cK,bad] at hv
  .simp [cK,bad] at hv
 | makeSlice t l c=>
  simp only[aP,ho] at hv
  split at hv
  .rename_i e hu
   split at hv
   .rename_i s by' z hs hb hz
    exact anR hH ht hh ho hu hs hb hz hv
   .simp [cK,bad] at hv
  .simp [cK,bad] at hv
 | makeMap t r=>
  cases r with
  | some x=>simp[aP,ho,cK,bad] at hv
  | none=>
   simp only[aP,ho] at hv
   repeat' split at hv
   all_goals first
    | (simp[cK,bad] at hv;done)
    | (
      simp only[cK,yc,yo] at hv;obtain⟨rfl,rfl⟩:=hv
      exact anQ hh ho rfl)
 | range t x=>
  simp only[aP,ho] at hv
  split at hv
  .rename_i hu;simp only[cK] at hv;have rx:=bW hH ht x;cases hx:ay tm (aJ H x)<;>rw[hx] at hv rx<;>simp only[reduceCtorEq] at hv
   simp only[yc,yo] at hv;obtain⟨rfl,rfl⟩:=hv;exact alZ hh ho hu rx
  .simp [cK,bad] at hv
 | next x b=>cases b<;>simp[aP,ho,cK,bad] at hv
 | binOp op t x y ty=>
  cases op<;>simp only[aP,ho,n8,oU] at hv
  case eql=>
        repeat' split at hv
        all_goals first
         | (simp[cK,bad] at hv;done)
         | (cases hb:(O.P.stoodInHeld t||O.P.eqGuardType O.P.depth t)<;>rw[hb] at hv<;>simp[cK,bad] at hv)
  case neq=>
        repeat' split at hv
        all_goals first
         | (simp[cK,bad] at hv;done)
         | (cases hb:(O.P.stoodInHeld t||O.P.eqGuardType O.P.depth t)<;>rw[hb] at hv<;>simp[cK,bad] at hv)
  all_goals simp[cK] at hv
 | _=>
  simp only[aP,ho] at hv
  (repeat' split at hv)
  all_goals first
   | contradiction
   | (simp[cK,bad] at hv;done)
end
end
end
section
open Go
section
variable {hp an:Hp}{cs vs eB:List AV}
def zo{id i:Nat}{o:Obj}:ak (aW hp id o) i=if id=i then (if (ak hp id).isSome then FL o else FM) else ak hp i:=by
 induction hp with
 | nil=>simp[aW,ak]
 | cons x r ih=>
  have⟨j,q⟩:=x;simp only[aW];by_cases hj:j=id
  .subst hj;simp only[wO,yx,ak];by_cases hi:j=i
   .simp_all
   .have:yq j i=yda:=by
     cases hq:yq j i with
     | false=>rfl
     | true=>exact absurd (yg hq) hi
    grind
  .have hb:yq j id=yda:=by
    cases hq:yq j id with
    | false=>rfl
    | true=>exact absurd (yg hq) hj
   simp only[hb,yR];rw[show ak ((j,q)::aW r id o) i=bif yq j i then FL q else ak (aW r id o) i from rfl,ih];by_cases hi:j=i
   .subst hi
    have:¬id=j:=fun h=>hj h.symm
    simp[wO,this,ak]
   .have sU:yq j i=yda:=by
     cases hq:yq j i with
     | false=>rfl
     | true=>exact absurd (yg hq) hi
    simp[sU,ak,hb]
def lB(hp an:Hp):Prop:=∀id,(ak an id).isSome=(ak hp id).isSome
def lB.refl:lB hp hp:=fun _=>rfl
def lB.trans{a b c:Hp}(h:lB a b)(k:lB b c):lB a c:=fun id=>(k id).trans (h id)
def Ua{id:Nat}{o o':Obj}(h:ak hp id=FL o)(hl:jA o o'):cR hp (aW hp id o')/\lB hp (aW hp id o'):=by
 constructor
 .intro i q hq;rw[zo];by_cases hi:id=i
  .grind
  .exact ⟨q,by simp[hi,hq],jA.refl q⟩
 .intro i;rw[zo]
  grind
def aaO{H:Hp}{id:Nat}{pu ex:Bool}{sz:Nat}(hl:cR hp H)(h:ak hp id=FL (.cells yda pu ex sz cs)):ak H id=FL (.cells yda pu ex sz cs):=by
 obtain⟨o',h1,da,rfl,h2⟩:=hl id _ h
 cases da with
 | false=>exact h1
 | true=>exact absurd (h2 rfl) (by simp)
section
variable {O:bA}
def awQ(O:bA)(m:Mp)(S:Nat->Prop)(w:yj)(p:Pl)(ex:Bool)(sz:Nat)(cs:List AV):Prop:=
 p.z=sz/\cs.length<=p.e/\(ex=ycZ->cs.length=p.e)/\S p.b/\aG cs=ycZ/\bU O.ae m S w cs p.b p.o
def VU(O:bA)(an:Hp)(v v':AV):Prop:=∀H m S w ct,cR an H->aS O m S w H ct->(∀u,af O.ae m S w v u->af O.ae m S w v' u)/\aX v'=ycZ
def agm(O:bA)(an:Hp)(vs eB:List AV):Prop:=∀H m S w ct,cR an H->aS O m S w H ct->(∀us,aB O.ae m S w vs us->aB O.ae m S w eB us)/\aG eB=ycZ
def ayz(O:bA)(an:Hp)(id:Nat)(ex:Bool)(sz:Nat)(cs:List AV):Prop:=∀H m S w ct,cR an H->aS O m S w H ct->∀p,m id=FL p->awQ O m S w p ex sz cs
def FY{ae:Nat->Nat}{m:Mp}{S:Nat->Prop}{w:yj}{b:Nat}:∀(cs:List AV) (us:List yh) (o:Nat),aB ae m S w cs us->
  (∀(j:Nat) (u:yh),us[j]? =FL u->w.cell? ⟨b,o+j,FM⟩=FL u)->bU ae m S w cs b o
 | [],us,o,_,_=>by simp only[bU]
 | c::cs,us,o,h,hu=>by
  obtain⟨u,r,rfl,h2,h3⟩:=h;refine⟨⟨u,by simpa using hu 0 u (by simp),h2⟩,FY cs r (o+1) h3 (fun j v hv=>?_)⟩;rw[show o+1+j=o+(j+1) by lia]
  simp_all
def awR{m:Mp}{S:Nat->Prop}{w:yj}{dB:List AV}(h:∀us,aB O.ae m S w cs us->aB O.ae m S w dB us){b o:Nat}(hr:bU O.ae m S w cs b o):bU O.ae m S w dB b o:=by
 have⟨us,h1,_,h3⟩:=zm cs b o hr;exact FY dB us o (h us h1) h3
def B3:∀(k:Nat) {cs:List AV},aG cs=ycZ->aG (cs.take k)=ycZ
 | 0,_,_=>by simp[aG]
 | k+1,[],_=>by simp[aG]
 | k+1,c::cs,h=>by
  simp only[aG,yf,wD] at h ⊢;exact⟨h.1,B3 k h.2⟩
def anS:∀{n:Nat} {hp:Hp},cE n hp vs=FL (eB,an)->eB.length=vs.length:=by
 intro n
 induction n generalizing vs eB an with
 | zero=>intro hp h;simp[cE] at h
 | succ n ih=>
  intro hp h
  cases vs with
  | nil=>simp only[cE,yc,yo] at h;rw[<-h.1]
  | cons v r=>
   simp only[cE] at h
   cases h1:freeze n hp v with
   | none=>simp[h1] at h
   | some q=>
    have⟨v',aZ⟩:=q;simp only[h1] at h
    cases h2:cE n aZ r with
    | none=>simp[h2] at h
    | some q2=>
     grind
def Z6:∀n:Nat,
  (∀hp v v' an,freeze n hp v=FL (v',an)->cR hp an/\lB hp an/\VU O an v v')/\
  (∀hp id ex sz cs an,r7 n hp id=FL (ex,sz,cs,an)->cR hp an/\lB hp an/\ayz O an id ex sz cs)/\
  (∀hp vs eB an,cE n hp vs=FL (eB,an)->cR hp an/\lB hp an/\agm O an vs eB):=by
 intro n
 induction n with
 | zero=>refine⟨?_,?_,?_⟩<;>intros<;>simp_all[freeze,r7,cE]
 | succ n ih=>
  have⟨ihV,ihB,HF⟩:=ih;refine⟨?_,?_,?_⟩
  .intro hp v v' an h;have plain:∀{v v':AV} {hp an:Hp},(bif aX v then FL (v,hp) else FM)=FL (v',an)->cR hp an/\lB hp an/\VU O an v v':=by
    intro v v' hp an h
    cases hc:aX v with
    | false=>rw[hc] at h;cases h
    | true=>
     rw[hc] at h;simp only[yx,yc,yo] at h;obtain⟨rfl,rfl⟩:=h;exact⟨cR.refl,lB.refl,fun _ _ _ _ _ _ _=>⟨fun _ h=>h,hc⟩⟩
   cases v<;>simp only[freeze] at h<;>first | exact plain h | skip
   case ax id o k=>
    cases hb:r7 n hp id with
    | none=>simp[hb] at h
    | some q=>
     have⟨ex,sz,cs,aZ⟩:=q;simp only[hb] at h
     cases hc:yE (o+k*sz) cs.length with
     | false=>rw[hc] at h;cases h
     | true=>
      rw[hc] at h;simp only[yx,yc,yo] at h;obtain⟨rfl,rfl⟩:=h;have hle:=yv hc;have⟨h1,h2,h3⟩:=ihB _ _ _ _ _ _ hb;refine⟨h1,h2,fun H m S w ct hl hh=>⟨fun u hu=>?_,by simp only[aX]⟩⟩;simp only[af] at hu ⊢;obtain⟨p,c,hm,rfl,BF,Q8⟩:=hu;have⟨g1,g2,g3,g4,g5,g6⟩:=h3 H m S w ct hl hh p hm;refine .inl ⟨p.b,p.o+o,c,rfl,BF,?_,.inr g4,B3 _ (AL _ _ g5),AK _ _ _ _ (rZ _ _ _ _ g6)⟩;intro hx;simp only[yf] at hx;have e1:=yg hx.2;have e2:0<sz:=by
       simp_all
      have e3:=g3 hx.1.1;rw[g1] at Q8
      have:c*sz=k*sz:=by lia
      exact Nat.eq_of_mul_eq_mul_right e2 this
   case ptr id o=>
    cases hb:r7 n hp id with
    | none=>simp[hb] at h
    | some q=>
     have⟨ex,sz,cs,aZ⟩:=q;simp only[hb,yc,yo] at h;obtain⟨rfl,rfl⟩:=h;have⟨h1,h2,h3⟩:=ihB _ _ _ _ _ _ hb;refine⟨h1,h2,fun H m S w ct hl hh=>⟨fun u hu=>?_,by simp only[aX]⟩⟩;simp only[af] at hu ⊢;obtain⟨p,hm,rfl⟩:=hu;have⟨g1,g2,g3,g4,g5,g6⟩:=h3 H m S w ct hl hh p hm;exact⟨p.b,p.o+o,rfl,.inr g4,AL _ _ g5,rZ _ _ _ _ g6⟩
   case map id=>
    cases hg:ak hp id with
    | none=>simp[hg] at h
    | some ob=>
     cases ob<;>simp only[hg,reduceCtorEq] at h
     rename_i rw ks vs
     cases hc:(aG ks&&aG vs) with
     | false=>rw[hc] at h;cases h
     | true=>
      rw[hc] at h;simp only[yx,yc,yo] at h;obtain⟨rfl,rfl⟩:=h;simp only[yf] at hc;have⟨h1,h2⟩:=Ua hg (o':=.mp yda ks vs) ⟨yda,rfl,by simp⟩;refine⟨h1,h2,fun H m S w ct hl hh=>⟨fun u hu=>?_,by simp only[aX]⟩⟩;simp only[af] at hu ⊢;obtain⟨p,hm,rfl⟩:=hu;have hq:ak (aW hp id (.mp yda ks vs)) id=FL (.mp yda ks vs):=by rw[zo];simp[hg]
      obtain⟨o',h3,da,rfl,h4⟩:=hl id _ hq;have mX:da=yda:=by cases da with | false=>rfl | true=>exact absurd (h4 rfl) (by simp)
      subst mX;have⟨p',es,clock,g1,g2,g3,g4,g5,g6⟩:=hh.obj id _ _ h3 hm;rw[hm] at g1;injection g1 with g1
      subst g1;exact⟨p.b,es,clock,rfl,g6 rfl,hc.1,hc.2,g2,g3,g4⟩
   case fn f first cap=>
    cases f with
    | y l=>simp only[aX,yR,reduceCtorEq] at h
    | f g=>
     simp only at h
     cases h1:cE n hp first with
     | none=>simp[h1] at h
     | some q=>
      have⟨adU,aZ⟩:=q;simp only[h1] at h
      cases h2:cE n aZ cap with
      | none=>simp[h2] at h
      | some q2=>
       have⟨PK,ja⟩:=q2;simp only[h2,yc,yo] at h;obtain⟨rfl,rfl⟩:=h;have⟨a1,a2,a3⟩:=HF _ _ _ _ h1;have⟨b1,b2,b3⟩:=HF _ _ _ _ h2;refine⟨a1.trans b1,a2.trans b2,fun H m S w ct hl hh=>?_⟩;have⟨c1,c2⟩:=a3 H m S w ct (b1.trans hl) hh;have⟨d1,d2⟩:=b3 H m S w ct hl hh;refine⟨fun u hu=>?_,by simp[aX,c2,d2]⟩;simp only[af] at hu ⊢;obtain⟨fi,ca,rfl,e1,e2⟩:=hu;exact⟨fi,ca,rfl,c1 _ e1,d1 _ e2⟩
   case agg cs=>
    cases h1:cE n hp cs with
    | none=>simp[h1] at h
    | some q=>
     have⟨dB,aZ⟩:=q;simp only[h1,yc,yo] at h;obtain⟨rfl,rfl⟩:=h;have⟨a1,a2,a3⟩:=HF _ _ _ _ h1;refine⟨a1,a2,fun H m S w ct hl hh=>?_⟩;have⟨c1,c2⟩:=a3 H m S w ct hl hh;refine⟨fun u hu=>?_,by simpa[aX] using c2⟩;simp only[af] at hu ⊢;obtain⟨xs,rfl,e1⟩:=hu;exact⟨xs,rfl,c1 _ e1⟩
   case aw cs=>
    cases h1:cE n hp cs with
    | none=>simp[h1] at h
    | some q=>
     have⟨dB,aZ⟩:=q;simp only[h1,yc,yo] at h;obtain⟨rfl,rfl⟩:=h;have⟨a1,a2,a3⟩:=HF _ _ _ _ h1;refine⟨a1,a2,fun H m S w ct hl hh=>?_⟩;have⟨c1,c2⟩:=a3 H m S w ct hl hh;refine⟨fun u hu=>?_,by simpa[aX] using c2⟩;simp only[af] at hu ⊢;obtain⟨xs,rfl,e1⟩:=hu;exact⟨xs,rfl,c1 _ e1⟩
  .intro hp id ex sz dB an h;simp only[r7] at h
   cases hg:ak hp id with
   | none=>simp[hg] at h
   | some ob=>
    cases ob<;>simp only[hg,reduceCtorEq] at h
    rename_i rw pu Ae De cs
    cases pu with
    | true=>
     simp only[yx,yc,yo] at h;obtain⟨rfl,rfl,rfl,rfl⟩:=h;have hq:cR hp (bif rw then aW hp id (.cells yda ycZ Ae De cs) else hp)/\lB hp (bif rw then aW hp id (.cells yda ycZ Ae De cs) else hp)/\ak (bif rw then aW hp id (.cells yda ycZ Ae De cs) else hp) id=FL (.cells yda ycZ Ae De cs):=by
      cases rw with
      | true=>
       have⟨h1,h2⟩:=Ua hg (o':=.cells yda ycZ Ae De cs) ⟨yda,rfl,by simp⟩;exact⟨h1,h2,by simp[zo,hg]⟩
      | false=>exact⟨cR.refl,lB.refl,hg⟩
     refine⟨hq.1,hq.2.1,fun H m S w ct hl hh p hm=>?_⟩;have⟨p',arr,t,g1,g2,g3,g4,g5,g6,g7,g8,g9,g10⟩:=hh.obj id _ _ (aaO hl hq.2.2) hm;rw[hm] at g1;injection g1 with g1
     subst g1;exact⟨g3,g4,g6,g10 rfl,g8 rfl,g7⟩
    | false=>
     simp only[yR] at h
     cases h1:cE n hp cs with
     | none=>simp[h1] at h
     | some q=>
      have⟨Al,aZ⟩:=q;simp only[h1,yc,yo] at h;obtain⟨rfl,rfl,rfl,rfl⟩:=h;have⟨a1,a2,a3⟩:=HF _ _ _ _ h1;obtain⟨o1,jd,rw1,rfl,_⟩:=a1 id _ hg;have⟨b1,b2⟩:=Ua jd (o':=.cells yda yda Ae De cs) ⟨yda,rfl,by simp⟩;refine⟨a1.trans b1,a2.trans b2,fun H m S w ct hl hh p hm=>?_⟩;have hq:ak (aW aZ id (.cells yda yda Ae De cs)) id=FL (.cells yda yda Ae De cs):=by simp[zo,jd]
      have⟨p',arr,t,g1,g2,g3,g4,g5,g6,g7,g8,g9,g10⟩:=hh.obj id _ _ (aaO hl hq) hm;rw[hm] at g1;injection g1 with g1
      subst g1;have⟨c1,c2⟩:=a3 H m S w ct (b1.trans hl) hh;have hlen:=anS h1
      exact⟨g3,by lia,fun hx=>by have:=g6 hx;lia,g10 rfl,c2,awR c1 g7⟩
  .intro hp vs eB an h
   cases vs with
   | nil=>
    simp only[cE,yc,yo] at h;obtain⟨rfl,rfl⟩:=h;exact⟨cR.refl,lB.refl,fun _ _ _ _ _ _ _=>⟨fun _ h=>h,rfl⟩⟩
   | cons v r=>
    simp only[cE] at h
    cases h1:freeze n hp v with
    | none=>simp[h1] at h
    | some q=>
     have⟨v1,aZ⟩:=q;simp only[h1] at h
     cases h2:cE n aZ r with
     | none=>simp[h2] at h
     | some q2=>
      have⟨r1,ja⟩:=q2;simp only[h2,yc,yo] at h;obtain⟨rfl,rfl⟩:=h;have⟨a1,a2,a3⟩:=ihV _ _ _ _ h1;have⟨b1,b2,b3⟩:=HF _ _ _ _ h2;refine⟨a1.trans b1,a2.trans b2,fun H m S w ct hl hh=>?_⟩;have⟨c1,c2⟩:=a3 H m S w ct (b1.trans hl) hh;have⟨d1,d2⟩:=b3 H m S w ct hl hh;refine⟨fun us hu=>?_,by simp[aG,c2,d2]⟩;simp only[aB] at hu ⊢;obtain⟨u,t,rfl,e1,e2⟩:=hu;exact⟨u,t,rfl,c1 _ e1,d1 _ e2⟩
def Sx{n:Nat}(h:cE n hp vs=FL (eB,an)):cR hp an/\lB hp an/\agm O an vs eB:=(Z6 n).2.2 _ _ _ _ h
def SU{n:Nat}{v v':AV}(h:freeze n hp v=FL (v',an)):cR hp an/\lB hp an/\VU O an v v':=(Z6 n).1 _ _ _ _ h
end
end
end
section
open Go
section
variable {v:AV}{an:Hp}{cs new:List AV}{aU o:Nat}
section
variable {O:bA}{H:Hint}{m:Mp}{S:Nat->Prop}{w:yj}{tm:Env}{a:Act}{hp:Hp}{ct:Nat}
structure One(w w':yj)(g:Nat):Prop where
 os:w'.os=w.os
 tape:w'.tape=w.tape
 output:w'.output=w.output
 size:w'.heap.size=w.heap.size
 other:∀b,b≠g->w'.heap[b]? =w.heap[b]?
def Sy(w:yj)(g:Nat)(cs:Array yh):One w (w.setRow g cs) g:=
 ⟨rfl,rfl,rfl,by simp,fun b hb=>setRow_other w g b cs hb⟩
def JP{id:Nat}{o:Obj}{p:Pl}(h:ak hp id=FL o)(hm:m id=FL p):ef m hp p.b:=⟨id,o,p,h,hm,rfl⟩
def anT{id:Nat}{o':Obj}{b:Nat}(h:ef m (aW hp id o') b):ef m hp b:=by
 have⟨i,o,p,h1,h2,h3⟩:=h;rw[zo] at h1;by_cases hi:id=i
 .subst hi
  cases hq:ak hp id with
  | none=>simp[hq] at h1
  | some q=>exact⟨id,q,p,hq,h2,h3⟩
 .simp only [hi,xm] at h1;exact⟨i,o,p,h1,h2,h3⟩
def Jq(hh:aS O m S w hp ct){id:Nat}{o o':Obj}{p:Pl}{w':yj}(ho:ak hp id=FL o)(hm:m id=FL p)(hn:¬S p.b)(hw:One w w' p.b)(h':fk O m S w' id o')(hk:∀r:uY,w.heap[p.b]? =FL (.loop r)->∃r':uY,w'.heap[p.b]? =FL (.loop r')):
  aS O m S w' (aW hp id o') ct/\cf m S w hp m S w' (aW hp id o') ct:=by
 have aM:fY S w w':=fun b hb=>hw.other b (fun e=>hn (e▸hb))
 refine⟨⟨?_,hh.lt,?_,?_,?_,hh.low,?_,?_,fun i q hq=>(by
  rw[zo] at hq;by_cases hc:id=i
  .subst hc;exact hh.aH _ _ ho
  .simp only [hc,xm] at hq;exact hh.aH _ _ hq)⟩,⟨hw.os,hw.tape,hw.output,by rw[hw.size];exact yu _,?_,fun _ h=>h,fun b hb=>aM b hb,fun b hb=>.inl hb,fun b hb=>.inl (anT hb),fun _ _ _ h=>h,fun b r hb=>?_⟩⟩
 rotate_right
 .by_cases hc:b=p.b
  .subst hc;exact hk r hb
  .exact ⟨r,(hw.other b hc).trans hb⟩
 .intro i q pi hi bK;rw[zo] at hi;by_cases hc:id=i
  .subst hc;simp only[xA,ho,Option.isSome_some] at hi;injection hi with hi
   subst hi;exact h'
  .simp only [hc,xm] at hi;refine zn (fun _ _ h=>h) (fun _ h=>h) aM (fun q' bO=>?_) (fun _ _ h=>h) (hh.obj i q pi hi bK);exact hw.other _ (fun e=>hc (hh.inj i id q o q' p hi ho bO hm e).symm)
 .intro i j oi oj pi pj hi hj bK gN e;have key:∀{i:Nat} {oi:Obj},ak (aW hp id o') i=FL oi->∃Mh,ak hp i=FL Mh:=by
   intro i oi hi;rw[zo] at hi;by_cases hc:id=i
   .subst hc;exact⟨o,ho⟩
   .simp only [hc,xm] at hi;exact⟨oi,hi⟩
  have⟨Mh,cL⟩:=key hi;have⟨Mg,XM⟩:=key hj;exact hh.inj i j Mh Mg pi pj cL XM bK gN e
 .intro b hb;rw[hw.size];exact hh.slt b hb
 .intro i q hq;rw[hw.size];exact hh.blt i q hq
 .intro b hb
  rw[hw.other b (fun e=>by have:=hh.low id p hm;lia)]
  exact hh.mM b hb
 .rw [hw.size];exact hh.gi
 .intro b _ hb;exact hw.other b (fun e=>hb (e▸JP ho hm))
def A5(O:bA)(m:Mp)(S:Nat->Prop)(w:yj)(a:Act)(hp:Hp)(ct:Nat)(o:yV)(v:AV)(an:Hp)(aU:Nat):Prop:=
 ∃n u w' m' S',(execOp a.eval o).run O.P w=.ok n w'/\(n=.value u\/(n=.skip/\u=undef))/\aS O m' S' w' an aU/\af O.ae m' S' w' v u/\dh m m'/\cf m S w hp m' S' w' an ct
def anU{ae:Nat->Nat}{u:yh}(h:af ae m S w v u)(ho:er v=ycZ):u.oneCell'=ycZ:=by
 cases v with
 | fn f a b=>
  cases f with
  | f g=>simp only[af] at h;obtain⟨_,_,rfl,_⟩:=h;rfl
  | y l=>simp only[af] at h;obtain⟨_,_,rfl⟩:=h;rfl
 | int k n=>simp only[af] at h;subst h;rfl
 | bool b=>simp only[af] at h;subst h;rfl
 | av k n=>simp only[af] at h;subst h;rfl
 | dl k n i=>simp only[af] at h;subst h;rfl
 | str s=>simp only[af] at h;obtain⟨_,rfl,_⟩:=h;rfl
 | kY=>simp only[af] at h;subst h;rfl
 | ptr i k=>simp only[af] at h;obtain⟨_,_,rfl⟩:=h;rfl
 | bN cs=>simp only[af] at h;obtain⟨_,_,rfl,_⟩:=h;rfl
 | ah=>simp only[af] at h;subst h;rfl
 | au e n cs=>simp only[af] at h;rcases h with ⟨_,_,_,rfl,_⟩ | ⟨_,rfl,_,_⟩<;>rfl
 | c7 _ _ _ _=>simp[er] at ho
 | ax i k n=>simp only[af] at h;obtain⟨_,_,_,rfl,_⟩:=h;rfl
 | iG=>simp only[af] at h;subst h;rfl
 | jM=>simp only[af] at h;subst h;rfl
 | map i=>simp only[af] at h;obtain⟨_,_,rfl⟩:=h;rfl
 | jN ks vs=>simp only[af] at h;obtain⟨_,_,_,rfl,_⟩:=h;rfl
 | it i=>simp only[af] at h;obtain⟨_,_,rfl⟩:=h;rfl
 | agg cs=>simp[er] at ho
 | aw cs=>simp[er] at ho
 | undef=>simp[er] at ho
def NI{ae:Nat->Nat}:∀{vs:List AV} {us:List yh},aB ae m S w vs us->cd vs=ycZ->∀u∈us,u.oneCell'=ycZ
 | [],us,h,_,u,hu=>by simp only[aB] at h;subst h;cases hu
 | v::r,us,h,ho,u,hu=>by
  obtain⟨u',t,rfl,h1,h2⟩:=h;simp only[cd,yf] at ho;rcases List.mem_cons.1 hu with rfl | hu
  .exact anU h1 ho.1
  .exact NI h2 ho.2 u hu
def abI{arr:Array yh}{t:yA}{p:Pl}{vs:List yh}{S':Nat->Prop}{m':Mp}(hb:w.heap[p.b]? =FL (.cells arr t (0,0)))(hr:bU O.ae m S w cs p.b p.o)(hv:aB O.ae m S w new vs)(hl:o+new.length<=cs.length)(hs:p.o+cs.length<=arr.size){w':yj}(hm:dh m m')(hS:∀b,S b->S' b)(aM:fY S w w')(hw:w'.heap[p.b]? =FL (.cells (arr.toList.take (p.o+o)++vs++arr.toList.drop (p.o+o+vs.length)).toArray t (0,0))):bU O.ae m' S' w' (over o new cs) p.b p.o:=by
 have⟨us,h1,h2,h3⟩:=zm cs p.b p.o hr;have mY:=gU _ _ hv;have h4:aB O.ae m S w (over o new cs) (us.take o++vs++us.drop (o+new.length)):=mz (mz (FT o h1) hv) (Jg _ h1);refine FY _ _ _ (ir hm hS aM _ _ h4) (fun j u hj=>?_);have Et:∀k u,us[k]? =FL u->arr[p.o+k]? =FL u:=by
  intro k u hk
  have:=h3 k u hk
  simpa[World.cell?,hb] using this
 simp only[World.cell?,hw,tN,yC,xm];rw[yaL];have e1:(arr.toList.take (p.o+o)).length=p.o+o:=by rw[yT,vG];lia
 have e2:(us.take o).length=o:=by rw[yT];lia
 by_cases c1:j<o
 .have g1:(us.take o++vs++us.drop (o+new.length))[j]? =us[j]? :=by
   rw[xy,wC (by lia),tj c1]
  rw[g1] at hj;rw[xy,wC (by lia),tj (by lia)];simpa using Et j u hj
 .by_cases c2:j<o+vs.length
  .have g1:(us.take o++vs++us.drop (o+new.length))[j]? =vs[j-o]? :=by
    rw[xy,wm (by lia),e2,wC (by lia)]
   rw[g1] at hj;rw[xy,wm (by lia),e1,wC (by lia),show p.o+j-(p.o+o)=j-o by lia];exact hj
  .have g1:(us.take o++vs++us.drop (o+new.length))[j]? =us[j]? :=by
    rw[xy,wm (by lia),e2,wm (by lia),ybh]
    congr 1
    lia
   rw[g1] at hj;rw[xy,wm (by lia),e1,wm (by lia),ybh,show p.o+o+vs.length+(p.o+j-(p.o+o)-vs.length)=p.o+j by lia];simpa using Et j u hj
def NX(hl:o+new.length<=cs.length):(over o new cs).length=cs.length:=by
 simp only[over,yN,yT,xY];lia
def Z7(h:aG cs=ycZ)(h':aG new=ycZ):aG (over o new cs)=ycZ:=
 DK (DK (B3 _ h) h') (AL _ _ h)
def ap9{o:yV}{t:yA}{x y:xt}{sz:Nat}(hH:fh O H)(ht:bV O m S w tm a.tmps)(hh:aS O m S w hp ct)(ho:o.op=.store t x y)(hz:cu O.P t=FL sz)(hv:cp tm hp ct (.st sz (aJ H x) (aJ H y))=FL (v,an,aU)):A5 O m S w a hp ct o v an aU:=by
 simp only[cp] at hv;have rx:=bW hH ht x;cases hx:ay tm (aJ H x)<;>rw[hx] at hv rx<;>simp only[reduceCtorEq] at hv
 rename_i id k;simp only[af] at rx;have⟨p,hm,ex⟩:=rx
 split at hv
 case h_2=>cases hv
 rename_i pu Rc z cs hg
 cases hc:(yq (cellsOf (ay tm (aJ H y))).length sz&&yE (k+sz) cs.length&&cd (cellsOf (ay tm (aJ H y)))) with
 | false=>rw[hc] at hv;cases hv
 | true=>
  rw[hc] at hv;simp only[yx,yc,yo] at hv;obtain⟨rfl,rfl,rfl⟩:=hv;simp only[yf] at hc;have c1:=yg hc.1.1;have c2:=yv hc.1.2;have ry:=SQ (bW hH ht y) hc.2;have hl:=gU _ _ ry;have⟨p',arr,t',g1,g2,g3,g4,g5,g6,g7,g8,g9,g10⟩:=hh.obj id _ _ hg hm;rw[hm] at g1;injection g1 with g1
  subst g1;have gK:=NI ry hc.2;have dT:=run_storeCells_at O.P p.b (p.o+k) t' (a.eval y).cells.toList 0 arr w g2 (by rw[hl];lia) gK
  simp only[y5] at dT;have awS:(a.eval y).cells.size=sz:=by simp_all
  have pP:fk O m S (w.setRow p.b (arr.toList.take (p.o+k)++(a.eval y).cells.toList++arr.toList.drop (p.o+k+(a.eval y).cells.toList.length)).toArray) id
    (.cells ycZ (pu&&aG (cellsOf (ay tm (aJ H y)))) Rc z (over k (cellsOf (ay tm (aJ H y))) cs)):=by
   refine⟨p,_,t',hm,setRow_heap w p.b arr _ t' _ g2,g3,by rw[NX (by lia)];exact g4,?_,fun h=>by rw[NX (by lia)];exact g6 h,?_,?_,fun _=>g9 rfl,by simp⟩
   .grind
   .exact abI g2 g7 ry (by lia) (by lia) dh.refl (fun _ h=>h) (fun b hb=>setRow_other w p.b b _ (fun e=>g9 rfl (e▸hb))) (setRow_heap w p.b arr _ t' _ g2)
   .intro h;simp only[yf] at h;exact Z7 (g8 h.1) h.2
  have⟨e1,e2⟩:=Jq hh hg hm (g9 rfl) (Sy w p.b _) pP (fun r hr=>by rw[g2] at hr;cases hr);refine⟨.skip,undef,_,m,S,?_,.inr ⟨rfl,rfl⟩,e1,by simp[af,aB,undef],dh.refl,e2⟩;simp only[execOp,ho,Instr.storeAt,ex,Instr.sureAddr,Sem.run_bind,Sem.run_pure,Result.andThen_ok,storeVar,oO hz,awS,ne_eq,ycV,xm];simp[dT]
def FO(w:yj)(g:Nat)(o:yal):One w {w with heap:=w.heap.setIfInBounds g o} g:=
 ⟨rfl,rfl,rfl,by simp,fun b hb=>by simp[Array.getElem?_setIfInBounds_ne (fun e=>hb e.symm)]⟩
def Ns{g:Nat}{o q:yal}(h:w.heap[g]? =FL q):({w with heap:=w.heap.setIfInBounds g o}:yj).heap[g]? =FL o:=by grind
def abJ{o:yV}{t kt e:yA}{x k y:xt}{kk:Nat}(hH:fh O H)(ht:bV O m S w tm a.tmps)(hh:aS O m S w hp ct)(ho:o.op=.mapUpdate t x k y\/o.op=.insert t x k y)(hu:O.P.underlying t=FL (.map kt e))(sO:VE.keyOf O.P kt=FL kk)(hv:cp tm hp ct (.rD kk (aJ H x) (aJ H k) (aJ H y))=FL (v,an,aU)):A5 O m S w a hp ct o v an aU:=by
 simp only[cp] at hv;have rx:=bW hH ht x;cases hx:ay tm (aJ H x)<;>rw[hx] at hv rx<;>simp only[reduceCtorEq] at hv
 rename_i id;simp only[af] at rx;obtain⟨p,hm,ex⟩:=rx
 split at hv
 case h_2=>cases hv
 rename_i ks vs hg
 cases hc:oS kk (ay tm (aJ H k)) with
 | false=>simp[hc] at hv
 | true=>
  simp only[hc,Bool.not_true,yR] at hv
  cases aZ:Bg (ay tm (aJ H k)) (ay tm (aJ H y)) ks vs with
  | none=>simp[aZ] at hv
  | some q=>
   obtain⟨lK,eB⟩:=q;simp only[aZ,yc,yo] at hv;obtain⟨rfl,rfl,rfl⟩:=hv;obtain⟨E,hE,hF⟩:=Z4 (P:=O.P) sO hc (bW hH ht k);obtain⟨p',es,clock,g1,g2,g3,g4,g5,g6⟩:=hh.obj id _ _ hg hm;rw[hm] at g1;injection g1 with g1
   subst g1;have ayA:=acU hE (bW hH ht k) (bW hH ht y) ks vs es.toList 0 lK eB g3 g4 aZ
   have fin:∀(E9:Array wZ) (c':Nat),(Instr.mapUpdate t (a.eval x) (a.eval k) (a.eval y)).run O.P w=.ok () {w with heap:=w.heap.setIfInBounds p.b (.map E9 c')}->
     aB O.ae m S w lK (E9.toList.map (·.key))->aB O.ae m S w eB (E9.toList.map (·.val))->A5 O m S w a hp ct o (.aw []) (aW hp id (.mp ycZ lK eB)) ct:=by
    intro E9 c' dT h1 h2
    have aM:fY S w {w with heap:=w.heap.setIfInBounds p.b (.map E9 c')}:=fun b hb=>(FO w p.b _).other b (fun e=>g5 rfl (e▸hb))
    have pP:fk O m S {w with heap:=w.heap.setIfInBounds p.b (.map E9 c')} id (.mp ycZ lK eB):=
     ⟨p,E9,c',hm,Ns g2,ir (fun _ _ h=>h) (fun _ h=>h) aM _ _ h1,ir (fun _ _ h=>h) (fun _ h=>h) aM _ _ h2,fun _=>g5 rfl,by simp⟩
    obtain⟨e1,e2⟩:=Jq hh hg hm (g5 rfl) (FO w p.b _) pP (fun r hr=>by rw[g2] at hr;cases hr);refine⟨.skip,undef,_,m,S,?_,.inr ⟨rfl,rfl⟩,e1,by simp[af,aB,undef],dh.refl,e2⟩;rcases ho with ho | ho<;>simp[execOp,ho,dT]
   have cO:=ZF (P:=O.P) (w:=w) sO hc (bW hH ht k) yda;rcases ayA with ⟨h1,h2,h3⟩ | ⟨j,e0,vc,vk0,h1,h2,⟨q1,q2,h3⟩,h4,h5⟩
   .refine fin (es.push ⟨a.eval k,a.eval y,clock⟩) (clock+1) ?_ (by simpa using h2) (by simpa using h3);rw[ex];simp[Instr.mapUpdate,run_underlying hu,MapKept.run_getObj_map g2,cO,hF _ _ h1,MapKept.run_setObj_map _ g2]
   .have hj:es[j]? =FL e0:=by simpa using h2
    simp only[yd] at h1;obtain⟨agn,hsb⟩:=anO q1 q2 h3
    refine fin (es.modify j fun e=>{e with key:=a.eval k,val:=a.eval y}) clock ?_ ?_ ?_
    .rw [ex];simp[Instr.mapUpdate,run_underlying hu,MapKept.run_getObj_map g2,cO,hF _ _ h1,MapKept.run_setObj_map _ g2,hj,Instr.keyThatStays,hsb,agn.symm]
    .have:(es.modify j fun e=>{e with key:=a.eval k,val:=a.eval y}).toList.map (·.key)=es.toList.map (·.key):=by
      apply ybk;intro n;simp only[uZ,tr,yaG];by_cases hn:j=n
      .subst hn;simp[hj,agn]
      .simp [hn]
     rw[this];exact h4
    .have:(es.modify j fun e=>{e with key:=a.eval k,val:=a.eval y}).toList.map (·.val)=(es.toList.map (·.val)).set j (a.eval y):=by
      apply ybk;intro n;simp only[uZ,tr,yaG,List.getElem?_set];by_cases hn:j=n
      .subst hn
       have:=(xv.1 hj).1
       simp[this]
      .simp [hn]
     rw[this];exact h5
def aqa(t:ByteArray)(i:Nat):(t.get! i).toNat=(t.data.toList.map xk).getD i 0:=by
 have:t.get! i=t.data[i]! :=by cases t;rfl
 rw[this];by_cases h:i<t.data.size
 .grind
 .simp only [Array.getElem!_eq_getD,Array.getD_eq_getD_getElem?,List.getD_eq_getElem?_getD,uZ,tr];rw[Array.getElem?_eq_none (by lia)];rfl
def al2(t:ByteArray)(i:Nat):decodeL (t.data.toList.map xk) i=Utf8.decode t i:=by
 have eG:(t.data.toList.map xk).length=t.size:=by simp
 simp only[decodeL,Utf8.decode,aqa,eG]
def anV{o:yV}{x:xt}(hH:fh O H)(ht:bV O m S w tm a.tmps)(hh:aS O m S w hp ct)(ho:o.op=.next x ycZ)(hv:cp tm hp ct (.rF (aJ H x))=FL (v,an,aU)):A5 O m S w a hp ct o v an aU:=by
 simp only[cp] at hv;have rx:=bW hH ht x;cases hx:ay tm (aJ H x)<;>rw[hx] at hv rx<;>simp only[reduceCtorEq] at hv
 rename_i id;simp only[af] at rx;have⟨p,hm,ex⟩:=rx
 split at hv
 case h_2=>cases hv
 rename_i s pos hg;have⟨p',t,g1,g2,g3,g4⟩:=hh.obj id _ _ hg hm;rw[hm] at g1;injection g1 with g1
 subst g1;have ak:(getObj p.b).run O.P w=.ok (.stringIter t pos) w:=by simp[getObj,Sem.run,g2]
 have hlen:s.length=t.size:=by rw[<-g3];simp
 cases hc:yO pos s.length with
 | false=>
  rw[hc] at hv;simp only[yR,yc,yo] at hv;obtain⟨rfl,rfl,rfl⟩:=hv;have aH:¬pos<t.size:=by
   intro h
   have:yO pos s.length=ycZ:=by simp[yO];lia
   grind
  refine⟨.value (.tuple #[.bool yda]),.tuple #[.bool yda],w,m,S,?_,.inl rfl,hh,by simp[af,aB],dh.refl,cf.refl⟩;simp[execOp,ho,ex,Instr.next,ak,aH]
 | true=>
  rw[hc] at hv;simp only[yx] at hv;have aH:pos<t.size:=by
   simp_all
  cases hdc:decodeL s pos with | mk c wd=>
  rw[hdc] at hv;simp only[yc,yo] at hv;obtain⟨rfl,rfl,rfl⟩:=hv;have hd:Utf8.decode t pos=(c,wd):=by rw[<-al2,g3,hdc]
  have pP:fk O m S {w with heap:=w.heap.setIfInBounds p.b (.stringIter t (pos+wd))} id (.si s (pos+wd)):=⟨p,t,hm,Ns g2,g3,g4⟩;have⟨e1,e2⟩:=Jq hh hg hm g4 (FO w p.b _) pP (fun r hr=>by rw[g2] at hr;cases hr);refine⟨.value (.tuple #[.bool ycZ,goInt pos,.int .i32 c]),_,_,m,S,?_,.inl rfl,e1,by simp[af,aB,goInt],dh.refl,e2⟩
  have aW:(setObj p.b (.stringIter t (pos+wd))).run O.P w=.ok () {w with heap:=w.heap.setIfInBounds p.b (.stringIter t (pos+wd))}:=by simp[setObj,Sem.run,g2]
  simp[execOp,ho,ex,Instr.next,ak,aH,hd,aW]
end
end
end
section
open Go
section
variable {cs:List AV}{n size:Nat}{P:xp}{x:yh}
def Jh{hp:Hp}{id i:Nat}:ak (cT hp id) i=if id=i then FM else ak hp i:=by
 induction hp with
 | nil=>simp[cT,ak]
 | cons x r ih=>
  have⟨j,q⟩:=x;simp only[cT];by_cases hj:j=id
  .subst hj;simp only[wO,yx,ih,ak];by_cases hi:j=i
   .grind
   .have:yq j i=yda:=by
     cases hq:yq j i with
     | false=>rfl
     | true=>exact absurd (yg hq) hi
    grind
  .have hb:yq j id=yda:=by
    cases hq:yq j id with
    | false=>rfl
    | true=>exact absurd (yg hq) hj
   simp only[hb,yR];rw[show ak ((j,q)::cT r id) i=bif yq j i then FL q else ak (cT r id) i from rfl,ih];by_cases hi:j=i
   .subst hi
    have:¬id=j:=fun h=>hj h.symm
    simp[wO,this,ak]
   .have sU:yq j i=yda:=by
     cases hq:yq j i with
     | false=>rfl
     | true=>exact absurd (yg hq) hi
    simp[sU,ak]
section
variable {O:bA}{H:Hint}{m:Mp}{S:Nat->Prop}{w:yj}{tm:Env}{a:Act}{hp:Hp}{ct:Nat}
def Src(P:xp)(w:yj)(size n:Nat)(news:List yh)(x:yh):Prop:=
 (∀w',(Builtin.lenOf x).run P w'=.ok n w')/\news.length=n*size/\
 ∀w',w'.heap=w.heap->∀k,k<=n->(Builtin.firstCells size k x).run P w'=.ok (news.take (k*size)).toArray w'
def FU{c:Nat}{b:uN}{news:List yh}(hl:news.length=n*size)(hc:∀j u,news[j]? =FL u->w.cell? (b.add j)=FL u):
  Src P w size n news (.slice (FL b) n c):=by
 refine⟨fun w'=>by simp[Builtin.lenOf],hl,fun w' hw k hk=>?_⟩;have hle:k*size<=news.length:=by rw[hl];exact yI _ hk
 refine run_firstCells_some (P:=P) w' size k b n c (news.take (k*size)) (by rw[yT];lia) (fun j v hv=>?_)
 rw[List.getElem?_take] at hv
 split at hv
 .have:=hc j v hv
  simpa[World.cell?,hw] using this
 .cases hv
def acY:Src P w size 0 [] (.slice FM 0 0):=
 ⟨fun w'=>by simp[Builtin.lenOf],by simp,fun w' _ k hk=>by simp[Builtin.firstCells]⟩
def ak3(s:ByteArray)(k:Nat):(s.extract 0 k).data.map (fun b=>Value.int .u8 b.toNat)=((s.data.toList.map fun b=>Value.int .u8 (b.toNat:Int)).take k).toArray:=by
 have:(s.extract 0 k).data=s.data.extract 0 k:=by simp
 grind
def aqb{s:ByteArray}:Src P w 1 s.size (s.data.toList.map fun b=>Value.int .u8 (b.toNat:Int)) (.string s):=by
 refine⟨fun w'=>by simp[Builtin.lenOf],by simp,fun w' _ k hk=>?_⟩;simp only[Builtin.firstCells,Sem.run_pure,Nat.mul_one];rw[ak3]
def ZG{ae:Nat->Nat}:∀l:List UInt8,aB ae m S w (Oi (l.map xk)) (l.map fun b=>Value.int .u8 (b.toNat:Int))
 | []=>by simp[Oi,aB]
 | b::r=>by
  exact⟨_,_,rfl,by simp[af],ZG r⟩
def Z8{vx:AV}(hh:aS O m S w hp ct)(hx:af O.ae m S w vx x)(h:lX hp size vx=FL (n,cs)):
  ∃us,aB O.ae m S w cs us/\Src O.P w size n us x:=by
 cases vx<;>simp only[lX,reduceCtorEq] at h
 case ah=>
  obtain⟨rfl,rfl⟩:=h;subst hx;exact⟨[],by simp[aB],acY⟩
 case au ex n' dB=>
  cases hc:yq dB.length (n'*size) with
  | false=>rw[hc] at h;cases h
  | true=>
   rw[hc] at h;obtain⟨rfl,rfl⟩:=h;have hl:=yg hc;rcases hx with ⟨b,o,c,rfl,h1,h2,h3,h4,h5⟩ | ⟨ad,rfl,rfl,rfl⟩
   .have ⟨us,g1,g2,g3⟩:=zm _ b o h5;exact⟨us,g1,FU (by lia) (fun j u hj=>by rw[n9];exact g3 j u hj)⟩
   .exact ⟨[],by simp[aB],FU (by simp) (fun j u hj=>by simp at hj)⟩
 case ax id o n'=>
  cases hg:ak hp id with
  | none=>simp[hg] at h
  | some ob=>
   cases ob<;>simp only[hg,reduceCtorEq] at h
   rename_i rw pu ex z dB
   cases hc:yE (o+n'*size) dB.length with
   | false=>rw[hc] at h;cases h
   | true=>
    rw[hc] at h;simp only[yx,yc,yo] at h;obtain⟨rfl,rfl⟩:=h;have hl:=yv hc;obtain⟨p,c,hm,rfl,h1,h2⟩:=hx;have hr:=Tm (o:=0) (n:=0) hh hg hm;have nM:=AK (n'*size) _ _ _ (rZ o _ _ _ hr);have⟨us,g1,g2,g3⟩:=zm _ p.b (p.o+o) nM;refine⟨us,g1,FU ?_ (fun j u hj=>by rw[n9];exact g3 j u hj)⟩
    grind
def aaP{vx:AV}(hh:aS O m S w hp ct)(hx:af O.ae m S w vx x)(h:jk hp size vx=FL (n,cs)):
  ∃us,aB O.ae m S w cs us/\Src O.P w size n us x:=by
 cases vx<;>try exact Z8 hh hx h
 simp only[jk] at h
 cases hc:yq size 1 with
 | false=>rw[hc] at h;cases h
 | true=>
  rw[hc] at h;obtain⟨rfl,rfl⟩:=h
  have:=yg hc
  subst this;obtain⟨t,rfl,rfl⟩:=hx;refine⟨_,ZG _,?_⟩
  have:(List.map xk t.data.toList).length=t.size:=by simp
  rw[this];exact aqb
def akg{t u ty e:yA}{i:ycW}(ht:P.underlying t=FL (.slice e))(hu:(∃e',P.underlying u=FL (.slice e'))\/P.underlying u=FL .string)(hi:P.info? e=FL i){g o js sB:Nat}{Mj:Array yh}{te:yA}(hg:w.heap[g]? =FL (.cells Mj te (0,0))){news:List yh}(hs:Src P w i.size n news x)(h1:∀u∈news,u.oneCell'=ycZ)(GU:js+n<=sB)(VV:o+js*i.size+news.length<=Mj.size):
  (Builtin.append_ #[t,u] ty #[.slice (FL ⟨g,o,FM⟩) js sB,x]).run P w=
   .ok (.slice (FL ⟨g,o,FM⟩) (js+n) sB) (w.setRow g (Mj.toList.take (o+js*i.size)++news++Mj.toList.drop (o+js*i.size+news.length)).toArray):=by
 have⟨mV,BG,XO⟩:=hs;have hf:=XO w rfl n (yu _);rw[yK (by lia)] at hf;have aM:=run_storeCells_at P g (o+js*i.size) te news 0 Mj w hg (by lia) h1;rcases hu with ⟨e',hd⟩ | hd<;>
  simp[Builtin.append_,run_underlying ht,run_underlying hd,vB,typeInfo,hi,mV,GU,hf,n9,aM]
def Nh{t u ty e:yA}{i:ycW}{z:yh}(ht:P.underlying t=FL (.slice e))(hu:(∃e',P.underlying u=FL (.slice e'))\/P.underlying u=FL .string)(hi:P.info? e=FL i)(hz:i.zero=FL z){s:yh}{base:Option uN}{js sB:Nat}(es:s=.slice base js sB){mN:List yh}(ho:Src P w i.size js mN s){news:List yh}(hs:Src P w i.size n news x)(hg:sB<js+n)(h63:js+n<=1099511627776)(XN:(js+n)*i.bytes<=1099511627776):
  (Builtin.append_ #[t,u] ty #[s,x]).run P w=
   .ok (.slice (FL ⟨w.heap.size,0,FM⟩) (js+n) (grownCap w (js+n) sB e))
    (w.drew.alloc (.cells ((mN++news).toArray++Builtin.zeroCells z.cells (grownCap w (js+n) sB e-(js+n))) e)):=by
 have⟨mV,BG,XO⟩:=hs;have⟨ho1,XP,ho3⟩:=ho;have hf:=XO w.drew rfl n (yu _);rw[yK (by lia)] at hf;have hfo:=ho3 w.drew rfl js (yu _);have hn:¬(js+n<=sB):=by lia
 have ayB:¬(9223372036854775807<((js:Int)+(n:Int))):=by lia
 have VV:=growslice_fits (need:=js+n) (old:=sB) (bytes:=i.bytes) hg (by lia);have ayC:¬(281474976710656<Builtin.nextslicecap (js+n) sB*i.bytes):=by lia
 subst es;rcases hu with ⟨e',hd⟩ | hd
 all_goals
  simp[Builtin.append_,run_underlying ht,run_underlying hd,vB,typeInfo,zeroValue,hi,hz,mV,hn,ayB,ayC,Question.forced,hf,hfo,newRow,askRoom,grownCap]
  grind
def SV{e:yA}{z:yh}{sz need cap:Nat}{us:List yh}(hh:aS O m S w hp ct)(hr:aB O.ae m S w cs us)(hl:us.length=need*sz)(hz:z.cells.size=sz)(Eo:Bool)(Mk:Eo=ycZ->aG cs=ycZ)(hc:need<=cap):
  let w':=w.drew.alloc (.cells (us.toArray++Builtin.zeroCells z.cells (cap-need)) e)
  let p:Pl:=⟨w.heap.size,0,cap*sz,sz⟩
  ∀m',dh m m'->m' ct=FL p->fk O m' S w' ct (.cells ycZ Eo yda sz cs):=by
 intro w' p m' hm hi;have aM:fY S w w':=fun b hb=>by
  have:=hh.slt b hb
  exact RowKit.Below.heap_alloc w.drew _ b (by simpa using this)
 have jO:w'.heap[w.heap.size]? =FL (.cells (us.toArray++Builtin.zeroCells z.cells (cap-need)) e (0,0)):=heap_alloc_new w.drew _;have gM:=gU _ _ hr;refine⟨p,_,e,hi,jO,rfl,?_,?_,by simp,?_,Mk,?_,by simp⟩
 .show cs.length<=cap*sz
  rw[<-gM,hl];exact yI _ hc
 .show 0+cap*sz<=_
  rw[Array.size_append,tu,size_zeroCells,hz,hl,<-xH]
  grind
 .refine NH jO cs us 0 (ir hm (fun _ h=>h) aM _ _ hr) (fun j u hj=>?_)
  grind
 .intro _ hS
  have:=hh.slt _ hS
  grind
def aj3(hh:aS O m S w hp ct)(g:yal):fY S w (w.drew.alloc g):=fun b hb=>by
 have:=hh.slt b hb
 exact RowKit.Below.heap_alloc w.drew _ b (by simpa using this)
def SW(hh:aS O m S w hp ct){hp0:Hp}{g:yal}{p:Pl}{o:Obj}(PM:∀i q,ak hp0 i=FL q->ak hp i=FL q)(hb:p.b=w.heap.size)(ho:∀m',dh m m'->m' ct=FL p->fk O m' S (w.drew.alloc g) ct o):
  aS O (fL m ct p) S (w.drew.alloc g) ((ct,o)::hp0) (ct+1)/\cf m S w hp (fL m ct p) S (w.drew.alloc g) ((ct,o)::hp0) ct:=by
 have hn:m ct=FM:=by
  cases h:m ct with
  | none=>rfl
  | some q=>have:=hh.lt _ _ h;lia
 have hle:=jF hn (p:=p);have aM:=aj3 hh g;have hold:∀b,b<w.heap.size->(w.drew.alloc g).heap[b]? =w.heap[b]? :=fun b hb=>RowKit.Below.heap_alloc w.drew _ b (by simpa using hb)
 have eG:(w.drew.alloc g).heap.size=w.heap.size+1:=by simp
 have cG:∀i q,ak ((ct,o)::hp0) i=FL q->i≠ct->ak hp i=FL q:=fun i q h hi=>by
  rw[fH,yt (fun e=>hi e.symm)] at h
  grind
 refine⟨⟨?_,?_,?_,?_,?_,?_,?_,?_,fun i q hq=>(by
  by_cases hc:i=ct
  .lia
  .have:=hh.aH _ _ (cG i q hq hc);lia)⟩,⟨rfl,rfl,rfl,by lia,?_,fun _ h=>h,fun b hb=>aM b hb,fun b hb=>.inl hb,?_,fun i q _ h=>hle i q h,fun b r hb=>⟨r,(hold b (xv.1 hb).1).trans hb⟩⟩⟩
 .intro i q pi hi bK;by_cases hc:i=ct
  .subst hc;rw[fH] at hi;simp only[xA,yc] at hi;subst hi;exact ho _ hle dE
  .rw [ep hc] at bK;exact zn hle (fun _ h=>h) aM (fun q' bO=>hold _ (hh.blt i q' bO)) (fun _ _ h=>h) (hh.obj i q pi (cG i q hi hc) bK)
 .intro i q bK;by_cases hc:i=ct
  .lia
  .rw [ep hc] at bK;have:=hh.lt i q bK;lia
 .intro i j oi oj pi pj hi hj bK gN e;by_cases ci:i=ct
  .by_cases cj:j=ct
   .grind
   .subst ci;rw[dE] at bK;rw[ep cj] at gN;injection bK with bK
    subst bK
    have:=hh.blt j pj gN
    lia
  .rw [ep ci] at bK;by_cases cj:j=ct
   .subst cj;rw[dE] at gN;injection gN with gN
    subst gN
    have:=hh.blt i pi bK
    lia
   .rw [ep cj] at gN;exact hh.inj i j oi oj pi pj (cG i oi hi ci) (cG j oj hj cj) bK gN e
 .intro b hb;have:=hh.slt b hb;lia
 .intro i q bK;by_cases hc:i=ct
  .subst hc;rw[dE] at bK;injection bK with bK
   subst bK
   lia
  .rw [ep hc] at bK;have:=hh.blt i q bK;lia
 .intro i q bK;have h0:=hh.gi;by_cases hc:i=ct
  .subst hc;rw[dE] at bK;injection bK with bK
   subst bK
   lia
  .rw [ep hc] at bK;exact hh.low i q bK
 .intro b hb;have h0:=hh.gi;exact (hold b (by lia)).trans (hh.mM b hb)
 .have h0:=hh.gi;lia
 .intro b hb _;exact hold b hb
 .rintro b ⟨i,q,pi,h1,h2,h3⟩;by_cases hc:i=ct
  .subst hc;rw[dE] at h2;injection h2 with h2
   subst h2;exact .inr (by lia)
  .rw [ep hc] at h2;exact .inl ⟨i,q,pi,cG i q h1 hc,h2,h3⟩
def al3(hh:aS O m S w hp ct){id:Nat}{o o':Obj}{p p':Pl}{w':yj}(hg:ak hp id=FL o)(hm:m id=FL p)(hn:¬S p.b)(hw:One w w' p.b)(hk:∀r:uY,w.heap[p.b]? =FL (.loop r)->∃r':uY,w'.heap[p.b]? =FL (.loop r'))(hb:p'.b=p.b)(ho:∀m',dh m m'->m' ct=FL p'->fk O m' S w' ct o'):
  aS O (fL m ct p') S w' ((ct,o')::cT hp id) (ct+1)/\cf m S w hp (fL m ct p') S w' ((ct,o')::cT hp id) ct:=by
 have jB:m ct=FM:=by
  cases h:m ct with
  | none=>rfl
  | some q=>have:=hh.lt _ _ h;lia
 have hle:=jF jB (p:=p');have aM:fY S w w':=fun b hb=>hw.other b (fun e=>hn (e▸hb))
 have cG:∀i q,ak ((ct,o')::cT hp id) i=FL q->i≠ct->ak hp i=FL q/\i≠id:=fun i q h hi=>by
  rw[fH,yt (fun e=>hi e.symm),Jh] at h
  grind
 have ago:∀i q pi,ak hp i=FL q->i≠id->m i=FL pi->pi.b≠p.b:=fun i q pi h hi bK e=>hi (hh.inj i id q o pi p h hg bK hm e)
 refine⟨⟨?_,?_,?_,?_,?_,?_,?_,?_,fun i q hq=>(by
  by_cases hc:i=ct
  .lia
  .have:=hh.aH _ _ (cG i q hq hc).1;lia)⟩,⟨hw.os,hw.tape,hw.output,by rw[hw.size];exact yu _,?_,fun _ h=>h,fun b hb=>aM b hb,fun b hb=>.inl hb,?_,fun i q _ h=>hle i q h,fun b r hb=>(by
  by_cases hc:b=p.b
  .grind
  .exact ⟨r,(hw.other b hc).trans hb⟩)⟩⟩
 .intro i q pi hi bK;by_cases hc:i=ct
  .subst hc;rw[fH] at hi;simp only[xA,yc] at hi;subst hi;exact ho _ hle dE
  .rw [ep hc] at bK;have⟨h1,h2⟩:=cG i q hi hc;exact zn hle (fun _ h=>h) aM (fun q' bO=>hw.other _ (ago i q q' h1 h2 bO)) (fun _ _ h=>h) (hh.obj i q pi h1 bK)
 .intro i q bK;by_cases hc:i=ct
  .lia
  .rw [ep hc] at bK;have:=hh.lt i q bK;lia
 .intro i j oi oj pi pj hi hj bK gN e;by_cases ci:i=ct
  .by_cases cj:j=ct
   .grind
   .subst ci;rw[dE] at bK;rw[ep cj] at gN
    grind
  .rw [ep ci] at bK;have⟨h1,h2⟩:=cG i oi hi ci;by_cases cj:j=ct
   .subst cj;rw[dE] at gN;injection gN with gN
    subst gN;exact (ago i oi pi h1 h2 bK (by rw[e,hb])).elim
   .rw [ep cj] at gN;exact hh.inj i j oi oj pi pj h1 (cG j oj hj cj).1 bK gN e
 .intro b hb;rw[hw.size];exact hh.slt b hb
 .intro i q bK;rw[hw.size];by_cases hc:i=ct
  .subst hc;rw[dE] at bK;injection bK with bK
   subst bK;rw[hb];exact hh.blt id p hm
  .rw [ep hc] at bK;exact hh.blt i q bK
 .intro i q bK;by_cases hc:i=ct
  .subst hc;rw[dE] at bK;injection bK with bK
   subst bK;rw[hb];exact hh.low id p hm
  .rw [ep hc] at bK;exact hh.low i q bK
 .intro b hb
  rw[hw.other b (fun e=>by have:=hh.low id p hm;lia)]
  exact hh.mM b hb
 .rw [hw.size];exact hh.gi
 .intro b _ bG;exact hw.other b (fun e=>bG (e▸JP hg hm))
 .rintro b ⟨i,q,pi,h1,h2,h3⟩;by_cases hc:i=ct
  .subst hc;rw[dE] at h2;injection h2 with h2
   subst h2;exact .inl ⟨id,o,p,hg,hm,by rw[<-h3,hb]⟩
  .rw [ep hc] at h2;exact .inl ⟨i,q,pi,(cG i q h1 hc).1,h2,h3⟩
def acZ{e:yA}{s by':Nat}{z:AV}(hs:cu P e=FL s)(hb:Ad P e=FL by')(hz:mK P e=FL z):
  ∃ti zv,P.info? e=FL ti/\ti.size=s/\ti.bytes=by'/\ti.zero=FL zv/\z=eX zv:=by
 unfold cu at hs;unfold Ad at hb;unfold mK at hz
 cases hi:P.info? e with
 | none=>simp[hi] at hs
 | some ti=>
  simp only[hi,yc] at hs hb hz
  cases dc:ti.zero with
  | none=>simp[dc] at hz
  | some zv=>
   grind
def Jr{o:yV}{v:AV}{u:yh}{w':yj}{m':Mp}{S':Nat->Prop}{an:Hp}{aU:Nat}(h1:(execOp a.eval o).run O.P w=.ok (.value u) w')(h2:aS O m' S' w' an aU)(h3:af O.ae m' S' w' v u)(h4:dh m m')(h5:cf m S w hp m' S' w' an ct):A5 O m S w a hp ct o v an aU:=⟨_,u,w',m',S',h1,.inl rfl,h2,h3,h4,h5⟩
def anW{o:yV}{b':yA}{t u e:yA}{sz by':Nat}{z:AV}{x y:xt}{v:AV}{an:Hp}{aU:Nat}(hH:fh O H)(ht:bV O m S w tm a.tmps)(hh:aS O m S w hp ct)(dT:(execOp a.eval o).run O.P w=((do pure (.value (<-Builtin.append_ #[t,u] b' #[a.eval x,a.eval y])):Sem yaF)).run O.P w)(Am:O.P.underlying t=FL (.slice e))(hu:(∃e',O.P.underlying u=FL (.slice e'))\/O.P.underlying u=FL .string)(hs:cu O.P e=FL sz)(hb:Ad O.P e=FL by')(hz:mK O.P e=FL z)(sR:(cellsOf z).length=sz)(hv:cp tm hp ct (.db sz by' (aJ H x) (aJ H y))=FL (v,an,aU)):A5 O m S w a hp ct o v an aU:=by
 simp only[cp] at hv;obtain⟨ti,zv,sT,rfl,rfl,Ml,rfl⟩:=acZ hs hb hz;have aO:∀u' w',(Builtin.append_ #[t,u] b' #[a.eval x,a.eval y]).run O.P w=.ok u' w'->(execOp a.eval o).run O.P w=.ok (.value u') w':=fun u' w' h=>by
  rw[dT,Sem.run_bind,h];rfl
 have zJ:m ct=FM:=by
  cases h:m ct with
  | none=>rfl
  | some q=>have:=hh.lt _ _ h;lia
 have E8:zv.cells.size=ti.size:=by
  have:=gU _ _ (DJ (ae:=O.ae) (m:=m) (S:=S) (w:=w) zv)
  rw[<-sR,<-this];simp
 cases ot:jk hp ti.size (ay tm (aJ H y)) with
 | none=>simp[ot] at hv
 | some q=>
  have⟨n,new⟩:=q;simp only[ot] at hv;have⟨news,kG,dQ⟩:=aaP hh (bW hH ht y) ot;have Mm:=gU _ _ kG;have rx:=bW hH ht x
  cases hx:ay tm (aJ H x) with
  | ah=>
   rw[hx] at hv rx;simp only at hv;simp only[af] at rx
   cases h0:yq n 0 with
   | true=>
    rw[h0] at hv;simp only[yx,yc,yo] at hv;obtain⟨rfl,rfl,rfl⟩:=hv;have pQ:=yg h0;subst pQ;have Va:news=[]:=yL (by rw[dQ.2.1];simp)
    subst Va;have hf:=dQ.2.2 w rfl 0 (yu _);have lL:=dQ.1 w;refine⟨.value (.slice FM 0 0),.slice FM 0 0,w,m,S,?_,.inl rfl,hh,by simp[af],dh.refl,cf.refl⟩;rw[dT,rx];rcases hu with ⟨e',hu⟩ | hu<;>
     simp[Builtin.append_,run_underlying Am,run_underlying hu,vB,typeInfo,sT,lL,hf]
   | false=>
    rw[h0] at hv;simp only[yR] at hv
    cases hc:(yE n room&&(yE (n*ti.bytes) room&&yO 0 ti.size)) with
    | false=>rw[hc] at hv;cases hv
    | true=>
     rw[hc] at hv;simp only[yx,yc,yo] at hv;obtain⟨rfl,rfl,rfl⟩:=hv;simp only[yf] at hc;have c1:=yv hc.1;have c2:=yv hc.2.1;simp only[room] at c1 c2;have pQ:0<n:=by
      rcases xj n with h | h
      .subst h;simp at h0
      .exact h
     have hr:=Nh (P:=O.P) (ty:=b') (w:=w) Am hu sT Ml (s:=.slice FM 0 0) rfl (acY (P:=O.P) (size:=ti.size)) dQ (by lia) (by lia) (by simpa using c2);simp only[yd,List.nil_append] at hr;have je:=grownCap_ge w n 0 e;have jO:=SV (e:=e) (z:=zv) (cap:=grownCap w n 0 e) hh kG (need:=n) (sz:=ti.size) dQ.2.1 E8 (aG new) (fun h=>h) je;have⟨k1,k2⟩:=SW hh (hp0:=hp) (p:=⟨w.heap.size,0,grownCap w n 0 e*ti.size,ti.size⟩) (fun _ _ h=>h) rfl jO;exact Jr (aO _ _ (by rw[rx];exact hr)) k1 (by simp only[af];exact⟨_,_,dE,rfl,je,by simp⟩) (jF zJ) k2
  | au ex k cs=>
   rw[hx] at hv rx
   cases ex with
   | false=>simp at hv
   | true=>
    simp only at hv;have rx0:=rx;simp only[af] at rx;have rx1:∃ad mN,a.eval x=.slice (FL ad) k k/\aB O.ae m S w cs mN/\mN.length=cs.length/\(∀(j:Nat) (u:yh),mN[j]? =FL u->w.cell? (ad.add j)=FL u)/\aG cs=ycZ:=by
     rcases rx with ⟨bb,oo,c,ex,h1,h2,h3,h4,h5⟩ | ⟨ad,ex,rfl,rfl⟩
     .have cO:c=k:=h2 (by trivial);subst cO;have⟨mN,g1,g2,g3⟩:=zm cs bb oo h5;exact⟨_,mN,ex,g1,g2,fun j u hj=>by rw[n9];exact g3 j u hj,h4⟩
     .exact ⟨ad,[],ex,by simp[aB],rfl,fun j u hj=>by simp at hj,rfl⟩
    have⟨ad,mN,ex,g1,g2,g3,h4⟩:=rx1
    cases h0:yq n 0 with
    | true=>
     rw[h0] at hv;simp only[yx,yc,yo] at hv;obtain⟨rfl,rfl,rfl⟩:=hv;have pQ:=yg h0;subst pQ;have Va:news=[]:=yL (by rw[dQ.2.1];simp)
     subst Va;have hf:=dQ.2.2 w rfl 0 (yu _);have lL:=dQ.1 w;refine⟨.value (a.eval x),a.eval x,w,m,S,?_,.inl rfl,hh,rx0,dh.refl,cf.refl⟩;rw[dT,ex];rcases hu with ⟨e',hu⟩ | hu<;>
      simp[Builtin.append_,run_underlying Am,run_underlying hu,vB,typeInfo,sT,lL,hf,storeCells]
    | false=>
     rw[h0] at hv;simp only[yR] at hv
     cases hc:(yE (k+n) room&&(yE ((k+n)*ti.bytes) room&&(yq cs.length (k*ti.size)&&yO 0 ti.size))) with
     | false=>rw[hc] at hv;cases hv
     | true=>
      rw[hc] at hv;simp only[yx,yc,yo] at hv;obtain⟨rfl,rfl,rfl⟩:=hv;simp only[yf] at hc;have c1:=yv hc.1;have c2:=yv hc.2.1;have c3:=yg hc.2.2.1;simp only[room] at c1 c2;have pQ:0<n:=by
       rcases xj n with h | h
       .subst h;simp at h0
       .exact h
      have Mn:Src O.P w ti.size k mN (.slice (FL ad) k k):=FU (by lia) g3;have hr:=Nh (P:=O.P) (ty:=b') (w:=w) Am hu sT Ml rfl Mn dQ (by lia) c1 c2;have je:=grownCap_ge w (k+n) k e;have jO:=SV (e:=e) (z:=zv) (cap:=grownCap w (k+n) k e) hh (mz g1 kG) (need:=k+n) (sz:=ti.size) (by rw[yN,g2,c3,dQ.2.1,xH]) E8 (aG cs&&aG new)
       (fun h=>by simp only[yf] at h;exact DK h.1 h.2) je
      have⟨k1,k2⟩:=SW hh (hp0:=hp) (p:=⟨w.heap.size,0,grownCap w (k+n) k e*ti.size,ti.size⟩) (fun _ _ h=>h) rfl jO;exact Jr (aO _ _ (by rw[ex];exact hr)) k1 (by simp only[af];exact⟨_,_,dE,rfl,je,by simp⟩) (jF zJ) k2
  | ax id o0 k=>
   rw[hx] at hv rx;simp only at hv;simp only[af] at rx;have⟨p,c,hm,ex,h1,h2⟩:=rx
   split at hv
   case h_2=>cases hv
   rename_i pu Rc zz cs hg
   cases hc:(yq zz ti.size&&(yE (k+n) room&&(yE ((k+n)*ti.bytes) room&&(yE (o0+k*ti.size) cs.length&&(yO 0 ti.size&&cd new))))) with
   | false=>rw[hc] at hv;cases hv
   | true=>
    rw[hc] at hv;simp only[yx,yc,yo] at hv;obtain⟨rfl,rfl,rfl⟩:=hv;simp only[yf] at hc;have c0:=yg hc.1;have c1:=yv hc.2.1;have c2:=yv hc.2.2.1;have c3:=yv hc.2.2.2.1;have c4:=hc.2.2.2.2.2;simp only[room] at c1 c2;have⟨p',arr,t',g1,g2,g3,g4,g5,g6,g7,g8,g9,g10⟩:=hh.obj id _ _ hg hm;rw[hm] at g1;injection g1 with g1
    subst g1;subst c0;rw[g3] at h2;have HG:bU O.ae m S w (slice o0 (k*ti.size) cs) p.b (p.o+o0):=AK _ _ _ _ (rZ _ _ _ _ g7);have⟨mN,f1,f2,f3⟩:=zm _ _ _ HG;have PN:(slice o0 (k*ti.size) cs).length=k*ti.size:=by simp only[slice,yT,xY];lia
    have nJ:(pu&&aG new)=ycZ->aG (slice o0 (k*ti.size) cs++new)=ycZ:=fun h=>by
     simp only[yf] at h;exact DK (B3 _ (AL _ _ (g8 h.1))) h.2
    by_cases GU:k+n<=c
    .have gK:=NI kG c4;have VV:p.o+o0+k*ti.size+news.length<=arr.size:=by
      rw[dQ.2.1]
      have:(k+n)*ti.size<=c*ti.size:=yI _ GU
      rw[xH] at this
      lia
     have hr:=akg (P:=O.P) (ty:=b') (w:=w) Am hu sT g2 dQ gK GU VV;have ho:∀m',dh m m'->m' ct=FL ⟨p.b,p.o+o0,c*ti.size,ti.size⟩->
       fk O m' S (w.setRow p.b (arr.toList.take (p.o+o0+k*ti.size)++news++arr.toList.drop (p.o+o0+k*ti.size+news.length)).toArray) ct
        (.cells ycZ (pu&&aG new) yda ti.size (slice o0 (k*ti.size) cs++new)):=by
      intro m' hle hi;have aM:fY S w (w.setRow p.b (arr.toList.take (p.o+o0+k*ti.size)++news++arr.toList.drop (p.o+o0+k*ti.size+news.length)).toArray):=fun b hb=>setRow_other w p.b b _ (fun e=>g9 rfl (e▸hb))
      refine⟨_,_,t',hi,setRow_heap w p.b arr _ t' _ g2,rfl,?_,?_,by simp,?_,nJ,fun _=>g9 rfl,by simp⟩
      .show (slice o0 (k*ti.size) cs++new).length<=c*ti.size
       rw[yN,PN,<-Mm,dQ.2.1,<-xH];exact yI _ GU
      .show p.o+o0+c*ti.size<=_
       rw[tu,yN,yN,yT,xY,vG]
       lia
      .refine FY _ (mN++news) _ (mz (ir hle (fun _ h=>h) aM _ _ f1) (ir hle (fun _ h=>h) aM _ _ kG)) (fun j u hj=>?_);show World.cell? _ ⟨p.b,p.o+o0+j,FM⟩=FL u
       simp only[World.cell?,setRow_heap w p.b arr _ t' _ g2,tN,yC,xm];rw[yaL];have e1:(arr.toList.take (p.o+o0+k*ti.size)).length=p.o+o0+k*ti.size:=by rw[yT,vG];lia
       by_cases Mf:j<k*ti.size
       .rw [wC (by lia)] at hj;rw[xy,wC (by lia),tj (by lia)]
        have:=f3 j u hj
        simpa[World.cell?,g2] using this
       .rw [wm (by lia)] at hj;have hjl:=(List.getElem?_eq_some_iff.1 hj).1;rw[xy,wm (by lia),e1,wC (by lia),show p.o+o0+j-(p.o+o0+k*ti.size)=j-mN.length by lia];exact hj
     have⟨k1,k2⟩:=al3 (p':=⟨p.b,p.o+o0,c*ti.size,ti.size⟩) hh hg hm (g9 rfl) (Sy w p.b _) (fun r hr=>by rw[g2] at hr;cases hr) rfl ho;exact Jr (aO _ _ (by rw[ex];exact hr)) k1 (by simp only[af];exact⟨_,c,dE,rfl,GU,by simp⟩) (jF zJ) k2
    .have Mn:Src O.P w ti.size k mN (.slice (FL ⟨p.b,p.o+o0,FM⟩) k c):=FU (by lia) (fun j u hj=>by rw[n9];exact f3 j u hj)
     have hr:=Nh (P:=O.P) (ty:=b') (w:=w) Am hu sT Ml rfl Mn dQ (by lia) c1 c2;have je:=grownCap_ge w (k+n) c e;have jO:=SV (e:=e) (z:=zv) (cap:=grownCap w (k+n) c e) hh (mz f1 kG) (need:=k+n) (sz:=ti.size) (by rw[yN,f2,PN,dQ.2.1,xH]) E8 (pu&&aG new) nJ je;have⟨k1,k2⟩:=SW hh (hp0:=cT hp id) (p:=⟨w.heap.size,0,grownCap w (k+n) c e*ti.size,ti.size⟩) (fun i q h=>by
      rw[Jh] at h;by_cases hi:id=i
      .simp [hi] at h
      .simpa only [hi,xm] using h) rfl jO
     exact Jr (aO _ _ (by rw[ex];exact hr)) k1 (by simp only[af];exact⟨_,_,dE,rfl,je,by simp⟩) (jF zJ) k2
  | _=>rw[hx] at hv;simp at hv
end
end
end
section
open Go
section
variable {O:bA}{H:Hint}{m:Mp}{S:Nat->Prop}{w:yj}{tm:Env}{a:Act}{hp:Hp}{ct:Nat}
def akw{n:Nat}{cs:List AV}(h:aG cs=ycZ):aG (cs.take n)=ycZ:=B3 n h
def Zv:∀(n:Nat) {cs:List AV},cd cs=ycZ->cd (cs.take n)=ycZ
 | 0,_,_=>by simp[cd]
 | n+1,[],_=>by simp[cd]
 | n+1,c::cs,h=>by
  simp only[wD,cd,yf] at h ⊢;exact⟨h.1,Zv n h.2⟩
def anX{o:yV}{b':yA}{t u e:yA}{sz:Nat}{x y:xt}{v:AV}{an:Hp}{aU:Nat}(hH:fh O H)(ht:bV O m S w tm a.tmps)(hh:aS O m S w hp ct)(dT:(execOp a.eval o).run O.P w=((do pure (.value (<-Builtin.copy_ #[t,u] b' #[a.eval x,a.eval y])):Sem yaF)).run O.P w)(Am:O.P.underlying t=FL (.slice e))(hs:cu O.P e=FL sz)(hv:cp tm hp ct (.rH sz (aJ H x) (aJ H y))=FL (v,an,aU)):A5 O m S w a hp ct o v an aU:=by
 simp only[cp] at hv
 cases ot:lX hp sz (ay tm (aJ H y)) with
 | none=>simp[ot] at hv
 | some q=>
  have⟨n,new⟩:=q;simp only[ot] at hv;have⟨news,kG,dQ⟩:=Z8 hh (bW hH ht y) ot;have Mm:=gU _ _ kG;have rx:=bW hH ht x;cases hx:ay tm (aJ H x)<;>rw[hx] at hv rx<;>simp only[reduceCtorEq] at hv
  rename_i id o0 k;simp only[af] at rx;have⟨p,c,hm,ex,h1,h2⟩:=rx
  split at hv
  case h_2=>cases hv
  rename_i pu Rc zz cs hg
  cases hc:(yq zz sz&&(yE (o0+k*sz) cs.length&&cd new)) with
  | false=>rw[hc] at hv;cases hv
  | true=>
   rw[hc] at hv;simp only[yx,yc,yo] at hv;obtain⟨rfl,rfl,rfl⟩:=hv;simp only[yf] at hc;have c0:=yg hc.1;have c1:=yv hc.2.1;subst c0;have⟨p',arr,t',g1,g2,g3,g4,g5,g6,g7,g8,g9,g10⟩:=hh.obj id _ _ hg hm;rw[hm] at g1;injection g1 with g1
   subst g1;have agp:min n k*zz<=k*zz:=yI _ (Nat.min_le_right _ _);have aEC:min n k*zz<=n*zz:=yI _ (ybL _ _);have rt:=FT (min n k*zz) kG;have An:(news.take (min n k*zz)).length=min n k*zz:=by rw[yT,dQ.2.1];lia
   have aEM:(new.take (min n k*zz)).length=min n k*zz:=by rw[yT,<-Mm,dQ.2.1];lia
   have gK:=NI rt (Zv _ hc.2.2);have hf:=dQ.2.2 w rfl (min n k) (ybL _ _);have aM:=run_storeCells_at O.P p.b (p.o+o0) t' (news.take (min n k*zz)) 0 arr w g2 (by rw[An];lia) gK
   simp only[y5] at aM;have pP:fk O m S (w.setRow p.b (arr.toList.take (p.o+o0)++news.take (min n k*zz)++arr.toList.drop (p.o+o0+(news.take (min n k*zz)).length)).toArray) id
     (.cells ycZ (pu&&aG new) Rc zz (over o0 (new.take (min n k*zz)) cs)):=by
    refine⟨p,_,t',hm,setRow_heap w p.b arr _ t' _ g2,g3,by rw[NX (by lia)];exact g4,?_,fun h=>by rw[NX (by lia)];exact g6 h,?_,?_,fun _=>g9 rfl,by simp⟩
    .rw [tu,yN,yN,yT,xY,vG,An];lia
    .exact abI g2 g7 rt (by lia) (by lia) dh.refl (fun _ h=>h) (fun b hb=>setRow_other w p.b b _ (fun e=>g9 rfl (e▸hb))) (setRow_heap w p.b arr _ t' _ g2)
    .intro h;simp only[yf] at h;exact Z7 (g8 h.1) (akw h.2)
   have⟨e1,e2⟩:=Jq hh hg hm (g9 rfl) (Sy w p.b _) pP (fun r hr=>by rw[g2] at hr;cases hr)
   refine Jr (u:=goInt ((min n k:Nat):Int)) (m':=m) (S':=S) ?_ e1 (by simp[af,goInt]) dh.refl e2;rw[dT,ex];simp[Builtin.copy_,run_underlying Am,dQ.1 w,oO hs,show Nat.min n k=min n k from rfl,hf,aM]
def aqc{o:yV}{k:Nat}{v:AV}{an:Hp}{aU:Nat}(hH:fh O H)(ht:bV O m S w tm a.tmps)(hh:aS O m S w hp ct)(hv:cp tm hp ct (aP O.P H k o)=FL (v,an,aU)):A5 O m S w a hp ct o v an aU:=by
 have iV:∀{r:AV×Hp×Nat},cp tm hp ct bad=FL r->False:=fun h=>by simp[bad,cp] at h
 cases ho:o.op with
 | call c=>
  obtain⟨callee,args,ts⟩:=c;simp only[aP,ho] at hv
  split at hv
  .cases E4:H.mode k<;>simp[E4,cp] at hv
  .rename_i _ b
   split at hv
   .rename_i x y t u eF nL;obtain⟨al⟩:=args;obtain⟨tl⟩:=ts;simp only at eF nL;subst eF;subst nL;obtain⟨cs,dT⟩:=AJ (O:=O) (w:=w) (a:=a) ho;have Er:(execOp a.eval o).run O.P w=((do pure (.value (<-Builtin.append_ #[t,u] o.type #[a.eval x,a.eval y])):Sem yaF)).run O.P w:=by
     rw[dT];simp[builtin]
    have key:∀{z:AV} {sz by':Nat} {e:yA},O.P.underlying t=FL (.slice e)->((∃e',O.P.underlying u=FL (.slice e'))\/O.P.underlying u=FL .string)->cu O.P e=FL sz->Ad O.P e=FL by'->mK O.P e=FL z->
      cp tm hp ct (bif yq (cellsOf z).length sz then .db sz by' (aJ H x) (aJ H y) else bad)=FL (v,an,aU)->A5 O m S w a hp ct o v an aU:=by
     intro z sz by' e h1 h2 h3 h4 h5 h
     cases hb:yq (cellsOf z).length sz with
     | false=>rw[hb] at h;exact (iV h).elim
     | true=>
      rw[hb] at h;exact anW hH ht hh Er h1 h2 h3 h4 h5 (yg hb) h
    split at hv
    .rename_i e e' h1 h2
     split at hv
     .rename_i sz by' z h3 h4 h5
      exact key h1 (.inl ⟨_,h2⟩) h3 h4 h5 hv
     .exact (iV hv).elim
    .rename_i e h1 h2
     split at hv
     .rename_i sz by' z h3 h4 h5
      exact key h1 (.inr h2) h3 h4 h5 hv
     .exact (iV hv).elim
    .exact (iV hv).elim
   .repeat' split at hv
    all_goals simp[cp,bad] at hv
   .rename_i x y t u eF nL;obtain⟨al⟩:=args;obtain⟨tl⟩:=ts;simp only at eF nL;subst eF;subst nL;obtain⟨cs,dT⟩:=AJ (O:=O) (w:=w) (a:=a) ho;have Er:(execOp a.eval o).run O.P w=((do pure (.value (<-Builtin.copy_ #[t,u] o.type #[a.eval x,a.eval y])):Sem yaF)).run O.P w:=by
     rw[dT];simp[builtin]
    split at hv
    .rename_i e h1
     split at hv
     .rename_i sz h3;exact anX hH ht hh Er h1 h3 hv
     .exact (iV hv).elim
    .exact (iV hv).elim
   .simp [cp] at hv
   .simp [cp] at hv
   .simp [cp] at hv
   .simp [cp] at hv
   .simp [cp] at hv
   .exact (iV hv).elim
  .exact (iV hv).elim
 | store t x y=>
  simp only[aP,ho] at hv
  split at hv
  .rename_i s hs;exact ap9 hH ht hh ho hs hv
  .exact (iV hv).elim
 | mapUpdate t x k y=>
  simp only[aP,ho] at hv
  split at hv
  .rename_i kt e hu
   split at hv
   .rename_i kk sO;exact abJ hH ht hh (.inl ho) hu sO hv
   .exact (iV hv).elim
  .exact (iV hv).elim
 | insert t x k y=>
  simp only[aP,ho] at hv
  split at hv
  .rename_i kt e hu
   split at hv
   .rename_i kk sO;exact abJ hH ht hh (.inr ho) hu sO hv
   .exact (iV hv).elim
  .exact (iV hv).elim
 | next x b=>
  cases b with
  | false=>simp only[aP,ho] at hv;exact (iV hv).elim
  | true=>exact anV hH ht hh ho (by simpa only[aP,ho] using hv)
 | binOp op t x y ty=>
  cases op<;>simp only[aP,ho,n8,oU] at hv
  case eql=>
        repeat' split at hv
        all_goals first
         | (simp[cp,bad] at hv;done)
         | (cases hb:(O.P.stoodInHeld t||O.P.eqGuardType O.P.depth t)<;>rw[hb] at hv<;>simp[cp,bad] at hv)
  case neq=>
        repeat' split at hv
        all_goals first
         | (simp[cp,bad] at hv;done)
         | (cases hb:(O.P.stoodInHeld t||O.P.eqGuardType O.P.depth t)<;>rw[hb] at hv<;>simp[cp,bad] at hv)
  all_goals simp[cp] at hv
 | buildSlice t n parts=>
  simp only[aP,ho] at hv
  repeat' split at hv
  all_goals first
   | (simp[cp,bad] at hv;done)
   | (
     revert hv;generalize yE _ _=bb;intro hv;cases bb<;>simp[cp,bad] at hv
     try (split at hv<;>simp[cp,bad] at hv))
 | makeMap t r=>
  cases r<;>simp only[aP,ho] at hv
  .repeat' split at hv
   all_goals simp[cp,bad] at hv
  .exact (iV hv).elim
 | _=>
  simp only[aP,ho] at hv
  (repeat' split at hv)
  all_goals first
   | contradiction
   | (simp[cp,bad] at hv;done)
end
end
section
variable {v x:AV}{hp:Hp}{o:Op}
section
variable {hp H:Hp}{tm tm':Env}
def ac0(hl:cR hp H){id:Nat}{rw pu ex:Bool}{sz:Nat}{cs:List AV}(h:ak hp id=FL (.cells rw pu ex sz cs)):∃da,ak H id=FL (.cells da pu ex sz cs):=by
 obtain⟨o',h1,da,rfl,_⟩:=hl id _ h
 grind
def ac1(hl:cR hp H){id:Nat}{rw:Bool}{ks vs:List AV}(h:ak hp id=FL (.mp rw ks vs)):∃da,ak H id=FL (.mp da ks vs):=by
 obtain⟨o',h1,da,rfl,_⟩:=hl id _ h
 grind
def Ub(hl:cR hp H){sz:Nat}{ag:Bool}(h:gJ hp sz ag x=FL v):gJ H sz ag x=FL v:=by
 cases x<;>simp only[gJ,reduceCtorEq] at h ⊢
 .rename_i id o
  cases hg:ak hp id with
  | none=>simp[hg] at h
  | some ob=>
   cases ob<;>simp only[hg,reduceCtorEq] at h
   obtain⟨r,h1⟩:=ac0 hl hg
   grind
 .exact h
def anY(hl:cR hp H){k:AV}{v:Option AV}(h:CD hp k x=FL v):CD H k x=FL v:=by
 cases x<;>simp only[CD,reduceCtorEq] at h ⊢
 .grind
 .rename_i id
  cases hg:ak hp id with
  | none=>simp[hg] at h
  | some ob=>
   cases ob<;>simp only[hg,reduceCtorEq] at h
   obtain⟨r,h1⟩:=ac1 hl hg
   grind
 .exact h
def anZ(hl:cR hp H){k:Nat}(h:kB hp k x=FL v):kB H k x=FL v:=by
 unfold kB at h ⊢
 split at h
 all_goals first
  | exact h
  | cases h
  | skip
 rename_i id
 cases hg:ak hp id with
 | none=>simp[hg] at h
 | some ob=>
  cases ob<;>simp only[hg,reduceCtorEq] at h
  obtain⟨r,h1⟩:=ac1 hl hg
  grind
def an0(hl:cR hp H){k:Cut}{lo hi:Option X}(h:fJ hp k x tm lo hi=FL v):fJ H k x tm lo hi=FL v:=by
 unfold fJ at h ⊢
 split at h
 all_goals first
  | exact h
  | cases h
  | skip
 rename_i sz id o n
 cases hg:ak hp id with
 | none=>simp[hg] at h
 | some ob=>
  cases ob<;>simp only[hg,reduceCtorEq] at h
  obtain⟨r,h1⟩:=ac0 hl hg
  grind
def al4(hl:cR hp H)(h:bg tm hp o=FL v):bg tm H o=FL v:=by
 cases o<;>simp only[bg,reduceCtorEq] at h ⊢<;>first
  | exact h
  | exact Ub hl h
  | exact anZ hl h
  | exact an0 hl h
  | skip
 rename_i kk zero ok m k
 cases hk:oS kk (ay tm k) with
 | false=>rw[hk] at h;cases h
 | true=>
  rw[hk] at h
  cases hr:CD hp (ay tm k) (ay tm m) with
  | none=>simp[hr] at h
  | some r=>rw[anY hl hr];simpa only[hr] using h
def al5(hk:bj o=0)(hp H:Hp):bg tm hp o=bg tm H o:=by
 cases o with
 | rC k x lo hi=>
  cases k with
  | str=>simp only[bg,fJ];cases ay tm x<;>rfl
  | sl sz=>simp[bj] at hk
  | ar n sz=>simp[bj] at hk
 | len k x=>
  match k,hk with
  | 0,_=>simp only[bg];unfold kB;split<;>simp_all
  | 1,_=>simp only[bg];unfold kB;split<;>simp_all
  | k+2,hk=>simp[bj] at hk
 | call md f xs=>cases md<;>simp[bj] at hk
 | _=>first
  | rfl
  | simp[bj] at hk
end
section
variable {tm tm':Env}
def dF{x:X}(h:∀t,t∈jJ x->aj tm' t=aj tm t):ay tm' x=ay tm x:=by
 cases x with
 | t i=>exact h i (by simp[jJ])
 | c v=>rfl
def DM:∀{xs:List X},(∀t,t∈AW xs->aj tm' t=aj tm t)->dG tm' xs=dG tm xs
 | [],_=>rfl
 | x::r,h=>by
  simp only[dG]
  rw[dF (x:=x) (fun t ht=>h t (by simp[AW,ht])),DM (fun t ht=>h t (by simp[AW,ht]))]
def NJ:∀{ps:List (Nat×Nat×X)} {z:List AV},(∀t,t∈KC ps->aj tm' t=aj tm t)->fill tm' z ps=fill tm z ps
 | [],_,_=>rfl
 | (o,s,x)::r,z,h=>by
  simp only[fill]
  rw[dF (x:=x) (fun t ht=>h t (by simp[KC,ht]))]
  rw[NJ (ps:=r) (fun t ht=>h t (by simp[KC,ht]))]
def Z9{d:Nat}{x:Option X}(h:∀t,t∈KB x->aj tm' t=aj tm t):cV tm' d x=cV tm d x:=by
 cases x with
 | none=>rfl
 | some x=>simp only[cV];rw[dF h]
def ak4{k:Cut}{lo hi:Option X}(h1:∀t,t∈KB lo->aj tm' t=aj tm t)(h2:∀t,t∈KB hi->aj tm' t=aj tm t):
  fJ hp k x tm' lo hi=fJ hp k x tm lo hi:=by
 unfold fJ;simp only[Z9 h1,Z9 h2]
def akx(h:∀t,t∈kS o->aj tm' t=aj tm t):bg tm' hp o=bg tm hp o:=by
 cases o<;>simp only[kS,xJ] at h<;>simp only[bg]
 case pick c a b=>rw[dF (x:=c) fun t ht=>h t (.inl ht),dF (x:=a) fun t ht=>h t (.inr (.inl ht)),dF (x:=b) fun t ht=>h t (.inr (.inr ht))]
 case qR z ps=>rw[NJ h]
 case mT n s z ps=>rw[NJ h]
 case Hx f a b=>rw[DM (xs:=a) fun t ht=>h t (.inl ht),DM (xs:=b) fun t ht=>h t (.inr ht)]
 case rC k x lo hi=>rw[dF (x:=x) fun t ht=>h t (.inl ht),ak4 (fun t ht=>h t (.inr (.inl ht))) (fun t ht=>h t (.inr (.inr ht)))]
 case mn xs=>rw[DM h]
 case mx xs=>rw[DM h]
 case bin op x y=>rw[dF (x:=x) fun t ht=>h t (.inl ht),dF (x:=y) fun t ht=>h t (.inr ht)]
 case L9 x y=>rw[dF (x:=x) fun t ht=>h t (.inl ht),dF (x:=y) fun t ht=>h t (.inr ht)]
 case eq n k x y=>rw[dF (x:=x) fun t ht=>h t (.inl ht),dF (x:=y) fun t ht=>h t (.inr ht)]
 case bq s x y=>rw[dF (x:=x) fun t ht=>h t (.inl ht),dF (x:=y) fun t ht=>h t (.inr ht)]
 case Aa l s x y=>rw[dF (x:=x) fun t ht=>h t (.inl ht),dF (x:=y) fun t ht=>h t (.inr ht)]
 case Hy x y=>rw[dF (x:=x) fun t ht=>h t (.inl ht),dF (x:=y) fun t ht=>h t (.inr ht)]
 case Hz l s g x y=>rw[dF (x:=x) fun t ht=>h t (.inl ht),dF (x:=y) fun t ht=>h t (.inr ht)]
 case Q6 kk z ok x y=>rw[dF (x:=x) fun t ht=>h t (.inl ht),dF (x:=y) fun t ht=>h t (.inr ht)]
 all_goals first
  | rfl
  | (rename_i x;rw[dF (x:=x) h])
def I6{an:Hp}{ct:Nat}(h:∀t,t∈kS o->aj tm' t=aj tm t):cK tm' an ct o=cK tm hp ct o:=by
 cases o<;>simp only[kS,xJ] at h<;>simp only[cK]
 case box s x=>rw[dF (x:=x) h]
 case jo n s z ps=>rw[NJ h]
 case pK s b z x y=>rw[dF (x:=x) fun t ht=>h t (.inl ht),dF (x:=y) fun t ht=>h t (.inr ht)]
 case rE x=>rw[dF (x:=x) h]
def DL{ct:Nat}(h:∀t,t∈kS o->aj tm' t=aj tm t):cp tm' hp ct o=cp tm hp ct o:=by
 cases o<;>simp only[kS,xJ] at h<;>simp only[cp]
 case st s x y=>rw[dF (x:=x) fun t ht=>h t (.inl ht),dF (x:=y) fun t ht=>h t (.inr ht)]
 case rD kk c a b=>rw[dF (x:=c) fun t ht=>h t (.inl ht),dF (x:=a) fun t ht=>h t (.inr (.inl ht)),dF (x:=b) fun t ht=>h t (.inr (.inr ht))]
 case rF x=>rw[dF (x:=x) h]
 case db s b x y=>rw[dF (x:=x) fun t ht=>h t (.inl ht),dF (x:=y) fun t ht=>h t (.inr ht)]
 case rH s x y=>rw[dF (x:=x) fun t ht=>h t (.inl ht),dF (x:=y) fun t ht=>h t (.inr ht)]
end
end
section
open Go
section
variable {r:AV}{bs:List Nat}{lo:Nat}{ae:Nat->Nat}{u:yh}
structure Calm(w w':yj):Prop where
 os:w'.os=w.os
 tape:w'.tape=w.tape
 output:w'.output=w.output
 size:w.heap.size<=w'.heap.size
 same:∀b,b<w.heap.size->w'.heap[b]? =w.heap[b]?
def Calm.refl{w:yj}:Calm w w:=⟨rfl,rfl,rfl,yu _,fun _ _=>rfl⟩
def CF(O:bA)(w:yj):Prop:=(∀b,b<O.w0.heap.size->w.heap[b]? =O.w0.heap[b]?)/\O.w0.heap.size<=w.heap.size
def fa:Mp:=fun _=>FM
def jt(ae:Nat->Nat)(S:Nat->Prop)(w:yj)(lo:Nat):AV->yh->List Nat->Prop
 | .c7 ex sz n cs,u,bs=>∃b o c arr t,bs=[b]/\u=.slice (FL ⟨b,o,FM⟩) n c/\n<=c/\(ex=ycZ->c=n)/\lo<=b/\¬S b/\w.heap[b]? =FL (.cells arr t (0,0))/\cs.length=n*sz/\
   o+c*sz<=arr.size/\bU ae fa S w cs b o/\aG cs=ycZ
 | r,u,bs=>bs=[]/\af ae fa S w r u/\aX r=ycZ
def mg(ae:Nat->Nat)(S:Nat->Prop)(w:yj)(lo:Nat):List AV->List yh->List Nat->Prop
 | [],us,bs=>us=[]/\bs=[]
 | v::r,us,bs=>∃u t b1 b2,us=u::t/\bs=b1++b2/\jt ae S w lo v u b1/\mg ae S w lo r t b2
def po(ae:Nat->Nat)(S:Nat->Prop)(w:yj)(lo:Nat)(r:AV)(u:yh):Prop:=
 match r with
 | .aw vs=>∃(us:Array yh) (bs:List Nat),u=.tuple us/\mg ae S w lo vs us.toList bs/\bs.Nodup
 | r=>∃bs,jt ae S w lo r u bs
def Cj(P:xp)(f:tS)(args:Array yh)(w:yj)(R:yaS->yj->Prop):Prop:=
 ((callFunc f args).run P w=.ok (.enter f args) w/\CallsIn Fence.wide 0 P f args w R)\/∃u w',(callFunc f args).run P w=.ok (.value u) w'/\R (.returned u) w'
def abK(O:bA)(w:yj)(S:Nat->Prop)(r:AV)(e:yaS)(w':yj):Prop:=
 ∃u S',e=.returned u/\Calm w w'/\(∀b,S b->S' b)/\(∀b,S' b->S b\/w.heap.size<=b)/\(∀b,S' b->b<w'.heap.size)/\po O.ae S' w' w.heap.size r u
def et(O:bA)(n:Nat)(aq:List AV)(r:AV):Prop:=
 ∀(w:yj) (S:Nat->Prop) (args:Array yh),CF O w->(∀b,S b->b<w.heap.size)->aB O.ae fa S w aq args.toList->aG aq=ycZ->
  Cj O.P (O.ae n) args w (abK O w S r)
def AN(O:bA)(m:Mp)(S:Nat->Prop)(w:yj)(hp:Hp)(ct:Nat)(v:AV)(an:Hp)(aU:Nat)(e:yaS)(w':yj):Prop:=
 ∃u m' S',e=.returned u/\aS O m' S' w' an aU/\ct<=aU/\af O.ae m' S' w' v u/\cf m S w hp m' S' w' an ct
def CG(O:bA)(n:Nat)(hp:Hp)(ct:Nat)(aq:List AV)(v:AV)(an:Hp)(aU:Nat):Prop:=
 ∀(m:Mp) (S:Nat->Prop) (w:yj) (args:Array yh),aS O m S w hp ct->aB O.ae m S w aq args.toList->Cj O.P (O.ae n) args w (AN O m S w hp ct v an aU)
section
variable {ae:Nat->Nat}{m m':Mp}{S S':Nat->Prop}{w w':yj}
mutual
def sd(hS:∀b,S b->S' b)(hw:fY S w w'):∀(v:AV) (u:yh),aX v=ycZ->af ae m S w v u->af ae m' S' w' v u
 | .int _ _,_,_,h | .bool _,_,_,h | .av _ _,_,_,h | .dl _ _ _,_,_,h | .str _,_,_,h | .kY,_,_,h | .ah,_,_,h | .iG,_,_,h | .jM,_,_,h | .undef,_,_,h=>by
  simpa only[af] using h
 | .ptr id o,u,hp,h=>by simp[aX] at hp
 | .bN cs,u,hp,h=>by
  simp only[af] at h ⊢;obtain⟨b,o,h1,h2,h3,h4⟩:=h;refine⟨b,o,h1,h2.imp id (hS b),h3,?_⟩;rcases h2 with rfl | h2
  .simp only [bU]
  .exact Sz hS hw cs b o h3 h2 h4
 | .au ex n cs,u,hp,h=>by
  simp only[af] at h ⊢;rcases h with ⟨b,o,c,h1,h2,h3,h4,h5,h6⟩ | h
  .refine .inl ⟨b,o,c,h1,h2,h3,h4.imp id (hS b),h5,?_⟩;rcases h4 with rfl | h4
   .simp only [bU]
   .exact Sz hS hw cs b o h5 h4 h6
  .exact .inr h
 | .c7 _ _ _ _,u,hp,h=>by simp[aX] at hp
 | .ax id o n,u,hp,h=>by simp[aX] at hp
 | .fn (.f g) first cap,u,hp,h=>by
  simp only[af] at h ⊢;simp only[aX,yf] at hp;obtain⟨fi,ca,h1,h2,h3⟩:=h;exact⟨fi,ca,h1,AM hS hw first _ hp.1 h2,AM hS hw cap _ hp.2 h3⟩
 | .fn (.y l) _ _,u,hp,h=>by simp[aX] at hp
 | .map id,u,hp,h=>by simp[aX] at hp
 | .jN ks vs,u,hp,h=>by
  simp only[af] at h ⊢;obtain⟨b,es,clock,h1,h2,h3,h4,h5,h6,h7⟩:=h;exact⟨b,es,clock,h1,hS b h2,h3,h4,(hw b h2).trans h5,AM hS hw ks _ h3 h6,AM hS hw vs _ h4 h7⟩
 | .it id,u,hp,h=>by simp[aX] at hp
 | .agg cs,u,hp,h=>by
  simp only[af] at h ⊢;simp only[aX] at hp;obtain⟨xs,h1,h2⟩:=h;exact⟨xs,h1,AM hS hw cs _ hp h2⟩
 | .aw cs,u,hp,h=>by
  simp only[af] at h ⊢;simp only[aX] at hp;obtain⟨xs,h1,h2⟩:=h;exact⟨xs,h1,AM hS hw cs _ hp h2⟩
def AM(hS:∀b,S b->S' b)(hw:fY S w w'):∀(vs:List AV) (us:List yh),aG vs=ycZ->aB ae m S w vs us->aB ae m' S' w' vs us
 | [],us,_,h=>by simpa only[aB] using h
 | v::r,us,hp,h=>by
  simp only[aB] at h ⊢;simp only[aG,yf] at hp;have⟨u,t,h1,h2,h3⟩:=h;exact⟨u,t,h1,sd hS hw v u hp.1 h2,AM hS hw r t hp.2 h3⟩
def Sz(hS:∀b,S b->S' b)(hw:fY S w w'):∀(cs:List AV) (b o:Nat),aG cs=ycZ->S b->bU ae m S w cs b o->bU ae m' S' w' cs b o
 | [],_,_,_,_,_=>by simp only[bU]
 | c::cs,b,o,hp,hb,h=>by
  simp only[bU] at h ⊢;simp only[aG,yf] at hp;have⟨⟨u,h1,h2⟩,h3⟩:=h;exact⟨⟨u,(Ng (hw b hb)).trans h1,sd hS hw c u hp.1 h2⟩,Sz hS hw cs b (o+1) hp.2 hb h3⟩
end
def B4(hS:∀b,S b->S' b)(hw:fY S w w'):∀(cs:List AV) (b o:Nat),aG cs=ycZ->w'.heap[b]? =w.heap[b]? ->bU ae m S w cs b o->bU ae m' S' w' cs b o
 | [],_,_,_,_,_=>by simp only[bU]
 | c::cs,b,o,hp,hb,h=>by
  simp only[aG,yf] at hp;have⟨⟨u,h1,h2⟩,h3⟩:=h;exact⟨⟨u,(Ng hb).trans h1,sd hS hw c u hp.1 h2⟩,B4 hS hw cs b (o+1) hp.2 hb h3⟩
end
section
variable {O:bA}{m:Mp}{S S':Nat->Prop}{w w':yj}{hp:Hp}{ct:Nat}
def al6(hh:aS O m S w hp ct)(hw:Calm w w'):fY S w w':=fun b hb=>hw.same b (hh.slt b hb)
def B9(hh:aS O m S w hp ct)(hw:Calm w w')(hS:∀b,S b->S' b)(hn:∀b,S' b->S b\/w.heap.size<=b)(hl:∀b,S' b->b<w'.heap.size):aS O m S' w' hp ct where
 obj id o p ho hm:=zn (fun _ _ h=>h) hS (al6 hh hw) (fun q hq=>hw.same _ (hh.blt id q hq)) (fun q hq hs=>(hn _ hs).resolve_right (by have:=hh.blt id q hq;lia)) (hh.obj id o p ho hm)
 lt:=hh.lt
 inj:=hh.inj
 slt:=hl
 blt id p h:=yP (hh.blt id p h) hw.size
 low:=hh.low
 mM b hb:=(hw.same b (yP hb hh.gi)).trans (hh.mM b hb)
 gi:=xi hh.gi hw.size
 aH:=hh.aH
def AO{base:Nat}(hh:aS O m S w hp ct)(hw:Calm w w')(hS:∀b,S b->S' b)(hn:∀b,S' b->S b\/w.heap.size<=b):cf m S w hp m S' w' hp base where
 os:=hw.os
 tape:=hw.tape
 output:=hw.output
 size:=hw.size
 same b hb _:=hw.same b hb
 sub:=hS
 still b hb:=hw.same b (hh.slt b hb)
 new b hb:=(hn b hb).imp id .inr
 own b hb:=.inl hb
 old _ _ _ h:=h
 loops b r hb:=⟨r,(hw.same b (xv.1 hb).1).trans hb⟩
def an1{i:Nat}(hh:aS O m S w hp ct)(hi:m i=FM)(HC:i<ct){p:Pl}(hb:p.b<w.heap.size)(bc:O.w0.heap.size<=p.b)(HE:¬S p.b)(pR:∀j q,m j=FL q->q.b≠p.b)(hf:∀o,ak hp i=FL o->(fk O (fL m i p) S w i o/\¬jj o)\/(jj o/\fk O (fL m i p) (fun b=>S b\/b=p.b) w i o)):
  ∃S',aS O (fL m i p) S' w hp ct/\(∀b,S b->S' b)/\∀b,S' b->S b\/b=p.b:=by
 have aM:fY S w w:=fun _ _=>rfl
 have gen:∀S':Nat->Prop,(∀b,S b->S' b)->(∀b,S' b->S b\/b=p.b)->(∀o,ak hp i=FL o->fk O (fL m i p) S' w i o)->aS O (fL m i p) S' w hp ct:=by
  intro S' h1 h2 h3;refine⟨?_,?_,?_,?_,?_,?_,hh.mM,hh.gi,hh.aH⟩
  .intro id o q ho hm;by_cases hc:id=i
   .grind
   .rw [ep hc] at hm;refine zn (jF hi) h1 aM (fun _ _=>rfl) (fun q' bO hs=>?_) (hh.obj id o q ho hm)
    grind
  .intro id q hm;by_cases hc:id=i
   .grind
   .rw [ep hc] at hm;exact hh.lt id q hm
  .intro a b oa ob pa pb ha bG E6 Bi e;by_cases ca:a=i
   .by_cases cb:b=i
    .grind
    .subst ca;rw[dE] at E6;rw[ep cb] at Bi
     grind
   .rw [ep ca] at E6;by_cases cb:b=i
    .subst cb;rw[dE] at Bi
     grind
    .rw [ep cb] at Bi;exact hh.inj a b oa ob pa pb ha bG E6 Bi e
  .intro b hs;rcases h2 b hs with h | h
   .exact hh.slt b h
   .grind
  .intro id q hm;by_cases hc:id=i
   .subst hc;rw[dE] at hm
    grind
   .rw [ep hc] at hm;exact hh.blt id q hm
  .intro id q hm;by_cases hc:id=i
   .subst hc;rw[dE] at hm
    grind
   .rw [ep hc] at hm;exact hh.low id q hm
 cases ho:ak hp i with
 | none=>exact⟨S,gen S (fun _ h=>h) (fun _ h=>.inl h) (fun o h=>by rw[ho] at h;cases h),fun _ h=>h,fun _ h=>.inl h⟩
 | some o=>
  rcases hf o ho with ⟨h1,_⟩ | ⟨_,h1⟩
  .exact ⟨S,gen S (fun _ h=>h) (fun _ h=>.inl h) (fun o' h=>by rw[ho] at h;injection h with h;subst h;exact h1),fun _ h=>h,fun _ h=>.inl h⟩
  .exact ⟨_,gen (fun b=>S b\/b=p.b) (fun _ h=>.inl h) (fun _ h=>h) (fun o' h=>by rw[ho] at h;injection h with h;subst h;exact h1),fun _ h=>.inl h,fun _ h=>h⟩
def aaQ(h:jt ae S w lo r u bs)(m:Mp)(hS:∀b,S b->S' b)(hbs:∀b,b∈bs->S' b):af ae m S' w (cg r) u:=by
 have aM:fY S w w:=fun _ _=>rfl
 cases r with
 | c7 ex sz n cs=>
  obtain⟨b,o,c,arr,t,rfl,rfl,h1,h2,h3,h4,h5,h6,h7,h8,h9⟩:=h;exact .inl ⟨b,o,c,rfl,h1,h2,.inr (hbs b (by simp)),h9,B4 hS aM cs b o h9 rfl h8⟩
 | _=>simp only[jt] at h;exact sd hS aM _ _ h.2.2 h.2.1
def aaR{ae:Nat->Nat}{lo:Nat}(m:Mp)(hS:∀b,S b->S' b):∀{vs:List AV} {us:List yh} {bs:List Nat},mg ae S w lo vs us bs->(∀b,b∈bs->S' b)->aB ae m S' w (Ej vs) us
 | [],us,bs,h,_=>by simp only[mg] at h;exact h.1
 | v::r,us,bs,h,hb=>by
  obtain⟨u,t,b1,b2,rfl,rfl,h1,h2⟩:=h;exact⟨u,t,rfl,aaQ h1 m hS (fun b bG=>hb b (by simp[bG])),aaR m hS h2 (fun b bG=>hb b (by simp[bG]))⟩
def Uc(h:jt ae S w lo r u bs):∀b,b∈bs->lo<=b/\b<w.heap.size:=by
 intro b hb
 cases r with
 | c7 ex sz n cs=>
  simp only[jt] at h
  grind
 | _=>simp only[jt] at h;rw[h.1] at hb;cases hb
def Ud{ae:Nat->Nat}{lo:Nat}:∀{vs:List AV} {us:List yh} {bs:List Nat},mg ae S w lo vs us bs->∀b,b∈bs->lo<=b/\b<w.heap.size
 | [],us,bs,h,b,hb=>by simp only[mg] at h;rw[h.2] at hb;cases hb
 | v::r,us,bs,h,b,hb=>by
  obtain⟨u,t,b1,b2,rfl,rfl,h1,h2⟩:=h;rcases xJ.1 hb with hb | hb
  .exact Uc h1 b hb
  .exact Ud h2 b hb
def aaS(h:po ae S w lo r u)(m:Mp):∃S',(∀b,S b->S' b)/\(∀b,S' b->S b\/(lo<=b/\b<w.heap.size))/\af ae m S' w (shut r) u:=by
 have one:∀(r:AV) (bs:List Nat),shut r=cg r->jt ae S w lo r u bs->∃S',(∀b,S b->S' b)/\(∀b,S' b->S b\/(lo<=b/\b<w.heap.size))/\af ae m S' w (shut r) u:=by
  intro r bs hs h;refine⟨fun b=>S b\/b∈bs,fun _ h=>.inl h,fun b hb=>hb.imp (fun x=>x) (fun hb=>Uc h b hb),?_⟩;rw[hs];exact aaQ h m (fun _ h=>.inl h) (fun _ h=>.inr h)
 cases r with
 | aw vs=>
  obtain⟨us,bs,rfl,h1,h2⟩:=h;refine⟨fun b=>S b\/b∈bs,fun _ h=>.inl h,fun b hb=>hb.imp (fun x=>x) (fun hb=>Ud h1 b hb),?_⟩;exact⟨us,rfl,aaR m (fun _ h=>.inl h) h1 (fun _ h=>.inr h)⟩
 | _=>
  have⟨bs,h⟩:=h;exact one _ bs rfl h
end
end
end
section
open Go
section
variable {r:AV}{hp:Hp}{ct:Nat}
section
variable {O:bA}{m:Mp}{S:Nat->Prop}{w:yj}{H:Hp}{cH:Nat}
def On:ct<=(fK hp ct r).2.2:=by
 cases r<;>simp only[fK]<;>lia
def Oo:∀{vs:List AV} {hp:Hp} {ct:Nat},ct<=(kZ hp ct vs).2.2
 | [],hp,ct=>by simp[kZ]
 | v::r,hp,ct=>by
  simp only[kZ];have h1:=On (hp:=hp) (ct:=ct) (r:=v);have h2:=Oo (vs:=r) (hp:=(fK hp ct v).2.1) (ct:=(fK hp ct v).2.2)
  lia
def Ue(hf:∀id o,ak hp id=FL o->id<ct):∀id o,ak hp id=FL o->ak (fK hp ct r).2.1 id=FL o:=by
 intro id o h;cases r<;>simp only[fK]<;>try exact h
 rw[fH,yt (by have:=hf id o h;lia)]
 exact h
def ac2{lo:Nat}{u:yh}{bs:List Nat}(hh:aS O m S w H cH)(hl:cR (fK hp ct r).2.1 H)(fw:(fK hp ct r).2.2<=cH)(hn:∀id,ct<=id->id<(fK hp ct r).2.2->m id=FM)(hr:jt O.ae S w lo r u bs)(bc:O.w0.heap.size<=lo)(pR:∀j q,m j=FL q->q.b∉bs):
  ∃m' S',aS O m' S' w H cH/\dh m m'/\(∀id p,m' id=FL p->m id=FL p\/(ct<=id/\id<(fK hp ct r).2.2/\p.b∈bs))/\af O.ae m' S' w (fK hp ct r).1 u/\(∀b,S b->S' b)/\(∀b,S' b->S b\/b∈bs):=by
 have aM:fY S w w:=fun _ _=>rfl
 cases r with
 | c7 ex sz n cs=>
  simp only[fK] at hl fw hn;obtain⟨b,o,c,arr,t,rfl,rfl,h1,h2,h3,h4,h5,h6,h7,h8,h9⟩:=hr;have bK:m ct=FM:=hn ct (yu _) (Nat.lt_succ_self _);have ayD:b<w.heap.size:=(xv.1 h5).1;have pP:fk O (fL m ct ⟨b,o,c*sz,sz⟩) S w ct (.cells ycZ ycZ ex sz cs):=by
   refine⟨_,arr,t,dE,h5,rfl,?_,h7,fun hx=>?_,B4 (fun _ h=>h) aM cs b o h9 rfl h8,fun _=>h9,fun _=>h4,by simp⟩
   .show cs.length<=c*sz
    rw[h6];exact yI _ h1
   .grind
  have⟨S',k1,k2,k3⟩:=an1 (p:=⟨b,o,c*sz,sz⟩) hh bK (by lia) ayD (by show _<=b;lia) h4 (fun j q hq e=>pR j q hq (by rw[e];simp)) (fun o' jz=>by
   have⟨XL,g1,g2⟩:=hl ct (.cells ycZ ycZ ex sz cs) (by rw[fH];simp)
   rw[jz] at g1;injection g1 with g1
   subst g1
   exact Sn (p:=⟨b,o,c*sz,sz⟩) g2 dE pP (by simp[jj]))
  refine⟨_,S',k1,jF bK,fun id p an=>?_,?_,k2,fun b' bG=>(k3 b' bG).imp (fun h=>h) (fun h=>by rw[h];simp)⟩
  .by_cases hc:id=ct
   .subst hc;rw[dE] at an;injection an with an
    subst an;exact .inr ⟨yu _,by simp[fK],by simp⟩
   .rw [ep hc] at an;exact .inl an
  .simp only [fK,af];exact⟨_,c,dE,by simp,h1,by simp⟩
 | _=>
  exact⟨m,S,hh,dh.refl,fun _ _ h=>.inl h,sd (fun _ h=>h) aM _ _ hr.2.2 hr.2.1,fun _ h=>h,fun _ h=>.inl h⟩
def JC(hf:∀id o,ak hp id=FL o->id<ct):∀id o,ak (fK hp ct r).2.1 id=FL o->id<(fK hp ct r).2.2:=by
 intro id o h;cases r<;>simp only[fK] at h ⊢<;>try exact hf id o h
 rw[fH] at h
 grind
def Oq:∀{vs:List AV} {hp:Hp} {ct:Nat},(∀id o,ak hp id=FL o->id<ct)->∀id o,ak hp id=FL o->ak (kZ hp ct vs).2.1 id=FL o
 | [],hp,ct,_,id,o,h=>by simpa[kZ] using h
 | v::r,hp,ct,hf,id,o,h=>by
  exact Oq (JC hf) id o (Ue hf id o h)
def ac3{lo:Nat}(bc:O.w0.heap.size<=lo):∀{vs:List AV} {us:List yh} {bs:List Nat} {hp:Hp} {ct:Nat} {m:Mp} {S:Nat->Prop},aS O m S w H cH->cR (kZ hp ct vs).2.1 H->(kZ hp ct vs).2.2<=cH->
  (∀id o,ak hp id=FL o->id<ct)->(∀id,ct<=id->id<(kZ hp ct vs).2.2->m id=FM)->
  mg O.ae S w lo vs us bs->bs.Nodup->(∀j q,m j=FL q->q.b∉bs)->
  ∃m' S',aS O m' S' w H cH/\dh m m'/\(∀id p,m' id=FL p->m id=FL p\/(ct<=id/\id<(kZ hp ct vs).2.2/\p.b∈bs))/\aB O.ae m' S' w (kZ hp ct vs).1 us/\(∀b,S b->S' b)/\(∀b,S' b->S b\/b∈bs)
 | [],us,bs,hp,ct,m,S,hh,hl,fw,hf,hn,hr,mo,pR=>by
  simp only[mg] at hr;exact⟨m,S,hh,dh.refl,fun _ _ h=>.inl h,by simp only[kZ,aB];exact hr.1,fun _ h=>h,fun _ h=>.inl h⟩
 | v::r,us,bs,hp,ct,m,S,hh,hl,fw,hf,hn,hr,mo,pR=>by
  simp only[mg] at hr;obtain⟨u,t,b1,b2,rfl,rfl,h1,h2⟩:=hr;simp only[kZ] at hl fw hn ⊢;have eC:=On (hp:=hp) (ct:=ct) (r:=v);have Ao:=Oo (vs:=r) (hp:=(fK hp ct v).2.1) (ct:=(fK hp ct v).2.2);rw[List.nodup_append] at mo;have⟨m1,S1,k1,k2,k3,k4,k5,k6⟩:=ac2 (hp:=hp) (ct:=ct) (lo:=lo) hh ((fun id o h=>hl id o (Oq (JC hf) id o h))) (by lia) (fun id g1 g2=>hn id g1 (by lia)) h1 bc
   (fun j q hq hb=>pR j q hq (by simp[hb]))
  have h2':mg O.ae S1 w lo r t b2:=by
   clear k4;have VW:∀b,S1 b->S b\/b∈b1:=k6;have hd:∀b,b∈b2->b∉b1:=fun b hb jf=>mo.2.2 b jf b hb rfl
   have one:∀{v:AV} {u:yh} {bb:List Nat},(∀b,b∈bb->b∉b1)->jt O.ae S w lo v u bb->jt O.ae S1 w lo v u bb:=by
    intro v u bb Aj h
    cases v with
    | c7 ex sz n cs=>
     simp only[jt] at h ⊢;obtain⟨b,o,c,arr,tt,rfl,rfl,g1,g2,g3,g4,g5,g6,g7,g8,g9⟩:=h;exact⟨b,o,c,arr,tt,rfl,rfl,g1,g2,g3,fun hs=>(VW b hs).elim g4 (Aj b (by simp)),g5,g6,g7,B4 k5 (fun _ _=>rfl) cs b o g9 rfl g8,g9⟩
    | _=>simp only[jt] at h ⊢;exact⟨h.1,sd k5 (fun _ _=>rfl) _ _ h.2.2 h.2.1,h.2.2⟩
   clear k1 k2 k3 hl fw hn pR mo;revert hd h2;generalize b2=bb
   induction r generalizing t bb with
   | nil=>intro h2 hd;simpa only[mg] using h2
   | cons v' r ih=>
    intro h2 hd;simp only[mg] at h2 ⊢;obtain⟨u',t',c1,c2,rfl,rfl,g1,g2⟩:=h2
    exact⟨u',t',c1,c2,rfl,rfl,one (fun b hb=>hd b (by simp[hb])) g1,ih _ (by
     have:=Oo (vs:=r) (hp:=(fK hp ct v).2.1) (ct:=(fK hp ct v).2.2)
     exact this) _ g2 (fun b hb=>hd b (by simp[hb]))⟩
  have⟨m2,S2,g1,g2,g3,g4,g5,g6⟩:=ac3 bc (vs:=r) (us:=t) (bs:=b2) (m:=m1) (S:=S1) k1 hl fw (JC hf) (fun id q1 q2=>by
   cases hq:m1 id with
   | none=>rfl
   | some p=>
    rcases k3 id p hq with h | ⟨_,h,_⟩
    .rw [hn id (by lia) q2] at h;cases h
    .lia) h2' mo.2.1 (fun j q hq hb=>by
     rcases k3 j q hq with h | ⟨_,_,h⟩
     .exact pR j q h (by simp[hb])
     .exact mo.2.2 q.b h q.b hb rfl)
  refine⟨m2,S2,g1,k2.trans g2,fun id p an=>?_,?_,fun b hb=>g5 b (k5 b hb),fun b hb=>?_⟩
  .rcases g3 id p an with h | ⟨a1,a2,a3⟩
   .rcases k3 id p h with h | ⟨a1,a2,a3⟩
    .exact .inl h
    .exact .inr ⟨a1,by lia,by simp[a3]⟩
   .exact .inr ⟨by lia,a2,by simp[a3]⟩
  .simp only [aB];exact⟨u,t,rfl,mB g2 g5 (fun _ _=>rfl) _ _ k4,g4⟩
  .rcases g6 b hb with h | h
   .exact (k6 b h).imp (fun h=>h) (fun h=>by simp[h])
   .exact .inr (by simp[h])
def asK{lo:Nat}{u:yh}(hh:aS O m S w H cH)(hl:cR (own hp ct r).2.1 H)(fw:(own hp ct r).2.2<=cH)(hf:∀id o,ak hp id=FL o->id<ct)(hn:∀id,ct<=id->id<(own hp ct r).2.2->m id=FM)(hr:po O.ae S w lo r u)(bc:O.w0.heap.size<=lo)(Mi:∀j q,m j=FL q->q.b<lo):
  ∃m' S',aS O m' S' w H cH/\dh m m'/\(∀id p,m' id=FL p->m id=FL p\/(ct<=id/\id<(own hp ct r).2.2/\lo<=p.b))/\af O.ae m' S' w (own hp ct r).1 u/\(∀b,S b->S' b)/\(∀b,S' b->S b\/lo<=b):=by
 have one:∀(r:AV) (bs:List Nat),own hp ct r=fK hp ct r->jt O.ae S w lo r u bs->cR (own hp ct r).2.1 H->(own hp ct r).2.2<=cH->(∀id,ct<=id->id<(own hp ct r).2.2->m id=FM)->
   ∃m' S',aS O m' S' w H cH/\dh m m'/\(∀id p,m' id=FL p->m id=FL p\/(ct<=id/\id<(own hp ct r).2.2/\lo<=p.b))/\af O.ae m' S' w (own hp ct r).1 u/\(∀b,S b->S' b)/\(∀b,S' b->S b\/lo<=b):=by
  intro r bs he hr hl fw hn;rw[he] at hl fw hn ⊢;have EF:=Uc hr;have⟨m',S',k1,k2,k3,k4,k5,k6⟩:=ac2 hh hl fw hn hr bc (fun j q hq hb=>by have:=Mi j q hq;have:=(EF _ hb).1;lia)
  exact⟨m',S',k1,k2,fun id p h=>(k3 id p h).imp (fun h=>h) (fun h=>⟨h.1,h.2.1,(EF _ h.2.2).1⟩),k4,k5,fun b hb=>(k6 b hb).imp (fun h=>h) (fun h=>(EF _ h).1)⟩
 cases r with
 | aw vs=>
  simp only[own] at hl fw hn ⊢;simp only[po] at hr;obtain⟨us,bs,rfl,h1,h2⟩:=hr;have EF:=Ud h1;have⟨m',S',k1,k2,k3,k4,k5,k6⟩:=ac3 bc hh hl fw hf hn h1 h2 (fun j q hq hb=>by have:=Mi j q hq;have:=(EF _ hb).1;lia)
  exact⟨m',S',k1,k2,fun id p h=>(k3 id p h).imp (fun h=>h) (fun h=>⟨h.1,h.2.1,(EF _ h.2.2).1⟩),by simp only[af];exact⟨us,rfl,k4⟩,k5,fun b hb=>(k6 b hb).imp (fun h=>h) (fun h=>(EF _ h).1)⟩
 | _=>
  simp only[po] at hr;have⟨bs,hr⟩:=hr;exact one _ bs rfl hr hl fw hn
end
end
end
end VE
