import GoSem.Core.Code
import GoSem.Core.Float
import GoSem.Core.Utf8
import Derived.CallsIn
import Derived.Laws.World
import GoSem.Op.Equal
import GoSem.Core.Region
import Derived.Below
import Derived.Laws.AppendOwn
import Derived.Laws.Rows
import Derived.WalkKit
import Derived.Laws.CopyRow
import Derived.Laws.Cells
import Derived.Laws.Strings
import Derived.Lib.Strings
import Derived.WideLaws
import Derived.Maps.Keyed
import Derived.ChangeKeysEq
import Derived.Laws.Tables
import Derived.IntWalk
import Derived.Laws.CopyOwn
set_option linter.all false
set_option maxRecDepth 100000
open Array renaming getElem?_eq_some_iff->xC,getElem?_modify->yaZ,getElem?_toList->tI,length_toList->vH,range->tR
open BitVec renaming ofInt->xT
open Bool renaming and_assoc->yaH,and_eq_true->yf,eq_iff_iff->yaA,false_eq_true->yH,not_eq_true'->vS
open ForInStep renaming yield->ybl
open Go renaming Addr->uX,BinOp->vl,Code->vB,Ending->ybo,Field->uj,FloatKind->xY,IntKind->xh,Loop->tp,MapEntry->vm,Next->ybm,Obj->yaB,Oper->xa,Operand->xD,Program->xA,TypeDesc->yaa,TypeId->yF,TypeInfo->ydu,UnOp->ydc,Value->yj,World->yo,binOp->wb,sizeOf->vC
open Go.Utf8 renaming runeError->uZ,valid->ybM
open List renaming all_cons->yau,append_assoc->xM,cons_append->xe,drop_drop->vV,eq_nil_of_length_eq_zero->yD,ext_getElem?->ybE,flatten_append->ybr,flatten_cons->tr,getElem?_append_left->wL,getElem?_append_right->wD,getElem?_drop->ybA,getElem?_eq_getElem->xu,getElem?_map->tq,getElem?_take_of_lt->tz,getElem?_toArray->ybe,length_append->yW,length_cons->yB,length_drop->wh,length_take->yP,map_cons->yV,map_eq_nil_iff->ybq,mem_append->wB,range->wR,replicate->yk,replicate_succ->wQ,size_toArray->yam,take_of_length_le->yK,take_succ_cons->wN,take_zero->ycj
open List.cons renaming injEq->uG
open Nat renaming add_assoc->td,add_mul->we,add_zero->y7,beq->yt,beq_eq->ydr,beq_refl->wK,ble->yJ,ble_eq->yds,blt->yQ,eq_of_beq_eq_true->yi,eq_zero_or_pos->xj,le_of_ble_eq_true->yA,le_refl->yx,le_trans->xi,lt_of_lt_of_le->yI,min_le_left->yck,mul_comm->xg,mul_le_mul_right->yX,one_mul->yah,testBit->vK,zero_add->ye
open Option renaming isSome_none->tZ,map_none->uM,map_some->vd
open Option.some renaming injEq->yc
open PUnit renaming unit->yaF
open Prod.mk renaming injEq->yr
open UInt8 renaming toNat->xr,toNat_inj->ybN
open Option renaming some->Gr,none->Gs
open Bool renaming true->ydy,false->ydz
def vL:=@and_true
def yag:=@beq_iff_eq
def yac:=@beq_self_eq_true
def yT:=@cond_false
def yy:=@cond_true
def ybb:=@decide_eq_decide
def yC:=@decide_eq_false
def uL:=@decide_eq_false_iff_not
def yN:=@decide_eq_true
def xc:=@decide_eq_true_eq
def yu:=@decide_false
def yv:=@decide_true
def ycO:=@false_or
def xz:=@if_false
def yp:=@if_neg
def yE:=@if_pos
def xS:=@if_true
def ybZ:=@ne_eq
def uS:=@not_false_eq_true
def ydt:=@not_true_eq_false
def yab:=@true_and
namespace VE
variable{rw:Bool}{x:Int}{ks:List Nat}{a aO base by' cap ct d jL sz zG:Nat}{S S':Nat->Prop}
section
open Go (IntKind FloatKind BinOp UnOp)
inductive Fr where
 | f (n:Nat)
 | y (l:Nat)
 deriving DecidableEq,Inhabited
inductive AV where
 | int (k:xh) (n:Int)
 | bool (b:Bool)
 | an (k:xY) (bits:Nat)
 | dj (k:xY) (re im:Nat)
 | str (s:List Nat)
 | kP
 | ptr (id off:Nat)
 | bA (cells:List AV)
 | aj
 | au (ex:Bool) (n:Nat) (cells:List AV)
 | cR (ex:Bool) (sz n:Nat) (cells:List AV)
 | ay (id off n:Nat)
 | fn (f:Fr) (first cap:List AV)
 | fZ
 | jI
 | map (id:Nat)
 | jJ (ks vs:List AV)
 | it (id:Nat)
 | agg (cells:List AV)
 | av (vs:List AV)
 | undef
 deriving Inhabited
inductive X where
 | t (i:Nat)
 | c (v:AV)
 deriving Inhabited
inductive Conv where
 | toInt (k:xh)
 | toFlt (k:xY)
 | str
 | re
 | im
 deriving Inhabited
inductive Md where
 | pure | own | heap | dyn
 deriving Inhabited
inductive Cut where
 | str
 | sl (sz:Nat)
 | ar (len sz:Nat)
 deriving Inhabited
inductive Sm where
 | b | sl | fn | ag (ks:List Nat)
 deriving Inhabited
inductive Op where
 | zR (x:X)
 | pick (c a b:X)
 | box (sz:Nat) (x:X)
 | E1 (zero:List AV) (parts:List (Nat×Nat×X))
 | kQ (n sz:Nat) (zero:List AV) (parts:List (Nat×Nat×X))
 | ld (sz:Nat) (ag:Bool) (x:X)
 | st (sz:Nat) (x v:X)
 | LQ (x:X)
 | bin (op:vl) (x y:X)
 | eq (ne:Bool) (k:Sm) (x y:X)
 | un (op:ydc) (x:X)
 | cv (k:Conv) (x:X)
 | Ii (f:Fr) (first cap:List X)
 | B5
 | qP (sz bytes:Nat) (zero:List AV) (len cap:X)
 | sD (k:Cut) (x:X) (lo hi:Option X)
 | off (k:Nat) (x:X)
 | MT (o sz:Nat) (ag:Bool) (x:X)
 | bj (sz:Nat) (x i:X)
 | Ij (len sz:Nat) (x i:X)
 | Ik (x i:X)
 | Il (len sz:Nat) (ag:Bool) (x i:X)
 | Sn (kk:Nat) (zero:AV) (ok:Bool) (m k:X)
 | sE (kk:Nat) (m k v:X)
 | sF (x:X)
 | sG (x:X)
 | ext (i:Nat) (x:X)
 | call (m:Md) (f:X) (xs:List X)
 | jV (rs:List (Nat×Bool×Nat)) (f:X) (xs:List X)
 | mf (rs:List (Nat×Bool×Nat)) (sz:Nat) (x v:X)
 | mg (rs:List (Nat×Bool×Nat)) (sz bytes:Nat) (s x:X)
 | ew (sz bytes:Nat) (s x:X)
 | px (sz:Nat) (d s:X)
 | len (k:Nat) (x:X)
 | mn (xs:List X)
 | mx (xs:List X)
 | MU (x y:X)
 | qQ (n sz:Nat) (zero:List AV) (parts:List (Nat×Nat×X))
 deriving Inhabited
structure aU where
 dst:Option Nat
 guard:Option (Nat×Bool)
 op:Op
 deriving Inhabited
inductive VC where
 | skip
 | qR (ops:List aU)
 | seq (a b:VC)
 | cond (x:X) (a b:VC)
 | iR (id:Nat) (a:VC)
 | kp (live:List Nat)
 | fz (ts:List Nat)
 | loop (live:List Nat) (a:VC)
 | rf (f:X) (ps:List Nat) (assign body:VC)
 | exit (id:Nat)
 | ret
 deriving Inhabited
inductive RV where
 | t (i:Nat)
 | cell (i sz:Nat) (ag:Bool)
 deriving Inhabited
structure ax where
 c9:List RV
 body:VC
 deriving Inhabited
inductive AG where
 | none | ret | exit (id:Nat)
 deriving Inhabited,DecidableEq
abbrev Env:=List (Nat×AV)
inductive Obj where
 | cells (rw pu ex:Bool) (sz:Nat) (cs:List AV)
 | mp (rw:Bool) (ks vs:List AV)
 | si (s:List Nat) (pos:Nat)
 | lp (tm:Env) (ps:List Nat) (assign body:VC) (state:Nat) (pending:AG)
 deriving Inhabited
abbrev Hp:=List (Nat×Obj)
structure St where
 tm:Env
 hp:Hp
 ct:Nat
 base:Nat
 deriving Inhabited
inductive Ex where
 | normal
 | ret
 | exit (id:Nat)
 deriving Inhabited,DecidableEq
def ai:Env->Nat->AV
 | [],_=>.undef
 | (j,v)::r,i=>bif yt j i then v else ai r i
def ak:Hp->Nat->Option Obj
 | [],_=>Gs
 | (j,o)::r,i=>bif yt j i then Gr o else ak r i
def aR:Hp->Nat->Obj->Hp
 | [],_,_=>[]
 | (j,o)::r,i,u=>bif yt j i then (j,u)::r else (j,o)::aR r i u
def cN:Hp->Nat->Hp
 | [],_=>[]
 | (j,o)::r,i=>bif yt j i then cN r i else (j,o)::cN r i
mutual
def aV:AV->Bool
 | .ptr _ _ | .ay _ _ _ | .map _ | .it _ | .cR _ _ _ _=>ydz
 | .fn (.y _) _ _=>ydz
 | .fn (.f _) first cap=>aH first&&aH cap
 | .agg cs=>aH cs
 | .av vs=>aH vs
 | _=>ydy
def aH:List AV->Bool
 | []=>ydy
 | v::r=>aV v&&aH r
end
def cellsOf:AV->List AV
 | .agg cs=>cs
 | v=>[v]
def dL:AV->Bool
 | .agg _ | .av _ | .undef | .cR _ _ _ _=>ydz
 | _=>ydy
def b9:List AV->Bool
 | []=>ydy
 | v::r=>dL v&&b9 r
def aB(tm:Env):X->AV
 | .t i=>ai tm i
 | .c v=>v
def dM(tm:Env):List X->List AV
 | []=>[]
 | x::r=>aB tm x::dM tm r
def slice(o n:Nat)(cs:List AV):List AV:=(cs.drop o).take n
def over(o:Nat)(new cs:List AV):List AV:=cs.take o++new++cs.drop (o+new.length)
mutual
def freeze:Nat->Hp->AV->Option (AV×Hp)
 | 0,_,_=>Gs
 | n+1,hp,v=>
  match v with
  | .ay id o k=>
   match zi n hp id with
   | some (ex,sz,cs,ap)=>
    bif yJ (o+k*sz) cs.length then
     Gr (.au (ex&&yQ 0 sz&&yt (o+k*sz) cs.length) k (slice o (k*sz) cs),ap)
    else Gs
   | none=>Gs
  | .ptr id o=>
   match zi n hp id with
   | some (_,_,cs,ap)=>Gr (.bA (cs.drop o),ap)
   | none=>Gs
  | .map id=>
   match ak hp id with
   | some (.mp _ ks vs)=>bif aH ks&&aH vs then Gr (.jJ ks vs,aR hp id (.mp ydz ks vs)) else Gs
   | _=>Gs
  | .fn (.f g) first cap=>
   match cA n hp first with
   | some (afn,a6)=>
    match cA n a6 cap with
    | some (QG,ic)=>Gr (.fn (.f g) afn QG,ic)
    | none=>Gs
   | none=>Gs
  | .agg cs=>match cA n hp cs with | some (dH,ap)=>Gr (.agg dH,ap) | none=>Gs
  | .av cs=>match cA n hp cs with | some (dH,ap)=>Gr (.av dH,ap) | none=>Gs
  | v=>bif aV v then Gr (v,hp) else Gs
def zi:Nat->Hp->Nat->Option (Bool×Nat×List AV×Hp)
 | 0,_,_=>Gs
 | n+1,hp,id=>
  match ak hp id with
  | some (.cells rw pu ex sz cs)=>
   bif pu then Gr (ex,sz,cs,bif rw then aR hp id (.cells ydz ydy ex sz cs) else hp)
   else match cA n hp cs with
    | some (dH,ap)=>Gr (ex,sz,dH,aR ap id (.cells ydz ydz ex sz cs))
    | none=>Gs
  | _=>Gs
def cA:Nat->Hp->List AV->Option (List AV×Hp)
 | 0,_,_=>Gs
 | _+1,hp,[]=>Gr ([],hp)
 | n+1,hp,v::r=>
  match freeze n hp v with
  | some (v',a6)=>
   match cA n a6 r with
   | some (r',ic)=>Gr (v'::r',ic)
   | none=>Gs
  | none=>Gs
end
def zy(n:Nat)(hp:Hp)(v:AV):Option (AV×Hp):=
 match v with
 | .ay id o k=>
  match ak hp id with
  | some (.cells ydy ydy ex sz cs)=>
   bif yJ (o+k*sz) cs.length then
    Gr (.cR (ex&&yQ 0 sz&&yt (o+k*sz) cs.length) sz k (slice o (k*sz) cs),cN hp id)
   else Gs
  | _=>freeze n hp v
 | _=>freeze n hp v
def PN:List AV->Option (List Nat)
 | []=>Gr []
 | .ay id _ _::r=>match PN r with | some l=>bif l.any (yt id) then Gs else Gr (id::l) | none=>Gs
 | v::r=>bif aV v then PN r else Gs
def Ew(n:Nat):Hp->List AV->Option (List AV×Hp)
 | hp,[]=>Gr ([],hp)
 | hp,v::r=>
  match zy n hp v with
  | some (v',a6)=>match Ew n a6 r with | some (r',ic)=>Gr (v'::r',ic) | none=>Gs
  | none=>Gs
def deep:Nat:=1000
def result(hp:Hp)(v:AV):Option AV:=
 match v with
 | .av vs=>
  match PN vs with
  | some _=>match Ew deep hp vs with | some (eK,_)=>Gr (.av eK) | none=>Gs
  | none=>match freeze deep hp v with | some (v',_)=>Gr v' | none=>Gs
 | v=>match zy deep hp v with | some (v',_)=>Gr v' | none=>Gs
def bH:AV->AV
 | .cR ex _ n cs=>.au ex n cs
 | v=>v
def E2:List AV->List AV
 | []=>[]
 | v::r=>bH v::E2 r
def shut:AV->AV
 | .cR ex _ n cs=>.au ex n cs
 | .av vs=>.av (E2 vs)
 | v=>v
def gg(hp:Hp)(ct:Nat):AV->AV×Hp×Nat
 | .cR ex sz n cs=>(.ay ct 0 n,(ct,.cells ydy ydy ex sz cs)::hp,ct+1)
 | v=>(v,hp,ct)
def lH:Hp->Nat->List AV->List AV×Hp×Nat
 | hp,ct,[]=>([],hp,ct)
 | hp,ct,v::r=>((gg hp ct v).1::(lH (gg hp ct v).2.1 (gg hp ct v).2.2 r).1,(lH (gg hp ct v).2.1 (gg hp ct v).2.2 r).2)
def own(hp:Hp)(ct:Nat):AV->AV×Hp×Nat
 | .av vs=>(.av (lH hp ct vs).1,(lH hp ct vs).2)
 | v=>gg hp ct v
mutual
def refs:AV->List Nat
 | .ptr id _=>[id]
 | .ay id _ _=>[id]
 | .map id=>[id]
 | .it id=>[id]
 | .fn (.f _) first cap=>fX first++fX cap
 | .fn (.y l) _ _=>[l]
 | .agg cs=>fX cs
 | .av cs=>fX cs
 | _=>[]
def fX:List AV->List Nat
 | []=>[]
 | v::r=>refs v++fX r
end
def dN:Env->List Nat
 | []=>[]
 | (_,v)::r=>refs v++dN r
def eV:Obj->List Nat
 | .cells _ pu _ _ cs=>bif pu then [] else fX cs
 | .mp _ ks vs=>fX ks++fX vs
 | .si _ _=>[]
 | .lp tm _ _ _ _ _=>dN tm
mutual
def br(f:Nat->Option Nat):AV->AV
 | .ptr id o=>match f id with | some j=>.ptr j o | none=>.undef
 | .ay id o n=>match f id with | some j=>.ay j o n | none=>.undef
 | .map id=>match f id with | some j=>.map j | none=>.undef
 | .it id=>match f id with | some j=>.it j | none=>.undef
 | .fn (.f g) first cap=>.fn (.f g) (dD f first) (dD f cap)
 | .fn (.y l) first cap=>match f l with | some j=>.fn (.y j) (dD f first) (dD f cap) | none=>.undef
 | .agg cs=>.agg (dD f cs)
 | .av cs=>.av (dD f cs)
 | v=>v
def dD(f:Nat->Option Nat):List AV->List AV
 | []=>[]
 | v::r=>br f v::dD f r
end
def fM(f:Nat->Option Nat):Env->Env
 | []=>[]
 | (i,v)::r=>(i,br f v)::fM f r
def fo(f:Nat->Option Nat):Obj->Obj
 | .cells rw pu ex sz cs=>.cells rw pu ex sz (bif pu then cs else dD f cs)
 | .mp rw ks vs=>.mp rw (dD f ks) (dD f vs)
 | .si s pos=>.si s pos
 | .lp tm ps as_ body st pe=>.lp (fM f tm) ps as_ body st pe
def bD(tm:Env):List Nat->Env
 | []=>[]
 | i::r=>(i,ai tm i)::bD tm r
def jK(i:Nat):List Nat->Bool
 | []=>ydz
 | j::r=>bif yt j i then ydy else jK i r
def reach(hp:Hp)(base:Nat):Nat->List Nat->List Nat->List Nat
 | 0,_,seen=>seen
 | _+1,[],seen=>seen
 | n+1,id::cW,seen=>
  bif yQ id base||jK id seen then reach hp base n cW seen
  else match ak hp id with
   | some o=>reach hp base n (eV o++cW) (seen++[id])
   | none=>reach hp base n cW seen
def cG(base:Nat):Hp->List Nat
 | []=>[]
 | (id,o)::r=>bif yQ id base then eV o++cG base r else cG base r
def fN(i:Nat):List Nat->Nat->Option Nat
 | [],_=>Gs
 | j::r,k=>bif yt j i then Gr k else fN i r (k+1)
def iK(base:Nat)(seen:List Nat)(id:Nat):Option Nat:=bif yQ id base then Gr id else fN id seen base
def gM(base:Nat)(f:Nat->Option Nat):Hp->Hp
 | []=>[]
 | (id,o)::r=>bif yQ id base then (id,fo f o)::gM base f r else gM base f r
def ep(hp:Hp)(f:Nat->Option Nat):List Nat->Nat->Hp->Hp
 | [],_,acc=>acc
 | id::r,k,acc=>match ak hp id with | some o=>ep hp f r (k+1) ((k,fo f o)::acc) | none=>ep hp f r (k+1) acc
def bB(live:List Nat)(s:St):St:=
 let tm:=bD s.tm live
 let seen:=reach s.hp s.base 100000 (dN tm++cG s.base s.hp) []
 let f:=iK s.base seen
 {tm:=fM f tm,hp:=ep s.hp f seen s.base (gM s.base f s.hp),ct:=s.base+seen.length,base:=s.base}
def nP(hp:Hp)(sz:Nat):AV->Option (Nat×List AV)
 | .aj=>Gr (0,[])
 | .au _ n cs=>bif yt cs.length (n*sz) then Gr (n,cs) else Gs
 | .ay id o n=>
  match ak hp id with
  | some (.cells _ _ _ _ cs)=>bif yJ (o+n*sz) cs.length then Gr (n,slice o (n*sz) cs) else Gs
  | _=>Gs
 | _=>Gs
def Pg:List Nat->List AV
 | []=>[]
 | b::r=>.int .u8 b::Pg r
def DD:List Nat->List Nat->Bool
 | _,[]=>ydz
 | [],_::_=>ydy
 | a::x,b::y=>yQ a b||(yt a b&&DD x y)
def db:List Nat->List Nat->Bool
 | [],[]=>ydy
 | a::x,b::y=>yt a b&&db x y
 | _,_=>ydz
def dA:List Nat->List AV->List AV->Option Bool
 | [],[],[]=>Gr ydy
 | 0::ks,.bool a::x,.bool b::y=>match dA ks x y with | some r=>Gr ((a==b)&&r) | none=>Gs
 | 1::ks,.int k a::x,.int k' b::y=>if k=k' then (match dA ks x y with | some r=>Gr ((a==b)&&r) | none=>Gs) else Gs
 | 2::ks,.str a::x,.str b::y=>match dA ks x y with | some r=>Gr (db a b&&r) | none=>Gs
 | _,_,_=>Gs
def lI:Sm->AV->AV->Option Bool
 | .b,.bool a,.bool b=>Gr (a==b)
 | .sl,.aj,.aj=>Gr ydy
 | .sl,.aj,.au _ _ _=>Gr ydz
 | .sl,.aj,.ay _ _ _=>Gr ydz
 | .sl,.au _ _ _,.aj=>Gr ydz
 | .sl,.ay _ _ _,.aj=>Gr ydz
 | .fn,.fZ,.fZ=>Gr ydy
 | .fn,.fZ,.fn _ _ _=>Gr ydz
 | .fn,.fn _ _ _,.fZ=>Gr ydz
 | .ag ks,.agg a,.agg b=>dA ks a b
 | _,_,_=>Gs
def intCmp(op:vl)(x y:Int):Option Bool:=
 match op with
 | .eql=>Gr (x==y)
 | .neq=>Gr (x !=y)
 | .lss=>Gr (decide (x<y))
 | .leq=>Gr (decide (x<=y))
 | .gtr=>Gr (decide (x>y))
 | .geq=>Gr (decide (x>=y))
 | _=>Gs
def mY(op:vl)(k:xh)(x y:Int):Option AV:=
 match op with
 | .add=>Gr (.int k (k.wrap (x+y)))
 | .sub=>Gr (.int k (k.wrap (x-y)))
 | .mul=>Gr (.int k (k.wrap (x*y)))
 | .quo=>if y=0 then Gs else Gr (.int k (k.wrap (x.tdiv y)))
 | .rem=>if y=0 then Gs else Gr (.int k (x.tmod y))
 | .and=>Gr (.int k (k.wrap (xT k.bits x&&&xT k.bits y).toNat))
 | .or=>Gr (.int k (k.wrap (xT k.bits x|||xT k.bits y).toNat))
 | .xor=>Gr (.int k (k.wrap (xT k.bits x^^^xT k.bits y).toNat))
 | .andNot=>Gr (.int k (k.wrap (xT k.bits x&&&~~~(xT k.bits y)).toNat))
 | .shl | .shr=>Gs
 | op=>match intCmp op x y with | some b=>Gr (.bool b) | none=>Gs
def Ey(op:vl)(k:xh)(x y:Int):Option AV:=
 if y<0 then Gs else
 match op with
 | .shl=>Gr (.int k (k.wrap (x*2^(min y.toNat k.bits))))
 | .shr=>Gr (.int k (x.fdiv (2^(min y.toNat k.bits))))
 | _=>Gs
def Lt(op:vl)(x y:List Nat):Option AV:=
 match op with
 | .add=>bif yJ (x.length+y.length) 9223372036854775807 then Gr (.str (x++y)) else Gs
 | .eql=>Gr (.bool (db x y))
 | .neq=>Gr (.bool (!db x y))
 | .lss=>Gr (.bool (DD x y))
 | .leq=>Gr (.bool (DD x y||db x y))
 | .gtr=>Gr (.bool (!(DD x y||db x y)))
 | .geq=>Gr (.bool (!DD x y))
 | _=>Gs
def P7(op:vl)(k:xY)(x y:Nat):Option AV:=
 let c:=k.format.order x y
 let ar (r:Option Nat):Option AV:=match r with | some b=>Gr (.an k b) | none=>Gs
 match op with
 | .add=>ar (k.format.add x y)
 | .sub=>ar (k.format.sub x y)
 | .mul=>ar (k.format.mul x y)
 | .quo=>ar (k.format.div x y)
 | .eql=>Gr (.bool (c==Gr .eq))
 | .neq=>Gr (.bool (c !=Gr .eq))
 | .lss=>Gr (.bool (c==Gr .lt))
 | .leq=>Gr (.bool (c==Gr .lt||c==Gr .eq))
 | .gtr=>Gr (.bool (c==Gr .gt))
 | .geq=>Gr (.bool (c==Gr .gt||c==Gr .eq))
 | _=>Gs
def DE(s k:xY)(b:Nat):Option Nat:=
 if s=k then Gr b else
 match s.decode b with
 | .number sg m e=>if (k.decode (k.encode (.number sg m e))).isInfinity then Gs else Gr (k.encode (.number sg m e))
 | _=>Gs
def nB(op:vl)(k:xY)(x y:Nat):Option Nat:=
 match op with
 | .add=>k.format.add x y
 | .sub=>k.format.sub x y
 | .mul=>k.format.mul x y
 | _=>Gs
def VN(k:xY)(a b c d:Nat):Option AV:=
 match DE k .f64 a,DE k .f64 b,DE k .f64 c,DE k .f64 d with
 | some a,Gr b,Gr c,Gr d=>
  match nB .mul .f64 a c,nB .mul .f64 b d,nB .mul .f64 a d,nB .mul .f64 b c with
  | some p,Gr q,Gr r,Gr s=>
   match nB .sub .f64 p q,nB .add .f64 r s with
   | some e,Gr f=>match DE .f64 k e,DE .f64 k f with | some e,Gr f=>Gr (.dj k e f) | _,_=>Gs
   | _,_=>Gs
  | _,_,_,_=>Gs
 | _,_,_,_=>Gs
def Wl(op:vl)(k:xY)(a b c d:Nat):Option AV:=
 match op with
 | .eql=>Gr (.bool (k.format.order a c==Gr .eq&&k.format.order b d==Gr .eq))
 | .neq=>Gr (.bool (!(k.format.order a c==Gr .eq&&k.format.order b d==Gr .eq)))
 | .add=>match nB .add k a c,nB .add k b d with | some r,Gr i=>Gr (.dj k r i) | _,_=>Gs
 | .sub=>match nB .sub k a c,nB .sub k b d with | some r,Gr i=>Gr (.dj k r i) | _,_=>Gs
 | .mul=>VN k a b c d
 | _=>Gs
def age(x y:AV):Option AV:=
 match x,y with
 | .an k a,.an k' b=>if k=k' then Gr (.dj k a b) else Gs
 | _,_=>Gs
def binOp(op:vl)(x y:AV):Option AV:=
 match x,y with
 | .int k a,.int k' b=>
  match op with
  | .shl | .shr=>Ey op k a b
  | _=>if k=k' then mY op k a b else Gs
 | .an k a,.an k' b=>if k=k' then P7 op k a b else Gs
 | .str a,.str b=>Lt op a b
 | .dj k a b,.dj k' c d=>if k=k' then Wl op k a b c d else Gs
 | _,_=>Gs
def unOp(op:ydc)(x:AV):Option AV:=
 match op,x with
 | .neg,.int k n=>Gr (.int k (k.wrap (0-n)))
 | .xor,.int k n=>mY .xor k (if k.signed then -1 else k.max) n
 | .not,.bool b=>Gr (.bool !b)
 | .neg,.an k b=>Gr (.an k (b^^^2^(k.format.exponentBits+k.format.fractionBits)))
 | _,_=>Gs
def iv(c:Conv)(x:AV):Option AV:=
 match c,x with
 | .toInt k,.int _ n=>Gr (.int k (k.wrap n))
 | .toFlt k,.int _ n=>Gr (.an k (k.nearest n))
 | .toInt k,.an s b=>
  match (s.decode b).toInt .zero with
  | some n=>if k.min<=n/\n<=k.max then Gr (.int k n) else Gs
  | none=>Gs
 | .toFlt k,.an s b=>
  if s=k then Gr (.an k b) else
  match s.decode b with
  | .number sg m e=>if (k.decode (k.encode (.number sg m e))).isInfinity then Gs else Gr (.an k (k.encode (.number sg m e)))
  | _=>Gs
 | .str,.str s=>Gr (.str s)
 | .re,.dj k a _=>Gr (.an k a)
 | .im,.dj k _ b=>Gr (.an k b)
 | _,_=>Gs
def jj(sz:Nat)(ag:Bool)(cs:List AV):Option AV:=
 bif ag then (bif yJ sz cs.length then Gr (.agg (cs.take sz)) else Gs)
 else match cs with | v::_=>Gr v | []=>Gs
def bT(x:AV):Option Nat:=
 match x with
 | .int _ n=>match n with | .ofNat k=>Gr k | .negSucc _=>Gs
 | _=>Gs
def c6(tm:Env)(d:Nat):Option X->Option Nat
 | none=>Gr d
 | some x=>bT (aB tm x)
def fY(hp:Hp)(k:Cut)(x:AV)(tm:Env)(lo hi:Option X):Option AV:=
 match k,x with
 | .str,.str s=>
  match c6 tm 0 lo,c6 tm s.length hi with
  | some l,Gr h=>bif yJ l h&&yJ h s.length then Gr (.str ((s.take h).drop l)) else Gs
  | _,_=>Gs
 | .sl _,.aj=>
  match c6 tm 0 lo,c6 tm 0 hi with
  | some 0,Gr 0=>Gr .aj
  | _,_=>Gs
 | .sl sz,.au ex n cs=>
  match c6 tm 0 lo,c6 tm n hi with
  | some l,Gr h=>bif yJ l h&&yJ h n then Gr (.au (ex&&yt h n) (h-l) (slice (l*sz) ((h-l)*sz) cs)) else Gs
  | _,_=>Gs
 | .sl sz,.ay id o n=>
  match ak hp id with
  | some (.cells _ _ _ z _)=>
   match c6 tm 0 lo,c6 tm n hi with
   | some l,Gr h=>
    bif yJ l h&&yJ h n&&yt z sz then
     bif yt l h&& !yt l 0 then Gr (.au ydz 0 []) else Gr (.ay id (o+l*sz) (h-l))
    else Gs
   | _,_=>Gs
  | _=>Gs
 | .ar n s,.bA cs=>
  match c6 tm 0 lo,c6 tm n hi with
  | some l,Gr h=>bif yt l 0&&yt h n&&(yQ 0 n&&yJ (n*s) cs.length) then Gr (.au ydy n (cs.take (n*s))) else Gs
  | _,_=>Gs
 | _,_=>Gs
def fill(tm:Env):List AV->List (Nat×Nat×X)->Option (List AV)
 | cs,[]=>Gr cs
 | cs,(o,sz,x)::r=>
  let new:=cellsOf (aB tm x)
  bif yt new.length sz&&yJ (o+sz) cs.length&&b9 new then fill tm (over o new cs) r else Gs
def qj:AV->AV->Option Bool
 | .int k a,.int k' b=>if k=k' then Gr (a==b) else Gs
 | .str a,.str b=>Gr (db a b)
 | .bool a,.bool b=>Gr (a==b)
 | .agg a,.agg b=>dA (yk a.length 1) a b
 | _,_=>Gs
def pV:Nat->AV->Bool
 | 0,.bool _=>ydy
 | 1,.int _ _=>ydy
 | 2,.str _=>ydy
 | n+3,.agg cs=>yt cs.length n
 | _,_=>ydz
def E3(k:AV):List AV->List AV->Option (Option AV)
 | [],_=>Gr Gs
 | k'::ks,v::vs=>match qj k k' with | some ydy=>Gr (Gr v) | some ydz=>E3 k ks vs | none=>Gs
 | _::_,[]=>Gs
def BL(k v:AV):List AV->List AV->Option (List AV×List AV)
 | [],[]=>Gr ([k],[v])
 | k'::ks,u::us=>
  match qj k k' with
  | some ydy=>Gr (k'::ks,v::us)
  | some ydz=>match BL k v ks us with | some (mh,MV)=>Gr (k'::mh,u::MV) | none=>Gs
  | none=>Gs
 | _,_=>Gs
def min2:AV->AV->Option AV
 | .int k x,.int _ y=>Gr (.int k (if y<x then y else x))
 | .an k x,.an _ y=>
  match k.format.order x y with
  | none=>Gs
  | some .lt=>Gr (.an k x)
  | some .gt=>Gr (.an k y)
  | some .eq=>Gr (.an k (if (k.decode x).neg then x else y))
 | _,_=>Gs
def max2:AV->AV->Option AV
 | .int k x,.int _ y=>Gr (.int k (if y>x then y else x))
 | .an k x,.an _ y=>
  match k.format.order x y with
  | none=>Gs
  | some .lt=>Gr (.an k y)
  | some .gt=>Gr (.an k x)
  | some .eq=>Gr (.an k (if (k.decode x).neg then y else x))
 | _,_=>Gs
def C7(f:AV->AV->Option AV):AV->List AV->Option AV
 | a,[]=>Gr a
 | a,b::r=>match f a b with | some c=>C7 f c r | none=>Gs
def room:Nat:=1099511627776
abbrev gQ:=Option (AV×Hp×Nat)
def gH(hp:Hp)(sz:Nat)(ag:Bool):AV->Option AV
 | .ptr id o=>match ak hp id with | some (.cells _ _ _ _ cs)=>jj sz ag (cs.drop o) | _=>Gs
 | .bA cs=>jj sz ag cs
 | _=>Gs
def C8(k:Nat):AV->Option AV
 | .ptr id o=>Gr (.ptr id (o+k))
 | .bA cs=>bif yJ k cs.length then Gr (.bA (cs.drop k)) else Gs
 | _=>Gs
def P8(o sz:Nat)(ag:Bool):AV->Option AV
 | .agg cs=>jj sz ag (cs.drop o)
 | _=>Gs
def jb(sz i:Nat):AV->Option AV
 | .ay id o n=>bif yQ i n then Gr (.ptr id (o+i*sz)) else Gs
 | .au _ n cs=>bif yQ i n then Gr (.bA (cs.drop (i*sz))) else Gs
 | _=>Gs
def nY(len sz i:Nat):AV->Option AV
 | .ptr id o=>bif yQ i len then Gr (.ptr id (o+i*sz)) else Gs
 | .bA cs=>bif yQ i len then Gr (.bA (cs.drop (i*sz))) else Gs
 | _=>Gs
def oX(i:Nat):AV->Option AV
 | .str s=>match s[i]? with | some b=>Gr (.int .u8 b) | none=>Gs
 | _=>Gs
def Lu(len sz:Nat)(ag:Bool)(i:Nat):AV->Option AV
 | .agg cs=>bif yQ i len then jj sz ag (cs.drop (i*sz)) else Gs
 | _=>Gs
def C9(hp:Hp)(k:AV):AV->Option (Option AV)
 | .jI=>Gr Gs
 | .map id=>match ak hp id with | some (.mp _ ks vs)=>E3 k ks vs | _=>Gs
 | .jJ ks vs=>E3 k ks vs
 | _=>Gs
def gF(hp:Hp):Nat->AV->Option AV
 | 0,.str s=>Gr (.int .i64 s.length)
 | 1,.aj=>Gr (.int .i64 0)
 | 1,.au _ n _=>Gr (.int .i64 n)
 | 1,.ay _ _ n=>Gr (.int .i64 n)
 | 2,.jI=>Gr (.int .i64 0)
 | 2,.jJ ks _=>Gr (.int .i64 ks.length)
 | 2,.map id=>match ak hp id with | some (.mp _ ks _)=>Gr (.int .i64 ks.length) | _=>Gs
 | _,_=>Gs
def bm(tm:Env)(hp:Hp):Op->Option AV
 | .zR x=>Gr (aB tm x)
 | .pick c a b=>match aB tm c with | .bool t=>Gr (bif t then aB tm a else aB tm b) | _=>Gs
 | .E1 zero parts=>match fill tm zero parts with | some cs=>Gr (.agg cs) | none=>Gs
 | .ld sz ag x=>gH hp sz ag (aB tm x)
 | .LQ x=>
  match aB tm x with
  | .ptr id o=>Gr (.ptr id o)
  | .bA cs=>Gr (.bA cs)
  | .fn f a b=>Gr (.fn f a b)
  | _=>Gs
 | .bin op x y=>binOp op (aB tm x) (aB tm y)
 | .eq ne k x y=>match lI k (aB tm x) (aB tm y) with | some r=>Gr (.bool (ne !=r)) | none=>Gs
 | .un op x=>unOp op (aB tm x)
 | .cv k x=>iv k (aB tm x)
 | .MU x y=>age (aB tm x) (aB tm y)
 | .qQ n sz zero parts=>
  match fill tm zero parts with
  | some cs=>bif yt cs.length (n*sz)&&(yQ 0 sz&&aH cs) then Gr (.au ydy n cs) else Gs
  | none=>Gs
 | .Ii f first cap=>Gr (.fn f (dM tm first) (dM tm cap))
 | .sD k x lo hi=>fY hp k (aB tm x) tm lo hi
 | .off k x=>C8 k (aB tm x)
 | .MT o sz ag x=>P8 o sz ag (aB tm x)
 | .bj sz x i=>match bT (aB tm i) with | some j=>jb sz j (aB tm x) | none=>Gs
 | .Ij len sz x i=>match bT (aB tm i) with | some j=>nY len sz j (aB tm x) | none=>Gs
 | .Ik x i=>match bT (aB tm i) with | some j=>oX j (aB tm x) | none=>Gs
 | .Il len sz ag x i=>match bT (aB tm i) with | some j=>Lu len sz ag j (aB tm x) | none=>Gs
 | .Sn kk zero ok m k=>
  bif pV kk (aB tm k) then
   match C9 hp (aB tm k) (aB tm m) with
   | some (Gr v)=>Gr (bif ok then .av [v,.bool ydy] else v)
   | some Gs=>Gr (bif ok then .av [zero,.bool ydz] else zero)
   | none=>Gs
  else Gs
 | .ext i x=>match aB tm x with | .av vs=>vs[i]? | _=>Gs
 | .len k x=>gF hp k (aB tm x)
 | .mn xs=>match dM tm xs with | a::r=>C7 min2 a r | []=>Gs
 | .mx xs=>match dM tm xs with | a::r=>C7 max2 a r | []=>Gs
 | _=>Gs
def cM(tm:Env)(hp:Hp)(ct:Nat):Op->Option (AV×Obj)
 | .box sz x=>
  let cs:=cellsOf (aB tm x)
  bif yt cs.length sz&&b9 cs then Gr (.ptr ct 0,.cells ydy (aH cs) ydy sz cs) else Gs
 | .kQ n sz zero parts=>
  match fill tm zero parts with
  | some cs=>bif yt cs.length (n*sz) then Gr (.ay ct 0 n,.cells ydy (aH cs) ydy sz cs) else Gs
  | none=>Gs
 | .qP sz bytes zero len cap=>
  match bT (aB tm len),bT (aB tm cap) with
  | some l,Gr c=>
   bif yJ l c&&(yJ c room&&(yJ (c*bytes) room&&(yt zero.length sz&&b9 zero))) then
    Gr (.ay ct 0 l,.cells ydy (aH zero) (yt l c) sz (yk l zero).flatten)
   else Gs
  | _,_=>Gs
 | .B5=>Gr (.map ct,.mp ydy [] [])
 | .sF x=>match aB tm x with | .str s=>Gr (.it ct,.si s 0) | _=>Gs
 | _=>Gs
def decodeL(s:List Nat)(i:Nat):Nat×Nat:=
 let at' (k:Nat):Nat:=s.getD (i+k) 0
 let cont (k:Nat):Bool:=decide (i+k<s.length)&&at' k/64==2
 let b0:=at' 0
 if b0<0x80 then (b0,1)
 else if b0/32==6&&cont 1 then
  let c:=(b0%32)*64+at' 1%64
  if c>=0x80 then (c,2) else (uZ,1)
 else if b0/16==14&&cont 1&&cont 2 then
  let c:=(b0%16)*4096+(at' 1%64)*64+at' 2%64
  if c>=0x800&&ybM c then (c,3) else (uZ,1)
 else if b0/8==30&&cont 1&&cont 2&&cont 3 then
  let c:=(b0%8)*262144+(at' 1%64)*4096+(at' 2%64)*64+at' 3%64
  if c>=0x10000&&ybM c then (c,4) else (uZ,1)
 else (uZ,1)
def pY(hp:Hp)(sz:Nat):AV->Option (Nat×List AV)
 | .str b=>bif yt sz 1 then Gr (b.length,Pg b) else Gs
 | v=>nP hp sz v
def cr(tm:Env)(hp:Hp)(ct:Nat):Op->gQ
 | .st sz x v=>
  let new:=cellsOf (aB tm v)
  match aB tm x with
  | .ptr id o=>
   match ak hp id with
   | some (.cells ydy pu ex z cs)=>
    bif yt new.length sz&&yJ (o+sz) cs.length&&b9 new then
     Gr (.av [],aR hp id (.cells ydy (pu&&aH new) ex z (over o new cs)),ct)
    else Gs
   | _=>Gs
  | _=>Gs
 | .sE kk m k v=>
  match aB tm m with
  | .map id=>
   match ak hp id with
   | some (.mp ydy ks vs)=>bif !pV kk (aB tm k) then Gs else match BL (aB tm k) (aB tm v) ks vs with | some (mh,eK)=>Gr (.av [],aR hp id (.mp ydy mh eK),ct) | none=>Gs
   | _=>Gs
  | _=>Gs
 | .sG x=>
  match aB tm x with
  | .it id=>
   match ak hp id with
   | some (.si s pos)=>
    bif yQ pos s.length then
     match decodeL s pos with
     | (c,wd)=>Gr (.av [.bool ydy,.int .i64 pos,.int .i32 c],aR hp id (.si s (pos+wd)),ct)
    else Gr (.av [.bool ydz],hp,ct)
   | _=>Gs
  | _=>Gs
 | .ew sz bytes s x=>
  match pY hp sz (aB tm x) with
  | none=>Gs
  | some (m,new)=>
   match aB tm s with
   | .aj=>
    bif yt m 0 then Gr (.aj,hp,ct)
    else bif yJ m room&&(yJ (m*bytes) room&&yQ 0 sz) then Gr (.ay ct 0 m,(ct,.cells ydy (aH new) ydz sz new)::hp,ct+1) else Gs
   | .au ydy n cs=>
    bif yt m 0 then Gr (.au ydy n cs,hp,ct)
    else bif yJ (n+m) room&&(yJ ((n+m)*bytes) room&&(yt cs.length (n*sz)&&yQ 0 sz)) then Gr (.ay ct 0 (n+m),(ct,.cells ydy (aH cs&&aH new) ydz sz (cs++new))::hp,ct+1) else Gs
   | .ay id o n=>
    match ak hp id with
    | some (.cells ydy pu _ z cs)=>
     bif yt z sz&&(yJ (n+m) room&&(yJ ((n+m)*bytes) room&&(yJ (o+n*sz) cs.length&&(yQ 0 sz&&b9 new)))) then
      Gr (.ay ct 0 (n+m),(ct,.cells ydy (pu&&aH new) ydz sz (slice o (n*sz) cs++new))::cN hp id,ct+1)
     else Gs
    | _=>Gs
   | _=>Gs
 | .px sz d s=>
  match nP hp sz (aB tm s),aB tm d with
  | some (m,new),.ay id o n=>
   match ak hp id with
   | some (.cells ydy pu ex z cs)=>
    bif yt z sz&&(yJ (o+n*sz) cs.length&&b9 new) then
     Gr (.int .i64 (min m n:Nat),aR hp id (.cells ydy (pu&&aH new) ex z (over o (new.take (min m n*sz)) cs)),ct)
    else Gs
   | _=>Gs
  | _,_=>Gs
 | _=>Gs
def jW:X->List Nat | .t i=>[i] | .c _=>[]
def Bw:List X->List Nat
 | []=>[]
 | x::r=>jW x++Bw r
def Lv:Option X->List Nat | some x=>jW x | none=>[]
def Lw:List (Nat×Nat×X)->List Nat
 | []=>[]
 | (_,_,x)::r=>jW x++Lw r
def lX:Op->List Nat
 | .zR x | .box _ x | .ld _ _ x | .LQ x | .un _ x | .cv _ x | .off _ x | .MT _ _ _ x | .sF x | .sG x | .ext _ x | .len _ x=>jW x
 | .pick a b c | .sE _ a b c=>jW a++(jW b++jW c)
 | .E1 _ ps | .kQ _ _ _ ps | .qQ _ _ _ ps=>Lw ps
 | .st _ a b | .bin _ a b | .MU a b | .eq _ _ a b | .bj _ a b | .Ij _ _ a b | .Ik a b | .Il _ _ _ a b | .Sn _ _ _ a b | .ew _ _ a b | .px _ a b=>jW a++jW b
 | .Ii _ a b=>Bw a++Bw b
 | .B5=>[]
 | .qP _ _ _ a b=>jW a++jW b
 | .sD _ x a b=>jW x++(Lv a++Lv b)
 | .call _ f xs=>jW f++Bw xs
 | .jV _ f xs=>jW f++Bw xs
 | .mf _ _ a b=>jW a++jW b
 | .mg _ _ _ a b=>jW a++jW b
 | .mn xs | .mx xs=>Bw xs
def bn:Op->Nat
 | .zR _ | .pick _ _ _ | .E1 _ _ | .LQ _ | .bin _ _ _ | .eq _ _ _ _ | .un _ _ | .cv _ _ | .Ii _ _ _ | .off _ _ | .MT _ _ _ _ | .bj _ _ _ | .Ij _ _ _ _ | .Ik _ _ | .Il _ _ _ _ _ | .ext _ _ | .mn _ | .mx _ | .MU _ _ | .qQ _ _ _ _=>0
 | .sD .str _ _ _ | .len 0 _ | .len 1 _=>0
 | .st _ _ _ | .sE _ _ _ _ | .sG _ | .ew _ _ _ _ | .px _ _ _ | .jV _ _ _ | .mf _ _ _ _ | .mg _ _ _ _ _ | .call .heap _ _ | .call .dyn _ _=>2
 | _=>1
def Wm:Option (Nat×Bool)->List Nat | some (t,_)=>[t] | none=>[]
def EG(o:aU):List Nat:=Wm o.guard++lX o.op
def Hv(d:Option Nat)(l:List Nat):Bool:=match d with | some i=>jK i l | none=>ydz
def Wn(d e:Option Nat):Bool:=match d,e with | some i,Gr j=>yt i j | _,_=>ydz
def OP(a b:aU):Bool:=Hv a.dst (EG b)||Hv b.dst (EG a)||Wn a.dst b.dst
def Fh(sz:Nat)(ag:Bool)(t:Nat):List (Nat×Bool×Nat)->Bool
 | []=>ydz
 | (s,g,u)::r=>(yt s sz&&(g==ag&&yt u t))||Fh sz ag t r
def E4(t:Nat):List aU->Bool
 | []=>ydy
 | o::r=> !Hv o.dst [t]&&E4 t r
def Kj(a b:aU)(r:List aU):Bool:=
 match a.guard,a.op,b.op with
 | none,.ld sz ag (.t t),.jV rs _ _=>Fh sz ag t rs&&E4 t (a::r)
 | none,.ld sz ag (.t t),.mf rs _ _ _=>Fh sz ag t rs&&E4 t (a::r)
 | none,.ld sz ag (.t t),.mg rs _ _ _ _=>Fh sz ag t rs&&E4 t (a::r)
 | _,_,_=>ydz
def JW(a b:aU):Bool:=
 match bn a.op,bn b.op with
 | 1,2 | 2,1 | 2,2=>ydy
 | _,_=>ydz
def OQ(m:Nat)(b:aU):List aU->Nat->Bool
 | [],_=>ydy
 | a::r,i=>(vK m i|| !(OP a b||(JW a b&& !Kj a b r)))&&OQ m b r (i+1)
def As(done:List aU):List aU->List Nat->Bool
 | [],_=>ydy
 | b::r,m::ms=>OQ m b done 0&&As (done++[b]) r ms
 | _::_,[]=>ydz
def Kk(m:Nat):List aU->Nat->List (Nat×Bool×Nat)
 | [],_=>[]
 | a::r,i=>
  match vK m i,a with
  | false,⟨_,Gs,.ld sz ag (.t t)⟩=>(sz,ag,t)::Kk m r (i+1)
  | _,_=>Kk m r (i+1)
def stOp(rs:List (Nat×Bool×Nat))(sz:Nat)(x v:X):Op:=match rs with | []=>.st sz x v | rs=>.mf rs sz x v
def ahL(rs:List (Nat×Bool×Nat))(sz b:Nat)(x v:X):Op:=match rs with | []=>.ew sz b x v | rs=>.mg rs sz b x v
def mB(done:List aU):List aU->List Nat->List aU
 | ⟨d,g,.jV _ f xs⟩::r,m::ms=>let o:aU:=⟨d,g,.jV (Kk m done 0) f xs⟩;o::mB (done++[o]) r ms
 | ⟨d,g,.st sz x v⟩::r,m::ms=>let o:aU:=⟨d,g,stOp (Kk m done 0) sz x v⟩;o::mB (done++[o]) r ms
 | ⟨d,g,.ew sz b x v⟩::r,m::ms=>let o:aU:=⟨d,g,ahL (Kk m done 0) sz b x v⟩;o::mB (done++[o]) r ms
 | o::r,_::ms=>o::mB (done++[o]) r ms
 | l,_=>l
def PO(d:Option Nat):List aU->Bool
 | []=>ydz
 | ⟨_,_,.ew _ _ _ (.t i)⟩::r=>Wn d (Gr i)||PO d r
 | _::r=>PO d r
def E5(all:List aU):List aU->List aU
 | []=>[]
 | o::r=>(match o.op with | .kQ n sz z ps=>bif PO o.dst all then ⟨o.dst,o.guard,.qQ n sz z ps⟩ else o | _=>o)::E5 all r
def waits(m:Nat):List aU->Nat->Bool
 | [],_=>ydz
 | o::r,i=>(vK m i&&yt (bn o.op) 2)||waits m r (i+1)
def early(all:List aU):List aU->List Nat->Nat->List Nat
 | o::r,m::ms,i=>bif !yt (bn o.op) 2&& !waits m all 0 then i::early all r ms (i+1) else early all r ms (i+1)
 | _,_,_=>[]
def late(all:List aU):List aU->List Nat->Nat->List Nat
 | o::r,m::ms,i=>bif !yt (bn o.op) 2&& !waits m all 0 then late all r ms (i+1) else i::late all r ms (i+1)
 | _,_,_=>[]
def places(l:List aU)(ms:List Nat):List Nat:=early l l ms 0++late l l ms 0
def GN(m:Nat):List Nat->Nat->Nat
 | [],_=>0
 | x::r,i=>(bif vK m x then 2^i else 0)|||GN m r (i+1)
def Da(l:List aU):List Nat->List aU
 | []=>[]
 | x::r=>match l[x]? with | some o=>o::Da l r | none=>Da l r
def CP(ms pm all:List Nat):List Nat->List Nat
 | []=>[]
 | x::r=>GN (ms.getD x 0) pm 0::CP ms pm all r
def Kz(n:Nat)(pm inv:List Nat):Bool:=
 yt pm.length n&&(wR n).all fun i=>yQ (pm.getD i i) n&&(yQ (inv.getD i i) n&&(yt (inv.getD (pm.getD i i) i) i&&yt (pm.getD (inv.getD i i) i) i))
def AA(pm:List Nat)(n:Nat):List Nat:=(wR n).map fun x=>(fN x pm 0).getD x
abbrev aF:=Nat->Option ax
structure Lib where
 pure:Nat->Option (List AV->Option AV)
 heap:Nat->Option (Hp->Nat->List AV->gQ)
abbrev cu:=VC->St->Option (Ex×St)
def fa:Nat->List AV->Env
 | _,[]=>[]
 | i,v::r=>(i,v)::fa (i+1) r
def results1(s:St):RV->Option AV
 | .t i=>Gr (ai s.tm i)
 | .cell i sz ag=>
  match ai s.tm i with
  | .ptr id o=>match ak s.hp id with | some (.cells _ _ _ _ cs)=>jj sz ag (cs.drop o) | _=>Gs
  | .bA cs=>jj sz ag cs
  | _=>Gs
def mU(s:St):List RV->Option (List AV)
 | []=>Gr []
 | r::rest=>match results1 s r,mU s rest with | some v,Gr vs=>Gr (v::vs) | _,_=>Gs
def jD(s:St)(rs:List RV):Option AV:=
 match mU s rs with
 | some [v]=>Gr v
 | some vs=>Gr (.av vs)
 | none=>Gs
def bO(P:aF)(L:Lib)(self:cu)(n:Nat)(aw:List AV):Option AV:=
 match L.pure n with
 | some sp=>sp aw
 | none=>
  match P n with
  | none=>Gs
  | some F=>
   match self F.body ⟨fa 0 aw,[],0,0⟩ with
   | some (.normal,s) | some (.ret,s)=>match jD s F.c9 with | some v=>result s.hp v | none=>Gs
   | _=>Gs
def VO:Ex->AG
 | .normal=>.none
 | .ret=>.ret
 | .exit id=>.exit id
def zA:Env->List Nat->List AV->Option Env
 | tm,[],[]=>Gr tm
 | tm,p::ps,v::vs=>zA ((p,v)::tm) ps vs
 | _,_,_=>Gs
def jG(P:aF)(L:Lib)(self:cu)(hp:Hp)(ct:Nat)(n:Nat)(aw:List AV):gQ:=
 match L.heap n with
 | some sp=>sp hp ct aw
 | none=>
  match P n with
  | none=>Gs
  | some F=>
   match self F.body ⟨fa 0 aw,hp,ct,ct⟩ with
   | some (.normal,s) | some (.ret,s)=>match jD s F.c9 with | some v=>Gr (v,s.hp,s.ct) | none=>Gs
   | _=>Gs
def jT(self:cu)(hp:Hp)(ct:Nat)(l:Nat)(xs:List AV):gQ:=
 match ak hp l with
 | some (.lp tm ps as_ body 0 _)=>
  match zA tm ps xs with
  | none=>Gs
  | some tm'=>
   match self as_ ⟨tm',hp,ct,ct⟩ with
   | some (.normal,s1)=>
    match ak s1.hp l with
    | some (.lp jk A0 DF E6 0 sH)=>
     match self body ⟨s1.tm,aR s1.hp l (.lp jk A0 DF E6 1 sH),s1.ct,s1.ct⟩ with
     | some (ex,s2)=>
      match ak s2.hp l with
      | some (.lp qS B6 MW Lx 1 _)=>
       match ex with
       | .normal=>Gr (.bool ydy,aR s2.hp l (.lp qS B6 MW Lx 0 .none),s2.ct)
       | ex=>Gr (.bool ydz,aR s2.hp l (.lp qS B6 MW Lx 2 (VO ex)),s2.ct)
      | _=>Gs
     | none=>Gs
    | _=>Gs
   | _=>Gs
 | _=>Gs
def fb(P:aF)(L:Lib)(self:cu)(hp:Hp)(ct:Nat)(m:Md)(fv:AV)(xs:List AV):gQ:=
 match fv with
 | .fn (.f n) first cap=>
  match m with
  | .pure=>
   match cA deep hp (first++(xs++cap)) with
   | some (aw,a6)=>match bO P L self n aw with | some r=>Gr (shut r,a6,ct) | none=>Gs
   | none=>Gs
  | .own=>
   match cA deep hp (first++(xs++cap)) with
   | some (aw,a6)=>match bO P L self n aw with | some r=>Gr (own a6 ct r) | none=>Gs
   | none=>Gs
  | .heap=>jG P L self hp ct n (first++(xs++cap))
  | .dyn=>
   bif aH (first++(xs++cap)) then
    match bO P L self n (first++(xs++cap)) with | some r=>Gr (shut r,hp,ct) | none=>Gs
   else jG P L self hp ct n (first++(xs++cap))
 | .fn (.y l) _ _=>
  match m with
  | .heap | .dyn=>jT self hp ct l xs
  | _=>Gs
 | _=>Gs
def Xf:AV->AV->Bool
 | .int k a,.int k' b=>decide (k=k')&&a==b
 | .bool a,.bool b=>a==b
 | .str a,.str b=>db a b
 | .aj,.aj=>ydy
 | .kP,.kP=>ydy
 | .ptr i o,.ptr j p=>yt i j&&yt o p
 | .ay i o n,.ay j p m=>yt i j&&(yt o p&&yt n m)
 | .map i,.map j=>yt i j
 | _,_=>ydz
def pW(tm:Env)(hp ap:Hp):List (Nat×Bool×Nat)->Bool
 | []=>ydy
 | (sz,ag,x)::r=>
  match gH hp sz ag (ai tm x),gH ap sz ag (ai tm x) with
  | some a,Gr b=>Xf a b&&pW tm hp ap r
  | _,_=>ydz
def mA(tm:Env)(id:Nat):List (Nat×Bool×Nat)->Bool
 | []=>ydy
 | (_,_,x)::r=>(match ai tm x with | .ptr j _=> !yt j id | .bA _=>ydy | _=>ydz)&&mA tm id r
def BM(tm:Env)(s:AV)(rs:List (Nat×Bool×Nat)):Bool:=
 match s with
 | .ay id _ _=>mA tm id rs
 | .aj | .au _ _ _=>ydy
 | _=>ydz
def a7(P:aF)(L:Lib)(self:cu)(tm:Env)(hp:Hp)(ct:Nat)(o:Op):gQ:=
 match o with
 | .call m f xs=>fb P L self hp ct m (aB tm f) (dM tm xs)
 | .jV rs f xs=>
  match fb P L self hp ct .dyn (aB tm f) (dM tm xs) with
  | some (v,ap,aO)=>bif pW tm hp ap rs then Gr (v,ap,aO) else Gs
  | none=>Gs
 | .mf rs sz x v=>
  match aB tm x with
  | .ptr id _=>bif mA tm id rs then cr tm hp ct (.st sz x v) else Gs
  | _=>Gs
 | .mg rs sz b x v=>
  match cr tm hp ct (.ew sz b x v) with
  | some (v,ap,aO)=>bif BM tm (aB tm x) rs||pW tm hp ap rs then Gr (v,ap,aO) else Gs
  | none=>Gs
 | .st .. | .sE .. | .sG .. | .ew .. | .px .. =>cr tm hp ct o
 | .box .. | .kQ .. | .qP .. | .B5 | .sF .. =>match cM tm hp ct o with | some (v,b)=>Gr (v,(ct,b)::hp,ct+1) | none=>Gs
 | o=>match bm tm hp o with | some v=>Gr (v,hp,ct) | none=>Gs
def put(d:Option Nat)(v:AV)(tm:Env):Env:=
 match d with
 | some i=>(i,v)::tm
 | none=>tm
def dh(P:aF)(L:Lib)(self:cu):List aU->St->Option St
 | [],s=>Gr s
 | ⟨d,g,o⟩::r,s=>
  let want:=match g with | none=>Gr ydy | some (t,b)=>match ai s.tm t with | .bool c=>Gr (c==b) | .av []=>Gr ydz | _=>Gs
  match want with
  | some ydy=>
   match a7 P L self s.tm s.hp s.ct o with
   | some (v,hp,ct)=>dh P L self r {s with tm:=put d v s.tm,hp:=hp,ct:=ct}
   | none=>Gs
  | some ydz=>dh P L self r {s with tm:=put d (.av []) s.tm}
  | none=>Gs
def rX:List Nat->St->Option St
 | [],s=>Gr s
 | t::r,s=>
  match freeze deep s.hp (ai s.tm t) with
  | some (v,hp)=>rX r {s with tm:=(t,v)::s.tm,hp:=hp}
  | none=>Gs
def bF(P:aF)(L:Lib)(self:cu):VC->St->Option (Ex×St)
 | .skip,s=>Gr (.normal,s)
 | .qR ops,s=>match dh P L self ops s with | some s'=>Gr (.normal,s') | none=>Gs
 | .seq a b,s=>
  match bF P L self a s with
  | some (.normal,s1)=>bF P L self b s1
  | r=>r
 | .cond x a b,s=>
  match aB s.tm x with
  | .bool t=>bif t then bF P L self a s else bF P L self b s
  | _=>Gs
 | .iR id a,s=>
  match bF P L self a s with
  | some (.exit j,s1)=>bif yt j id then Gr (.normal,s1) else Gr (.exit j,s1)
  | r=>r
 | .kp live,s=>Gr (.normal,bB live s)
 | .fz ts,s=>match rX ts s with | some s'=>Gr (.normal,s') | none=>Gs
 | .loop live a,s=>
  match bF P L self a (bB live s) with
  | some (.normal,s1)=>self (.loop live a) s1
  | r=>r
 | .rf f ps as_ body,s=>
  match aB s.tm f with
  | .fn (.f n) first cap=>
   match L.heap n with
   | some _=>Gs
   | none=>
    match jG P L self ((s.ct,.lp s.tm ps as_ body 0 .none)::s.hp) (s.ct+1) n (first++(.fn (.y s.ct) [] []::cap)) with
    | some (_,hp,ct)=>
     match ak hp s.ct with
     | some (.lp _ _ _ _ st pe)=>
      bif yt st 1 then Gs else
      match pe with
      | .none=>Gr (.normal,{s with hp:=cN hp s.ct,ct:=ct})
      | .ret=>Gr (.ret,{s with hp:=cN hp s.ct,ct:=ct})
      | .exit id=>Gr (.exit id,{s with hp:=cN hp s.ct,ct:=ct})
     | _=>Gs
    | none=>Gs
  | _=>Gs
 | .exit id,s=>Gr (.exit id,s)
 | .ret,s=>Gr (.ret,s)
def ev(P:aF)(L:Lib)(n:Nat):cu:=Nat.rec (fun _ _=>Gs) (fun _ ih=>bF P L ih) n
def Za(P:aF)(L:Lib)(n:Nat)(f:Nat)(aw:List AV):Option AV:=bO P L (ev P L n) f aw
end
section
open Go
structure Pl where
 b:Nat
 o:Nat
 e:Nat
 z:Nat
abbrev Mp:=Nat->Option Pl
section
variable (ae:Nat->Nat)(m:Mp)(S:Nat->Prop)(w:yo)
mutual
def af:AV->yj->Prop
 | .int k n,v=>v=.int k n
 | .bool b,v=>v=.bool b
 | .an k b,v=>v=.float k b
 | .dj k a b,v=>v=.complex k a b
 | .str s,v=>∃t:ByteArray,v=.string t/\t.data.toList.map xr=s
 | .kP,v=>v=.pointer Gs
 | .ptr id o,v=>∃p,m id=Gr p/\v=.pointer (Gr ⟨p.b,p.o+o,Gs⟩)
 | .bA cs,v=>∃b o,v=.pointer (Gr ⟨b,o,Gs⟩)/\(cs=[]\/S b)/\aH cs=ydy/\cd cs b o
 | .aj,v=>v=.slice Gs 0 0
 | .au ex n cs,v=>(∃b o c,v=.slice (Gr ⟨b,o,Gs⟩) n c/\n<=c/\(ex=ydy->c=n)/\(cs=[]\/S b)/\aH cs=ydy/\cd cs b o)\/(∃a,v=.slice (Gr a) 0 0/\n=0/\cs=[])
 | .cR _ _ _ _,_=>False
 | .ay id o n,v=>∃p c,m id=Gr p/\v=.slice (Gr ⟨p.b,p.o+o,Gs⟩) n c/\n<=c/\o+c*p.z=p.e
 | .fn (.f g) first cap,v=>∃fi ca:Array yj,v=.func (.func (ae g)) fi ca/\aE first fi.toList/\aE cap ca.toList
 | .fn (.y l) _ _,v=>∃p,m l=Gr p/\v=.func (.yield p.b) #[] #[]
 | .fZ,v=>v=.nilFunc
 | .jI,v=>v=.map Gs
 | .map id,v=>∃p,m id=Gr p/\v=.map (Gr p.b)
 | .jJ ks vs,v=>∃b es clock,v=.map (Gr b)/\S b/\aH ks=ydy/\aH vs=ydy/\w.heap[b]? =Gr (.map es clock)/\
   aE ks (es.toList.map (·.key))/\aE vs (es.toList.map (·.val))
 | .it id,v=>∃p,m id=Gr p/\v=.pointer (Gr ⟨p.b,0,Gs⟩)
 | .agg cs,v=>∃xs:Array yj,v=.agg xs/\aE cs xs.toList
 | .av cs,v=>∃xs:Array yj,v=.tuple xs/\aE cs xs.toList
 | .undef,_=>True
def aE:List AV->List yj->Prop
 | [],us=>us=[]
 | c::cs,us=>∃u r,us=u::r/\af c u/\aE cs r
def cd:List AV->Nat->Nat->Prop
 | [],_,_=>True
 | c::cs,b,o=>(∃u,w.cell? ⟨b,o,Gs⟩=Gr u/\af c u)/\cd cs b (o+1)
end
end
def gX(S:Nat->Prop)(w w':yo):Prop:=∀b,S b->w'.heap[b]? =w.heap[b]?
def N5{w w':yo}{b o:Nat}(h:w'.heap[b]? =w.heap[b]?):w'.cell? ⟨b,o,Gs⟩=w.cell? ⟨b,o,Gs⟩:=by
 simp only[World.cell?,h]
section
variable {ae:Nat->Nat}{m m':Mp}{S S':Nat->Prop}{w w':yo}
mutual
def nN(hm:∀id p,m id=Gr p->m' id=Gr p)(hS:∀b,S b->S' b)(hw:gX S w w'):
  ∀(v:AV) (u:yj),af ae m S w v u->af ae m' S' w' v u
 | .int _ _,_,h | .bool _,_,h | .an _ _,_,h | .dj _ _ _,_,h | .str _,_,h | .kP,_,h | .aj,_,h | .fZ,_,h | .jI,_,h | .undef,_,h=>by
  simpa only[af] using h
 | .ptr id o,u,h=>by
  simp only[af] at h ⊢;obtain⟨p,h1,h2⟩:=h;exact⟨p,hm _ _ h1,h2⟩
 | .bA cs,u,h=>by
  simp only[af] at h ⊢;obtain⟨b,o,h1,h2,h3,h4⟩:=h;refine⟨b,o,h1,h2.imp id (hS b),h3,?_⟩;rcases h2 with rfl | h2
  .simp only [cd]
  .exact TJ hm hS hw cs b o h2 h4
 | .au ex n cs,u,h=>by
  simp only[af] at h ⊢;rcases h with ⟨b,o,c,h1,h2,h3,h4,h5,h6⟩ | h
  .refine .inl ⟨b,o,c,h1,h2,h3,h4.imp id (hS b),h5,?_⟩;rcases h4 with rfl | h4
   .simp only [cd]
   .exact TJ hm hS hw cs b o h4 h6
  .exact .inr h
 | .cR _ _ _ _,u,h=>by simp only[af] at h
 | .ay id o n,u,h=>by
  simp only[af] at h ⊢;obtain⟨p,c,h1,h2⟩:=h;exact⟨p,c,hm _ _ h1,h2⟩
 | .fn (.f g) first cap,u,h=>by
  simp only[af] at h ⊢;obtain⟨fi,ca,h1,h2,h3⟩:=h;exact⟨fi,ca,h1,jt hm hS hw first _ h2,jt hm hS hw cap _ h3⟩
 | .fn (.y l) _ _,u,h=>by
  simp only[af] at h ⊢;obtain⟨p,h1,h2⟩:=h;exact⟨p,hm _ _ h1,h2⟩
 | .map id,u,h=>by
  simp only[af] at h ⊢;obtain⟨p,h1,h2⟩:=h;exact⟨p,hm _ _ h1,h2⟩
 | .jJ ks vs,u,h=>by
  simp only[af] at h ⊢;obtain⟨b,es,clock,h1,h2,h3,h4,h5,h6,h7⟩:=h;exact⟨b,es,clock,h1,hS b h2,h3,h4,(hw b h2).trans h5,jt hm hS hw ks _ h6,jt hm hS hw vs _ h7⟩
 | .it id,u,h=>by
  simp only[af] at h ⊢;obtain⟨p,h1,h2⟩:=h;exact⟨p,hm _ _ h1,h2⟩
 | .agg cs,u,h=>by
  simp only[af] at h ⊢;obtain⟨xs,h1,h2⟩:=h;exact⟨xs,h1,jt hm hS hw cs _ h2⟩
 | .av cs,u,h=>by
  simp only[af] at h ⊢;obtain⟨xs,h1,h2⟩:=h;exact⟨xs,h1,jt hm hS hw cs _ h2⟩
def jt(hm:∀id p,m id=Gr p->m' id=Gr p)(hS:∀b,S b->S' b)(hw:gX S w w'):
  ∀(vs:List AV) (us:List yj),aE ae m S w vs us->aE ae m' S' w' vs us
 | [],us,h=>by simpa only[aE] using h
 | v::r,us,h=>by
  simp only[aE] at h ⊢;have⟨u,t,h1,h2,h3⟩:=h;exact⟨u,t,h1,nN hm hS hw v u h2,jt hm hS hw r t h3⟩
def TJ(hm:∀id p,m id=Gr p->m' id=Gr p)(hS:∀b,S b->S' b)(hw:gX S w w'):
  ∀(cs:List AV) (b o:Nat),S b->cd ae m S w cs b o->cd ae m' S' w' cs b o
 | [],_,_,_,_=>by simp only[cd]
 | c::cs,b,o,hb,h=>by
  simp only[cd] at h ⊢;have⟨⟨u,h1,h2⟩,h3⟩:=h;exact⟨⟨u,(N5 (hw b hb)).trans h1,nN hm hS hw c u h2⟩,TJ hm hS hw cs b (o+1) hb h3⟩
end
end
end
section
open Go
structure Hint where
 n:Nat
 br:FuncId->Option Nat
 live:Nat->List Nat
 out:Nat->Option (List Nat)
 mode:Nat->Md
 fz:Nat->List Nat
section
variable (P:xA)(H:Hint)
mutual
def fg:yj->AV
 | .int k n=>.int k n
 | .bool b=>.bool b
 | .float k b=>.an k b
 | .complex k a b=>.dj k a b
 | .string s=>.str (s.data.toList.map xr)
 | .pointer Gs=>.kP
 | .slice Gs 0 0=>.aj
 | .map Gs=>.jI
 | .nilFunc=>.fZ
 | .agg ⟨cs⟩=>.agg (GO cs)
 | .tuple ⟨cs⟩=>.av (GO cs)
 | _=>.undef
def GO:List yj->List AV
 | []=>[]
 | v::r=>fg v::GO r
end
def aP:xD->X
 | .tmp t=>.t t
 | .const v=>.c (fg v)
 | .global _=>.c .undef
 | .func f=>match H.br f with | some g=>.c (.fn (.f g) [] []) | none=>.c .undef
def jd:List xD->List X
 | []=>[]
 | x::r=>aP H x::jd r
def cC(t:yF):Option Nat:=match P.info? t with | some i=>Gr i.size | none=>Gs
def DG(t:yF):Option Nat:=match P.info? t with | some i=>Gr i.bytes | none=>Gs
def oY(t:yF):Option AV:=match P.info? t with | some i=>(match i.zero with | some v=>Gr (fg v) | none=>Gs) | none=>Gs
def dE(t:yF):Option Bool:=match P.underlying t with | some (.struct _) | some (.array _ _)=>Gr ydy | some _=>Gr ydz | none=>Gs
def bad:Op:=.call .pure (.c .undef) []
def partsOf(place:Nat->Option (Nat×Nat)):List (Nat×xD)->Option (List (Nat×Nat×X))
 | []=>Gr []
 | (i,x)::r=>
  match place i,partsOf place r with
  | some (o,s),Gr l=>Gr ((o,s,aP H x)::l)
  | _,_=>Gs
def pP(self:yF->Option (List Nat)):List uj->Nat->Option (List Nat)
 | [],_=>Gr []
 | f::r,o=>
  match self f.type,cC P f.type with
  | some ks,Gr s=>
   bif f.name != "_"&&yt f.offset o&&yt ks.length s&& !P.stoodInHeld f.type then
    (match pP self r (o+s) with | some l=>Gr (ks++l) | none=>Gs)
   else Gs
  | _,_=>Gs
def kinds:Nat->yF->Option (List Nat)
 | 0,_=>Gs
 | n+1,t=>
  match P.underlying t with
  | some .bool=>Gr [0]
  | some (.int _)=>Gr [1]
  | some .string=>Gr [2]
  | some (.struct fs)=>pP P (fun u=>kinds n u) fs.toList 0
  | some (.array k e)=>
   match kinds n e,cC P e with
   | some ks,Gr s=>bif yt ks.length s&& !P.stoodInHeld e then Gr (yk k ks).flatten else Gs
   | _,_=>Gs
  | _=>Gs
def BN(t:yF):Bool:=match P.underlying t with | some (.int _)=>ydy | _=>ydz
def keyOf(t:yF):Option Nat:=
 match P.underlying t with
 | some .bool=>Gr 0
 | some (.int _)=>Gr 1
 | some .string=>Gr 2
 | some (.struct fs)=>bif fs.toList.all (fun f=>BN P f.type)&& !P.stoodInHeld t then
   (match kinds P 20 t with | some ks=>(bif yt ks.length fs.size then Gr (fs.size+3) else Gs) | none=>Gs) else Gs
 | _=>Gs
def zp(ne:Bool)(t:yF)(a b:xD):Op:=
 match kinds P 20 t with
 | some ks=>bif P.stoodInHeld t||P.eqGuardType P.depth t then bad else .eq ne (.ag ks) (aP H a) (aP H b)
 | none=>bad
def rT(ne:Bool)(op:vl)(t:yF)(a b:xD):Op:=
 match P.underlying t with
 | some (.int _) | some .string | some (.float _) | some (.complex _)=>.bin op (aP H a) (aP H b)
 | some .bool=>.eq ne .b (aP H a) (aP H b)
 | some (.slice _)=>.eq ne .sl (aP H a) (aP H b)
 | some (.func _ _ _)=>.eq ne .fn (aP H a) (aP H b)
 | some (.struct _) | some (.array _ _)=>zp P H ne t a b
 | _=>bad
def aW(k:Nat)(o:xa):Op:=
 let x (y:xD):X:=aP H y
 match o.op with
 | .move a | .assign a=>.zR (x a)
 | .pick c a b=>.pick (x c) (x a) (x b)
 | .alloc t=>match cC P t,oY P t with | some s,Gr z=>.box s (.c z) | _,_=>bad
 | .box t v=>match cC P t with | some s=>.box s (x v) | none=>bad
 | .build t parts=>
  match P.underlying t,oY P t with
  | some (.struct fs),Gr (.agg z)=>
   match fs.toList.mapM (fun f=>(P.info? f.type).map fun i=>(f.offset,i.size)) with
   | some pl=>(match partsOf H (fun i=>pl[i]?) parts.toList with | some ps=>.E1 z ps | none=>bad)
   | none=>bad
  | some (.array _ e),Gr (.agg z)=>
   match cC P e with
   | some s=>(match partsOf H (fun i=>Gr (i*s,s)) parts.toList with | some ps=>.E1 z ps | none=>bad)
   | none=>bad
  | _,_=>bad
 | .buildSlice t n parts=>
  match P.underlying t with
  | some (.slice e)=>
   match cC P e,oY P e with
   | some s,Gr z=>
    bif yJ (n*s) 16777216 then
     (match partsOf H (fun i=>Gr (i*s,s)) parts.toList with | some ps=>.kQ n s (yk n (cellsOf z)).flatten ps | none=>bad)
    else bad
   | _,_=>bad
  | _=>bad
 | .load t a=>match cC P t,dE P t with | some s,Gr ag=>.ld s ag (x a) | _,_=>bad
 | .store t a v=>match cC P t with | some s=>.st s (x a) (x v) | none=>bad
 | .nilCheck a=>.LQ (x a)
 | .binOp op t a b _=>
  match op with
  | .eql=>rT P H ydz op t a b
  | .neq=>rT P H ydy op t a b
  | _=>.bin op (x a) (x b)
 | .unOp op _ a=>.un op (x a)
 | .convert s d a=>
  match P.underlying s,P.underlying d with
  | some (.int _),Gr (.int k) | some (.float _),Gr (.int k)=>.cv (.toInt k) (x a)
  | some (.int _),Gr (.float k) | some (.float _),Gr (.float k)=>.cv (.toFlt k) (x a)
  | some .string,Gr .string=>.cv .str (x a)
  | _,_=>bad
 | .makeFunc (.func f) first cap=>match H.br f with | some g=>.Ii (.f g) (jd H first.toList) (jd H cap.toList) | none=>bad
 | .makeMap t Gs=>match P.underlying t with | some (.map ke _)=>(match keyOf P ke with | some _=>.B5 | none=>bad) | _=>bad
 | .makeSlice t l c=>
  match P.underlying t with
  | some (.slice e)=>(match cC P e,DG P e,oY P e with | some s,Gr b,Gr z=>.qP s b (cellsOf z) (x l) (x c) | _,_,_=>bad)
  | _=>bad
 | .slice t a lo hi Gs=>
  match P.underlying t with
  | some .string=>.sD .str (x a) (lo.map x) (hi.map x)
  | some (.slice e)=>(match cC P e with | some s=>.sD (.sl s) (x a) (lo.map x) (hi.map x) | none=>bad)
  | some (.array n e)=>(match cC P e with | some s=>.sD (.ar n s) (x a) (lo.map x) (hi.map x) | none=>bad)
  | _=>bad
 | .fieldAddr t a i=>
  match P.underlying t with
  | some (.struct fs)=>
   match fs[i]? with
   | some f=>(match cC P f.type with | some (_+1)=>.off f.offset (x a) | _=>bad)
   | none=>bad
  | _=>bad
 | .field t a i=>
  match P.underlying t with
  | some (.struct fs)=>
   match fs[i]? with
   | some f=>(match cC P f.type,dE P f.type with | some s,Gr ag=>.MT f.offset s ag (x a) | _,_=>bad)
   | none=>bad
  | _=>bad
 | .indexAddr t a i=>
  match P.underlying t with
  | some (.slice e)=>(match cC P e with | some s=>.bj s (x a) (x i) | none=>bad)
  | some (.array n e)=>(match cC P e with | some s=>.Ij n s (x a) (x i) | none=>bad)
  | _=>bad
 | .index t a i=>
  match P.underlying t with
  | some .string=>.Ik (x a) (x i)
  | some (.array n e)=>(match cC P e,dE P e with | some s,Gr ag=>.Il n s ag (x a) (x i) | _,_=>bad)
  | _=>bad
 | .lookup t a i ok=>
  match P.underlying t with
  | some (.map ke e)=>(match keyOf P ke,oY P e with | some kk,Gr z=>.Sn kk z ok (x a) (x i) | _,_=>bad)
  | _=>bad
 | .mapUpdate t a i v | .insert t a i v=>
  match P.underlying t with
  | some (.map ke _)=>(match keyOf P ke with | some kk=>.sE kk (x a) (x i) (x v) | none=>bad)
  | _=>bad
 | .range t a=>match P.underlying t with | some .string=>.sF (x a) | _=>bad
 | .next it ydy=>.sG (x it)
 | .extract t i=>.ext i (x t)
 | .call c=>
  match c.callee with
  | .value f=>(match H.mode k with | .dyn=>.jV [] (x f) (jd H c.args.toList) | md=>.call md (x f) (jd H c.args.toList))
  | .builtin b=>
   match b,c.args.toList,c.argTypes.toList with
   | .append,[s,a],[t,u]=>
    match P.underlying t,P.underlying u with
    | some (.slice e),Gr (.slice _) | some (.slice e),Gr .string=>
     (match cC P e,DG P e,oY P e with | some sz,Gr by',Gr z=>(bif yt (cellsOf z).length sz then .ew sz by' (x s) (x a) else bad) | _,_,_=>bad)
    | _,_=>bad
   | .len,[a],[t]=>
    match P.underlying t with
    | some (.array n _)=>.zR (.c (.int .i64 n))
    | some .string=>.len 0 (x a)
    | some (.slice _)=>.len 1 (x a)
    | some (.map _ _)=>.len 2 (x a)
    | _=>bad
   | .copy,[d,s],[t,_]=>
    match P.underlying t with
    | some (.slice e)=>(match cC P e with | some sz=>.px sz (x d) (x s) | none=>bad)
    | _=>bad
   | .min,l,_=>.mn (jd H l)
   | .max,l,_=>.mx (jd H l)
   | .real,[a],_=>.cv .re (x a)
   | .imag,[a],_=>.cv .im (x a)
   | .complex,[a,b],_=>.MU (x a) (x b)
   | _,_,_=>bad
  | _=>bad
 | _=>bad
def VP(o:xa):Bool:=match o.op with | .call {callee:=.value _,..}=>ydy | _=>ydz
def Ly(d:Option Nat):Bool:=match d with | some i=>yQ i H.n | none=>ydy
def BE(n:Nat):List Nat->Bool
 | []=>ydy
 | i::r=>yQ i n&&BE n r
def Ez(ops:Array xa):List xa->Nat->List aU×Nat
 | [],k=>([],k)
 | o::r,k=>
  let g:=match o.guard with
   | none=>Gr Gs
   | some (j,b)=>match (ops[j]?).bind (·.dst) with | some t=>Gr (Gr (t,b)) | none=>Gs
  match Ez ops r (k+(bif VP o then 1 else 0)) with
  | (l,k')=>
   match g,Ly H o.dst with
   | some g,ydy=>(⟨o.dst,g,aW P H k o⟩::l,k')
   | _,_=>(⟨o.dst,Gs,bad⟩::l,k')
def CU(acc:List Nat):List Edge->Nat
 | []=>0
 | e::r=>bif Region.binds .any e then (2^e.on|||acc.getD e.on 0)|||CU acc r else CU acc r
def lZ(acc:List Nat):List xa->List Nat
 | []=>acc
 | o::r=>lZ (acc++[CU acc o.after.toList]) r
def rE:List xa->Nat->Bool
 | [],_=>ydy
 | o::r,i=>o.after.toList.all (fun e=> !Region.binds .any e||yQ e.on i)&&rE r (i+1)
def Ph(ops:Array xa)(draw:Bool)(k:Nat):List aU×Nat:=
 match Ez P H ops ops.toList k with
 | (l,k')=>
  bif draw then
   (let ms:=lZ [] ops.toList
    let l':=mB [] l ms
    bif rE ops.toList 0&&As [] l' ms then (l',k') else
    (let pm:=places l ms
    let zS:=CP ms pm pm pm
    let l2:=mB [] (Da (E5 l l) pm) zS
    bif rE ops.toList 0&&(Kz ops.size pm (AA pm ops.size)&&As [] l2 zS) then (l2,k') else ([⟨Gs,Gs,bad⟩],k')))
  else (l,k')
def auR:vB->Bool
 | .loop _=>ydy
 | _=>ydz
def comp:vB->Nat->Nat->VC×Nat×Nat
 | .skip,l,k | .label _,l,k=>(.skip,l,k)
 | .region i ops d,l,k=>match Ph P H ops d k with | (r,k')=>((match H.fz i with | []=>.qR r | t::ts=>.seq (.fz (t::ts)) (.qR r)),l,k')
 | .seq a b,l,k=>match comp a l k with | (a',l1,k1)=>match comp b l1 k1 with | (b',l2,k2)=>(.seq a' b',l2,k2)
 | .cond c a b,l,k=>
  match comp a (l+1) k with
  | (a',l1,k1)=>
   match comp b l1 k1 with
   | (b',l2,k2)=>(match H.out l with | some o=>.seq (.cond (aP H c) a' b') (.kp o) | none=>.cond (aP H c) a' b',l2,k2)
 | .block id a,l,k=>
  match comp a l k with
  | (a',r)=>(match auR a,H.out l with | true,Gr o=>.seq (.iR id a') (.kp o) | _,_=>.iR id a',r)
 | .loop a,l,k=>match comp a (l+1) k with | (a',r)=>(.loop (H.live l) a',r)
 | .rangeFunc f ps as_ body,l,k=>
  match comp as_ l k with | (as',l1,k1)=>match comp body l1 k1 with | (b',l2,k2)=>(bif BE H.n ps.toList then .rf (aP H f) ps.toList as' b' else .qR [⟨Gs,Gs,bad⟩],l2,k2)
 | .exit id,l,k=>(.exit id,l,k)
 | .scope a,l,k=>comp a l k
 | .ret,l,k=>(.ret,l,k)
 | .goto _,l,k | .refuse _,l,k=>(.qR [⟨Gs,Gs,bad⟩],l,k)
def rK:List ResultVar->Option (List RV)
 | []=>Gr []
 | .tmp t::r=>match rK r with | some l=>Gr (.t t::l) | none=>Gs
 | .cell a t::r=>match cC P t,dE P t,rK r with | some s,Gr ag,Gr l=>Gr (.cell a s ag::l) | _,_,_=>Gs
def GP(fn:Func):Option ax:=
 match fn.body,rK P fn.results.toList with
 | some c,Gr rs=>bif yJ H.n fn.ntmps then Gr ⟨rs,(comp P H c 0 0).1⟩ else Gs
 | _,_=>Gs
end
end
section
open Go
structure bC where
 P:xA
 aJ:Lib
 ae:Nat->Nat
 prog:aF
 hint:Nat->Hint
 w0:yo
def DH(P:xA)(H:Hint)(v:VC)(c:vB):Prop:=∃l k,(comp P H c l k).1=v
def Dl:Nat->LoopState
 | 0=>.ready
 | 1=>.busy
 | 2=>.done
 | _=>.exhausted
def Bx:AG->Option vB
 | .none=>Gs
 | .ret=>Gr .ret
 | .exit id=>Gr (.exit id)
section
variable (O:bC)(m:Mp)(S:Nat->Prop)(w:yo)
def cg(tm:Env)(tmps:Array yj):Prop:=∀i,af O.ae m S w (ai tm i) (tmps.getD i undef)
def gh(id:Nat):Obj->Prop
 | .cells rw pu ex sz cs=>∃p arr t,m id=Gr p/\w.heap[p.b]? =Gr (.cells arr t (0,0))/\p.z=sz/\cs.length<=p.e/\p.o+p.e<=arr.size/\
   (ex=ydy->cs.length=p.e)/\cd O.ae m S w cs p.b p.o/\(pu=ydy->aH cs=ydy)/\(rw=ydy->¬S p.b)/\(rw=ydz->S p.b)
 | .mp rw ks vs=>∃p es clock,m id=Gr p/\w.heap[p.b]? =Gr (.map es clock)/\aE O.ae m S w ks (es.toList.map (·.key))/\aE O.ae m S w vs (es.toList.map (·.val))/\
   (rw=ydy->¬S p.b)/\(rw=ydz->S p.b)
 | .si s pos=>∃p t,m id=Gr p/\w.heap[p.b]? =Gr (.stringIter t pos)/\t.data.toList.map xr=s/\¬S p.b
 | .lp tm ps as_ body st pe=>∃p l h,m id=Gr p/\w.heap[p.b]? =Gr (.loop l)/\¬S p.b/\l.state=Dl st/\st<=2/\l.pending=Bx pe/\cg O m S w tm l.tmps/\
   l.params.toList=ps/\DH O.P (O.hint h) as_ l.assign/\DH O.P (O.hint h) body l.body/\(O.hint h).n<=l.tmps.size/\BE (O.hint h).n ps=ydy
structure aT(hp:Hp)(ct:Nat):Prop where
 obj:∀id o p,ak hp id=Gr o->m id=Gr p->gh O m S w id o
 lt:∀id p,m id=Gr p->id<ct
 inj:∀i j oi oj pi pj,ak hp i=Gr oi->ak hp j=Gr oj->m i=Gr pi->m j=Gr pj->pi.b=pj.b->i=j
 slt:∀b,S b->b<w.heap.size
 blt:∀id p,m id=Gr p->p.b<w.heap.size
 low:∀id p,m id=Gr p->O.w0.heap.size<=p.b
 nf:∀b,b<O.w0.heap.size->w.heap[b]? =O.w0.heap[b]?
 gZ:O.w0.heap.size<=w.heap.size
 aG:∀id o,ak hp id=Gr o->id<ct
end
def eH(m:Mp)(hp:Hp)(b:Nat):Prop:=∃id o p,ak hp id=Gr o/\m id=Gr p/\p.b=b
structure cp(m:Mp)(S:Nat->Prop)(w:yo)(hp:Hp)(m':Mp)(S':Nat->Prop)(w':yo)(ap:Hp)(base:Nat):Prop where
 os:w'.os=w.os
 tape:w'.tape=w.tape
 output:w'.output=w.output
 size:w.heap.size<=w'.heap.size
 same:∀b,b<w.heap.size->¬eH m hp b->w'.heap[b]? =w.heap[b]?
 sub:∀b,S b->S' b
 still:∀b,S b->w'.heap[b]? =w.heap[b]?
 new:∀b,S' b->S b\/eH m hp b\/w.heap.size<=b
 own:∀b,eH m' ap b->eH m hp b\/w.heap.size<=b
 old:∀id p,id<base->m id=Gr p->m' id=Gr p
 loops:∀(b:Nat) (r:tp),w.heap[b]? =Gr (.loop r)->∃r':tp,w'.heap[b]? =Gr (.loop r')
def cp.refl{m:Mp}{w:yo}{hp:Hp}:cp m S w hp m S w hp base:=
 ⟨rfl,rfl,rfl,yx _,fun _ _ _=>rfl,fun _ h=>h,fun _ _=>rfl,fun _ h=>.inl h,fun _ h=>.inl h,fun _ _ _ h=>h,fun _ r h=>⟨r,h⟩⟩
def cp.trans{m m' MX:Mp}{DI:Nat->Prop}{w w' So:yo}{hp ap LR:Hp}(h:cp m S w hp m' S' w' ap base)(k:cp m' S' w' ap MX DI So LR base):cp m S w hp MX DI So LR base where
 os:=k.os.trans h.os
 tape:=k.tape.trans h.tape
 output:=k.output.trans h.output
 size:=xi h.size k.size
 same b hb ho:=(k.same b (yI hb h.size) (fun mL=>(h.own b mL).elim ho (fun h1=>by omega))).trans (h.same b hb ho)
 sub b hb:=k.sub b (h.sub b hb)
 still b hb:=(k.still b (h.sub b hb)).trans (h.still b hb)
 new b hb:=by
  rcases k.new b hb with h1 | h1 | h1
  .exact h.new b h1
  .rcases h.own b h1 with h2 | h2
   .grind
   .grind
  .exact .inr (.inr (xi h.size h1))
 own b hb:=by
  rcases k.own b hb with h1 | h1
  .exact h.own b h1
  .exact .inr (xi h.size h1)
 old id p hid hp:=k.old id p hid (h.old id p hid hp)
 loops b r hb:=let ⟨r',h1⟩:=h.loops b r hb;k.loops b r' h1
end
section
open Go
section
variable {ae:Nat->Nat}{m:Mp}{S:Nat->Prop}{w:yo}
mutual
def Pj:∀v:yj,af ae m S w (fg v) v
 | .int _ _ | .bool _ | .float _ _ | .complex _ _ _=>by simp only[fg,af]
 | .string s=>by simp only[fg,af];exact⟨s,rfl,rfl⟩
 | .pointer Gs=>by simp only[fg,af]
 | .pointer (Gr _)=>by simp only[fg,af]
 | .slice Gs 0 0=>by simp only[fg,af]
 | .slice Gs 0 (_+1)=>by simp only[fg,af]
 | .slice Gs (_+1) _=>by simp only[fg,af]
 | .slice (Gr _) _ _=>by simp only[fg,af]
 | .map Gs=>by simp only[fg,af]
 | .map (Gr _)=>by simp only[fg,af]
 | .nilFunc=>by simp only[fg,af]
 | .agg ⟨cs⟩=>by simp only[fg,af];exact⟨⟨cs⟩,rfl,UF cs⟩
 | .tuple ⟨cs⟩=>by simp only[fg,af];exact⟨⟨cs⟩,rfl,UF cs⟩
 | .chan _ | .func _ _ _ | .iface _ _ | .nilIface=>by simp only[fg,af]
def UF:∀l:List yj,aE ae m S w (GO l) l
 | []=>by simp only[GO,aE]
 | v::r=>by simp only[GO,aE];exact⟨v,r,rfl,Pj v,UF r⟩
end
end
def fW(O:bC)(H:Hint):Prop:=∀f g,H.br f=Gr g->O.ae g=f
section
variable {O:bC}{H:Hint}{m:Mp}{S:Nat->Prop}{w:yo}{tm:Env}{a:Act}
def ck(hH:fW O H)(ht:cg O m S w tm a.tmps)(x:xD):af O.ae m S w (aB tm (aP H x)) (a.eval x):=by
 cases x with
 | tmp t=>exact ht t
 | const v=>simp only[aP,aB,Act.eval];exact Pj v
 | global g=>simp only[aP,aB,af]
 | func f=>
  simp only[aP,Act.eval]
  cases hr:H.br f with
  | none=>simp only[aB,af]
  | some g=>simp only[aB,af,hH f g hr,aE];exact⟨#[],#[],rfl,rfl,rfl⟩
def EH(hH:fW O H)(ht:cg O m S w tm a.tmps):∀l:List xD,aE O.ae m S w (dM tm (jd H l)) (l.map a.eval)
 | []=>by simp only[jd,dM,List.map_nil,aE]
 | x::r=>by simp only[jd,dM,yV,aE];exact⟨_,_,rfl,ck hH ht x,EH hH ht r⟩
end
section
variable {O:bC}{m:Mp}{S:Nat->Prop}{w:yo}
def Ak{ae:Nat->Nat}:∀(k:Nat) (cs:List AV) (b o:Nat),cd ae m S w cs b o->cd ae m S w (cs.drop k) b (o+k)
 | 0,cs,b,o,h=>by simpa using h
 | k+1,[],b,o,_=>by simp only[List.drop_nil,cd]
 | k+1,c::cs,b,o,h=>by
  have:=Ak k cs b (o+1) h.2
  grind
def CC{ae:Nat->Nat}:∀(k:Nat) (cs:List AV) (b o:Nat),cd ae m S w cs b o->cd ae m S w (cs.take k) b o
 | 0,cs,b,o,_=>by simp only[ycj,cd]
 | k+1,[],b,o,_=>by simp only[List.take_nil,cd]
 | k+1,c::cs,b,o,h=>by
  exact⟨h.1,CC k cs b (o+1) h.2⟩
def Bm{ae:Nat->Nat}:∀(cs:List AV) (b o:Nat),cd ae m S w cs b o->
  ∃us:List yj,aE ae m S w cs us/\us.length=cs.length/\∀j u,us[j]? =Gr u->w.cell? ⟨b,o+j,Gs⟩=Gr u
 | [],b,o,_=>⟨[],by simp only[aE],rfl,fun j u h=>by simp at h⟩
 | c::cs,b,o,h=>by
  obtain⟨⟨u,h1,h2⟩,h3⟩:=h;obtain⟨us,h4,h5,h6⟩:=Bm cs b (o+1) h3;refine⟨u::us,by simp only[aE];exact⟨u,us,rfl,h2,h4⟩,by simp[h5],fun j v hv=>?_⟩
  cases j with
  | zero=>simp at hv;subst hv;simpa using h1
  | succ j=>simp at hv;have:=h6 j v hv;rw[show o+(j+1)=o+1+j by omega];exact this
def jE{ae:Nat->Nat}:∀(cs:List AV) (us:List yj),aE ae m S w cs us->us.length=cs.length
 | [],us,h=>by simp only[aE] at h;subst h;rfl
 | c::cs,us,h=>by
  obtain⟨u,r,rfl,_,h3⟩:=h;simp[jE cs r h3]
end
end
section
open Go
def pZ(b o j:Nat):(⟨b,o,Gs⟩:uX).add j=⟨b,o+j,Gs⟩:=by
 unfold Addr.add;split<;>simp_all
section
variable {P:xA}{w:yo}
def amB(t:yF)(b o:Nat)(us:List yj)(ha:dE P t=Gr ydy)(hz:cC P t=Gr us.length)(h:∀j u,us[j]? =Gr u->w.cell? ⟨b,o+j,Gs⟩=Gr u):(loadVar t ⟨b,o,Gs⟩).run P w=.ok (.agg us.toArray) w:=by
 have hl:=run_loadCells_list (P:=P) w ⟨b,o,Gs⟩ us (fun j u hu=>by rw[pZ];exact h j u hu)
 unfold cC at hz
 cases hi:P.info? t with
 | none=>simp[hi] at hz
 | some i=>
  unfold dE at ha
  cases hu:P.underlying t with
  | none=>simp[hu] at ha
  | some d=>cases d<;>simp_all[loadVar,isAgg,vC,typeInfo,underlying]
def amC(t:yF)(b o:Nat)(u:yj)(ha:dE P t=Gr ydz)(h:w.cell? ⟨b,o,Gs⟩=Gr u):(loadVar t ⟨b,o,Gs⟩).run P w=.ok u w:=by
 unfold dE at ha
 cases hu:P.underlying t with
 | none=>simp[hu] at ha
 | some d=>cases d<;>simp_all[loadVar,isAgg,underlying]
end
section
variable {O:bC}{m:Mp}{S:Nat->Prop}{w:yo}
def Pk{t:yF}{ag:Bool}{cs:List AV}{b o:Nat}{v:AV}(hz:cC O.P t=Gr sz)(ha:dE O.P t=Gr ag)(hr:cd O.ae m S w cs b o)(hv:jj sz ag cs=Gr v):∃u,(loadVar t ⟨b,o,Gs⟩).run O.P w=.ok u w/\af O.ae m S w v u:=by
 cases ag with
 | true=>
  simp only[jj,yy] at hv
  cases hle:yJ sz cs.length with
  | false=>simp only[hle,yT] at hv;cases hv
  | true=>
   simp only[hle,yy,yc] at hv;subst hv;obtain⟨us,h1,h2,h3⟩:=Bm _ _ _ (CC sz cs b o hr);have hlen:us.length=sz:=by
    simp_all
   refine⟨.agg us.toArray,amB t b o us ha (by rw[hlen];exact hz) h3,?_⟩
   simp only[af]
   grind
 | false=>
  simp only[jj,yT] at hv
  cases cs with
  | nil=>simp at hv
  | cons c cs=>
   simp only[yc] at hv;subst hv;obtain⟨⟨u,h1,h2⟩,_⟩:=hr;exact⟨u,amC t b o u ha h1,h2⟩
def aen{t:yF}{o:Nat}{ag:Bool}{cs:List AV}{xs:Array yj}{v:AV}(hz:cC O.P t=Gr sz)(ha:dE O.P t=Gr ag)(hr:aE O.ae m S w cs xs.toList)(hv:jj sz ag (cs.drop o)=Gr v):∃u,(part t xs o).run O.P w=.ok u w/\af O.ae m S w v u:=by
 have hd:∀(k:Nat) (cs:List AV) (us:List yj),aE O.ae m S w cs us->aE O.ae m S w (cs.drop k) (us.drop k):=by
  intro k
  induction k with
  | zero=>intro cs us h;simpa using h
  | succ k ih=>
   intro cs us h
   cases cs with
   | nil=>simp only[aE] at h;subst h;simp[aE]
   | cons c cs=>simp only[aE] at h;obtain⟨u,r,rfl,_,h3⟩:=h;simpa using ih cs r h3
 have eL:∀(k:Nat) (cs:List AV) (us:List yj),aE O.ae m S w cs us->aE O.ae m S w (cs.take k) (us.take k):=by
  intro k
  induction k with
  | zero=>intro cs us h;simp[aE]
  | succ k ih=>
   intro cs us h
   cases cs with
   | nil=>simp only[aE] at h;subst h;simp[aE]
   | cons c cs=>simp only[aE] at h;obtain⟨u,r,rfl,h2,h3⟩:=h;simp only[wN,aE];exact⟨u,_,rfl,h2,ih cs r h3⟩
 have ahM:(isAgg t).run O.P w=.ok ag w:=by
  unfold dE at ha
  cases hu:O.P.underlying t with
  | none=>simp[hu] at ha
  | some d=>cases d<;>simp_all[isAgg,underlying]
 have eS:(vC t).run O.P w=.ok sz w:=by
  unfold cC at hz
  cases hi:O.P.info? t with
  | none=>simp[hi] at hz
  | some i=>simp_all[vC,typeInfo]
 have bQ:=hd o cs xs.toList hr
 cases ag with
 | true=>
  simp only[jj,yy] at hv
  cases hle:yJ sz (cs.drop o).length with
  | false=>simp only[hle,yT] at hv;cases hv
  | true=>
   simp only[hle,yy,yc] at hv;subst hv;refine⟨.agg (xs.extract o (o+sz)),by simp[part,Sem.run_bind,ahM,eS],?_⟩;simp only[af]
   simp_all
 | false=>
  simp only[jj,yT] at hv
  cases hc:cs.drop o with
  | nil=>simp[hc] at hv
  | cons c r=>
   simp only[hc,yc] at hv;subst hv;rw[hc] at bQ;simp only[aE] at bQ;obtain⟨u,us,h1,h2,_⟩:=bQ;have hx:xs[o]? =Gr u:=by
    have:xs.toList[o]? =Gr u:=by
     have:=congrArg (fun l=>l[0]?) h1
     simpa using this
    simpa using this
   exact⟨u,by simp[part,Sem.run_bind,ahM,hx],h2⟩
end
end
section
open Go
section
variable {v:AV}{k:xh}{b:Nat}
def nT(t:ByteArray):List Nat:=t.data.toList.map xr
def aeo:∀a b:List UInt8,db (a.map xr) (b.map xr)=(a==b)
 | [],[]=>rfl
 | [],_::_=>rfl
 | _::_,[]=>rfl
 | a::x,b::y=>by
  have h:yt a.toNat b.toNat=(a==b):=by
   rw[yaA,ydr,yag];exact ybN
  simp only[yV,db,aeo x y,h,List.cons_beq_cons]
def aep:∀a b:List UInt8,DD (a.map xr) (b.map xr)=Op.bytesLess a b
 | [],[]=>rfl
 | [],_::_=>rfl
 | _::_,[]=>rfl
 | a::x,b::y=>by
  have h:yt a.toNat b.toNat=(a==b):=by
   rw[yaA,ydr,yag];exact ybN
  have h2:yQ a.toNat b.toNat=decide (a<b):=by
   rw[yaA];simp only[yQ,yds,xc,UInt8.lt_iff_toNat_lt]
   lia
  simp only[yV,DD,Op.bytesLess,aep x y,h,h2]
def ab9(s t:ByteArray):db (nT s) (nT t)=(s.toList==t.toList):=by
 rw[nT,nT,aeo,ByteArray.toList_eq,ByteArray.toList_eq]
def anW(s t:ByteArray):DD (nT s) (nT t)=Op.bytesLess s.toList t.toList:=by
 rw[nT,nT,aep,ByteArray.toList_eq,ByteArray.toList_eq]
def aca(s:ByteArray):(nT s).length=s.size:=by
 rw[nT,List.length_map,Lib.size_eq]
section
variable {ae:Nat->Nat}{P:xA}{m:Mp}{S:Nat->Prop}{w:yo}{t:yF}
def apI{op:vl}{y:Int}(h:mY op k x y=Gr v):
  ∃u,(wb op t (.int k x) (.int k y)).run P w=.ok u w/\af ae m S w v u:=by
 cases op<;>simp only[mY,intCmp,yc] at h
 case quo=>
  by_cases hy:y=0
  .grind
  .simp only [hy,xz,yc] at h;subst h;exact⟨_,by simp[wb,Op.intDiv,hy];rfl,by simp[af]⟩
 case rem=>
  by_cases hy:y=0
  .grind
  .simp only [hy,xz,yc] at h;subst h;exact⟨_,by simp[wb,Op.intDiv,hy];rfl,by simp[af]⟩
 case shl=>cases h
 case shr=>cases h
 all_goals
  subst h;exact⟨_,by simp[wb,Op.intCmp];rfl,by simp[af]⟩
def abr{op:vl}{k':xh}{y:Int}(h:Ey op k x y=Gr v):
  ∃u,(wb op t (.int k x) (.int k' y)).run P w=.ok u w/\af ae m S w v u:=by
 unfold Ey at h;by_cases hy:y<0
 .grind
 .simp only [hy,xz] at h;cases op<;>simp only[yc] at h
  case shl=>subst h;exact⟨_,by simp[wb,Op.shift,hy];rfl,by simp[af]⟩
  case shr=>subst h;exact⟨_,by simp[wb,Op.shift,hy];rfl,by simp[af]⟩
  all_goals cases h
def apJ{op:vl}{x y:ByteArray}(h:Lt op (nT x) (nT y)=Gr v):
  ∃u,(wb op t (.string x) (.string y)).run P w=.ok u w/\af ae m S w v u:=by
 cases op<;>simp only[Lt,ab9,anW,aca,yc] at h
 case add=>
  cases hle:yJ (x.size+y.size) 9223372036854775807 with
  | false=>rw[hle] at h;cases h
  | true=>
   rw[hle] at h;simp only[yy,yc] at h;subst h;have aHL:=yA hle;have BO:¬(((x.size+y.size:Nat):Int)>IntKind.i64.max):=by
    have:IntKind.i64.max=9223372036854775807:=by decide
    grind
   refine⟨.string (x++y),?_,?_⟩
   .simp only [wb,Op.stringOp,yp BO,Sem.run_pure]
   .simp only [af];exact⟨x++y,rfl,by simp[nT]⟩
 all_goals first
  | (cases h;done)
  | (subst h;exact⟨_,by simp[wb,Op.stringOp];rfl,by simp[af]⟩)
def apK{op:vl}{k:xY}{x y:Nat}(h:P7 op k x y=Gr v):
  ∃u,(wb op t (.float k x) (.float k y)).run P w=.ok u w/\af ae m S w v u:=by
 cases op<;>simp only[P7,yc] at h
 case add=>
  cases hr:k.format.add x y with
  | none=>simp[hr] at h
  | some r=>simp only[hr,yc] at h;subst h;exact⟨.float k r,by simp[wb,Op.floatArith,hr],by simp[af]⟩
 case sub=>
  cases hr:k.format.sub x y with
  | none=>simp[hr] at h
  | some r=>simp only[hr,yc] at h;subst h;exact⟨.float k r,by simp[wb,Op.floatArith,hr],by simp[af]⟩
 case mul=>
  cases hr:k.format.mul x y with
  | none=>simp[hr] at h
  | some r=>simp only[hr,yc] at h;subst h;exact⟨.float k r,by simp[wb,Op.floatArith,hr],by simp[af]⟩
 case quo=>
  cases hr:k.format.div x y with
  | none=>simp[hr] at h
  | some r=>simp only[hr,yc] at h;subst h;exact⟨.float k r,by simp[wb,Op.floatArith,hr],by simp[af]⟩
 all_goals first
  | (cases h;done)
  | (subst h;exact⟨_,by simp[wb,Op.floatCmp];rfl,by simp[af]⟩)
def aeq(k:xY)(x y:Nat):(Op.Complex.cmp .eql k x y).run P w=.ok (k.format.order x y==Gr .eq) w:=by
 simp[Op.Complex.cmp,Op.floatCmp,asBool]
def Au{op:vl}{k:xY}{x y r:Nat}(h:nB op k x y=Gr r):(Op.Complex.arith op k x y).run P w=.ok r w:=by
 unfold nB at h
 split at h
 .simp [Op.Complex.arith,Op.floatArith,h]
 .simp [Op.Complex.arith,Op.floatArith,h]
 .simp [Op.Complex.arith,Op.floatArith,h]
 .cases h
def GQ{s k:xY}{r:Nat}(h:DE s k b=Gr r):(Op.Complex.conv s b k).run P w=.ok r w:=by
 unfold DE at h;unfold Op.Complex.conv;by_cases hk:s=k
 .rw [yE hk] at h ⊢;cases h;rfl
 .rw [yp hk] at h ⊢
  cases hd:s.decode b with
  | nan _ _=>simp[hd] at h
  | infinity _=>simp[hd] at h
  | number sg m e=>
   simp only[hd] at h
   cases hi:(k.decode (k.encode (.number sg m e))).isInfinity with
   | true=>simp[hi] at h
   | false=>simp[hi] at h;subst h;simp[Conv.floatToFloat,hk,hd,hi]
def anX{k:xY}{c:Nat}(h:VN k a b c d=Gr v):
  ∃u,(wb .mul t (.complex k a b) (.complex k c d)).run P w=.ok u w/\af ae m S w v u:=by
 unfold VN at h
 split at h
 .rename_i a' b' c' d' h1 h2 h3 h4
  split at h
  .rename_i p q r s g1 g2 g3 g4
   split at h
   .rename_i e f k1 k2
    split at h
    .rename_i e' f' l1 l2;cases h;exact⟨.complex k e' f',by simp[wb,Op.complexOp,Op.Complex.product,Op.Complex.mul,Op.Complex.sub,Op.Complex.add,GQ h1,GQ h2,GQ h3,GQ h4,Au g1,Au g2,Au g3,Au g4,Au k1,Au k2,GQ l1,GQ l2],by simp[af]⟩
    .cases h
   .cases h
  .cases h
 .cases h
def apL{op:vl}{k:xY}{c:Nat}(h:Wl op k a b c d=Gr v):
  ∃u,(wb op t (.complex k a b) (.complex k c d)).run P w=.ok u w/\af ae m S w v u:=by
 cases op<;>simp only[Wl,yc,reduceCtorEq] at h
 case add=>
  cases h1:nB .add k a c with
  | none=>simp[h1] at h
  | some r=>
   cases h2:nB .add k b d with
   | none=>simp[h1,h2] at h
   | some i=>
    simp only[h1,h2,yc] at h;subst h;exact⟨.complex k r i,by simp[wb,Op.complexOp,Au h1,Au h2],by simp[af]⟩
 case sub=>
  cases h1:nB .sub k a c with
  | none=>simp[h1] at h
  | some r=>
   cases h2:nB .sub k b d with
   | none=>simp[h1,h2] at h
   | some i=>
    simp only[h1,h2,yc] at h;subst h;exact⟨.complex k r i,by simp[wb,Op.complexOp,Au h1,Au h2],by simp[af]⟩
 case mul=>exact anX h
 case eql=>subst h;exact⟨_,by simp[wb,Op.complexOp,aeq];rfl,by simp[af]⟩
 case neq=>subst h;exact⟨_,by simp[wb,Op.complexOp,aeq];rfl,by simp[af]⟩
def apM{op:vl}{vx vy:AV}{x y:yj}(hx:af ae m S w vx x)(hy:af ae m S w vy y)(h:VE.binOp op vx vy=Gr v):
  ∃u,(wb op t x y).run P w=.ok u w/\af ae m S w v u:=by
 unfold VE.binOp at h
 split at h
 .rename_i k a k' b;simp only[af] at hx hy;subst hx;subst hy
  split at h
  .exact abr h
  .exact abr h
  .by_cases hk:k=k'
   .subst hk;simp only[xS] at h;exact apI h
   .simp [hk] at h
 .rename_i k a k' b;simp only[af] at hx hy;subst hx;subst hy;by_cases hk:k=k'
  .subst hk;simp only[xS] at h;exact apK h
  .simp [hk] at h
 .rename_i a b;simp only[af] at hx hy;obtain⟨s,rfl,rfl⟩:=hx;obtain⟨s',rfl,rfl⟩:=hy;exact apJ h
 .rename_i k a b k' c d;simp only[af] at hx hy;subst hx;subst hy;by_cases hk:k=k'
  .subst hk;simp only[xS] at h;exact apL h
  .simp [hk] at h
 .cases h
end
end
end
section
open Go
section
variable {v vx:AV}{vr:Bool}{d:Nat}{x:yj}
section
variable {ae:Nat->Nat}{P:xA}{m:Mp}{S:Nat->Prop}{w:yo}{t:yF}
def am8{op:vl}{x y:xD}{a b:yj}(h:P.eqGuardType P.depth t=ydz\/∀xs ys,¬(a=.agg xs/\b=.agg ys))(hn:a≠.nilIface):
  (eqGuard op t x y a b).run P w=.ok () w:=by
 unfold eqGuard;cases op
 all_goals first
  | rfl
  | (
    cases a
    all_goals first
     | rfl
     | exact absurd rfl hn
     | (
      cases b
      all_goals first
       | rfl
       | (
         rcases h with h | h
         .simp [h]
         .exact absurd ⟨rfl,rfl⟩ (h _ _))))
def auS{p q:Bool}(ht:P.underlying t=Gr .bool):(Op.equalIn (d+1) t (.bool p) (.bool q)).run P w=.ok (p==q) w:=by
 simp[Op.equalIn,underlying,ht]
def Wo{e:yF}(ht:P.underlying t=Gr (.slice e))(y:Option uX)(n c n' c':Nat):
  (Op.equalIn (d+1) t (.slice Gs n c) (.slice y n' c')).run P w=.ok y.isNone w:=by simp[Op.equalIn,underlying,ht]
def agf{e:yF}(ht:P.underlying t=Gr (.slice e))(x:uX)(n c n' c':Nat):
  (Op.equalIn (d+1) t (.slice (Gr x) n c) (.slice Gs n' c')).run P w=.ok ydz w:=by simp[Op.equalIn,underlying,ht]
def ay1{ps rs:Array yF}(ht:P.underlying t=Gr (.func ps rs vr)):
  (Op.equalIn (d+1) t .nilFunc .nilFunc).run P w=.ok ydy w:=by simp[Op.equalIn,underlying,ht]
def agh{ps rs:Array yF}(ht:P.underlying t=Gr (.func ps rs vr))(f:Go.Fn)(a b:Array yj):
  (Op.equalIn (d+1) t .nilFunc (.func f a b)).run P w=.ok ydz w:=by simp[Op.equalIn,underlying,ht]
def agi{ps rs:Array yF}(ht:P.underlying t=Gr (.func ps rs vr))(f:Go.Fn)(a b:Array yj):
  (Op.equalIn (d+1) t (.func f a b) .nilFunc).run P w=.ok ydz w:=by simp[Op.equalIn,underlying,ht]
def UG(x y:yj):Op.equal t x y=Op.equalIn (9999+1) t x y:=rfl
def ar3{vy:AV}{y:yj}{r:Bool}{e:yF}(ht:P.underlying t=Gr (.slice e))(hx:af ae m S w vx x)(hy:af ae m S w vy y)(h:lI .sl vx vy=Gr r):(Op.equal t x y).run P w=.ok r w:=by
 unfold lI at h
 split at h<;>simp_all only [yc,reduceCtorEq]
 all_goals subst h
 .subst hx;subst hy;exact Wo ht _ _ _ _ _
 .rcases hy with ⟨b,o,c,rfl,_⟩ | ⟨_,rfl,_⟩<;>(subst hx;exact Wo ht _ _ _ _ _)
 .obtain ⟨p,c,_,rfl,_⟩:=hy;subst hx;exact Wo ht _ _ _ _ _
 .rcases hx with ⟨b,o,c,rfl,_⟩ | ⟨_,rfl,_⟩<;>(subst hy;exact agf ht _ _ _ _ _)
 .obtain ⟨p,c,_,rfl,_⟩:=hx;subst hy;exact agf ht _ _ _ _ _
def ar4{vy:AV}{y:yj}{r:Bool}{ps rs:Array yF}(ht:P.underlying t=Gr (.func ps rs vr))(hx:af ae m S w vx x)(hy:af ae m S w vy y)(h:lI .fn vx vy=Gr r):(Op.equal t x y).run P w=.ok r w:=by
 unfold lI at h
 split at h<;>simp_all only [yc,reduceCtorEq]
 all_goals subst h
 .simp only [af] at hx hy;subst hx;subst hy;exact ay1 ht
 .rename_i f _ _
  cases f with
  | f g=>simp only[af] at hx hy;obtain⟨fi,ca,rfl,_⟩:=hy;subst hx;exact agh ht _ _ _
  | y l=>simp only[af] at hx hy;obtain⟨p,_,rfl⟩:=hy;subst hx;exact agh ht _ _ _
 .rename_i f _ _
  cases f with
  | f g=>simp only[af] at hx hy;obtain⟨fi,ca,rfl,_⟩:=hx;subst hy;exact agi ht _ _ _
  | y l=>simp only[af] at hx hy;obtain⟨p,_,rfl⟩:=hx;subst hy;exact agi ht _ _ _
def ar5{op:ydc}(hx:af ae m S w vx x)(h:VE.unOp op vx=Gr v):∃u,(Op.unary op x).run P w=.ok u w/\af ae m S w v u:=by
 unfold VE.unOp at h
 split at h
 .rename_i k n;subst hx;simp only[yc] at h;subst h;exact⟨_,by simp[Op.unary,Op.intArith];rfl,by simp[af]⟩
 .rename_i k n;subst hx;simp only[mY,yc] at h;subst h;exact⟨_,by simp[Op.unary,Op.intBits];rfl,by simp[af]⟩
 .rename_i b;subst hx;simp only[yc] at h;subst h;exact⟨_,by simp[Op.unary];rfl,by simp[af]⟩
 .rename_i k b;subst hx;simp only[yc] at h;subst h;exact⟨_,by simp[Op.unary,Op.negFloat];rfl,by simp[af]⟩
 .cases h
def ac7{s d:yF}{k:xh}(hd:P.underlying d=Gr (.int k))(hs:(∃k',P.underlying s=Gr (.int k'))\/∃k',P.underlying s=Gr (.float k'))(hx:af ae m S w vx x)(h:iv (.toInt k) vx=Gr v):∃u,(convert s d x).run P w=.ok u w/\af ae m S w v u:=by
 cases vx<;>simp only[iv,reduceCtorEq] at h
 case int k0 n=>
  simp only[af] at hx;subst hx;simp only[yc] at h;subst h;refine⟨.int k (k.wrap n),?_,by simp[af]⟩;rcases hs with ⟨k',h'⟩ | ⟨k',h'⟩<;>simp[convert,underlying,Conv.intToInt,hd,h']
 case an sk b=>
  subst hx
  cases hi:(sk.decode b).toInt .zero with
  | none=>simp[hi] at h
  | some n=>
   simp only[hi] at h;by_cases hr:k.min<=n/\n<=k.max
   .simp only [hr,and_self,xS,yc] at h;subst h;refine⟨.int k n,?_,by simp[af]⟩;rcases hs with ⟨k',h'⟩ | ⟨k',h'⟩<;>simp[convert,underlying,Conv.floatToInt,hd,h',hi,hr]
   .grind
def ac8{s d:yF}{k:xY}(hd:P.underlying d=Gr (.float k))(hs:(∃k',P.underlying s=Gr (.int k'))\/∃k',P.underlying s=Gr (.float k'))(hx:af ae m S w vx x)(h:iv (.toFlt k) vx=Gr v):∃u,(convert s d x).run P w=.ok u w/\af ae m S w v u:=by
 cases vx<;>simp only[iv,reduceCtorEq] at h
 case int k0 n=>
  simp only[af] at hx;subst hx;simp only[yc] at h;subst h;refine⟨.float k (k.nearest n),?_,by simp[af]⟩;rcases hs with ⟨k',h'⟩ | ⟨k',h'⟩<;>simp[convert,underlying,Conv.intToFloat,hd,h']
 case an sk b=>
  simp only[af] at hx;subst hx;by_cases he:sk=k
  .subst he;simp only[xS,yc] at h;subst h;refine⟨.float sk b,?_,by simp[af]⟩;rcases hs with ⟨k',h'⟩ | ⟨k',h'⟩<;>simp[convert,underlying,Conv.floatToFloat,hd,h']
  .simp only [he,xz] at h
   cases QH:sk.decode b with
   | nan _ _=>simp[QH] at h
   | infinity _=>simp[QH] at h
   | number sg mm ee=>
    simp only[QH] at h
    cases Xg:(k.decode (k.encode (.number sg mm ee))).isInfinity with
    | true=>simp[Xg] at h
    | false=>
     simp only[Xg,yH,xz,yc] at h;subst h;refine⟨.float k (k.encode (.number sg mm ee)),?_,by simp[af]⟩;rcases hs with ⟨k',h'⟩ | ⟨k',h'⟩<;>simp[convert,underlying,Conv.floatToFloat,hd,h',he,QH,Xg]
def apN{s d:yF}(hd:P.underlying d=Gr .string)(hs:P.underlying s=Gr .string)(hx:af ae m S w vx x)(h:iv .str vx=Gr v):∃u,(convert s d x).run P w=.ok u w/\af ae m S w v u:=by
 cases vx<;>simp only[iv,reduceCtorEq] at h
 simp only[yc] at h;subst h;obtain⟨b,rfl,hb⟩:=hx;exact⟨.string b,by simp[convert,underlying,hs,hd],by simp only[af];exact⟨b,rfl,hb⟩⟩
end
end
end
section
open Go
section
variable {v vx:AV}{hp:Hp}{k:Nat}{P:xA}{x:yj}
def anY(h:bT v=Gr k):∃kd,v=.int kd (k:Int):=by
 cases v<;>simp only[bT,reduceCtorEq] at h
 rename_i kd n
 cases n with
 | ofNat j=>simp only[yc] at h;subst h;exact⟨kd,rfl⟩
 | negSucc j=>cases h
section
variable {O:bC}{H:Hint}{m:Mp}{S:Nat->Prop}{w:yo}{tm:Env}{a:Act}
def Bu{ae:Nat->Nat}(hx:af ae m S w v x)(h:bT v=Gr k):∃kd,x=.int kd (k:Int):=by
 obtain⟨kd,rfl⟩:=anY h;simp only[af] at hx
 grind
def run_sliceBound{kd:xh}{y:Nat}{code:BoundsCode}(h:k<=y):(Instr.sliceBound (.int kd (k:Int)) y code).run P w=.ok k w:=by
 have:(0:Int)<=(k:Int)/\(k:Int)<=(y:Int):=by lia
 simp[Instr.sliceBound,asIntOf,this]
def Ue{isSlice:Bool}{len l h:Nat}{lo hi:Option xD}(hH:fW O H)(ht:cg O m S w tm a.tmps)(hl:c6 tm 0 (lo.map (aP H))=Gr l)(hh:c6 tm len (hi.map (aP H))=Gr h)(h1:l<=h)(h2:h<=cap):
  (Instr.sliceBounds isSlice len cap (lo.map a.eval) (hi.map a.eval) Gs).run P w=.ok (l,h,cap) w:=by
 cases lo with
 | none=>
  simp only[uM,c6,yc] at hl;subst hl
  cases hi with
  | none=>
   simp only[uM,c6,yc] at hh;subst hh;simp[Instr.sliceBounds]
  | some y=>
   have⟨kd,e⟩:=Bu (ck hH ht y) hh;simp only[Instr.sliceBounds,uM,vd,e,Sem.run_bind,Sem.run_pure,Result.andThen_ok,run_sliceBound h2]
 | some x=>
  have⟨kd,e⟩:=Bu (ck hH ht x) hl
  cases hi with
  | none=>
   simp only[uM,c6,yc] at hh;subst hh;simp only[Instr.sliceBounds,uM,vd,e,Sem.run_bind,Sem.run_pure,Result.andThen_ok,run_sliceBound h1]
  | some y=>
   have⟨Zb,e'⟩:=Bu (ck hH ht y) hh;simp only[Instr.sliceBounds,vd,e,e',Sem.run_bind,Sem.run_pure,Result.andThen_ok,run_sliceBound h2,run_sliceBound h1]
def anZ{t:yF}{lo hi:Option xD}(hH:fW O H)(ht:cg O m S w tm a.tmps)(hu:O.P.underlying t=Gr .string)(hx:af O.ae m S w vx x)(h:fY hp .str vx tm (lo.map (aP H)) (hi.map (aP H))=Gr v):
  ∃u,(Instr.sliceAt t x (lo.map a.eval) (hi.map a.eval) Gs).run O.P w=.ok u w/\af O.ae m S w v u:=by
 cases vx<;>simp only[fY,reduceCtorEq] at h
 obtain⟨b,rfl,rfl⟩:=hx
 cases hl:c6 tm 0 (lo.map (aP H)) with
 | none=>simp[hl] at h
 | some l=>
  simp only[hl] at h
  cases hh:c6 tm (b.data.toList.map xr).length (hi.map (aP H)) with
  | none=>rw[hh] at h;cases h
  | some g=>
   rw[hh] at h;simp only at h
   cases hc:(yJ l g&&yJ g (b.data.toList.map xr).length) with
   | false=>rw[hc] at h;cases h
   | true=>
    rw[hc] at h;simp only[yy,yc] at h;subst h;simp only[yf] at hc;have h1:=yA hc.1;have h2:=yA hc.2;have hlen:(b.data.toList.map xr).length=b.size:=aca b;rw[hlen] at hh h2;refine⟨.string (b.extract l g),?_,?_⟩
    .simp only [Instr.sliceAt,Sem.run_bind,run_underlying hu,Result.andThen_ok,Instr.slice,tZ,yH,xz,Sem.run_pure,
      Ue (P:=O.P) (isSlice:=ydz) (len:=b.size) (cap:=b.size) hH ht hl hh h1 h2]
    .simp only [af];refine⟨_,rfl,?_⟩;rw[Lib.extract_data,List.map_take,List.map_drop,List.drop_take]
def apO{t e:yF}{lo hi:Option xD}(hH:fW O H)(ht:cg O m S w tm a.tmps)(hu:O.P.underlying t=Gr (.slice e))(hz:cC O.P e=Gr sz)(hh:aT O m S w hp ct)(hx:af O.ae m S w vx x)(h:fY hp (.sl sz) vx tm (lo.map (aP H)) (hi.map (aP H))=Gr v):
  ∃u,(Instr.sliceAt t x (lo.map a.eval) (hi.map a.eval) Gs).run O.P w=.ok u w/\af O.ae m S w v u:=by
 have eS:(vC e).run O.P w=.ok sz w:=by
  unfold cC at hz
  cases hi:O.P.info? e with
  | none=>simp[hi] at hz
  | some i=>simp_all[vC,typeInfo]
 have KA:∀(ad:Option uX) (n c l g:Nat),c6 tm 0 (lo.map (aP H))=Gr l->c6 tm n (hi.map (aP H))=Gr g->l<=g->g<=c->
   (Instr.sliceAt t (.slice ad n c) (lo.map a.eval) (hi.map a.eval) Gs).run O.P w=.ok (.slice (if c=l then ad else ad.map (·.add (l*sz))) (g-l) (c-l)) w:=by
  intro ad n c l g hl hg h1 h2
  simp only[Instr.sliceAt,Sem.run_bind,run_underlying hu,Result.andThen_ok,Instr.slice,Sem.run_pure,eS,
   Ue (P:=O.P) (isSlice:=ydy) (len:=n) (cap:=c) hH ht hl hg h1 h2]
 cases vx<;>simp only[fY,reduceCtorEq] at h
 case aj=>
  simp only[af] at hx;subst hx
  cases hl:c6 tm 0 (lo.map (aP H)) with
  | none=>simp[hl] at h
  | some l=>
   cases l with
   | succ l=>simp[hl] at h
   | zero=>
    simp only[hl] at h
    cases hh:c6 tm 0 (hi.map (aP H)) with
    | none=>simp[hh] at h
    | some g=>
     cases g with
     | succ g=>simp[hh] at h
     | zero=>
      simp only[hh,yc] at h;subst h;exact⟨_,KA Gs 0 0 0 0 hl hh (yx _) (yx _),by simp[af]⟩
 case au ex n cs=>
  simp only[af] at hx;rcases hx with ⟨b,o,c,rfl,MY,hex,hS,jl,jm⟩ | ⟨ad,rfl,rfl,rfl⟩
  case inr=>
   cases hl:c6 tm 0 (lo.map (aP H)) with
   | none=>simp[hl] at h
   | some l=>
    simp only[hl] at h
    cases hh:c6 tm 0 (hi.map (aP H)) with
    | none=>simp[hh] at h
    | some g=>
     simp only[hh] at h
     cases hc:(yJ l g&&yJ g 0) with
     | false=>rw[hc] at h;cases h
     | true=>
      rw[hc] at h;simp only[yy,yc] at h;subst h;simp only[yf] at hc;have h1:=yA hc.1;have h2:=yA hc.2;have hg:g=0:=by lia
      subst hg;have kT:l=0:=by lia
      subst kT;refine⟨_,KA (Gr ad) 0 0 0 0 hl hh h1 h2,?_⟩;simp only[af];exact .inr ⟨ad,by simp,by simp,by simp[slice]⟩
  cases hl:c6 tm 0 (lo.map (aP H)) with
  | none=>simp[hl] at h
  | some l=>
   simp only[hl] at h
   cases hh:c6 tm n (hi.map (aP H)) with
   | none=>simp[hh] at h
   | some g=>
    simp only[hh] at h
    cases hc:(yJ l g&&yJ g n) with
    | false=>rw[hc] at h;cases h
    | true=>
     rw[hc] at h;simp only[yy,yc] at h;subst h;simp only[yf] at hc;have h1:=yA hc.1;have h2:=yA hc.2;refine⟨_,KA (Gr ⟨b,o,Gs⟩) n c l g hl hh h1 (by lia),?_⟩;have P9:aH (slice (l*sz) ((g-l)*sz) cs)=ydy:=by
      have pd:∀(k:Nat) (cs:List AV),aH cs=ydy->aH (cs.drop k)=ydy:=by
       intro k
       induction k with
       | zero=>intro cs h;simpa using h
       | succ k ih=>intro cs h;cases cs with
        | nil=>simpa using h
        | cons c cs=>simp only[aH,yf] at h;simpa using ih cs h.2
      have pt:∀(k:Nat) (cs:List AV),aH cs=ydy->aH (cs.take k)=ydy:=by
       intro k
       induction k with
       | zero=>intro cs h;simp[aH]
       | succ k ih=>intro cs h;cases cs with
        | nil=>simp[aH]
        | cons c cs=>simp only[aH,yf,wN] at h ⊢;exact⟨h.1,ih cs h.2⟩
      exact pt _ _ (pd _ _ jl)
     have ahN:(ex&&yt g n)=ydy->c-l=g-l:=by
      intro hq;simp only[yf] at hq
      have:=hex hq.1
      have:=yi hq.2
      lia
     simp only[af];by_cases dX:c=l
     .have h0:g-l=0:=by lia
      have zT:slice (l*sz) ((g-l)*sz) cs=[]:=by simp[slice,h0]
      rw[zT];exact .inl ⟨b,o,c-l,by simp[dX],by lia,ahN,.inl rfl,rfl,by simp[cd]⟩
     .refine .inl ⟨b,o+l*sz,c-l,by simp[dX,pZ],by lia,ahN,?_,P9,?_⟩
      .rcases hS with rfl | hS
       .exact .inl (by simp[slice])
       .exact .inr hS
      .exact CC _ _ _ _ (Ak _ _ _ _ jm)
 case ay id o n=>
  simp only[af] at hx;obtain⟨p,c,hm,rfl,MY,Sp⟩:=hx
  split at h
  case h_2=>cases h
  rename_i j9 pu0 A1 z0 cs0 E7;have⟨p',arr,t',jn,_,cK,_⟩:=hh.obj id _ _ E7 hm;rw[hm] at jn;injection jn with jn
  subst jn
  cases hl:c6 tm 0 (lo.map (aP H)) with
  | none=>simp[hl] at h
  | some l=>
   simp only[hl] at h
   cases hh:c6 tm n (hi.map (aP H)) with
   | none=>simp[hh] at h
   | some g=>
    simp only[hh] at h
    cases hc:(yJ l g&&yJ g n&&yt z0 sz) with
    | false=>rw[hc] at h;cases h
    | true=>
     rw[hc] at h;simp only[yy] at h;simp only[yf] at hc;have h1:=yA hc.1.1;have h2:=yA hc.1.2;have hpz:p.z=sz:=cK.trans (yi hc.2)
     cases he:(yt l g&& !yt l 0) with
     | true=>
      rw[he] at h;simp only[yy,yc] at h;subst h;simp only[yf] at he;have DJ:=yi he.1;refine⟨_,KA (Gr ⟨p.b,p.o+o,Gs⟩) n c l g hl hh h1 (by lia),?_⟩;simp only[af];by_cases dX:c=l
      .exact .inl ⟨p.b,p.o+o,c-l,by simp[dX];lia,by lia,by simp,by simp,by simp[aH],by simp[cd]⟩
      .exact .inl ⟨p.b,p.o+o+l*sz,c-l,by simp[dX,pZ];lia,by lia,by simp,by simp,by simp[aH],by simp[cd]⟩
     | false=>
      rw[he] at h;simp only[yT,yc] at h;subst h;have dX:c=l->l=0:=by
       intro dX;have DJ:l=g:=by lia
       cases kT:yt l 0 with
       | true=>exact yi kT
       | false=>rw[DJ,wK,<-DJ,kT] at he;cases he
      refine⟨_,KA (Gr ⟨p.b,p.o+o,Gs⟩) n c l g hl hh h1 (by lia),?_⟩;simp only[af];refine⟨p,c-l,hm,?_,by lia,?_⟩
      .by_cases Xh:c=l
       .have:=dX Xh;subst this;subst Xh;simp
       .simp [Xh,pZ,td]
      .rw [hpz] at Sp ⊢
       have:c*sz=l*sz+(c-l)*sz:=by rw[<-we];congr 1;lia
       lia
def apP{t e:yF}{n:Nat}{lo hi:Option xD}(hH:fW O H)(ht:cg O m S w tm a.tmps)(hu:O.P.underlying t=Gr (.array n e))(hz:cC O.P e=Gr sz)(hx:af O.ae m S w vx x)(h:fY hp (.ar n sz) vx tm (lo.map (aP H)) (hi.map (aP H))=Gr v):
  ∃u,(Instr.sliceAt t x (lo.map a.eval) (hi.map a.eval) Gs).run O.P w=.ok u w/\af O.ae m S w v u:=by
 have eS:(vC e).run O.P w=.ok sz w:=by
  unfold cC at hz
  cases hi:O.P.info? e with
  | none=>simp[hi] at hz
  | some i=>simp_all[vC,typeInfo]
 cases vx<;>simp only[fY,reduceCtorEq] at h
 rename_i cs;simp only[af] at hx;obtain⟨b,o,rfl,hS,jl,jm⟩:=hx
 cases hl:c6 tm 0 (lo.map (aP H)) with
 | none=>simp[hl] at h
 | some l=>
  simp only[hl] at h
  cases hh:c6 tm n (hi.map (aP H)) with
  | none=>simp[hh] at h
  | some g=>
   simp only[hh] at h
   cases hc:(yt l 0&&yt g n&&(yQ 0 n&&yJ (n*sz) cs.length)) with
   | false=>rw[hc] at h;cases h
   | true=>
    rw[hc] at h;simp only[yy,yc] at h;subst h;simp only[yf] at hc;have h1:=yi hc.1.1;have h2:=yi hc.1.2;have h3:0<n:=yA hc.2.1;subst h1 h2;have bU:¬g=0:=by omega
    refine⟨.slice (Gr ⟨b,o,Gs⟩) g g,?_,?_⟩
    .simp only [Instr.sliceAt,Sem.run_bind,run_underlying hu,Result.andThen_ok,Instr.sureAddr,Sem.run_pure,eS,
      Ue (P:=O.P) (isSlice:=ydz) (len:=g) (cap:=g) hH ht hl hh (Nat.zero_le _) (yx _)]
     simp[pZ]
    .have pt:∀(k:Nat) (cs:List AV),aH cs=ydy->aH (cs.take k)=ydy:=by
      intro k
      induction k with
      | zero=>intro cs h;simp[aH]
      | succ k ih=>intro cs h;cases cs with
       | nil=>simp[aH]
       | cons c cs=>simp only[aH,yf,wN] at h ⊢;exact⟨h.1,ih cs h.2⟩
     simp only[af];refine .inl ⟨b,o,g,rfl,yx _,fun _=>rfl,?_,pt _ _ jl,CC _ _ _ _ jm⟩;rcases hS with rfl | hS
     .exact .inl (by simp)
     .exact .inr hS
end
end
end
section
open Go
section
variable {v vi vx:AV}{ag:Bool}{cs:List AV}{k sz:Nat}{i x:yj}
def pO{P:xA}{w:yo}{t:yF}(hz:cC P t=Gr sz):(vC t).run P w=.ok sz w:=by
 unfold cC at hz
 cases hi:P.info? t with
 | none=>simp[hi] at hz
 | some i=>simp_all[vC,typeInfo]
section
variable {O:bC}{H:Hint}{m:Mp}{S:Nat->Prop}{w:yo}{tm:Env}{a:Act}{hp:Hp}{ct:Nat}
def UH{id o n:Nat}{pu ex:Bool}{p:Pl}(hh:aT O m S w hp ct)(hg:ak hp id=Gr (.cells rw pu ex sz cs))(hm:m id=Gr p):
  cd O.ae m S w cs p.b p.o:=by
 have⟨p',arr,t',jn,_,_,_,_,_,hr,_⟩:=hh.obj id _ _ hg hm
 grind
def ay2{t:yF}(hh:aT O m S w hp ct)(hz:cC O.P t=Gr sz)(ha:dE O.P t=Gr ag)(hx:af O.ae m S w vx x)(h:gH hp sz ag vx=Gr v):∃u,(Instr.loadAt t x).run O.P w=.ok u w/\af O.ae m S w v u:=by
 cases vx<;>simp only[gH,reduceCtorEq] at h
 case ptr id o=>
  obtain⟨p,hm,rfl⟩:=hx
  split at h
  case h_2=>cases h
  rename_i j9 pu0 A1 z0 cs0 E7;have hr:=UH (id:=id) (o:=0) (n:=0) hh E7 hm;have⟨u,h1,h2⟩:=Pk hz ha (Ak o cs0 p.b p.o hr) h;exact⟨u,by simp only[Instr.loadAt,Instr.sureAddr,Sem.run_bind,Sem.run_pure,Result.andThen_ok];exact h1,h2⟩
 case bA cs=>
  obtain⟨b,o,rfl,_,_,hr⟩:=hx;have⟨u,h1,h2⟩:=Pk hz ha hr h;exact⟨u,by simp only[Instr.loadAt,Instr.sureAddr,Sem.run_bind,Sem.run_pure,Result.andThen_ok];exact h1,h2⟩
def CD:∀(k:Nat) (cs:List AV),aH cs=ydy->aH (cs.drop k)=ydy
 | 0,cs,h=>by simpa using h
 | k+1,[],h=>by simpa using h
 | k+1,c::cs,h=>by simp only[aH,yf] at h;simpa using CD k cs h.2
def Uf{b o:Nat}(h2:cs=[]\/S b)(h3:aH cs=ydy)(h4:cd O.ae m S w cs b o):af O.ae m S w (.bA (cs.drop k)) (.pointer (Gr ⟨b,o+k,Gs⟩)):=by
 refine⟨b,o+k,rfl,?_,CD k cs h3,Ak k cs b o h4⟩
 grind
def auT{t:yF}{fs:Array uj}{i:Nat}{f:uj}(hu:O.P.underlying t=Gr (.struct fs))(hf:fs[i]? =Gr f)(hz:cC O.P f.type=Gr (sz+1))(hx:af O.ae m S w vx x)(h:C8 f.offset vx=Gr v):∃u,(Instr.fieldAt t x i).run O.P w=.ok u w/\af O.ae m S w v u:=by
 have agj:∀(b o:Nat),(Instr.fieldAt t (.pointer (Gr ⟨b,o,Gs⟩)) i).run O.P w=.ok (.pointer (Gr ⟨b,o+f.offset,Gs⟩)) w:=by
  intro b o;simp only[Instr.fieldAt,Sem.run_bind,run_underlying hu,Result.andThen_ok,hf,Instr.sureAddr,Sem.run_pure,fieldPlace,pO hz,Nat.succ_ne_zero,xz,pZ]
 cases vx<;>simp only[C8,reduceCtorEq] at h
 case ptr id o=>
  obtain⟨p,hm,rfl⟩:=hx;simp only[yc] at h;subst h;exact⟨_,agj _ _,by simp only[af];exact⟨p,hm,by rw[td]⟩⟩
 case bA cs=>
  obtain⟨b,o,rfl,h2,h3,h4⟩:=hx
  cases hc:yJ f.offset cs.length with
  | false=>rw[hc] at h;cases h
  | true=>
   rw[hc] at h;simp only[yy,yc] at h;subst h;exact⟨_,agj _ _,Uf h2 h3 h4⟩
def auU{t:yF}{fs:Array uj}{i:Nat}{f:uj}(hu:O.P.underlying t=Gr (.struct fs))(hf:fs[i]? =Gr f)(hz:cC O.P f.type=Gr sz)(ha:dE O.P f.type=Gr ag)(hx:af O.ae m S w vx x)(h:P8 f.offset sz ag vx=Gr v):∃u,(Instr.field t x i).run O.P w=.ok u w/\af O.ae m S w v u:=by
 cases vx<;>simp only[P8,reduceCtorEq] at h
 obtain⟨xs,rfl,hr⟩:=hx;have⟨u,h1,h2⟩:=aen hz ha hr h;exact⟨u,by simp only[Instr.field,Sem.run_bind,run_underlying hu,Result.andThen_ok,hf,asAgg,Sem.run_pure];exact h1,h2⟩
def auV{t e:yF}(hu:O.P.underlying t=Gr (.slice e))(hz:cC O.P e=Gr sz)(hx:af O.ae m S w vx x)(hi:af O.ae m S w vi i)(hk:bT vi=Gr k)(h:jb sz k vx=Gr v):∃u,(Instr.indexAt t x i).run O.P w=.ok u w/\af O.ae m S w v u:=by
 obtain⟨kd,rfl⟩:=Bu hi hk;have Lz:∀(b o n c:Nat),k<n->(Instr.indexAt t (.slice (Gr ⟨b,o,Gs⟩) n c) (.int kd (k:Int))).run O.P w=.ok (.pointer (Gr ⟨b,o+k*sz,Gs⟩)) w:=by
  intro b o n c sJ;have hr:(0:Int)<=(k:Int)/\(k:Int)<(n:Int):=by lia
  simp[Instr.indexAt,asIntOf,run_underlying hu,pO hz,hr,pZ]
  grind
 cases vx<;>simp only[jb,reduceCtorEq] at h
 case ay id o n=>
  obtain⟨p,c,hm,rfl,MY,Sp⟩:=hx
  cases hc:yQ k n with
  | false=>rw[hc] at h;cases h
  | true=>
   rw[hc] at h;simp only[yy,yc] at h;subst h;have sJ:k<n:=by simp_all
   exact⟨_,Lz _ _ _ _ sJ,by simp only[af];exact⟨p,hm,by rw[td]⟩⟩
 case au ex n cs=>
  rcases hx with ⟨b,o,c,rfl,MY,hex,h2,h3,h4⟩ | ⟨a,rfl,rfl,rfl⟩
  case inr=>
   have:yQ k 0=ydz:=by cases hq:yQ k 0 with | false=>rfl | true=>simp only[yQ,yds] at hq;lia
   grind
  cases hc:yQ k n with
  | false=>rw[hc] at h;cases h
  | true=>
   rw[hc] at h;simp only[yy,yc] at h;subst h;have sJ:k<n:=by simp_all
   exact⟨_,Lz _ _ _ _ sJ,Uf h2 h3 h4⟩
def auW{t e:yF}{len:Nat}(hu:O.P.underlying t=Gr (.array len e))(hz:cC O.P e=Gr sz)(hx:af O.ae m S w vx x)(hi:af O.ae m S w vi i)(hk:bT vi=Gr k)(h:nY len sz k vx=Gr v):∃u,(Instr.indexAt t x i).run O.P w=.ok u w/\af O.ae m S w v u:=by
 obtain⟨kd,rfl⟩:=Bu hi hk;have Lz:∀(b o:Nat),k<len->(Instr.indexAt t (.pointer (Gr ⟨b,o,Gs⟩)) (.int kd (k:Int))).run O.P w=.ok (.pointer (Gr ⟨b,o+k*sz,Gs⟩)) w:=by
  intro b o sJ;have hr:(0:Int)<=(k:Int)/\(k:Int)<(len:Int):=by lia
  simp[Instr.indexAt,asIntOf,run_underlying hu,pO hz,hr,pZ,Instr.sureAddr]
  grind
 cases vx<;>simp only[nY,reduceCtorEq] at h
 case ptr id o=>
  obtain⟨p,hm,rfl⟩:=hx
  cases hc:yQ k len with
  | false=>rw[hc] at h;cases h
  | true=>
   rw[hc] at h;simp only[yy,yc] at h;subst h;have sJ:k<len:=by simp_all
   exact⟨_,Lz _ _ sJ,by simp only[af];exact⟨p,hm,by rw[td]⟩⟩
 case bA cs=>
  obtain⟨b,o,rfl,h2,h3,h4⟩:=hx
  cases hc:yQ k len with
  | false=>rw[hc] at h;cases h
  | true=>
   rw[hc] at h;simp only[yy,yc] at h;subst h;have sJ:k<len:=by simp_all
   exact⟨_,Lz _ _ sJ,Uf h2 h3 h4⟩
def auX{t e:yF}{len:Nat}(hu:O.P.underlying t=Gr (.array len e))(hz:cC O.P e=Gr sz)(ha:dE O.P e=Gr ag)(hx:af O.ae m S w vx x)(hi:af O.ae m S w vi i)(hk:bT vi=Gr k)(h:Lu len sz ag k vx=Gr v):
  ∃u,(Instr.index t x i).run O.P w=.ok u w/\af O.ae m S w v u:=by
 obtain⟨kd,rfl⟩:=Bu hi hk;cases vx<;>simp only[Lu,reduceCtorEq] at h
 obtain⟨xs,rfl,hr⟩:=hx
 cases hc:yQ k len with
 | false=>rw[hc] at h;cases h
 | true=>
  rw[hc] at h;have sJ:k<len:=by simp_all
  have⟨u,h1,h2⟩:=aen hz ha hr h;have bQ:(0:Int)<=(k:Int)/\(k:Int)<(len:Int):=by lia
  exact⟨u,by simp[Instr.index,asIntOf,run_underlying hu,pO hz,bQ,h1];intro hle;exact absurd hle (by lia),h2⟩
def auY{t:yF}(hu:O.P.underlying t=Gr .string)(hx:af O.ae m S w vx x)(hi:af O.ae m S w vi i)(hk:bT vi=Gr k)(h:oX k vx=Gr v):
  ∃u,(Instr.index t x i).run O.P w=.ok u w/\af O.ae m S w v u:=by
 obtain⟨kd,rfl⟩:=Bu hi hk;cases vx<;>simp only[oX,reduceCtorEq] at h
 obtain⟨b,rfl,rfl⟩:=hx
 cases hs:(b.data.toList.map xr)[k]? with
 | none=>rw[hs] at h;cases h
 | some q=>
  rw[hs] at h;simp only[yc] at h;subst h;rw[tq] at hs
  cases hb:b.data.toList[k]? with
  | none=>rw[hb] at hs;cases hs
  | some c=>
   rw[hb] at hs;simp only[vd,yc] at hs;subst hs;have bE:b[k]? =Gr c:=by
    have aG:k<b.data.toList.length:=by
     grind
    have eS:k<b.size:=by simp_all
    rw[getElem?_pos b k eS];rw[xu aG] at hb;rw[<-hb];rfl
   refine⟨.int .u8 c.toNat,?_,by simp[af]⟩;simp[Instr.index,asIntOf,run_underlying hu,bE]
end
end
end
section
open Go
section
variable {ae:Nat->Nat}{m:Mp}{S:Nat->Prop}{w:yo}
def Ug:∀{v:AV} {u:yj},af ae m S w v u->b9 (cellsOf v)=ydy->aE ae m S w (cellsOf v) u.cells.toList:=by
 intro v u h h1;cases v
 case undef=>simp[cellsOf,b9,dL] at h1
 case cR=>simp[cellsOf,b9,dL] at h1
 case fn f a b=>
  cases f with
  | f g=>have h':=h;obtain⟨fi,ca,rfl,_⟩:=h';exact⟨_,_,rfl,h,rfl⟩
  | y l=>have h':=h;obtain⟨p,_,rfl⟩:=h';exact⟨_,_,rfl,h,rfl⟩
 all_goals
  have h':=h;simp only[af] at h';simp only[cellsOf,Value.cells,aE]
  grind
def Gt(v:yj):aE ae m S w (cellsOf (fg v)) v.cells.toList:=by
 have h:=Pj (ae:=ae) (m:=m) (S:=S) (w:=w) v;cases v
 case agg xs=>
  obtain⟨xs,e,hr⟩:=h;injection e with e
  subst e;exact hr
 case pointer p=>cases p<;>(simp only[fg] at h ⊢;exact⟨_,_,rfl,h,rfl⟩)
 case map p=>cases p<;>(simp only[fg] at h ⊢;exact⟨_,_,rfl,h,rfl⟩)
 case slice p n c=>
  cases p
  .cases n
   .cases c<;>(simp only[fg] at h ⊢;exact⟨_,_,rfl,h,rfl⟩)
   .simp only [fg] at h ⊢;exact⟨_,_,rfl,h,rfl⟩
  .simp only [fg] at h ⊢;exact⟨_,_,rfl,h,rfl⟩
 all_goals (simp only[fg] at h ⊢;exact⟨_,_,rfl,h,rfl⟩)
def nK:∀{a b:List AV} {x y:List yj},aE ae m S w a x->aE ae m S w b y->aE ae m S w (a++b) (x++y)
 | [],b,x,y,h,k=>by simp only[aE] at h;subst h;simpa using k
 | c::a,b,x,y,h,k=>by
  obtain⟨u,r,rfl,h2,h3⟩:=h;exact⟨u,r++y,rfl,h2,nK h3 k⟩
def JX:∀(k:Nat) {cs:List AV} {us:List yj},aE ae m S w cs us->aE ae m S w (cs.drop k) (us.drop k)
 | 0,cs,us,h=>by simpa using h
 | k+1,[],us,h=>by simp only[aE] at h;subst h;simp[aE]
 | k+1,c::cs,us,h=>by simp only[aE] at h;obtain⟨u,r,rfl,_,h3⟩:=h;simpa using JX k h3
def Gz:∀(k:Nat) {cs:List AV} {us:List yj},aE ae m S w cs us->aE ae m S w (cs.take k) (us.take k)
 | 0,cs,us,h=>by simp[aE]
 | k+1,[],us,h=>by simp only[aE] at h;subst h;simp[aE]
 | k+1,c::cs,us,h=>by
  simp only[aE] at h;obtain⟨u,r,rfl,h2,h3⟩:=h;exact⟨u,_,rfl,h2,Gz k h3⟩
def UI:∀{cs:List AV} {us:List yj} {i:Nat} {v:AV},aE ae m S w cs us->cs[i]? =Gr v->∃u,us[i]? =Gr u/\af ae m S w v u
 | [],us,i,v,_,h=>by simp at h
 | c::cs,us,0,v,h,e=>by
  simp only[aE] at h;obtain⟨u,r,rfl,h2,h3⟩:=h;simp at e;subst e;exact⟨u,rfl,h2⟩
 | c::cs,us,i+1,v,h,e=>by
  simp only[aE] at h;obtain⟨u,r,rfl,h2,h3⟩:=h;simpa using UI h3 e
end
def acb(off:Nat):∀(new:List yj) (j:Nat) (cells:Array yj),off+j+new.length<=cells.size->
  ((new.zipIdx j).foldl (fun (cs:Array yj) (p:yj×Nat)=>cs.setIfInBounds (off+p.2) p.1) cells).toList=
   cells.toList.take (off+j)++new++cells.toList.drop (off+j+new.length)
 | [],j,cells,_=>by simp
 | v::r,j,cells,h=>by
  simp only[yB] at h;have ih:=acb off r (j+1) (cells.setIfInBounds (off+j) v) (by simp;omega);simp only[List.zipIdx_cons,List.foldl_cons];rw[ih];have aG:off+j<cells.toList.length:=by grind
  have h1:(cells.setIfInBounds (off+j) v).toList=cells.toList.set (off+j) v:=by simp
  rw[h1,show off+(j+1)=off+j+1 by omega];have h2:(cells.toList.set (off+j) v).take (off+j+1)=cells.toList.take (off+j)++[v]:=by
   rw[List.take_succ_eq_append_getElem (by simpa using aG)];simp[List.take_set_of_le]
  have h3:(cells.toList.set (off+j) v).drop (off+j+1+r.length)=cells.toList.drop (off+j+(r.length+1)):=by
   rw[List.drop_set_of_lt (by omega)];congr 1;omega
  grind
section
variable {O:bC}{H:Hint}{m:Mp}{S:Nat->Prop}{w:yo}{tm:Env}{a:Act}
def Pm(hH:fW O H)(ht:cg O m S w tm a.tmps){place:Nat->Option (Nat×Nat)}:∀(parts:List (Nat×xD)) (ps:List (Nat×Nat×X)) (zero cs:List AV) (cells:Array yj),
  partsOf H place parts=Gr ps->aE O.ae m S w zero cells.toList->fill tm zero ps=Gr cs->
  ∃out,Instr.fill place cells (parts.map fun p=>(p.1,a.eval p.2))=Gr out/\aE O.ae m S w cs out.toList
 | [],ps,zero,cs,cells,hp,hz,hf=>by
  simp only[partsOf,yc] at hp;subst hp;simp only[fill,yc] at hf;subst hf;exact⟨cells,rfl,hz⟩
 | (i,x)::r,ps,zero,cs,cells,hp,hz,hf=>by
  simp only[partsOf] at hp
  cases dR:place i with
  | none=>simp[dR] at hp
  | some q=>
   obtain⟨o,s⟩:=q;simp only[dR] at hp
   cases qU:partsOf H place r with
   | none=>simp[qU] at hp
   | some l=>
    simp only[qU,yc] at hp;subst hp;simp only[fill] at hf
    cases hc:(yt (cellsOf (aB tm (aP H x))).length s&&yJ (o+s) zero.length&&b9 (cellsOf (aB tm (aP H x)))) with
    | false=>rw[hc] at hf;cases hf
    | true=>
     rw[hc] at hf;simp only[yf] at hc;have hle:=yA hc.1.2;have hrx:=Ug (ck hH ht x) hc.2;have qV:=jE _ _ hrx;have mM:=jE _ _ hz;have eS:(a.eval x).cells.size=s:=by simp_all
     have dY:cells.size=zero.length:=by omega
     have ay3:=acb o (a.eval x).cells.toList 0 cells (by simp;omega);have cK:aE O.ae m S w (over o (cellsOf (aB tm (aP H x))) zero)
       ((a.eval x).cells.zipIdx.foldl (fun (cs:Array yj) (p:yj×Nat)=>cs.setIfInBounds (o+p.2) p.1) cells).toList:=by
      rw[<-Array.foldl_toList,Array.toList_zipIdx,ay3];rw[show (a.eval x).cells.toList.length=(cellsOf (aB tm (aP H x))).length from qV];exact nK (nK (Gz o hz) hrx) (JX _ hz)
     obtain⟨out,h1,h2⟩:=Pm hH ht r l _ cs _ qU cK hf;simp only[yV,Instr.fill,dR,eS]
     grind
end
end
section
open Go
def Uh(p q:ByteArray):(p==q)=db (nT p) (nT q):=by
 have h:(p==q)=(p.data==q.data):=by cases p;rfl
 rw[h,ab9,ByteArray.toList_eq,ByteArray.toList_eq]
 simp_all
def Xi:yaa->Bool
 | .bool | .int _ | .string=>ydy
 | _=>ydz
def fits(d:yaa)(v:AV):Bool:=
 match d,v with
 | .int _,.int _ _ | .string,.str _ | .bool,.bool _=>ydy
 | _,_=>ydz
section
variable {O:bC}{ae:Nat->Nat}{m:Mp}{S:Nat->Prop}{w:yo}
def apQ{vk vk':AV}{k k':yj}{r:Bool}{d:yaa}(hk:af ae m S w vk k)(py:af ae m S w vk' k')(h:qj vk vk'=Gr r)(hd:fits d vk=ydy):Instr.sameNow d k k'=Gr r:=by
 unfold qj at h
 split at h
 .rename_i j x j' y;simp only[af] at hk py;subst hk;subst py;by_cases hj:j=j'
  .simp only [hj,xS,yc] at h;subst hj;cases d<;>simp[fits] at hd
   simpa[Instr.sameNow] using h
  .simp [hj] at h
 .simp only [af] at hk py;obtain⟨s,rfl,rfl⟩:=hk;obtain⟨s',rfl,rfl⟩:=py;simp only[yc] at h;cases d<;>simp[fits] at hd
  simp only[Instr.sameNow,Uh];rw[<-h];rfl
 .simp only [af] at hk py;subst hk;subst py;simp only[yc] at h;cases d<;>simp[fits] at hd
  simp[Instr.sameNow,h]
 .cases d<;>simp[fits] at hd
 .cases h
def al3{P:xA}{kt:yF}{d:yaa}(hu:P.underlying kt=Gr d)(hd:Xi d=ydy)(b:Bool)(k:yj):(Instr.checkKey b 10000 kt k).run P w=.ok () w:=by
 have:∀n,(Instr.checkKey b (n+1) kt k).run P w=.ok () w:=by
  cases d<;>simp[Xi] at hd<;>simp[Instr.checkKey,run_underlying hu]
 grind
end
end
section
open Go
def JJ:∀(k1 k2:List Nat) (a b:List AV) (r:Bool),dA (k1++k2) a b=Gr r->
  ∃r1 r2,dA k1 (a.take k1.length) (b.take k1.length)=Gr r1/\dA k2 (a.drop k1.length) (b.drop k1.length)=Gr r2/\r=(r1&&r2)
 | [],k2,a,b,r,h=>⟨ydy,r,by simp[dA],by simpa using h,by simp⟩
 | k::k1,k2,[],b,r,h=>by
  simp only[xe] at h;unfold dA at h
  grind
 | k::k1,k2,x::a,[],r,h=>by
  unfold dA at h
  grind
 | k::k1,k2,x::a,y::b,r,h=>by
  have step:∀(q:Bool) (f:Bool->Bool),(match dA (k1++k2) a b with | some r=>Gr (f r) | none=>Gs)=Gr q->∃r0,dA (k1++k2) a b=Gr r0/\q=f r0:=by grind
  unfold dA at h
  split at h
  .grind
  .rename_i e1 e2 e3;obtain⟨rfl,rfl⟩:=e1;obtain⟨rfl,rfl⟩:=e2;obtain⟨rfl,rfl⟩:=e3;obtain⟨r0,h0,rfl⟩:=step r _ h;obtain⟨r1,r2,h1,h2,rfl⟩:=JJ k1 k2 _ _ r0 h0;exact⟨_,r2,by simp only[yB,wN,dA,h1],by simpa using h2,(yaH _ _ _).symm⟩
  .rename_i e1 e2 e3;obtain⟨rfl,rfl⟩:=e1;obtain⟨rfl,rfl⟩:=e2;obtain⟨rfl,rfl⟩:=e3
   split at h
   .rename_i hk;obtain⟨r0,h0,rfl⟩:=step r _ h;obtain⟨r1,r2,h1,h2,rfl⟩:=JJ k1 k2 _ _ r0 h0;exact⟨_,r2,by simp only[yB,wN,dA,h1,hk,xS],by simpa using h2,(yaH _ _ _).symm⟩
   .cases h
  .rename_i e1 e2 e3;obtain⟨rfl,rfl⟩:=e1;obtain⟨rfl,rfl⟩:=e2;obtain⟨rfl,rfl⟩:=e3;obtain⟨r0,h0,rfl⟩:=step r _ h;obtain⟨r1,r2,h1,h2,rfl⟩:=JJ k1 k2 _ _ r0 h0;exact⟨_,r2,by simp only[yB,wN,dA,h1],by simpa using h2,(yaH _ _ _).symm⟩
  .cases h
def aa3:∀(ks:List Nat) (a b:List AV) (r:Bool),dA ks a b=Gr r->a.length=ks.length/\b.length=ks.length
 | [],a,b,r,h=>by
  unfold dA at h
  grind
 | k::ks,[],b,r,h=>by
  unfold dA at h
  grind
 | k::ks,x::a,[],r,h=>by
  unfold dA at h
  grind
 | k::ks,x::a,y::b,r,h=>by
  have:∃r0,dA ks a b=Gr r0:=by
   cases he:dA ks a b with
   | some r0=>exact⟨r0,rfl⟩
   | none=>unfold dA at h;split at h<;>simp_all
  have⟨r0,h0⟩:=this
  have:=aa3 ks a b r0 h0
  simp[this]
def Im(P:xA)(t:yF)(x:yj)(xs:List yj):Prop:=(dE P t=Gr ydy/\x=.agg xs.toArray)\/(dE P t=Gr ydz/\xs=[x])
section
variable {P:xA}{ae:Nat->Nat}{m:Mp}{S:Nat->Prop}{w:yo}
def Oh{t:yF}{ag:Bool}(ha:dE P t=Gr ag):(isAgg t).run P w=.ok ag w:=by
 unfold dE at ha
 cases hu:P.underlying t with
 | none=>simp[hu] at ha
 | some d=>cases d<;>simp_all[isAgg,underlying]
def apR{t:yF}{s o:Nat}{xs:List yj}(hz:cC P t=Gr s)(ha:∃ag,dE P t=Gr ag)(h1:dE P t=Gr ydz->s=1)(hl:o+s<=xs.length):
  ∃u,(part t xs.toArray o).run P w=.ok u w/\Im P t u ((xs.drop o).take s):=by
 have⟨ag,ha⟩:=ha
 cases ag with
 | true=>
  refine⟨.agg ((xs.drop o).take s).toArray,?_,.inl ⟨ha,rfl⟩⟩;simp[part,Oh ha,pO hz,List.extract_eq_take_drop]
 | false=>
  have hs:=h1 ha;subst hs;have aG:o<xs.length:=by lia
  refine⟨xs[o],?_,.inr ⟨ha,?_⟩⟩
  .simp [part,Oh ha,xu aG]
  .rw [List.drop_eq_getElem_cons aG,wN,ycj]
def acd{n:Nat}{t:yF}(h:kinds P n t=Gr ks):∃ag,dE P t=Gr ag/\(ag=ydz->ks.length=1):=by
 cases n with
 | zero=>simp[kinds] at h
 | succ n=>
  unfold kinds at h;unfold dE
  split at h<;>simp_all
  all_goals (rw[<-h];rfl)
def Wp(P:xA)(ae:Nat->Nat)(m:Mp)(S:Nat->Prop)(w:yo)(n:Nat):Prop:=
 ∀(t:yF) (ks:List Nat),kinds P n t=Gr ks->P.stoodInHeld t=ydz->∀(d:Nat),n<=d->∀(xs ys:List yj) (cs dH:List AV) (r:Bool) (x y:yj),
  aE ae m S w cs xs->aE ae m S w dH ys->dA ks cs dH=Gr r->Im P t x xs->Im P t y ys->(Op.equalIn d t x y).run P w=.ok r w
def ace{n:Nat}(ih:Wp P ae m S w n){t:yF}{s o:Nat}(hk:kinds P n t=Gr ks)(aM:P.stoodInHeld t=ydz)(hz:cC P t=Gr s)(hs:ks.length=s)(hd:n<=d){xs ys:List yj}{cs dH:List AV}(h1:aE ae m S w cs xs)(h2:aE ae m S w dH ys){r:Bool}(he:dA ks ((cs.drop o).take s) ((dH.drop o).take s)=Gr r):
  ∃u u',(part t xs.toArray o).run P w=.ok u w/\(part t ys.toArray o).run P w=.ok u' w/\(Op.equalIn d t u u').run P w=.ok r w:=by
 have⟨ag,ha,h1s⟩:=acd hk;have⟨l1,l2⟩:=aa3 _ _ _ _ he;have q1:=jE _ _ h1;have q2:=jE _ _ h2;simp only[yP,wh] at l1 l2;have gI:dE P t=Gr ydz->s=1:=fun h=>by
  grind
 have qV:o+s<=xs.length\/s=0:=by lia
 have mM:o+s<=ys.length\/s=0:=by lia
 have get:∀(zs:List yj),(o+s<=zs.length\/s=0)->∃u,(part t zs.toArray o).run P w=.ok u w/\Im P t u ((zs.drop o).take s):=by
  intro zs hl;rcases hl with hl | hl
  .exact apR hz ⟨ag,ha⟩ gI hl
  .subst hl
   cases ag with
   | false=>have:=gI ha;lia
   | true=>
    refine⟨.agg ((zs.drop o).take 0).toArray,?_,.inl ⟨ha,rfl⟩⟩;simp[part,Oh ha,pO hz]
 have⟨u,p1,v1⟩:=get xs qV;have⟨u',p2,v2⟩:=get ys mM;exact⟨u,u',p1,p2,ih t ks hk aM d hd _ _ _ _ r u u' (Gz s (JX o h1)) (Gz s (JX o h2)) he v1 v2⟩
def aa4{n:Nat}(ih:Wp P ae m S w n){d:Nat}(hd:n<=d){xs ys:List yj}{cs dH:List AV}(h1:aE ae m S w cs xs)(h2:aE ae m S w dH ys):
  ∀(fs:List uj) (o:Nat) (ks:List Nat) (r:Bool),pP P (fun u=>kinds P n u) fs o=Gr ks->dA ks (cs.drop o) (dH.drop o)=Gr r->(Op.eqFields d xs.toArray ys.toArray fs).run P w=.ok r w
 | [],o,ks,r,h,he=>by
  simp only[pP,yc] at h;unfold dA at he
  split at he<;>simp_all[Op.eqFields]
 | f::fs,o,ks,r,h,he=>by
  simp only[pP] at h
  cases hk:kinds P n f.type with
  | none=>simp[hk] at h
  | some kf=>
   cases hz:cC P f.type with
   | none=>simp[hk,hz] at h
   | some s=>
    simp only[hk,hz] at h
    cases hc:(f.name != "_"&&yt f.offset o&&yt kf.length s&& !P.stoodInHeld f.type) with
    | false=>rw[hc] at h;cases h
    | true=>
     rw[hc] at h;simp only[yy] at h;simp only[yf,bne_iff_ne,vS] at hc;have⟨⟨⟨hn,ho⟩,hl⟩,aM⟩:=hc;have ho:=yi ho;have hl:=yi hl
     cases hr:pP P (fun u=>kinds P n u) fs (o+s) with
     | none=>simp[hr] at h
     | some kr=>
      simp only[hr,yc] at h;subst h;obtain⟨r1,r2,e1,e2,rfl⟩:=JJ _ _ _ _ _ he;rw[hl] at e1 e2;rw[vV,vV] at e2;have⟨u,u',p1,p2,p3⟩:=ace ih (o:=o) hk aM hz hl hd h1 h2 e1;have rest:=aa4 ih hd h1 h2 fs (o+s) kr r2 hr e2;subst ho;simp only[Op.eqFields]
      cases r1 with
      | true=>simp[hn,p1,p2,p3,rest]
      | false=>simp[hn,p1,p2,p3]
def abt{n:Nat}(ih:Wp P ae m S w n){d:Nat}(hd:n<=d){xs ys:List yj}{cs dH:List AV}(h1:aE ae m S w cs xs)(h2:aE ae m S w dH ys){e:yF}{ks:List Nat}{s:Nat}(hk:kinds P n e=Gr ks)(aM:P.stoodInHeld e=ydz)(hz:cC P e=Gr s)(hl:ks.length=s):
  ∀(k j:Nat) (r:Bool),dA (yk k ks).flatten (cs.drop (j*s)) (dH.drop (j*s))=Gr r->(Op.eqItems d e s xs.toArray ys.toArray (List.range' j k)).run P w=.ok r w
 | 0,j,r,he=>by
  unfold dA at he
  split at he<;>simp_all[Op.eqItems]
 | k+1,j,r,he=>by
  obtain⟨r1,r2,e1,e2,rfl⟩:=JJ _ _ _ _ _ he;rw[hl] at e1 e2;rw[vV,vV,show j*s+s=(j+1)*s by rw[we,yah]] at e2;have⟨u,u',p1,p2,p3⟩:=ace ih (o:=j*s) hk aM hz hl hd h1 h2 e1;have rest:=abt ih hd h1 h2 hk aM hz hl k (j+1) r2 e2;rw[List.range'_succ];simp only[Op.eqItems]
  cases r1 with
  | true=>simp[p1,p2,p3,rest]
  | false=>simp[p1,p2,p3]
def PP:∀(n:Nat) (t:yF) (ks:List Nat),kinds P n t=Gr ks->P.stoodInHeld t=ydz->∀(d:Nat),n<=d->∀(xs ys:List yj) (cs dH:List AV) (r:Bool) (x y:yj),
  aE ae m S w cs xs->aE ae m S w dH ys->dA ks cs dH=Gr r->Im P t x xs->Im P t y ys->(Op.equalIn d t x y).run P w=.ok r w
 | 0,t,ks,h,_,_,_,_,_,_,_,_,_,_,_,_,_,_,_=>by simp[kinds] at h
 | n+1,t,ks,h,aM,0,hd,_,_,_,_,_,_,_,_,_,_,_,_=>by lia
 | n+1,t,ks,h,aM,d+1,hd,xs,ys,cs,dH,r,x,y,h1,h2,he,hx,hy=>by
  unfold kinds at h;have one:∀{k:Nat},ks=[k]->dE P t=Gr ydz->∃c c',cs=[c]/\dH=[c']/\af ae m S w c x/\af ae m S w c' y:=by
   intro k hk ha;rcases hx with ⟨hx,_⟩ | ⟨_,rfl⟩
   .grind
   rcases hy with ⟨hy,_⟩ | ⟨_,rfl⟩
   .grind
   have l1:=jE _ _ h1;have l2:=jE _ _ h2
   match cs,dH,l1,l2 with
   | [c],[c'],_,_=>
    simp only[aE] at h1 h2
    grind
  split at h
  .rename_i hu;simp only[yc] at h;have ha:dE P t=Gr ydz:=by simp[dE,hu]
   obtain⟨c,c',rfl,rfl,r1,r2⟩:=one h.symm ha;subst h;unfold dA at he
   split at he<;>simp_all[dA]
   subst he;simp only[af] at r1 r2;subst r1;subst r2;simp[Op.equalIn,run_underlying hu]
  .rename_i k0 hu;simp only[yc] at h;have ha:dE P t=Gr ydz:=by simp[dE,hu]
   obtain⟨c,c',rfl,rfl,r1,r2⟩:=one h.symm ha;subst h;unfold dA at he
   split at he<;>simp_all[dA]
   have⟨hk,he⟩:=he;subst he;simp only[af] at r1 r2;subst r1;subst r2;simp[Op.equalIn,run_underlying hu]
  .rename_i hu;simp only[yc] at h;have ha:dE P t=Gr ydz:=by simp[dE,hu]
   obtain⟨c,c',rfl,rfl,r1,r2⟩:=one h.symm ha;subst h;unfold dA at he
   split at he<;>simp_all[dA]
   subst he;simp only[af] at r1 r2;obtain⟨s,rfl,rfl⟩:=r1;obtain⟨s',rfl,rfl⟩:=r2;simp only[Op.equalIn,Sem.run_bind,run_underlying hu,Result.andThen_ok,Sem.run_pure,Uh];rfl
  .rename_i fs hu;have ha:dE P t=Gr ydy:=by simp[dE,hu]
   rcases hx with ⟨_,rfl⟩ | ⟨hx,_⟩
   .rcases hy with ⟨_,rfl⟩ | ⟨hy,_⟩
    .have hf:P.fieldsOf t=fs:=by simp[Program.fieldsOf,hu]
     rw[run_equalIn_struct w d t _ _ (by rw[hf];exact hu) aM,hf]
     exact aa4 (PP n) (by lia) h1 h2 fs.toList 0 ks r h (by simpa using he)
    .rw [ha] at hy;cases hy
   .rw [ha] at hx;cases hx
  .rename_i k e hu;have ha:dE P t=Gr ydy:=by simp[dE,hu]
   rcases hx with ⟨_,rfl⟩ | ⟨hx,_⟩
   .rcases hy with ⟨_,rfl⟩ | ⟨hy,_⟩
    .cases hk:kinds P n e with
     | none=>simp[hk] at h
     | some ke=>
      cases hz:cC P e with
      | none=>simp[hk,hz] at h
      | some s=>
       simp only[hk,hz] at h
       cases hc:(yt ke.length s&& !P.stoodInHeld e) with
       | false=>rw[hc] at h;cases h
       | true=>
        rw[hc] at h;simp only[yy,yc] at h;subst h;simp only[yf,vS] at hc;have cK:=hz;unfold cC at cK
        cases hi:P.info? e with
        | none=>simp[hi] at cK
        | some i=>
         simp only[hi,yc] at cK;have dY:P.cellsOf e=s:=by simp[Program.cellsOf,hi,cK]
         rw[run_equalIn_array w d _ _ hu hi,dY,List.range_eq_range'];exact abt (PP n) (by lia) h1 h2 hk hc.2 hz (yi hc.1) k 0 r (by simpa using he)
    .rw [ha] at hy;cases hy
   .rw [ha] at hx;cases hx
  .cases h
end
end
section
open Go
section
variable {vk:AV}{ks:List Nat}{kk:Nat}{P:xA}{k:yj}
inductive zU(E:yj->Bool->Prop):List vm->Nat->Option (Nat×yj)->Prop
 | nil {i:Nat}:zU E [] i Gs
 | hit {e:vm} {es:List vm} {i:Nat}:E e.key ydy->zU E (e::es) i (Gr (i,e.val))
 | Fi {e:vm} {es:List vm} {i:Nat} {f:Option (Nat×yj)}:E e.key ydz->zU E es (i+1) f->zU E (e::es) i f
def ar6{d:yaa}{es:List vm}{i:Nat}{f:Option (Nat×yj)}(h:zU (fun u b=>Instr.sameNow d k u=Gr b) es i f):Instr.findNow d k es i=Gr f:=by
 induction h with
 | nil=>rfl
 | hit h=>simp[Instr.findNow,h]
 | Fi h _ ih=>simp[Instr.findNow,h,ih]
def aer{w:yo}{kt:yF}{es:List vm}{i:Nat}{f:Option (Nat×yj)}(h:zU (fun u b=>(Op.equal kt k u).run P w=.ok b w) es i f):
  (Instr.findAsking kt k es i).run P w=.ok f w:=by
 induction h with
 | nil=>simp[Instr.findAsking]
 | hit h=>simp[Instr.findAsking,h]
 | Fi h _ ih=>simp[Instr.findAsking,h,ih]
section
variable {O:bC}{ae:Nat->Nat}{m:Mp}{S:Nat->Prop}{w:yo}
def Found(ae:Nat->Nat)(m:Mp)(S:Nat->Prop)(w:yo)(f:Option (Nat×yj)):Option AV->Prop
 | none=>f=Gs
 | some v=>∃j u,f=Gr (j,u)/\af ae m S w v u
def UJ{vk:AV}{E:yj->Bool->Prop}(hE:∀c u b,af ae m S w c u->qj vk c=Gr b->E u b):∀(ks vs:List AV) (es:List vm) (i:Nat) (r:Option AV),
  aE ae m S w ks (es.map (·.key))->aE ae m S w vs (es.map (·.val))->E3 vk ks vs=Gr r->∃f,zU E es i f/\Found ae m S w f r
 | [],vs,es,i,r,h1,h2,h=>by
  simp only[aE,ybq] at h1;subst h1;simp only[E3,yc] at h;subst h;exact⟨Gs,.nil,rfl⟩
 | c::ks,[],es,i,r,h1,h2,h=>by simp only[E3] at h;cases h
 | c::ks,v::vs,es,i,r,h1,h2,h=>by
  cases es with
  | nil=>simp[aE] at h1
  | cons e es=>
   simp only[yV,aE,uG] at h1 h2;obtain⟨u,t,⟨rfl,rfl⟩,hc,pC⟩:=h1;obtain⟨u',t',⟨rfl,rfl⟩,hv,B7⟩:=h2;simp only[E3] at h
   cases A2:qj vk c with
   | none=>simp[A2] at h
   | some b=>
    have hs:=hE _ _ _ hc A2
    cases b with
    | true=>
     simp only[A2,yc] at h;subst h;exact⟨_,.hit hs,i,e.val,rfl,hv⟩
    | false=>
     simp only[A2] at h;obtain⟨f,h1,h2⟩:=UJ hE ks vs es (i+1) r pC B7 h;exact⟨f,.Fi hs h1,h2⟩
def Put(ae:Nat->Nat)(m:Mp)(S:Nat->Prop)(w:yo)(E:yj->Bool->Prop)(k x:yj)(es:List vm)(i:Nat)(mh eK:List AV):Prop:=
 (zU E es i Gs/\aE ae m S w mh (es.map (·.key)++[k])/\aE ae m S w eK (es.map (·.val)++[x]))\/
 ∃(j:Nat) (e0:vm) (c vk:AV),zU E es i (Gr (i+j,e0.val))/\es[j]? =Gr e0/\(af ae m S w vk k/\af ae m S w c e0.key/\qj vk c=Gr ydy)/\aE ae m S w mh (es.map (·.key))/\aE ae m S w eK ((es.map (·.val)).set j x)
def aes{vk vx:AV}{k x:yj}{E:yj->Bool->Prop}(hE:∀c u b,af ae m S w c u->qj vk c=Gr b->E u b)(hk:af ae m S w vk k)(hx:af ae m S w vx x):∀(ks vs:List AV) (es:List vm) (i:Nat) (mh eK:List AV),
  aE ae m S w ks (es.map (·.key))->aE ae m S w vs (es.map (·.val))->BL vk vx ks vs=Gr (mh,eK)->Put ae m S w E k x es i mh eK
 | [],[],es,i,mh,eK,h1,h2,h=>by
  simp only[aE,ybq] at h1;subst h1;simp only[BL,yc,yr] at h;obtain⟨rfl,rfl⟩:=h;exact .inl ⟨.nil,by simp[aE,hk],by simp[aE,hx]⟩
 | [],_::_,es,i,mh,eK,h1,h2,h=>by simp[BL] at h
 | _::_,[],es,i,mh,eK,h1,h2,h=>by simp[BL] at h
 | c::ks,v::vs,es,i,mh,eK,h1,h2,h=>by
  cases es with
  | nil=>simp[aE] at h1
  | cons e es=>
   simp only[yV,aE,uG] at h1 h2;obtain⟨u,t,⟨rfl,rfl⟩,hc,pC⟩:=h1;obtain⟨u',t',⟨rfl,rfl⟩,hv,B7⟩:=h2;simp only[BL] at h
   cases A2:qj vk c with
   | none=>simp[A2] at h
   | some b=>
    have hs:=hE _ _ _ hc A2
    cases b with
    | true=>
     simp only[A2,yc,yr] at h;obtain⟨rfl,rfl⟩:=h;refine .inr ⟨0,e,c,vk,.hit hs,rfl,⟨hk,hc,A2⟩,?_,?_⟩
     .simp only [yV,aE];exact⟨_,_,rfl,hc,pC⟩
     .simp only [yV,List.set_cons_zero,aE];exact⟨_,_,rfl,hx,B7⟩
    | false=>
     simp only[A2] at h
     cases hm:BL vk vx ks vs with
     | none=>simp[hm] at h
     | some q=>
      obtain⟨k1,v1⟩:=q;simp only[hm,yc,yr] at h;obtain⟨rfl,rfl⟩:=h;rcases aes hE hk hx ks vs es (i+1) k1 v1 pC B7 hm with ⟨g1,g2,g3⟩ | ⟨j,e0,c0,vk0,g1,g2,g3,g4,g5⟩
      .refine .inl ⟨.Fi hs g1,?_,?_⟩
       .simp only [yV,xe,aE];exact⟨_,_,rfl,hc,g2⟩
       .simp only [yV,xe,aE];exact⟨_,_,rfl,hv,g3⟩
      .refine .inr ⟨j+1,e0,c0,vk0,?_,by simpa using g2,g3,?_,?_⟩
       .rw [show i+(j+1)=i+1+j by omega];exact .Fi hs g1
       .simp only [yV,aE];exact⟨_,_,rfl,hc,g4⟩
       .simp only [yV,List.set_cons_succ,aE];exact⟨_,_,rfl,hv,g5⟩
def acf:∀(n:Nat) (a b:List AV) (x y:List yj),dA (yk n 1) a b=Gr ydy->aE ae m S w a x->aE ae m S w b y->x=y/\(x.zip x).all (fun (p,q)=>Instr.sameBits 9999 p q)=ydy
 | 0,a,b,x,y,h,hx,hy=>by
  match a,b with
  | [],[]=>simp only[aE] at hx hy;subst hx;subst hy;exact⟨rfl,rfl⟩
  | [],_::_=>simp[dA] at h
  | _::_,[]=>simp[dA] at h
  | _::_,_::_=>simp[dA] at h
 | n+1,a,b,x,y,h,hx,hy=>by
  rw[wQ] at h;unfold dA at h
  split at h
  any_goals (cases h;done)
  .simp_all
  .simp_all
  .rename_i ks k p xs k' q ys pC;simp only[uG,yab] at pC;subst pC;by_cases hk:k=k'
   .subst hk;simp only[xS] at h
    cases hr:dA (yk n 1) xs ys with
    | none=>simp[hr] at h
    | some r=>
     simp only[hr,yc,yf,yag] at h;obtain⟨rfl,rfl⟩:=h;simp only[aE] at hx hy;obtain⟨u,us,rfl,e1,e2⟩:=hx;obtain⟨u',MV,rfl,e1',e2'⟩:=hy;simp only[af] at e1 e1';subst e1;subst e1';obtain⟨rfl,g⟩:=acf n xs ys us MV hr e2 e2';refine⟨rfl,?_⟩;simp only[List.zip_cons_cons,yau,g,Bool.and_true];simp[Instr.sameBits]
   .simp [hk] at h
  .simp_all
def apS{c:AV}{u:yj}(hk:af ae m S w vk k)(hc:af ae m S w c u)(h:qj vk c=Gr ydy):k=u/\Instr.sameBits 10000 k k=ydy:=by
 unfold qj at h
 split at h
 .rename_i j x j' y;simp only[af] at hk hc;subst hk;subst hc;by_cases hj:j=j'
  .simp only [hj,xS,yc,yag] at h;exact⟨by rw[hj,h],by simp[Instr.sameBits]⟩
  .simp [hj] at h
 .simp only [af] at hk hc;obtain⟨s,rfl,rfl⟩:=hk;obtain⟨s',rfl,rfl⟩:=hc;simp only[yc] at h;have h2:(s==s')=ydy:=by rw[Uh];exact h
  have h3:(s.data==s'.data)=ydy:=by cases s;cases s';exact h2
  rw[yag] at h3;have e:s=s':=by cases s;cases s';simp only at h3;rw[h3]
  subst e;exact⟨rfl,by simp[Instr.sameBits,h2]⟩
 .simp only [af] at hk hc;subst hk;subst hc;simp only[yc,yag] at h;exact⟨by rw[h],by simp[Instr.sameBits]⟩
 .rename_i a b;simp only[af] at hk hc;obtain⟨xs,rfl,hx⟩:=hk;obtain⟨ys,rfl,hy⟩:=hc;obtain⟨e,g⟩:=acf _ _ _ _ _ h hx hy;have e':xs=ys:=by cases xs;cases ys;simp only at e;rw[e]
  subst e';refine⟨rfl,?_⟩;simp only[Instr.sameBits,yac,Bool.true_and];exact g
 .cases h
def abu{kt:yF}(hk:keyOf P kt=Gr kk)(h:pV kk vk=ydy):
  (∃d,P.underlying kt=Gr d/\Xi d=ydy/\fits d vk=ydy)\/
  ∃fs ks cs,P.underlying kt=Gr (.struct fs)/\fs.toList.all (fun f=>BN P f.type)=ydy/\P.stoodInHeld kt=ydz/\kinds P 20 kt=Gr ks/\ks.length=fs.size/\vk=.agg cs/\cs.length=fs.size:=by
 unfold keyOf at hk
 split at hk
 .rename_i hu;simp only[yc] at hk;subst hk;refine .inl ⟨_,hu,rfl,?_⟩;cases vk<;>simp_all[pV,fits]
 .rename_i hu;simp only[yc] at hk;subst hk;refine .inl ⟨_,hu,rfl,?_⟩;cases vk<;>simp_all[pV,fits]
 .rename_i hu;simp only[yc] at hk;subst hk;refine .inl ⟨_,hu,rfl,?_⟩;cases vk<;>simp_all[pV,fits]
 .rename_i fs hu
  cases hc:(fs.toList.all (fun f=>BN P f.type)&& !P.stoodInHeld kt) with
  | false=>rw[hc] at hk;cases hk
  | true=>
   rw[hc] at hk;simp only[yy] at hk;simp only[yf,vS] at hc
   cases hs:kinds P 20 kt with
   | none=>simp[hs] at hk
   | some ks=>
    simp only[hs] at hk
    cases hl:yt ks.length fs.size with
    | false=>rw[hl] at hk;cases hk
    | true=>
     rw[hl] at hk;simp only[yy,yc] at hk;subst hk;cases vk<;>simp only[pV,yH] at h
     exact .inr ⟨fs,ks,_,hu,hc.1,hc.2,rfl,yi hl,rfl,yi h⟩
 .cases hk
def aaR{P:xA}{n:Nat}:∀(fs:List uj) (o:Nat) (ks:List Nat),fs.all (fun f=>BN P f.type)=ydy->pP P (fun u=>kinds P n u) fs o=Gr ks->ks=yk fs.length 1
 | [],o,ks,_,h=>by simp only[pP,yc] at h;subst h;rfl
 | f::fs,o,ks,ha,h=>by
  simp only[yau,yf] at ha;simp only[pP] at h
  cases hk:kinds P n f.type with
  | none=>simp[hk] at h
  | some kf=>
   cases hz:cC P f.type with
   | none=>simp[hk,hz] at h
   | some s=>
    simp only[hk,hz] at h
    cases hc:(f.name != "_"&&yt f.offset o&&yt kf.length s&& !P.stoodInHeld f.type) with
    | false=>rw[hc] at h;cases h
    | true=>
     rw[hc] at h;simp only[yy] at h
     cases hr:pP P (fun u=>kinds P n u) fs (o+s) with
     | none=>simp[hr] at h
     | some kr=>
      simp only[hr,yc] at h;subst h;have hkf:kf=[1]:=by
       have hi:=ha.1;unfold BN at hi
       cases n with
       | zero=>simp[kinds] at hk
       | succ n=>
        unfold kinds at hk
        split at hi
        .rename_i hu;simp only[hu,yc] at hk;exact hk.symm
        .cases hi
      rw[hkf,aaR fs (o+s) kr ha.2 hr];rfl
def am9{kt:yF}{fs:Array uj}(hu:P.underlying kt=Gr (.struct fs))(ha:fs.toList.all (fun f=>BN P f.type)=ydy)(hk:kinds P 20 kt=Gr ks):
  ks=yk fs.size 1:=by
 unfold kinds at hk;simp only[hu] at hk
 have:=aaR (n:=19) fs.toList 0 ks ha hk
 simpa using this
def amD{b:Bool}{n:Nat}{t:yF}{k:xh}{u:yj}(hu:P.underlying t=Gr (.int k)):(Instr.checkKey b (n+1) t u).run P w=.ok () w:=by
 simp[Instr.checkKey,run_underlying hu]
def aaS{P:xA}{b:Bool}{q q':Nat}(hq:q=q'+1){cs:Array yj}:∀(fs:List uj) (o n:Nat) (ks:List Nat),fs.all (fun f=>BN P f.type)=ydy->pP P (fun u=>kinds P n u) fs o=Gr ks->o+ks.length<=cs.size->
  Sem.run P (forIn fs yaF fun f _=>
      if f.name≠ "_" then do
       let x <-part f.type cs f.offset
       Instr.checkKey b q f.type x
       pure (ybl yaF)
      else pure (ybl yaF)) w=.ok yaF w
 | [],o,n,ks,_,h,_=>by simp
 | f::fs,o,n,ks,ha,h,hl=>by
  simp only[yau,yf] at ha;simp only[pP] at h
  cases hk:kinds P n f.type with
  | none=>simp[hk] at h
  | some kf=>
   cases hz:cC P f.type with
   | none=>simp[hk,hz] at h
   | some s=>
    simp only[hk,hz] at h
    cases hc:(f.name != "_"&&yt f.offset o&&yt kf.length s&& !P.stoodInHeld f.type) with
    | false=>rw[hc] at h;cases h
    | true=>
     rw[hc] at h;simp only[yy] at h;simp only[yf,bne_iff_ne,vS] at hc;obtain⟨⟨⟨hn,ho⟩,hls⟩,aM⟩:=hc;have ho:=yi ho;have hls:=yi hls
     cases hr:pP P (fun u=>kinds P n u) fs (o+s) with
     | none=>simp[hr] at h
     | some kr=>
      simp only[hr,yc] at h;subst h;rw[yW] at hl;have hi:=ha.1;unfold BN at hi
      split at hi
      .rename_i kd hu;obtain⟨ag,A3,h1⟩:=acd hk;have ahO:dE P f.type=Gr ydz:=by simp[dE,hu]
       have h2:=A3;rw[ahO] at h2;injection h2 with h2
       have aG:f.offset<cs.size:=by have:=h1 h2.symm;omega
       have hp:(part f.type cs f.offset).run P w=.ok cs[f.offset] w:=by
        simp[part,Oh ahO,Array.getElem?_eq_getElem aG]
       have bN:(Instr.checkKey b q f.type cs[f.offset]).run P w=.ok () w:=by
        rw[hq];exact amD hu
       have rest:=aaS (b:=b) hq (cs:=cs) fs (o+s) n kr ha.2 hr (by omega);rw[List.forIn_cons];simp only[hn,ybZ,uS,xS,Sem.run_bind,hp,bN,Result.andThen_ok,Sem.run_pure];simpa only[ybZ] using rest
      .cases hi
def ama{b:Bool}{q q':Nat}(hq:q=q'+1){kt:yF}{fs:Array uj}{cs:Array yj}(hu:P.underlying kt=Gr (.struct fs))(ha:fs.toList.all (fun f=>BN P f.type)=ydy)(hk:kinds P 20 kt=Gr ks)(hl:ks.length<=cs.size):(Instr.checkKey b (q+1) kt (.agg cs)).run P w=.ok () w:=by
 unfold kinds at hk;simp only[hu] at hk;have h:=aaS (w:=w) (b:=b) hq (cs:=cs) fs.toList 0 19 ks ha hk (by omega);simp only[Instr.checkKey,Sem.run_bind,run_underlying hu,Result.andThen_ok,<-Array.forIn_toList];rw[h]
 simp
def aa5{kt:yF}(hk:keyOf P kt=Gr kk)(h:pV kk vk=ydy)(hr:af ae m S w vk k)(b:Bool):(Instr.checkKey b 10000 kt k).run P w=.ok () w:=by
 rcases abu hk h with ⟨d,h1,h2,h3⟩ | ⟨fs,ks,cs,hu,ha,aM,pC,hl,rfl,dX⟩
 .exact al3 h1 h2 b k
 .simp only [af] at hr;obtain⟨xs,rfl,hx⟩:=hr;have Zc:=jE _ _ hx;rw[vH] at Zc
  exact ama (q:=9999) (q':=9998) rfl hu ha pC (by omega)
def abv{kt:yF}(hk:keyOf P kt=Gr kk)(h:pV kk vk=ydy)(hr:af ae m S w vk k):
  ∃E:yj->Bool->Prop,(∀c u b,af ae m S w c u->qj vk c=Gr b->E u b)/\∀es f,zU E es 0 f->(Instr.findKey kt k es).run P w=.ok f w:=by
 rcases abu hk h with ⟨d,h1,h2,h3⟩ | ⟨fs,ks,cs,hu,ha,aM,pC,hl,rfl,dX⟩
 .refine ⟨fun u b=>Instr.sameNow d k u=Gr b,fun c u b hc he=>apQ hr hc he h3,fun es f hf=>?_⟩;simp[Instr.findKey,run_underlying h1,ar6 hf]
 .refine ⟨fun u b=>(Op.equal kt k u).run P w=.ok b w,fun c u b hc he=>?_,fun es f hf=>?_⟩
  .cases c<;>simp only[qj,reduceCtorEq] at he
   rename_i dH;simp only[af] at hr hc;obtain⟨xs,rfl,hx⟩:=hr;obtain⟨ys,rfl,hy⟩:=hc;rw[dX,<-am9 hu ha pC] at he;have A3:dE P kt=Gr ydy:=by simp[dE,hu]
   rw[UG];exact PP 20 kt ks pC aM 10000 (by omega) _ _ _ _ b _ _ hx hy he (.inl ⟨A3,by simp⟩) (.inl ⟨A3,by simp⟩)
  .simp only [af] at hr;obtain⟨xs,rfl,hx⟩:=hr
   cases hf with
   | nil=>simp[Instr.findKey,run_underlying hu,Instr.findNow]
   | hit g=>simp[Instr.findKey,run_underlying hu,Instr.findNow,Instr.sameNow,aer (.hit g)]
   | Fi g g'=>simp[Instr.findKey,run_underlying hu,Instr.findNow,Instr.sameNow,aer (.Fi g g')]
def auZ{t kt e:yF}{ok:Bool}{hp:Hp}{vx v:AV}{x zero:yj}(hh:aT O m S w hp ct)(hu:O.P.underlying t=Gr (.map kt e))(hk:keyOf O.P kt=Gr kk)(hdk:pV kk vk=ydy)(hz:(zeroValue e).run O.P w=.ok zero w)(hx:af O.ae m S w vx x)(Io:af O.ae m S w vk k){z:AV}(Zd:af O.ae m S w z zero){r:Option AV}(hr:C9 hp vk vx=Gr r)(hv:(match r with | some u=>(bif ok then AV.av [u,.bool ydy] else u) | none=>(bif ok then AV.av [z,.bool ydz] else z))=v):
  ∃u,(Instr.lookup t x k ok).run O.P w=.ok u w/\af O.ae m S w v u:=by
 have fin:∀(u:AV) (uu:yj) (b:Bool),af O.ae m S w u uu->af O.ae m S w (bif ok then AV.av [u,.bool b] else u) (if ok then .tuple #[uu,.bool b] else uu):=by
  intro u uu b h
  cases ok with
  | true=>simp only[yy,xS,af,aE];exact⟨_,rfl,_,_,rfl,h,_,_,rfl,rfl,rfl⟩
  | false=>simpa using h
 have bN:=fun b:Bool=>aa5 (P:=O.P) (w:=w) hk hdk Io b
 obtain⟨E,hE,hF⟩:=abv (P:=O.P) hk hdk Io;have body:∀(x':yj) (es:Array vm),((x'=.map Gs/\es=#[])\/∃b clock,x'=.map (Gr b)/\w.heap[b]? =Gr (.map es clock))->(∃f,zU E es.toList 0 f/\Found O.ae m S w f r)->
   ∃u,(Instr.lookup t x' k ok).run O.P w=.ok u w/\af O.ae m S w v u:=by
  rintro x' es hl ⟨f,hf,eh⟩;have eW:=hF _ _ hf
  cases r with
  | none=>
   have oB:f=Gs:=eh;subst oB;refine⟨if ok then .tuple #[zero,.bool ydz] else zero,?_,by rw[<-hv];exact fin z zero ydz Zd⟩
   rcases hl with ⟨rfl,rfl⟩ | ⟨b,clock,rfl,hb⟩
   .have LA:(Instr.findKey kt k []).run O.P w=.ok Gs w:=eW;simp[Instr.lookup,run_underlying hu,bN,LA,hz]
   .simp [Instr.lookup,run_underlying hu,getObj,Sem.run,hb];rw[bN];simp[eW,hz]
  | some v'=>
   obtain⟨j,u,rfl,h2⟩:=eh;refine⟨if ok then .tuple #[u,.bool ydy] else u,?_,by rw[<-hv];exact fin v' u ydy h2⟩
   rcases hl with ⟨rfl,rfl⟩ | ⟨b,clock,rfl,hb⟩
   .cases hf
   .simp [Instr.lookup,run_underlying hu,getObj,Sem.run,hb];rw[bN];simp[eW]
 cases vx<;>simp only[C9,reduceCtorEq] at hr
 case jI=>
  simp only[yc] at hr;subst hr;simp only[af] at hx;subst hx;exact body _ #[] (.inl ⟨rfl,rfl⟩) ⟨Gs,.nil,rfl⟩
 case map id=>
  simp only[af] at hx;obtain⟨p,hm,rfl⟩:=hx
  split at hr
  case h_2=>cases hr
  rename_i j9 ks vs E7;obtain⟨p',es,clock,jn,hb,h1,h2,_⟩:=hh.obj id _ _ E7 hm;rw[hm] at jn;injection jn with jn;subst jn
  exact body _ es (.inr ⟨_,_,rfl,hb⟩) (UJ hE ks vs es.toList 0 r h1 h2 hr)
 case jJ ks vs=>
  simp only[af] at hx;obtain⟨b,es,clock,rfl,_,_,_,hb,h1,h2⟩:=hx;exact body _ es (.inr ⟨_,_,rfl,hb⟩) (UJ hE ks vs es.toList 0 r h1 h2 hr)
end
end
end
section
open Go
def dz{tm:Env}{hp:Hp}{v:AV}(h:bm tm hp bad=Gr v):False:=by simp[bad,bm] at h
section
variable {O:bC}{H:Hint}{m:Mp}{S:Nat->Prop}{w:yo}{tm:Env}{a:Act}{hp:Hp}{ct:Nat}
def ar7{ae:Nat->Nat}{va vb v:AV}{x y:yj}(hx:af ae m S w va x)(hy:af ae m S w vb y)(h:VE.min2 va vb=Gr v):∃u,(Builtin.min2 x y).run O.P w=.ok u w/\af ae m S w v u:=by
 unfold VE.min2 at h
 split at h
 .simp only [af] at hx hy;subst hx;subst hy;simp only[yc] at h;subst h;exact⟨_,by simp only[Builtin.min2,Sem.run_pure];rfl,by simp only[af]⟩
 .rename_i k p k' q;subst hx;subst hy
  cases ho:k.format.order p q with
  | none=>simp[ho] at h
  | some c=>cases c<;>(simp only[ho,yc] at h;subst h;exact⟨_,by simp only[Builtin.min2,ho,Sem.run_pure];rfl,by simp only[af]⟩)
 .cases h
def ar8{ae:Nat->Nat}{va vb v:AV}{x y:yj}(hx:af ae m S w va x)(hy:af ae m S w vb y)(h:VE.max2 va vb=Gr v):∃u,(Builtin.max2 x y).run O.P w=.ok u w/\af ae m S w v u:=by
 unfold VE.max2 at h
 split at h
 .simp only [af] at hx hy;subst hx;subst hy;simp only[yc] at h;subst h;exact⟨_,by simp only[Builtin.max2,Sem.run_pure];rfl,by simp only[af]⟩
 .rename_i k p k' q;subst hx;subst hy
  cases ho:k.format.order p q with
  | none=>simp[ho] at h
  | some c=>cases c<;>(simp only[ho,yc] at h;subst h;exact⟨_,by simp only[Builtin.max2,ho,Sem.run_pure];rfl,by simp only[af]⟩)
 .cases h
def Ve{ae:Nat->Nat}{f:AV->AV->Option AV}{g:yj->yj->Sem yj}(hfg:∀va vb v x y,af ae m S w va x->af ae m S w vb y->f va vb=Gr v->∃u,(g x y).run O.P w=.ok u w/\af ae m S w v u):
  ∀(l:List AV) (us:List yj) (va v:AV) (x:yj),af ae m S w va x->aE ae m S w l us->C7 f va l=Gr v->∃u,(us.foldlM g x).run O.P w=.ok u w/\af ae m S w v u
 | [],us,va,v,x,hx,hl,h=>by
  simp only[aE] at hl;simp only[C7,yc] at h
  simp_all
 | b::l,us,va,v,x,hx,hl,h=>by
  obtain⟨u,r,rfl,hu,hr⟩:=hl;simp only[C7] at h
  cases hf:f va b with
  | none=>simp[hf] at h
  | some c=>
   simp only[hf] at h;obtain⟨u1,h1,h2⟩:=hfg _ _ _ _ _ hx hu hf;obtain⟨u2,h3,h4⟩:=Ve hfg l r c v u1 h2 hr h
   simp_all
def VQ{t:yF}{vx v:AV}{x:yj}{ty:yF}(hh:aT O m S w hp ct)(hx:af O.ae m S w vx x){k:Nat}(hu:(k=0/\O.P.underlying t=Gr .string)\/(k=1/\∃e,O.P.underlying t=Gr (.slice e))\/(k=2/\∃kt e,O.P.underlying t=Gr (.map kt e)))(h:gF hp k vx=Gr v):∃u,(Builtin.len_ #[t] ty #[x]).run O.P w=.ok u w/\af O.ae m S w v u:=by
 rcases hu with ⟨rfl,hu⟩ | ⟨rfl,e,hu⟩ | ⟨rfl,kt,e,hu⟩
 all_goals cases vx<;>simp only[gF,reduceCtorEq] at h
 case inl.str s=>
  simp only[af] at hx;obtain⟨b,rfl,rfl⟩:=hx;simp only[yc] at h;subst h;refine⟨_,by simp[Builtin.len_,run_underlying hu];rfl,?_⟩
  simp only[af,goInt]
  simp_all
 case inr.inl.aj=>
  simp only[af] at hx;subst hx;simp only[yc] at h;subst h;exact⟨_,by simp[Builtin.len_,run_underlying hu];rfl,by simp[af,goInt]⟩
 case inr.inl.au ex n cs=>
  simp only[af] at hx;rcases hx with ⟨b,o,c,rfl,_⟩ | ⟨a,rfl,rfl,rfl⟩
  all_goals
   simp only[yc] at h;subst h;exact⟨_,by simp[Builtin.len_,run_underlying hu];rfl,by simp[af,goInt]⟩
 case inr.inl.ay id o n=>
  simp only[af] at hx;obtain⟨p,c,_,rfl,_⟩:=hx;simp only[yc] at h;subst h;exact⟨_,by simp[Builtin.len_,run_underlying hu];rfl,by simp[af,goInt]⟩
 case inr.inr.jI=>
  simp only[af] at hx;subst hx;simp only[yc] at h;subst h;exact⟨_,by simp[Builtin.len_,run_underlying hu];rfl,by simp[af,goInt]⟩
 case inr.inr.jJ ks vs=>
  simp only[af] at hx;obtain⟨b,es,clock,rfl,_,_,_,hb,h1,_⟩:=hx;simp only[yc] at h;subst h;refine⟨_,by simp[Builtin.len_,run_underlying hu,getObj,Sem.run,hb];rfl,?_⟩
  have:=jE _ _ h1
  simp only[af,goInt];rw[<-this];simp
 case inr.inr.map id=>
  simp only[af] at hx;obtain⟨p,hm,rfl⟩:=hx
  split at h
  case h_2=>cases h
  rename_i j9 ks vs E7;simp only[yc] at h;subst h;obtain⟨p',es,clock,jn,hb,h1,_⟩:=hh.obj id _ _ E7 hm;rw[hm] at jn;injection jn with jn;subst jn
  refine⟨_,by simp[Builtin.len_,run_underlying hu,getObj,Sem.run,hb];rfl,?_⟩
  have:=jE _ _ h1
  simp only[af,goInt];rw[<-this];simp
end
end
section
open Go
section
variable {O:bC}{H:Hint}{m:Mp}{S:Nat->Prop}{w:yo}{tm:Env}{a:Act}{hp:Hp}{ct:Nat}
def GJ{t:yF}{z:AV}(h:oY O.P t=Gr z):∃v,(zeroValue t).run O.P w=.ok v w/\z=fg v:=by
 unfold oY at h
 cases hi:O.P.info? t with
 | none=>simp[hi] at h
 | some i=>
  simp only[hi] at h
  cases hz:i.zero with
  | none=>simp[hz] at h
  | some v=>
   simp only[hz,yc] at h;exact⟨v,by simp[zeroValue,typeInfo,hi,hz],h.symm⟩
def Reads(O:bC)(m:Mp)(S:Nat->Prop)(w:yo)(a:Act)(o:xa)(v:AV):Prop:=
 ∃u,(execOp a.eval o).run O.P w=.ok (.value u) w/\af O.ae m S w v u
def lk{o:xa}{v:AV}{s:Sem yj}(he:execOp a.eval o=(do pure (.value (<-s)):Sem ybm))(h:∃u,s.run O.P w=.ok u w/\af O.ae m S w v u):Reads O m S w a o v:=by
 have⟨u,h1,h2⟩:=h;exact⟨u,by rw[he];simp[h1],h2⟩
def apT{o:xa}{op:vl}{t ty:yF}{x y:xD}{k:Nat}{v:AV}(hH:fW O H)(ht:cg O m S w tm a.tmps)(ho:o.op=.binOp op t x y ty)(hv:bm tm hp (aW O.P H k o)=Gr v):Reads O m S w a o v:=by
 have rx:=ck hH ht x;have ry:=ck hH ht y;have guard:∀{u:yj},(∀xs ys,¬(a.eval x=.agg xs/\a.eval y=.agg ys))\/O.P.eqGuardType O.P.depth t=ydz->a.eval x≠.nilIface->(wb op t (a.eval x) (a.eval y)).run O.P w=.ok u w->
   (do eqGuard op t x y (a.eval x) (a.eval y);wb op t (a.eval x) (a.eval y):Sem yj).run O.P w=.ok u w:=by
  intro u h1 h2 h3
  simp only[Sem.run_bind,am8 (P:=O.P) (w:=w) (t:=t) (op:=op) (x:=x) (y:=y) (h1.symm) h2,Result.andThen_ok,h3]
 have plain:bm tm hp (.bin op (aP H x) (aP H y))=Gr v->Reads O m S w a o v:=by
  intro hv;simp only[bm] at hv;obtain⟨u,h1,h2⟩:=apM (P:=O.P) (t:=t) rx ry hv
  refine lk (s:=do eqGuard op t x y (a.eval x) (a.eval y);wb op t (a.eval x) (a.eval y)) (by simp only[execOp,ho]) ⟨u,guard (.inl ?_) ?_ h1,h2⟩
  .rintro xs ys ⟨e1,e2⟩;rw[e1] at rx;unfold VE.binOp at hv
   split at hv
   .rename_i h3 _;rw[h3] at rx;simp[af] at rx
   .rename_i h3 _;rw[h3] at rx;simp[af] at rx
   .rename_i h3 _;rw[h3] at rx;simp[af] at rx
   .rename_i h3 _;rw[h3] at rx;simp[af] at rx
   .cases hv
  .intro e1;rw[e1] at rx;unfold VE.binOp at hv
   split at hv
   .rename_i h3 _;rw[h3] at rx;simp[af] at rx
   .rename_i h3 _;rw[h3] at rx;simp[af] at rx
   .rename_i h3 _;rw[h3] at rx;simp[af] at rx
   .rename_i h3 _;rw[h3] at rx;simp[af] at rx
   .cases hv
 have other:∀(ne:Bool) (kd:VE.Sm),(op=.eql/\ne=ydz\/op=.neq/\ne=ydy)->(∀r,lI kd (aB tm (aP H x)) (aB tm (aP H y))=Gr r->(Op.equal t (a.eval x) (a.eval y)).run O.P w=.ok r w/\
    ((∀xs ys,¬(a.eval x=.agg xs/\a.eval y=.agg ys))\/O.P.eqGuardType O.P.depth t=ydz)/\a.eval x≠.nilIface/\
    ∀q:Bool,(op=.eql->wb op t (a.eval x) (a.eval y)=(do pure (.bool (<-Op.equal t (a.eval x) (a.eval y)))))/\(op=.neq->wb op t (a.eval x) (a.eval y)=(do pure (.bool (!(<-Op.equal t (a.eval x) (a.eval y)))))))->
   bm tm hp (.eq ne kd (aP H x) (aP H y))=Gr v->Reads O m S w a o v:=by
  intro ne kd jB jy hv;simp only[bm] at hv
  cases he:lI kd (aB tm (aP H x)) (aB tm (aP H y)) with
  | none=>simp[he] at hv
  | some r=>
   simp only[he,yc] at hv;subst hv;obtain⟨h1,h2,h3,h4⟩:=jy r he;obtain⟨h5,h6⟩:=h4 ydy
   refine lk (s:=do eqGuard op t x y (a.eval x) (a.eval y);wb op t (a.eval x) (a.eval y)) (by simp only[execOp,ho]) ⟨.bool (ne !=r),guard h2 h3 ?_,by simp[af]⟩
   rcases jB with ⟨rfl,rfl⟩ | ⟨rfl,rfl⟩
   .rw [h5 rfl];simp[h1]
   .rw [h6 rfl];simp[h1]
 have pB:O.P.underlying t=Gr .bool->∀r,lI .b (aB tm (aP H x)) (aB tm (aP H y))=Gr r->∃p q,a.eval x=.bool p/\a.eval y=.bool q/\(Op.equal t (a.eval x) (a.eval y)).run O.P w=.ok r w:=by
  intro hu r he;cases hx:aB tm (aP H x)<;>cases hy:aB tm (aP H y)<;>rw[hx,hy] at he<;>simp only[lI,reduceCtorEq] at he
  rw[hx] at rx;rw[hy] at ry;simp only[af] at rx ry;simp only[yc] at he;refine⟨_,_,rx,ry,?_⟩;rw[rx,ry,UG,<-he];exact auS hu
 have pS:∀e,O.P.underlying t=Gr (.slice e)->∀r,lI .sl (aB tm (aP H x)) (aB tm (aP H y))=Gr r->∃p n c q n' c',a.eval x=.slice p n c/\a.eval y=.slice q n' c'/\(Op.equal t (a.eval x) (a.eval y)).run O.P w=.ok r w:=by
  intro e hu r he;have h1:=ar3 hu rx ry he;have sl:∀{v:AV} {u:yj},af O.ae m S w v u->(v=.aj\/(∃a b c,v=.au a b c)\/∃a b c,v=.ay a b c)->∃p n c,u=.slice p n c:=by
   intro v u hr hv;rcases hv with rfl | ⟨_,_,_,rfl⟩ | ⟨_,_,_,rfl⟩
   .simp only [af] at hr;exact⟨_,_,_,hr⟩
   .simp only [af] at hr;rcases hr with ⟨b,o,c,hr,_⟩ | ⟨_,hr,_⟩<;>exact⟨_,_,_,hr⟩
   .simp only [af] at hr;obtain⟨b,c,_,hr,_⟩:=hr;exact⟨_,_,_,hr⟩
  have cU:(aB tm (aP H x)=.aj\/(∃a b c,aB tm (aP H x)=.au a b c)\/∃a b c,aB tm (aP H x)=.ay a b c)/\
    (aB tm (aP H y)=.aj\/(∃a b c,aB tm (aP H y)=.au a b c)\/∃a b c,aB tm (aP H y)=.ay a b c):=by
   cases hx:aB tm (aP H x)<;>cases hy:aB tm (aP H y)<;>rw[hx,hy] at he<;>simp[lI] at he ⊢
  obtain⟨p,n,c,e1⟩:=sl rx cU.1;obtain⟨q,n',c',e2⟩:=sl ry cU.2;exact⟨p,n,c,q,n',c',e1,e2,h1⟩
 have pF:∀ps rs vr,O.P.underlying t=Gr (.func ps rs vr)->∀r,lI .fn (aB tm (aP H x)) (aB tm (aP H y))=Gr r->
   ((a.eval x=.nilFunc\/∃f p q,a.eval x=.func f p q)/\(a.eval y=.nilFunc\/∃f p q,a.eval y=.func f p q))/\(Op.equal t (a.eval x) (a.eval y)).run O.P w=.ok r w:=by
  intro ps rs vr hu r he;have h1:=ar4 hu rx ry he;have sl:∀{v:AV} {u:yj},af O.ae m S w v u->(v=.fZ\/(∃a b c,v=.fn a b c))->(u=.nilFunc\/∃f p q,u=.func f p q):=by
   intro v u hr hv;rcases hv with rfl | ⟨f,_,_,rfl⟩
   .simp only [af] at hr;exact .inl hr
   .cases f with
    | f g=>simp only[af] at hr;obtain⟨b,c,hr,_⟩:=hr;exact .inr ⟨_,_,_,hr⟩
    | y l=>simp only[af] at hr;obtain⟨b,_,hr⟩:=hr;exact .inr ⟨_,_,_,hr⟩
  have cU:(aB tm (aP H x)=.fZ\/(∃a b c,aB tm (aP H x)=.fn a b c))/\(aB tm (aP H y)=.fZ\/(∃a b c,aB tm (aP H y)=.fn a b c)):=by
   cases hx:aB tm (aP H x)<;>cases hy:aB tm (aP H y)<;>rw[hx,hy] at he<;>simp[lI] at he ⊢
  exact⟨⟨sl rx cU.1,sl ry cU.2⟩,h1⟩
 have pA:∀ks,kinds O.P 20 t=Gr ks->dE O.P t=Gr ydy->O.P.stoodInHeld t=ydz->∀r,lI (.ag ks) (aB tm (aP H x)) (aB tm (aP H y))=Gr r->∃p q,a.eval x=.agg p/\a.eval y=.agg q/\(Op.equal t (a.eval x) (a.eval y)).run O.P w=.ok r w:=by
  intro ks hk ha aM r he;cases hx:aB tm (aP H x)<;>cases hy:aB tm (aP H y)<;>rw[hx,hy] at he<;>simp only[lI,reduceCtorEq] at he
  rw[hx] at rx;rw[hy] at ry;simp only[af] at rx ry;obtain⟨p,e1,h1⟩:=rx;obtain⟨q,e2,h2⟩:=ry;refine⟨p,q,e1,e2,?_⟩;rw[e1,e2,UG];exact PP 20 t ks hk aM 10000 (by omega) _ _ _ _ r _ _ h1 h2 he (.inl ⟨ha,by simp⟩) (.inl ⟨ha,by simp⟩)
 have eqs:∀(ne:Bool),(op=.eql/\ne=ydz\/op=.neq/\ne=ydy)->bm tm hp (rT O.P H ne op t x y)=Gr v->Reads O m S w a o v:=by
  intro ne jB hv;have agg:dE O.P t=Gr ydy->bm tm hp (zp O.P H ne t x y)=Gr v->Reads O m S w a o v:=by
   intro ha hv;unfold zp at hv
   cases hk:kinds O.P 20 t with
   | none=>rw[hk] at hv;exact (dz hv).elim
   | some ks=>
    simp only[hk] at hv
    cases hc:(O.P.stoodInHeld t||O.P.eqGuardType O.P.depth t) with
    | true=>rw[hc] at hv;exact (dz hv).elim
    | false=>
     rw[hc] at hv;simp only[yT] at hv;simp only[Bool.or_eq_false_iff] at hc;refine other ne (.ag ks) jB (fun r hr=>?_) hv;obtain⟨p,q,e1,e2,h1⟩:=pA ks hk ha hc.1 r hr;refine⟨h1,.inr hc.2,by rw[e1];simp,fun _=>?_⟩
     rw[e1,e2];exact⟨fun e=>by subst e;rfl,fun e=>by subst e;rfl⟩
  unfold rT at hv
  split at hv
  .exact plain hv
  .exact plain hv
  .exact plain hv
  .exact plain hv
  .rename_i hu;refine other ne .b jB (fun r hr=>?_) hv;obtain⟨p,q,e1,e2,h1⟩:=pB hu r hr;refine⟨h1,.inl (by rw[e1];simp),by rw[e1];simp,fun _=>?_⟩
   rw[e1,e2];exact⟨fun e=>by subst e;rfl,fun e=>by subst e;rfl⟩
  .rename_i e hu;refine other ne .sl jB (fun r hr=>?_) hv;obtain⟨p,n,c,q,n',c',e1,e2,h1⟩:=pS e hu r hr;refine⟨h1,.inl (by rw[e1];simp),by rw[e1];simp,fun _=>?_⟩
   rw[e1,e2];exact⟨fun e=>by subst e;rfl,fun e=>by subst e;rfl⟩
  .rename_i ps rs vr hu;refine other ne .fn jB (fun r hr=>?_) hv;obtain⟨⟨e1,e2⟩,h1⟩:=pF ps rs vr hu r hr;refine⟨h1,.inl ?_,?_,fun _=>?_⟩
   .rcases e1 with e1 | ⟨_,_,_,e1⟩<;>rw[e1]<;>simp
   .rcases e1 with e1 | ⟨_,_,_,e1⟩<;>rw[e1]<;>simp
   .rcases e1 with e1 | ⟨_,_,_,e1⟩<;>rcases e2 with e2 | ⟨_,_,_,e2⟩<;>rw[e1,e2]<;>exact⟨fun e=>by subst e;rfl,fun e=>by subst e;rfl⟩
  .rename_i fs hu;exact agg (by simp[dE,hu]) hv
  .rename_i k0 e hu;exact agg (by simp[dE,hu]) hv
  .exact (dz hv).elim
 cases op
 case eql=>exact eqs ydz (.inl ⟨rfl,rfl⟩) (by simpa only[aW,ho] using hv)
 case neq=>exact eqs ydy (.inr ⟨rfl,rfl⟩) (by simpa only[aW,ho] using hv)
 all_goals exact plain (by simpa only[aW,ho] using hv)
end
end
section
open Go
section
variable {O:bC}{H:Hint}{m:Mp}{S:Nat->Prop}{w:yo}{tm:Env}{a:Act}{hp:Hp}{ct:Nat}
def Cx{o:xa}{b:Builtin}{args:Array xD}{ts:Array yF}(ho:o.op=.call {callee:=.builtin b,args:=args,argTypes:=ts}):
  ∃cs,(execOp a.eval o).run O.P w=(builtin b ts o.type cs (args.map a.eval)).run O.P w:=by
 exact⟨_,by simp only[execOp,ho,resolve,Sem.run_bind,Sem.run_pure,Result.andThen_ok,invoke];rfl⟩
def an0{o:xa}{c:Call}{k:Nat}{v:AV}(hH:fW O H)(ht:cg O m S w tm a.tmps)(hh:aT O m S w hp ct)(ho:o.op=.call c)(hv:bm tm hp (aW O.P H k o)=Gr v):Reads O m S w a o v:=by
 obtain⟨callee,args,ts⟩:=c;simp only[aW,ho] at hv
 split at hv
 .cases MZ:H.mode k<;>simp[MZ,bm] at hv
 .rename_i _ b
  split at hv
  .have key:∀{bb:Bool} {sz by':Nat} {x y:X},bm tm hp (bif bb then .ew sz by' x y else bad)=Gr v->False:=by
    intro bb sz by' x y h
    cases bb
    .exact dz h
    .simp [bm] at h
   split at hv
   .split at hv
    .exact (key hv).elim
    .exact (dz hv).elim
   .split at hv
    .exact (key hv).elim
    .exact (dz hv).elim
   .exact (dz hv).elim
  .rename_i x t fj sK;obtain⟨al⟩:=args;obtain⟨tl⟩:=ts;simp only at fj sK;subst fj;subst sK;obtain⟨cs,eW⟩:=Cx (O:=O) (w:=w) (a:=a) ho;have fin:(∃u,(Builtin.len_ #[t] o.type #[a.eval x]).run O.P w=.ok u w/\af O.ae m S w v u)->Reads O m S w a o v:=by
    rintro⟨u,h1,h2⟩;refine⟨u,?_,h2⟩;rw[eW];simp[builtin,h1]
   split at hv
   .rename_i n e hu;simp only[bm,aB,yc] at hv;subst hv;exact fin ⟨_,by simp[Builtin.len_,run_underlying hu];rfl,by simp[af,goInt]⟩
   .rename_i hu;simp only[bm] at hv;exact fin (VQ hh (ck hH ht x) (.inl ⟨rfl,hu⟩) hv)
   .rename_i e hu;simp only[bm] at hv;exact fin (VQ hh (ck hH ht x) (.inr (.inl ⟨rfl,e,hu⟩)) hv)
   .rename_i kt e hu;simp only[bm] at hv;exact fin (VQ hh (ck hH ht x) (.inr (.inr ⟨rfl,kt,e,hu⟩)) hv)
   .exact (dz hv).elim
  .split at hv
   .split at hv
    .simp [bm] at hv
    .exact (dz hv).elim
   .exact (dz hv).elim
  .simp only [bm] at hv;obtain⟨cs,eW⟩:=Cx (O:=O) (w:=w) (a:=a) ho;have hl:=EH hH ht args.toList
   cases hx:dM tm (jd H args.toList) with
   | nil=>simp[hx] at hv
   | cons c r=>
    simp only[hx] at hv;rw[hx] at hl;simp only[aE] at hl;obtain⟨u,us,h1,h2,h3⟩:=hl;obtain⟨q,h4,h5⟩:=Ve (O:=O) (g:=Builtin.min2) (fun va vb v x y hx hy h=>ar7 hx hy h) r us c v u h2 h3 hv;refine⟨q,?_,h5⟩;rw[eW];simp[builtin,Builtin.min_,h1,h4]
  .simp only [bm] at hv;obtain⟨cs,eW⟩:=Cx (O:=O) (w:=w) (a:=a) ho;have hl:=EH hH ht args.toList
   cases hx:dM tm (jd H args.toList) with
   | nil=>simp[hx] at hv
   | cons c r=>
    simp only[hx] at hv;rw[hx] at hl;simp only[aE] at hl;obtain⟨u,us,h1,h2,h3⟩:=hl;obtain⟨q,h4,h5⟩:=Ve (O:=O) (g:=Builtin.max2) (fun va vb v x y hx hy h=>ar8 hx hy h) r us c v u h2 h3 hv;refine⟨q,?_,h5⟩;rw[eW];simp[builtin,Builtin.max_,h1,h4]
  .rename_i ts' x fj;obtain⟨al⟩:=args;simp only at fj;subst fj;obtain⟨cs,eW⟩:=Cx (O:=O) (w:=w) (a:=a) ho;simp only[bm] at hv;have rx:=ck hH ht x;cases hx:aB tm (aP H x)<;>rw[hx] at hv rx<;>simp only[iv,reduceCtorEq,yc] at hv
   rename_i k0 p0 q0;subst hv;simp only[af] at rx;have e1:(#[x]:Array xD).map a.eval=#[Value.complex k0 p0 q0]:=by simp[rx]
   have e2:Builtin.real_ ts o.type #[Value.complex k0 p0 q0]=pure (.float k0 p0):=rfl;exact⟨.float k0 p0,by rw[eW,e1];simp[builtin,e2],by simp[af]⟩
  .rename_i ts' x fj;obtain⟨al⟩:=args;simp only at fj;subst fj;obtain⟨cs,eW⟩:=Cx (O:=O) (w:=w) (a:=a) ho;simp only[bm] at hv;have rx:=ck hH ht x;cases hx:aB tm (aP H x)<;>rw[hx] at hv rx<;>simp only[iv,reduceCtorEq,yc] at hv
   rename_i k0 p0 q0;subst hv;simp only[af] at rx;have e1:(#[x]:Array xD).map a.eval=#[Value.complex k0 p0 q0]:=by simp[rx]
   have e2:Builtin.imag_ ts o.type #[Value.complex k0 p0 q0]=pure (.float k0 q0):=rfl;exact⟨.float k0 q0,by rw[eW,e1];simp[builtin,e2],by simp[af]⟩
  .rename_i ts' x y fj;obtain⟨al⟩:=args;simp only at fj;subst fj;obtain⟨cs,eW⟩:=Cx (O:=O) (w:=w) (a:=a) ho;simp only[bm] at hv;have rx:=ck hH ht x;have ry:=ck hH ht y;cases hx:aB tm (aP H x)<;>cases hy:aB tm (aP H y)<;>rw[hx] at hv rx<;>rw[hy] at hv ry<;>simp only[age,reduceCtorEq] at hv
   rename_i k1 a1 k2 b1;simp only[af] at rx ry;by_cases hk:k1=k2
   .subst hk;simp only[xS,yc] at hv;subst hv;have e1:(#[x,y]:Array xD).map a.eval=#[Value.float k1 a1,Value.float k1 b1]:=by simp[rx,ry]
    have e2:Builtin.complex_ ts o.type #[Value.float k1 a1,Value.float k1 b1]=pure (.complex k1 a1 b1):=by
     show (if k1=k1 then _ else _)=_
     simp
    exact⟨.complex k1 a1 b1,by rw[eW,e1];simp[builtin,e2],by simp[af]⟩
   .simp [hk] at hv
  .exact (dz hv).elim
 .exact (dz hv).elim
def aet{o:xa}{k:Nat}{v:AV}(hH:fW O H)(ht:cg O m S w tm a.tmps)(hh:aT O m S w hp ct)(hv:bm tm hp (aW O.P H k o)=Gr v):Reads O m S w a o v:=by
 cases ho:o.op with
 | call c=>exact an0 hH ht hh ho hv
 | binOp op t x y ty=>exact apT hH ht ho hv
 | move x=>
  simp only[aW,ho,bm,yc] at hv;subst hv;exact⟨_,by simp only[execOp,ho,Sem.run_pure],ck hH ht x⟩
 | assign x=>
  simp only[aW,ho,bm,yc] at hv;subst hv;exact⟨_,by simp only[execOp,ho,Sem.run_pure],ck hH ht x⟩
 | pick c x y=>
  simp only[aW,ho,bm] at hv;have rc:=ck hH ht c;cases hc:aB tm (aP H c)<;>rw[hc] at hv<;>simp only[reduceCtorEq] at hv
  rename_i b;rw[hc] at rc;simp only[af] at rc;simp only[yc] at hv;subst hv
  cases b with
  | true=>exact⟨a.eval x,by simp[execOp,ho,rc,asBool],ck hH ht x⟩
  | false=>exact⟨a.eval y,by simp[execOp,ho,rc,asBool],ck hH ht y⟩
 | load t x=>
  simp only[aW,ho] at hv
  split at hv
  .rename_i s ag hz ha;simp only[bm] at hv;exact lk (by simp only[execOp,ho]) (ay2 hh hz ha (ck hH ht x) hv)
  .exact (dz hv).elim
 | fieldAddr t x i=>
  simp only[aW,ho] at hv
  split at hv
  .rename_i fs hu
   split at hv
   .rename_i f hf
    split at hv
    .rename_i s hz;simp only[bm] at hv;exact lk (by simp only[execOp,ho]) (auT hu hf hz (ck hH ht x) hv)
    .exact (dz hv).elim
   .exact (dz hv).elim
  .exact (dz hv).elim
 | field t x i=>
  simp only[aW,ho] at hv
  split at hv
  .rename_i fs hu
   split at hv
   .rename_i f hf
    split at hv
    .rename_i s ag hz ha;simp only[bm] at hv;exact lk (by simp only[execOp,ho]) (auU hu hf hz ha (ck hH ht x) hv)
    .exact (dz hv).elim
   .exact (dz hv).elim
  .exact (dz hv).elim
 | nilCheck x=>
  simp only[aW,ho,bm] at hv;have rx:=ck hH ht x;cases hx:aB tm (aP H x)<;>rw[hx] at hv rx<;>simp only[reduceCtorEq,yc] at hv
  .subst hv;have r':=rx;simp only[af] at r';obtain⟨p,_,e⟩:=r';exact⟨a.eval x,by simp only[execOp,ho,e,Sem.run_pure],rx⟩
  .subst hv;have r':=rx;simp only[af] at r';obtain⟨b,o',e,_⟩:=r';exact⟨a.eval x,by simp only[execOp,ho,e,Sem.run_pure],rx⟩
  .subst hv;rename_i f _ _
   cases f with
   | f g=>
    have r':=rx;simp only[af] at r';obtain⟨fi,ca,e,_⟩:=r';exact⟨a.eval x,by simp only[execOp,ho,e,Sem.run_pure],rx⟩
   | y l=>
    have r':=rx;simp only[af] at r';obtain⟨p,_,e⟩:=r';exact⟨a.eval x,by simp only[execOp,ho,e,Sem.run_pure],rx⟩
 | unOp op t x=>
  simp only[aW,ho,bm] at hv;exact lk (by simp only[execOp,ho]) (ar5 (ck hH ht x) hv)
 | convert s d x=>
  simp only[aW,ho] at hv
  split at hv
  .rename_i k1 k2 hs hd;simp only[bm] at hv;exact lk (by simp only[execOp,ho]) (ac7 hd (.inl ⟨_,hs⟩) (ck hH ht x) hv)
  .rename_i k1 k2 hs hd;simp only[bm] at hv;exact lk (by simp only[execOp,ho]) (ac7 hd (.inr ⟨_,hs⟩) (ck hH ht x) hv)
  .rename_i k1 k2 hs hd;simp only[bm] at hv;exact lk (by simp only[execOp,ho]) (ac8 hd (.inl ⟨_,hs⟩) (ck hH ht x) hv)
  .rename_i k1 k2 hs hd;simp only[bm] at hv;exact lk (by simp only[execOp,ho]) (ac8 hd (.inr ⟨_,hs⟩) (ck hH ht x) hv)
  .rename_i hs hd;simp only[bm] at hv;exact lk (by simp only[execOp,ho]) (apN hd hs (ck hH ht x) hv)
  .exact (dz hv).elim
 | makeFunc fn first cap=>
  cases fn with
  | func f=>
   simp only[aW,ho] at hv
   split at hv
   .rename_i g hg;simp only[bm,yc] at hv;subst hv;refine⟨.func (.func f) (first.map a.eval) (cap.map a.eval),by simp[execOp,ho,Instr.makeFunc],?_⟩;simp only[af];exact⟨_,_,by rw[hH f g hg],by simpa using EH hH ht first.toList,by simpa using EH hH ht cap.toList⟩
   .exact (dz hv).elim
  | _=>simp only[aW,ho] at hv;exact (dz hv).elim
 | slice t x lo hi mx=>
  cases mx with
  | some q=>simp only[aW,ho] at hv;exact (dz hv).elim
  | none=>
   simp only[aW,ho] at hv
   split at hv
   .rename_i hu;simp only[bm] at hv;exact lk (by simp only[execOp,ho];rfl) (anZ hH ht hu (ck hH ht x) hv)
   .rename_i e hu
    split at hv
    .rename_i s hz;simp only[bm] at hv;exact lk (by simp only[execOp,ho];rfl) (apO hH ht hu hz hh (ck hH ht x) hv)
    .exact (dz hv).elim
   .rename_i n e hu
    split at hv
    .rename_i s hz;simp only[bm] at hv;exact lk (by simp only[execOp,ho];rfl) (apP hH ht hu hz (ck hH ht x) hv)
    .exact (dz hv).elim
   .exact (dz hv).elim
 | indexAddr t x i=>
  simp only[aW,ho] at hv
  split at hv
  .rename_i e hu
   split at hv
   .rename_i s hz;simp only[bm] at hv
    cases hk:bT (aB tm (aP H i)) with
    | none=>simp[hk] at hv
    | some j=>
     simp only[hk] at hv;exact lk (by simp only[execOp,ho]) (auV hu hz (ck hH ht x) (ck hH ht i) hk hv)
   .exact (dz hv).elim
  .rename_i n e hu
   split at hv
   .rename_i s hz;simp only[bm] at hv
    cases hk:bT (aB tm (aP H i)) with
    | none=>simp[hk] at hv
    | some j=>
     simp only[hk] at hv;exact lk (by simp only[execOp,ho]) (auW hu hz (ck hH ht x) (ck hH ht i) hk hv)
   .exact (dz hv).elim
  .exact (dz hv).elim
 | index t x i=>
  simp only[aW,ho] at hv
  split at hv
  .rename_i hu;simp only[bm] at hv
   cases hk:bT (aB tm (aP H i)) with
   | none=>simp[hk] at hv
   | some j=>
    simp only[hk] at hv;exact lk (by simp only[execOp,ho]) (auY hu (ck hH ht x) (ck hH ht i) hk hv)
  .rename_i n e hu
   split at hv
   .rename_i s ag hz ha;simp only[bm] at hv
    cases hk:bT (aB tm (aP H i)) with
    | none=>simp[hk] at hv
    | some j=>
     simp only[hk] at hv;exact lk (by simp only[execOp,ho]) (auX hu hz ha (ck hH ht x) (ck hH ht i) hk hv)
   .exact (dz hv).elim
  .exact (dz hv).elim
 | lookup t x i ok=>
  simp only[aW,ho] at hv
  split at hv
  .rename_i kt e hu
   split at hv
   .rename_i kk z lK hz;simp only[bm] at hv
    cases hf:pV kk (aB tm (aP H i)) with
    | false=>simp[hf] at hv
    | true=>
     simp only[hf,yy] at hv;obtain⟨zv,nC,rfl⟩:=GJ (w:=w) hz
     cases hr:C9 hp (aB tm (aP H i)) (aB tm (aP H x)) with
     | none=>simp[hr] at hv
     | some r=>
      refine lk (by simp only[execOp,ho]) (auZ (ok:=ok) (r:=r) (z:=fg zv) hh hu lK hf nC (ck hH ht x) (ck hH ht i) (Pj zv) hr ?_);cases r<;>simpa[hr] using hv
   .exact (dz hv).elim
  .exact (dz hv).elim
 | extract x i=>
  simp only[aW,ho,bm] at hv;have rx:=ck hH ht x;cases hx:aB tm (aP H x)<;>rw[hx] at hv rx<;>simp only[reduceCtorEq] at hv
  simp only[af] at rx;obtain⟨xs,e,hr⟩:=rx;obtain⟨u,h1,h2⟩:=UI hr hv;refine⟨u,?_,h2⟩;have FT:xs[i]? =Gr u:=by simpa using h1
  simp[execOp,ho,e,Instr.extract,FT]
 | build t parts=>
  simp only[aW,ho] at hv
  split at hv
  .rename_i fs z hu hz
   split at hv
   .rename_i pl aAR;have dR:=run_places (P:=O.P) w fs.toList pl aAR
    split at hv
    case h_2=>exact (dz hv).elim
    rename_i ps iy;simp only[bm] at hv
    cases hf:fill tm z ps with
    | none=>simp[hf] at hv
    | some cs=>
     simp only[hf,yc] at hv;subst hv;obtain⟨zv,nC,lL⟩:=GJ (w:=w) hz;have B8:aE O.ae m S w z zv.cells.toList:=by
      have:=Gt (ae:=O.ae) (m:=m) (S:=S) (w:=w) zv
      rw[<-lL] at this;exact this
     obtain⟨out,h1,h2⟩:=Pm hH ht (place:=fun i=>pl[i]?) parts.toList ps z cs zv.cells iy B8 hf;refine⟨.agg out,?_,by simp only[af];exact⟨out,rfl,h2⟩⟩
     have hm:(Array.mapM (fun f=>Functor.map (Prod.mk f.offset) (vC f.type)) fs:Sem (Array (Nat×Nat))).run O.P w=.ok pl.toArray w:=by
      rw[Array.mapM_eq_mapM_toList];simp[dR]
     simp[execOp,ho,Instr.build,nC,run_underlying hu,hm,h1]
   .exact (dz hv).elim
  .rename_i n e z hu hz
   split at hv
   .rename_i s hs
    split at hv
    .rename_i ps iy;simp only[bm] at hv
     cases hf:fill tm z ps with
     | none=>simp[hf] at hv
     | some cs=>
      simp only[hf,yc] at hv;subst hv;obtain⟨zv,nC,lL⟩:=GJ (w:=w) hz;have B8:aE O.ae m S w z zv.cells.toList:=by
       have:=Gt (ae:=O.ae) (m:=m) (S:=S) (w:=w) zv
       rw[<-lL] at this;exact this
      obtain⟨out,h1,h2⟩:=Pm hH ht (place:=fun i=>Gr (i*s,s)) parts.toList ps z cs zv.cells iy B8 hf;refine⟨.agg out,?_,by simp only[af];exact⟨out,rfl,h2⟩⟩
      simp[execOp,ho,Instr.build,nC,run_underlying hu,pO hs,h1]
    .exact (dz hv).elim
   .exact (dz hv).elim
  .exact (dz hv).elim
 | alloc t=>simp only[aW,ho] at hv;split at hv<;>simp[bm,bad] at hv
 | box t x=>simp only[aW,ho] at hv;split at hv<;>simp[bm,bad] at hv
 | buildSlice t n parts=>
  simp only[aW,ho] at hv
  split at hv
  .split at hv
   .rename_i s z _ _
    cases hc:yJ (n*s) 16777216 with
    | false=>rw[hc] at hv;exact (dz hv).elim
    | true=>
     rw[hc] at hv;simp only[yy] at hv
     split at hv
     .simp [bm] at hv
     .exact (dz hv).elim
   .exact (dz hv).elim
  .exact (dz hv).elim
 | makeMap t r=>
  cases r<;>simp only[aW,ho] at hv
  .repeat' split at hv
   all_goals simp[bm,bad] at hv
  .exact (dz hv).elim
 | makeSlice t l c=>
  simp only[aW,ho] at hv
  repeat' split at hv
  all_goals simp[bm,bad] at hv
 | insert t x k y=>
  simp only[aW,ho] at hv
  repeat' split at hv
  all_goals simp[bm,bad] at hv
 | mapUpdate t x k y=>
  simp only[aW,ho] at hv
  repeat' split at hv
  all_goals simp[bm,bad] at hv
 | store t x y=>simp only[aW,ho] at hv;split at hv<;>simp[bm,bad] at hv
 | range t x=>simp only[aW,ho] at hv;split at hv<;>simp[bm,bad] at hv
 | next x b=>cases b<;>simp[aW,ho,bm,bad] at hv
 | _=>simp[aW,ho,bm,bad] at hv
end
end
section
open Go
def gi(m:Mp)(id:Nat)(p:Pl):Mp:=fun i=>if i=id then Gr p else m i
def ek{m:Mp}{id:Nat}{p:Pl}:gi m id p id=Gr p:=by simp[gi]
def eN{m:Mp}{id i:Nat}{p:Pl}(h:i≠id):gi m id p i=m i:=by simp[gi,h]
section
variable {O:bC}{m:Mp}{S:Nat->Prop}{w:yo}{hp:Hp}{ct:Nat}
def dI(m m':Mp):Prop:=∀id p,m id=Gr p->m' id=Gr p
def dI.refl{m:Mp}:dI m m:=fun _ _ h=>h
def dI.trans{m m' MX:Mp}(h:dI m m')(k:dI m' MX):dI m MX:=fun id p hp=>k id p (h id p hp)
def lS{i:Nat}(h:m i=Gs){p:Pl}:dI m (gi m i p):=by
 intro id q hq;rw[eN]
 .grind
 .grind
def CF{tm:Env}{tmps:Array yj}{m':Mp}{w':yo}(hm:∀id p,m id=Gr p->m' id=Gr p)(hS:∀b,S b->S' b)(hw:gX S w w')(h:cg O m S w tm tmps):cg O m' S' w' tm tmps:=fun i=>nN hm hS hw _ _ (h i)
def alloc_old{o:yaB}{b:Nat}(hb:b<w.heap.size):(w.alloc o).heap[b]? =w.heap[b]? :=RowKit.Below.heap_alloc w o b hb
def Al{m':Mp}{w':yo}{id:Nat}{o:Obj}(hm:∀id p,m id=Gr p->m' id=Gr p)(hS:∀b,S b->S' b)(hw:gX S w w')(hb:∀p,m id=Gr p->w'.heap[p.b]? =w.heap[p.b]?)(hn:∀p,m id=Gr p->S' p.b->S p.b)(h:gh O m S w id o):gh O m' S' w' id o:=by
 have rowAt:∀(cs:List AV) (b k:Nat),w'.heap[b]? =w.heap[b]? ->cd O.ae m S w cs b k->cd O.ae m' S' w' cs b k:=by
  intro cs
  induction cs with
  | nil=>intro b k _ _;simp only[cd]
  | cons c cs ih=>
   intro b k A4 hr;have⟨⟨u,h1,h2⟩,h3⟩:=hr;exact⟨⟨u,(N5 A4).trans h1,nN hm hS hw _ _ h2⟩,ih b (k+1) A4 h3⟩
 cases o with
 | cells rw pu ex sz cs=>
  have⟨p,arr,t,h1,h2,h3,h4,h5,h6,h7,h8,h9,jo⟩:=h;exact⟨p,arr,t,hm _ _ h1,(hb p h1).trans h2,h3,h4,h5,h6,rowAt cs p.b p.o (hb p h1) h7,h8,fun hr hs=>h9 hr (hn p h1 hs),fun hr=>hS _ (jo hr)⟩
 | mp rw ks vs=>
  have⟨p,es,clock,h1,h2,h3,h4,h5,h6⟩:=h;exact⟨p,es,clock,hm _ _ h1,(hb p h1).trans h2,jt hm hS hw _ _ h3,jt hm hS hw _ _ h4,fun hr hs=>h5 hr (hn p h1 hs),fun hr=>hS _ (h6 hr)⟩
 | si s pos=>
  have⟨p,t,h1,h2,h3,h4⟩:=h;exact⟨p,t,hm _ _ h1,(hb p h1).trans h2,h3,fun hs=>h4 (hn p h1 hs)⟩
 | lp tm ps as_ body st pe=>
  have⟨p,l,hi,h1,h2,h3,h4,h5,h6,h7,h8⟩:=h;exact⟨p,l,hi,hm _ _ h1,(hb p h1).trans h2,fun hs=>h3 (hn p h1 hs),h4,h5,h6,CF hm hS hw h7,h8⟩
def iG{id i:Nat}{o:Obj}:ak ((id,o)::hp) i=if id=i then Gr o else ak hp i:=by
 simp only[ak]
 simp_all
def JP(hh:aT O m S w hp ct)(g:yaB):gX S w (w.alloc g):=fun b hb=>alloc_old (hh.slt b hb)
def kh:Obj->Obj->Prop
 | .cells rw pu ex sz cs,o'=>∃cf,o'=.cells cf pu ex sz cs/\(cf=ydy->rw=ydy)
 | .mp rw ks vs,o'=>∃cf,o'=.mp cf ks vs/\(cf=ydy->rw=ydy)
 | .si s pos,o'=>o'=.si s pos
 | .lp tm ps as_ body st pe,o'=>o'=.lp tm ps as_ body st pe
def kh.refl:∀o,kh o o
 | .cells rw _ _ _ _=>⟨rw,rfl,fun h=>h⟩
 | .mp rw _ _=>⟨rw,rfl,fun h=>h⟩
 | .si _ _=>rfl
 | .lp _ _ _ _ _ _=>rfl
def kh.trans{a b c:Obj}(h:kh a b)(k:kh b c):kh a c:=by
 cases a with
 | cells rw pu ex sz cs=>
  obtain⟨r1,rfl,h1⟩:=h;obtain⟨r2,rfl,h2⟩:=k;exact⟨r2,rfl,fun h=>h1 (h2 h)⟩
 | mp rw ks vs=>
  obtain⟨r1,rfl,h1⟩:=h;obtain⟨r2,rfl,h2⟩:=k;exact⟨r2,rfl,fun h=>h1 (h2 h)⟩
 | si s pos=>simp only[kh] at h;subst h;exact k
 | lp tm ps as_ body st pe=>simp only[kh] at h;subst h;exact k
def dd(hp ap:Hp):Prop:=∀id o,ak hp id=Gr o->∃o',ak ap id=Gr o'/\kh o o'
def dd.refl{hp:Hp}:dd hp hp:=fun _ o h=>⟨o,h,kh.refl o⟩
def dd.trans{a b c:Hp}(h:dd a b)(k:dd b c):dd a c:=fun id o ho=>
 let ⟨o1,h1,l1⟩:=h id o ho
 let ⟨o2,h2,l2⟩:=k id o1 h1
 ⟨o2,h2,l1.trans l2⟩
def kM:Obj->Prop
 | .cells rw _ _ _ _=>rw=ydz
 | .mp rw _ _=>rw=ydz
 | _=>False
def aeu{ap:Hp}(hh:aT O m S w hp ct)(hl:dd hp ap)(hd:∀id o p,ak ap id=Gr o->m id=Gr p->∃o',ak hp id=Gr o')(iS:ct<=aO)(aAS:∀id o,ak ap id=Gr o->id<aO):
  ∃S',aT O m S' w ap aO/\(∀b,S b->S' b)/\∀b,S' b->S b\/eH m hp b:=by
 refine⟨fun b=>S b\/∃id p o,m id=Gr p/\p.b=b/\ak ap id=Gr o/\kM o,?_,fun b h=>.inl h,?_⟩
 .refine ⟨?_,fun id p h=>yI (hh.lt id p h) iS,?_,?_,hh.blt,hh.low,hh.nf,hh.gZ,aAS⟩
  .intro id o' p mL hm;have⟨o,ho⟩:=hd id o' p mL hm;have⟨o'',h1,h2⟩:=hl id o ho;rw[mL] at h1;injection h1 with h1
   subst h1;have h3:=hh.obj id o p ho hm;have hS:∀b,S b->(S b\/∃id p o,m id=Gr p/\p.b=b/\ak ap id=Gr o/\kM o):=fun b h=>.inl h
   have cL:∀q,m id=Gr q->(∃id p o,m id=Gr p/\p.b=q.b/\ak ap id=Gr o/\kM o)->kM o':=by
    rintro q hq ⟨j,pj,oj,FU,hj2,hj3,hj4⟩;have⟨M0,hj5⟩:=hd j oj pj hj3 FU
    have:=hh.inj id j o M0 q pj ho hj5 hq FU hj2.symm
    grind
   have aM:gX S w w:=fun _ _=>rfl
   cases o with
   | cells rw pu ex sz cs=>
    obtain⟨cf,rfl,qW⟩:=h2;have⟨q,arr,t,h1,h2,h3,h4,h5,h6,h7,h8,h9,jo⟩:=h3;refine⟨q,arr,t,h1,h2,h3,h4,h5,h6,?_,h8,?_,?_⟩
    .clear h4 h6 h8;revert h7;generalize q.o=k
     induction cs generalizing k with
     | nil=>intro _;simp only[cd]
     | cons c cs ih=>
      intro hr;simp only[cd] at hr ⊢;have⟨⟨u,g1,g2⟩,g3⟩:=hr
      exact⟨⟨u,g1,nN (fun _ _ h=>h) hS aM _ _ g2⟩,by
       have jm:∀(cs:List AV) (b k:Nat),cd O.ae m S w cs b k->cd O.ae m (fun b=>S b\/∃id p o,m id=Gr p/\p.b=b/\ak ap id=Gr o/\kM o) w cs b k:=by
        intro cs
        induction cs with
        | nil=>intro b k _;simp only[cd]
        | cons c cs ih=>
         intro b k hr;simp only[cd] at hr ⊢;have⟨⟨u,g1,g2⟩,g3⟩:=hr;exact⟨⟨u,g1,nN (fun _ _ h=>h) hS aM _ _ g2⟩,ih b (k+1) g3⟩
       exact jm _ _ _ g3⟩
    .rintro hr (hs | hs)
     .grind
     .have:=cL q h1 hs
      simp only[kM] at this
      grind
    .intro hr;exact .inr ⟨id,q,_,h1,rfl,mL,hr⟩
   | mp rw ks vs=>
    obtain⟨cf,rfl,qW⟩:=h2;have⟨q,es,clock,h1,h2,h3,h4,h5,h6⟩:=h3;refine⟨q,es,clock,h1,h2,jt (fun _ _ h=>h) hS aM _ _ h3,jt (fun _ _ h=>h) hS aM _ _ h4,?_,?_⟩
    .rintro hr (hs | hs)
     .grind
     .have:=cL q h1 hs
      simp only[kM] at this
      grind
    .intro hr;exact .inr ⟨id,q,_,h1,rfl,mL,hr⟩
   | si s pos=>
    simp only[kh] at h2;subst h2;refine Al (fun _ _ h=>h) hS aM (fun _ _=>rfl) (fun q hq hs=>?_) h3;rcases hs with hs | hs
    .grind
    .exact (cL q hq hs).elim
   | lp tm ps as_ body st pe=>
    simp only[kh] at h2;subst h2;refine Al (fun _ _ h=>h) hS aM (fun _ _=>rfl) (fun q hq hs=>?_) h3;rcases hs with hs | hs
    .grind
    .exact (cL q hq hs).elim
  .intro i j oi oj pi pj hi hj bL iz e;have⟨M1,da⟩:=hd i oi pi hi bL;have⟨M0,Ze⟩:=hd j oj pj hj iz;exact hh.inj i j M1 M0 pi pj da Ze bL iz e
  .rintro b (hb | ⟨id,p,o,h1,rfl,_,_⟩)
   .exact hh.slt b hb
   .exact hh.blt id p h1
 .rintro b (hb | ⟨id,p,o,h1,rfl,h3,_⟩)
  .exact .inl hb
  .have ⟨o',mL⟩:=hd id o p h3 h1;exact .inr ⟨id,o',p,mL,h1,rfl⟩
def ac9{i:Nat}(hh:aT O m S w hp ct)(hi:m i=Gs)(Ip:i<ct){g:yaB}{p:Pl}(hb:p.b=w.heap.size)(hf:∀o,ak hp i=Gr o->(gh O (gi m i p) S (w.alloc g) i o/\¬kM o)\/
   (kM o/\gh O (gi m i p) (fun b=>S b\/b=w.heap.size) (w.alloc g) i o)):
  ∃S',aT O (gi m i p) S' (w.alloc g) hp ct/\(∀b,S b->S' b)/\∀b,S' b->S b\/b=w.heap.size:=by
 have eS:(w.alloc g).heap.size=w.heap.size+1:=by simp
 have aZ:O.w0.heap.size<=w.heap.size:=hh.gZ;have gen:∀S':Nat->Prop,(∀b,S b->S' b)->(∀b,S' b->S b\/b=w.heap.size)->(∀o,ak hp i=Gr o->gh O (gi m i p) S' (w.alloc g) i o)->aT O (gi m i p) S' (w.alloc g) hp ct:=by
  intro S' h1 h2 h3;have M3:∀id q,m id=Gr q->¬q.b=w.heap.size:=fun id q hq=>by have:=hh.blt id q hq;lia
  refine⟨?_,?_,?_,?_,?_,?_,?_,?_,hh.aG⟩
  .intro id o q ho hm;by_cases hc:id=i
   .grind
   .rw [eN hc] at hm;refine Al (lS hi) h1 (JP hh g) (fun q' bI=>alloc_old (hh.blt id q' bI)) (fun q' bI hs=>?_) (hh.obj id o q ho hm)
    grind
  .intro id q hm;by_cases hc:id=i
   .grind
   .rw [eN hc] at hm;exact hh.lt id q hm
  .intro a b oa ob pa pb ha bE FV BP e;by_cases ca:a=i
   .by_cases cb:b=i
    .grind
    .subst ca;rw[ek] at FV;rw[eN cb] at BP
     grind
   .rw [eN ca] at FV;by_cases cb:b=i
    .subst cb;rw[ek] at BP
     grind
    .rw [eN cb] at BP;exact hh.inj a b oa ob pa pb ha bE FV BP e
  .intro b hs;rcases h2 b hs with h | h
   .have:=hh.slt b h;lia
   .lia
  .intro id q hm;by_cases hc:id=i
   .subst hc;rw[ek] at hm
    grind
   .rw [eN hc] at hm
    have:=hh.blt id q hm
    lia
  .intro id q hm;by_cases hc:id=i
   .subst hc;rw[ek] at hm
    grind
   .rw [eN hc] at hm;exact hh.low id q hm
  .intro b A4;exact (alloc_old (by lia)).trans (hh.nf b A4)
  .lia
 cases ho:ak hp i with
 | none=>exact⟨S,gen S (fun _ h=>h) (fun _ h=>.inl h) (fun o h=>by rw[ho] at h;cases h),fun _ h=>h,fun _ h=>.inl h⟩
 | some o=>
  rcases hf o ho with ⟨h1,_⟩ | ⟨_,h1⟩
  .exact ⟨S,gen S (fun _ h=>h) (fun _ h=>.inl h) (fun o' h=>by rw[ho] at h;injection h with h;subst h;exact h1),fun _ h=>h,fun _ h=>.inl h⟩
  .exact ⟨_,gen (fun b=>S b\/b=w.heap.size) (fun _ h=>.inl h) (fun _ h=>h) (fun o' h=>by rw[ho] at h;injection h with h;subst h;exact h1),fun _ h=>.inl h,fun _ h=>h⟩
def aa6{id:Nat}{o o':Obj}{p:Pl}(hl:kh o o')(hm:m id=Gr p)(h:gh O m S w id o)(hn:¬kM o):
  (gh O m S w id o'/\¬kM o')\/(kM o'/\gh O m (fun b=>S b\/b=p.b) w id o'):=by
 have hS:∀b,S b->(S b\/b=p.b):=fun _ h=>.inl h
 have aM:gX S w w:=fun _ _=>rfl
 cases o with
 | cells rw pu ex sz cs=>
  obtain⟨cf,rfl,qW⟩:=hl
  cases cf with
  | true=>
   grind
  | false=>
   refine .inr ⟨rfl,?_⟩;have⟨q,arr,t,h1,h2,h3,h4,h5,h6,h7,h8,h9,jo⟩:=h;rw[hm] at h1;injection h1 with h1
   subst h1;have jm:∀(cs:List AV) (b k:Nat),cd O.ae m S w cs b k->cd O.ae m (fun b=>S b\/b=p.b) w cs b k:=by
    intro cs
    induction cs with
    | nil=>intro b k _;simp only[cd]
    | cons c cs ih=>
     intro b k hr;have⟨⟨u,g1,g2⟩,g3⟩:=hr;exact⟨⟨u,g1,nN (fun _ _ h=>h) hS aM _ _ g2⟩,ih b (k+1) g3⟩
   exact⟨p,arr,t,hm,h2,h3,h4,h5,h6,jm _ _ _ h7,h8,by simp,fun _=>.inr rfl⟩
 | mp rw ks vs=>
  obtain⟨cf,rfl,qW⟩:=hl
  cases cf with
  | true=>
   grind
  | false=>
   refine .inr ⟨rfl,?_⟩;have⟨q,es,clock,h1,h2,h3,h4,h5,h6⟩:=h;rw[hm] at h1;injection h1 with h1
   subst h1;exact⟨p,es,clock,hm,h2,jt (fun _ _ h=>h) hS aM _ _ h3,jt (fun _ _ h=>h) hS aM _ _ h4,by simp,fun _=>.inr rfl⟩
 | si s pos=>simp only[kh] at hl;subst hl;exact .inl ⟨h,hn⟩
 | lp tm ps as_ body st pe=>simp only[kh] at hl;subst hl;exact .inl ⟨h,hn⟩
end
end
section
open Go
section
variable {v:AV}{arr:Array yj}{cs:List AV}{sz:Nat}{b:Obj}
section
variable {O:bC}{H:Hint}{m:Mp}{S:Nat->Prop}{w:yo}{tm:Env}{a:Act}{hp:Hp}{ct cq:Nat}
def Ui{ae:Nat->Nat}{b:Nat}{arr:Array yj}{t:yF}{fr:Nat×Nat}(hb:w.heap[b]? =Gr (.cells arr t fr)):∀(cs:List AV) (us:List yj) (o:Nat),
  aE ae m S w cs us->(∀(j:Nat) (u:yj),us[j]? =Gr u->arr[o+j]? =Gr u)->cd ae m S w cs b o
 | [],us,o,_,_=>by simp only[cd]
 | c::cs,us,o,h,hu=>by
  simp only[aE] at h;obtain⟨u,r,rfl,h2,h3⟩:=h;simp only[cd];refine⟨⟨u,?_,h2⟩,Ui hb cs r (o+1) h3 (fun j v hv=>?_)⟩
  .have:=hu 0 u (by simp)
   simpa[World.cell?,hb] using this
  .have:=hu (j+1) v (by simpa using hv)
   rw[show o+1+j=o+(j+1) by lia];exact this
def ar9(hh:aT O m S w hp cq){i:Nat}{t:yF}{us:List yj}{pu ex:Bool}(hr:aE O.ae m S w cs us)(hu:∀(j:Nat) (u:yj),us[j]? =Gr u->arr[j]? =Gr u)(hl:cs.length<=arr.size)(hex:ex=ydy->cs.length=arr.size)(jl:pu=ydy->aH cs=ydy)(m':Mp)(hm:dI m m')(hi:m' i=Gr ⟨w.heap.size,0,arr.size,sz⟩):gh O m' S (w.alloc (.cells arr t)) i (.cells ydy pu ex sz cs):=by
 refine⟨⟨w.heap.size,0,arr.size,sz⟩,arr,t,hi,heap_alloc_new w _,rfl,hl,by simp,hex,?_,jl,?_,by simp⟩
 .exact Ui (heap_alloc_new w _) cs us 0 (jt hm (fun _ h=>h) (JP hh _) _ _ hr) (by simpa using hu)
 .intro _ hS
  have:=hh.slt _ hS
  simp at this
def E8(O:bC)(m:Mp)(S:Nat->Prop)(w:yo)(a:Act)(ct:Nat)(o:xa)(v:AV)(b:Obj):Prop:=
 ∃u g p,(execOp a.eval o).run O.P w=.ok (.value u) (w.alloc g)/\p.b=w.heap.size/\¬kM b/\
  ∀m',dI m m'->m' ct=Gr p->gh O m' S (w.alloc g) ct b/\af O.ae m' S (w.alloc g) v u
def Uj{o:xa}{t:yF}{us:List yj}{pu ex:Bool}{u:yj}(hh:aT O m S w hp cq)(he:(execOp a.eval o).run O.P w=.ok (.value u) (w.alloc (.cells arr t)))(hr:aE O.ae m S w cs us)(hu:∀(j:Nat) (u:yj),us[j]? =Gr u->arr[j]? =Gr u)(hl:cs.length<=arr.size)(hex:ex=ydy->cs.length=arr.size)(jl:pu=ydy->aH cs=ydy)(hv:∀m':Mp,m' ct=Gr ⟨w.heap.size,0,arr.size,sz⟩->af O.ae m' S (w.alloc (.cells arr t)) v u):E8 O m S w a ct o v (.cells ydy pu ex sz cs):=
 ⟨u,_,⟨w.heap.size,0,arr.size,sz⟩,he,rfl,by simp[kM],fun m' hm hi=>⟨ar9 hh hr hu hl hex jl m' hm hi,hv m' hi⟩⟩
def ada{o:xa}{t:yF}{x:yj}{vx:AV}(hh:aT O m S w hp cq)(he:(execOp a.eval o).run O.P w=.ok (.value (.pointer (Gr ⟨w.heap.size,0,Gs⟩))) (w.alloc (.cells x.cells t)))(hx:aE O.ae m S w (cellsOf vx) x.cells.toList)(hv:(bif yt (cellsOf vx).length sz&&b9 (cellsOf vx) then Gr (AV.ptr ct 0,Obj.cells ydy (aH (cellsOf vx)) ydy sz (cellsOf vx)) else Gs)=Gr (v,b)):E8 O m S w a ct o v b:=by
 cases hc:(yt (cellsOf vx).length sz&&b9 (cellsOf vx)) with
 | false=>rw[hc] at hv;cases hv
 | true=>
  rw[hc] at hv;obtain⟨rfl,rfl⟩:=hv;have hlen:=jE _ _ hx;refine Uj hh he hx (fun j u hj=>by simpa using hj) (by rw[<-hlen];simp) (fun _=>by rw[<-hlen];simp) (fun h=>h) (fun m' hi=>?_)
  simp only[af];exact⟨_,hi,by simp⟩
def apU{o:xa}{t:yF}{r:Option xD}(hh:aT O m S w hp cq)(ho:o.op=.makeMap t r)(hr:r=Gs):E8 O m S w a ct o (.map ct) (.mp ydy [] []):=by
 subst hr;refine⟨.map (Gr w.heap.size),.map #[] 0,⟨w.heap.size,0,0,0⟩,by simp[execOp,ho,Instr.makeMap],rfl,by simp[kM],fun m' _ hi=>⟨?_,?_⟩⟩
 .refine ⟨_,#[],0,hi,heap_alloc_new w _,by simp[aE],by simp[aE],?_,by simp⟩;intro _ hS
  have:=hh.slt _ hS
  simp at this
 .simp only [af];exact⟨_,hi,rfl⟩
def an1{o:xa}{t:yF}{x:xD}{s:List Nat}(hh:aT O m S w hp cq)(ho:o.op=.range t x)(hu:O.P.underlying t=Gr .string)(hx:af O.ae m S w (.str s) (a.eval x)):
  E8 O m S w a ct o (.it ct) (.si s 0):=by
 obtain⟨b,e,rfl⟩:=hx;refine⟨.pointer (Gr ⟨w.heap.size,0,Gs⟩),.stringIter b 0,⟨w.heap.size,0,0,0⟩,by simp[execOp,ho,Instr.range,run_underlying hu,e],rfl,by simp[kM],fun m' _ hi=>⟨?_,?_⟩⟩
 .refine ⟨_,b,hi,heap_alloc_new w _,rfl,?_⟩;intro hS
  have:=hh.slt _ hS
  simp at this
 .simp only [af];exact⟨_,hi,rfl⟩
end
def an2(zero:Array yj):(wR zero.size).map (fun j=>zero[j]!)=zero.toList:=by
 apply List.ext_getElem
 .simp
 .grind
def abw(zero:Array yj):∀n:Nat,(wR (n*zero.size)).map (fun i=>zero[i%zero.size]!)=(yk n zero.toList).flatten
 | 0=>by simp
 | n+1=>by
  rw[we,yah,List.range_add,List.map_append,abw zero n,List.replicate_succ',ybr]
  congr 1
  simp only[List.map_map,tr,List.flatten_nil,List.append_nil];rw[<-an2 zero];apply List.map_congr_left;intro j hj;simp at hj;simp[Function.comp,xg n,Nat.mod_eq_of_lt hj]
def UK{ae:Nat->Nat}{m:Mp}{S:Nat->Prop}{w:yo}{cs:List AV}{us:List yj}(h:aE ae m S w cs us):∀n,aE ae m S w (yk n cs).flatten (yk n us).flatten
 | 0=>by simp[aE]
 | n+1=>by rw[wQ,wQ,tr,tr];exact nK h (UK h n)
section
variable {O:bC}{H:Hint}{m:Mp}{S:Nat->Prop}{w:yo}{tm:Env}{a:Act}{hp:Hp}{ct cq:Nat}
def acg(zero:Array yj)(n:Nat):(Array.map (fun i=>zero[i%zero.size]!) (tR (n*zero.size))).toList=(yk n zero.toList).flatten:=by
 rw[<-abw zero n]
 simp
def adb(tm:Env):∀(ps:List (Nat×Nat×X)) (zero cs:List AV),fill tm zero ps=Gr cs->cs.length=zero.length
 | [],zero,cs,h=>by simp only[fill,yc] at h;rw[h]
 | (o,sz,x)::r,zero,cs,h=>by
  simp only[fill] at h
  cases hc:(yt (cellsOf (aB tm x)).length sz&&yJ (o+sz) zero.length&&b9 (cellsOf (aB tm x))) with
  | false=>rw[hc] at h;cases h
  | true=>
   rw[hc] at h;simp only[yf] at hc;have h1:=yi hc.1.1;have h2:=yA hc.1.2;rw[adb tm r _ _ h];simp only[over,yW,yP,wh]
   lia
def OR{α:Type}(l:List α):∀n,(yk n l).flatten.length=n*l.length
 | 0=>by simp
 | n+1=>by simp[wQ,OR l n,we,Nat.add_comm]
def an3{o:xa}{t e:yF}{n s:Nat}{z:AV}{parts:Array (Nat×xD)}{ps:List (Nat×Nat×X)}(hH:fW O H)(ht:cg O m S w tm a.tmps)(hh:aT O m S w hp cq)(ho:o.op=.buildSlice t n parts)(hu:O.P.underlying t=Gr (.slice e))(hs:cC O.P e=Gr s)(hz:oY O.P e=Gr z)(hn:n*s<=16777216)(iy:partsOf H (fun i=>Gr (i*s,s)) parts.toList=Gr ps)(hv:cM tm hp ct (.kQ n s (yk n (cellsOf z)).flatten ps)=Gr (v,b)):E8 O m S w a ct o v b:=by
 simp only[cM] at hv
 cases hf:fill tm (yk n (cellsOf z)).flatten ps with
 | none=>simp[hf] at hv
 | some cs=>
  simp only[hf] at hv
  cases hc:yt cs.length (n*s) with
  | false=>rw[hc] at hv;cases hv
  | true=>
   rw[hc] at hv;simp only[yy,yc,yr] at hv;obtain⟨rfl,rfl⟩:=hv;have hlen:=yi hc;obtain⟨zv,nC,rfl⟩:=GJ (w:=w) hz;have B8:aE O.ae m S w (cellsOf (fg zv)) zv.cells.toList:=Gt zv;have B9:=jE _ _ B8;have mN:=adb tm ps _ _ hf;rw[OR] at mN;have Iq:n*s=n*zv.cells.size:=by
    rw[<-hlen,mN,<-B9];simp
   have key:∃zr:Array yj,(n*s=0->zr=#[])/\(n*s≠0->zr=zv.cells)/\aE O.ae m S w (yk n (cellsOf (fg zv))).flatten ((tR (n*s)).map (fun x=>zr[x%zr.size]!)).toList:=by
    by_cases h0:n*s=0
    .refine ⟨#[],fun _=>rfl,fun h=>(h h0).elim,?_⟩
     have:(yk n (cellsOf (fg zv))).flatten=[]:=by
      apply yD;rw[OR,<-B9];simp only[vH]
      lia
     rw[this];simp[aE,h0]
    .refine ⟨zv.cells,fun h=>(h0 h).elim,fun _=>rfl,?_⟩;rw[Iq,acg];exact UK B8 n
   have⟨zr,DK,ie,iA⟩:=key;have⟨out,h1,h2⟩:=Pm hH ht (place:=fun i=>Gr (i*s,s)) parts.toList ps _ cs _ iy iA hf;have mM:=jE _ _ h2
   refine Uj (arr:=out) (t:=e) (us:=out.toList) hh ?_ h2 (fun j u hj=>by simpa using hj) (by rw[<-mM];simp) (fun _=>by rw[<-mM];simp) (fun h=>h) (u:=.slice (Gr ⟨w.heap.size,0,Gs⟩) n n) ?_
   .have dZ:¬(n*s>2^24):=by lia
    by_cases h0:n*s=0
    .have:=DK h0
     subst this;simp only[h0] at h1;simp[execOp,ho,Instr.buildSlice,run_underlying hu,pO hs,h0,newRow] at h1 ⊢;simp[h1]
    .have:=ie h0
     subst this;simp[execOp,ho,Instr.buildSlice,run_underlying hu,pO hs,h0,dZ,nC,newRow] at h1 ⊢;simp[h1]
   .intro m' hi;simp only[af];refine⟨_,n,hi,by simp,yx _,?_⟩;simp only[ye];rw[<-hlen,<-mM];simp
def Gu:∀{a b:List AV},aH a=ydy->aH b=ydy->aH (a++b)=ydy
 | [],_,_,h=>h
 | c::r,b,h,k=>by
  simp only[aH,yf] at h;simp only[xe,aH,yf];exact⟨h.1,Gu h.2 k⟩
def ach{z:List AV}(h:aH z=ydy):∀n,aH (yk n z).flatten=ydy
 | 0=>by simp[aH]
 | n+1=>by rw[wQ,tr];exact Gu h (ach h n)
def apV{o:xa}{t e:yF}{s:Nat}{z:AV}{l c:xD}(hH:fW O H)(ht:cg O m S w tm a.tmps)(hh:aT O m S w hp cq)(ho:o.op=.makeSlice t l c)(hu:O.P.underlying t=Gr (.slice e))(hs:cC O.P e=Gr s)(hb:DG O.P e=Gr by')(hz:oY O.P e=Gr z)(hv:cM tm hp ct (.qP s by' (cellsOf z) (aP H l) (aP H c))=Gr (v,b)):E8 O m S w a ct o v b:=by
 simp only[cM] at hv
 cases hl:bT (aB tm (aP H l)) with
 | none=>simp[hl] at hv
 | some ln=>
  cases hc:bT (aB tm (aP H c)) with
  | none=>simp[hl,hc] at hv
  | some cn=>
   simp only[hl,hc] at hv
   cases hk:(yJ ln cn&&(yJ cn room&&(yJ (cn*by') room&&(yt (cellsOf z).length s&&b9 (cellsOf z))))) with
   | false=>rw[hk] at hv;cases hv
   | true=>
    rw[hk] at hv;simp only[yy,yc,yr] at hv;obtain⟨rfl,rfl⟩:=hv;simp only[yf] at hk;have h1:=yA hk.1;have h2:=yA hk.2.1;have h3:=yA hk.2.2.1;have h4:=yi hk.2.2.2.1;simp only[room] at h2 h3;have⟨kl,el⟩:=Bu (ck hH ht l) hl;have⟨kc,ec⟩:=Bu (ck hH ht c) hc;obtain⟨zv,nC,rfl⟩:=GJ (w:=w) hz;have B8:aE O.ae m S w (cellsOf (fg zv)) zv.cells.toList:=Gt zv;have B9:=jE _ _ B8;have M4:zv.cells.size=s:=by rw[<-h4,<-B9];simp
    have wrapN:∀k:Nat,k<=1099511627776->IntKind.i64.wrap (k:Int)=k:=fun k hk=>IntWalk.i64_in _ (by lia)
    obtain⟨ti,Ca,eS,Zf⟩:∃ti,O.P.info? e=Gr ti/\ti.size=s/\ti.bytes=by':=by
     unfold cC at hs;unfold DG at hb
     cases hi:O.P.info? e with
     | none=>simp[hi] at hs
     | some ti=>simp only[hi,yc] at hs hb;exact⟨ti,rfl,hs,hb⟩
    have Fj:((tR (cn*s)).map (zv.cells[·%zv.cells.size]!)).toList=(yk ln zv.cells.toList).flatten++(yk (cn-ln) zv.cells.toList).flatten:=by
     rw[<-M4,acg,<-ybr,List.replicate_append_replicate]
     grind
    have dX:(yk ln (cellsOf (fg zv))).flatten.length=ln*s:=by rw[OR,h4]
    have hmul:ln*s<=cn*s:=yX _ h1
    refine Uj (arr:=(tR (cn*s)).map (zv.cells[·%zv.cells.size]!)) (t:=e) (us:=(yk ln zv.cells.toList).flatten) hh (u:=.slice (Gr ⟨w.heap.size,0,Gs⟩) ln cn) ?_
     (UK B8 ln) ?_ ?_ ?_ (fun h=>?_) ?_
    .have aHM:by'*cn<=1099511627776:=by rw[xg];exact h3
     have zV:((by'*cn:Nat):Int)<=1099511627776:=by lia
     rw[Int.natCast_mul] at zV;have mi:(ln:Int)<=(cn:Int):=by lia
     have g1:¬(281474976710656<(by':Int)*(cn:Int)):=by lia
     have g2:¬(((ln:Int)<0)):=by lia
     have g3:¬(((cn:Int)<0)):=by lia
     have g4:¬((ln:Int)>(cn:Int)):=by lia
     by_cases h0:cn*s=0
     .simp [execOp,ho,Instr.makeSlice,run_underlying hu,el,ec,asInt,asIntOf,typeInfo,Ca,Zf,wrapN ln (by lia),wrapN cn h2,g1,g2,g3,g4,pO hs,h0,newRow,askRoom,roomBytes]
      grind
     .simp [execOp,ho,Instr.makeSlice,run_underlying hu,el,ec,asInt,asIntOf,typeInfo,Ca,Zf,wrapN ln (by lia),wrapN cn h2,g1,g2,g3,g4,pO hs,h0,newRow,askRoom,roomBytes,nC]
    .intro j u hj
     have:((tR (cn*s)).map (zv.cells[·%zv.cells.size]!)).toList[j]? =Gr u:=by
      grind
     grind
    .grind
    .simp_all
    .exact ach h ln
    .intro m' hi;simp only[af];refine⟨_,cn,hi,by simp,h1,?_⟩
     simp
def aev{o:xa}{k:Nat}(hH:fW O H)(ht:cg O m S w tm a.tmps)(hh:aT O m S w hp cq)(hv:cM tm hp ct (aW O.P H k o)=Gr (v,b)):E8 O m S w a ct o v b:=by
 cases ho:o.op with
 | call c=>
  have⟨callee,args,ts⟩:=c;simp only[aW,ho] at hv
  repeat' split at hv
  all_goals first
   | (simp[cM,bad] at hv;done)
   | (revert hv;generalize yt _ _=bb;intro hv;cases bb<;>simp[cM,bad] at hv)
 | alloc t=>
  simp only[aW,ho] at hv
  split at hv
  .rename_i s z hs hz;obtain⟨zv,nC,rfl⟩:=GJ (w:=w) hz
   exact ada (x:=zv) (t:=t) hh (by simp[execOp,ho,Instr.alloc,nC,newVar,newRow]) (Gt zv) (by simpa only[cM,aB] using hv)
  .simp [cM,bad] at hv
 | box t x=>
  simp only[aW,ho] at hv
  split at hv
  .rename_i s hs;simp only[cM] at hv
   cases hc:(yt (cellsOf (aB tm (aP H x))).length s&&b9 (cellsOf (aB tm (aP H x)))) with
   | false=>rw[hc] at hv;cases hv
   | true=>
    have h1:=hc;simp only[yf] at h1
    exact ada (x:=a.eval x) (t:=t) hh (by simp[execOp,ho,Instr.box,newVar,newRow]) (Ug (ck hH ht x) h1.2) hv
  .simp [cM,bad] at hv
 | buildSlice t n parts=>
  simp only[aW,ho] at hv
  split at hv
  .rename_i e hu
   split at hv
   .rename_i s z hs hz
    cases hc:yJ (n*s) 16777216 with
    | false=>rw[hc] at hv;simp[cM,bad] at hv
    | true=>
     rw[hc] at hv;simp only[yy] at hv
     split at hv
     .rename_i ps iy;exact an3 hH ht hh ho hu hs hz (yA hc) iy hv
     .simp [cM,bad] at hv
   .simp [cM,bad] at hv
  .simp [cM,bad] at hv
 | makeSlice t l c=>
  simp only[aW,ho] at hv
  split at hv
  .rename_i e hu
   split at hv
   .rename_i s by' z hs hb hz
    exact apV hH ht hh ho hu hs hb hz hv
   .simp [cM,bad] at hv
  .simp [cM,bad] at hv
 | makeMap t r=>
  cases r with
  | some x=>simp[aW,ho,cM,bad] at hv
  | none=>
   simp only[aW,ho] at hv
   repeat' split at hv
   all_goals first
    | (simp[cM,bad] at hv;done)
    | (
      simp only[cM,yc,yr] at hv;obtain⟨rfl,rfl⟩:=hv
      exact apU hh ho rfl)
 | range t x=>
  simp only[aW,ho] at hv
  split at hv
  .rename_i hu;simp only[cM] at hv;have rx:=ck hH ht x;cases hx:aB tm (aP H x)<;>rw[hx] at hv rx<;>simp only[reduceCtorEq] at hv
   simp only[yc,yr] at hv;obtain⟨rfl,rfl⟩:=hv;exact an1 hh ho hu rx
  .simp [cM,bad] at hv
 | next x b=>cases b<;>simp[aW,ho,cM,bad] at hv
 | binOp op t x y ty=>
  cases op<;>simp only[aW,ho,rT,zp] at hv
  case eql=>
        repeat' split at hv
        all_goals first
         | (simp[cM,bad] at hv;done)
         | (cases hb:(O.P.stoodInHeld t||O.P.eqGuardType O.P.depth t)<;>rw[hb] at hv<;>simp[cM,bad] at hv)
  case neq=>
        repeat' split at hv
        all_goals first
         | (simp[cM,bad] at hv;done)
         | (cases hb:(O.P.stoodInHeld t||O.P.eqGuardType O.P.depth t)<;>rw[hb] at hv<;>simp[cM,bad] at hv)
  all_goals simp[cM] at hv
 | _=>
  simp only[aW,ho] at hv
  (repeat' split at hv)
  all_goals first
   | contradiction
   | (simp[cM,bad] at hv;done)
end
end
end
section
open Go
section
variable {hp ap:Hp}{cs vs eK:List AV}
def Am{id i:Nat}{o:Obj}:ak (aR hp id o) i=if id=i then (if (ak hp id).isSome then Gr o else Gs) else ak hp i:=by
 induction hp with
 | nil=>simp[aR,ak]
 | cons x r ih=>
  have⟨j,q⟩:=x;simp only[aR];by_cases hj:j=id
  .subst hj;simp only[wK,yy,ak];by_cases hi:j=i
   .simp_all
   .have:yt j i=ydz:=by
     cases hq:yt j i with
     | false=>rfl
     | true=>exact absurd (yi hq) hi
    grind
  .have hb:yt j id=ydz:=by
    cases hq:yt j id with
    | false=>rfl
    | true=>exact absurd (yi hq) hj
   simp only[hb,yT];rw[show ak ((j,q)::aR r id o) i=bif yt j i then Gr q else ak (aR r id o) i from rfl,ih];by_cases hi:j=i
   .subst hi
    have:¬id=j:=fun h=>hj h.symm
    simp[wK,this,ak]
   .have zV:yt j i=ydz:=by
     cases hq:yt j i with
     | false=>rfl
     | true=>exact absurd (yi hq) hi
    simp[zV,ak,hb]
def lU(hp ap:Hp):Prop:=∀id,(ak ap id).isSome=(ak hp id).isSome
def lU.refl:lU hp hp:=fun _=>rfl
def lU.trans{a b c:Hp}(h:lU a b)(k:lU b c):lU a c:=fun id=>(k id).trans (h id)
def Vf{id:Nat}{o o':Obj}(h:ak hp id=Gr o)(hl:kh o o'):dd hp (aR hp id o')/\lU hp (aR hp id o'):=by
 constructor
 .intro i q hq;rw[Am];by_cases hi:id=i
  .grind
  .exact ⟨q,by simp[hi,hq],kh.refl q⟩
 .intro i;rw[Am]
  grind
def aci{H:Hp}{id:Nat}{pu ex:Bool}(hl:dd hp H)(h:ak hp id=Gr (.cells ydz pu ex sz cs)):ak H id=Gr (.cells ydz pu ex sz cs):=by
 obtain⟨o',h1,cf,rfl,h2⟩:=hl id _ h
 cases cf with
 | false=>exact h1
 | true=>exact absurd (h2 rfl) (by simp)
section
variable {O:bC}
def ay4(O:bC)(m:Mp)(S:Nat->Prop)(w:yo)(p:Pl)(ex:Bool)(sz:Nat)(cs:List AV):Prop:=
 p.z=sz/\cs.length<=p.e/\(ex=ydy->cs.length=p.e)/\S p.b/\aH cs=ydy/\cd O.ae m S w cs p.b p.o
def Xj(O:bC)(ap:Hp)(v v':AV):Prop:=∀H m S w ct,dd ap H->aT O m S w H ct->(∀u,af O.ae m S w v u->af O.ae m S w v' u)/\aV v'=ydy
def ahP(O:bC)(ap:Hp)(vs eK:List AV):Prop:=∀H m S w ct,dd ap H->aT O m S w H ct->(∀us,aE O.ae m S w vs us->aE O.ae m S w eK us)/\aH eK=ydy
def aAT(O:bC)(ap:Hp)(id:Nat)(ex:Bool)(sz:Nat)(cs:List AV):Prop:=∀H m S w ct,dd ap H->aT O m S w H ct->∀p,m id=Gr p->ay4 O m S w p ex sz cs
def GD{ae:Nat->Nat}{m:Mp}{S:Nat->Prop}{w:yo}{b:Nat}:∀(cs:List AV) (us:List yj) (o:Nat),aE ae m S w cs us->
  (∀(j:Nat) (u:yj),us[j]? =Gr u->w.cell? ⟨b,o+j,Gs⟩=Gr u)->cd ae m S w cs b o
 | [],us,o,_,_=>by simp only[cd]
 | c::cs,us,o,h,hu=>by
  obtain⟨u,r,rfl,h2,h3⟩:=h;refine⟨⟨u,by simpa using hu 0 u (by simp),h2⟩,GD cs r (o+1) h3 (fun j v hv=>?_)⟩;rw[show o+1+j=o+(j+1) by lia]
  simp_all
def ay5{m:Mp}{w:yo}{dH:List AV}(h:∀us,aE O.ae m S w cs us->aE O.ae m S w dH us){b o:Nat}(hr:cd O.ae m S w cs b o):cd O.ae m S w dH b o:=by
 have⟨us,h1,_,h3⟩:=Bm cs b o hr;exact GD dH us o (h us h1) h3
def El:∀(k:Nat) {cs:List AV},aH cs=ydy->aH (cs.take k)=ydy
 | 0,_,_=>by simp[aH]
 | k+1,[],_=>by simp[aH]
 | k+1,c::cs,h=>by
  simp only[aH,yf,wN] at h ⊢;exact⟨h.1,El k h.2⟩
def apW:∀{n:Nat} {hp:Hp},cA n hp vs=Gr (eK,ap)->eK.length=vs.length:=by
 intro n
 induction n generalizing vs eK ap with
 | zero=>intro hp h;simp[cA] at h
 | succ n ih=>
  intro hp h
  cases vs with
  | nil=>simp only[cA,yc,yr] at h;rw[<-h.1]
  | cons v r=>
   simp only[cA] at h
   cases h1:freeze n hp v with
   | none=>simp[h1] at h
   | some q=>
    have⟨v',a6⟩:=q;simp only[h1] at h
    cases h2:cA n a6 r with
    | none=>simp[h2] at h
    | some q2=>
     grind
def abx:∀n:Nat,
  (∀hp v v' ap,freeze n hp v=Gr (v',ap)->dd hp ap/\lU hp ap/\Xj O ap v v')/\
  (∀hp id ex sz cs ap,zi n hp id=Gr (ex,sz,cs,ap)->dd hp ap/\lU hp ap/\aAT O ap id ex sz cs)/\
  (∀hp vs eK ap,cA n hp vs=Gr (eK,ap)->dd hp ap/\lU hp ap/\ahP O ap vs eK):=by
 intro n
 induction n with
 | zero=>refine⟨?_,?_,?_⟩<;>intros<;>simp_all[freeze,zi,cA]
 | succ n ih=>
  have⟨ihV,ihB,Ir⟩:=ih;refine⟨?_,?_,?_⟩
  .intro hp v v' ap h;have plain:∀{v v':AV} {hp ap:Hp},(bif aV v then Gr (v,hp) else Gs)=Gr (v',ap)->dd hp ap/\lU hp ap/\Xj O ap v v':=by
    intro v v' hp ap h
    cases hc:aV v with
    | false=>rw[hc] at h;cases h
    | true=>
     rw[hc] at h;simp only[yy,yc,yr] at h;obtain⟨rfl,rfl⟩:=h;exact⟨dd.refl,lU.refl,fun _ _ _ _ _ _ _=>⟨fun _ h=>h,hc⟩⟩
   cases v<;>simp only[freeze] at h<;>first | exact plain h | skip
   case ay id o k=>
    cases hb:zi n hp id with
    | none=>simp[hb] at h
    | some q=>
     have⟨ex,sz,cs,a6⟩:=q;simp only[hb] at h
     cases hc:yJ (o+k*sz) cs.length with
     | false=>rw[hc] at h;cases h
     | true=>
      rw[hc] at h;simp only[yy,yc,yr] at h;obtain⟨rfl,rfl⟩:=h;have hle:=yA hc;have⟨h1,h2,h3⟩:=ihB _ _ _ _ _ _ hb;refine⟨h1,h2,fun H m S w ct hl hh=>⟨fun u hu=>?_,by simp only[aV]⟩⟩;simp only[af] at hu ⊢;obtain⟨p,c,hm,rfl,Cb,Sp⟩:=hu;have⟨g1,g2,g3,g4,g5,g6⟩:=h3 H m S w ct hl hh p hm;refine .inl ⟨p.b,p.o+o,c,rfl,Cb,?_,.inr g4,El _ (CD _ _ g5),CC _ _ _ _ (Ak _ _ _ _ g6)⟩;intro hx;simp only[yf] at hx;have e1:=yi hx.2;have e2:0<sz:=by
       simp_all
      have e3:=g3 hx.1.1;rw[g1] at Sp
      have:c*sz=k*sz:=by lia
      exact Nat.eq_of_mul_eq_mul_right e2 this
   case ptr id o=>
    cases hb:zi n hp id with
    | none=>simp[hb] at h
    | some q=>
     have⟨ex,sz,cs,a6⟩:=q;simp only[hb,yc,yr] at h;obtain⟨rfl,rfl⟩:=h;have⟨h1,h2,h3⟩:=ihB _ _ _ _ _ _ hb;refine⟨h1,h2,fun H m S w ct hl hh=>⟨fun u hu=>?_,by simp only[aV]⟩⟩;simp only[af] at hu ⊢;obtain⟨p,hm,rfl⟩:=hu;have⟨g1,g2,g3,g4,g5,g6⟩:=h3 H m S w ct hl hh p hm;exact⟨p.b,p.o+o,rfl,.inr g4,CD _ _ g5,Ak _ _ _ _ g6⟩
   case map id=>
    cases hg:ak hp id with
    | none=>simp[hg] at h
    | some ob=>
     cases ob<;>simp only[hg,reduceCtorEq] at h
     rename_i rw ks vs
     cases hc:(aH ks&&aH vs) with
     | false=>rw[hc] at h;cases h
     | true=>
      rw[hc] at h;simp only[yy,yc,yr] at h;obtain⟨rfl,rfl⟩:=h;simp only[yf] at hc;have⟨h1,h2⟩:=Vf hg (o':=.mp ydz ks vs) ⟨ydz,rfl,by simp⟩;refine⟨h1,h2,fun H m S w ct hl hh=>⟨fun u hu=>?_,by simp only[aV]⟩⟩;simp only[af] at hu ⊢;obtain⟨p,hm,rfl⟩:=hu;have hq:ak (aR hp id (.mp ydz ks vs)) id=Gr (.mp ydz ks vs):=by rw[Am];simp[hg]
      obtain⟨o',h3,cf,rfl,h4⟩:=hl id _ hq;have qW:cf=ydz:=by cases cf with | false=>rfl | true=>exact absurd (h4 rfl) (by simp)
      subst qW;have⟨p',es,clock,g1,g2,g3,g4,g5,g6⟩:=hh.obj id _ _ h3 hm;rw[hm] at g1;injection g1 with g1
      subst g1;exact⟨p.b,es,clock,rfl,g6 rfl,hc.1,hc.2,g2,g3,g4⟩
   case fn f first cap=>
    cases f with
    | y l=>simp only[aV,yT,reduceCtorEq] at h
    | f g=>
     simp only at h
     cases h1:cA n hp first with
     | none=>simp[h1] at h
     | some q=>
      have⟨afn,a6⟩:=q;simp only[h1] at h
      cases h2:cA n a6 cap with
      | none=>simp[h2] at h
      | some q2=>
       have⟨QG,ic⟩:=q2;simp only[h2,yc,yr] at h;obtain⟨rfl,rfl⟩:=h;have⟨a1,a2,a3⟩:=Ir _ _ _ _ h1;have⟨b1,b2,b3⟩:=Ir _ _ _ _ h2;refine⟨a1.trans b1,a2.trans b2,fun H m S w ct hl hh=>?_⟩;have⟨c1,c2⟩:=a3 H m S w ct (b1.trans hl) hh;have⟨d1,d2⟩:=b3 H m S w ct hl hh;refine⟨fun u hu=>?_,by simp[aV,c2,d2]⟩;simp only[af] at hu ⊢;obtain⟨fi,ca,rfl,e1,e2⟩:=hu;exact⟨fi,ca,rfl,c1 _ e1,d1 _ e2⟩
   case agg cs=>
    cases h1:cA n hp cs with
    | none=>simp[h1] at h
    | some q=>
     have⟨dH,a6⟩:=q;simp only[h1,yc,yr] at h;obtain⟨rfl,rfl⟩:=h;have⟨a1,a2,a3⟩:=Ir _ _ _ _ h1;refine⟨a1,a2,fun H m S w ct hl hh=>?_⟩;have⟨c1,c2⟩:=a3 H m S w ct hl hh;refine⟨fun u hu=>?_,by simpa[aV] using c2⟩;simp only[af] at hu ⊢;obtain⟨xs,rfl,e1⟩:=hu;exact⟨xs,rfl,c1 _ e1⟩
   case av cs=>
    cases h1:cA n hp cs with
    | none=>simp[h1] at h
    | some q=>
     have⟨dH,a6⟩:=q;simp only[h1,yc,yr] at h;obtain⟨rfl,rfl⟩:=h;have⟨a1,a2,a3⟩:=Ir _ _ _ _ h1;refine⟨a1,a2,fun H m S w ct hl hh=>?_⟩;have⟨c1,c2⟩:=a3 H m S w ct hl hh;refine⟨fun u hu=>?_,by simpa[aV] using c2⟩;simp only[af] at hu ⊢;obtain⟨xs,rfl,e1⟩:=hu;exact⟨xs,rfl,c1 _ e1⟩
  .intro hp id ex sz dH ap h;simp only[zi] at h
   cases hg:ak hp id with
   | none=>simp[hg] at h
   | some ob=>
    cases ob<;>simp only[hg,reduceCtorEq] at h
    rename_i rw pu A1 DL cs
    cases pu with
    | true=>
     simp only[yy,yc,yr] at h;obtain⟨rfl,rfl,rfl,rfl⟩:=h;have hq:dd hp (bif rw then aR hp id (.cells ydz ydy A1 DL cs) else hp)/\lU hp (bif rw then aR hp id (.cells ydz ydy A1 DL cs) else hp)/\ak (bif rw then aR hp id (.cells ydz ydy A1 DL cs) else hp) id=Gr (.cells ydz ydy A1 DL cs):=by
      cases rw with
      | true=>
       have⟨h1,h2⟩:=Vf hg (o':=.cells ydz ydy A1 DL cs) ⟨ydz,rfl,by simp⟩;exact⟨h1,h2,by simp[Am,hg]⟩
      | false=>exact⟨dd.refl,lU.refl,hg⟩
     refine⟨hq.1,hq.2.1,fun H m S w ct hl hh p hm=>?_⟩;have⟨p',arr,t,g1,g2,g3,g4,g5,g6,g7,g8,g9,g10⟩:=hh.obj id _ _ (aci hl hq.2.2) hm;rw[hm] at g1;injection g1 with g1
     subst g1;exact⟨g3,g4,g6,g10 rfl,g8 rfl,g7⟩
    | false=>
     simp only[yT] at h
     cases h1:cA n hp cs with
     | none=>simp[h1] at h
     | some q=>
      have⟨A5,a6⟩:=q;simp only[h1,yc,yr] at h;obtain⟨rfl,rfl,rfl,rfl⟩:=h;have⟨a1,a2,a3⟩:=Ir _ _ _ _ h1;obtain⟨o1,iT,rw1,rfl,_⟩:=a1 id _ hg;have⟨b1,b2⟩:=Vf iT (o':=.cells ydz ydz A1 DL cs) ⟨ydz,rfl,by simp⟩;refine⟨a1.trans b1,a2.trans b2,fun H m S w ct hl hh p hm=>?_⟩;have hq:ak (aR a6 id (.cells ydz ydz A1 DL cs)) id=Gr (.cells ydz ydz A1 DL cs):=by simp[Am,iT]
      have⟨p',arr,t,g1,g2,g3,g4,g5,g6,g7,g8,g9,g10⟩:=hh.obj id _ _ (aci hl hq) hm;rw[hm] at g1;injection g1 with g1
      subst g1;have⟨c1,c2⟩:=a3 H m S w ct (b1.trans hl) hh;have hlen:=apW h1
      exact⟨g3,by lia,fun hx=>by have:=g6 hx;lia,g10 rfl,c2,ay5 c1 g7⟩
  .intro hp vs eK ap h
   cases vs with
   | nil=>
    simp only[cA,yc,yr] at h;obtain⟨rfl,rfl⟩:=h;exact⟨dd.refl,lU.refl,fun _ _ _ _ _ _ _=>⟨fun _ h=>h,rfl⟩⟩
   | cons v r=>
    simp only[cA] at h
    cases h1:freeze n hp v with
    | none=>simp[h1] at h
    | some q=>
     have⟨v1,a6⟩:=q;simp only[h1] at h
     cases h2:cA n a6 r with
     | none=>simp[h2] at h
     | some q2=>
      have⟨r1,ic⟩:=q2;simp only[h2,yc,yr] at h;obtain⟨rfl,rfl⟩:=h;have⟨a1,a2,a3⟩:=ihV _ _ _ _ h1;have⟨b1,b2,b3⟩:=Ir _ _ _ _ h2;refine⟨a1.trans b1,a2.trans b2,fun H m S w ct hl hh=>?_⟩;have⟨c1,c2⟩:=a3 H m S w ct (b1.trans hl) hh;have⟨d1,d2⟩:=b3 H m S w ct hl hh;refine⟨fun us hu=>?_,by simp[aH,c2,d2]⟩;simp only[aE] at hu ⊢;obtain⟨u,t,rfl,e1,e2⟩:=hu;exact⟨u,t,rfl,c1 _ e1,d1 _ e2⟩
def TK{n:Nat}(h:cA n hp vs=Gr (eK,ap)):dd hp ap/\lU hp ap/\ahP O ap vs eK:=(abx n).2.2 _ _ _ _ h
def Uk{n:Nat}{v v':AV}(h:freeze n hp v=Gr (v',ap)):dd hp ap/\lU hp ap/\Xj O ap v v':=(abx n).1 _ _ _ _ h
end
end
end
section
open Go
section
variable {v:AV}{ap:Hp}{cs new:List AV}{aO o:Nat}
section
variable {O:bC}{H:Hint}{m:Mp}{S:Nat->Prop}{w:yo}{tm:Env}{a:Act}{hp:Hp}{ct:Nat}
structure One(w w':yo)(g:Nat):Prop where
 os:w'.os=w.os
 tape:w'.tape=w.tape
 output:w'.output=w.output
 size:w'.heap.size=w.heap.size
 other:∀b,b≠g->w'.heap[b]? =w.heap[b]?
def TL(w:yo)(g:Nat)(cs:Array yj):One w (w.setRow g cs) g:=
 ⟨rfl,rfl,rfl,by simp,fun b hb=>setRow_other w g b cs hb⟩
def KB{id:Nat}{o:Obj}{p:Pl}(h:ak hp id=Gr o)(hm:m id=Gr p):eH m hp p.b:=⟨id,o,p,h,hm,rfl⟩
def apX{id:Nat}{o':Obj}{b:Nat}(h:eH m (aR hp id o') b):eH m hp b:=by
 have⟨i,o,p,h1,h2,h3⟩:=h;rw[Am] at h1;by_cases hi:id=i
 .subst hi
  cases hq:ak hp id with
  | none=>simp[hq] at h1
  | some q=>exact⟨id,q,p,hq,h2,h3⟩
 .simp only [hi,xz] at h1;exact⟨i,o,p,h1,h2,h3⟩
def J9(hh:aT O m S w hp ct){id:Nat}{o o':Obj}{p:Pl}{w':yo}(ho:ak hp id=Gr o)(hm:m id=Gr p)(hn:¬S p.b)(hw:One w w' p.b)(h':gh O m S w' id o')(hk:∀r:tp,w.heap[p.b]? =Gr (.loop r)->∃r':tp,w'.heap[p.b]? =Gr (.loop r')):
  aT O m S w' (aR hp id o') ct/\cp m S w hp m S w' (aR hp id o') ct:=by
 have aM:gX S w w':=fun b hb=>hw.other b (fun e=>hn (e▸hb))
 refine⟨⟨?_,hh.lt,?_,?_,?_,hh.low,?_,?_,fun i q hq=>(by
  rw[Am] at hq;by_cases hc:id=i
  .subst hc;exact hh.aG _ _ ho
  .simp only [hc,xz] at hq;exact hh.aG _ _ hq)⟩,⟨hw.os,hw.tape,hw.output,by rw[hw.size];exact yx _,?_,fun _ h=>h,fun b hb=>aM b hb,fun b hb=>.inl hb,fun b hb=>.inl (apX hb),fun _ _ _ h=>h,fun b r hb=>?_⟩⟩
 rotate_right
 .by_cases hc:b=p.b
  .subst hc;exact hk r hb
  .exact ⟨r,(hw.other b hc).trans hb⟩
 .intro i q pi hi bL;rw[Am] at hi;by_cases hc:id=i
  .subst hc;simp only[xS,ho,Option.isSome_some] at hi;injection hi with hi
   subst hi;exact h'
  .simp only [hc,xz] at hi;refine Al (fun _ _ h=>h) (fun _ h=>h) aM (fun q' bI=>?_) (fun _ _ h=>h) (hh.obj i q pi hi bL);exact hw.other _ (fun e=>hc (hh.inj i id q o q' p hi ho bI hm e).symm)
 .intro i j oi oj pi pj hi hj bL iz e;have key:∀{i:Nat} {oi:Obj},ak (aR hp id o') i=Gr oi->∃M1,ak hp i=Gr M1:=by
   intro i oi hi;rw[Am] at hi;by_cases hc:id=i
   .subst hc;exact⟨o,ho⟩
   .simp only [hc,xz] at hi;exact⟨oi,hi⟩
  have⟨M1,da⟩:=key hi;have⟨M0,Ze⟩:=key hj;exact hh.inj i j M1 M0 pi pj da Ze bL iz e
 .intro b hb;rw[hw.size];exact hh.slt b hb
 .intro i q hq;rw[hw.size];exact hh.blt i q hq
 .intro b hb
  rw[hw.other b (fun e=>by have:=hh.low id p hm;lia)]
  exact hh.nf b hb
 .rw [hw.size];exact hh.gZ
 .intro b _ hb;exact hw.other b (fun e=>hb (e▸KB ho hm))
def BF(O:bC)(m:Mp)(S:Nat->Prop)(w:yo)(a:Act)(hp:Hp)(ct:Nat)(o:xa)(v:AV)(ap:Hp)(aO:Nat):Prop:=
 ∃n u w' m' S',(execOp a.eval o).run O.P w=.ok n w'/\(n=.value u\/(n=.skip/\u=undef))/\aT O m' S' w' ap aO/\af O.ae m' S' w' v u/\dI m m'/\cp m S w hp m' S' w' ap ct
def apY{ae:Nat->Nat}{u:yj}(h:af ae m S w v u)(ho:dL v=ydy):u.oneCell'=ydy:=by
 cases v with
 | fn f a b=>
  cases f with
  | f g=>simp only[af] at h;obtain⟨_,_,rfl,_⟩:=h;rfl
  | y l=>simp only[af] at h;obtain⟨_,_,rfl⟩:=h;rfl
 | int k n=>simp only[af] at h;subst h;rfl
 | bool b=>simp only[af] at h;subst h;rfl
 | an k n=>simp only[af] at h;subst h;rfl
 | dj k n i=>simp only[af] at h;subst h;rfl
 | str s=>simp only[af] at h;obtain⟨_,rfl,_⟩:=h;rfl
 | kP=>simp only[af] at h;subst h;rfl
 | ptr i k=>simp only[af] at h;obtain⟨_,_,rfl⟩:=h;rfl
 | bA cs=>simp only[af] at h;obtain⟨_,_,rfl,_⟩:=h;rfl
 | aj=>simp only[af] at h;subst h;rfl
 | au e n cs=>simp only[af] at h;rcases h with ⟨_,_,_,rfl,_⟩ | ⟨_,rfl,_,_⟩<;>rfl
 | cR _ _ _ _=>simp[dL] at ho
 | ay i k n=>simp only[af] at h;obtain⟨_,_,_,rfl,_⟩:=h;rfl
 | fZ=>simp only[af] at h;subst h;rfl
 | jI=>simp only[af] at h;subst h;rfl
 | map i=>simp only[af] at h;obtain⟨_,_,rfl⟩:=h;rfl
 | jJ ks vs=>simp only[af] at h;obtain⟨_,_,_,rfl,_⟩:=h;rfl
 | it i=>simp only[af] at h;obtain⟨_,_,rfl⟩:=h;rfl
 | agg cs=>simp[dL] at ho
 | av cs=>simp[dL] at ho
 | undef=>simp[dL] at ho
def OB{ae:Nat->Nat}:∀{vs:List AV} {us:List yj},aE ae m S w vs us->b9 vs=ydy->∀u∈us,u.oneCell'=ydy
 | [],us,h,_,u,hu=>by simp only[aE] at h;subst h;cases hu
 | v::r,us,h,ho,u,hu=>by
  obtain⟨u',t,rfl,h1,h2⟩:=h;simp only[b9,yf] at ho;rcases List.mem_cons.1 hu with rfl | hu
  .exact apY h1 ho.1
  .exact OB h2 ho.2 u hu
def ade{arr:Array yj}{t:yF}{p:Pl}{vs:List yj}{m':Mp}(hb:w.heap[p.b]? =Gr (.cells arr t (0,0)))(hr:cd O.ae m S w cs p.b p.o)(hv:aE O.ae m S w new vs)(hl:o+new.length<=cs.length)(hs:p.o+cs.length<=arr.size){w':yo}(hm:dI m m')(hS:∀b,S b->S' b)(aM:gX S w w')(hw:w'.heap[p.b]? =Gr (.cells (arr.toList.take (p.o+o)++vs++arr.toList.drop (p.o+o+vs.length)).toArray t (0,0))):cd O.ae m' S' w' (over o new cs) p.b p.o:=by
 have⟨us,h1,h2,h3⟩:=Bm cs p.b p.o hr;have hvl:=jE _ _ hv;have h4:aE O.ae m S w (over o new cs) (us.take o++vs++us.drop (o+new.length)):=nK (nK (Gz o h1) hv) (JX _ h1);refine GD _ _ _ (jt hm hS aM _ _ h4) (fun j u hj=>?_);have E9:∀k u,us[k]? =Gr u->arr[p.o+k]? =Gr u:=by
  intro k u hk
  have:=h3 k u hk
  simpa[World.cell?,hb] using this
 simp only[World.cell?,hw,tZ,yH,xz];rw[ybe];have e1:(arr.toList.take (p.o+o)).length=p.o+o:=by rw[yP,vH];lia
 have e2:(us.take o).length=o:=by rw[yP];lia
 by_cases c1:j<o
 .have g1:(us.take o++vs++us.drop (o+new.length))[j]? =us[j]? :=by
   rw[xM,wL (by lia),tz c1]
  rw[g1] at hj;rw[xM,wL (by lia),tz (by lia)];simpa using E9 j u hj
 .by_cases c2:j<o+vs.length
  .have g1:(us.take o++vs++us.drop (o+new.length))[j]? =vs[j-o]? :=by
    rw[xM,wD (by lia),e2,wL (by lia)]
   rw[g1] at hj;rw[xM,wD (by lia),e1,wL (by lia),show p.o+j-(p.o+o)=j-o by lia];exact hj
  .have g1:(us.take o++vs++us.drop (o+new.length))[j]? =us[j]? :=by
    rw[xM,wD (by lia),e2,wD (by lia),ybA]
    congr 1
    lia
   rw[g1] at hj;rw[xM,wD (by lia),e1,wD (by lia),ybA,show p.o+o+vs.length+(p.o+j-(p.o+o)-vs.length)=p.o+j by lia];simpa using E9 j u hj
def OS(hl:o+new.length<=cs.length):(over o new cs).length=cs.length:=by
 simp only[over,yW,yP,wh];lia
def aby(h:aH cs=ydy)(h':aH new=ydy):aH (over o new cs)=ydy:=
 Gu (Gu (El _ h) h') (CD _ _ h)
def asa{o:xa}{t:yF}{x y:xD}(hH:fW O H)(ht:cg O m S w tm a.tmps)(hh:aT O m S w hp ct)(ho:o.op=.store t x y)(hz:cC O.P t=Gr sz)(hv:cr tm hp ct (.st sz (aP H x) (aP H y))=Gr (v,ap,aO)):BF O m S w a hp ct o v ap aO:=by
 simp only[cr] at hv;have rx:=ck hH ht x;cases hx:aB tm (aP H x)<;>rw[hx] at hv rx<;>simp only[reduceCtorEq] at hv
 rename_i id k;simp only[af] at rx;have⟨p,hm,ex⟩:=rx
 split at hv
 case h_2=>cases hv
 rename_i pu Sq z cs hg
 cases hc:(yt (cellsOf (aB tm (aP H y))).length sz&&yJ (k+sz) cs.length&&b9 (cellsOf (aB tm (aP H y)))) with
 | false=>rw[hc] at hv;cases hv
 | true=>
  rw[hc] at hv;simp only[yy,yc,yr] at hv;obtain⟨rfl,rfl,rfl⟩:=hv;simp only[yf] at hc;have c1:=yi hc.1.1;have c2:=yA hc.1.2;have ry:=Ug (ck hH ht y) hc.2;have hl:=jE _ _ ry;have⟨p',arr,t',g1,g2,g3,g4,g5,g6,g7,g8,g9,g10⟩:=hh.obj id _ _ hg hm;rw[hm] at g1;injection g1 with g1
  subst g1;have gN:=OB ry hc.2;have eW:=run_storeCells_at O.P p.b (p.o+k) t' (a.eval y).cells.toList 0 arr w g2 (by rw[hl];lia) gN
  simp only[y7] at eW;have ay6:(a.eval y).cells.size=sz:=by simp_all
  have qX:gh O m S (w.setRow p.b (arr.toList.take (p.o+k)++(a.eval y).cells.toList++arr.toList.drop (p.o+k+(a.eval y).cells.toList.length)).toArray) id
    (.cells ydy (pu&&aH (cellsOf (aB tm (aP H y)))) Sq z (over k (cellsOf (aB tm (aP H y))) cs)):=by
   refine⟨p,_,t',hm,setRow_heap w p.b arr _ t' _ g2,g3,by rw[OS (by lia)];exact g4,?_,fun h=>by rw[OS (by lia)];exact g6 h,?_,?_,fun _=>g9 rfl,by simp⟩
   .grind
   .exact ade g2 g7 ry (by lia) (by lia) dI.refl (fun _ h=>h) (fun b hb=>setRow_other w p.b b _ (fun e=>g9 rfl (e▸hb))) (setRow_heap w p.b arr _ t' _ g2)
   .intro h;simp only[yf] at h;exact aby (g8 h.1) h.2
  have⟨e1,e2⟩:=J9 hh hg hm (g9 rfl) (TL w p.b _) qX (fun r hr=>by rw[g2] at hr;cases hr);refine⟨.skip,undef,_,m,S,?_,.inr ⟨rfl,rfl⟩,e1,by simp[af,aE,undef],dI.refl,e2⟩;simp only[execOp,ho,Instr.storeAt,ex,Instr.sureAddr,Sem.run_bind,Sem.run_pure,Result.andThen_ok,storeVar,pO hz,ay6,ybZ,ydt,xz];simp[eW]
def Gw(w:yo)(g:Nat)(o:yaB):One w {w with heap:=w.heap.setIfInBounds g o} g:=
 ⟨rfl,rfl,rfl,by simp,fun b hb=>by simp[Array.getElem?_setIfInBounds_ne (fun e=>hb e.symm)]⟩
def Oi{g:Nat}{o q:yaB}(h:w.heap[g]? =Gr q):({w with heap:=w.heap.setIfInBounds g o}:yo).heap[g]? =Gr o:=by grind
def adf{o:xa}{t kt e:yF}{x k y:xD}{kk:Nat}(hH:fW O H)(ht:cg O m S w tm a.tmps)(hh:aT O m S w hp ct)(ho:o.op=.mapUpdate t x k y\/o.op=.insert t x k y)(hu:O.P.underlying t=Gr (.map kt e))(lK:VE.keyOf O.P kt=Gr kk)(hv:cr tm hp ct (.sE kk (aP H x) (aP H k) (aP H y))=Gr (v,ap,aO)):BF O m S w a hp ct o v ap aO:=by
 simp only[cr] at hv;have rx:=ck hH ht x;cases hx:aB tm (aP H x)<;>rw[hx] at hv rx<;>simp only[reduceCtorEq] at hv
 rename_i id;simp only[af] at rx;obtain⟨p,hm,ex⟩:=rx
 split at hv
 case h_2=>cases hv
 rename_i ks vs hg
 cases hc:pV kk (aB tm (aP H k)) with
 | false=>simp[hc] at hv
 | true=>
  simp only[hc,Bool.not_true,yT] at hv
  cases a6:BL (aB tm (aP H k)) (aB tm (aP H y)) ks vs with
  | none=>simp[a6] at hv
  | some q=>
   obtain⟨mh,eK⟩:=q;simp only[a6,yc,yr] at hv;obtain⟨rfl,rfl,rfl⟩:=hv;obtain⟨E,hE,hF⟩:=abv (P:=O.P) lK hc (ck hH ht k);obtain⟨p',es,clock,g1,g2,g3,g4,g5,g6⟩:=hh.obj id _ _ hg hm;rw[hm] at g1;injection g1 with g1
   subst g1;have aAU:=aes hE (ck hH ht k) (ck hH ht y) ks vs es.toList 0 mh eK g3 g4 a6
   have fin:∀(FW:Array vm) (c':Nat),(Instr.mapUpdate t (a.eval x) (a.eval k) (a.eval y)).run O.P w=.ok () {w with heap:=w.heap.setIfInBounds p.b (.map FW c')}->
     aE O.ae m S w mh (FW.toList.map (·.key))->aE O.ae m S w eK (FW.toList.map (·.val))->BF O m S w a hp ct o (.av []) (aR hp id (.mp ydy mh eK)) ct:=by
    intro FW c' eW h1 h2
    have aM:gX S w {w with heap:=w.heap.setIfInBounds p.b (.map FW c')}:=fun b hb=>(Gw w p.b _).other b (fun e=>g5 rfl (e▸hb))
    have qX:gh O m S {w with heap:=w.heap.setIfInBounds p.b (.map FW c')} id (.mp ydy mh eK):=
     ⟨p,FW,c',hm,Oi g2,jt (fun _ _ h=>h) (fun _ h=>h) aM _ _ h1,jt (fun _ _ h=>h) (fun _ h=>h) aM _ _ h2,fun _=>g5 rfl,by simp⟩
    obtain⟨e1,e2⟩:=J9 hh hg hm (g5 rfl) (Gw w p.b _) qX (fun r hr=>by rw[g2] at hr;cases hr);refine⟨.skip,undef,_,m,S,?_,.inr ⟨rfl,rfl⟩,e1,by simp[af,aE,undef],dI.refl,e2⟩;rcases ho with ho | ho<;>simp[execOp,ho,eW]
   have bN:=aa5 (P:=O.P) (w:=w) lK hc (ck hH ht k) ydz;rcases aAU with ⟨h1,h2,h3⟩ | ⟨j,e0,vc,vk0,h1,h2,⟨q1,q2,h3⟩,h4,h5⟩
   .refine fin (es.push ⟨a.eval k,a.eval y,clock⟩) (clock+1) ?_ (by simpa using h2) (by simpa using h3);rw[ex];simp[Instr.mapUpdate,run_underlying hu,MapKept.run_getObj_map g2,bN,hF _ _ h1,MapKept.run_setObj_map _ g2]
   .have hj:es[j]? =Gr e0:=by simpa using h2
    simp only[ye] at h1;obtain⟨ahQ,hsb⟩:=apS q1 q2 h3
    refine fin (es.modify j fun e=>{e with key:=a.eval k,val:=a.eval y}) clock ?_ ?_ ?_
    .rw [ex];simp[Instr.mapUpdate,run_underlying hu,MapKept.run_getObj_map g2,bN,hF _ _ h1,MapKept.run_setObj_map _ g2,hj,Instr.keyThatStays,hsb,ahQ.symm]
    .have:(es.modify j fun e=>{e with key:=a.eval k,val:=a.eval y}).toList.map (·.key)=es.toList.map (·.key):=by
      apply ybE;intro n;simp only[tq,tI,yaZ];by_cases hn:j=n
      .subst hn;simp[hj,ahQ]
      .simp [hn]
     rw[this];exact h4
    .have:(es.modify j fun e=>{e with key:=a.eval k,val:=a.eval y}).toList.map (·.val)=(es.toList.map (·.val)).set j (a.eval y):=by
      apply ybE;intro n;simp only[tq,tI,yaZ,List.getElem?_set];by_cases hn:j=n
      .subst hn
       have:=(xC.1 hj).1
       simp[this]
      .simp [hn]
     rw[this];exact h5
def asb(t:ByteArray)(i:Nat):(t.get! i).toNat=(t.data.toList.map xr).getD i 0:=by
 have:t.get! i=t.data[i]! :=by cases t;rfl
 rw[this];by_cases h:i<t.data.size
 .grind
 .simp only [Array.getElem!_eq_getD,Array.getD_eq_getD_getElem?,List.getD_eq_getElem?_getD,tq,tI];rw[Array.getElem?_eq_none (by lia)];rfl
def an4(t:ByteArray)(i:Nat):decodeL (t.data.toList.map xr) i=Utf8.decode t i:=by
 have eS:(t.data.toList.map xr).length=t.size:=by simp
 simp only[decodeL,Utf8.decode,asb,eS]
def apZ{o:xa}{x:xD}(hH:fW O H)(ht:cg O m S w tm a.tmps)(hh:aT O m S w hp ct)(ho:o.op=.next x ydy)(hv:cr tm hp ct (.sG (aP H x))=Gr (v,ap,aO)):BF O m S w a hp ct o v ap aO:=by
 simp only[cr] at hv;have rx:=ck hH ht x;cases hx:aB tm (aP H x)<;>rw[hx] at hv rx<;>simp only[reduceCtorEq] at hv
 rename_i id;simp only[af] at rx;have⟨p,hm,ex⟩:=rx
 split at hv
 case h_2=>cases hv
 rename_i s pos hg;have⟨p',t,g1,g2,g3,g4⟩:=hh.obj id _ _ hg hm;rw[hm] at g1;injection g1 with g1
 subst g1;have ak:(getObj p.b).run O.P w=.ok (.stringIter t pos) w:=by simp[getObj,Sem.run,g2]
 have hlen:s.length=t.size:=by rw[<-g3];simp
 cases hc:yQ pos s.length with
 | false=>
  rw[hc] at hv;simp only[yT,yc,yr] at hv;obtain⟨rfl,rfl,rfl⟩:=hv;have aG:¬pos<t.size:=by
   intro h
   have:yQ pos s.length=ydy:=by simp[yQ];lia
   grind
  refine⟨.value (.tuple #[.bool ydz]),.tuple #[.bool ydz],w,m,S,?_,.inl rfl,hh,by simp[af,aE],dI.refl,cp.refl⟩;simp[execOp,ho,ex,Instr.next,ak,aG]
 | true=>
  rw[hc] at hv;simp only[yy] at hv;have aG:pos<t.size:=by
   simp_all
  cases hdc:decodeL s pos with | mk c wd=>
  rw[hdc] at hv;simp only[yc,yr] at hv;obtain⟨rfl,rfl,rfl⟩:=hv;have hd:Utf8.decode t pos=(c,wd):=by rw[<-an4,g3,hdc]
  have qX:gh O m S {w with heap:=w.heap.setIfInBounds p.b (.stringIter t (pos+wd))} id (.si s (pos+wd)):=⟨p,t,hm,Oi g2,g3,g4⟩;have⟨e1,e2⟩:=J9 hh hg hm g4 (Gw w p.b _) qX (fun r hr=>by rw[g2] at hr;cases hr);refine⟨.value (.tuple #[.bool ydy,goInt pos,.int .i32 c]),_,_,m,S,?_,.inl rfl,e1,by simp[af,aE,goInt],dI.refl,e2⟩
  have aR:(setObj p.b (.stringIter t (pos+wd))).run O.P w=.ok () {w with heap:=w.heap.setIfInBounds p.b (.stringIter t (pos+wd))}:=by simp[setObj,Sem.run,g2]
  simp[execOp,ho,ex,Instr.next,ak,aG,hd,aR]
end
end
end
section
open Go
section
variable {cs:List AV}{n size:Nat}{P:xA}{x:yj}
def JY{hp:Hp}{id i:Nat}:ak (cN hp id) i=if id=i then Gs else ak hp i:=by
 induction hp with
 | nil=>simp[cN,ak]
 | cons x r ih=>
  have⟨j,q⟩:=x;simp only[cN];by_cases hj:j=id
  .subst hj;simp only[wK,yy,ih,ak];by_cases hi:j=i
   .grind
   .have:yt j i=ydz:=by
     cases hq:yt j i with
     | false=>rfl
     | true=>exact absurd (yi hq) hi
    grind
  .have hb:yt j id=ydz:=by
    cases hq:yt j id with
    | false=>rfl
    | true=>exact absurd (yi hq) hj
   simp only[hb,yT];rw[show ak ((j,q)::cN r id) i=bif yt j i then Gr q else ak (cN r id) i from rfl,ih];by_cases hi:j=i
   .subst hi
    have:¬id=j:=fun h=>hj h.symm
    simp[wK,this,ak]
   .have zV:yt j i=ydz:=by
     cases hq:yt j i with
     | false=>rfl
     | true=>exact absurd (yi hq) hi
    simp[zV,ak]
section
variable {O:bC}{H:Hint}{m:Mp}{S:Nat->Prop}{w:yo}{tm:Env}{a:Act}{hp:Hp}{ct:Nat}
def Src(P:xA)(w:yo)(size n:Nat)(news:List yj)(x:yj):Prop:=
 (∀w',(Builtin.lenOf x).run P w'=.ok n w')/\news.length=n*size/\
 ∀w',w'.heap=w.heap->∀k,k<=n->(Builtin.firstCells size k x).run P w'=.ok (news.take (k*size)).toArray w'
def JZ{c:Nat}{b:uX}{news:List yj}(hl:news.length=n*size)(hc:∀j u,news[j]? =Gr u->w.cell? (b.add j)=Gr u):
  Src P w size n news (.slice (Gr b) n c):=by
 refine⟨fun w'=>by simp[Builtin.lenOf],hl,fun w' hw k hk=>?_⟩;have hle:k*size<=news.length:=by rw[hl];exact yX _ hk
 refine run_firstCells_some (P:=P) w' size k b n c (news.take (k*size)) (by rw[yP];lia) (fun j v hv=>?_)
 rw[List.getElem?_take] at hv
 split at hv
 .have:=hc j v hv
  simpa[World.cell?,hw] using this
 .cases hv
def aew:Src P w size 0 [] (.slice Gs 0 0):=
 ⟨fun w'=>by simp[Builtin.lenOf],by simp,fun w' _ k hk=>by simp[Builtin.firstCells]⟩
def ana(s:ByteArray)(k:Nat):(s.extract 0 k).data.map (fun b=>Value.int .u8 b.toNat)=((s.data.toList.map fun b=>Value.int .u8 (b.toNat:Int)).take k).toArray:=by
 have:(s.extract 0 k).data=s.data.extract 0 k:=by simp
 grind
def asd{s:ByteArray}:Src P w 1 s.size (s.data.toList.map fun b=>Value.int .u8 (b.toNat:Int)) (.string s):=by
 refine⟨fun w'=>by simp[Builtin.lenOf],by simp,fun w' _ k hk=>?_⟩;simp only[Builtin.firstCells,Sem.run_pure,Nat.mul_one];rw[ana]
def aa7{ae:Nat->Nat}:∀l:List UInt8,aE ae m S w (Pg (l.map xr)) (l.map fun b=>Value.int .u8 (b.toNat:Int))
 | []=>by simp[Pg,aE]
 | b::r=>by
  exact⟨_,_,rfl,by simp[af],aa7 r⟩
def abz{vx:AV}(hh:aT O m S w hp ct)(hx:af O.ae m S w vx x)(h:nP hp size vx=Gr (n,cs)):
  ∃us,aE O.ae m S w cs us/\Src O.P w size n us x:=by
 cases vx<;>simp only[nP,reduceCtorEq] at h
 case aj=>
  obtain⟨rfl,rfl⟩:=h;subst hx;exact⟨[],by simp[aE],aew⟩
 case au ex n' dH=>
  cases hc:yt dH.length (n'*size) with
  | false=>rw[hc] at h;cases h
  | true=>
   rw[hc] at h;obtain⟨rfl,rfl⟩:=h;have hl:=yi hc;rcases hx with ⟨b,o,c,rfl,h1,h2,h3,h4,h5⟩ | ⟨ad,rfl,rfl,rfl⟩
   .have ⟨us,g1,g2,g3⟩:=Bm _ b o h5;exact⟨us,g1,JZ (by lia) (fun j u hj=>by rw[pZ];exact g3 j u hj)⟩
   .exact ⟨[],by simp[aE],JZ (by simp) (fun j u hj=>by simp at hj)⟩
 case ay id o n'=>
  cases hg:ak hp id with
  | none=>simp[hg] at h
  | some ob=>
   cases ob<;>simp only[hg,reduceCtorEq] at h
   rename_i rw pu ex z dH
   cases hc:yJ (o+n'*size) dH.length with
   | false=>rw[hc] at h;cases h
   | true=>
    rw[hc] at h;simp only[yy,yc,yr] at h;obtain⟨rfl,rfl⟩:=h;have hl:=yA hc;obtain⟨p,c,hm,rfl,h1,h2⟩:=hx;have hr:=UH (o:=0) (n:=0) hh hg hm;have oD:=CC (n'*size) _ _ _ (Ak o _ _ _ hr);have⟨us,g1,g2,g3⟩:=Bm _ p.b (p.o+o) oD;refine⟨us,g1,JZ ?_ (fun j u hj=>by rw[pZ];exact g3 j u hj)⟩
    grind
def an5{vx:AV}(hh:aT O m S w hp ct)(hx:af O.ae m S w vx x)(h:pY hp size vx=Gr (n,cs)):
  ∃us,aE O.ae m S w cs us/\Src O.P w size n us x:=by
 cases vx<;>try exact abz hh hx h
 simp only[pY] at h
 cases hc:yt size 1 with
 | false=>rw[hc] at h;cases h
 | true=>
  rw[hc] at h;obtain⟨rfl,rfl⟩:=h
  have:=yi hc
  subst this;obtain⟨t,rfl,rfl⟩:=hx;refine⟨_,aa7 _,?_⟩
  have:(List.map xr t.data.toList).length=t.size:=by simp
  rw[this];exact asd
def amn{t u ty e:yF}{i:ydu}(ht:P.underlying t=Gr (.slice e))(hu:(∃e',P.underlying u=Gr (.slice e'))\/P.underlying u=Gr .string)(hi:P.info? e=Gr i){g o:Nat}{M5:Array yj}{te:yF}(hg:w.heap[g]? =Gr (.cells M5 te (0,0))){news:List yj}(hs:Src P w i.size n news x)(h1:∀u∈news,u.oneCell'=ydy)(Hm:jL+n<=zG)(Xk:o+jL*i.size+news.length<=M5.size):
  (Builtin.append_ #[t,u] ty #[.slice (Gr ⟨g,o,Gs⟩) jL zG,x]).run P w=
   .ok (.slice (Gr ⟨g,o,Gs⟩) (jL+n) zG) (w.setRow g (M5.toList.take (o+jL*i.size)++news++M5.toList.drop (o+jL*i.size+news.length)).toArray):=by
 have⟨gI,mj,Zg⟩:=hs;have hf:=Zg w rfl n (yx _);rw[yK (by lia)] at hf;have aM:=run_storeCells_at P g (o+jL*i.size) te news 0 M5 w hg (by lia) h1;rcases hu with ⟨e',hd⟩ | hd<;>
  simp[Builtin.append_,run_underlying ht,run_underlying hd,vC,typeInfo,hi,gI,Hm,hf,pZ,aM]
def To{t u ty e:yF}{i:ydu}{z:yj}(ht:P.underlying t=Gr (.slice e))(hu:(∃e',P.underlying u=Gr (.slice e'))\/P.underlying u=Gr .string)(hi:P.info? e=Gr i)(hz:i.zero=Gr z){s:yj}{base:Option uX}(es:s=.slice base jL zG){pc:List yj}(ho:Src P w i.size jL pc s){news:List yj}(hs:Src P w i.size n news x)(hg:zG<jL+n)(h63:jL+n<=1099511627776)(Zf:(jL+n)*i.bytes<=1099511627776):
  (Builtin.append_ #[t,u] ty #[s,x]).run P w=
   .ok (.slice (Gr ⟨w.heap.size,0,Gs⟩) (jL+n) (grownCap w (jL+n) zG e))
    (w.drew.alloc (.cells ((pc++news).toArray++Builtin.zeroCells z.cells (grownCap w (jL+n) zG e-(jL+n))) e)):=by
 have⟨gI,mj,Zg⟩:=hs;have⟨ho1,Zh,ho3⟩:=ho;have hf:=Zg w.drew rfl n (yx _);rw[yK (by lia)] at hf;have hfo:=ho3 w.drew rfl jL (yx _);have hn:¬(jL+n<=zG):=by lia
 have aAV:¬(9223372036854775807<((jL:Int)+(n:Int))):=by lia
 have Xk:=growslice_fits (need:=jL+n) (old:=zG) (bytes:=i.bytes) hg (by lia);have aAW:¬(281474976710656<Builtin.nextslicecap (jL+n) zG*i.bytes):=by lia
 subst es;rcases hu with ⟨e',hd⟩ | hd
 all_goals
  simp[Builtin.append_,run_underlying ht,run_underlying hd,vC,typeInfo,zeroValue,hi,hz,gI,hn,aAV,aAW,Question.forced,hf,hfo,newRow,askRoom,grownCap]
  grind
def Ul{e:yF}{z:yj}{need:Nat}{us:List yj}(hh:aT O m S w hp ct)(hr:aE O.ae m S w cs us)(hl:us.length=need*sz)(hz:z.cells.size=sz)(P9:Bool)(DM:P9=ydy->aH cs=ydy)(hc:need<=cap):
  let w':=w.drew.alloc (.cells (us.toArray++Builtin.zeroCells z.cells (cap-need)) e)
  let p:Pl:=⟨w.heap.size,0,cap*sz,sz⟩
  ∀m',dI m m'->m' ct=Gr p->gh O m' S w' ct (.cells ydy P9 ydz sz cs):=by
 intro w' p m' hm hi;have aM:gX S w w':=fun b hb=>by
  have:=hh.slt b hb
  exact RowKit.Below.heap_alloc w.drew _ b (by simpa using this)
 have nh:w'.heap[w.heap.size]? =Gr (.cells (us.toArray++Builtin.zeroCells z.cells (cap-need)) e (0,0)):=heap_alloc_new w.drew _;have dX:=jE _ _ hr;refine⟨p,_,e,hi,nh,rfl,?_,?_,by simp,?_,DM,?_,by simp⟩
 .show cs.length<=cap*sz
  rw[<-dX,hl];exact yX _ hc
 .show 0+cap*sz<=_
  rw[Array.size_append,yam,size_zeroCells,hz,hl,<-we]
  grind
 .refine Ui nh cs us 0 (jt hm (fun _ h=>h) aM _ _ hr) (fun j u hj=>?_)
  grind
 .intro _ hS
  have:=hh.slt _ hS
  grind
def al8(hh:aT O m S w hp ct)(g:yaB):gX S w (w.drew.alloc g):=fun b hb=>by
 have:=hh.slt b hb
 exact RowKit.Below.heap_alloc w.drew _ b (by simpa using this)
def Um(hh:aT O m S w hp ct){hp0:Hp}{g:yaB}{p:Pl}{o:Obj}(QI:∀i q,ak hp0 i=Gr q->ak hp i=Gr q)(hb:p.b=w.heap.size)(ho:∀m',dI m m'->m' ct=Gr p->gh O m' S (w.drew.alloc g) ct o):
  aT O (gi m ct p) S (w.drew.alloc g) ((ct,o)::hp0) (ct+1)/\cp m S w hp (gi m ct p) S (w.drew.alloc g) ((ct,o)::hp0) ct:=by
 have hn:m ct=Gs:=by
  cases h:m ct with
  | none=>rfl
  | some q=>have:=hh.lt _ _ h;lia
 have hle:=lS hn (p:=p);have aM:=al8 hh g;have hold:∀b,b<w.heap.size->(w.drew.alloc g).heap[b]? =w.heap[b]? :=fun b hb=>RowKit.Below.heap_alloc w.drew _ b (by simpa using hb)
 have eS:(w.drew.alloc g).heap.size=w.heap.size+1:=by simp
 have dl:∀i q,ak ((ct,o)::hp0) i=Gr q->i≠ct->ak hp i=Gr q:=fun i q h hi=>by
  rw[iG,yp (fun e=>hi e.symm)] at h
  grind
 refine⟨⟨?_,?_,?_,?_,?_,?_,?_,?_,fun i q hq=>(by
  by_cases hc:i=ct
  .lia
  .have:=hh.aG _ _ (dl i q hq hc);lia)⟩,⟨rfl,rfl,rfl,by lia,?_,fun _ h=>h,fun b hb=>aM b hb,fun b hb=>.inl hb,?_,fun i q _ h=>hle i q h,fun b r hb=>⟨r,(hold b (xC.1 hb).1).trans hb⟩⟩⟩
 .intro i q pi hi bL;by_cases hc:i=ct
  .subst hc;rw[iG] at hi;simp only[xS,yc] at hi;subst hi;exact ho _ hle ek
  .rw [eN hc] at bL;exact Al hle (fun _ h=>h) aM (fun q' bI=>hold _ (hh.blt i q' bI)) (fun _ _ h=>h) (hh.obj i q pi (dl i q hi hc) bL)
 .intro i q bL;by_cases hc:i=ct
  .lia
  .rw [eN hc] at bL;have:=hh.lt i q bL;lia
 .intro i j oi oj pi pj hi hj bL iz e;by_cases ci:i=ct
  .by_cases cj:j=ct
   .grind
   .subst ci;rw[ek] at bL;rw[eN cj] at iz;injection bL with bL
    subst bL
    have:=hh.blt j pj iz
    lia
  .rw [eN ci] at bL;by_cases cj:j=ct
   .subst cj;rw[ek] at iz;injection iz with iz
    subst iz
    have:=hh.blt i pi bL
    lia
   .rw [eN cj] at iz;exact hh.inj i j oi oj pi pj (dl i oi hi ci) (dl j oj hj cj) bL iz e
 .intro b hb;have:=hh.slt b hb;lia
 .intro i q bL;by_cases hc:i=ct
  .subst hc;rw[ek] at bL;injection bL with bL
   subst bL
   lia
  .rw [eN hc] at bL;have:=hh.blt i q bL;lia
 .intro i q bL;have h0:=hh.gZ;by_cases hc:i=ct
  .subst hc;rw[ek] at bL;injection bL with bL
   subst bL
   lia
  .rw [eN hc] at bL;exact hh.low i q bL
 .intro b hb;have h0:=hh.gZ;exact (hold b (by lia)).trans (hh.nf b hb)
 .have h0:=hh.gZ;lia
 .intro b hb _;exact hold b hb
 .rintro b ⟨i,q,pi,h1,h2,h3⟩;by_cases hc:i=ct
  .subst hc;rw[ek] at h2;injection h2 with h2
   subst h2;exact .inr (by lia)
  .rw [eN hc] at h2;exact .inl ⟨i,q,pi,dl i q h1 hc,h2,h3⟩
def an6(hh:aT O m S w hp ct){id:Nat}{o o':Obj}{p p':Pl}{w':yo}(hg:ak hp id=Gr o)(hm:m id=Gr p)(hn:¬S p.b)(hw:One w w' p.b)(hk:∀r:tp,w.heap[p.b]? =Gr (.loop r)->∃r':tp,w'.heap[p.b]? =Gr (.loop r'))(hb:p'.b=p.b)(ho:∀m',dI m m'->m' ct=Gr p'->gh O m' S w' ct o'):
  aT O (gi m ct p') S w' ((ct,o')::cN hp id) (ct+1)/\cp m S w hp (gi m ct p') S w' ((ct,o')::cN hp id) ct:=by
 have dZ:m ct=Gs:=by
  cases h:m ct with
  | none=>rfl
  | some q=>have:=hh.lt _ _ h;lia
 have hle:=lS dZ (p:=p');have aM:gX S w w':=fun b hb=>hw.other b (fun e=>hn (e▸hb))
 have dl:∀i q,ak ((ct,o')::cN hp id) i=Gr q->i≠ct->ak hp i=Gr q/\i≠id:=fun i q h hi=>by
  rw[iG,yp (fun e=>hi e.symm),JY] at h
  grind
 have ahR:∀i q pi,ak hp i=Gr q->i≠id->m i=Gr pi->pi.b≠p.b:=fun i q pi h hi bL e=>hi (hh.inj i id q o pi p h hg bL hm e)
 refine⟨⟨?_,?_,?_,?_,?_,?_,?_,?_,fun i q hq=>(by
  by_cases hc:i=ct
  .lia
  .have:=hh.aG _ _ (dl i q hq hc).1;lia)⟩,⟨hw.os,hw.tape,hw.output,by rw[hw.size];exact yx _,?_,fun _ h=>h,fun b hb=>aM b hb,fun b hb=>.inl hb,?_,fun i q _ h=>hle i q h,fun b r hb=>(by
  by_cases hc:b=p.b
  .grind
  .exact ⟨r,(hw.other b hc).trans hb⟩)⟩⟩
 .intro i q pi hi bL;by_cases hc:i=ct
  .subst hc;rw[iG] at hi;simp only[xS,yc] at hi;subst hi;exact ho _ hle ek
  .rw [eN hc] at bL;have⟨h1,h2⟩:=dl i q hi hc;exact Al hle (fun _ h=>h) aM (fun q' bI=>hw.other _ (ahR i q q' h1 h2 bI)) (fun _ _ h=>h) (hh.obj i q pi h1 bL)
 .intro i q bL;by_cases hc:i=ct
  .lia
  .rw [eN hc] at bL;have:=hh.lt i q bL;lia
 .intro i j oi oj pi pj hi hj bL iz e;by_cases ci:i=ct
  .by_cases cj:j=ct
   .grind
   .subst ci;rw[ek] at bL;rw[eN cj] at iz
    grind
  .rw [eN ci] at bL;have⟨h1,h2⟩:=dl i oi hi ci;by_cases cj:j=ct
   .subst cj;rw[ek] at iz;injection iz with iz
    subst iz;exact (ahR i oi pi h1 h2 bL (by rw[e,hb])).elim
   .rw [eN cj] at iz;exact hh.inj i j oi oj pi pj h1 (dl j oj hj cj).1 bL iz e
 .intro b hb;rw[hw.size];exact hh.slt b hb
 .intro i q bL;rw[hw.size];by_cases hc:i=ct
  .subst hc;rw[ek] at bL;injection bL with bL
   subst bL;rw[hb];exact hh.blt id p hm
  .rw [eN hc] at bL;exact hh.blt i q bL
 .intro i q bL;by_cases hc:i=ct
  .subst hc;rw[ek] at bL;injection bL with bL
   subst bL;rw[hb];exact hh.low id p hm
  .rw [eN hc] at bL;exact hh.low i q bL
 .intro b hb
  rw[hw.other b (fun e=>by have:=hh.low id p hm;lia)]
  exact hh.nf b hb
 .rw [hw.size];exact hh.gZ
 .intro b _ bE;exact hw.other b (fun e=>bE (e▸KB hg hm))
 .rintro b ⟨i,q,pi,h1,h2,h3⟩;by_cases hc:i=ct
  .subst hc;rw[ek] at h2;injection h2 with h2
   subst h2;exact .inl ⟨id,o,p,hg,hm,by rw[<-h3,hb]⟩
  .rw [eN hc] at h2;exact .inl ⟨i,q,pi,(dl i q h1 hc).1,h2,h3⟩
def ase{e:yF}{s:Nat}{z:AV}(hs:cC P e=Gr s)(hb:DG P e=Gr by')(hz:oY P e=Gr z):
  ∃ti zv,P.info? e=Gr ti/\ti.size=s/\ti.bytes=by'/\ti.zero=Gr zv/\z=fg zv:=by
 unfold cC at hs;unfold DG at hb;unfold oY at hz
 cases hi:P.info? e with
 | none=>simp[hi] at hs
 | some ti=>
  simp only[hi,yc] at hs hb hz
  cases cK:ti.zero with
  | none=>simp[cK] at hz
  | some zv=>
   grind
def Ka{o:xa}{v:AV}{u:yj}{w':yo}{m':Mp}{ap:Hp}(h1:(execOp a.eval o).run O.P w=.ok (.value u) w')(h2:aT O m' S' w' ap aO)(h3:af O.ae m' S' w' v u)(h4:dI m m')(h5:cp m S w hp m' S' w' ap ct):BF O m S w a hp ct o v ap aO:=⟨_,u,w',m',S',h1,.inl rfl,h2,h3,h4,h5⟩
def ap0{o:xa}{b':yF}{t u e:yF}{z:AV}{x y:xD}{v:AV}{ap:Hp}(hH:fW O H)(ht:cg O m S w tm a.tmps)(hh:aT O m S w hp ct)(eW:(execOp a.eval o).run O.P w=((do pure (.value (<-Builtin.append_ #[t,u] b' #[a.eval x,a.eval y])):Sem ybm)).run O.P w)(DN:O.P.underlying t=Gr (.slice e))(hu:(∃e',O.P.underlying u=Gr (.slice e'))\/O.P.underlying u=Gr .string)(hs:cC O.P e=Gr sz)(hb:DG O.P e=Gr by')(hz:oY O.P e=Gr z)(B9:(cellsOf z).length=sz)(hv:cr tm hp ct (.ew sz by' (aP H x) (aP H y))=Gr (v,ap,aO)):BF O m S w a hp ct o v ap aO:=by
 simp only[cr] at hv;obtain⟨ti,zv,Ca,rfl,rfl,Zi,rfl⟩:=ase hs hb hz;have aK:∀u' w',(Builtin.append_ #[t,u] b' #[a.eval x,a.eval y]).run O.P w=.ok u' w'->(execOp a.eval o).run O.P w=.ok (.value u') w':=fun u' w' h=>by
  rw[eW,Sem.run_bind,h];rfl
 have AB:m ct=Gs:=by
  cases h:m ct with
  | none=>rfl
  | some q=>have:=hh.lt _ _ h;lia
 have M4:zv.cells.size=ti.size:=by
  have:=jE _ _ (Gt (ae:=O.ae) (m:=m) (S:=S) (w:=w) zv)
  rw[<-B9,<-this];simp
 cases pg:pY hp ti.size (aB tm (aP H y)) with
 | none=>simp[pg] at hv
 | some q=>
  have⟨n,new⟩:=q;simp only[pg] at hv;have⟨news,kU,dJ⟩:=an5 hh (ck hH ht y) pg;have Sr:=jE _ _ kU;have rx:=ck hH ht x
  cases hx:aB tm (aP H x) with
  | aj=>
   rw[hx] at hv rx;simp only at hv;simp only[af] at rx
   cases h0:yt n 0 with
   | true=>
    rw[h0] at hv;simp only[yy,yc,yr] at hv;obtain⟨rfl,rfl,rfl⟩:=hv;have A6:=yi h0;subst A6;have Wq:news=[]:=yD (by rw[dJ.2.1];simp)
    subst Wq;have hf:=dJ.2.2 w rfl 0 (yx _);have kT:=dJ.1 w;refine⟨.value (.slice Gs 0 0),.slice Gs 0 0,w,m,S,?_,.inl rfl,hh,by simp[af],dI.refl,cp.refl⟩;rw[eW,rx];rcases hu with ⟨e',hu⟩ | hu<;>
     simp[Builtin.append_,run_underlying DN,run_underlying hu,vC,typeInfo,Ca,kT,hf]
   | false=>
    rw[h0] at hv;simp only[yT] at hv
    cases hc:(yJ n room&&(yJ (n*ti.bytes) room&&yQ 0 ti.size)) with
    | false=>rw[hc] at hv;cases hv
    | true=>
     rw[hc] at hv;simp only[yy,yc,yr] at hv;obtain⟨rfl,rfl,rfl⟩:=hv;simp only[yf] at hc;have c1:=yA hc.1;have c2:=yA hc.2.1;simp only[room] at c1 c2;have A6:0<n:=by
      rcases xj n with h | h
      .subst h;simp at h0
      .exact h
     have hr:=To (P:=O.P) (ty:=b') (w:=w) DN hu Ca Zi (s:=.slice Gs 0 0) rfl (aew (P:=O.P) (size:=ti.size)) dJ (by lia) (by lia) (by simpa using c2);simp only[ye,List.nil_append] at hr;have ml:=grownCap_ge w n 0 e;have nh:=Ul (e:=e) (z:=zv) (cap:=grownCap w n 0 e) hh kU (need:=n) (sz:=ti.size) dJ.2.1 M4 (aH new) (fun h=>h) ml;have⟨k1,k2⟩:=Um hh (hp0:=hp) (p:=⟨w.heap.size,0,grownCap w n 0 e*ti.size,ti.size⟩) (fun _ _ h=>h) rfl nh;exact Ka (aK _ _ (by rw[rx];exact hr)) k1 (by simp only[af];exact⟨_,_,ek,rfl,ml,by simp⟩) (lS AB) k2
  | au ex k cs=>
   rw[hx] at hv rx
   cases ex with
   | false=>simp at hv
   | true=>
    simp only at hv;have rx0:=rx;simp only[af] at rx;have rx1:∃ad pc,a.eval x=.slice (Gr ad) k k/\aE O.ae m S w cs pc/\pc.length=cs.length/\(∀(j:Nat) (u:yj),pc[j]? =Gr u->w.cell? (ad.add j)=Gr u)/\aH cs=ydy:=by
     rcases rx with ⟨bb,oo,c,ex,h1,h2,h3,h4,h5⟩ | ⟨ad,ex,rfl,rfl⟩
     .have bN:c=k:=h2 (by trivial);subst bN;have⟨pc,g1,g2,g3⟩:=Bm cs bb oo h5;exact⟨_,pc,ex,g1,g2,fun j u hj=>by rw[pZ];exact g3 j u hj,h4⟩
     .exact ⟨ad,[],ex,by simp[aE],rfl,fun j u hj=>by simp at hj,rfl⟩
    have⟨ad,pc,ex,g1,g2,g3,h4⟩:=rx1
    cases h0:yt n 0 with
    | true=>
     rw[h0] at hv;simp only[yy,yc,yr] at hv;obtain⟨rfl,rfl,rfl⟩:=hv;have A6:=yi h0;subst A6;have Wq:news=[]:=yD (by rw[dJ.2.1];simp)
     subst Wq;have hf:=dJ.2.2 w rfl 0 (yx _);have kT:=dJ.1 w;refine⟨.value (a.eval x),a.eval x,w,m,S,?_,.inl rfl,hh,rx0,dI.refl,cp.refl⟩;rw[eW,ex];rcases hu with ⟨e',hu⟩ | hu<;>
      simp[Builtin.append_,run_underlying DN,run_underlying hu,vC,typeInfo,Ca,kT,hf,storeCells]
    | false=>
     rw[h0] at hv;simp only[yT] at hv
     cases hc:(yJ (k+n) room&&(yJ ((k+n)*ti.bytes) room&&(yt cs.length (k*ti.size)&&yQ 0 ti.size))) with
     | false=>rw[hc] at hv;cases hv
     | true=>
      rw[hc] at hv;simp only[yy,yc,yr] at hv;obtain⟨rfl,rfl,rfl⟩:=hv;simp only[yf] at hc;have c1:=yA hc.1;have c2:=yA hc.2.1;have c3:=yi hc.2.2.1;simp only[room] at c1 c2;have A6:0<n:=by
       rcases xj n with h | h
       .subst h;simp at h0
       .exact h
      have Zj:Src O.P w ti.size k pc (.slice (Gr ad) k k):=JZ (by lia) g3;have hr:=To (P:=O.P) (ty:=b') (w:=w) DN hu Ca Zi rfl Zj dJ (by lia) c1 c2;have ml:=grownCap_ge w (k+n) k e;have nh:=Ul (e:=e) (z:=zv) (cap:=grownCap w (k+n) k e) hh (nK g1 kU) (need:=k+n) (sz:=ti.size) (by rw[yW,g2,c3,dJ.2.1,we]) M4 (aH cs&&aH new)
       (fun h=>by simp only[yf] at h;exact Gu h.1 h.2) ml
      have⟨k1,k2⟩:=Um hh (hp0:=hp) (p:=⟨w.heap.size,0,grownCap w (k+n) k e*ti.size,ti.size⟩) (fun _ _ h=>h) rfl nh;exact Ka (aK _ _ (by rw[ex];exact hr)) k1 (by simp only[af];exact⟨_,_,ek,rfl,ml,by simp⟩) (lS AB) k2
  | ay id o0 k=>
   rw[hx] at hv rx;simp only at hv;simp only[af] at rx;have⟨p,c,hm,ex,h1,h2⟩:=rx
   split at hv
   case h_2=>cases hv
   rename_i pu Sq zz cs hg
   cases hc:(yt zz ti.size&&(yJ (k+n) room&&(yJ ((k+n)*ti.bytes) room&&(yJ (o0+k*ti.size) cs.length&&(yQ 0 ti.size&&b9 new))))) with
   | false=>rw[hc] at hv;cases hv
   | true=>
    rw[hc] at hv;simp only[yy,yc,yr] at hv;obtain⟨rfl,rfl,rfl⟩:=hv;simp only[yf] at hc;have c0:=yi hc.1;have c1:=yA hc.2.1;have c2:=yA hc.2.2.1;have c3:=yA hc.2.2.2.1;have c4:=hc.2.2.2.2.2;simp only[room] at c1 c2;have⟨p',arr,t',g1,g2,g3,g4,g5,g6,g7,g8,g9,g10⟩:=hh.obj id _ _ hg hm;rw[hm] at g1;injection g1 with g1
    subst g1;subst c0;rw[g3] at h2;have Is:cd O.ae m S w (slice o0 (k*ti.size) cs) p.b (p.o+o0):=CC _ _ _ _ (Ak _ _ _ _ g7);have⟨pc,f1,f2,f3⟩:=Bm _ _ _ Is;have ahS:(slice o0 (k*ti.size) cs).length=k*ti.size:=by simp only[slice,yP,wh];lia
    have dR:(pu&&aH new)=ydy->aH (slice o0 (k*ti.size) cs++new)=ydy:=fun h=>by
     simp only[yf] at h;exact Gu (El _ (CD _ _ (g8 h.1))) h.2
    by_cases Hm:k+n<=c
    .have gN:=OB kU c4;have Xk:p.o+o0+k*ti.size+news.length<=arr.size:=by
      rw[dJ.2.1]
      have:(k+n)*ti.size<=c*ti.size:=yX _ Hm
      rw[we] at this
      lia
     have hr:=amn (P:=O.P) (ty:=b') (w:=w) DN hu Ca g2 dJ gN Hm Xk;have ho:∀m',dI m m'->m' ct=Gr ⟨p.b,p.o+o0,c*ti.size,ti.size⟩->
       gh O m' S (w.setRow p.b (arr.toList.take (p.o+o0+k*ti.size)++news++arr.toList.drop (p.o+o0+k*ti.size+news.length)).toArray) ct
        (.cells ydy (pu&&aH new) ydz ti.size (slice o0 (k*ti.size) cs++new)):=by
      intro m' hle hi;have aM:gX S w (w.setRow p.b (arr.toList.take (p.o+o0+k*ti.size)++news++arr.toList.drop (p.o+o0+k*ti.size+news.length)).toArray):=fun b hb=>setRow_other w p.b b _ (fun e=>g9 rfl (e▸hb))
      refine⟨_,_,t',hi,setRow_heap w p.b arr _ t' _ g2,rfl,?_,?_,by simp,?_,dR,fun _=>g9 rfl,by simp⟩
      .show (slice o0 (k*ti.size) cs++new).length<=c*ti.size
       rw[yW,ahS,<-Sr,dJ.2.1,<-we];exact yX _ Hm
      .show p.o+o0+c*ti.size<=_
       rw[yam,yW,yW,yP,wh,vH]
       lia
      .refine GD _ (pc++news) _ (nK (jt hle (fun _ h=>h) aM _ _ f1) (jt hle (fun _ h=>h) aM _ _ kU)) (fun j u hj=>?_);show World.cell? _ ⟨p.b,p.o+o0+j,Gs⟩=Gr u
       simp only[World.cell?,setRow_heap w p.b arr _ t' _ g2,tZ,yH,xz];rw[ybe];have e1:(arr.toList.take (p.o+o0+k*ti.size)).length=p.o+o0+k*ti.size:=by rw[yP,vH];lia
       by_cases FU:j<k*ti.size
       .rw [wL (by lia)] at hj;rw[xM,wL (by lia),tz (by lia)]
        have:=f3 j u hj
        simpa[World.cell?,g2] using this
       .rw [wD (by lia)] at hj;have hjl:=(List.getElem?_eq_some_iff.1 hj).1;rw[xM,wD (by lia),e1,wL (by lia),show p.o+o0+j-(p.o+o0+k*ti.size)=j-pc.length by lia];exact hj
     have⟨k1,k2⟩:=an6 (p':=⟨p.b,p.o+o0,c*ti.size,ti.size⟩) hh hg hm (g9 rfl) (TL w p.b _) (fun r hr=>by rw[g2] at hr;cases hr) rfl ho;exact Ka (aK _ _ (by rw[ex];exact hr)) k1 (by simp only[af];exact⟨_,c,ek,rfl,Hm,by simp⟩) (lS AB) k2
    .have Zj:Src O.P w ti.size k pc (.slice (Gr ⟨p.b,p.o+o0,Gs⟩) k c):=JZ (by lia) (fun j u hj=>by rw[pZ];exact f3 j u hj)
     have hr:=To (P:=O.P) (ty:=b') (w:=w) DN hu Ca Zi rfl Zj dJ (by lia) c1 c2;have ml:=grownCap_ge w (k+n) c e;have nh:=Ul (e:=e) (z:=zv) (cap:=grownCap w (k+n) c e) hh (nK f1 kU) (need:=k+n) (sz:=ti.size) (by rw[yW,f2,ahS,dJ.2.1,we]) M4 (pu&&aH new) dR ml;have⟨k1,k2⟩:=Um hh (hp0:=cN hp id) (p:=⟨w.heap.size,0,grownCap w (k+n) c e*ti.size,ti.size⟩) (fun i q h=>by
      rw[JY] at h;by_cases hi:id=i
      .simp [hi] at h
      .simpa only [hi,xz] using h) rfl nh
     exact Ka (aK _ _ (by rw[ex];exact hr)) k1 (by simp only[af];exact⟨_,_,ek,rfl,ml,by simp⟩) (lS AB) k2
  | _=>rw[hx] at hv;simp at hv
end
end
end
section
open Go
section
variable {O:bC}{H:Hint}{m:Mp}{S:Nat->Prop}{w:yo}{tm:Env}{a:Act}{hp:Hp}{ct:Nat}
def amE{n:Nat}{cs:List AV}(h:aH cs=ydy):aH (cs.take n)=ydy:=El n h
def aaU:∀(n:Nat) {cs:List AV},b9 cs=ydy->b9 (cs.take n)=ydy
 | 0,_,_=>by simp[b9]
 | n+1,[],_=>by simp[b9]
 | n+1,c::cs,h=>by
  simp only[wN,b9,yf] at h ⊢;exact⟨h.1,aaU n h.2⟩
def ap1{o:xa}{b':yF}{t u e:yF}{x y:xD}{v:AV}{ap:Hp}(hH:fW O H)(ht:cg O m S w tm a.tmps)(hh:aT O m S w hp ct)(eW:(execOp a.eval o).run O.P w=((do pure (.value (<-Builtin.copy_ #[t,u] b' #[a.eval x,a.eval y])):Sem ybm)).run O.P w)(DN:O.P.underlying t=Gr (.slice e))(hs:cC O.P e=Gr sz)(hv:cr tm hp ct (.px sz (aP H x) (aP H y))=Gr (v,ap,aO)):BF O m S w a hp ct o v ap aO:=by
 simp only[cr] at hv
 cases pg:nP hp sz (aB tm (aP H y)) with
 | none=>simp[pg] at hv
 | some q=>
  have⟨n,new⟩:=q;simp only[pg] at hv;have⟨news,kU,dJ⟩:=abz hh (ck hH ht y) pg;have Sr:=jE _ _ kU;have rx:=ck hH ht x;cases hx:aB tm (aP H x)<;>rw[hx] at hv rx<;>simp only[reduceCtorEq] at hv
  rename_i id o0 k;simp only[af] at rx;have⟨p,c,hm,ex,h1,h2⟩:=rx
  split at hv
  case h_2=>cases hv
  rename_i pu Sq zz cs hg
  cases hc:(yt zz sz&&(yJ (o0+k*sz) cs.length&&b9 new)) with
  | false=>rw[hc] at hv;cases hv
  | true=>
   rw[hc] at hv;simp only[yy,yc,yr] at hv;obtain⟨rfl,rfl,rfl⟩:=hv;simp only[yf] at hc;have c0:=yi hc.1;have c1:=yA hc.2.1;subst c0;have⟨p',arr,t',g1,g2,g3,g4,g5,g6,g7,g8,g9,g10⟩:=hh.obj id _ _ hg hm;rw[hm] at g1;injection g1 with g1
   subst g1;have ahT:min n k*zz<=k*zz:=yX _ (Nat.min_le_right _ _);have aHB:min n k*zz<=n*zz:=yX _ (yck _ _);have rt:=Gz (min n k*zz) kU;have sL:(news.take (min n k*zz)).length=min n k*zz:=by rw[yP,dJ.2.1];lia
   have aHN:(new.take (min n k*zz)).length=min n k*zz:=by rw[yP,<-Sr,dJ.2.1];lia
   have gN:=OB rt (aaU _ hc.2.2);have hf:=dJ.2.2 w rfl (min n k) (yck _ _);have aM:=run_storeCells_at O.P p.b (p.o+o0) t' (news.take (min n k*zz)) 0 arr w g2 (by rw[sL];lia) gN
   simp only[y7] at aM;have qX:gh O m S (w.setRow p.b (arr.toList.take (p.o+o0)++news.take (min n k*zz)++arr.toList.drop (p.o+o0+(news.take (min n k*zz)).length)).toArray) id
     (.cells ydy (pu&&aH new) Sq zz (over o0 (new.take (min n k*zz)) cs)):=by
    refine⟨p,_,t',hm,setRow_heap w p.b arr _ t' _ g2,g3,by rw[OS (by lia)];exact g4,?_,fun h=>by rw[OS (by lia)];exact g6 h,?_,?_,fun _=>g9 rfl,by simp⟩
    .rw [yam,yW,yW,yP,wh,vH,sL];lia
    .exact ade g2 g7 rt (by lia) (by lia) dI.refl (fun _ h=>h) (fun b hb=>setRow_other w p.b b _ (fun e=>g9 rfl (e▸hb))) (setRow_heap w p.b arr _ t' _ g2)
    .intro h;simp only[yf] at h;exact aby (g8 h.1) (amE h.2)
   have⟨e1,e2⟩:=J9 hh hg hm (g9 rfl) (TL w p.b _) qX (fun r hr=>by rw[g2] at hr;cases hr)
   refine Ka (u:=goInt ((min n k:Nat):Int)) (m':=m) (S':=S) ?_ e1 (by simp[af,goInt]) dI.refl e2;rw[eW,ex];simp[Builtin.copy_,run_underlying DN,dJ.1 w,pO hs,show Nat.min n k=min n k from rfl,hf,aM]
def asf{o:xa}{k:Nat}{v:AV}{ap:Hp}(hH:fW O H)(ht:cg O m S w tm a.tmps)(hh:aT O m S w hp ct)(hv:cr tm hp ct (aW O.P H k o)=Gr (v,ap,aO)):BF O m S w a hp ct o v ap aO:=by
 have n8:∀{r:AV×Hp×Nat},cr tm hp ct bad=Gr r->False:=fun h=>by simp[bad,cr] at h
 cases ho:o.op with
 | call c=>
  obtain⟨callee,args,ts⟩:=c;simp only[aW,ho] at hv
  split at hv
  .cases MZ:H.mode k<;>simp[MZ,cr] at hv
  .rename_i _ b
   split at hv
   .rename_i x y t u fj sK;obtain⟨al⟩:=args;obtain⟨tl⟩:=ts;simp only at fj sK;subst fj;subst sK;obtain⟨cs,eW⟩:=Cx (O:=O) (w:=w) (a:=a) ho;have LA:(execOp a.eval o).run O.P w=((do pure (.value (<-Builtin.append_ #[t,u] o.type #[a.eval x,a.eval y])):Sem ybm)).run O.P w:=by
     rw[eW];simp[builtin]
    have key:∀{z:AV} {sz by':Nat} {e:yF},O.P.underlying t=Gr (.slice e)->((∃e',O.P.underlying u=Gr (.slice e'))\/O.P.underlying u=Gr .string)->cC O.P e=Gr sz->DG O.P e=Gr by'->oY O.P e=Gr z->
      cr tm hp ct (bif yt (cellsOf z).length sz then .ew sz by' (aP H x) (aP H y) else bad)=Gr (v,ap,aO)->BF O m S w a hp ct o v ap aO:=by
     intro z sz by' e h1 h2 h3 h4 h5 h
     cases hb:yt (cellsOf z).length sz with
     | false=>rw[hb] at h;exact (n8 h).elim
     | true=>
      rw[hb] at h;exact ap0 hH ht hh LA h1 h2 h3 h4 h5 (yi hb) h
    split at hv
    .rename_i e e' h1 h2
     split at hv
     .rename_i sz by' z h3 h4 h5
      exact key h1 (.inl ⟨_,h2⟩) h3 h4 h5 hv
     .exact (n8 hv).elim
    .rename_i e h1 h2
     split at hv
     .rename_i sz by' z h3 h4 h5
      exact key h1 (.inr h2) h3 h4 h5 hv
     .exact (n8 hv).elim
    .exact (n8 hv).elim
   .repeat' split at hv
    all_goals simp[cr,bad] at hv
   .rename_i x y t u fj sK;obtain⟨al⟩:=args;obtain⟨tl⟩:=ts;simp only at fj sK;subst fj;subst sK;obtain⟨cs,eW⟩:=Cx (O:=O) (w:=w) (a:=a) ho;have LA:(execOp a.eval o).run O.P w=((do pure (.value (<-Builtin.copy_ #[t,u] o.type #[a.eval x,a.eval y])):Sem ybm)).run O.P w:=by
     rw[eW];simp[builtin]
    split at hv
    .rename_i e h1
     split at hv
     .rename_i sz h3;exact ap1 hH ht hh LA h1 h3 hv
     .exact (n8 hv).elim
    .exact (n8 hv).elim
   .simp [cr] at hv
   .simp [cr] at hv
   .simp [cr] at hv
   .simp [cr] at hv
   .simp [cr] at hv
   .exact (n8 hv).elim
  .exact (n8 hv).elim
 | store t x y=>
  simp only[aW,ho] at hv
  split at hv
  .rename_i s hs;exact asa hH ht hh ho hs hv
  .exact (n8 hv).elim
 | mapUpdate t x k y=>
  simp only[aW,ho] at hv
  split at hv
  .rename_i kt e hu
   split at hv
   .rename_i kk lK;exact adf hH ht hh (.inl ho) hu lK hv
   .exact (n8 hv).elim
  .exact (n8 hv).elim
 | insert t x k y=>
  simp only[aW,ho] at hv
  split at hv
  .rename_i kt e hu
   split at hv
   .rename_i kk lK;exact adf hH ht hh (.inr ho) hu lK hv
   .exact (n8 hv).elim
  .exact (n8 hv).elim
 | next x b=>
  cases b with
  | false=>simp only[aW,ho] at hv;exact (n8 hv).elim
  | true=>exact apZ hH ht hh ho (by simpa only[aW,ho] using hv)
 | binOp op t x y ty=>
  cases op<;>simp only[aW,ho,rT,zp] at hv
  case eql=>
        repeat' split at hv
        all_goals first
         | (simp[cr,bad] at hv;done)
         | (cases hb:(O.P.stoodInHeld t||O.P.eqGuardType O.P.depth t)<;>rw[hb] at hv<;>simp[cr,bad] at hv)
  case neq=>
        repeat' split at hv
        all_goals first
         | (simp[cr,bad] at hv;done)
         | (cases hb:(O.P.stoodInHeld t||O.P.eqGuardType O.P.depth t)<;>rw[hb] at hv<;>simp[cr,bad] at hv)
  all_goals simp[cr] at hv
 | buildSlice t n parts=>
  simp only[aW,ho] at hv
  repeat' split at hv
  all_goals first
   | (simp[cr,bad] at hv;done)
   | (
     revert hv;generalize yJ _ _=bb;intro hv;cases bb<;>simp[cr,bad] at hv
     try (split at hv<;>simp[cr,bad] at hv))
 | makeMap t r=>
  cases r<;>simp only[aW,ho] at hv
  .repeat' split at hv
   all_goals simp[cr,bad] at hv
  .exact (n8 hv).elim
 | _=>
  simp only[aW,ho] at hv
  (repeat' split at hv)
  all_goals first
   | contradiction
   | (simp[cr,bad] at hv;done)
end
end
section
variable {v x:AV}{hp:Hp}{o:Op}
section
variable {hp H:Hp}{tm tm':Env}
def aex(hl:dd hp H){id:Nat}{pu ex:Bool}{cs:List AV}(h:ak hp id=Gr (.cells rw pu ex sz cs)):∃cf,ak H id=Gr (.cells cf pu ex sz cs):=by
 obtain⟨o',h1,cf,rfl,_⟩:=hl id _ h
 grind
def aey(hl:dd hp H){id:Nat}{ks vs:List AV}(h:ak hp id=Gr (.mp rw ks vs)):∃cf,ak H id=Gr (.mp cf ks vs):=by
 obtain⟨o',h1,cf,rfl,_⟩:=hl id _ h
 grind
def Vg(hl:dd hp H){ag:Bool}(h:gH hp sz ag x=Gr v):gH H sz ag x=Gr v:=by
 cases x<;>simp only[gH,reduceCtorEq] at h ⊢
 .rename_i id o
  cases hg:ak hp id with
  | none=>simp[hg] at h
  | some ob=>
   cases ob<;>simp only[hg,reduceCtorEq] at h
   obtain⟨r,h1⟩:=aex hl hg
   grind
 .exact h
def ap2(hl:dd hp H){k:AV}{v:Option AV}(h:C9 hp k x=Gr v):C9 H k x=Gr v:=by
 cases x<;>simp only[C9,reduceCtorEq] at h ⊢
 .grind
 .rename_i id
  cases hg:ak hp id with
  | none=>simp[hg] at h
  | some ob=>
   cases ob<;>simp only[hg,reduceCtorEq] at h
   obtain⟨r,h1⟩:=aey hl hg
   grind
 .exact h
def ap3(hl:dd hp H){k:Nat}(h:gF hp k x=Gr v):gF H k x=Gr v:=by
 unfold gF at h ⊢
 split at h
 all_goals first
  | exact h
  | cases h
  | skip
 rename_i id
 cases hg:ak hp id with
 | none=>simp[hg] at h
 | some ob=>
  cases ob<;>simp only[hg,reduceCtorEq] at h
  obtain⟨r,h1⟩:=aey hl hg
  grind
def ap4(hl:dd hp H){k:Cut}{lo hi:Option X}(h:fY hp k x tm lo hi=Gr v):fY H k x tm lo hi=Gr v:=by
 unfold fY at h ⊢
 split at h
 all_goals first
  | exact h
  | cases h
  | skip
 rename_i sz id o n
 cases hg:ak hp id with
 | none=>simp[hg] at h
 | some ob=>
  cases ob<;>simp only[hg,reduceCtorEq] at h
  obtain⟨r,h1⟩:=aex hl hg
  grind
def an7(hl:dd hp H)(h:bm tm hp o=Gr v):bm tm H o=Gr v:=by
 cases o<;>simp only[bm,reduceCtorEq] at h ⊢<;>first
  | exact h
  | exact Vg hl h
  | exact ap3 hl h
  | exact ap4 hl h
  | skip
 rename_i kk zero ok m k
 cases hk:pV kk (aB tm k) with
 | false=>rw[hk] at h;cases h
 | true=>
  rw[hk] at h
  cases hr:C9 hp (aB tm k) (aB tm m) with
  | none=>simp[hr] at h
  | some r=>rw[ap2 hl hr];simpa only[hr] using h
def an8(hk:bn o=0)(hp H:Hp):bm tm hp o=bm tm H o:=by
 cases o with
 | sD k x lo hi=>
  cases k with
  | str=>simp only[bm,fY];cases aB tm x<;>rfl
  | sl sz=>simp[bn] at hk
  | ar n sz=>simp[bn] at hk
 | len k x=>
  match k,hk with
  | 0,_=>simp only[bm];unfold gF;split<;>simp_all
  | 1,_=>simp only[bm];unfold gF;split<;>simp_all
  | k+2,hk=>simp[bn] at hk
 | call md f xs=>cases md<;>simp[bn] at hk
 | _=>first
  | rfl
  | simp[bn] at hk
end
section
variable {tm tm':Env}
def eb{x:X}(h:∀t,t∈jW x->ai tm' t=ai tm t):aB tm' x=aB tm x:=by
 cases x with
 | t i=>exact h i (by simp[jW])
 | c v=>rfl
def En:∀{xs:List X},(∀t,t∈Bw xs->ai tm' t=ai tm t)->dM tm' xs=dM tm xs
 | [],_=>rfl
 | x::r,h=>by
  simp only[dM]
  rw[eb (x:=x) (fun t ht=>h t (by simp[Bw,ht])),En (fun t ht=>h t (by simp[Bw,ht]))]
def OC:∀{ps:List (Nat×Nat×X)} {z:List AV},(∀t,t∈Lw ps->ai tm' t=ai tm t)->fill tm' z ps=fill tm z ps
 | [],_,_=>rfl
 | (o,s,x)::r,z,h=>by
  simp only[fill]
  rw[eb (x:=x) (fun t ht=>h t (by simp[Lw,ht]))]
  rw[OC (ps:=r) (fun t ht=>h t (by simp[Lw,ht]))]
def abA{x:Option X}(h:∀t,t∈Lv x->ai tm' t=ai tm t):c6 tm' d x=c6 tm d x:=by
 cases x with
 | none=>rfl
 | some x=>simp only[c6];rw[eb h]
def anb{k:Cut}{lo hi:Option X}(h1:∀t,t∈Lv lo->ai tm' t=ai tm t)(h2:∀t,t∈Lv hi->ai tm' t=ai tm t):
  fY hp k x tm' lo hi=fY hp k x tm lo hi:=by
 unfold fY;simp only[abA h1,abA h2]
def amF(h:∀t,t∈lX o->ai tm' t=ai tm t):bm tm' hp o=bm tm hp o:=by
 cases o<;>simp only[lX,wB] at h<;>simp only[bm]
 case pick c a b=>rw[eb (x:=c) fun t ht=>h t (.inl ht),eb (x:=a) fun t ht=>h t (.inr (.inl ht)),eb (x:=b) fun t ht=>h t (.inr (.inr ht))]
 case E1 z ps=>rw[OC h]
 case qQ n s z ps=>rw[OC h]
 case Ii f a b=>rw[En (xs:=a) fun t ht=>h t (.inl ht),En (xs:=b) fun t ht=>h t (.inr ht)]
 case sD k x lo hi=>rw[eb (x:=x) fun t ht=>h t (.inl ht),anb (fun t ht=>h t (.inr (.inl ht))) (fun t ht=>h t (.inr (.inr ht)))]
 case mn xs=>rw[En h]
 case mx xs=>rw[En h]
 case bin op x y=>rw[eb (x:=x) fun t ht=>h t (.inl ht),eb (x:=y) fun t ht=>h t (.inr ht)]
 case MU x y=>rw[eb (x:=x) fun t ht=>h t (.inl ht),eb (x:=y) fun t ht=>h t (.inr ht)]
 case eq n k x y=>rw[eb (x:=x) fun t ht=>h t (.inl ht),eb (x:=y) fun t ht=>h t (.inr ht)]
 case bj s x y=>rw[eb (x:=x) fun t ht=>h t (.inl ht),eb (x:=y) fun t ht=>h t (.inr ht)]
 case Ij l s x y=>rw[eb (x:=x) fun t ht=>h t (.inl ht),eb (x:=y) fun t ht=>h t (.inr ht)]
 case Ik x y=>rw[eb (x:=x) fun t ht=>h t (.inl ht),eb (x:=y) fun t ht=>h t (.inr ht)]
 case Il l s g x y=>rw[eb (x:=x) fun t ht=>h t (.inl ht),eb (x:=y) fun t ht=>h t (.inr ht)]
 case Sn kk z ok x y=>rw[eb (x:=x) fun t ht=>h t (.inl ht),eb (x:=y) fun t ht=>h t (.inr ht)]
 all_goals first
  | rfl
  | (rename_i x;rw[eb (x:=x) h])
def JL{ap:Hp}(h:∀t,t∈lX o->ai tm' t=ai tm t):cM tm' ap ct o=cM tm hp ct o:=by
 cases o<;>simp only[lX,wB] at h<;>simp only[cM]
 case box s x=>rw[eb (x:=x) h]
 case kQ n s z ps=>rw[OC h]
 case qP s b z x y=>rw[eb (x:=x) fun t ht=>h t (.inl ht),eb (x:=y) fun t ht=>h t (.inr ht)]
 case sF x=>rw[eb (x:=x) h]
def Ek(h:∀t,t∈lX o->ai tm' t=ai tm t):cr tm' hp ct o=cr tm hp ct o:=by
 cases o<;>simp only[lX,wB] at h<;>simp only[cr]
 case st s x y=>rw[eb (x:=x) fun t ht=>h t (.inl ht),eb (x:=y) fun t ht=>h t (.inr ht)]
 case sE kk c a b=>rw[eb (x:=c) fun t ht=>h t (.inl ht),eb (x:=a) fun t ht=>h t (.inr (.inl ht)),eb (x:=b) fun t ht=>h t (.inr (.inr ht))]
 case sG x=>rw[eb (x:=x) h]
 case ew s b x y=>rw[eb (x:=x) fun t ht=>h t (.inl ht),eb (x:=y) fun t ht=>h t (.inr ht)]
 case px s x y=>rw[eb (x:=x) fun t ht=>h t (.inl ht),eb (x:=y) fun t ht=>h t (.inr ht)]
end
end
section
open Go
section
variable {r:AV}{bs:List Nat}{lo:Nat}{ae:Nat->Nat}{u:yj}
structure Calm(w w':yo):Prop where
 os:w'.os=w.os
 tape:w'.tape=w.tape
 output:w'.output=w.output
 size:w.heap.size<=w'.heap.size
 same:∀b,b<w.heap.size->w'.heap[b]? =w.heap[b]?
def Calm.refl{w:yo}:Calm w w:=⟨rfl,rfl,rfl,yx _,fun _ _=>rfl⟩
def Db(O:bC)(w:yo):Prop:=(∀b,b<O.w0.heap.size->w.heap[b]? =O.w0.heap[b]?)/\O.w0.heap.size<=w.heap.size
def fA:Mp:=fun _=>Gs
def jM(ae:Nat->Nat)(S:Nat->Prop)(w:yo)(lo:Nat):AV->yj->List Nat->Prop
 | .cR ex sz n cs,u,bs=>∃b o c arr t,bs=[b]/\u=.slice (Gr ⟨b,o,Gs⟩) n c/\n<=c/\(ex=ydy->c=n)/\lo<=b/\¬S b/\w.heap[b]? =Gr (.cells arr t (0,0))/\cs.length=n*sz/\
   o+c*sz<=arr.size/\cd ae fA S w cs b o/\aH cs=ydy
 | r,u,bs=>bs=[]/\af ae fA S w r u/\aV r=ydy
def mF(ae:Nat->Nat)(S:Nat->Prop)(w:yo)(lo:Nat):List AV->List yj->List Nat->Prop
 | [],us,bs=>us=[]/\bs=[]
 | v::r,us,bs=>∃u t b1 b2,us=u::t/\bs=b1++b2/\jM ae S w lo v u b1/\mF ae S w lo r t b2
def qv(ae:Nat->Nat)(S:Nat->Prop)(w:yo)(lo:Nat)(r:AV)(u:yj):Prop:=
 match r with
 | .av vs=>∃(us:Array yj) (bs:List Nat),u=.tuple us/\mF ae S w lo vs us.toList bs/\bs.Nodup
 | r=>∃bs,jM ae S w lo r u bs
def CQ(P:xA)(f:FuncId)(args:Array yj)(w:yo)(R:ybo->yo->Prop):Prop:=
 ((callFunc f args).run P w=.ok (.enter f args) w/\CallsIn Fence.wide 0 P f args w R)\/∃u w',(callFunc f args).run P w=.ok (.value u) w'/\R (.returned u) w'
def adg(O:bC)(w:yo)(S:Nat->Prop)(r:AV)(e:ybo)(w':yo):Prop:=
 ∃u S',e=.returned u/\Calm w w'/\(∀b,S b->S' b)/\(∀b,S' b->S b\/w.heap.size<=b)/\(∀b,S' b->b<w'.heap.size)/\qv O.ae S' w' w.heap.size r u
def eJ(O:bC)(n:Nat)(aw:List AV)(r:AV):Prop:=
 ∀(w:yo) (S:Nat->Prop) (args:Array yj),Db O w->(∀b,S b->b<w.heap.size)->aE O.ae fA S w aw args.toList->aH aw=ydy->
  CQ O.P (O.ae n) args w (adg O w S r)
def Bq(O:bC)(m:Mp)(S:Nat->Prop)(w:yo)(hp:Hp)(ct:Nat)(v:AV)(ap:Hp)(aO:Nat)(e:ybo)(w':yo):Prop:=
 ∃u m' S',e=.returned u/\aT O m' S' w' ap aO/\ct<=aO/\af O.ae m' S' w' v u/\cp m S w hp m' S' w' ap ct
def Dc(O:bC)(n:Nat)(hp:Hp)(ct:Nat)(aw:List AV)(v:AV)(ap:Hp)(aO:Nat):Prop:=
 ∀(m:Mp) (S:Nat->Prop) (w:yo) (args:Array yj),aT O m S w hp ct->aE O.ae m S w aw args.toList->CQ O.P (O.ae n) args w (Bq O m S w hp ct v ap aO)
section
variable {ae:Nat->Nat}{m m':Mp}{S S':Nat->Prop}{w w':yo}
mutual
def zk(hS:∀b,S b->S' b)(hw:gX S w w'):∀(v:AV) (u:yj),aV v=ydy->af ae m S w v u->af ae m' S' w' v u
 | .int _ _,_,_,h | .bool _,_,_,h | .an _ _,_,_,h | .dj _ _ _,_,_,h | .str _,_,_,h | .kP,_,_,h | .aj,_,_,h | .fZ,_,_,h | .jI,_,_,h | .undef,_,_,h=>by
  simpa only[af] using h
 | .ptr id o,u,hp,h=>by simp[aV] at hp
 | .bA cs,u,hp,h=>by
  simp only[af] at h ⊢;obtain⟨b,o,h1,h2,h3,h4⟩:=h;refine⟨b,o,h1,h2.imp id (hS b),h3,?_⟩;rcases h2 with rfl | h2
  .simp only [cd]
  .exact TN hS hw cs b o h3 h2 h4
 | .au ex n cs,u,hp,h=>by
  simp only[af] at h ⊢;rcases h with ⟨b,o,c,h1,h2,h3,h4,h5,h6⟩ | h
  .refine .inl ⟨b,o,c,h1,h2,h3,h4.imp id (hS b),h5,?_⟩;rcases h4 with rfl | h4
   .simp only [cd]
   .exact TN hS hw cs b o h5 h4 h6
  .exact .inr h
 | .cR _ _ _ _,u,hp,h=>by simp[aV] at hp
 | .ay id o n,u,hp,h=>by simp[aV] at hp
 | .fn (.f g) first cap,u,hp,h=>by
  simp only[af] at h ⊢;simp only[aV,yf] at hp;obtain⟨fi,ca,h1,h2,h3⟩:=h;exact⟨fi,ca,h1,Bn hS hw first _ hp.1 h2,Bn hS hw cap _ hp.2 h3⟩
 | .fn (.y l) _ _,u,hp,h=>by simp[aV] at hp
 | .map id,u,hp,h=>by simp[aV] at hp
 | .jJ ks vs,u,hp,h=>by
  simp only[af] at h ⊢;obtain⟨b,es,clock,h1,h2,h3,h4,h5,h6,h7⟩:=h;exact⟨b,es,clock,h1,hS b h2,h3,h4,(hw b h2).trans h5,Bn hS hw ks _ h3 h6,Bn hS hw vs _ h4 h7⟩
 | .it id,u,hp,h=>by simp[aV] at hp
 | .agg cs,u,hp,h=>by
  simp only[af] at h ⊢;simp only[aV] at hp;obtain⟨xs,h1,h2⟩:=h;exact⟨xs,h1,Bn hS hw cs _ hp h2⟩
 | .av cs,u,hp,h=>by
  simp only[af] at h ⊢;simp only[aV] at hp;obtain⟨xs,h1,h2⟩:=h;exact⟨xs,h1,Bn hS hw cs _ hp h2⟩
def Bn(hS:∀b,S b->S' b)(hw:gX S w w'):∀(vs:List AV) (us:List yj),aH vs=ydy->aE ae m S w vs us->aE ae m' S' w' vs us
 | [],us,_,h=>by simpa only[aE] using h
 | v::r,us,hp,h=>by
  simp only[aE] at h ⊢;simp only[aH,yf] at hp;have⟨u,t,h1,h2,h3⟩:=h;exact⟨u,t,h1,zk hS hw v u hp.1 h2,Bn hS hw r t hp.2 h3⟩
def TN(hS:∀b,S b->S' b)(hw:gX S w w'):∀(cs:List AV) (b o:Nat),aH cs=ydy->S b->cd ae m S w cs b o->cd ae m' S' w' cs b o
 | [],_,_,_,_,_=>by simp only[cd]
 | c::cs,b,o,hp,hb,h=>by
  simp only[cd] at h ⊢;simp only[aH,yf] at hp;have⟨⟨u,h1,h2⟩,h3⟩:=h;exact⟨⟨u,(N5 (hw b hb)).trans h1,zk hS hw c u hp.1 h2⟩,TN hS hw cs b (o+1) hp.2 hb h3⟩
end
def Cy(hS:∀b,S b->S' b)(hw:gX S w w'):∀(cs:List AV) (b o:Nat),aH cs=ydy->w'.heap[b]? =w.heap[b]? ->cd ae m S w cs b o->cd ae m' S' w' cs b o
 | [],_,_,_,_,_=>by simp only[cd]
 | c::cs,b,o,hp,hb,h=>by
  simp only[aH,yf] at hp;have⟨⟨u,h1,h2⟩,h3⟩:=h;exact⟨⟨u,(N5 hb).trans h1,zk hS hw c u hp.1 h2⟩,Cy hS hw cs b (o+1) hp.2 hb h3⟩
end
section
variable {O:bC}{m:Mp}{S S':Nat->Prop}{w w':yo}{hp:Hp}{ct:Nat}
def an9(hh:aT O m S w hp ct)(hw:Calm w w'):gX S w w':=fun b hb=>hw.same b (hh.slt b hb)
def Er(hh:aT O m S w hp ct)(hw:Calm w w')(hS:∀b,S b->S' b)(hn:∀b,S' b->S b\/w.heap.size<=b)(hl:∀b,S' b->b<w'.heap.size):aT O m S' w' hp ct where
 obj id o p ho hm:=Al (fun _ _ h=>h) hS (an9 hh hw) (fun q hq=>hw.same _ (hh.blt id q hq)) (fun q hq hs=>(hn _ hs).resolve_right (by have:=hh.blt id q hq;lia)) (hh.obj id o p ho hm)
 lt:=hh.lt
 inj:=hh.inj
 slt:=hl
 blt id p h:=yI (hh.blt id p h) hw.size
 low:=hh.low
 nf b hb:=(hw.same b (yI hb hh.gZ)).trans (hh.nf b hb)
 gZ:=xi hh.gZ hw.size
 aG:=hh.aG
def CI(hh:aT O m S w hp ct)(hw:Calm w w')(hS:∀b,S b->S' b)(hn:∀b,S' b->S b\/w.heap.size<=b):cp m S w hp m S' w' hp base where
 os:=hw.os
 tape:=hw.tape
 output:=hw.output
 size:=hw.size
 same b hb _:=hw.same b hb
 sub:=hS
 still b hb:=hw.same b (hh.slt b hb)
 new b hb:=(hn b hb).imp id .inr
 own b hb:=.inl hb
 old _ _ _ h:=h
 loops b r hb:=⟨r,(hw.same b (xC.1 hb).1).trans hb⟩
def ap5{i:Nat}(hh:aT O m S w hp ct)(hi:m i=Gs)(Ip:i<ct){p:Pl}(hb:p.b<w.heap.size)(aZ:O.w0.heap.size<=p.b)(Iq:¬S p.b)(qY:∀j q,m j=Gr q->q.b≠p.b)(hf:∀o,ak hp i=Gr o->(gh O (gi m i p) S w i o/\¬kM o)\/(kM o/\gh O (gi m i p) (fun b=>S b\/b=p.b) w i o)):
  ∃S',aT O (gi m i p) S' w hp ct/\(∀b,S b->S' b)/\∀b,S' b->S b\/b=p.b:=by
 have aM:gX S w w:=fun _ _=>rfl
 have gen:∀S':Nat->Prop,(∀b,S b->S' b)->(∀b,S' b->S b\/b=p.b)->(∀o,ak hp i=Gr o->gh O (gi m i p) S' w i o)->aT O (gi m i p) S' w hp ct:=by
  intro S' h1 h2 h3;refine⟨?_,?_,?_,?_,?_,?_,hh.nf,hh.gZ,hh.aG⟩
  .intro id o q ho hm;by_cases hc:id=i
   .grind
   .rw [eN hc] at hm;refine Al (lS hi) h1 aM (fun _ _=>rfl) (fun q' bI hs=>?_) (hh.obj id o q ho hm)
    grind
  .intro id q hm;by_cases hc:id=i
   .grind
   .rw [eN hc] at hm;exact hh.lt id q hm
  .intro a b oa ob pa pb ha bE FV BP e;by_cases ca:a=i
   .by_cases cb:b=i
    .grind
    .subst ca;rw[ek] at FV;rw[eN cb] at BP
     grind
   .rw [eN ca] at FV;by_cases cb:b=i
    .subst cb;rw[ek] at BP
     grind
    .rw [eN cb] at BP;exact hh.inj a b oa ob pa pb ha bE FV BP e
  .intro b hs;rcases h2 b hs with h | h
   .exact hh.slt b h
   .grind
  .intro id q hm;by_cases hc:id=i
   .subst hc;rw[ek] at hm
    grind
   .rw [eN hc] at hm;exact hh.blt id q hm
  .intro id q hm;by_cases hc:id=i
   .subst hc;rw[ek] at hm
    grind
   .rw [eN hc] at hm;exact hh.low id q hm
 cases ho:ak hp i with
 | none=>exact⟨S,gen S (fun _ h=>h) (fun _ h=>.inl h) (fun o h=>by rw[ho] at h;cases h),fun _ h=>h,fun _ h=>.inl h⟩
 | some o=>
  rcases hf o ho with ⟨h1,_⟩ | ⟨_,h1⟩
  .exact ⟨S,gen S (fun _ h=>h) (fun _ h=>.inl h) (fun o' h=>by rw[ho] at h;injection h with h;subst h;exact h1),fun _ h=>h,fun _ h=>.inl h⟩
  .exact ⟨_,gen (fun b=>S b\/b=p.b) (fun _ h=>.inl h) (fun _ h=>h) (fun o' h=>by rw[ho] at h;injection h with h;subst h;exact h1),fun _ h=>.inl h,fun _ h=>h⟩
def acj(h:jM ae S w lo r u bs)(m:Mp)(hS:∀b,S b->S' b)(FX:∀b,b∈bs->S' b):af ae m S' w (bH r) u:=by
 have aM:gX S w w:=fun _ _=>rfl
 cases r with
 | cR ex sz n cs=>
  obtain⟨b,o,c,arr,t,rfl,rfl,h1,h2,h3,h4,h5,h6,h7,h8,h9⟩:=h;exact .inl ⟨b,o,c,rfl,h1,h2,.inr (FX b (by simp)),h9,Cy hS aM cs b o h9 rfl h8⟩
 | _=>simp only[jM] at h;exact zk hS aM _ _ h.2.2 h.2.1
def ack{ae:Nat->Nat}{lo:Nat}(m:Mp)(hS:∀b,S b->S' b):∀{vs:List AV} {us:List yj} {bs:List Nat},mF ae S w lo vs us bs->(∀b,b∈bs->S' b)->aE ae m S' w (E2 vs) us
 | [],us,bs,h,_=>by simp only[mF] at h;exact h.1
 | v::r,us,bs,h,hb=>by
  obtain⟨u,t,b1,b2,rfl,rfl,h1,h2⟩:=h;exact⟨u,t,rfl,acj h1 m hS (fun b bE=>hb b (by simp[bE])),ack m hS h2 (fun b bE=>hb b (by simp[bE]))⟩
def Vh(h:jM ae S w lo r u bs):∀b,b∈bs->lo<=b/\b<w.heap.size:=by
 intro b hb
 cases r with
 | cR ex sz n cs=>
  simp only[jM] at h
  grind
 | _=>simp only[jM] at h;rw[h.1] at hb;cases hb
def Vi{ae:Nat->Nat}{lo:Nat}:∀{vs:List AV} {us:List yj} {bs:List Nat},mF ae S w lo vs us bs->∀b,b∈bs->lo<=b/\b<w.heap.size
 | [],us,bs,h,b,hb=>by simp only[mF] at h;rw[h.2] at hb;cases hb
 | v::r,us,bs,h,b,hb=>by
  obtain⟨u,t,b1,b2,rfl,rfl,h1,h2⟩:=h;rcases wB.1 hb with hb | hb
  .exact Vh h1 b hb
  .exact Vi h2 b hb
def acm(h:qv ae S w lo r u)(m:Mp):∃S',(∀b,S b->S' b)/\(∀b,S' b->S b\/(lo<=b/\b<w.heap.size))/\af ae m S' w (shut r) u:=by
 have one:∀(r:AV) (bs:List Nat),shut r=bH r->jM ae S w lo r u bs->∃S',(∀b,S b->S' b)/\(∀b,S' b->S b\/(lo<=b/\b<w.heap.size))/\af ae m S' w (shut r) u:=by
  intro r bs hs h;refine⟨fun b=>S b\/b∈bs,fun _ h=>.inl h,fun b hb=>hb.imp (fun x=>x) (fun hb=>Vh h b hb),?_⟩;rw[hs];exact acj h m (fun _ h=>.inl h) (fun _ h=>.inr h)
 cases r with
 | av vs=>
  obtain⟨us,bs,rfl,h1,h2⟩:=h;refine⟨fun b=>S b\/b∈bs,fun _ h=>.inl h,fun b hb=>hb.imp (fun x=>x) (fun hb=>Vi h1 b hb),?_⟩;exact⟨us,rfl,ack m (fun _ h=>.inl h) h1 (fun _ h=>.inr h)⟩
 | _=>
  have⟨bs,h⟩:=h;exact one _ bs rfl h
end
end
end
section
open Go
section
variable {r:AV}{hp:Hp}{ct:Nat}
section
variable {O:bC}{m:Mp}{S:Nat->Prop}{w:yo}{H:Hp}{cH:Nat}
def Pn:ct<=(gg hp ct r).2.2:=by
 cases r<;>simp only[gg]<;>lia
def Po:∀{vs:List AV} {hp:Hp} {ct:Nat},ct<=(lH hp ct vs).2.2
 | [],hp,ct=>by simp[lH]
 | v::r,hp,ct=>by
  simp only[lH];have h1:=Pn (hp:=hp) (ct:=ct) (r:=v);have h2:=Po (vs:=r) (hp:=(gg hp ct v).2.1) (ct:=(gg hp ct v).2.2)
  lia
def Vj(hf:∀id o,ak hp id=Gr o->id<ct):∀id o,ak hp id=Gr o->ak (gg hp ct r).2.1 id=Gr o:=by
 intro id o h;cases r<;>simp only[gg]<;>try exact h
 rw[iG,yp (by have:=hf id o h;lia)]
 exact h
def aez{lo:Nat}{u:yj}{bs:List Nat}(hh:aT O m S w H cH)(hl:dd (gg hp ct r).2.1 H)(iS:(gg hp ct r).2.2<=cH)(hn:∀id,ct<=id->id<(gg hp ct r).2.2->m id=Gs)(hr:jM O.ae S w lo r u bs)(aZ:O.w0.heap.size<=lo)(qY:∀j q,m j=Gr q->q.b∉bs):
  ∃m' S',aT O m' S' w H cH/\dI m m'/\(∀id p,m' id=Gr p->m id=Gr p\/(ct<=id/\id<(gg hp ct r).2.2/\p.b∈bs))/\af O.ae m' S' w (gg hp ct r).1 u/\(∀b,S b->S' b)/\(∀b,S' b->S b\/b∈bs):=by
 have aM:gX S w w:=fun _ _=>rfl
 cases r with
 | cR ex sz n cs=>
  simp only[gg] at hl iS hn;obtain⟨b,o,c,arr,t,rfl,rfl,h1,h2,h3,h4,h5,h6,h7,h8,h9⟩:=hr;have bL:m ct=Gs:=hn ct (yx _) (Nat.lt_succ_self _);have aAX:b<w.heap.size:=(xC.1 h5).1;have qX:gh O (gi m ct ⟨b,o,c*sz,sz⟩) S w ct (.cells ydy ydy ex sz cs):=by
   refine⟨_,arr,t,ek,h5,rfl,?_,h7,fun hx=>?_,Cy (fun _ h=>h) aM cs b o h9 rfl h8,fun _=>h9,fun _=>h4,by simp⟩
   .show cs.length<=c*sz
    rw[h6];exact yX _ h1
   .grind
  have⟨S',k1,k2,k3⟩:=ap5 (p:=⟨b,o,c*sz,sz⟩) hh bL (by lia) aAX (by show _<=b;lia) h4 (fun j q hq e=>qY j q hq (by rw[e];simp)) (fun o' mL=>by
   have⟨o'',g1,g2⟩:=hl ct (.cells ydy ydy ex sz cs) (by rw[iG];simp)
   rw[mL] at g1;injection g1 with g1
   subst g1
   exact aa6 (p:=⟨b,o,c*sz,sz⟩) g2 ek qX (by simp[kM]))
  refine⟨_,S',k1,lS bL,fun id p ap=>?_,?_,k2,fun b' bE=>(k3 b' bE).imp (fun h=>h) (fun h=>by rw[h];simp)⟩
  .by_cases hc:id=ct
   .subst hc;rw[ek] at ap;injection ap with ap
    subst ap;exact .inr ⟨yx _,by simp[gg],by simp⟩
   .rw [eN hc] at ap;exact .inl ap
  .simp only [gg,af];exact⟨_,c,ek,by simp,h1,by simp⟩
 | _=>
  exact⟨m,S,hh,dI.refl,fun _ _ h=>.inl h,zk (fun _ h=>h) aM _ _ hr.2.2 hr.2.1,fun _ h=>h,fun _ h=>.inl h⟩
def Kl(hf:∀id o,ak hp id=Gr o->id<ct):∀id o,ak (gg hp ct r).2.1 id=Gr o->id<(gg hp ct r).2.2:=by
 intro id o h;cases r<;>simp only[gg] at h ⊢<;>try exact hf id o h
 rw[iG] at h
 grind
def Pq:∀{vs:List AV} {hp:Hp} {ct:Nat},(∀id o,ak hp id=Gr o->id<ct)->∀id o,ak hp id=Gr o->ak (lH hp ct vs).2.1 id=Gr o
 | [],hp,ct,_,id,o,h=>by simpa[lH] using h
 | v::r,hp,ct,hf,id,o,h=>by
  exact Pq (Kl hf) id o (Vj hf id o h)
def aeA{lo:Nat}(aZ:O.w0.heap.size<=lo):∀{vs:List AV} {us:List yj} {bs:List Nat} {hp:Hp} {ct:Nat} {m:Mp} {S:Nat->Prop},aT O m S w H cH->dd (lH hp ct vs).2.1 H->(lH hp ct vs).2.2<=cH->
  (∀id o,ak hp id=Gr o->id<ct)->(∀id,ct<=id->id<(lH hp ct vs).2.2->m id=Gs)->
  mF O.ae S w lo vs us bs->bs.Nodup->(∀j q,m j=Gr q->q.b∉bs)->
  ∃m' S',aT O m' S' w H cH/\dI m m'/\(∀id p,m' id=Gr p->m id=Gr p\/(ct<=id/\id<(lH hp ct vs).2.2/\p.b∈bs))/\aE O.ae m' S' w (lH hp ct vs).1 us/\(∀b,S b->S' b)/\(∀b,S' b->S b\/b∈bs)
 | [],us,bs,hp,ct,m,S,hh,hl,iS,hf,hn,hr,kV,qY=>by
  simp only[mF] at hr;exact⟨m,S,hh,dI.refl,fun _ _ h=>.inl h,by simp only[lH,aE];exact hr.1,fun _ h=>h,fun _ h=>.inl h⟩
 | v::r,us,bs,hp,ct,m,S,hh,hl,iS,hf,hn,hr,kV,qY=>by
  simp only[mF] at hr;obtain⟨u,t,b1,b2,rfl,rfl,h1,h2⟩:=hr;simp only[lH] at hl iS hn ⊢;have eY:=Pn (hp:=hp) (ct:=ct) (r:=v);have DO:=Po (vs:=r) (hp:=(gg hp ct v).2.1) (ct:=(gg hp ct v).2.2);rw[List.nodup_append] at kV;have⟨m1,S1,k1,k2,k3,k4,k5,k6⟩:=aez (hp:=hp) (ct:=ct) (lo:=lo) hh ((fun id o h=>hl id o (Pq (Kl hf) id o h))) (by lia) (fun id g1 g2=>hn id g1 (by lia)) h1 aZ
   (fun j q hq hb=>qY j q hq (by simp[hb]))
  have h2':mF O.ae S1 w lo r t b2:=by
   clear k4;have Xl:∀b,S1 b->S b\/b∈b1:=k6;have hd:∀b,b∈b2->b∉b1:=fun b hb kj=>kV.2.2 b kj b hb rfl
   have one:∀{v:AV} {u:yj} {bb:List Nat},(∀b,b∈bb->b∉b1)->jM O.ae S w lo v u bb->jM O.ae S1 w lo v u bb:=by
    intro v u bb A4 h
    cases v with
    | cR ex sz n cs=>
     simp only[jM] at h ⊢;obtain⟨b,o,c,arr,tt,rfl,rfl,g1,g2,g3,g4,g5,g6,g7,g8,g9⟩:=h;exact⟨b,o,c,arr,tt,rfl,rfl,g1,g2,g3,fun hs=>(Xl b hs).elim g4 (A4 b (by simp)),g5,g6,g7,Cy k5 (fun _ _=>rfl) cs b o g9 rfl g8,g9⟩
    | _=>simp only[jM] at h ⊢;exact⟨h.1,zk k5 (fun _ _=>rfl) _ _ h.2.2 h.2.1,h.2.2⟩
   clear k1 k2 k3 hl iS hn qY kV;revert hd h2;generalize b2=bb
   induction r generalizing t bb with
   | nil=>intro h2 hd;simpa only[mF] using h2
   | cons v' r ih=>
    intro h2 hd;simp only[mF] at h2 ⊢;obtain⟨u',t',c1,c2,rfl,rfl,g1,g2⟩:=h2
    exact⟨u',t',c1,c2,rfl,rfl,one (fun b hb=>hd b (by simp[hb])) g1,ih _ (by
     have:=Po (vs:=r) (hp:=(gg hp ct v).2.1) (ct:=(gg hp ct v).2.2)
     exact this) _ g2 (fun b hb=>hd b (by simp[hb]))⟩
  have⟨m2,S2,g1,g2,g3,g4,g5,g6⟩:=aeA aZ (vs:=r) (us:=t) (bs:=b2) (m:=m1) (S:=S1) k1 hl iS (Kl hf) (fun id q1 q2=>by
   cases hq:m1 id with
   | none=>rfl
   | some p=>
    rcases k3 id p hq with h | ⟨_,h,_⟩
    .rw [hn id (by lia) q2] at h;cases h
    .lia) h2' kV.2.1 (fun j q hq hb=>by
     rcases k3 j q hq with h | ⟨_,_,h⟩
     .exact qY j q h (by simp[hb])
     .exact kV.2.2 q.b h q.b hb rfl)
  refine⟨m2,S2,g1,k2.trans g2,fun id p ap=>?_,?_,fun b hb=>g5 b (k5 b hb),fun b hb=>?_⟩
  .rcases g3 id p ap with h | ⟨a1,a2,a3⟩
   .rcases k3 id p h with h | ⟨a1,a2,a3⟩
    .exact .inl h
    .exact .inr ⟨a1,by lia,by simp[a3]⟩
   .exact .inr ⟨by lia,a2,by simp[a3]⟩
  .simp only [aE];exact⟨u,t,rfl,nN g2 g5 (fun _ _=>rfl) _ _ k4,g4⟩
  .rcases g6 b hb with h | h
   .exact (k6 b h).imp (fun h=>h) (fun h=>by simp[h])
   .exact .inr (by simp[h])
def au0{lo:Nat}{u:yj}(hh:aT O m S w H cH)(hl:dd (own hp ct r).2.1 H)(iS:(own hp ct r).2.2<=cH)(hf:∀id o,ak hp id=Gr o->id<ct)(hn:∀id,ct<=id->id<(own hp ct r).2.2->m id=Gs)(hr:qv O.ae S w lo r u)(aZ:O.w0.heap.size<=lo)(M3:∀j q,m j=Gr q->q.b<lo):
  ∃m' S',aT O m' S' w H cH/\dI m m'/\(∀id p,m' id=Gr p->m id=Gr p\/(ct<=id/\id<(own hp ct r).2.2/\lo<=p.b))/\af O.ae m' S' w (own hp ct r).1 u/\(∀b,S b->S' b)/\(∀b,S' b->S b\/lo<=b):=by
 have one:∀(r:AV) (bs:List Nat),own hp ct r=gg hp ct r->jM O.ae S w lo r u bs->dd (own hp ct r).2.1 H->(own hp ct r).2.2<=cH->(∀id,ct<=id->id<(own hp ct r).2.2->m id=Gs)->
   ∃m' S',aT O m' S' w H cH/\dI m m'/\(∀id p,m' id=Gr p->m id=Gr p\/(ct<=id/\id<(own hp ct r).2.2/\lo<=p.b))/\af O.ae m' S' w (own hp ct r).1 u/\(∀b,S b->S' b)/\(∀b,S' b->S b\/lo<=b):=by
  intro r bs he hr hl iS hn;rw[he] at hl iS hn ⊢;have Fk:=Vh hr;have⟨m',S',k1,k2,k3,k4,k5,k6⟩:=aez hh hl iS hn hr aZ (fun j q hq hb=>by have:=M3 j q hq;have:=(Fk _ hb).1;lia)
  exact⟨m',S',k1,k2,fun id p h=>(k3 id p h).imp (fun h=>h) (fun h=>⟨h.1,h.2.1,(Fk _ h.2.2).1⟩),k4,k5,fun b hb=>(k6 b hb).imp (fun h=>h) (fun h=>(Fk _ h).1)⟩
 cases r with
 | av vs=>
  simp only[own] at hl iS hn ⊢;simp only[qv] at hr;obtain⟨us,bs,rfl,h1,h2⟩:=hr;have Fk:=Vi h1;have⟨m',S',k1,k2,k3,k4,k5,k6⟩:=aeA aZ hh hl iS hf hn h1 h2 (fun j q hq hb=>by have:=M3 j q hq;have:=(Fk _ hb).1;lia)
  exact⟨m',S',k1,k2,fun id p h=>(k3 id p h).imp (fun h=>h) (fun h=>⟨h.1,h.2.1,(Fk _ h.2.2).1⟩),by simp only[af];exact⟨us,rfl,k4⟩,k5,fun b hb=>(k6 b hb).imp (fun h=>h) (fun h=>(Fk _ h).1)⟩
 | _=>
  simp only[qv] at hr;have⟨bs,hr⟩:=hr;exact one _ bs rfl hr hl iS hn
end
end
end
section
open Go
section
variable {tmps:Array yj}{seen:List Nat}
section
variable {O:bC}{m m':Mp}{S:Nat->Prop}{w:yo}{f:Nat->Option Nat}
def Hn(f:Nat->Option Nat)(m m':Mp):Prop:=∀id j,f id=Gr j->m' j=m id
mutual
def aeB{ae:Nat->Nat}(hf:Hn f m m'):∀(v:AV) (u:yj),af ae m S w v u->af ae m' S w (br f v) u
 | .int _ _,_,h | .bool _,_,h | .an _ _,_,h | .dj _ _ _,_,h | .str _,_,h | .kP,_,h | .aj,_,h | .fZ,_,h | .jI,_,h | .undef,_,h=>by
  simpa only[br,af] using h
 | .ptr id o,u,h=>by
  simp only[br]
  cases hi:f id with
  | none=>simp only[af]
  | some j=>
   simp only[af] at h ⊢;rw[hf id j hi];exact h
 | .bA cs,u,h=>by
  simp only[br];exact zk (fun _ h=>h) (fun _ _=>rfl) _ _ (by simp[aV]) h
 | .au ex n cs,u,h=>by
  simp only[br];exact zk (fun _ h=>h) (fun _ _=>rfl) _ _ (by simp[aV]) h
 | .cR _ _ _ _,u,h=>by simp only[af] at h
 | .ay id o n,u,h=>by
  simp only[br]
  cases hi:f id with
  | none=>simp only[af]
  | some j=>
   simp only[af] at h ⊢;rw[hf id j hi];exact h
 | .fn (.f g) first cap,u,h=>by
  simp only[br,af] at h ⊢;obtain⟨fi,ca,h1,h2,h3⟩:=h;exact⟨fi,ca,h1,CJ hf first _ h2,CJ hf cap _ h3⟩
 | .fn (.y l) first cap,u,h=>by
  simp only[br]
  cases hi:f l with
  | none=>simp only[af]
  | some j=>
   simp only[af] at h ⊢;rw[hf l j hi];exact h
 | .map id,u,h=>by
  simp only[br]
  cases hi:f id with
  | none=>simp only[af]
  | some j=>
   simp only[af] at h ⊢;rw[hf id j hi];exact h
 | .jJ ks vs,u,h=>by
  simp only[br];exact zk (fun _ h=>h) (fun _ _=>rfl) _ _ (by simp[aV]) h
 | .it id,u,h=>by
  simp only[br]
  cases hi:f id with
  | none=>simp only[af]
  | some j=>
   simp only[af] at h ⊢;rw[hf id j hi];exact h
 | .agg cs,u,h=>by
  simp only[br,af] at h ⊢;obtain⟨xs,h1,h2⟩:=h;exact⟨xs,h1,CJ hf cs _ h2⟩
 | .av cs,u,h=>by
  simp only[br,af] at h ⊢;obtain⟨xs,h1,h2⟩:=h;exact⟨xs,h1,CJ hf cs _ h2⟩
def CJ{ae:Nat->Nat}(hf:Hn f m m'):∀(vs:List AV) (us:List yj),aE ae m S w vs us->aE ae m' S w (dD f vs) us
 | [],us,h=>by simpa only[dD,aE] using h
 | v::r,us,h=>by
  simp only[dD,aE] at h ⊢;have⟨u,t,h1,h2,h3⟩:=h;exact⟨u,t,h1,aeB hf v u h2,CJ hf r t h3⟩
end
def aoa{ae:Nat->Nat}(hf:Hn f m m'){cs:List AV}{b o:Nat}(h:cd ae m S w cs b o):cd ae m' S w (dD f cs) b o:=by
 have⟨us,h1,_,h3⟩:=Bm cs b o h;exact GD _ us o (CJ hf cs us h1) h3
def UL:∀cs:List AV,(dD f cs).length=cs.length
 | []=>rfl
 | c::r=>by simp[dD,UL r]
def adh:∀(tm:Env) (i:Nat),ai (fM f tm) i=br f (ai tm i)
 | [],i=>by simp[fM,ai,br]
 | (j,v)::r,i=>by
  simp only[fM,ai]
  cases yt j i with
  | true=>rfl
  | false=>exact adh r i
def acn(tm:Env)(i:Nat):∀live:List Nat,ai (bD tm live) i=ai tm i\/ai (bD tm live) i=.undef
 | []=>.inr rfl
 | j::r=>by
  simp only[bD,ai]
  cases hb:yt j i with
  | true=>rw[yi hb];exact .inl rfl
  | false=>exact acn tm i r
def adi{tm:Env}(hf:Hn f m m')(h:cg O m S w tm tmps):cg O m' S w (fM f tm) tmps:=fun i=>by
 rw[adh];exact aeB hf _ _ (h i)
def ap6{id j:Nat}{o:Obj}{p:Pl}(hf:Hn f m m')(hm:m id=Gr p)(hj:m' j=Gr p)(h:gh O m S w id o):gh O m' S w j (fo f o):=by
 cases o with
 | cells rw pu ex sz cs=>
  have⟨q,arr,t,h1,h2,h3,h4,h5,h6,h7,h8,h9,jo⟩:=h;rw[hm] at h1;injection h1 with h1;subst h1
  cases pu with
  | true=>exact⟨p,arr,t,hj,h2,h3,h4,h5,h6,Cy (fun _ h=>h) (fun _ _=>rfl) _ _ _ (h8 rfl) rfl h7,h8,h9,jo⟩
  | false=>exact⟨p,arr,t,hj,h2,h3,by rw[yT,UL];exact h4,h5,by rw[yT,UL];exact h6,aoa hf h7,by simp,h9,jo⟩
 | mp rw ks vs=>
  have⟨q,es,clock,h1,h2,h3,h4,h5,h6⟩:=h;rw[hm] at h1;injection h1 with h1;subst h1
  exact⟨p,es,clock,hj,h2,CJ hf _ _ h3,CJ hf _ _ h4,h5,h6⟩
 | si s pos=>
  have⟨q,t,h1,h2,h3,h4⟩:=h;rw[hm] at h1;injection h1 with h1;subst h1
  exact⟨p,t,hj,h2,h3,h4⟩
 | lp tm ps as_ body st pe=>
  have⟨q,l,hi,h1,h2,h3,h4,h5,h6,h7,h8⟩:=h;rw[hm] at h1;injection h1 with h1;subst h1
  exact⟨p,l,hi,hj,h2,h3,h4,h5,h6,adi hf h7,h8⟩
def aco{i:Nat}:∀{l:List Nat} {k j:Nat},fN i l k=Gr j->k<=j/\l[j-k]? =Gr i
 | [],k,j,h=>by simp[fN] at h
 | x::r,k,j,h=>by
  simp only[fN] at h
  cases hb:yt x i with
  | true=>
   simp_all
  | false=>
   rw[hb] at h;have⟨h1,h2⟩:=aco h
   grind
def rL{b:Nat}:yQ a b=ydy↔a<b:=by simp_all
def Oj{hp:Hp}{j:Nat}{o':Obj}:∀{l:List Nat} {k:Nat} {acc:Hp},ak (ep hp f l k acc) j=Gr o'->
  (∃i id o,l[i]? =Gr id/\j=k+i/\ak hp id=Gr o/\o'=fo f o)\/ak acc j=Gr o'
 | [],k,acc,h=>.inr h
 | x::r,k,acc,h=>by
  simp only[ep] at h
  cases hx:ak hp x with
  | none=>
   simp only[hx] at h;rcases Oj h with ⟨i,id,o,h1,h2,h3,h4⟩ | h
   .exact .inl ⟨i+1,id,o,by simpa using h1,by lia,h3,h4⟩
   .grind
  | some o=>
   simp only[hx] at h;rcases Oj h with ⟨i,id,o,h1,h2,h3,h4⟩ | h
   .exact .inl ⟨i+1,id,o,by simpa using h1,by lia,h3,h4⟩
   .rw [iG] at h;by_cases hc:k=j
    .simp only [hc,xS,yc] at h;exact .inl ⟨0,x,o,by simp,by lia,hx,h.symm⟩
    .grind
def Ok{base:Nat}{j:Nat}{o':Obj}:∀{hp:Hp},ak (gM base f hp) j=Gr o'->j<base/\∃o,ak hp j=Gr o/\o'=fo f o
 | [],h=>by simp[gM,ak] at h
 | (i,q)::r,h=>by
  simp only[gM] at h
  cases hb:yQ i base with
  | true=>
   rw[hb] at h;simp only[yy] at h;rw[iG] at h;by_cases hc:i=j
   .simp only [hc,xS,yc] at h;exact⟨by rw[<-hc];exact rL.1 hb,q,by rw[iG];simp[hc],h.symm⟩
   .simp only [hc,xz] at h;have⟨h1,o,h2,h3⟩:=Ok h;exact⟨h1,o,by rw[iG];simp[hc,h2],h3⟩
  | false=>
   rw[hb] at h;have⟨h1,o,h2,h3⟩:=Ok h;have hc:¬i=j:=fun e=>by
    have:=rL.2 h1
    grind
   exact⟨h1,o,by rw[iG];simp[hc,h2],h3⟩
def sf(m:Mp)(base:Nat)(seen:List Nat):Mp:=fun j=>
 if j<base then m j else match seen[j-base]? with
  | some id=>if iK base seen id=Gr j then m id else Gs
  | none=>Gs
def Un{j:Nat}{p:Pl}(h:sf m base seen j=Gr p):∃id,iK base seen id=Gr j/\m id=Gr p/\(j<base->id=j):=by
 unfold sf at h
 split at h
 .rename_i hj;exact⟨j,by simp[iK,rL.2 hj],h,fun _=>rfl⟩
 .grind
def ap7:Hn (iK base seen) m (sf m base seen):=by
 intro id j h;have h0:=h;unfold iK at h
 cases hb:yQ id base with
 | true=>
  rw[hb] at h;simp only[yy,yc] at h;subst h;simp[sf,rL.1 hb]
 | false=>
  rw[hb] at h;have⟨h1,h2⟩:=aco h
  have:¬j<base:=by lia
  simp only[sf,this,xz,h2,h0,xS]
def TO{s:St}{live:List Nat}(ht:cg O m S w s.tm tmps)(hh:aT O m S w s.hp s.ct)(hb:s.base<=s.ct):
  ∃m',cg O m' S w (bB live s).tm tmps/\aT O m' S w (bB live s).hp (bB live s).ct/\(bB live s).base=s.base/\s.base<=(bB live s).ct/\cp m S w s.hp m' S w (bB live s).hp s.base:=by
 simp only[bB];generalize Qa:reach s.hp s.base 100000 (dN (bD s.tm live)++cG s.base s.hp) []=seen;have hr:=ap7 (m:=m) (base:=s.base) (seen:=seen);have aG:∀j p,sf m s.base seen j=Gr p->j<s.base+seen.length:=by
  intro j p h;unfold sf at h
  grind
 have back:∀j o' p,ak (ep s.hp (iK s.base seen) seen s.base (gM s.base (iK s.base seen) s.hp)) j=Gr o'->sf m s.base seen j=Gr p->
   ∃id o,iK s.base seen id=Gr j/\ak s.hp id=Gr o/\m id=Gr p/\o'=fo (iK s.base seen) o:=by
  intro j o' p ho hm;have⟨id,h1,h2,h3⟩:=Un hm;rcases Oj ho with ⟨i,Zk,o,g1,g2,g3,g4⟩ | ho
  .have hj:¬j<s.base:=by lia
   have:sf m s.base seen j=if iK s.base seen Zk=Gr j then m Zk else Gs:=by
    simp only[sf,hj,xz,show j-s.base=i by lia,g1]
   grind
  .have ⟨g1,o,g2,g3⟩:=Ok ho
   grind
 refine⟨sf m s.base seen,?_,⟨?_,aG,?_,hh.slt,?_,?_,hh.nf,hh.gZ,fun j o' ho=>(by
  rcases Oj ho with ⟨i,Zk,o,g1,g2,g3,g4⟩ | ho
  .grind
  .have:=(Ok ho).1;lia)⟩,by trivial,by lia,⟨rfl,rfl,rfl,yx _,fun _ _ _=>rfl,fun _ h=>h,fun _ _=>rfl,fun _ h=>.inl h,?_,?_,fun _ r h=>⟨r,h⟩⟩⟩
 .refine adi hr (fun i=>?_);rcases acn s.tm i live with h | h
  .rw [h];exact ht i
  .rw [h];simp only[af]
 .intro j o' p ho hm;obtain⟨id,o,h1,h2,h3,rfl⟩:=back j o' p ho hm;exact ap6 hr h3 hm (hh.obj id o p h2 h3)
 .intro i j oi oj pi pj hi hj bL iz e;have⟨idi,o1,a1,a2,a3,_⟩:=back i oi pi hi bL;have⟨idj,o2,b1,b2,b3,_⟩:=back j oj pj hj iz
  have:=hh.inj idi idj o1 o2 pi pj a2 b2 a3 b3 e
  grind
 .intro j p hm;have⟨id,_,h2,_⟩:=Un hm;exact hh.blt id p h2
 .intro j p hm;have⟨id,_,h2,_⟩:=Un hm;exact hh.low id p h2
 .rintro b ⟨j,o',p,h1,h2,h3⟩;have⟨id,o,_,g2,g3,_⟩:=back j o' p h1 h2;exact .inl ⟨id,o,p,g2,g3,h3⟩
 .intro id p hid hm;simp[sf,hid,hm]
end
end
end
end VE
