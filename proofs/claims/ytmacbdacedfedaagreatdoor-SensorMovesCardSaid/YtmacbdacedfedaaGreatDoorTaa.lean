import GoSem.Core.Code
import GoSem.Core.Float
import GoSem.Core.Utf8
import Derived.CallsIn
import Derived.Laws.World
import GoSem.Op.Equal
import GoSem.Core.Region
import Derived.Below
import Derived.Laws.AppendOwn
import Derived.Laws.Rows
import Derived.WalkKit
import Derived.Laws.CopyRow
import Derived.Laws.Cells
import Derived.Laws.Strings
import Derived.Lib.Strings
import Derived.WideLaws
import Derived.Maps.Keyed
import Derived.ChangeKeysEq
import Derived.Laws.Tables
import Derived.IntWalk
import Derived.Laws.CopyOwn
set_option linter.all false
set_option maxRecDepth 100000
open Array renaming getElem?_eq_some_iff->xt,getElem?_modify->yaQ,getElem?_toList->tq,length_toList->vG,range->tJ
open BitVec renaming ofInt->wB
open Bool renaming and_assoc->yaz,and_eq_true->ye,eq_iff_iff->yaq,false_eq_true->yC,not_eq_true'->vS
open ForInStep renaming yield->yaY
open Go renaming Addr->uK,BinOp->vd,Code->vz,Ending->yba,Field->ub,FloatKind->xW,FuncId->tW,IntKind->xd,Loop->uV,MapEntry->ve,Next->yaP,Obj->yar,Oper->yT,Operand->xr,Program->xm,TypeDesc->tS,TypeId->yv,TypeInfo->ydd,UnOp->ycM,Value->yg,World->yi,binOp->xY,sizeOf->vA
open Go.Utf8 renaming runeError->uM,valid->ybv
open List renaming all_cons->yal,append_assoc->xx,cons_append->yx,drop_drop->vH,eq_nil_of_length_eq_zero->yK,ext_getElem?->ybq,flatten_append->ybc,flatten_cons->uB,getElem?_append_left->wK,getElem?_append_right->wA,getElem?_drop->ybm,getElem?_eq_getElem->yN,getElem?_map->uW,getElem?_take_of_lt->tf,getElem?_toArray->yaS,length_append->yJ,length_cons->yy,length_drop->wD,length_take->yQ,map_cons->yZ,map_eq_nil_iff->ybb,mem_append->xH,range->wF,replicate->yp,replicate_succ->wO,size_toArray->tr,take_of_length_le->yG,take_succ_cons->wM,take_zero->ybP
open List.cons renaming injEq->um
open Nat renaming add_assoc->tM,add_mul->xP,add_zero->yW,beq->ym,beq_eq->ycZ,beq_refl->wV,ble->yA,ble_eq->yda,blt->yI,eq_of_beq_eq_true->yf,eq_zero_or_pos->xq,le_of_ble_eq_true->yr,le_refl->yu,le_trans->xo,lt_of_lt_of_le->yE,min_le_left->ybR,mul_comm->xp,mul_le_mul_right->yU,one_mul->ybx,testBit->vI,zero_add->yd
open Option renaming isSome_none->tR,map_none->uy,map_some->wU
open Option.some renaming injEq->yb
open PUnit renaming unit->yaw
open Prod.mk renaming injEq->yj
open UInt8 renaming toNat->xg,toNat_inj->ybw
open Option renaming some->Ft,none->Fu
open Bool renaming true->ydh,false->ydi
def vQ:=@and_true
def tX:=@beq_iff_eq
def tT:=@beq_self_eq_true
def yO:=@cond_false
def yq:=@cond_true
def xv:=@decide_eq_false
def xT:=@decide_eq_true
def tI:=@decide_eq_true_eq
def xb:=@decide_false
def yX:=@decide_true
def ycx:=@false_or
def xy:=@if_false
def yz:=@if_neg
def yP:=@if_pos
def xQ:=@if_true
def ydb:=@not_false_eq_true
def ydc:=@not_true_eq_false
namespace VE
section
open Go (IntKind FloatKind BinOp UnOp)
inductive Fr where
 | f (n:Nat)
 | y (l:Nat)
 deriving DecidableEq,Inhabited
inductive AV where
 | int (k:xd) (n:Int)
 | bool (b:Bool)
 | ao (k:xW) (bits:Nat)
 | cW (k:xW) (re im:Nat)
 | str (s:List Nat)
 | jY
 | ptr (id off:Nat)
 | bq (cells:List AV)
 | af
 | au (ex:Bool) (n:Nat) (cells:List AV)
 | cF (ex:Bool) (sz n:Nat) (cells:List AV)
 | ap (id off n:Nat)
 | fn (f:Fr) (first cap:List AV)
 | gU
 | jl
 | map (id:Nat)
 | jm (ks vs:List AV)
 | it (id:Nat)
 | agg (cells:List AV)
 | ax (vs:List AV)
 | undef
 deriving Inhabited
inductive X where
 | t (i:Nat)
 | c (v:AV)
 deriving Inhabited
inductive Conv where
 | toInt (k:xd)
 | toFlt (k:xW)
 | str
 | re
 | im
 deriving Inhabited
inductive Md where
 | pure | own | heap | dyn
 deriving Inhabited
inductive Cut where
 | str
 | sl (sz:Nat)
 | ar (len sz:Nat)
 deriving Inhabited
inductive PT where
 | b | sl | fn | ag (ks:List Nat)
 deriving Inhabited
inductive Op where
 | qX (x:X)
 | pick (c a b:X)
 | box (sz:Nat) (x:X)
 | Cg (zero:List AV) (parts:List (Nat×Nat×X))
 | iB (n sz:Nat) (zero:List AV) (parts:List (Nat×Nat×X))
 | ld (sz:Nat) (ag:Bool) (x:X)
 | st (sz:Nat) (x v:X)
 | Kl (x:X)
 | bin (op:vd) (x y:X)
 | eq (ne:Bool) (k:PT) (x y:X)
 | un (op:ycM) (x:X)
 | cv (k:Conv) (x:X)
 | G4 (f:Fr) (first cap:List X)
 | Bo
 | mH (sz bytes:Nat) (zero:List AV) (len cap:X)
 | oz (k:Cut) (x:X) (lo hi:Option X)
 | off (k:Nat) (x:X)
 | Lg (o sz:Nat) (ag:Bool) (x:X)
 | bh (sz:Nat) (x i:X)
 | CO (len sz:Nat) (x i:X)
 | G5 (x i:X)
 | G6 (len sz:Nat) (ag:Bool) (x i:X)
 | PU (kk:Nat) (zero:AV) (ok:Bool) (m k:X)
 | qY (kk:Nat) (m k v:X)
 | qZ (x:X)
 | q8 (x:X)
 | ext (i:Nat) (x:X)
 | call (m:Md) (f:X) (xs:List X)
 | jF (rs:List (Nat×Bool×Nat)) (f:X) (xs:List X)
 | kS (rs:List (Nat×Bool×Nat)) (sz:Nat) (x v:X)
 | lV (rs:List (Nat×Bool×Nat)) (sz bytes:Nat) (s x:X)
 | cQ (sz bytes:Nat) (s x:X)
 | q9 (sz bytes:Nat) (s x:X)
 | rb (sz:Nat) (d s:X)
 | len (k:Nat) (x:X)
 | mn (xs:List X)
 | mx (xs:List X)
 | Lh (x y:X)
 | pL (n sz:Nat) (zero:List AV) (parts:List (Nat×Nat×X))
 deriving Inhabited
structure aQ where
 dst:Option Nat
 guard:Option (Nat×Bool)
 op:Op
 deriving Inhabited
inductive VC where
 | skip
 | ju (ops:List aQ)
 | seq (a b:VC)
 | cond (x:X) (a b:VC)
 | cX (id:Nat) (a:VC)
 | kp (live:List Nat)
 | fz (ts:List Nat)
 | loop (live:List Nat) (a:VC)
 | rf (f:X) (ps:List Nat) (assign body:VC)
 | exit (id:Nat)
 | ret
 deriving Inhabited
inductive RV where
 | t (i:Nat)
 | cell (i sz:Nat) (ag:Bool)
 deriving Inhabited
structure aC where
 eb:List RV
 body:VC
 deriving Inhabited
inductive sf where
 | none | ret | exit (id:Nat)
 deriving Inhabited,DecidableEq
abbrev Env:=List (Nat×AV)
inductive Obj where
 | cells (rw pu ex:Bool) (sz:Nat) (cs:List AV)
 | mp (rw:Bool) (ks vs:List AV)
 | si (s:List Nat) (pos:Nat)
 | lp (tm:Env) (ps:List Nat) (assign body:VC) (state:Nat) (pending:sf)
 deriving Inhabited
abbrev Hp:=List (Nat×Obj)
structure St where
 tm:Env
 hp:Hp
 ct:Nat
 base:Nat
 deriving Inhabited
inductive Ex where
 | normal
 | ret
 | exit (id:Nat)
 deriving Inhabited,DecidableEq
def ak:Env->Nat->AV
 | [],_=>.undef
 | (j,v)::r,i=>bif ym j i then v else ak r i
def ai:Hp->Nat->Option Obj
 | [],_=>Fu
 | (j,o)::r,i=>bif ym j i then Ft o else ai r i
def aU:Hp->Nat->Obj->Hp
 | [],_,_=>[]
 | (j,o)::r,i,u=>bif ym j i then (j,u)::r else (j,o)::aU r i u
def cC:Hp->Nat->Hp
 | [],_=>[]
 | (j,o)::r,i=>bif ym j i then cC r i else (j,o)::cC r i
mutual
def aW:AV->Bool
 | .ptr _ _ | .ap _ _ _ | .map _ | .it _ | .cF _ _ _ _=>ydi
 | .fn (.y _) _ _=>ydi
 | .fn (.f _) first cap=>aD first&&aD cap
 | .agg cs=>aD cs
 | .ax vs=>aD vs
 | _=>ydh
def aD:List AV->Bool
 | []=>ydh
 | v::r=>aW v&&aD r
end
def cellsOf:AV->List AV
 | .agg cs=>cs
 | v=>[v]
def cL:AV->Bool
 | .agg _ | .ax _ | .undef | .cF _ _ _ _=>ydi
 | _=>ydh
def bS:List AV->Bool
 | []=>ydh
 | v::r=>cL v&&bS r
def ay(tm:Env):X->AV
 | .t i=>ak tm i
 | .c v=>v
def dA(tm:Env):List X->List AV
 | []=>[]
 | x::r=>ay tm x::dA tm r
def slice(o n:Nat)(cs:List AV):List AV:=(cs.drop o).take n
def over(o:Nat)(new cs:List AV):List AV:=cs.take o++new++cs.drop (o+new.length)
mutual
def freeze:Nat->Hp->AV->Option (AV×Hp)
 | 0,_,_=>Fu
 | n+1,hp,v=>
  match v with
  | .ap id o k=>
   match rP n hp id with
   | some (ex,sz,cs,an)=>
    bif yA (o+k*sz) cs.length then
     Ft (.au (ex&&yI 0 sz&&ym (o+k*sz) cs.length) k (slice o (k*sz) cs),an)
    else Fu
   | none=>Fu
  | .ptr id o=>
   match rP n hp id with
   | some (_,_,cs,an)=>Ft (.bq (cs.drop o),an)
   | none=>Fu
  | .map id=>
   match ai hp id with
   | some (.mp _ ks vs)=>bif aD ks&&aD vs then Ft (.jm ks vs,aU hp id (.mp ydi ks vs)) else Fu
   | _=>Fu
  | .fn (.f g) first cap=>
   match cu n hp first with
   | some (ack,aY)=>
    match cu n aY cap with
    | some (OI,kD)=>Ft (.fn (.f g) ack OI,kD)
    | none=>Fu
   | none=>Fu
  | .agg cs=>match cu n hp cs with | some (df,an)=>Ft (.agg df,an) | none=>Fu
  | .ax cs=>match cu n hp cs with | some (df,an)=>Ft (.ax df,an) | none=>Fu
  | v=>bif aW v then Ft (v,hp) else Fu
def rP:Nat->Hp->Nat->Option (Bool×Nat×List AV×Hp)
 | 0,_,_=>Fu
 | n+1,hp,id=>
  match ai hp id with
  | some (.cells rw pu ex sz cs)=>
   bif pu then Ft (ex,sz,cs,bif rw then aU hp id (.cells ydi ydh ex sz cs) else hp)
   else match cu n hp cs with
    | some (df,an)=>Ft (ex,sz,df,aU an id (.cells ydi ydi ex sz cs))
    | none=>Fu
  | _=>Fu
def cu:Nat->Hp->List AV->Option (List AV×Hp)
 | 0,_,_=>Fu
 | _+1,hp,[]=>Ft ([],hp)
 | n+1,hp,v::r=>
  match freeze n hp v with
  | some (v',aY)=>
   match cu n aY r with
   | some (r',kD)=>Ft (v'::r',kD)
   | none=>Fu
  | none=>Fu
end
def qB(n:Nat)(hp:Hp)(v:AV):Option (AV×Hp):=
 match v with
 | .ap id o k=>
  match ai hp id with
  | some (.cells ydh ydh ex sz cs)=>
   bif yA (o+k*sz) cs.length then
    Ft (.cF (ex&&yI 0 sz&&ym (o+k*sz) cs.length) sz k (slice o (k*sz) cs),cC hp id)
   else Fu
  | _=>freeze n hp v
 | _=>freeze n hp v
def NS:List AV->Option (List Nat)
 | []=>Ft []
 | .ap id _ _::r=>match NS r with | some l=>bif l.any (ym id) then Fu else Ft (id::l) | none=>Fu
 | v::r=>bif aW v then NS r else Fu
def DL(n:Nat):Hp->List AV->Option (List AV×Hp)
 | hp,[]=>Ft ([],hp)
 | hp,v::r=>
  match qB n hp v with
  | some (v',aY)=>match DL n aY r with | some (r',kD)=>Ft (v'::r',kD) | none=>Fu
  | none=>Fu
def deep:Nat:=1000
def result(hp:Hp)(v:AV):Option AV:=
 match v with
 | .ax vs=>
  match NS vs with
  | some _=>match DL deep hp vs with | some (ej,_)=>Ft (.ax ej) | none=>Fu
  | none=>match freeze deep hp v with | some (v',_)=>Ft v' | none=>Fu
 | v=>match qB deep hp v with | some (v',_)=>Ft v' | none=>Fu
def bF:AV->AV
 | .cF ex _ n cs=>.au ex n cs
 | v=>v
def Eb:List AV->List AV
 | []=>[]
 | v::r=>bF v::Eb r
def shut:AV->AV
 | .cF ex _ n cs=>.au ex n cs
 | .ax vs=>.ax (Eb vs)
 | v=>v
def fw(hp:Hp)(ct:Nat):AV->AV×Hp×Nat
 | .cF ex sz n cs=>(.ap ct 0 n,(ct,.cells ydh ydh ex sz cs)::hp,ct+1)
 | v=>(v,hp,ct)
def kB:Hp->Nat->List AV->List AV×Hp×Nat
 | hp,ct,[]=>([],hp,ct)
 | hp,ct,v::r=>((fw hp ct v).1::(kB (fw hp ct v).2.1 (fw hp ct v).2.2 r).1,(kB (fw hp ct v).2.1 (fw hp ct v).2.2 r).2)
def own(hp:Hp)(ct:Nat):AV->AV×Hp×Nat
 | .ax vs=>(.ax (kB hp ct vs).1,(kB hp ct vs).2)
 | v=>fw hp ct v
mutual
def refs:AV->List Nat
 | .ptr id _=>[id]
 | .ap id _ _=>[id]
 | .map id=>[id]
 | .it id=>[id]
 | .fn (.f _) first cap=>fH first++fH cap
 | .fn (.y l) _ _=>[l]
 | .agg cs=>fH cs
 | .ax cs=>fH cs
 | _=>[]
def fH:List AV->List Nat
 | []=>[]
 | v::r=>refs v++fH r
end
def dL:Env->List Nat
 | []=>[]
 | (_,v)::r=>refs v++dL r
def iW:Obj->List Nat
 | .cells _ pu _ _ cs=>bif pu then [] else fH cs
 | .mp _ ks vs=>fH ks++fH vs
 | .si _ _=>[]
 | .lp tm _ _ _ _ _=>dL tm
mutual
def bm(f:Nat->Option Nat):AV->AV
 | .ptr id o=>match f id with | some j=>.ptr j o | none=>.undef
 | .ap id o n=>match f id with | some j=>.ap j o n | none=>.undef
 | .map id=>match f id with | some j=>.map j | none=>.undef
 | .it id=>match f id with | some j=>.it j | none=>.undef
 | .fn (.f g) first cap=>.fn (.f g) (dB f first) (dB f cap)
 | .fn (.y l) first cap=>match f l with | some j=>.fn (.y j) (dB f first) (dB f cap) | none=>.undef
 | .agg cs=>.agg (dB f cs)
 | .ax cs=>.ax (dB f cs)
 | v=>v
def dB(f:Nat->Option Nat):List AV->List AV
 | []=>[]
 | v::r=>bm f v::dB f r
end
def eO(f:Nat->Option Nat):Env->Env
 | []=>[]
 | (i,v)::r=>(i,bm f v)::eO f r
def gE(f:Nat->Option Nat):Obj->Obj
 | .cells rw pu ex sz cs=>.cells rw pu ex sz (bif pu then cs else dB f cs)
 | .mp rw ks vs=>.mp rw (dB f ks) (dB f vs)
 | .si s pos=>.si s pos
 | .lp tm ps as_ body st pe=>.lp (eO f tm) ps as_ body st pe
def bE(tm:Env):List Nat->Env
 | []=>[]
 | i::r=>(i,ak tm i)::bE tm r
def jn(i:Nat):List Nat->Bool
 | []=>ydi
 | j::r=>bif ym j i then ydh else jn i r
def reach(hp:Hp)(base:Nat):Nat->List Nat->List Nat->List Nat
 | 0,_,seen=>seen
 | _+1,[],seen=>seen
 | n+1,id::cm,seen=>
  bif yI id base||jn id seen then reach hp base n cm seen
  else match ai hp id with
   | some o=>reach hp base n (iW o++cm) (seen++[id])
   | none=>reach hp base n cm seen
def cI(base:Nat):Hp->List Nat
 | []=>[]
 | (id,o)::r=>bif yI id base then iW o++cI base r else cI base r
def gV(i:Nat):List Nat->Nat->Option Nat
 | [],_=>Fu
 | j::r,k=>bif ym j i then Ft k else gV i r (k+1)
def gB(base:Nat)(seen:List Nat)(id:Nat):Option Nat:=bif yI id base then Ft id else gV id seen base
def fI(base:Nat)(f:Nat->Option Nat):Hp->Hp
 | []=>[]
 | (id,o)::r=>bif yI id base then (id,gE f o)::fI base f r else fI base f r
def ew(hp:Hp)(f:Nat->Option Nat):List Nat->Nat->Hp->Hp
 | [],_,acc=>acc
 | id::r,k,acc=>match ai hp id with | some o=>ew hp f r (k+1) ((k,gE f o)::acc) | none=>ew hp f r (k+1) acc
def br(live:List Nat)(s:St):St:=
 let tm:=bE s.tm live
 let seen:=reach s.hp s.base 100000 (dL tm++cI s.base s.hp) []
 let f:=gB s.base seen
 {tm:=eO f tm,hp:=ew s.hp f seen s.base (fI s.base f s.hp),ct:=s.base+seen.length,base:=s.base}
def mM(hp:Hp)(sz:Nat):AV->Option (Nat×List AV)
 | .af=>Ft (0,[])
 | .au _ n cs=>bif ym cs.length (n*sz) then Ft (n,cs) else Fu
 | .ap id o n=>
  match ai hp id with
  | some (.cells _ _ _ _ cs)=>bif yA (o+n*sz) cs.length then Ft (n,slice o (n*sz) cs) else Fu
  | _=>Fu
 | _=>Fu
def Ns:List Nat->List AV
 | []=>[]
 | b::r=>.int .u8 b::Ns r
def CP:List Nat->List Nat->Bool
 | _,[]=>ydi
 | [],_::_=>ydh
 | a::x,b::y=>yI a b||(ym a b&&CP x y)
def dh:List Nat->List Nat->Bool
 | [],[]=>ydh
 | a::x,b::y=>ym a b&&dh x y
 | _,_=>ydi
def cU:List Nat->List AV->List AV->Option Bool
 | [],[],[]=>Ft ydh
 | 0::ks,.bool a::x,.bool b::y=>match cU ks x y with | some r=>Ft ((a==b)&&r) | none=>Fu
 | 1::ks,.int k a::x,.int k' b::y=>if k=k' then (match cU ks x y with | some r=>Ft ((a==b)&&r) | none=>Fu) else Fu
 | 2::ks,.str a::x,.str b::y=>match cU ks x y with | some r=>Ft (dh a b&&r) | none=>Fu
 | _,_,_=>Fu
def jo:PT->AV->AV->Option Bool
 | .b,.bool a,.bool b=>Ft (a==b)
 | .sl,.af,.af=>Ft ydh
 | .sl,.af,.au _ _ _=>Ft ydi
 | .sl,.af,.ap _ _ _=>Ft ydi
 | .sl,.au _ _ _,.af=>Ft ydi
 | .sl,.ap _ _ _,.af=>Ft ydi
 | .fn,.gU,.gU=>Ft ydh
 | .fn,.gU,.fn _ _ _=>Ft ydi
 | .fn,.fn _ _ _,.gU=>Ft ydi
 | .ag ks,.agg a,.agg b=>cU ks a b
 | _,_,_=>Fu
def intCmp(op:vd)(x y:Int):Option Bool:=
 match op with
 | .eql=>Ft (x==y)
 | .neq=>Ft (x !=y)
 | .lss=>Ft (decide (x<y))
 | .leq=>Ft (decide (x<=y))
 | .gtr=>Ft (decide (x>y))
 | .geq=>Ft (decide (x>=y))
 | _=>Fu
def mw(op:vd)(k:xd)(x y:Int):Option AV:=
 match op with
 | .add=>Ft (.int k (k.wrap (x+y)))
 | .sub=>Ft (.int k (k.wrap (x-y)))
 | .mul=>Ft (.int k (k.wrap (x*y)))
 | .quo=>if y=0 then Fu else Ft (.int k (k.wrap (x.tdiv y)))
 | .rem=>if y=0 then Fu else Ft (.int k (x.tmod y))
 | .and=>Ft (.int k (k.wrap (wB k.bits x&&&wB k.bits y).toNat))
 | .or=>Ft (.int k (k.wrap (wB k.bits x|||wB k.bits y).toNat))
 | .xor=>Ft (.int k (k.wrap (wB k.bits x^^^wB k.bits y).toNat))
 | .andNot=>Ft (.int k (k.wrap (wB k.bits x&&&~~~(wB k.bits y)).toNat))
 | .shl | .shr=>Fu
 | op=>match intCmp op x y with | some b=>Ft (.bool b) | none=>Fu
def DM(op:vd)(k:xd)(x y:Int):Option AV:=
 if y<0 then Fu else
 match op with
 | .shl=>Ft (.int k (k.wrap (x*2^(min y.toNat k.bits))))
 | .shr=>Ft (.int k (x.fdiv (2^(min y.toNat k.bits))))
 | _=>Fu
def J0(op:vd)(x y:List Nat):Option AV:=
 match op with
 | .add=>bif yA (x.length+y.length) 9223372036854775807 then Ft (.str (x++y)) else Fu
 | .eql=>Ft (.bool (dh x y))
 | .neq=>Ft (.bool (!dh x y))
 | .lss=>Ft (.bool (CP x y))
 | .leq=>Ft (.bool (CP x y||dh x y))
 | .gtr=>Ft (.bool (!(CP x y||dh x y)))
 | .geq=>Ft (.bool (!CP x y))
 | _=>Fu
def Ec(op:vd)(k:xW)(x y:Nat):Option AV:=
 let c:=k.format.order x y
 let ar (r:Option Nat):Option AV:=match r with | some b=>Ft (.ao k b) | none=>Fu
 match op with
 | .add=>ar (k.format.add x y)
 | .sub=>ar (k.format.sub x y)
 | .mul=>ar (k.format.mul x y)
 | .quo=>ar (k.format.div x y)
 | .eql=>Ft (.bool (c==Ft .eq))
 | .neq=>Ft (.bool (c !=Ft .eq))
 | .lss=>Ft (.bool (c==Ft .lt))
 | .leq=>Ft (.bool (c==Ft .lt||c==Ft .eq))
 | .gtr=>Ft (.bool (c==Ft .gt))
 | .geq=>Ft (.bool (c==Ft .gt||c==Ft .eq))
 | _=>Fu
def CQ(s k:xW)(b:Nat):Option Nat:=
 if s=k then Ft b else
 match s.decode b with
 | .number sg m e=>if (k.decode (k.encode (.number sg m e))).isInfinity then Fu else Ft (k.encode (.number sg m e))
 | _=>Fu
def mI(op:vd)(k:xW)(x y:Nat):Option Nat:=
 match op with
 | .add=>k.format.add x y
 | .sub=>k.format.sub x y
 | .mul=>k.format.mul x y
 | _=>Fu
def Tt(k:xW)(a b c d:Nat):Option AV:=
 match CQ k .f64 a,CQ k .f64 b,CQ k .f64 c,CQ k .f64 d with
 | some a,Ft b,Ft c,Ft d=>
  match mI .mul .f64 a c,mI .mul .f64 b d,mI .mul .f64 a d,mI .mul .f64 b c with
  | some p,Ft q,Ft r,Ft s=>
   match mI .sub .f64 p q,mI .add .f64 r s with
   | some e,Ft f=>match CQ .f64 k e,CQ .f64 k f with | some e,Ft f=>Ft (.cW k e f) | _,_=>Fu
   | _,_=>Fu
  | _,_,_,_=>Fu
 | _,_,_,_=>Fu
def Ua(op:vd)(k:xW)(a b c d:Nat):Option AV:=
 match op with
 | .eql=>Ft (.bool (k.format.order a c==Ft .eq&&k.format.order b d==Ft .eq))
 | .neq=>Ft (.bool (!(k.format.order a c==Ft .eq&&k.format.order b d==Ft .eq)))
 | .add=>match mI .add k a c,mI .add k b d with | some r,Ft i=>Ft (.cW k r i) | _,_=>Fu
 | .sub=>match mI .sub k a c,mI .sub k b d with | some r,Ft i=>Ft (.cW k r i) | _,_=>Fu
 | .mul=>Tt k a b c d
 | _=>Fu
def ac8(x y:AV):Option AV:=
 match x,y with
 | .ao k a,.ao k' b=>if k=k' then Ft (.cW k a b) else Fu
 | _,_=>Fu
def binOp(op:vd)(x y:AV):Option AV:=
 match x,y with
 | .int k a,.int k' b=>
  match op with
  | .shl | .shr=>DM op k a b
  | _=>if k=k' then mw op k a b else Fu
 | .ao k a,.ao k' b=>if k=k' then Ec op k a b else Fu
 | .str a,.str b=>J0 op a b
 | .cW k a b,.cW k' c d=>if k=k' then Ua op k a b c d else Fu
 | _,_=>Fu
def unOp(op:ycM)(x:AV):Option AV:=
 match op,x with
 | .neg,.int k n=>Ft (.int k (k.wrap (0-n)))
 | .xor,.int k n=>mw .xor k (if k.signed then -1 else k.max) n
 | .not,.bool b=>Ft (.bool !b)
 | .neg,.ao k b=>Ft (.ao k (b^^^2^(k.format.exponentBits+k.format.fractionBits)))
 | _,_=>Fu
def kC(c:Conv)(x:AV):Option AV:=
 match c,x with
 | .toInt k,.int _ n=>Ft (.int k (k.wrap n))
 | .toFlt k,.int _ n=>Ft (.ao k (k.nearest n))
 | .toInt k,.ao s b=>
  match (s.decode b).toInt .zero with
  | some n=>if k.min<=n/\n<=k.max then Ft (.int k n) else Fu
  | none=>Fu
 | .toFlt k,.ao s b=>
  if s=k then Ft (.ao k b) else
  match s.decode b with
  | .number sg m e=>if (k.decode (k.encode (.number sg m e))).isInfinity then Fu else Ft (.ao k (k.encode (.number sg m e)))
  | _=>Fu
 | .str,.str s=>Ft (.str s)
 | .re,.cW k a _=>Ft (.ao k a)
 | .im,.cW k _ b=>Ft (.ao k b)
 | _,_=>Fu
def gI(sz:Nat)(ag:Bool)(cs:List AV):Option AV:=
 bif ag then (bif yA sz cs.length then Ft (.agg (cs.take sz)) else Fu)
 else match cs with | v::_=>Ft v | []=>Fu
def cy(x:AV):Option Nat:=
 match x with
 | .int _ n=>match n with | .ofNat k=>Ft k | .negSucc _=>Fu
 | _=>Fu
def cP(tm:Env)(d:Nat):Option X->Option Nat
 | none=>Ft d
 | some x=>cy (ay tm x)
def fj(hp:Hp)(k:Cut)(x:AV)(tm:Env)(lo hi:Option X):Option AV:=
 match k,x with
 | .str,.str s=>
  match cP tm 0 lo,cP tm s.length hi with
  | some l,Ft h=>bif yA l h&&yA h s.length then Ft (.str ((s.take h).drop l)) else Fu
  | _,_=>Fu
 | .sl _,.af=>
  match cP tm 0 lo,cP tm 0 hi with
  | some 0,Ft 0=>Ft .af
  | _,_=>Fu
 | .sl sz,.au ex n cs=>
  match cP tm 0 lo,cP tm n hi with
  | some l,Ft h=>bif yA l h&&yA h n then Ft (.au (ex&&ym h n) (h-l) (slice (l*sz) ((h-l)*sz) cs)) else Fu
  | _,_=>Fu
 | .sl sz,.ap id o n=>
  match ai hp id with
  | some (.cells _ _ _ z _)=>
   match cP tm 0 lo,cP tm n hi with
   | some l,Ft h=>
    bif yA l h&&yA h n&&ym z sz then
     bif ym l h&& !ym l 0 then Ft (.au ydi 0 []) else Ft (.ap id (o+l*sz) (h-l))
    else Fu
   | _,_=>Fu
  | _=>Fu
 | .ar n s,.bq cs=>
  match cP tm 0 lo,cP tm n hi with
  | some l,Ft h=>bif ym l 0&&ym h n&&(yI 0 n&&yA (n*s) cs.length) then Ft (.au ydh n (cs.take (n*s))) else Fu
  | _,_=>Fu
 | _,_=>Fu
def fill(tm:Env):List AV->List (Nat×Nat×X)->Option (List AV)
 | cs,[]=>Ft cs
 | cs,(o,sz,x)::r=>
  let new:=cellsOf (ay tm x)
  bif ym new.length sz&&yA (o+sz) cs.length&&bS new then fill tm (over o new cs) r else Fu
def pg:AV->AV->Option Bool
 | .int k a,.int k' b=>if k=k' then Ft (a==b) else Fu
 | .str a,.str b=>Ft (dh a b)
 | .bool a,.bool b=>Ft (a==b)
 | .agg a,.agg b=>cU (yp a.length 1) a b
 | _,_=>Fu
def oT:Nat->AV->Bool
 | 0,.bool _=>ydh
 | 1,.int _ _=>ydh
 | 2,.str _=>ydh
 | n+3,.agg cs=>ym cs.length n
 | _,_=>ydi
def Ed(k:AV):List AV->List AV->Option (Option AV)
 | [],_=>Ft Fu
 | k'::ks,v::vs=>match pg k k' with | some ydh=>Ft (Ft v) | some ydi=>Ed k ks vs | none=>Fu
 | _::_,[]=>Fu
def A2(k v:AV):List AV->List AV->Option (List AV×List AV)
 | [],[]=>Ft ([k],[v])
 | k'::ks,u::us=>
  match pg k k' with
  | some ydh=>Ft (k'::ks,v::us)
  | some ydi=>match A2 k v ks us with | some (kT,Li)=>Ft (k'::kT,u::Li) | none=>Fu
  | none=>Fu
 | _,_=>Fu
def min2:AV->AV->Option AV
 | .int k x,.int _ y=>Ft (.int k (if y<x then y else x))
 | .ao k x,.ao _ y=>
  match k.format.order x y with
  | none=>Fu
  | some .lt=>Ft (.ao k x)
  | some .gt=>Ft (.ao k y)
  | some .eq=>Ft (.ao k (if (k.decode x).neg then x else y))
 | _,_=>Fu
def max2:AV->AV->Option AV
 | .int k x,.int _ y=>Ft (.int k (if y>x then y else x))
 | .ao k x,.ao _ y=>
  match k.format.order x y with
  | none=>Fu
  | some .lt=>Ft (.ao k y)
  | some .gt=>Ft (.ao k x)
  | some .eq=>Ft (.ao k (if (k.decode x).neg then y else x))
 | _,_=>Fu
def Ch(f:AV->AV->Option AV):AV->List AV->Option AV
 | a,[]=>Ft a
 | a,b::r=>match f a b with | some c=>Ch f c r | none=>Fu
def room:Nat:=1099511627776
abbrev gY:=Option (AV×Hp×Nat)
def fL(hp:Hp)(sz:Nat)(ag:Bool):AV->Option AV
 | .ptr id o=>match ai hp id with | some (.cells _ _ _ _ cs)=>gI sz ag (cs.drop o) | _=>Fu
 | .bq cs=>gI sz ag cs
 | _=>Fu
def Ci(k:Nat):AV->Option AV
 | .ptr id o=>Ft (.ptr id (o+k))
 | .bq cs=>bif yA k cs.length then Ft (.bq (cs.drop k)) else Fu
 | _=>Fu
def Oe(o sz:Nat)(ag:Bool):AV->Option AV
 | .agg cs=>gI sz ag (cs.drop o)
 | _=>Fu
def gS(sz i:Nat):AV->Option AV
 | .ap id o n=>bif yI i n then Ft (.ptr id (o+i*sz)) else Fu
 | .au _ n cs=>bif yI i n then Ft (.bq (cs.drop (i*sz))) else Fu
 | _=>Fu
def Cj(len sz i:Nat):AV->Option AV
 | .ptr id o=>bif yI i len then Ft (.ptr id (o+i*sz)) else Fu
 | .bq cs=>bif yI i len then Ft (.bq (cs.drop (i*sz))) else Fu
 | _=>Fu
def r7(i:Nat):AV->Option AV
 | .str s=>match s[i]? with | some b=>Ft (.int .u8 b) | none=>Fu
 | _=>Fu
def Of(len sz:Nat)(ag:Bool)(i:Nat):AV->Option AV
 | .agg cs=>bif yI i len then gI sz ag (cs.drop (i*sz)) else Fu
 | _=>Fu
def Cl(hp:Hp)(k:AV):AV->Option (Option AV)
 | .jl=>Ft Fu
 | .map id=>match ai hp id with | some (.mp _ ks vs)=>Ed k ks vs | _=>Fu
 | .jm ks vs=>Ed k ks vs
 | _=>Fu
def fX(hp:Hp):Nat->AV->Option AV
 | 0,.str s=>Ft (.int .i64 s.length)
 | 1,.af=>Ft (.int .i64 0)
 | 1,.au _ n _=>Ft (.int .i64 n)
 | 1,.ap _ _ n=>Ft (.int .i64 n)
 | 2,.jl=>Ft (.int .i64 0)
 | 2,.jm ks _=>Ft (.int .i64 ks.length)
 | 2,.map id=>match ai hp id with | some (.mp _ ks _)=>Ft (.int .i64 ks.length) | _=>Fu
 | _,_=>Fu
def bf(tm:Env)(hp:Hp):Op->Option AV
 | .qX x=>Ft (ay tm x)
 | .pick c a b=>match ay tm c with | .bool t=>Ft (bif t then ay tm a else ay tm b) | _=>Fu
 | .Cg zero parts=>match fill tm zero parts with | some cs=>Ft (.agg cs) | none=>Fu
 | .ld sz ag x=>fL hp sz ag (ay tm x)
 | .Kl x=>
  match ay tm x with
  | .ptr id o=>Ft (.ptr id o)
  | .bq cs=>Ft (.bq cs)
  | .fn f a b=>Ft (.fn f a b)
  | _=>Fu
 | .bin op x y=>binOp op (ay tm x) (ay tm y)
 | .eq ne k x y=>match jo k (ay tm x) (ay tm y) with | some r=>Ft (.bool (ne !=r)) | none=>Fu
 | .un op x=>unOp op (ay tm x)
 | .cv k x=>kC k (ay tm x)
 | .Lh x y=>ac8 (ay tm x) (ay tm y)
 | .pL n sz zero parts=>
  match fill tm zero parts with
  | some cs=>bif ym cs.length (n*sz)&&(yI 0 sz&&aD cs) then Ft (.au ydh n cs) else Fu
  | none=>Fu
 | .G4 f first cap=>Ft (.fn f (dA tm first) (dA tm cap))
 | .oz k x lo hi=>fj hp k (ay tm x) tm lo hi
 | .off k x=>Ci k (ay tm x)
 | .Lg o sz ag x=>Oe o sz ag (ay tm x)
 | .bh sz x i=>match cy (ay tm i) with | some j=>gS sz j (ay tm x) | none=>Fu
 | .CO len sz x i=>match cy (ay tm i) with | some j=>Cj len sz j (ay tm x) | none=>Fu
 | .G5 x i=>match cy (ay tm i) with | some j=>r7 j (ay tm x) | none=>Fu
 | .G6 len sz ag x i=>match cy (ay tm i) with | some j=>Of len sz ag j (ay tm x) | none=>Fu
 | .PU kk zero ok m k=>
  bif oT kk (ay tm k) then
   match Cl hp (ay tm k) (ay tm m) with
   | some (Ft v)=>Ft (bif ok then .ax [v,.bool ydh] else v)
   | some Fu=>Ft (bif ok then .ax [zero,.bool ydi] else zero)
   | none=>Fu
  else Fu
 | .ext i x=>match ay tm x with | .ax vs=>vs[i]? | _=>Fu
 | .len k x=>fX hp k (ay tm x)
 | .mn xs=>match dA tm xs with | a::r=>Ch min2 a r | []=>Fu
 | .mx xs=>match dA tm xs with | a::r=>Ch max2 a r | []=>Fu
 | _=>Fu
def cB(tm:Env)(hp:Hp)(ct:Nat):Op->Option (AV×Obj)
 | .box sz x=>
  let cs:=cellsOf (ay tm x)
  bif ym cs.length sz&&bS cs then Ft (.ptr ct 0,.cells ydh (aD cs) ydh sz cs) else Fu
 | .iB n sz zero parts=>
  match fill tm zero parts with
  | some cs=>bif ym cs.length (n*sz) then Ft (.ap ct 0 n,.cells ydh (aD cs) ydh sz cs) else Fu
  | none=>Fu
 | .mH sz bytes zero len cap=>
  match cy (ay tm len),cy (ay tm cap) with
  | some l,Ft c=>
   bif yA l c&&(yA c room&&(yA (c*bytes) room&&(ym zero.length sz&&bS zero))) then
    Ft (.ap ct 0 l,.cells ydh (aD zero) (ym l c) sz (yp l zero).flatten)
   else Fu
  | _,_=>Fu
 | .Bo=>Ft (.map ct,.mp ydh [] [])
 | .qZ x=>match ay tm x with | .str s=>Ft (.it ct,.si s 0) | _=>Fu
 | _=>Fu
def decodeL(s:List Nat)(i:Nat):Nat×Nat:=
 let at' (k:Nat):Nat:=s.getD (i+k) 0
 let cont (k:Nat):Bool:=decide (i+k<s.length)&&at' k/64==2
 let b0:=at' 0
 if b0<0x80 then (b0,1)
 else if b0/32==6&&cont 1 then
  let c:=(b0%32)*64+at' 1%64
  if c>=0x80 then (c,2) else (uM,1)
 else if b0/16==14&&cont 1&&cont 2 then
  let c:=(b0%16)*4096+(at' 1%64)*64+at' 2%64
  if c>=0x800&&ybv c then (c,3) else (uM,1)
 else if b0/8==30&&cont 1&&cont 2&&cont 3 then
  let c:=(b0%8)*262144+(at' 1%64)*4096+(at' 2%64)*64+at' 3%64
  if c>=0x10000&&ybv c then (c,4) else (uM,1)
 else (uM,1)
def jh(hp:Hp)(sz:Nat):AV->Option (Nat×List AV)
 | .str b=>bif ym sz 1 then Ft (b.length,Ns b) else Fu
 | v=>mM hp sz v
def zF(hp:Hp)(ct sz bytes:Nat)(s:AV)(src:Option (Nat×List AV)):Option (AV×Obj):=
 match src with
 | none=>Fu
 | some (m,new)=>
  match s with
  | .ap id o n=>
   match ai hp id with
   | some (.cells _ pu ydh z cs)=>
    bif ym z sz&&(yI 0 m&&(yA (n+m) room&&(yA ((n+m)*bytes) room&&(ym (o+n*sz) cs.length&&yI 0 sz)))) then
     Ft (.ap ct 0 (n+m),.cells ydh (pu&&aD new) ydi sz (slice o (n*sz) cs++new))
    else Fu
   | _=>Fu
  | _=>Fu
def b8(tm:Env)(hp:Hp)(ct:Nat):Op->gY
 | .st sz x v=>
  let new:=cellsOf (ay tm v)
  match ay tm x with
  | .ptr id o=>
   match ai hp id with
   | some (.cells ydh pu ex z cs)=>
    bif ym new.length sz&&yA (o+sz) cs.length&&bS new then
     Ft (.ax [],aU hp id (.cells ydh (pu&&aD new) ex z (over o new cs)),ct)
    else Fu
   | _=>Fu
  | _=>Fu
 | .qY kk m k v=>
  match ay tm m with
  | .map id=>
   match ai hp id with
   | some (.mp ydh ks vs)=>bif !oT kk (ay tm k) then Fu else match A2 (ay tm k) (ay tm v) ks vs with | some (kT,ej)=>Ft (.ax [],aU hp id (.mp ydh kT ej),ct) | none=>Fu
   | _=>Fu
  | _=>Fu
 | .q8 x=>
  match ay tm x with
  | .it id=>
   match ai hp id with
   | some (.si s pos)=>
    bif yI pos s.length then
     match decodeL s pos with
     | (c,wd)=>Ft (.ax [.bool ydh,.int .i64 pos,.int .i32 c],aU hp id (.si s (pos+wd)),ct)
    else Ft (.ax [.bool ydi],hp,ct)
   | _=>Fu
  | _=>Fu
 | .cQ sz bytes s x=>
  match jh hp sz (ay tm x) with
  | none=>Fu
  | some (m,new)=>
   match ay tm s with
   | .af=>
    bif ym m 0 then Ft (.af,hp,ct)
    else bif yA m room&&(yA (m*bytes) room&&yI 0 sz) then Ft (.ap ct 0 m,(ct,.cells ydh (aD new) ydi sz new)::hp,ct+1) else Fu
   | .au ydh n cs=>
    bif ym m 0 then Ft (.au ydh n cs,hp,ct)
    else bif yA (n+m) room&&(yA ((n+m)*bytes) room&&(ym cs.length (n*sz)&&yI 0 sz)) then Ft (.ap ct 0 (n+m),(ct,.cells ydh (aD cs&&aD new) ydi sz (cs++new))::hp,ct+1) else Fu
   | .ap id o n=>
    match ai hp id with
    | some (.cells ydh pu _ z cs)=>
     bif ym z sz&&(yA (n+m) room&&(yA ((n+m)*bytes) room&&(yA (o+n*sz) cs.length&&(yI 0 sz&&bS new)))) then
      Ft (.ap ct 0 (n+m),(ct,.cells ydh (pu&&aD new) ydi sz (slice o (n*sz) cs++new))::cC hp id,ct+1)
     else Fu
    | _=>Fu
   | _=>Fu
 | .rb sz d s=>
  match mM hp sz (ay tm s),ay tm d with
  | some (m,new),.ap id o n=>
   match ai hp id with
   | some (.cells ydh pu ex z cs)=>
    bif ym z sz&&(yA (o+n*sz) cs.length&&bS new) then
     Ft (.int .i64 (min m n:Nat),aU hp id (.cells ydh (pu&&aD new) ex z (over o (new.take (min m n*sz)) cs)),ct)
    else Fu
   | _=>Fu
  | _,_=>Fu
 | _=>Fu
def jG:X->List Nat | .t i=>[i] | .c _=>[]
def AK:List X->List Nat
 | []=>[]
 | x::r=>jG x++AK r
def J3:Option X->List Nat | some x=>jG x | none=>[]
def J4:List (Nat×Nat×X)->List Nat
 | []=>[]
 | (_,_,x)::r=>jG x++J4 r
def kv:Op->List Nat
 | .qX x | .box _ x | .ld _ _ x | .Kl x | .un _ x | .cv _ x | .off _ x | .Lg _ _ _ x | .qZ x | .q8 x | .ext _ x | .len _ x=>jG x
 | .pick a b c | .qY _ a b c=>jG a++(jG b++jG c)
 | .Cg _ ps | .iB _ _ _ ps | .pL _ _ _ ps=>J4 ps
 | .st _ a b | .bin _ a b | .Lh a b | .eq _ _ a b | .bh _ a b | .CO _ _ a b | .G5 a b | .G6 _ _ _ a b | .PU _ _ _ a b | .cQ _ _ a b | .q9 _ _ a b | .rb _ a b=>jG a++jG b
 | .G4 _ a b=>AK a++AK b
 | .Bo=>[]
 | .mH _ _ _ a b=>jG a++jG b
 | .oz _ x a b=>jG x++(J3 a++J3 b)
 | .call _ f xs=>jG f++AK xs
 | .jF _ f xs=>jG f++AK xs
 | .kS _ _ a b=>jG a++jG b
 | .lV _ _ _ a b=>jG a++jG b
 | .mn xs | .mx xs=>AK xs
def bg:Op->Nat
 | .qX _ | .pick _ _ _ | .Cg _ _ | .Kl _ | .bin _ _ _ | .eq _ _ _ _ | .un _ _ | .cv _ _ | .G4 _ _ _ | .off _ _ | .Lg _ _ _ _ | .bh _ _ _ | .CO _ _ _ _ | .G5 _ _ | .G6 _ _ _ _ _ | .ext _ _ | .mn _ | .mx _ | .Lh _ _ | .pL _ _ _ _=>0
 | .oz .str _ _ _ | .len 0 _ | .len 1 _=>0
 | .st _ _ _ | .qY _ _ _ _ | .q8 _ | .cQ _ _ _ _ | .rb _ _ _ | .jF _ _ _ | .kS _ _ _ _ | .lV _ _ _ _ _ | .call .heap _ _ | .call .dyn _ _=>2
 | _=>1
def Ub:Option (Nat×Bool)->List Nat | some (t,_)=>[t] | none=>[]
def DS(o:aQ):List Nat:=Ub o.guard++kv o.op
def Gt(d:Option Nat)(l:List Nat):Bool:=match d with | some i=>jn i l | none=>ydi
def Uc(d e:Option Nat):Bool:=match d,e with | some i,Ft j=>ym i j | _,_=>ydi
def M6(a b:aQ):Bool:=Gt a.dst (DS b)||Gt b.dst (DS a)||Uc a.dst b.dst
def Es(sz:Nat)(ag:Bool)(t:Nat):List (Nat×Bool×Nat)->Bool
 | []=>ydi
 | (s,g,u)::r=>(ym s sz&&(g==ag&&ym u t))||Es sz ag t r
def Ee(t:Nat):List aQ->Bool
 | []=>ydh
 | o::r=> !Gt o.dst [t]&&Ee t r
def I9(a b:aQ)(r:List aQ):Bool:=
 match a.guard,a.op,b.op with
 | none,.ld sz ag (.t t),.jF rs _ _=>Es sz ag t rs&&Ee t (a::r)
 | none,.ld sz ag (.t t),.kS rs _ _ _=>Es sz ag t rs&&Ee t (a::r)
 | none,.ld sz ag (.t t),.lV rs _ _ _ _=>Es sz ag t rs&&Ee t (a::r)
 | _,_,_=>ydi
def IR(a b:aQ):Bool:=
 match bg a.op,bg b.op with
 | 1,2 | 2,1 | 2,2=>ydh
 | _,_=>ydi
def M7(m:Nat)(b:aQ):List aQ->Nat->Bool
 | [],_=>ydh
 | a::r,i=>(vI m i|| !(M6 a b||(IR a b&& !I9 a b r)))&&M7 m b r (i+1)
def qg(done:List aQ):List aQ->List Nat->Bool
 | [],_=>ydh
 | b::r,m::ms=>M7 m b done 0&&qg (done++[b]) r ms
 | _::_,[]=>ydi
def Ja(m:Nat):List aQ->Nat->List (Nat×Bool×Nat)
 | [],_=>[]
 | a::r,i=>
  match vI m i,a with
  | false,⟨_,Fu,.ld sz ag (.t t)⟩=>(sz,ag,t)::Ja m r (i+1)
  | _,_=>Ja m r (i+1)
def stOp(rs:List (Nat×Bool×Nat))(sz:Nat)(x v:X):Op:=match rs with | []=>.st sz x v | rs=>.kS rs sz x v
def aeG(rs:List (Nat×Bool×Nat))(sz b:Nat)(x v:X):Op:=match rs with | []=>.cQ sz b x v | rs=>.lV rs sz b x v
def kO(done:List aQ):List aQ->List Nat->List aQ
 | ⟨d,g,.jF _ f xs⟩::r,m::ms=>let o:aQ:=⟨d,g,.jF (Ja m done 0) f xs⟩;o::kO (done++[o]) r ms
 | ⟨d,g,.st sz x v⟩::r,m::ms=>let o:aQ:=⟨d,g,stOp (Ja m done 0) sz x v⟩;o::kO (done++[o]) r ms
 | ⟨d,g,.cQ sz b x v⟩::r,m::ms=>let o:aQ:=⟨d,g,aeG (Ja m done 0) sz b x v⟩;o::kO (done++[o]) r ms
 | o::r,_::ms=>o::kO (done++[o]) r ms
 | l,_=>l
def acm(done:List aQ):X->Bool
 | .t i=>done.any fun o=>match o.dst,o.op with | some j,.iB _ _ _ _=>ym i j | _,_=>ydi
 | _=>ydi
def Gk(done:List aQ):List aQ->List aQ
 | []=>[]
 | o::r=>(match o.op with | .cQ sz b x v=>bif acm done x then ⟨o.dst,o.guard,.q9 sz b x v⟩ else o | _=>o)::Gk (done++[o]) r
def NT(d:Option Nat):List aQ->Bool
 | []=>ydi
 | ⟨_,_,.cQ _ _ _ (.t i)⟩::r=>Uc d (Ft i)||NT d r
 | _::r=>NT d r
def Ef(all:List aQ):List aQ->List aQ
 | []=>[]
 | o::r=>(match o.op with | .iB n sz z ps=>bif NT o.dst all then ⟨o.dst,o.guard,.pL n sz z ps⟩ else o | _=>o)::Ef all r
def waits(m:Nat):List aQ->Nat->Bool
 | [],_=>ydi
 | o::r,i=>(vI m i&&ym (bg o.op) 2)||waits m r (i+1)
def early(all:List aQ):List aQ->List Nat->Nat->List Nat
 | o::r,m::ms,i=>bif !ym (bg o.op) 2&& !waits m all 0 then i::early all r ms (i+1) else early all r ms (i+1)
 | _,_,_=>[]
def late(all:List aQ):List aQ->List Nat->Nat->List Nat
 | o::r,m::ms,i=>bif !ym (bg o.op) 2&& !waits m all 0 then late all r ms (i+1) else i::late all r ms (i+1)
 | _,_,_=>[]
def places(l:List aQ)(ms:List Nat):List Nat:=early l l ms 0++late l l ms 0
def FW(m:Nat):List Nat->Nat->Nat
 | [],_=>0
 | x::r,i=>(bif vI m x then 2^i else 0)|||FW m r (i+1)
def Cm(l:List aQ):List Nat->List aQ
 | []=>[]
 | x::r=>match l[x]? with | some o=>o::Cm l r | none=>Cm l r
def BZ(ms pm all:List Nat):List Nat->List Nat
 | []=>[]
 | x::r=>FW (ms.getD x 0) pm 0::BZ ms pm all r
def Jk(n:Nat)(pm inv:List Nat):Bool:=
 ym pm.length n&&(wF n).all fun i=>yI (pm.getD i i) n&&(yI (inv.getD i i) n&&(ym (inv.getD (pm.getD i i) i) i&&ym (pm.getD (inv.getD i i) i) i))
def zG(pm:List Nat)(n:Nat):List Nat:=(wF n).map fun x=>(gV x pm 0).getD x
abbrev aF:=Nat->Option aC
structure Lib where
 pure:Nat->Option (List AV->Option AV)
 heap:Nat->Option (Hp->Nat->List AV->gY)
abbrev cd:=VC->St->Option (Ex×St)
def fg:Nat->List AV->Env
 | _,[]=>[]
 | i,v::r=>(i,v)::fg (i+1) r
def results1(s:St):RV->Option AV
 | .t i=>Ft (ak s.tm i)
 | .cell i sz ag=>
  match ak s.tm i with
  | .ptr id o=>match ai s.hp id with | some (.cells _ _ _ _ cs)=>gI sz ag (cs.drop o) | _=>Fu
  | .bq cs=>gI sz ag cs
  | _=>Fu
def ml(s:St):List RV->Option (List AV)
 | []=>Ft []
 | r::rest=>match results1 s r,ml s rest with | some v,Ft vs=>Ft (v::vs) | _,_=>Fu
def jc(s:St)(rs:List RV):Option AV:=
 match ml s rs with
 | some [v]=>Ft v
 | some vs=>Ft (.ax vs)
 | none=>Fu
def bT(P:aF)(L:Lib)(self:cd)(n:Nat)(aq:List AV):Option AV:=
 match L.pure n with
 | some sp=>sp aq
 | none=>
  match P n with
  | none=>Fu
  | some F=>
   match self F.body ⟨fg 0 aq,[],0,0⟩ with
   | some (.normal,s) | some (.ret,s)=>match jc s F.eb with | some v=>result s.hp v | none=>Fu
   | _=>Fu
def NU:Ex->sf
 | .normal=>.none
 | .ret=>.ret
 | .exit id=>.exit id
def qC:Env->List Nat->List AV->Option Env
 | tm,[],[]=>Ft tm
 | tm,p::ps,v::vs=>qC ((p,v)::tm) ps vs
 | _,_,_=>Fu
def iv(P:aF)(L:Lib)(self:cd)(hp:Hp)(ct:Nat)(n:Nat)(aq:List AV):gY:=
 match L.heap n with
 | some sp=>sp hp ct aq
 | none=>
  match P n with
  | none=>Fu
  | some F=>
   match self F.body ⟨fg 0 aq,hp,ct,ct⟩ with
   | some (.normal,s) | some (.ret,s)=>match jc s F.eb with | some v=>Ft (v,s.hp,s.ct) | none=>Fu
   | _=>Fu
def fV(self:cd)(hp:Hp)(ct:Nat)(l:Nat)(xs:List AV):gY:=
 match ai hp l with
 | some (.lp tm ps as_ body 0 _)=>
  match qC tm ps xs with
  | none=>Fu
  | some tm'=>
   match self as_ ⟨tm',hp,ct,ct⟩ with
   | some (.normal,s1)=>
    match ai s1.hp l with
    | some (.lp gh pM CR Eg 0 nm)=>
     match self body ⟨s1.tm,aU s1.hp l (.lp gh pM CR Eg 1 nm),s1.ct,s1.ct⟩ with
     | some (ex,s2)=>
      match ai s2.hp l with
      | some (.lp kU rh Lj J5 1 _)=>
       match ex with
       | .normal=>Ft (.bool ydh,aU s2.hp l (.lp kU rh Lj J5 0 .none),s2.ct)
       | ex=>Ft (.bool ydi,aU s2.hp l (.lp kU rh Lj J5 2 (NU ex)),s2.ct)
      | _=>Fu
     | none=>Fu
    | _=>Fu
   | _=>Fu
 | _=>Fu
def er(P:aF)(L:Lib)(self:cd)(hp:Hp)(ct:Nat)(m:Md)(fv:AV)(xs:List AV):gY:=
 match fv with
 | .fn (.f n) first cap=>
  match m with
  | .pure=>
   match cu deep hp (first++(xs++cap)) with
   | some (aq,aY)=>match bT P L self n aq with | some r=>Ft (shut r,aY,ct) | none=>Fu
   | none=>Fu
  | .own=>
   match cu deep hp (first++(xs++cap)) with
   | some (aq,aY)=>match bT P L self n aq with | some r=>Ft (own aY ct r) | none=>Fu
   | none=>Fu
  | .heap=>iv P L self hp ct n (first++(xs++cap))
  | .dyn=>
   bif aD (first++(xs++cap)) then
    match bT P L self n (first++(xs++cap)) with | some r=>Ft (shut r,hp,ct) | none=>Fu
   else iv P L self hp ct n (first++(xs++cap))
 | .fn (.y l) _ _=>
  match m with
  | .heap | .dyn=>fV self hp ct l xs
  | _=>Fu
 | _=>Fu
def UK:AV->AV->Bool
 | .int k a,.int k' b=>decide (k=k')&&a==b
 | .bool a,.bool b=>a==b
 | .str a,.str b=>dh a b
 | .af,.af=>ydh
 | .jY,.jY=>ydh
 | .ptr i o,.ptr j p=>ym i j&&ym o p
 | .ap i o n,.ap j p m=>ym i j&&(ym o p&&ym n m)
 | .map i,.map j=>ym i j
 | _,_=>ydi
def qh(tm:Env)(hp an:Hp):List (Nat×Bool×Nat)->Bool
 | []=>ydh
 | (sz,ag,x)::r=>
  match fL hp sz ag (ak tm x),fL an sz ag (ak tm x) with
  | some a,Ft b=>UK a b&&qh tm hp an r
  | _,_=>ydi
def mq(tm:Env)(id:Nat):List (Nat×Bool×Nat)->Bool
 | []=>ydh
 | (_,_,x)::r=>(match ak tm x with | .ptr j _=> !ym j id | .bq _=>ydh | _=>ydi)&&mq tm id r
def Gu(tm:Env)(s:AV)(rs:List (Nat×Bool×Nat)):Bool:=
 match s with
 | .ap id _ _=>mq tm id rs
 | .af | .au _ _ _=>ydh
 | _=>ydi
def aX(P:aF)(L:Lib)(self:cd)(tm:Env)(hp:Hp)(ct:Nat)(o:Op):gY:=
 match o with
 | .call m f xs=>er P L self hp ct m (ay tm f) (dA tm xs)
 | .jF rs f xs=>
  match er P L self hp ct .dyn (ay tm f) (dA tm xs) with
  | some (v,an,aH)=>bif qh tm hp an rs then Ft (v,an,aH) else Fu
  | none=>Fu
 | .kS rs sz x v=>
  match ay tm x with
  | .ptr id _=>bif mq tm id rs then b8 tm hp ct (.st sz x v) else Fu
  | _=>Fu
 | .q9 sz b x v=>
  match zF hp ct sz b (ay tm x) (jh hp sz (ay tm v)) with
  | some (v,b)=>Ft (v,(ct,b)::hp,ct+1)
  | none=>Fu
 | .lV rs sz b x v=>
  match b8 tm hp ct (.cQ sz b x v) with
  | some (v,an,aH)=>bif Gu tm (ay tm x) rs||qh tm hp an rs then Ft (v,an,aH) else Fu
  | none=>Fu
 | .st .. | .qY .. | .q8 .. | .cQ .. | .rb .. =>b8 tm hp ct o
 | .box .. | .iB .. | .mH .. | .Bo | .qZ .. =>match cB tm hp ct o with | some (v,b)=>Ft (v,(ct,b)::hp,ct+1) | none=>Fu
 | o=>match bf tm hp o with | some v=>Ft (v,hp,ct) | none=>Fu
def put(d:Option Nat)(v:AV)(tm:Env):Env:=
 match d with
 | some i=>(i,v)::tm
 | none=>tm
def cV(P:aF)(L:Lib)(self:cd):List aQ->St->Option St
 | [],s=>Ft s
 | ⟨d,g,o⟩::r,s=>
  let want:=match g with | none=>Ft ydh | some (t,b)=>match ak s.tm t with | .bool c=>Ft (c==b) | .ax []=>Ft ydi | _=>Fu
  match want with
  | some ydh=>
   match aX P L self s.tm s.hp s.ct o with
   | some (v,hp,ct)=>cV P L self r {s with tm:=put d v s.tm,hp:=hp,ct:=ct}
   | none=>Fu
  | some ydi=>cV P L self r {s with tm:=put d (.ax []) s.tm}
  | none=>Fu
def qH:List Nat->St->Option St
 | [],s=>Ft s
 | t::r,s=>
  match freeze deep s.hp (ak s.tm t) with
  | some (v,hp)=>qH r {s with tm:=(t,v)::s.tm,hp:=hp}
  | none=>Fu
def bt(P:aF)(L:Lib)(self:cd):VC->St->Option (Ex×St)
 | .skip,s=>Ft (.normal,s)
 | .ju ops,s=>match cV P L self ops s with | some s'=>Ft (.normal,s') | none=>Fu
 | .seq a b,s=>
  match bt P L self a s with
  | some (.normal,s1)=>bt P L self b s1
  | r=>r
 | .cond x a b,s=>
  match ay s.tm x with
  | .bool t=>bif t then bt P L self a s else bt P L self b s
  | _=>Fu
 | .cX id a,s=>
  match bt P L self a s with
  | some (.exit j,s1)=>bif ym j id then Ft (.normal,s1) else Ft (.exit j,s1)
  | r=>r
 | .kp live,s=>Ft (.normal,br live s)
 | .fz ts,s=>match qH ts s with | some s'=>Ft (.normal,s') | none=>Fu
 | .loop live a,s=>
  match bt P L self a (br live s) with
  | some (.normal,s1)=>self (.loop live a) s1
  | r=>r
 | .rf f ps as_ body,s=>
  match ay s.tm f with
  | .fn (.f n) first cap=>
   match L.heap n with
   | some _=>Fu
   | none=>
    match iv P L self ((s.ct,.lp s.tm ps as_ body 0 .none)::s.hp) (s.ct+1) n (first++(.fn (.y s.ct) [] []::cap)) with
    | some (_,hp,ct)=>
     match ai hp s.ct with
     | some (.lp _ _ _ _ st pe)=>
      bif ym st 1 then Fu else
      match pe with
      | .none=>Ft (.normal,{s with hp:=cC hp s.ct,ct:=ct})
      | .ret=>Ft (.ret,{s with hp:=cC hp s.ct,ct:=ct})
      | .exit id=>Ft (.exit id,{s with hp:=cC hp s.ct,ct:=ct})
     | _=>Fu
    | none=>Fu
  | _=>Fu
 | .exit id,s=>Ft (.exit id,s)
 | .ret,s=>Ft (.ret,s)
def ev(P:aF)(L:Lib)(n:Nat):cd:=Nat.rec (fun _ _=>Fu) (fun _ ih=>bt P L ih) n
def We(P:aF)(L:Lib)(n:Nat)(f:Nat)(aq:List AV):Option AV:=bT P L (ev P L n) f aq
end
section
open Go
structure Pl where
 b:Nat
 o:Nat
 e:Nat
 z:Nat
abbrev Mp:=Nat->Option Pl
section
variable (ab:Nat->Nat)(m:Mp)(S:Nat->Prop)(w:yi)
mutual
def ae:AV->yg->Prop
 | .int k n,v=>v=.int k n
 | .bool b,v=>v=.bool b
 | .ao k b,v=>v=.float k b
 | .cW k a b,v=>v=.complex k a b
 | .str s,v=>∃t:ByteArray,v=.string t/\t.data.toList.map xg=s
 | .jY,v=>v=.pointer Fu
 | .ptr id o,v=>∃p,m id=Ft p/\v=.pointer (Ft ⟨p.b,p.o+o,Fu⟩)
 | .bq cs,v=>∃b o,v=.pointer (Ft ⟨b,o,Fu⟩)/\(cs=[]\/S b)/\aD cs=ydh/\bL cs b o
 | .af,v=>v=.slice Fu 0 0
 | .au ex n cs,v=>(∃b o c,v=.slice (Ft ⟨b,o,Fu⟩) n c/\n<=c/\(ex=ydh->c=n)/\(cs=[]\/S b)/\aD cs=ydh/\bL cs b o)\/(∃a,v=.slice (Ft a) 0 0/\n=0/\cs=[])
 | .cF _ _ _ _,_=>False
 | .ap id o n,v=>∃p c,m id=Ft p/\v=.slice (Ft ⟨p.b,p.o+o,Fu⟩) n c/\n<=c/\o+c*p.z=p.e
 | .fn (.f g) first cap,v=>∃fi ca:Array yg,v=.func (.func (ab g)) fi ca/\az first fi.toList/\az cap ca.toList
 | .fn (.y l) _ _,v=>∃p,m l=Ft p/\v=.func (.yield p.b) #[] #[]
 | .gU,v=>v=.nilFunc
 | .jl,v=>v=.map Fu
 | .map id,v=>∃p,m id=Ft p/\v=.map (Ft p.b)
 | .jm ks vs,v=>∃b es clock,v=.map (Ft b)/\S b/\aD ks=ydh/\aD vs=ydh/\w.heap[b]? =Ft (.map es clock)/\
   az ks (es.toList.map (·.key))/\az vs (es.toList.map (·.val))
 | .it id,v=>∃p,m id=Ft p/\v=.pointer (Ft ⟨p.b,0,Fu⟩)
 | .agg cs,v=>∃xs:Array yg,v=.agg xs/\az cs xs.toList
 | .ax cs,v=>∃xs:Array yg,v=.tuple xs/\az cs xs.toList
 | .undef,_=>True
def az:List AV->List yg->Prop
 | [],us=>us=[]
 | c::cs,us=>∃u r,us=u::r/\ae c u/\az cs r
def bL:List AV->Nat->Nat->Prop
 | [],_,_=>True
 | c::cs,b,o=>(∃u,w.cell? ⟨b,o,Fu⟩=Ft u/\ae c u)/\bL cs b (o+1)
end
end
def fR(S:Nat->Prop)(w w':yi):Prop:=∀b,S b->w'.heap[b]? =w.heap[b]?
def Mm{w w':yi}{b o:Nat}(h:w'.heap[b]? =w.heap[b]?):w'.cell? ⟨b,o,Fu⟩=w.cell? ⟨b,o,Fu⟩:=by
 simp only[World.cell?,h]
section
variable {ab:Nat->Nat}{m m':Mp}{S S':Nat->Prop}{w w':yi}
mutual
def mo(hm:∀id p,m id=Ft p->m' id=Ft p)(hS:∀b,S b->S' b)(hw:fR S w w'):
  ∀(v:AV) (u:yg),ae ab m S w v u->ae ab m' S' w' v u
 | .int _ _,_,h | .bool _,_,h | .ao _ _,_,h | .cW _ _ _,_,h | .str _,_,h | .jY,_,h | .af,_,h | .gU,_,h | .jl,_,h | .undef,_,h=>by
  simpa only[ae] using h
 | .ptr id o,u,h=>by
  simp only[ae] at h ⊢;obtain⟨p,h1,h2⟩:=h;exact⟨p,hm _ _ h1,h2⟩
 | .bq cs,u,h=>by
  simp only[ae] at h ⊢;obtain⟨b,o,h1,h2,h3,h4⟩:=h;refine⟨b,o,h1,h2.imp id (hS b),h3,?_⟩;rcases h2 with rfl | h2
  .simp only [bL]
  .exact Rg hm hS hw cs b o h2 h4
 | .au ex n cs,u,h=>by
  simp only[ae] at h ⊢;rcases h with ⟨b,o,c,h1,h2,h3,h4,h5,h6⟩ | h
  .refine .inl ⟨b,o,c,h1,h2,h3,h4.imp id (hS b),h5,?_⟩;rcases h4 with rfl | h4
   .simp only [bL]
   .exact Rg hm hS hw cs b o h4 h6
  .exact .inr h
 | .cF _ _ _ _,u,h=>by simp only[ae] at h
 | .ap id o n,u,h=>by
  simp only[ae] at h ⊢;obtain⟨p,c,h1,h2⟩:=h;exact⟨p,c,hm _ _ h1,h2⟩
 | .fn (.f g) first cap,u,h=>by
  simp only[ae] at h ⊢;obtain⟨fi,ca,h1,h2,h3⟩:=h;exact⟨fi,ca,h1,ij hm hS hw first _ h2,ij hm hS hw cap _ h3⟩
 | .fn (.y l) _ _,u,h=>by
  simp only[ae] at h ⊢;obtain⟨p,h1,h2⟩:=h;exact⟨p,hm _ _ h1,h2⟩
 | .map id,u,h=>by
  simp only[ae] at h ⊢;obtain⟨p,h1,h2⟩:=h;exact⟨p,hm _ _ h1,h2⟩
 | .jm ks vs,u,h=>by
  simp only[ae] at h ⊢;obtain⟨b,es,clock,h1,h2,h3,h4,h5,h6,h7⟩:=h;exact⟨b,es,clock,h1,hS b h2,h3,h4,(hw b h2).trans h5,ij hm hS hw ks _ h6,ij hm hS hw vs _ h7⟩
 | .it id,u,h=>by
  simp only[ae] at h ⊢;obtain⟨p,h1,h2⟩:=h;exact⟨p,hm _ _ h1,h2⟩
 | .agg cs,u,h=>by
  simp only[ae] at h ⊢;obtain⟨xs,h1,h2⟩:=h;exact⟨xs,h1,ij hm hS hw cs _ h2⟩
 | .ax cs,u,h=>by
  simp only[ae] at h ⊢;obtain⟨xs,h1,h2⟩:=h;exact⟨xs,h1,ij hm hS hw cs _ h2⟩
def ij(hm:∀id p,m id=Ft p->m' id=Ft p)(hS:∀b,S b->S' b)(hw:fR S w w'):
  ∀(vs:List AV) (us:List yg),az ab m S w vs us->az ab m' S' w' vs us
 | [],us,h=>by simpa only[az] using h
 | v::r,us,h=>by
  simp only[az] at h ⊢;have⟨u,t,h1,h2,h3⟩:=h;exact⟨u,t,h1,mo hm hS hw v u h2,ij hm hS hw r t h3⟩
def Rg(hm:∀id p,m id=Ft p->m' id=Ft p)(hS:∀b,S b->S' b)(hw:fR S w w'):
  ∀(cs:List AV) (b o:Nat),S b->bL ab m S w cs b o->bL ab m' S' w' cs b o
 | [],_,_,_,_=>by simp only[bL]
 | c::cs,b,o,hb,h=>by
  simp only[bL] at h ⊢;have⟨⟨u,h1,h2⟩,h3⟩:=h;exact⟨⟨u,(Mm (hw b hb)).trans h1,mo hm hS hw c u h2⟩,Rg hm hS hw cs b (o+1) hb h3⟩
end
end
end
section
open Go
structure Hint where
 n:Nat
 bm:tW->Option Nat
 live:Nat->List Nat
 out:Nat->Option (List Nat)
 mode:Nat->Md
 fz:Nat->List Nat
section
variable (P:xm)(H:Hint)
mutual
def eN:yg->AV
 | .int k n=>.int k n
 | .bool b=>.bool b
 | .float k b=>.ao k b
 | .complex k a b=>.cW k a b
 | .string s=>.str (s.data.toList.map xg)
 | .pointer Fu=>.jY
 | .slice Fu 0 0=>.af
 | .map Fu=>.jl
 | .nilFunc=>.gU
 | .agg ⟨cs⟩=>.agg (FX cs)
 | .tuple ⟨cs⟩=>.ax (FX cs)
 | _=>.undef
def FX:List yg->List AV
 | []=>[]
 | v::r=>eN v::FX r
end
def aK:xr->X
 | .tmp t=>.t t
 | .const v=>.c (eN v)
 | .global _=>.c .undef
 | .func f=>match H.bm f with | some g=>.c (.fn (.f g) [] []) | none=>.c .undef
def iC:List xr->List X
 | []=>[]
 | x::r=>aK H x::iC r
def bZ(t:yv):Option Nat:=match P.info? t with | some i=>Ft i.size | none=>Fu
def zZ(t:yv):Option Nat:=match P.info? t with | some i=>Ft i.bytes | none=>Fu
def my(t:yv):Option AV:=match P.info? t with | some i=>(match i.zero with | some v=>Ft (eN v) | none=>Fu) | none=>Fu
def dc(t:yv):Option Bool:=match P.underlying t with | some (.struct _) | some (.array _ _)=>Ft ydh | some _=>Ft ydi | none=>Fu
def bad:Op:=.call .pure (.c .undef) []
def partsOf(place:Nat->Option (Nat×Nat)):List (Nat×xr)->Option (List (Nat×Nat×X))
 | []=>Ft []
 | (i,x)::r=>
  match place i,partsOf place r with
  | some (o,s),Ft l=>Ft ((o,s,aK H x)::l)
  | _,_=>Fu
def oP(self:yv->Option (List Nat)):List ub->Nat->Option (List Nat)
 | [],_=>Ft []
 | f::r,o=>
  match self f.type,bZ P f.type with
  | some ks,Ft s=>
   bif f.name != "_"&&ym f.offset o&&ym ks.length s&& !P.stoodInHeld f.type then
    (match oP self r (o+s) with | some l=>Ft (ks++l) | none=>Fu)
   else Fu
  | _,_=>Fu
def kinds:Nat->yv->Option (List Nat)
 | 0,_=>Fu
 | n+1,t=>
  match P.underlying t with
  | some .bool=>Ft [0]
  | some (.int _)=>Ft [1]
  | some .string=>Ft [2]
  | some (.struct fs)=>oP P (fun u=>kinds n u) fs.toList 0
  | some (.array k e)=>
   match kinds n e,bZ P e with
   | some ks,Ft s=>bif ym ks.length s&& !P.stoodInHeld e then Ft (yp k ks).flatten else Fu
   | _,_=>Fu
  | _=>Fu
def A3(t:yv):Bool:=match P.underlying t with | some (.int _)=>ydh | _=>ydi
def keyOf(t:yv):Option Nat:=
 match P.underlying t with
 | some .bool=>Ft 0
 | some (.int _)=>Ft 1
 | some .string=>Ft 2
 | some (.struct fs)=>bif fs.toList.all (fun f=>A3 P f.type)&& !P.stoodInHeld t then
   (match kinds P 20 t with | some ks=>(bif ym ks.length fs.size then Ft (fs.size+3) else Fu) | none=>Fu) else Fu
 | _=>Fu
def oU(ne:Bool)(t:yv)(a b:xr):Op:=
 match kinds P 20 t with
 | some ks=>bif P.stoodInHeld t||P.eqGuardType P.depth t then bad else .eq ne (.ag ks) (aK H a) (aK H b)
 | none=>bad
def nR(ne:Bool)(op:vd)(t:yv)(a b:xr):Op:=
 match P.underlying t with
 | some (.int _) | some .string | some (.float _) | some (.complex _)=>.bin op (aK H a) (aK H b)
 | some .bool=>.eq ne .b (aK H a) (aK H b)
 | some (.slice _)=>.eq ne .sl (aK H a) (aK H b)
 | some (.func _ _ _)=>.eq ne .fn (aK H a) (aK H b)
 | some (.struct _) | some (.array _ _)=>oU P H ne t a b
 | _=>bad
def aP(k:Nat)(o:yT):Op:=
 let x (y:xr):X:=aK H y
 match o.op with
 | .move a | .assign a=>.qX (x a)
 | .pick c a b=>.pick (x c) (x a) (x b)
 | .alloc t=>match bZ P t,my P t with | some s,Ft z=>.box s (.c z) | _,_=>bad
 | .box t v=>match bZ P t with | some s=>.box s (x v) | none=>bad
 | .build t parts=>
  match P.underlying t,my P t with
  | some (.struct fs),Ft (.agg z)=>
   match fs.toList.mapM (fun f=>(P.info? f.type).map fun i=>(f.offset,i.size)) with
   | some pl=>(match partsOf H (fun i=>pl[i]?) parts.toList with | some ps=>.Cg z ps | none=>bad)
   | none=>bad
  | some (.array _ e),Ft (.agg z)=>
   match bZ P e with
   | some s=>(match partsOf H (fun i=>Ft (i*s,s)) parts.toList with | some ps=>.Cg z ps | none=>bad)
   | none=>bad
  | _,_=>bad
 | .buildSlice t n parts=>
  match P.underlying t with
  | some (.slice e)=>
   match bZ P e,my P e with
   | some s,Ft z=>
    bif yA (n*s) 16777216 then
     (match partsOf H (fun i=>Ft (i*s,s)) parts.toList with | some ps=>.iB n s (yp n (cellsOf z)).flatten ps | none=>bad)
    else bad
   | _,_=>bad
  | _=>bad
 | .load t a=>match bZ P t,dc P t with | some s,Ft ag=>.ld s ag (x a) | _,_=>bad
 | .store t a v=>match bZ P t with | some s=>.st s (x a) (x v) | none=>bad
 | .nilCheck a=>.Kl (x a)
 | .binOp op t a b _=>
  match op with
  | .eql=>nR P H ydi op t a b
  | .neq=>nR P H ydh op t a b
  | _=>.bin op (x a) (x b)
 | .unOp op _ a=>.un op (x a)
 | .convert s d a=>
  match P.underlying s,P.underlying d with
  | some (.int _),Ft (.int k) | some (.float _),Ft (.int k)=>.cv (.toInt k) (x a)
  | some (.int _),Ft (.float k) | some (.float _),Ft (.float k)=>.cv (.toFlt k) (x a)
  | some .string,Ft .string=>.cv .str (x a)
  | _,_=>bad
 | .makeFunc (.func f) first cap=>match H.bm f with | some g=>.G4 (.f g) (iC H first.toList) (iC H cap.toList) | none=>bad
 | .makeMap t Fu=>match P.underlying t with | some (.map ke _)=>(match keyOf P ke with | some _=>.Bo | none=>bad) | _=>bad
 | .makeSlice t l c=>
  match P.underlying t with
  | some (.slice e)=>(match bZ P e,zZ P e,my P e with | some s,Ft b,Ft z=>.mH s b (cellsOf z) (x l) (x c) | _,_,_=>bad)
  | _=>bad
 | .slice t a lo hi Fu=>
  match P.underlying t with
  | some .string=>.oz .str (x a) (lo.map x) (hi.map x)
  | some (.slice e)=>(match bZ P e with | some s=>.oz (.sl s) (x a) (lo.map x) (hi.map x) | none=>bad)
  | some (.array n e)=>(match bZ P e with | some s=>.oz (.ar n s) (x a) (lo.map x) (hi.map x) | none=>bad)
  | _=>bad
 | .fieldAddr t a i=>
  match P.underlying t with
  | some (.struct fs)=>
   match fs[i]? with
   | some f=>(match bZ P f.type with | some (_+1)=>.off f.offset (x a) | _=>bad)
   | none=>bad
  | _=>bad
 | .field t a i=>
  match P.underlying t with
  | some (.struct fs)=>
   match fs[i]? with
   | some f=>(match bZ P f.type,dc P f.type with | some s,Ft ag=>.Lg f.offset s ag (x a) | _,_=>bad)
   | none=>bad
  | _=>bad
 | .indexAddr t a i=>
  match P.underlying t with
  | some (.slice e)=>(match bZ P e with | some s=>.bh s (x a) (x i) | none=>bad)
  | some (.array n e)=>(match bZ P e with | some s=>.CO n s (x a) (x i) | none=>bad)
  | _=>bad
 | .index t a i=>
  match P.underlying t with
  | some .string=>.G5 (x a) (x i)
  | some (.array n e)=>(match bZ P e,dc P e with | some s,Ft ag=>.G6 n s ag (x a) (x i) | _,_=>bad)
  | _=>bad
 | .lookup t a i ok=>
  match P.underlying t with
  | some (.map ke e)=>(match keyOf P ke,my P e with | some kk,Ft z=>.PU kk z ok (x a) (x i) | _,_=>bad)
  | _=>bad
 | .mapUpdate t a i v | .insert t a i v=>
  match P.underlying t with
  | some (.map ke _)=>(match keyOf P ke with | some kk=>.qY kk (x a) (x i) (x v) | none=>bad)
  | _=>bad
 | .range t a=>match P.underlying t with | some .string=>.qZ (x a) | _=>bad
 | .next it ydh=>.q8 (x it)
 | .extract t i=>.ext i (x t)
 | .call c=>
  match c.callee with
  | .value f=>(match H.mode k with | .dyn=>.jF [] (x f) (iC H c.args.toList) | md=>.call md (x f) (iC H c.args.toList))
  | .builtin b=>
   match b,c.args.toList,c.argTypes.toList with
   | .append,[s,a],[t,u]=>
    match P.underlying t,P.underlying u with
    | some (.slice e),Ft (.slice _) | some (.slice e),Ft .string=>
     (match bZ P e,zZ P e,my P e with | some sz,Ft by',Ft z=>(bif ym (cellsOf z).length sz then .cQ sz by' (x s) (x a) else bad) | _,_,_=>bad)
    | _,_=>bad
   | .len,[a],[t]=>
    match P.underlying t with
    | some (.array n _)=>.qX (.c (.int .i64 n))
    | some .string=>.len 0 (x a)
    | some (.slice _)=>.len 1 (x a)
    | some (.map _ _)=>.len 2 (x a)
    | _=>bad
   | .copy,[d,s],[t,_]=>
    match P.underlying t with
    | some (.slice e)=>(match bZ P e with | some sz=>.rb sz (x d) (x s) | none=>bad)
    | _=>bad
   | .min,l,_=>.mn (iC H l)
   | .max,l,_=>.mx (iC H l)
   | .real,[a],_=>.cv .re (x a)
   | .imag,[a],_=>.cv .im (x a)
   | .complex,[a,b],_=>.Lh (x a) (x b)
   | _,_,_=>bad
  | _=>bad
 | _=>bad
def Tu(o:yT):Bool:=match o.op with | .call {callee:=.value _,..}=>ydh | _=>ydi
def J6(d:Option Nat):Bool:=match d with | some i=>yI i H.n | none=>ydh
def AS(n:Nat):List Nat->Bool
 | []=>ydh
 | i::r=>yI i n&&AS n r
def DN(ops:Array yT):List yT->Nat->List aQ×Nat
 | [],k=>([],k)
 | o::r,k=>
  let g:=match o.guard with
   | none=>Ft Fu
   | some (j,b)=>match (ops[j]?).bind (·.dst) with | some t=>Ft (Ft (t,b)) | none=>Fu
  match DN ops r (k+(bif Tu o then 1 else 0)) with
  | (l,k')=>
   match g,J6 H o.dst with
   | some g,ydh=>(⟨o.dst,g,aP P H k o⟩::l,k')
   | _,_=>(⟨o.dst,Fu,bad⟩::l,k')
def B7(acc:List Nat):List Edge->Nat
 | []=>0
 | e::r=>bif Region.binds .any e then (2^e.on|||acc.getD e.on 0)|||B7 acc r else B7 acc r
def jW(acc:List Nat):List yT->List Nat
 | []=>acc
 | o::r=>jW (acc++[B7 acc o.after.toList]) r
def nN:List yT->Nat->Bool
 | [],_=>ydh
 | o::r,i=>o.after.toList.all (fun e=> !Region.binds .any e||yI e.on i)&&nN r (i+1)
def Nt(ops:Array yT)(draw:Bool)(k:Nat):List aQ×Nat:=
 match DN P H ops ops.toList k with
 | (l,k')=>
  bif draw then
   (let ms:=jW [] ops.toList
    let l':=kO [] l ms
    bif nN ops.toList 0&&qg [] l' ms then (l',k') else bif nN ops.toList 0&&qg [] (Gk [] l') ms then (Gk [] l',k') else
    (let pm:=places l ms
    let sH:=BZ ms pm pm pm
    let l2:=kO [] (Cm (Ef l l) pm) sH
    bif nN ops.toList 0&&(Jk ops.size pm (zG pm ops.size)&&qg [] l2 sH) then (l2,k') else ([⟨Fu,Fu,bad⟩],k')))
  else (l,k')
def ary:vz->Bool
 | .loop _=>ydh
 | _=>ydi
def comp:vz->Nat->Nat->VC×Nat×Nat
 | .skip,l,k | .label _,l,k=>(.skip,l,k)
 | .region i ops d,l,k=>match Nt P H ops d k with | (r,k')=>((match H.fz i with | []=>.ju r | t::ts=>.seq (.fz (t::ts)) (.ju r)),l,k')
 | .seq a b,l,k=>match comp a l k with | (a',l1,k1)=>match comp b l1 k1 with | (b',l2,k2)=>(.seq a' b',l2,k2)
 | .cond c a b,l,k=>
  match comp a (l+1) k with
  | (a',l1,k1)=>
   match comp b l1 k1 with
   | (b',l2,k2)=>(match H.out l with | some o=>.seq (.cond (aK H c) a' b') (.kp o) | none=>.cond (aK H c) a' b',l2,k2)
 | .block id a,l,k=>
  match comp a l k with
  | (a',r)=>(match ary a,H.out l with | true,Ft o=>.seq (.cX id a') (.kp o) | _,_=>.cX id a',r)
 | .loop a,l,k=>match comp a (l+1) k with | (a',r)=>(.loop (H.live l) a',r)
 | .rangeFunc f ps as_ body,l,k=>
  match comp as_ l k with | (as',l1,k1)=>match comp body l1 k1 with | (b',l2,k2)=>(bif AS H.n ps.toList then .rf (aK H f) ps.toList as' b' else .ju [⟨Fu,Fu,bad⟩],l2,k2)
 | .exit id,l,k=>(.exit id,l,k)
 | .scope a,l,k=>comp a l k
 | .ret,l,k=>(.ret,l,k)
 | .goto _,l,k | .refuse _,l,k=>(.ju [⟨Fu,Fu,bad⟩],l,k)
def qj:List ResultVar->Option (List RV)
 | []=>Ft []
 | .tmp t::r=>match qj r with | some l=>Ft (.t t::l) | none=>Fu
 | .cell a t::r=>match bZ P t,dc P t,qj r with | some s,Ft ag,Ft l=>Ft (.cell a s ag::l) | _,_,_=>Fu
def FY(fn:Func):Option aC:=
 match fn.body,qj P fn.results.toList with
 | some c,Ft rs=>bif yA H.n fn.ntmps then Ft ⟨rs,(comp P H c 0 0).1⟩ else Fu
 | _,_=>Fu
end
end
section
open Go
structure bl where
 P:xm
 aI:Lib
 ab:Nat->Nat
 prog:aF
 hint:Nat->Hint
 w0:yi
def CS(P:xm)(H:Hint)(v:VC)(c:vz):Prop:=∃l k,(comp P H c l k).1=v
def Cw:Nat->LoopState
 | 0=>.ready
 | 1=>.busy
 | 2=>.done
 | _=>.exhausted
def AL:sf->Option vz
 | .none=>Fu
 | .ret=>Ft .ret
 | .exit id=>Ft (.exit id)
section
variable (O:bl)(m:Mp)(S:Nat->Prop)(w:yi)
def bO(tm:Env)(tmps:Array yg):Prop:=∀i,ae O.ab m S w (ak tm i) (tmps.getD i undef)
def eY(id:Nat):Obj->Prop
 | .cells rw pu ex sz cs=>∃p arr t,m id=Ft p/\w.heap[p.b]? =Ft (.cells arr t (0,0))/\p.z=sz/\cs.length<=p.e/\p.o+p.e<=arr.size/\
   (ex=ydh->cs.length=p.e)/\bL O.ab m S w cs p.b p.o/\(pu=ydh->aD cs=ydh)/\(rw=ydh->¬S p.b)/\(rw=ydi->S p.b)
 | .mp rw ks vs=>∃p es clock,m id=Ft p/\w.heap[p.b]? =Ft (.map es clock)/\az O.ab m S w ks (es.toList.map (·.key))/\az O.ab m S w vs (es.toList.map (·.val))/\
   (rw=ydh->¬S p.b)/\(rw=ydi->S p.b)
 | .si s pos=>∃p t,m id=Ft p/\w.heap[p.b]? =Ft (.stringIter t pos)/\t.data.toList.map xg=s/\¬S p.b
 | .lp tm ps as_ body st pe=>∃p l h,m id=Ft p/\w.heap[p.b]? =Ft (.loop l)/\¬S p.b/\l.state=Cw st/\st<=2/\l.pending=AL pe/\bO O m S w tm l.tmps/\
   l.params.toList=ps/\CS O.P (O.hint h) as_ l.assign/\CS O.P (O.hint h) body l.body/\(O.hint h).n<=l.tmps.size/\AS (O.hint h).n ps=ydh
structure aR(hp:Hp)(ct:Nat):Prop where
 obj:∀id o p,ai hp id=Ft o->m id=Ft p->eY O m S w id o
 lt:∀id p,m id=Ft p->id<ct
 inj:∀i j oi oj pi pj,ai hp i=Ft oi->ai hp j=Ft oj->m i=Ft pi->m j=Ft pj->pi.b=pj.b->i=j
 slt:∀b,S b->b<w.heap.size
 blt:∀id p,m id=Ft p->p.b<w.heap.size
 low:∀id p,m id=Ft p->O.w0.heap.size<=p.b
 mB:∀b,b<O.w0.heap.size->w.heap[b]? =O.w0.heap[b]?
 fY:O.w0.heap.size<=w.heap.size
 aM:∀id o,ai hp id=Ft o->id<ct
end
def dV(m:Mp)(hp:Hp)(b:Nat):Prop:=∃id o p,ai hp id=Ft o/\m id=Ft p/\p.b=b
structure bU(m:Mp)(S:Nat->Prop)(w:yi)(hp:Hp)(m':Mp)(S':Nat->Prop)(w':yi)(an:Hp)(base:Nat):Prop where
 os:w'.os=w.os
 tape:w'.tape=w.tape
 output:w'.output=w.output
 size:w.heap.size<=w'.heap.size
 same:∀b,b<w.heap.size->¬dV m hp b->w'.heap[b]? =w.heap[b]?
 sub:∀b,S b->S' b
 still:∀b,S b->w'.heap[b]? =w.heap[b]?
 new:∀b,S' b->S b\/dV m hp b\/w.heap.size<=b
 own:∀b,dV m' an b->dV m hp b\/w.heap.size<=b
 old:∀id p,id<base->m id=Ft p->m' id=Ft p
 loops:∀(b:Nat) (r:uV),w.heap[b]? =Ft (.loop r)->∃r':uV,w'.heap[b]? =Ft (.loop r')
def bU.refl{m:Mp}{S:Nat->Prop}{w:yi}{hp:Hp}{base:Nat}:bU m S w hp m S w hp base:=
 ⟨rfl,rfl,rfl,yu _,fun _ _ _=>rfl,fun _ h=>h,fun _ _=>rfl,fun _ h=>.inl h,fun _ h=>.inl h,fun _ _ _ h=>h,fun _ r h=>⟨r,h⟩⟩
def bU.trans{m m' Lk:Mp}{S S' CT:Nat->Prop}{w w' PV:yi}{hp an Km:Hp}{base:Nat}(h:bU m S w hp m' S' w' an base)(k:bU m' S' w' an Lk CT PV Km base):bU m S w hp Lk CT PV Km base where
 os:=k.os.trans h.os
 tape:=k.tape.trans h.tape
 output:=k.output.trans h.output
 size:=xo h.size k.size
 same b hb ho:=(k.same b (yE hb h.size) (fun jv=>(h.own b jv).elim ho (fun h1=>by omega))).trans (h.same b hb ho)
 sub b hb:=k.sub b (h.sub b hb)
 still b hb:=(k.still b (h.sub b hb)).trans (h.still b hb)
 new b hb:=by
  rcases k.new b hb with h1 | h1 | h1
  .exact h.new b h1
  .rcases h.own b h1 with h2 | h2
   .grind
   .grind
  .exact .inr (.inr (xo h.size h1))
 own b hb:=by
  rcases k.own b hb with h1 | h1
  .exact h.own b h1
  .exact .inr (xo h.size h1)
 old id p hid hp:=k.old id p hid (h.old id p hid hp)
 loops b r hb:=let ⟨r',h1⟩:=h.loops b r hb;k.loops b r' h1
end
section
open Go
section
variable {ab:Nat->Nat}{m:Mp}{S:Nat->Prop}{w:yi}
mutual
def Nv:∀v:yg,ae ab m S w (eN v) v
 | .int _ _ | .bool _ | .float _ _ | .complex _ _ _=>by simp only[eN,ae]
 | .string s=>by simp only[eN,ae];exact⟨s,rfl,rfl⟩
 | .pointer Fu=>by simp only[eN,ae]
 | .pointer (Ft _)=>by simp only[eN,ae]
 | .slice Fu 0 0=>by simp only[eN,ae]
 | .slice Fu 0 (_+1)=>by simp only[eN,ae]
 | .slice Fu (_+1) _=>by simp only[eN,ae]
 | .slice (Ft _) _ _=>by simp only[eN,ae]
 | .map Fu=>by simp only[eN,ae]
 | .map (Ft _)=>by simp only[eN,ae]
 | .nilFunc=>by simp only[eN,ae]
 | .agg ⟨cs⟩=>by simp only[eN,ae];exact⟨⟨cs⟩,rfl,Sb cs⟩
 | .tuple ⟨cs⟩=>by simp only[eN,ae];exact⟨⟨cs⟩,rfl,Sb cs⟩
 | .chan _ | .func _ _ _ | .iface _ _ | .nilIface=>by simp only[eN,ae]
def Sb:∀l:List yg,az ab m S w (FX l) l
 | []=>by simp only[FX,az]
 | v::r=>by simp only[FX,az];exact⟨v,r,rfl,Nv v,Sb r⟩
end
end
def eX(O:bl)(H:Hint):Prop:=∀f g,H.bm f=Ft g->O.ab g=f
section
variable {O:bl}{H:Hint}{m:Mp}{S:Nat->Prop}{w:yi}{tm:Env}{a:Act}
def bQ(hH:eX O H)(ht:bO O m S w tm a.tmps)(x:xr):ae O.ab m S w (ay tm (aK H x)) (a.eval x):=by
 cases x with
 | tmp t=>exact ht t
 | const v=>simp only[aK,ay,Act.eval];exact Nv v
 | global g=>simp only[aK,ay,ae]
 | func f=>
  simp only[aK,Act.eval]
  cases hr:H.bm f with
  | none=>simp only[ay,ae]
  | some g=>simp only[ay,ae,hH f g hr,az];exact⟨#[],#[],rfl,rfl,rfl⟩
def DT(hH:eX O H)(ht:bO O m S w tm a.tmps):∀l:List xr,az O.ab m S w (dA tm (iC H l)) (l.map a.eval)
 | []=>by simp only[iC,dA,List.map_nil,az]
 | x::r=>by simp only[iC,dA,yZ,az];exact⟨_,_,rfl,bQ hH ht x,DT hH ht r⟩
end
section
variable {O:bl}{m:Mp}{S:Nat->Prop}{w:yi}
def rO{ab:Nat->Nat}:∀(k:Nat) (cs:List AV) (b o:Nat),bL ab m S w cs b o->bL ab m S w (cs.drop k) b (o+k)
 | 0,cs,b,o,h=>by simpa using h
 | k+1,[],b,o,_=>by simp only[List.drop_nil,bL]
 | k+1,c::cs,b,o,h=>by
  have:=rO k cs b (o+1) h.2
  grind
def Av{ab:Nat->Nat}:∀(k:Nat) (cs:List AV) (b o:Nat),bL ab m S w cs b o->bL ab m S w (cs.take k) b o
 | 0,cs,b,o,_=>by simp only[ybP,bL]
 | k+1,[],b,o,_=>by simp only[List.take_nil,bL]
 | k+1,c::cs,b,o,h=>by
  exact⟨h.1,Av k cs b (o+1) h.2⟩
def zi{ab:Nat->Nat}:∀(cs:List AV) (b o:Nat),bL ab m S w cs b o->
  ∃us:List yg,az ab m S w cs us/\us.length=cs.length/\∀j u,us[j]? =Ft u->w.cell? ⟨b,o+j,Fu⟩=Ft u
 | [],b,o,_=>⟨[],by simp only[az],rfl,fun j u h=>by simp at h⟩
 | c::cs,b,o,h=>by
  obtain⟨⟨u,h1,h2⟩,h3⟩:=h;obtain⟨us,h4,h5,h6⟩:=zi cs b (o+1) h3;refine⟨u::us,by simp only[az];exact⟨u,us,rfl,h2,h4⟩,by simp[h5],fun j v hv=>?_⟩
  cases j with
  | zero=>simp at hv;subst hv;simpa using h1
  | succ j=>simp at hv;have:=h6 j v hv;rw[show o+(j+1)=o+1+j by omega];exact this
def gR{ab:Nat->Nat}:∀(cs:List AV) (us:List yg),az ab m S w cs us->us.length=cs.length
 | [],us,h=>by simp only[az] at h;subst h;rfl
 | c::cs,us,h=>by
  obtain⟨u,r,rfl,_,h3⟩:=h;simp[gR cs r h3]
end
end
section
open Go
def nS(b o j:Nat):(⟨b,o,Fu⟩:uK).add j=⟨b,o+j,Fu⟩:=by
 unfold Addr.add;split<;>simp_all
section
variable {P:xm}{w:yi}
def ajo(t:yv)(b o:Nat)(us:List yg)(ha:dc P t=Ft ydh)(hz:bZ P t=Ft us.length)(h:∀j u,us[j]? =Ft u->w.cell? ⟨b,o+j,Fu⟩=Ft u):(loadVar t ⟨b,o,Fu⟩).run P w=.ok (.agg us.toArray) w:=by
 have hl:=run_loadCells_list (P:=P) w ⟨b,o,Fu⟩ us (fun j u hu=>by rw[nS];exact h j u hu)
 unfold bZ at hz
 cases hi:P.info? t with
 | none=>simp[hi] at hz
 | some i=>
  unfold dc at ha
  cases hu:P.underlying t with
  | none=>simp[hu] at ha
  | some d=>cases d<;>simp_all[loadVar,isAgg,vA,typeInfo,underlying]
def ajp(t:yv)(b o:Nat)(u:yg)(ha:dc P t=Ft ydi)(h:w.cell? ⟨b,o,Fu⟩=Ft u):(loadVar t ⟨b,o,Fu⟩).run P w=.ok u w:=by
 unfold dc at ha
 cases hu:P.underlying t with
 | none=>simp[hu] at ha
 | some d=>cases d<;>simp_all[loadVar,isAgg,underlying]
end
section
variable {O:bl}{m:Mp}{S:Nat->Prop}{w:yi}
def Nw{t:yv}{sz:Nat}{ag:Bool}{cs:List AV}{b o:Nat}{v:AV}(hz:bZ O.P t=Ft sz)(ha:dc O.P t=Ft ag)(hr:bL O.ab m S w cs b o)(hv:gI sz ag cs=Ft v):∃u,(loadVar t ⟨b,o,Fu⟩).run O.P w=.ok u w/\ae O.ab m S w v u:=by
 cases ag with
 | true=>
  simp only[gI,yq] at hv
  cases hle:yA sz cs.length with
  | false=>simp only[hle,yO] at hv;cases hv
  | true=>
   simp only[hle,yq,yb] at hv;subst hv;obtain⟨us,h1,h2,h3⟩:=zi _ _ _ (Av sz cs b o hr);have hlen:us.length=sz:=by
    simp_all
   refine⟨.agg us.toArray,ajo t b o us ha (by rw[hlen];exact hz) h3,?_⟩
   simp only[ae]
   grind
 | false=>
  simp only[gI,yO] at hv
  cases cs with
  | nil=>simp at hv
  | cons c cs=>
   simp only[yb] at hv;subst hv;obtain⟨⟨u,h1,h2⟩,_⟩:=hr;exact⟨u,ajp t b o u ha h1,h2⟩
def abg{t:yv}{sz o:Nat}{ag:Bool}{cs:List AV}{xs:Array yg}{v:AV}(hz:bZ O.P t=Ft sz)(ha:dc O.P t=Ft ag)(hr:az O.ab m S w cs xs.toList)(hv:gI sz ag (cs.drop o)=Ft v):∃u,(part t xs o).run O.P w=.ok u w/\ae O.ab m S w v u:=by
 have hd:∀(k:Nat) (cs:List AV) (us:List yg),az O.ab m S w cs us->az O.ab m S w (cs.drop k) (us.drop k):=by
  intro k
  induction k with
  | zero=>intro cs us h;simpa using h
  | succ k ih=>
   intro cs us h
   cases cs with
   | nil=>simp only[az] at h;subst h;simp[az]
   | cons c cs=>simp only[az] at h;obtain⟨u,r,rfl,_,h3⟩:=h;simpa using ih cs r h3
 have eQ:∀(k:Nat) (cs:List AV) (us:List yg),az O.ab m S w cs us->az O.ab m S w (cs.take k) (us.take k):=by
  intro k
  induction k with
  | zero=>intro cs us h;simp[az]
  | succ k ih=>
   intro cs us h
   cases cs with
   | nil=>simp only[az] at h;subst h;simp[az]
   | cons c cs=>simp only[az] at h;obtain⟨u,r,rfl,h2,h3⟩:=h;simp only[wM,az];exact⟨u,_,rfl,h2,ih cs r h3⟩
 have aeH:(isAgg t).run O.P w=.ok ag w:=by
  unfold dc at ha
  cases hu:O.P.underlying t with
  | none=>simp[hu] at ha
  | some d=>cases d<;>simp_all[isAgg,underlying]
 have eC:(vA t).run O.P w=.ok sz w:=by
  unfold bZ at hz
  cases hi:O.P.info? t with
  | none=>simp[hi] at hz
  | some i=>simp_all[vA,typeInfo]
 have bA:=hd o cs xs.toList hr
 cases ag with
 | true=>
  simp only[gI,yq] at hv
  cases hle:yA sz (cs.drop o).length with
  | false=>simp only[hle,yO] at hv;cases hv
  | true=>
   simp only[hle,yq,yb] at hv;subst hv;refine⟨.agg (xs.extract o (o+sz)),by simp[part,Sem.run_bind,aeH,eC],?_⟩;simp only[ae]
   simp_all
 | false=>
  simp only[gI,yO] at hv
  cases hc:cs.drop o with
  | nil=>simp[hc] at hv
  | cons c r=>
   simp only[hc,yb] at hv;subst hv;rw[hc] at bA;simp only[az] at bA;obtain⟨u,us,h1,h2,_⟩:=bA;have hx:xs[o]? =Ft u:=by
    have:xs.toList[o]? =Ft u:=by
     have:=congrArg (fun l=>l[0]?) h1
     simpa using this
    simpa using this
   exact⟨u,by simp[part,Sem.run_bind,aeH,hx],h2⟩
end
end
section
open Go
section
variable {v:AV}{k:xd}{b:Nat}
def mR(t:ByteArray):List Nat:=t.data.toList.map xg
def abh:∀a b:List UInt8,dh (a.map xg) (b.map xg)=(a==b)
 | [],[]=>rfl
 | [],_::_=>rfl
 | _::_,[]=>rfl
 | a::x,b::y=>by
  have h:ym a.toNat b.toNat=(a==b):=by
   rw[yaq,ycZ,tX];exact ybw
  simp only[yZ,dh,abh x y,h,List.cons_beq_cons]
def abi:∀a b:List UInt8,CP (a.map xg) (b.map xg)=Op.bytesLess a b
 | [],[]=>rfl
 | [],_::_=>rfl
 | _::_,[]=>rfl
 | a::x,b::y=>by
  have h:ym a.toNat b.toNat=(a==b):=by
   rw[yaq,ycZ,tX];exact ybw
  have h2:yI a.toNat b.toNat=decide (a<b):=by
   rw[yaq];simp only[yI,yda,tI,UInt8.lt_iff_toNat_lt]
   lia
  simp only[yZ,CP,Op.bytesLess,abi x y,h,h2]
def Y9(s t:ByteArray):dh (mR s) (mR t)=(s.toList==t.toList):=by
 rw[mR,mR,abh,ByteArray.toList_eq,ByteArray.toList_eq]
def akK(s t:ByteArray):CP (mR s) (mR t)=Op.bytesLess s.toList t.toList:=by
 rw[mR,mR,abi,ByteArray.toList_eq,ByteArray.toList_eq]
def Za(s:ByteArray):(mR s).length=s.size:=by
 rw[mR,List.length_map,Lib.size_eq]
section
variable {ab:Nat->Nat}{P:xm}{m:Mp}{S:Nat->Prop}{w:yi}{t:yv}
def amt{op:vd}{x y:Int}(h:mw op k x y=Ft v):
  ∃u,(xY op t (.int k x) (.int k y)).run P w=.ok u w/\ae ab m S w v u:=by
 cases op<;>simp only[mw,intCmp,yb] at h
 case quo=>
  by_cases hy:y=0
  .grind
  .simp only [hy,xy,yb] at h;subst h;exact⟨_,by simp[xY,Op.intDiv,hy];rfl,by simp[ae]⟩
 case rem=>
  by_cases hy:y=0
  .grind
  .simp only [hy,xy,yb] at h;subst h;exact⟨_,by simp[xY,Op.intDiv,hy];rfl,by simp[ae]⟩
 case shl=>cases h
 case shr=>cases h
 all_goals
  subst h;exact⟨_,by simp[xY,Op.intCmp];rfl,by simp[ae]⟩
def Ys{op:vd}{k':xd}{x y:Int}(h:DM op k x y=Ft v):
  ∃u,(xY op t (.int k x) (.int k' y)).run P w=.ok u w/\ae ab m S w v u:=by
 unfold DM at h;by_cases hy:y<0
 .grind
 .simp only [hy,xy] at h;cases op<;>simp only[yb] at h
  case shl=>subst h;exact⟨_,by simp[xY,Op.shift,hy];rfl,by simp[ae]⟩
  case shr=>subst h;exact⟨_,by simp[xY,Op.shift,hy];rfl,by simp[ae]⟩
  all_goals cases h
def amu{op:vd}{x y:ByteArray}(h:J0 op (mR x) (mR y)=Ft v):
  ∃u,(xY op t (.string x) (.string y)).run P w=.ok u w/\ae ab m S w v u:=by
 cases op<;>simp only[J0,Y9,akK,Za,yb] at h
 case add=>
  cases hle:yA (x.size+y.size) 9223372036854775807 with
  | false=>rw[hle] at h;cases h
  | true=>
   rw[hle] at h;simp only[yq,yb] at h;subst h;have aDL:=yr hle;have axq:¬(((x.size+y.size:Nat):Int)>IntKind.i64.max):=by
    have:IntKind.i64.max=9223372036854775807:=by decide
    grind
   refine⟨.string (x++y),?_,?_⟩
   .simp only [xY,Op.stringOp,yz axq,Sem.run_pure]
   .simp only [ae];exact⟨x++y,rfl,by simp[mR]⟩
 all_goals first
  | (cases h;done)
  | (subst h;exact⟨_,by simp[xY,Op.stringOp];rfl,by simp[ae]⟩)
def amv{op:vd}{k:xW}{x y:Nat}(h:Ec op k x y=Ft v):
  ∃u,(xY op t (.float k x) (.float k y)).run P w=.ok u w/\ae ab m S w v u:=by
 cases op<;>simp only[Ec,yb] at h
 case add=>
  cases hr:k.format.add x y with
  | none=>simp[hr] at h
  | some r=>simp only[hr,yb] at h;subst h;exact⟨.float k r,by simp[xY,Op.floatArith,hr],by simp[ae]⟩
 case sub=>
  cases hr:k.format.sub x y with
  | none=>simp[hr] at h
  | some r=>simp only[hr,yb] at h;subst h;exact⟨.float k r,by simp[xY,Op.floatArith,hr],by simp[ae]⟩
 case mul=>
  cases hr:k.format.mul x y with
  | none=>simp[hr] at h
  | some r=>simp only[hr,yb] at h;subst h;exact⟨.float k r,by simp[xY,Op.floatArith,hr],by simp[ae]⟩
 case quo=>
  cases hr:k.format.div x y with
  | none=>simp[hr] at h
  | some r=>simp only[hr,yb] at h;subst h;exact⟨.float k r,by simp[xY,Op.floatArith,hr],by simp[ae]⟩
 all_goals first
  | (cases h;done)
  | (subst h;exact⟨_,by simp[xY,Op.floatCmp];rfl,by simp[ae]⟩)
def abj(k:xW)(x y:Nat):(Op.Complex.cmp .eql k x y).run P w=.ok (k.format.order x y==Ft .eq) w:=by
 simp[Op.Complex.cmp,Op.floatCmp,asBool]
def zy{op:vd}{k:xW}{x y r:Nat}(h:mI op k x y=Ft r):(Op.Complex.arith op k x y).run P w=.ok r w:=by
 unfold mI at h
 split at h
 .simp [Op.Complex.arith,Op.floatArith,h]
 .simp [Op.Complex.arith,Op.floatArith,h]
 .simp [Op.Complex.arith,Op.floatArith,h]
 .cases h
def FZ{s k:xW}{r:Nat}(h:CQ s k b=Ft r):(Op.Complex.conv s b k).run P w=.ok r w:=by
 unfold CQ at h;unfold Op.Complex.conv;by_cases hk:s=k
 .rw [yP hk] at h ⊢;cases h;rfl
 .rw [yz hk] at h ⊢
  cases hd:s.decode b with
  | nan _ _=>simp[hd] at h
  | infinity _=>simp[hd] at h
  | number sg m e=>
   simp only[hd] at h
   cases hi:(k.decode (k.encode (.number sg m e))).isInfinity with
   | true=>simp[hi] at h
   | false=>simp[hi] at h;subst h;simp[Conv.floatToFloat,hk,hd,hi]
def akL{k:xW}{a c d:Nat}(h:Tt k a b c d=Ft v):
  ∃u,(xY .mul t (.complex k a b) (.complex k c d)).run P w=.ok u w/\ae ab m S w v u:=by
 unfold Tt at h
 split at h
 .rename_i a' b' c' d' h1 h2 h3 h4
  split at h
  .rename_i p q r s g1 g2 g3 g4
   split at h
   .rename_i e f k1 k2
    split at h
    .rename_i e' f' l1 l2;cases h;exact⟨.complex k e' f',by simp[xY,Op.complexOp,Op.Complex.product,Op.Complex.mul,Op.Complex.sub,Op.Complex.add,FZ h1,FZ h2,FZ h3,FZ h4,zy g1,zy g2,zy g3,zy g4,zy k1,zy k2,FZ l1,FZ l2],by simp[ae]⟩
    .cases h
   .cases h
  .cases h
 .cases h
def amw{op:vd}{k:xW}{a c d:Nat}(h:Ua op k a b c d=Ft v):
  ∃u,(xY op t (.complex k a b) (.complex k c d)).run P w=.ok u w/\ae ab m S w v u:=by
 cases op<;>simp only[Ua,yb,reduceCtorEq] at h
 case add=>
  cases h1:mI .add k a c with
  | none=>simp[h1] at h
  | some r=>
   cases h2:mI .add k b d with
   | none=>simp[h1,h2] at h
   | some i=>
    simp only[h1,h2,yb] at h;subst h;exact⟨.complex k r i,by simp[xY,Op.complexOp,zy h1,zy h2],by simp[ae]⟩
 case sub=>
  cases h1:mI .sub k a c with
  | none=>simp[h1] at h
  | some r=>
   cases h2:mI .sub k b d with
   | none=>simp[h1,h2] at h
   | some i=>
    simp only[h1,h2,yb] at h;subst h;exact⟨.complex k r i,by simp[xY,Op.complexOp,zy h1,zy h2],by simp[ae]⟩
 case mul=>exact akL h
 case eql=>subst h;exact⟨_,by simp[xY,Op.complexOp,abj];rfl,by simp[ae]⟩
 case neq=>subst h;exact⟨_,by simp[xY,Op.complexOp,abj];rfl,by simp[ae]⟩
def amx{op:vd}{vx vy:AV}{x y:yg}(hx:ae ab m S w vx x)(hy:ae ab m S w vy y)(h:VE.binOp op vx vy=Ft v):
  ∃u,(xY op t x y).run P w=.ok u w/\ae ab m S w v u:=by
 unfold VE.binOp at h
 split at h
 .rename_i k a k' b;simp only[ae] at hx hy;subst hx;subst hy
  split at h
  .exact Ys h
  .exact Ys h
  .by_cases hk:k=k'
   .subst hk;simp only[xQ] at h;exact amt h
   .simp [hk] at h
 .rename_i k a k' b;simp only[ae] at hx hy;subst hx;subst hy;by_cases hk:k=k'
  .subst hk;simp only[xQ] at h;exact amv h
  .simp [hk] at h
 .rename_i a b;simp only[ae] at hx hy;obtain⟨s,rfl,rfl⟩:=hx;obtain⟨s',rfl,rfl⟩:=hy;exact amu h
 .rename_i k a b k' c d;simp only[ae] at hx hy;subst hx;subst hy;by_cases hk:k=k'
  .subst hk;simp only[xQ] at h;exact amw h
  .simp [hk] at h
 .cases h
end
end
end
section
open Go
section
variable {v vx:AV}{vr:Bool}{d:Nat}{x:yg}
section
variable {ab:Nat->Nat}{P:xm}{m:Mp}{S:Nat->Prop}{w:yi}{t:yv}
def ajT{op:vd}{x y:xr}{a b:yg}(h:P.eqGuardType P.depth t=ydi\/∀xs ys,¬(a=.agg xs/\b=.agg ys))(hn:a≠.nilIface):
  (eqGuard op t x y a b).run P w=.ok () w:=by
 unfold eqGuard;cases op
 all_goals first
  | rfl
  | (
    cases a
    all_goals first
     | rfl
     | exact absurd rfl hn
     | (
      cases b
      all_goals first
       | rfl
       | (
         rcases h with h | h
         .simp [h]
         .exact absurd ⟨rfl,rfl⟩ (h _ _))))
def arz{p q:Bool}(ht:P.underlying t=Ft .bool):(Op.equalIn (d+1) t (.bool p) (.bool q)).run P w=.ok (p==q) w:=by
 simp[Op.equalIn,underlying,ht]
def Ud{e:yv}(ht:P.underlying t=Ft (.slice e))(y:Option uK)(n c n' c':Nat):
  (Op.equalIn (d+1) t (.slice Fu n c) (.slice y n' c')).run P w=.ok y.isNone w:=by simp[Op.equalIn,underlying,ht]
def ac9{e:yv}(ht:P.underlying t=Ft (.slice e))(x:uK)(n c n' c':Nat):
  (Op.equalIn (d+1) t (.slice (Ft x) n c) (.slice Fu n' c')).run P w=.ok ydi w:=by simp[Op.equalIn,underlying,ht]
def avA{ps rs:Array yv}(ht:P.underlying t=Ft (.func ps rs vr)):
  (Op.equalIn (d+1) t .nilFunc .nilFunc).run P w=.ok ydh w:=by simp[Op.equalIn,underlying,ht]
def ada{ps rs:Array yv}(ht:P.underlying t=Ft (.func ps rs vr))(f:Go.Fn)(a b:Array yg):
  (Op.equalIn (d+1) t .nilFunc (.func f a b)).run P w=.ok ydi w:=by simp[Op.equalIn,underlying,ht]
def adb{ps rs:Array yv}(ht:P.underlying t=Ft (.func ps rs vr))(f:Go.Fn)(a b:Array yg):
  (Op.equalIn (d+1) t (.func f a b) .nilFunc).run P w=.ok ydi w:=by simp[Op.equalIn,underlying,ht]
def Sc(x y:yg):Op.equal t x y=Op.equalIn (9999+1) t x y:=rfl
def aoM{vy:AV}{y:yg}{r:Bool}{e:yv}(ht:P.underlying t=Ft (.slice e))(hx:ae ab m S w vx x)(hy:ae ab m S w vy y)(h:jo .sl vx vy=Ft r):(Op.equal t x y).run P w=.ok r w:=by
 unfold jo at h
 split at h<;>simp_all only [yb,reduceCtorEq]
 all_goals subst h
 .subst hx;subst hy;exact Ud ht _ _ _ _ _
 .rcases hy with ⟨b,o,c,rfl,_⟩ | ⟨_,rfl,_⟩<;>(subst hx;exact Ud ht _ _ _ _ _)
 .obtain ⟨p,c,_,rfl,_⟩:=hy;subst hx;exact Ud ht _ _ _ _ _
 .rcases hx with ⟨b,o,c,rfl,_⟩ | ⟨_,rfl,_⟩<;>(subst hy;exact ac9 ht _ _ _ _ _)
 .obtain ⟨p,c,_,rfl,_⟩:=hx;subst hy;exact ac9 ht _ _ _ _ _
def aoN{vy:AV}{y:yg}{r:Bool}{ps rs:Array yv}(ht:P.underlying t=Ft (.func ps rs vr))(hx:ae ab m S w vx x)(hy:ae ab m S w vy y)(h:jo .fn vx vy=Ft r):(Op.equal t x y).run P w=.ok r w:=by
 unfold jo at h
 split at h<;>simp_all only [yb,reduceCtorEq]
 all_goals subst h
 .simp only [ae] at hx hy;subst hx;subst hy;exact avA ht
 .rename_i f _ _
  cases f with
  | f g=>simp only[ae] at hx hy;obtain⟨fi,ca,rfl,_⟩:=hy;subst hx;exact ada ht _ _ _
  | y l=>simp only[ae] at hx hy;obtain⟨p,_,rfl⟩:=hy;subst hx;exact ada ht _ _ _
 .rename_i f _ _
  cases f with
  | f g=>simp only[ae] at hx hy;obtain⟨fi,ca,rfl,_⟩:=hx;subst hy;exact adb ht _ _ _
  | y l=>simp only[ae] at hx hy;obtain⟨p,_,rfl⟩:=hx;subst hy;exact adb ht _ _ _
def aoO{op:ycM}(hx:ae ab m S w vx x)(h:VE.unOp op vx=Ft v):∃u,(Op.unary op x).run P w=.ok u w/\ae ab m S w v u:=by
 unfold VE.unOp at h
 split at h
 .rename_i k n;subst hx;simp only[yb] at h;subst h;exact⟨_,by simp[Op.unary,Op.intArith];rfl,by simp[ae]⟩
 .rename_i k n;subst hx;simp only[mw,yb] at h;subst h;exact⟨_,by simp[Op.unary,Op.intBits];rfl,by simp[ae]⟩
 .rename_i b;subst hx;simp only[yb] at h;subst h;exact⟨_,by simp[Op.unary];rfl,by simp[ae]⟩
 .rename_i k b;subst hx;simp only[yb] at h;subst h;exact⟨_,by simp[Op.unary,Op.negFloat];rfl,by simp[ae]⟩
 .cases h
def Z4{s d:yv}{k:xd}(hd:P.underlying d=Ft (.int k))(hs:(∃k',P.underlying s=Ft (.int k'))\/∃k',P.underlying s=Ft (.float k'))(hx:ae ab m S w vx x)(h:kC (.toInt k) vx=Ft v):∃u,(convert s d x).run P w=.ok u w/\ae ab m S w v u:=by
 cases vx<;>simp only[kC,reduceCtorEq] at h
 case int k0 n=>
  simp only[ae] at hx;subst hx;simp only[yb] at h;subst h;refine⟨.int k (k.wrap n),?_,by simp[ae]⟩;rcases hs with ⟨k',h'⟩ | ⟨k',h'⟩<;>simp[convert,underlying,Conv.intToInt,hd,h']
 case ao sk b=>
  subst hx
  cases hi:(sk.decode b).toInt .zero with
  | none=>simp[hi] at h
  | some n=>
   simp only[hi] at h;by_cases hr:k.min<=n/\n<=k.max
   .simp only [hr,and_self,xQ,yb] at h;subst h;refine⟨.int k n,?_,by simp[ae]⟩;rcases hs with ⟨k',h'⟩ | ⟨k',h'⟩<;>simp[convert,underlying,Conv.floatToInt,hd,h',hi,hr]
   .grind
def Z5{s d:yv}{k:xW}(hd:P.underlying d=Ft (.float k))(hs:(∃k',P.underlying s=Ft (.int k'))\/∃k',P.underlying s=Ft (.float k'))(hx:ae ab m S w vx x)(h:kC (.toFlt k) vx=Ft v):∃u,(convert s d x).run P w=.ok u w/\ae ab m S w v u:=by
 cases vx<;>simp only[kC,reduceCtorEq] at h
 case int k0 n=>
  simp only[ae] at hx;subst hx;simp only[yb] at h;subst h;refine⟨.float k (k.nearest n),?_,by simp[ae]⟩;rcases hs with ⟨k',h'⟩ | ⟨k',h'⟩<;>simp[convert,underlying,Conv.intToFloat,hd,h']
 case ao sk b=>
  simp only[ae] at hx;subst hx;by_cases he:sk=k
  .subst he;simp only[xQ,yb] at h;subst h;refine⟨.float sk b,?_,by simp[ae]⟩;rcases hs with ⟨k',h'⟩ | ⟨k',h'⟩<;>simp[convert,underlying,Conv.floatToFloat,hd,h']
  .simp only [he,xy] at h
   cases zN:sk.decode b with
   | nan _ _=>simp[zN] at h
   | infinity _=>simp[zN] at h
   | number sg mm ee=>
    simp only[zN] at h
    cases UL:(k.decode (k.encode (.number sg mm ee))).isInfinity with
    | true=>simp[UL] at h
    | false=>
     simp only[UL,yC,xy,yb] at h;subst h;refine⟨.float k (k.encode (.number sg mm ee)),?_,by simp[ae]⟩;rcases hs with ⟨k',h'⟩ | ⟨k',h'⟩<;>simp[convert,underlying,Conv.floatToFloat,hd,h',he,zN,UL]
def amy{s d:yv}(hd:P.underlying d=Ft .string)(hs:P.underlying s=Ft .string)(hx:ae ab m S w vx x)(h:kC .str vx=Ft v):∃u,(convert s d x).run P w=.ok u w/\ae ab m S w v u:=by
 cases vx<;>simp only[kC,reduceCtorEq] at h
 simp only[yb] at h;subst h;obtain⟨b,rfl,hb⟩:=hx;exact⟨.string b,by simp[convert,underlying,hs,hd],by simp only[ae];exact⟨b,rfl,hb⟩⟩
end
end
end
section
open Go
section
variable {v vx:AV}{hp:Hp}{k:Nat}{P:xm}{x:yg}
def akM(h:cy v=Ft k):∃kd,v=.int kd (k:Int):=by
 cases v<;>simp only[cy,reduceCtorEq] at h
 rename_i kd n
 cases n with
 | ofNat j=>simp only[yb] at h;subst h;exact⟨kd,rfl⟩
 | negSucc j=>cases h
section
variable {O:bl}{H:Hint}{m:Mp}{S:Nat->Prop}{w:yi}{tm:Env}{a:Act}
def AI{ab:Nat->Nat}(hx:ae ab m S w v x)(h:cy v=Ft k):∃kd,x=.int kd (k:Int):=by
 obtain⟨kd,rfl⟩:=akM h;simp only[ae] at hx
 grind
def run_sliceBound{kd:xd}{y:Nat}{code:BoundsCode}(h:k<=y):(Instr.sliceBound (.int kd (k:Int)) y code).run P w=.ok k w:=by
 have:(0:Int)<=(k:Int)/\(k:Int)<=(y:Int):=by lia
 simp[Instr.sliceBound,asIntOf,this]
def RF{isSlice:Bool}{len cap l h:Nat}{lo hi:Option xr}(hH:eX O H)(ht:bO O m S w tm a.tmps)(hl:cP tm 0 (lo.map (aK H))=Ft l)(hh:cP tm len (hi.map (aK H))=Ft h)(h1:l<=h)(h2:h<=cap):
  (Instr.sliceBounds isSlice len cap (lo.map a.eval) (hi.map a.eval) Fu).run P w=.ok (l,h,cap) w:=by
 cases lo with
 | none=>
  simp only[uy,cP,yb] at hl;subst hl
  cases hi with
  | none=>
   simp only[uy,cP,yb] at hh;subst hh;simp[Instr.sliceBounds]
  | some y=>
   have⟨kd,e⟩:=AI (bQ hH ht y) hh;simp only[Instr.sliceBounds,uy,wU,e,Sem.run_bind,Sem.run_pure,Result.andThen_ok,run_sliceBound h2]
 | some x=>
  have⟨kd,e⟩:=AI (bQ hH ht x) hl
  cases hi with
  | none=>
   simp only[uy,cP,yb] at hh;subst hh;simp only[Instr.sliceBounds,uy,wU,e,Sem.run_bind,Sem.run_pure,Result.andThen_ok,run_sliceBound h1]
  | some y=>
   have⟨Wf,e'⟩:=AI (bQ hH ht y) hh;simp only[Instr.sliceBounds,wU,e,e',Sem.run_bind,Sem.run_pure,Result.andThen_ok,run_sliceBound h2,run_sliceBound h1]
def akN{t:yv}{lo hi:Option xr}(hH:eX O H)(ht:bO O m S w tm a.tmps)(hu:O.P.underlying t=Ft .string)(hx:ae O.ab m S w vx x)(h:fj hp .str vx tm (lo.map (aK H)) (hi.map (aK H))=Ft v):
  ∃u,(Instr.sliceAt t x (lo.map a.eval) (hi.map a.eval) Fu).run O.P w=.ok u w/\ae O.ab m S w v u:=by
 cases vx<;>simp only[fj,reduceCtorEq] at h
 obtain⟨b,rfl,rfl⟩:=hx
 cases hl:cP tm 0 (lo.map (aK H)) with
 | none=>simp[hl] at h
 | some l=>
  simp only[hl] at h
  cases hh:cP tm (b.data.toList.map xg).length (hi.map (aK H)) with
  | none=>rw[hh] at h;cases h
  | some g=>
   rw[hh] at h;simp only at h
   cases hc:(yA l g&&yA g (b.data.toList.map xg).length) with
   | false=>rw[hc] at h;cases h
   | true=>
    rw[hc] at h;simp only[yq,yb] at h;subst h;simp only[ye] at hc;have h1:=yr hc.1;have h2:=yr hc.2;have hlen:(b.data.toList.map xg).length=b.size:=Za b;rw[hlen] at hh h2;refine⟨.string (b.extract l g),?_,?_⟩
    .simp only [Instr.sliceAt,Sem.run_bind,run_underlying hu,Result.andThen_ok,Instr.slice,tR,yC,xy,Sem.run_pure,
      RF (P:=O.P) (isSlice:=ydi) (len:=b.size) (cap:=b.size) hH ht hl hh h1 h2]
    .simp only [ae];refine⟨_,rfl,?_⟩;rw[Lib.extract_data,List.map_take,List.map_drop,List.drop_take]
def amz{t e:yv}{sz:Nat}{lo hi:Option xr}(hH:eX O H)(ht:bO O m S w tm a.tmps)(hu:O.P.underlying t=Ft (.slice e))(hz:bZ O.P e=Ft sz){ct:Nat}(hh:aR O m S w hp ct)(hx:ae O.ab m S w vx x)(h:fj hp (.sl sz) vx tm (lo.map (aK H)) (hi.map (aK H))=Ft v):
  ∃u,(Instr.sliceAt t x (lo.map a.eval) (hi.map a.eval) Fu).run O.P w=.ok u w/\ae O.ab m S w v u:=by
 have eC:(vA e).run O.P w=.ok sz w:=by
  unfold bZ at hz
  cases hi:O.P.info? e with
  | none=>simp[hi] at hz
  | some i=>simp_all[vA,typeInfo]
 have Jl:∀(ad:Option uK) (n c l g:Nat),cP tm 0 (lo.map (aK H))=Ft l->cP tm n (hi.map (aK H))=Ft g->l<=g->g<=c->
   (Instr.sliceAt t (.slice ad n c) (lo.map a.eval) (hi.map a.eval) Fu).run O.P w=.ok (.slice (if c=l then ad else ad.map (·.add (l*sz))) (g-l) (c-l)) w:=by
  intro ad n c l g hl hg h1 h2
  simp only[Instr.sliceAt,Sem.run_bind,run_underlying hu,Result.andThen_ok,Instr.slice,Sem.run_pure,eC,
   RF (P:=O.P) (isSlice:=ydh) (len:=n) (cap:=c) hH ht hl hg h1 h2]
 cases vx<;>simp only[fj,reduceCtorEq] at h
 case af=>
  simp only[ae] at hx;subst hx
  cases hl:cP tm 0 (lo.map (aK H)) with
  | none=>simp[hl] at h
  | some l=>
   cases l with
   | succ l=>simp[hl] at h
   | zero=>
    simp only[hl] at h
    cases hh:cP tm 0 (hi.map (aK H)) with
    | none=>simp[hh] at h
    | some g=>
     cases g with
     | succ g=>simp[hh] at h
     | zero=>
      simp only[hh,yb] at h;subst h;exact⟨_,Jl Fu 0 0 0 0 hl hh (yu _) (yu _),by simp[ae]⟩
 case au ex n cs=>
  simp only[ae] at hx;rcases hx with ⟨b,o,c,rfl,Ll,hex,hS,gj,Bp⟩ | ⟨ad,rfl,rfl,rfl⟩
  case inr=>
   cases hl:cP tm 0 (lo.map (aK H)) with
   | none=>simp[hl] at h
   | some l=>
    simp only[hl] at h
    cases hh:cP tm 0 (hi.map (aK H)) with
    | none=>simp[hh] at h
    | some g=>
     simp only[hh] at h
     cases hc:(yA l g&&yA g 0) with
     | false=>rw[hc] at h;cases h
     | true=>
      rw[hc] at h;simp only[yq,yb] at h;subst h;simp only[ye] at hc;have h1:=yr hc.1;have h2:=yr hc.2;have hg:g=0:=by lia
      subst hg;have kV:l=0:=by lia
      subst kV;refine⟨_,Jl (Ft ad) 0 0 0 0 hl hh h1 h2,?_⟩;simp only[ae];exact .inr ⟨ad,by simp,by simp,by simp[slice]⟩
  cases hl:cP tm 0 (lo.map (aK H)) with
  | none=>simp[hl] at h
  | some l=>
   simp only[hl] at h
   cases hh:cP tm n (hi.map (aK H)) with
   | none=>simp[hh] at h
   | some g=>
    simp only[hh] at h
    cases hc:(yA l g&&yA g n) with
    | false=>rw[hc] at h;cases h
    | true=>
     rw[hc] at h;simp only[yq,yb] at h;subst h;simp only[ye] at hc;have h1:=yr hc.1;have h2:=yr hc.2;refine⟨_,Jl (Ft ⟨b,o,Fu⟩) n c l g hl hh h1 (by lia),?_⟩;have Eh:aD (slice (l*sz) ((g-l)*sz) cs)=ydh:=by
      have pd:∀(k:Nat) (cs:List AV),aD cs=ydh->aD (cs.drop k)=ydh:=by
       intro k
       induction k with
       | zero=>intro cs h;simpa using h
       | succ k ih=>intro cs h;cases cs with
        | nil=>simpa using h
        | cons c cs=>simp only[aD,ye] at h;simpa using ih cs h.2
      have pt:∀(k:Nat) (cs:List AV),aD cs=ydh->aD (cs.take k)=ydh:=by
       intro k
       induction k with
       | zero=>intro cs h;simp[aD]
       | succ k ih=>intro cs h;cases cs with
        | nil=>simp[aD]
        | cons c cs=>simp only[aD,ye,wM] at h ⊢;exact⟨h.1,ih cs h.2⟩
      exact pt _ _ (pd _ _ gj)
     have aeI:(ex&&ym g n)=ydh->c-l=g-l:=by
      intro hq;simp only[ye] at hq
      have:=hex hq.1
      have:=yf hq.2
      lia
     simp only[ae];by_cases dH:c=l
     .have h0:g-l=0:=by lia
      have Bq:slice (l*sz) ((g-l)*sz) cs=[]:=by simp[slice,h0]
      rw[Bq];exact .inl ⟨b,o,c-l,by simp[dH],by lia,aeI,.inl rfl,rfl,by simp[bL]⟩
     .refine .inl ⟨b,o+l*sz,c-l,by simp[dH,nS],by lia,aeI,?_,Eh,?_⟩
      .rcases hS with rfl | hS
       .exact .inl (by simp[slice])
       .exact .inr hS
      .exact Av _ _ _ _ (rO _ _ _ _ Bp)
 case ap id o n=>
  simp only[ae] at hx;obtain⟨p,c,hm,rfl,Ll,PW⟩:=hx
  split at h
  case h_2=>cases h
  rename_i Wg pu0 z6 z0 cs0 Ei;have⟨p',arr,t',iI,_,eK,_⟩:=hh.obj id _ _ Ei hm;rw[hm] at iI;injection iI with iI
  subst iI
  cases hl:cP tm 0 (lo.map (aK H)) with
  | none=>simp[hl] at h
  | some l=>
   simp only[hl] at h
   cases hh:cP tm n (hi.map (aK H)) with
   | none=>simp[hh] at h
   | some g=>
    simp only[hh] at h
    cases hc:(yA l g&&yA g n&&ym z0 sz) with
    | false=>rw[hc] at h;cases h
    | true=>
     rw[hc] at h;simp only[yq] at h;simp only[ye] at hc;have h1:=yr hc.1.1;have h2:=yr hc.1.2;have hpz:p.z=sz:=eK.trans (yf hc.2)
     cases he:(ym l g&& !ym l 0) with
     | true=>
      rw[he] at h;simp only[yq,yb] at h;subst h;simp only[ye] at he;have CU:=yf he.1;refine⟨_,Jl (Ft ⟨p.b,p.o+o,Fu⟩) n c l g hl hh h1 (by lia),?_⟩;simp only[ae];by_cases dH:c=l
      .exact .inl ⟨p.b,p.o+o,c-l,by simp[dH];lia,by lia,by simp,by simp,by simp[aD],by simp[bL]⟩
      .exact .inl ⟨p.b,p.o+o+l*sz,c-l,by simp[dH,nS];lia,by lia,by simp,by simp,by simp[aD],by simp[bL]⟩
     | false=>
      rw[he] at h;simp only[yO,yb] at h;subst h;have dH:c=l->l=0:=by
       intro dH;have CU:l=g:=by lia
       cases kV:ym l 0 with
       | true=>exact yf kV
       | false=>rw[CU,wV,<-CU,kV] at he;cases he
      refine⟨_,Jl (Ft ⟨p.b,p.o+o,Fu⟩) n c l g hl hh h1 (by lia),?_⟩;simp only[ae];refine⟨p,c-l,hm,?_,by lia,?_⟩
      .by_cases UM:c=l
       .have:=dH UM;subst this;subst UM;simp
       .simp [UM,nS,tM]
      .rw [hpz] at PW ⊢
       have:c*sz=l*sz+(c-l)*sz:=by rw[<-xP];congr 1;lia
       lia
def amA{t e:yv}{n sz:Nat}{lo hi:Option xr}(hH:eX O H)(ht:bO O m S w tm a.tmps)(hu:O.P.underlying t=Ft (.array n e))(hz:bZ O.P e=Ft sz)(hx:ae O.ab m S w vx x)(h:fj hp (.ar n sz) vx tm (lo.map (aK H)) (hi.map (aK H))=Ft v):
  ∃u,(Instr.sliceAt t x (lo.map a.eval) (hi.map a.eval) Fu).run O.P w=.ok u w/\ae O.ab m S w v u:=by
 have eC:(vA e).run O.P w=.ok sz w:=by
  unfold bZ at hz
  cases hi:O.P.info? e with
  | none=>simp[hi] at hz
  | some i=>simp_all[vA,typeInfo]
 cases vx<;>simp only[fj,reduceCtorEq] at h
 rename_i cs;simp only[ae] at hx;obtain⟨b,o,rfl,hS,gj,Bp⟩:=hx
 cases hl:cP tm 0 (lo.map (aK H)) with
 | none=>simp[hl] at h
 | some l=>
  simp only[hl] at h
  cases hh:cP tm n (hi.map (aK H)) with
  | none=>simp[hh] at h
  | some g=>
   simp only[hh] at h
   cases hc:(ym l 0&&ym g n&&(yI 0 n&&yA (n*sz) cs.length)) with
   | false=>rw[hc] at h;cases h
   | true=>
    rw[hc] at h;simp only[yq,yb] at h;subst h;simp only[ye] at hc;have h1:=yf hc.1.1;have h2:=yf hc.1.2;have h3:0<n:=yr hc.2.1;subst h1 h2;have ek:¬g=0:=by omega
    refine⟨.slice (Ft ⟨b,o,Fu⟩) g g,?_,?_⟩
    .simp only [Instr.sliceAt,Sem.run_bind,run_underlying hu,Result.andThen_ok,Instr.sureAddr,Sem.run_pure,eC,
      RF (P:=O.P) (isSlice:=ydi) (len:=g) (cap:=g) hH ht hl hh (Nat.zero_le _) (yu _)]
     simp[nS]
    .have pt:∀(k:Nat) (cs:List AV),aD cs=ydh->aD (cs.take k)=ydh:=by
      intro k
      induction k with
      | zero=>intro cs h;simp[aD]
      | succ k ih=>intro cs h;cases cs with
       | nil=>simp[aD]
       | cons c cs=>simp only[aD,ye,wM] at h ⊢;exact⟨h.1,ih cs h.2⟩
     simp only[ae];refine .inl ⟨b,o,g,rfl,yu _,fun _=>rfl,?_,pt _ _ gj,Av _ _ _ _ Bp⟩;rcases hS with rfl | hS
     .exact .inl (by simp)
     .exact .inr hS
end
end
end
section
open Go
section
variable {v vi vx:AV}{ag:Bool}{cs:List AV}{k sz:Nat}{i x:yg}
def oO{P:xm}{w:yi}{t:yv}(hz:bZ P t=Ft sz):(vA t).run P w=.ok sz w:=by
 unfold bZ at hz
 cases hi:P.info? t with
 | none=>simp[hi] at hz
 | some i=>simp_all[vA,typeInfo]
section
variable {O:bl}{H:Hint}{m:Mp}{S:Nat->Prop}{w:yi}{tm:Env}{a:Act}{hp:Hp}{ct:Nat}
def Sd{id o n:Nat}{rw pu ex:Bool}{p:Pl}(hh:aR O m S w hp ct)(hg:ai hp id=Ft (.cells rw pu ex sz cs))(hm:m id=Ft p):
  bL O.ab m S w cs p.b p.o:=by
 have⟨p',arr,t',iI,_,_,_,_,_,hr,_⟩:=hh.obj id _ _ hg hm
 grind
def avB{t:yv}(hh:aR O m S w hp ct)(hz:bZ O.P t=Ft sz)(ha:dc O.P t=Ft ag)(hx:ae O.ab m S w vx x)(h:fL hp sz ag vx=Ft v):∃u,(Instr.loadAt t x).run O.P w=.ok u w/\ae O.ab m S w v u:=by
 cases vx<;>simp only[fL,reduceCtorEq] at h
 case ptr id o=>
  obtain⟨p,hm,rfl⟩:=hx
  split at h
  case h_2=>cases h
  rename_i Wg pu0 z6 z0 cs0 Ei;have hr:=Sd (id:=id) (o:=0) (n:=0) hh Ei hm;have⟨u,h1,h2⟩:=Nw hz ha (rO o cs0 p.b p.o hr) h;exact⟨u,by simp only[Instr.loadAt,Instr.sureAddr,Sem.run_bind,Sem.run_pure,Result.andThen_ok];exact h1,h2⟩
 case bq cs=>
  obtain⟨b,o,rfl,_,_,hr⟩:=hx;have⟨u,h1,h2⟩:=Nw hz ha hr h;exact⟨u,by simp only[Instr.loadAt,Instr.sureAddr,Sem.run_bind,Sem.run_pure,Result.andThen_ok];exact h1,h2⟩
def Aw:∀(k:Nat) (cs:List AV),aD cs=ydh->aD (cs.drop k)=ydh
 | 0,cs,h=>by simpa using h
 | k+1,[],h=>by simpa using h
 | k+1,c::cs,h=>by simp only[aD,ye] at h;simpa using Aw k cs h.2
def RG{b o:Nat}(h2:cs=[]\/S b)(h3:aD cs=ydh)(h4:bL O.ab m S w cs b o):ae O.ab m S w (.bq (cs.drop k)) (.pointer (Ft ⟨b,o+k,Fu⟩)):=by
 refine⟨b,o+k,rfl,?_,Aw k cs h3,rO k cs b o h4⟩
 grind
def arA{t:yv}{fs:Array ub}{i:Nat}{f:ub}(hu:O.P.underlying t=Ft (.struct fs))(hf:fs[i]? =Ft f)(hz:bZ O.P f.type=Ft (sz+1))(hx:ae O.ab m S w vx x)(h:Ci f.offset vx=Ft v):∃u,(Instr.fieldAt t x i).run O.P w=.ok u w/\ae O.ab m S w v u:=by
 have ade:∀(b o:Nat),(Instr.fieldAt t (.pointer (Ft ⟨b,o,Fu⟩)) i).run O.P w=.ok (.pointer (Ft ⟨b,o+f.offset,Fu⟩)) w:=by
  intro b o;simp only[Instr.fieldAt,Sem.run_bind,run_underlying hu,Result.andThen_ok,hf,Instr.sureAddr,Sem.run_pure,fieldPlace,oO hz,Nat.succ_ne_zero,xy,nS]
 cases vx<;>simp only[Ci,reduceCtorEq] at h
 case ptr id o=>
  obtain⟨p,hm,rfl⟩:=hx;simp only[yb] at h;subst h;exact⟨_,ade _ _,by simp only[ae];exact⟨p,hm,by rw[tM]⟩⟩
 case bq cs=>
  obtain⟨b,o,rfl,h2,h3,h4⟩:=hx
  cases hc:yA f.offset cs.length with
  | false=>rw[hc] at h;cases h
  | true=>
   rw[hc] at h;simp only[yq,yb] at h;subst h;exact⟨_,ade _ _,RG h2 h3 h4⟩
def arB{t:yv}{fs:Array ub}{i:Nat}{f:ub}(hu:O.P.underlying t=Ft (.struct fs))(hf:fs[i]? =Ft f)(hz:bZ O.P f.type=Ft sz)(ha:dc O.P f.type=Ft ag)(hx:ae O.ab m S w vx x)(h:Oe f.offset sz ag vx=Ft v):∃u,(Instr.field t x i).run O.P w=.ok u w/\ae O.ab m S w v u:=by
 cases vx<;>simp only[Oe,reduceCtorEq] at h
 obtain⟨xs,rfl,hr⟩:=hx;have⟨u,h1,h2⟩:=abg hz ha hr h;exact⟨u,by simp only[Instr.field,Sem.run_bind,run_underlying hu,Result.andThen_ok,hf,asAgg,Sem.run_pure];exact h1,h2⟩
def arC{t e:yv}(hu:O.P.underlying t=Ft (.slice e))(hz:bZ O.P e=Ft sz)(hx:ae O.ab m S w vx x)(hi:ae O.ab m S w vi i)(hk:cy vi=Ft k)(h:gS sz k vx=Ft v):∃u,(Instr.indexAt t x i).run O.P w=.ok u w/\ae O.ab m S w v u:=by
 obtain⟨kd,rfl⟩:=AI hi hk;have J7:∀(b o n c:Nat),k<n->(Instr.indexAt t (.slice (Ft ⟨b,o,Fu⟩) n c) (.int kd (k:Int))).run O.P w=.ok (.pointer (Ft ⟨b,o+k*sz,Fu⟩)) w:=by
  intro b o n c ri;have hr:(0:Int)<=(k:Int)/\(k:Int)<(n:Int):=by lia
  simp[Instr.indexAt,asIntOf,run_underlying hu,oO hz,hr,nS]
  grind
 cases vx<;>simp only[gS,reduceCtorEq] at h
 case ap id o n=>
  obtain⟨p,c,hm,rfl,Ll,PW⟩:=hx
  cases hc:yI k n with
  | false=>rw[hc] at h;cases h
  | true=>
   rw[hc] at h;simp only[yq,yb] at h;subst h;have ri:k<n:=by simp_all
   exact⟨_,J7 _ _ _ _ ri,by simp only[ae];exact⟨p,hm,by rw[tM]⟩⟩
 case au ex n cs=>
  rcases hx with ⟨b,o,c,rfl,Ll,hex,h2,h3,h4⟩ | ⟨a,rfl,rfl,rfl⟩
  case inr=>
   have:yI k 0=ydi:=by cases hq:yI k 0 with | false=>rfl | true=>simp only[yI,yda] at hq;lia
   grind
  cases hc:yI k n with
  | false=>rw[hc] at h;cases h
  | true=>
   rw[hc] at h;simp only[yq,yb] at h;subst h;have ri:k<n:=by simp_all
   exact⟨_,J7 _ _ _ _ ri,RG h2 h3 h4⟩
def arD{t e:yv}{len:Nat}(hu:O.P.underlying t=Ft (.array len e))(hz:bZ O.P e=Ft sz)(hx:ae O.ab m S w vx x)(hi:ae O.ab m S w vi i)(hk:cy vi=Ft k)(h:Cj len sz k vx=Ft v):∃u,(Instr.indexAt t x i).run O.P w=.ok u w/\ae O.ab m S w v u:=by
 obtain⟨kd,rfl⟩:=AI hi hk;have J7:∀(b o:Nat),k<len->(Instr.indexAt t (.pointer (Ft ⟨b,o,Fu⟩)) (.int kd (k:Int))).run O.P w=.ok (.pointer (Ft ⟨b,o+k*sz,Fu⟩)) w:=by
  intro b o ri;have hr:(0:Int)<=(k:Int)/\(k:Int)<(len:Int):=by lia
  simp[Instr.indexAt,asIntOf,run_underlying hu,oO hz,hr,nS,Instr.sureAddr]
  grind
 cases vx<;>simp only[Cj,reduceCtorEq] at h
 case ptr id o=>
  obtain⟨p,hm,rfl⟩:=hx
  cases hc:yI k len with
  | false=>rw[hc] at h;cases h
  | true=>
   rw[hc] at h;simp only[yq,yb] at h;subst h;have ri:k<len:=by simp_all
   exact⟨_,J7 _ _ ri,by simp only[ae];exact⟨p,hm,by rw[tM]⟩⟩
 case bq cs=>
  obtain⟨b,o,rfl,h2,h3,h4⟩:=hx
  cases hc:yI k len with
  | false=>rw[hc] at h;cases h
  | true=>
   rw[hc] at h;simp only[yq,yb] at h;subst h;have ri:k<len:=by simp_all
   exact⟨_,J7 _ _ ri,RG h2 h3 h4⟩
def arE{t e:yv}{len:Nat}(hu:O.P.underlying t=Ft (.array len e))(hz:bZ O.P e=Ft sz)(ha:dc O.P e=Ft ag)(hx:ae O.ab m S w vx x)(hi:ae O.ab m S w vi i)(hk:cy vi=Ft k)(h:Of len sz ag k vx=Ft v):
  ∃u,(Instr.index t x i).run O.P w=.ok u w/\ae O.ab m S w v u:=by
 obtain⟨kd,rfl⟩:=AI hi hk;cases vx<;>simp only[Of,reduceCtorEq] at h
 obtain⟨xs,rfl,hr⟩:=hx
 cases hc:yI k len with
 | false=>rw[hc] at h;cases h
 | true=>
  rw[hc] at h;have ri:k<len:=by simp_all
  have⟨u,h1,h2⟩:=abg hz ha hr h;have bA:(0:Int)<=(k:Int)/\(k:Int)<(len:Int):=by lia
  exact⟨u,by simp[Instr.index,asIntOf,run_underlying hu,oO hz,bA,h1];intro hle;exact absurd hle (by lia),h2⟩
def arG{t:yv}(hu:O.P.underlying t=Ft .string)(hx:ae O.ab m S w vx x)(hi:ae O.ab m S w vi i)(hk:cy vi=Ft k)(h:r7 k vx=Ft v):
  ∃u,(Instr.index t x i).run O.P w=.ok u w/\ae O.ab m S w v u:=by
 obtain⟨kd,rfl⟩:=AI hi hk;cases vx<;>simp only[r7,reduceCtorEq] at h
 obtain⟨b,rfl,rfl⟩:=hx
 cases hs:(b.data.toList.map xg)[k]? with
 | none=>rw[hs] at h;cases h
 | some q=>
  rw[hs] at h;simp only[yb] at h;subst h;rw[uW] at hs
  cases hb:b.data.toList[k]? with
  | none=>rw[hb] at hs;cases hs
  | some c=>
   rw[hb] at hs;simp only[wU,yb] at hs;subst hs;have bH:b[k]? =Ft c:=by
    have aM:k<b.data.toList.length:=by
     grind
    have eC:k<b.size:=by simp_all
    rw[getElem?_pos b k eC];rw[yN aM] at hb;rw[<-hb];rfl
   refine⟨.int .u8 c.toNat,?_,by simp[ae]⟩;simp[Instr.index,asIntOf,run_underlying hu,bH]
end
end
end
section
open Go
section
variable {ab:Nat->Nat}{m:Mp}{S:Nat->Prop}{w:yi}
def RH:∀{v:AV} {u:yg},ae ab m S w v u->bS (cellsOf v)=ydh->az ab m S w (cellsOf v) u.cells.toList:=by
 intro v u h h1;cases v
 case undef=>simp[cellsOf,bS,cL] at h1
 case cF=>simp[cellsOf,bS,cL] at h1
 case fn f a b=>
  cases f with
  | f g=>have h':=h;obtain⟨fi,ca,rfl,_⟩:=h';exact⟨_,_,rfl,h,rfl⟩
  | y l=>have h':=h;obtain⟨p,_,rfl⟩:=h';exact⟨_,_,rfl,h,rfl⟩
 all_goals
  have h':=h;simp only[ae] at h';simp only[cellsOf,Value.cells,az]
  grind
def DA(v:yg):az ab m S w (cellsOf (eN v)) v.cells.toList:=by
 have h:=Nv (ab:=ab) (m:=m) (S:=S) (w:=w) v;cases v
 case agg xs=>
  obtain⟨xs,e,hr⟩:=h;injection e with e
  subst e;exact hr
 case pointer p=>cases p<;>(simp only[eN] at h ⊢;exact⟨_,_,rfl,h,rfl⟩)
 case map p=>cases p<;>(simp only[eN] at h ⊢;exact⟨_,_,rfl,h,rfl⟩)
 case slice p n c=>
  cases p
  .cases n
   .cases c<;>(simp only[eN] at h ⊢;exact⟨_,_,rfl,h,rfl⟩)
   .simp only [eN] at h ⊢;exact⟨_,_,rfl,h,rfl⟩
  .simp only [eN] at h ⊢;exact⟨_,_,rfl,h,rfl⟩
 all_goals (simp only[eN] at h ⊢;exact⟨_,_,rfl,h,rfl⟩)
def mi:∀{a b:List AV} {x y:List yg},az ab m S w a x->az ab m S w b y->az ab m S w (a++b) (x++y)
 | [],b,x,y,h,k=>by simp only[az] at h;subst h;simpa using k
 | c::a,b,x,y,h,k=>by
  obtain⟨u,r,rfl,h2,h3⟩:=h;exact⟨u,r++y,rfl,h2,mi h3 k⟩
def IS:∀(k:Nat) {cs:List AV} {us:List yg},az ab m S w cs us->az ab m S w (cs.drop k) (us.drop k)
 | 0,cs,us,h=>by simpa using h
 | k+1,[],us,h=>by simp only[az] at h;subst h;simp[az]
 | k+1,c::cs,us,h=>by simp only[az] at h;obtain⟨u,r,rfl,_,h3⟩:=h;simpa using IS k h3
def FB:∀(k:Nat) {cs:List AV} {us:List yg},az ab m S w cs us->az ab m S w (cs.take k) (us.take k)
 | 0,cs,us,h=>by simp[az]
 | k+1,[],us,h=>by simp only[az] at h;subst h;simp[az]
 | k+1,c::cs,us,h=>by
  simp only[az] at h;obtain⟨u,r,rfl,h2,h3⟩:=h;exact⟨u,_,rfl,h2,FB k h3⟩
def Se:∀{cs:List AV} {us:List yg} {i:Nat} {v:AV},az ab m S w cs us->cs[i]? =Ft v->∃u,us[i]? =Ft u/\ae ab m S w v u
 | [],us,i,v,_,h=>by simp at h
 | c::cs,us,0,v,h,e=>by
  simp only[az] at h;obtain⟨u,r,rfl,h2,h3⟩:=h;simp at e;subst e;exact⟨u,rfl,h2⟩
 | c::cs,us,i+1,v,h,e=>by
  simp only[az] at h;obtain⟨u,r,rfl,h2,h3⟩:=h;simpa using Se h3 e
end
def Zb(off:Nat):∀(new:List yg) (j:Nat) (cells:Array yg),off+j+new.length<=cells.size->
  ((new.zipIdx j).foldl (fun (cs:Array yg) (p:yg×Nat)=>cs.setIfInBounds (off+p.2) p.1) cells).toList=
   cells.toList.take (off+j)++new++cells.toList.drop (off+j+new.length)
 | [],j,cells,_=>by simp
 | v::r,j,cells,h=>by
  simp only[yy] at h;have ih:=Zb off r (j+1) (cells.setIfInBounds (off+j) v) (by simp;omega);simp only[List.zipIdx_cons,List.foldl_cons];rw[ih];have aM:off+j<cells.toList.length:=by grind
  have h1:(cells.setIfInBounds (off+j) v).toList=cells.toList.set (off+j) v:=by simp
  rw[h1,show off+(j+1)=off+j+1 by omega];have h2:(cells.toList.set (off+j) v).take (off+j+1)=cells.toList.take (off+j)++[v]:=by
   rw[List.take_succ_eq_append_getElem (by simpa using aM)];simp[List.take_set_of_le]
  have h3:(cells.toList.set (off+j) v).drop (off+j+1+r.length)=cells.toList.drop (off+j+(r.length+1)):=by
   rw[List.drop_set_of_lt (by omega)];congr 1;omega
  grind
section
variable {O:bl}{H:Hint}{m:Mp}{S:Nat->Prop}{w:yi}{tm:Env}{a:Act}
def Nx(hH:eX O H)(ht:bO O m S w tm a.tmps){place:Nat->Option (Nat×Nat)}:∀(parts:List (Nat×xr)) (ps:List (Nat×Nat×X)) (zero cs:List AV) (cells:Array yg),
  partsOf H place parts=Ft ps->az O.ab m S w zero cells.toList->fill tm zero ps=Ft cs->
  ∃out,Instr.fill place cells (parts.map fun p=>(p.1,a.eval p.2))=Ft out/\az O.ab m S w cs out.toList
 | [],ps,zero,cs,cells,hp,hz,hf=>by
  simp only[partsOf,yb] at hp;subst hp;simp only[fill,yb] at hf;subst hf;exact⟨cells,rfl,hz⟩
 | (i,x)::r,ps,zero,cs,cells,hp,hz,hf=>by
  simp only[partsOf] at hp
  cases ns:place i with
  | none=>simp[ns] at hp
  | some q=>
   obtain⟨o,s⟩:=q;simp only[ns] at hp
   cases pN:partsOf H place r with
   | none=>simp[pN] at hp
   | some l=>
    simp only[pN,yb] at hp;subst hp;simp only[fill] at hf
    cases hc:(ym (cellsOf (ay tm (aK H x))).length s&&yA (o+s) zero.length&&bS (cellsOf (ay tm (aK H x)))) with
    | false=>rw[hc] at hf;cases hf
    | true=>
     rw[hc] at hf;simp only[ye] at hc;have hle:=yr hc.1.2;have hrx:=RH (bQ hH ht x) hc.2;have pO:=gR _ _ hrx;have Br:=gR _ _ hz;have eC:(a.eval x).cells.size=s:=by simp_all
     have CV:cells.size=zero.length:=by omega
     have avC:=Zb o (a.eval x).cells.toList 0 cells (by simp;omega);have eK:az O.ab m S w (over o (cellsOf (ay tm (aK H x))) zero)
       ((a.eval x).cells.zipIdx.foldl (fun (cs:Array yg) (p:yg×Nat)=>cs.setIfInBounds (o+p.2) p.1) cells).toList:=by
      rw[<-Array.foldl_toList,Array.toList_zipIdx,avC];rw[show (a.eval x).cells.toList.length=(cellsOf (ay tm (aK H x))).length from pO];exact mi (mi (FB o hz) hrx) (IS _ hz)
     obtain⟨out,h1,h2⟩:=Nx hH ht r l _ cs _ pN eK hf;simp only[yZ,Instr.fill,ns,eC]
     grind
end
end
section
open Go
def RI(p q:ByteArray):(p==q)=dh (mR p) (mR q):=by
 have h:(p==q)=(p.data==q.data):=by cases p;rfl
 rw[h,Y9,ByteArray.toList_eq,ByteArray.toList_eq]
 simp_all
def UN:tS->Bool
 | .bool | .int _ | .string=>ydh
 | _=>ydi
def fits(d:tS)(v:AV):Bool:=
 match d,v with
 | .int _,.int _ _ | .string,.str _ | .bool,.bool _=>ydh
 | _,_=>ydi
section
variable {O:bl}{ab:Nat->Nat}{m:Mp}{S:Nat->Prop}{w:yi}
def amB{vk vk':AV}{k k':yg}{r:Bool}{d:tS}(hk:ae ab m S w vk k)(Bs:ae ab m S w vk' k')(h:pg vk vk'=Ft r)(hd:fits d vk=ydh):Instr.sameNow d k k'=Ft r:=by
 unfold pg at h
 split at h
 .rename_i j x j' y;simp only[ae] at hk Bs;subst hk;subst Bs;by_cases hj:j=j'
  .simp only [hj,xQ,yb] at h;subst hj;cases d<;>simp[fits] at hd
   simpa[Instr.sameNow] using h
  .simp [hj] at h
 .simp only [ae] at hk Bs;obtain⟨s,rfl,rfl⟩:=hk;obtain⟨s',rfl,rfl⟩:=Bs;simp only[yb] at h;cases d<;>simp[fits] at hd
  simp only[Instr.sameNow,RI];rw[<-h];rfl
 .simp only [ae] at hk Bs;subst hk;subst Bs;simp only[yb] at h;cases d<;>simp[fits] at hd
  simp[Instr.sameNow,h]
 .cases d<;>simp[fits] at hd
 .cases h
def aiS{P:xm}{kt:yv}{d:tS}(hu:P.underlying kt=Ft d)(hd:UN d=ydh)(b:Bool)(k:yg):(Instr.checkKey b 10000 kt k).run P w=.ok () w:=by
 have:∀n,(Instr.checkKey b (n+1) kt k).run P w=.ok () w:=by
  cases d<;>simp[UN] at hd<;>simp[Instr.checkKey,run_underlying hu]
 grind
end
end
section
open Go
def IE:∀(k1 k2:List Nat) (a b:List AV) (r:Bool),cU (k1++k2) a b=Ft r->
  ∃r1 r2,cU k1 (a.take k1.length) (b.take k1.length)=Ft r1/\cU k2 (a.drop k1.length) (b.drop k1.length)=Ft r2/\r=(r1&&r2)
 | [],k2,a,b,r,h=>⟨ydh,r,by simp[cU],by simpa using h,by simp⟩
 | k::k1,k2,[],b,r,h=>by
  simp only[yx] at h;unfold cU at h
  grind
 | k::k1,k2,x::a,[],r,h=>by
  unfold cU at h
  grind
 | k::k1,k2,x::a,y::b,r,h=>by
  have step:∀(q:Bool) (f:Bool->Bool),(match cU (k1++k2) a b with | some r=>Ft (f r) | none=>Fu)=Ft q->∃r0,cU (k1++k2) a b=Ft r0/\q=f r0:=by grind
  unfold cU at h
  split at h
  .grind
  .rename_i e1 e2 e3;obtain⟨rfl,rfl⟩:=e1;obtain⟨rfl,rfl⟩:=e2;obtain⟨rfl,rfl⟩:=e3;obtain⟨r0,h0,rfl⟩:=step r _ h;obtain⟨r1,r2,h1,h2,rfl⟩:=IE k1 k2 _ _ r0 h0;exact⟨_,r2,by simp only[yy,wM,cU,h1],by simpa using h2,(yaz _ _ _).symm⟩
  .rename_i e1 e2 e3;obtain⟨rfl,rfl⟩:=e1;obtain⟨rfl,rfl⟩:=e2;obtain⟨rfl,rfl⟩:=e3
   split at h
   .rename_i hk;obtain⟨r0,h0,rfl⟩:=step r _ h;obtain⟨r1,r2,h1,h2,rfl⟩:=IE k1 k2 _ _ r0 h0;exact⟨_,r2,by simp only[yy,wM,cU,h1,hk,xQ],by simpa using h2,(yaz _ _ _).symm⟩
   .cases h
  .rename_i e1 e2 e3;obtain⟨rfl,rfl⟩:=e1;obtain⟨rfl,rfl⟩:=e2;obtain⟨rfl,rfl⟩:=e3;obtain⟨r0,h0,rfl⟩:=step r _ h;obtain⟨r1,r2,h1,h2,rfl⟩:=IE k1 k2 _ _ r0 h0;exact⟨_,r2,by simp only[yy,wM,cU,h1],by simpa using h2,(yaz _ _ _).symm⟩
  .cases h
def X3:∀(ks:List Nat) (a b:List AV) (r:Bool),cU ks a b=Ft r->a.length=ks.length/\b.length=ks.length
 | [],a,b,r,h=>by
  unfold cU at h
  grind
 | k::ks,[],b,r,h=>by
  unfold cU at h
  grind
 | k::ks,x::a,[],r,h=>by
  unfold cU at h
  grind
 | k::ks,x::a,y::b,r,h=>by
  have:∃r0,cU ks a b=Ft r0:=by
   cases he:cU ks a b with
   | some r0=>exact⟨r0,rfl⟩
   | none=>unfold cU at h;split at h<;>simp_all
  have⟨r0,h0⟩:=this
  have:=X3 ks a b r0 h0
  simp[this]
def G7(P:xm)(t:yv)(x:yg)(xs:List yg):Prop:=(dc P t=Ft ydh/\x=.agg xs.toArray)\/(dc P t=Ft ydi/\xs=[x])
section
variable {P:xm}{ab:Nat->Nat}{m:Mp}{S:Nat->Prop}{w:yi}
def Mz{t:yv}{ag:Bool}(ha:dc P t=Ft ag):(isAgg t).run P w=.ok ag w:=by
 unfold dc at ha
 cases hu:P.underlying t with
 | none=>simp[hu] at ha
 | some d=>cases d<;>simp_all[isAgg,underlying]
def amC{t:yv}{s o:Nat}{xs:List yg}(hz:bZ P t=Ft s)(ha:∃ag,dc P t=Ft ag)(h1:dc P t=Ft ydi->s=1)(hl:o+s<=xs.length):
  ∃u,(part t xs.toArray o).run P w=.ok u w/\G7 P t u ((xs.drop o).take s):=by
 have⟨ag,ha⟩:=ha
 cases ag with
 | true=>
  refine⟨.agg ((xs.drop o).take s).toArray,?_,.inl ⟨ha,rfl⟩⟩;simp[part,Mz ha,oO hz,List.extract_eq_take_drop]
 | false=>
  have hs:=h1 ha;subst hs;have aM:o<xs.length:=by lia
  refine⟨xs[o],?_,.inr ⟨ha,?_⟩⟩
  .simp [part,Mz ha,yN aM]
  .rw [List.drop_eq_getElem_cons aM,wM,ybP]
def Zc{n:Nat}{t:yv}{ks:List Nat}(h:kinds P n t=Ft ks):∃ag,dc P t=Ft ag/\(ag=ydi->ks.length=1):=by
 cases n with
 | zero=>simp[kinds] at h
 | succ n=>
  unfold kinds at h;unfold dc
  split at h<;>simp_all
  all_goals (rw[<-h];rfl)
def Ue(P:xm)(ab:Nat->Nat)(m:Mp)(S:Nat->Prop)(w:yi)(n:Nat):Prop:=
 ∀(t:yv) (ks:List Nat),kinds P n t=Ft ks->P.stoodInHeld t=ydi->∀(d:Nat),n<=d->∀(xs ys:List yg) (cs df:List AV) (r:Bool) (x y:yg),
  az ab m S w cs xs->az ab m S w df ys->cU ks cs df=Ft r->G7 P t x xs->G7 P t y ys->(Op.equalIn d t x y).run P w=.ok r w
def Zd{n:Nat}(ih:Ue P ab m S w n){t:yv}{ks:List Nat}{s o d:Nat}(hk:kinds P n t=Ft ks)(aT:P.stoodInHeld t=ydi)(hz:bZ P t=Ft s)(hs:ks.length=s)(hd:n<=d){xs ys:List yg}{cs df:List AV}(h1:az ab m S w cs xs)(h2:az ab m S w df ys){r:Bool}(he:cU ks ((cs.drop o).take s) ((df.drop o).take s)=Ft r):
  ∃u u',(part t xs.toArray o).run P w=.ok u w/\(part t ys.toArray o).run P w=.ok u' w/\(Op.equalIn d t u u').run P w=.ok r w:=by
 have⟨ag,ha,h1s⟩:=Zc hk;have⟨l1,l2⟩:=X3 _ _ _ _ he;have q1:=gR _ _ h1;have q2:=gR _ _ h2;simp only[yQ,wD] at l1 l2;have oA:dc P t=Ft ydi->s=1:=fun h=>by
  grind
 have pO:o+s<=xs.length\/s=0:=by lia
 have Br:o+s<=ys.length\/s=0:=by lia
 have get:∀(zs:List yg),(o+s<=zs.length\/s=0)->∃u,(part t zs.toArray o).run P w=.ok u w/\G7 P t u ((zs.drop o).take s):=by
  intro zs hl;rcases hl with hl | hl
  .exact amC hz ⟨ag,ha⟩ oA hl
  .subst hl
   cases ag with
   | false=>have:=oA ha;lia
   | true=>
    refine⟨.agg ((zs.drop o).take 0).toArray,?_,.inl ⟨ha,rfl⟩⟩;simp[part,Mz ha,oO hz]
 have⟨u,p1,v1⟩:=get xs pO;have⟨u',p2,v2⟩:=get ys Br;exact⟨u,u',p1,p2,ih t ks hk aT d hd _ _ _ _ r u u' (FB s (IS o h1)) (FB s (IS o h2)) he v1 v2⟩
def X4{n:Nat}(ih:Ue P ab m S w n){d:Nat}(hd:n<=d){xs ys:List yg}{cs df:List AV}(h1:az ab m S w cs xs)(h2:az ab m S w df ys):
  ∀(fs:List ub) (o:Nat) (ks:List Nat) (r:Bool),oP P (fun u=>kinds P n u) fs o=Ft ks->cU ks (cs.drop o) (df.drop o)=Ft r->(Op.eqFields d xs.toArray ys.toArray fs).run P w=.ok r w
 | [],o,ks,r,h,he=>by
  simp only[oP,yb] at h;unfold cU at he
  split at he<;>simp_all[Op.eqFields]
 | f::fs,o,ks,r,h,he=>by
  simp only[oP] at h
  cases hk:kinds P n f.type with
  | none=>simp[hk] at h
  | some kf=>
   cases hz:bZ P f.type with
   | none=>simp[hk,hz] at h
   | some s=>
    simp only[hk,hz] at h
    cases hc:(f.name != "_"&&ym f.offset o&&ym kf.length s&& !P.stoodInHeld f.type) with
    | false=>rw[hc] at h;cases h
    | true=>
     rw[hc] at h;simp only[yq] at h;simp only[ye,bne_iff_ne,vS] at hc;have⟨⟨⟨hn,ho⟩,hl⟩,aT⟩:=hc;have ho:=yf ho;have hl:=yf hl
     cases hr:oP P (fun u=>kinds P n u) fs (o+s) with
     | none=>simp[hr] at h
     | some kr=>
      simp only[hr,yb] at h;subst h;obtain⟨r1,r2,e1,e2,rfl⟩:=IE _ _ _ _ _ he;rw[hl] at e1 e2;rw[vH,vH] at e2;have⟨u,u',p1,p2,p3⟩:=Zd ih (o:=o) hk aT hz hl hd h1 h2 e1;have rest:=X4 ih hd h1 h2 fs (o+s) kr r2 hr e2;subst ho;simp only[Op.eqFields]
      cases r1 with
      | true=>simp[hn,p1,p2,p3,rest]
      | false=>simp[hn,p1,p2,p3]
def Yt{n:Nat}(ih:Ue P ab m S w n){d:Nat}(hd:n<=d){xs ys:List yg}{cs df:List AV}(h1:az ab m S w cs xs)(h2:az ab m S w df ys){e:yv}{ks:List Nat}{s:Nat}(hk:kinds P n e=Ft ks)(aT:P.stoodInHeld e=ydi)(hz:bZ P e=Ft s)(hl:ks.length=s):
  ∀(k j:Nat) (r:Bool),cU (yp k ks).flatten (cs.drop (j*s)) (df.drop (j*s))=Ft r->(Op.eqItems d e s xs.toArray ys.toArray (List.range' j k)).run P w=.ok r w
 | 0,j,r,he=>by
  unfold cU at he
  split at he<;>simp_all[Op.eqItems]
 | k+1,j,r,he=>by
  obtain⟨r1,r2,e1,e2,rfl⟩:=IE _ _ _ _ _ he;rw[hl] at e1 e2;rw[vH,vH,show j*s+s=(j+1)*s by rw[xP,ybx]] at e2;have⟨u,u',p1,p2,p3⟩:=Zd ih (o:=j*s) hk aT hz hl hd h1 h2 e1;have rest:=Yt ih hd h1 h2 hk aT hz hl k (j+1) r2 e2;rw[List.range'_succ];simp only[Op.eqItems]
  cases r1 with
  | true=>simp[p1,p2,p3,rest]
  | false=>simp[p1,p2,p3]
def NV:∀(n:Nat) (t:yv) (ks:List Nat),kinds P n t=Ft ks->P.stoodInHeld t=ydi->∀(d:Nat),n<=d->∀(xs ys:List yg) (cs df:List AV) (r:Bool) (x y:yg),
  az ab m S w cs xs->az ab m S w df ys->cU ks cs df=Ft r->G7 P t x xs->G7 P t y ys->(Op.equalIn d t x y).run P w=.ok r w
 | 0,t,ks,h,_,_,_,_,_,_,_,_,_,_,_,_,_,_,_=>by simp[kinds] at h
 | n+1,t,ks,h,aT,0,hd,_,_,_,_,_,_,_,_,_,_,_,_=>by lia
 | n+1,t,ks,h,aT,d+1,hd,xs,ys,cs,df,r,x,y,h1,h2,he,hx,hy=>by
  unfold kinds at h;have one:∀{k:Nat},ks=[k]->dc P t=Ft ydi->∃c c',cs=[c]/\df=[c']/\ae ab m S w c x/\ae ab m S w c' y:=by
   intro k hk ha;rcases hx with ⟨hx,_⟩ | ⟨_,rfl⟩
   .grind
   rcases hy with ⟨hy,_⟩ | ⟨_,rfl⟩
   .grind
   have l1:=gR _ _ h1;have l2:=gR _ _ h2
   match cs,df,l1,l2 with
   | [c],[c'],_,_=>
    simp only[az] at h1 h2
    grind
  split at h
  .rename_i hu;simp only[yb] at h;have ha:dc P t=Ft ydi:=by simp[dc,hu]
   obtain⟨c,c',rfl,rfl,r1,r2⟩:=one h.symm ha;subst h;unfold cU at he
   split at he<;>simp_all[cU]
   subst he;simp only[ae] at r1 r2;subst r1;subst r2;simp[Op.equalIn,run_underlying hu]
  .rename_i k0 hu;simp only[yb] at h;have ha:dc P t=Ft ydi:=by simp[dc,hu]
   obtain⟨c,c',rfl,rfl,r1,r2⟩:=one h.symm ha;subst h;unfold cU at he
   split at he<;>simp_all[cU]
   have⟨hk,he⟩:=he;subst he;simp only[ae] at r1 r2;subst r1;subst r2;simp[Op.equalIn,run_underlying hu]
  .rename_i hu;simp only[yb] at h;have ha:dc P t=Ft ydi:=by simp[dc,hu]
   obtain⟨c,c',rfl,rfl,r1,r2⟩:=one h.symm ha;subst h;unfold cU at he
   split at he<;>simp_all[cU]
   subst he;simp only[ae] at r1 r2;obtain⟨s,rfl,rfl⟩:=r1;obtain⟨s',rfl,rfl⟩:=r2;simp only[Op.equalIn,Sem.run_bind,run_underlying hu,Result.andThen_ok,Sem.run_pure,RI];rfl
  .rename_i fs hu;have ha:dc P t=Ft ydh:=by simp[dc,hu]
   rcases hx with ⟨_,rfl⟩ | ⟨hx,_⟩
   .rcases hy with ⟨_,rfl⟩ | ⟨hy,_⟩
    .have hf:P.fieldsOf t=fs:=by simp[Program.fieldsOf,hu]
     rw[run_equalIn_struct w d t _ _ (by rw[hf];exact hu) aT,hf]
     exact X4 (NV n) (by lia) h1 h2 fs.toList 0 ks r h (by simpa using he)
    .rw [ha] at hy;cases hy
   .rw [ha] at hx;cases hx
  .rename_i k e hu;have ha:dc P t=Ft ydh:=by simp[dc,hu]
   rcases hx with ⟨_,rfl⟩ | ⟨hx,_⟩
   .rcases hy with ⟨_,rfl⟩ | ⟨hy,_⟩
    .cases hk:kinds P n e with
     | none=>simp[hk] at h
     | some ke=>
      cases hz:bZ P e with
      | none=>simp[hk,hz] at h
      | some s=>
       simp only[hk,hz] at h
       cases hc:(ym ke.length s&& !P.stoodInHeld e) with
       | false=>rw[hc] at h;cases h
       | true=>
        rw[hc] at h;simp only[yq,yb] at h;subst h;simp only[ye,vS] at hc;have eK:=hz;unfold bZ at eK
        cases hi:P.info? e with
        | none=>simp[hi] at eK
        | some i=>
         simp only[hi,yb] at eK;have CV:P.cellsOf e=s:=by simp[Program.cellsOf,hi,eK]
         rw[run_equalIn_array w d _ _ hu hi,CV,List.range_eq_range'];exact Yt (NV n) (by lia) h1 h2 hk hc.2 hz (yf hc.1) k 0 r (by simpa using he)
    .rw [ha] at hy;cases hy
   .rw [ha] at hx;cases hx
  .cases h
end
end
section
open Go
section
variable {vk:AV}{ks:List Nat}{kk:Nat}{P:xm}{k:yg}
inductive sJ(E:yg->Bool->Prop):List ve->Nat->Option (Nat×yg)->Prop
 | nil {i:Nat}:sJ E [] i Fu
 | hit {e:ve} {es:List ve} {i:Nat}:E e.key ydh->sJ E (e::es) i (Ft (i,e.val))
 | Et {e:ve} {es:List ve} {i:Nat} {f:Option (Nat×yg)}:E e.key ydi->sJ E es (i+1) f->sJ E (e::es) i f
def aoP{d:tS}{es:List ve}{i:Nat}{f:Option (Nat×yg)}(h:sJ (fun u b=>Instr.sameNow d k u=Ft b) es i f):Instr.findNow d k es i=Ft f:=by
 induction h with
 | nil=>rfl
 | hit h=>simp[Instr.findNow,h]
 | Et h _ ih=>simp[Instr.findNow,h,ih]
def abk{w:yi}{kt:yv}{es:List ve}{i:Nat}{f:Option (Nat×yg)}(h:sJ (fun u b=>(Op.equal kt k u).run P w=.ok b w) es i f):
  (Instr.findAsking kt k es i).run P w=.ok f w:=by
 induction h with
 | nil=>simp[Instr.findAsking]
 | hit h=>simp[Instr.findAsking,h]
 | Et h _ ih=>simp[Instr.findAsking,h,ih]
section
variable {O:bl}{ab:Nat->Nat}{m:Mp}{S:Nat->Prop}{w:yi}
def Found(ab:Nat->Nat)(m:Mp)(S:Nat->Prop)(w:yi)(f:Option (Nat×yg)):Option AV->Prop
 | none=>f=Fu
 | some v=>∃j u,f=Ft (j,u)/\ae ab m S w v u
def Sf{vk:AV}{E:yg->Bool->Prop}(hE:∀c u b,ae ab m S w c u->pg vk c=Ft b->E u b):∀(ks vs:List AV) (es:List ve) (i:Nat) (r:Option AV),
  az ab m S w ks (es.map (·.key))->az ab m S w vs (es.map (·.val))->Ed vk ks vs=Ft r->∃f,sJ E es i f/\Found ab m S w f r
 | [],vs,es,i,r,h1,h2,h=>by
  simp only[az,ybb] at h1;subst h1;simp only[Ed,yb] at h;subst h;exact⟨Fu,.nil,rfl⟩
 | c::ks,[],es,i,r,h1,h2,h=>by simp only[Ed] at h;cases h
 | c::ks,v::vs,es,i,r,h1,h2,h=>by
  cases es with
  | nil=>simp[az] at h1
  | cons e es=>
   simp only[yZ,az,um] at h1 h2;obtain⟨u,t,⟨rfl,rfl⟩,hc,oB⟩:=h1;obtain⟨u',t',⟨rfl,rfl⟩,hv,Bt⟩:=h2;simp only[Ed] at h
   cases z7:pg vk c with
   | none=>simp[z7] at h
   | some b=>
    have hs:=hE _ _ _ hc z7
    cases b with
    | true=>
     simp only[z7,yb] at h;subst h;exact⟨_,.hit hs,i,e.val,rfl,hv⟩
    | false=>
     simp only[z7] at h;obtain⟨f,h1,h2⟩:=Sf hE ks vs es (i+1) r oB Bt h;exact⟨f,.Et hs h1,h2⟩
def Put(ab:Nat->Nat)(m:Mp)(S:Nat->Prop)(w:yi)(E:yg->Bool->Prop)(k x:yg)(es:List ve)(i:Nat)(kT ej:List AV):Prop:=
 (sJ E es i Fu/\az ab m S w kT (es.map (·.key)++[k])/\az ab m S w ej (es.map (·.val)++[x]))\/
 ∃(j:Nat) (e0:ve) (c vk:AV),sJ E es i (Ft (i+j,e0.val))/\es[j]? =Ft e0/\(ae ab m S w vk k/\ae ab m S w c e0.key/\pg vk c=Ft ydh)/\az ab m S w kT (es.map (·.key))/\az ab m S w ej ((es.map (·.val)).set j x)
def abl{vk vx:AV}{k x:yg}{E:yg->Bool->Prop}(hE:∀c u b,ae ab m S w c u->pg vk c=Ft b->E u b)(hk:ae ab m S w vk k)(hx:ae ab m S w vx x):∀(ks vs:List AV) (es:List ve) (i:Nat) (kT ej:List AV),
  az ab m S w ks (es.map (·.key))->az ab m S w vs (es.map (·.val))->A2 vk vx ks vs=Ft (kT,ej)->Put ab m S w E k x es i kT ej
 | [],[],es,i,kT,ej,h1,h2,h=>by
  simp only[az,ybb] at h1;subst h1;simp only[A2,yb,yj] at h;obtain⟨rfl,rfl⟩:=h;exact .inl ⟨.nil,by simp[az,hk],by simp[az,hx]⟩
 | [],_::_,es,i,kT,ej,h1,h2,h=>by simp[A2] at h
 | _::_,[],es,i,kT,ej,h1,h2,h=>by simp[A2] at h
 | c::ks,v::vs,es,i,kT,ej,h1,h2,h=>by
  cases es with
  | nil=>simp[az] at h1
  | cons e es=>
   simp only[yZ,az,um] at h1 h2;obtain⟨u,t,⟨rfl,rfl⟩,hc,oB⟩:=h1;obtain⟨u',t',⟨rfl,rfl⟩,hv,Bt⟩:=h2;simp only[A2] at h
   cases z7:pg vk c with
   | none=>simp[z7] at h
   | some b=>
    have hs:=hE _ _ _ hc z7
    cases b with
    | true=>
     simp only[z7,yb,yj] at h;obtain⟨rfl,rfl⟩:=h;refine .inr ⟨0,e,c,vk,.hit hs,rfl,⟨hk,hc,z7⟩,?_,?_⟩
     .simp only [yZ,az];exact⟨_,_,rfl,hc,oB⟩
     .simp only [yZ,List.set_cons_zero,az];exact⟨_,_,rfl,hx,Bt⟩
    | false=>
     simp only[z7] at h
     cases hm:A2 vk vx ks vs with
     | none=>simp[hm] at h
     | some q=>
      obtain⟨k1,v1⟩:=q;simp only[hm,yb,yj] at h;obtain⟨rfl,rfl⟩:=h;rcases abl hE hk hx ks vs es (i+1) k1 v1 oB Bt hm with ⟨g1,g2,g3⟩ | ⟨j,e0,c0,vk0,g1,g2,g3,g4,g5⟩
      .refine .inl ⟨.Et hs g1,?_,?_⟩
       .simp only [yZ,yx,az];exact⟨_,_,rfl,hc,g2⟩
       .simp only [yZ,yx,az];exact⟨_,_,rfl,hv,g3⟩
      .refine .inr ⟨j+1,e0,c0,vk0,?_,by simpa using g2,g3,?_,?_⟩
       .rw [show i+(j+1)=i+1+j by omega];exact .Et hs g1
       .simp only [yZ,az];exact⟨_,_,rfl,hc,g4⟩
       .simp only [yZ,List.set_cons_succ,az];exact⟨_,_,rfl,hv,g5⟩
def Ze:∀(n:Nat) (a b:List AV) (x y:List yg),cU (yp n 1) a b=Ft ydh->az ab m S w a x->az ab m S w b y->x=y/\(x.zip x).all (fun (p,q)=>Instr.sameBits 9999 p q)=ydh
 | 0,a,b,x,y,h,hx,hy=>by
  match a,b with
  | [],[]=>simp only[az] at hx hy;subst hx;subst hy;exact⟨rfl,rfl⟩
  | [],_::_=>simp[cU] at h
  | _::_,[]=>simp[cU] at h
  | _::_,_::_=>simp[cU] at h
 | n+1,a,b,x,y,h,hx,hy=>by
  rw[wO] at h;unfold cU at h
  split at h
  any_goals (cases h;done)
  .simp_all
  .simp_all
  .rename_i ks k p xs k' q ys oB;simp only[um,true_and] at oB;subst oB;by_cases hk:k=k'
   .subst hk;simp only[xQ] at h
    cases hr:cU (yp n 1) xs ys with
    | none=>simp[hr] at h
    | some r=>
     simp only[hr,yb,ye,tX] at h;obtain⟨rfl,rfl⟩:=h;simp only[az] at hx hy;obtain⟨u,us,rfl,e1,e2⟩:=hx;obtain⟨u',Li,rfl,e1',e2'⟩:=hy;simp only[ae] at e1 e1';subst e1;subst e1';obtain⟨rfl,g⟩:=Ze n xs ys us Li hr e2 e2';refine⟨rfl,?_⟩;simp only[List.zip_cons_cons,yal,g,Bool.and_true];simp[Instr.sameBits]
   .simp [hk] at h
  .simp_all
def amD{c:AV}{u:yg}(hk:ae ab m S w vk k)(hc:ae ab m S w c u)(h:pg vk c=Ft ydh):k=u/\Instr.sameBits 10000 k k=ydh:=by
 unfold pg at h
 split at h
 .rename_i j x j' y;simp only[ae] at hk hc;subst hk;subst hc;by_cases hj:j=j'
  .simp only [hj,xQ,yb,tX] at h;exact⟨by rw[hj,h],by simp[Instr.sameBits]⟩
  .simp [hj] at h
 .simp only [ae] at hk hc;obtain⟨s,rfl,rfl⟩:=hk;obtain⟨s',rfl,rfl⟩:=hc;simp only[yb] at h;have h2:(s==s')=ydh:=by rw[RI];exact h
  have h3:(s.data==s'.data)=ydh:=by cases s;cases s';exact h2
  rw[tX] at h3;have e:s=s':=by cases s;cases s';simp only at h3;rw[h3]
  subst e;exact⟨rfl,by simp[Instr.sameBits,h2]⟩
 .simp only [ae] at hk hc;subst hk;subst hc;simp only[yb,tX] at h;exact⟨by rw[h],by simp[Instr.sameBits]⟩
 .rename_i a b;simp only[ae] at hk hc;obtain⟨xs,rfl,hx⟩:=hk;obtain⟨ys,rfl,hy⟩:=hc;obtain⟨e,g⟩:=Ze _ _ _ _ _ h hx hy;have e':xs=ys:=by cases xs;cases ys;simp only at e;rw[e]
  subst e';refine⟨rfl,?_⟩;simp only[Instr.sameBits,tT,Bool.true_and];exact g
 .cases h
def Yu{kt:yv}(hk:keyOf P kt=Ft kk)(h:oT kk vk=ydh):
  (∃d,P.underlying kt=Ft d/\UN d=ydh/\fits d vk=ydh)\/
  ∃fs ks cs,P.underlying kt=Ft (.struct fs)/\fs.toList.all (fun f=>A3 P f.type)=ydh/\P.stoodInHeld kt=ydi/\kinds P 20 kt=Ft ks/\ks.length=fs.size/\vk=.agg cs/\cs.length=fs.size:=by
 unfold keyOf at hk
 split at hk
 .rename_i hu;simp only[yb] at hk;subst hk;refine .inl ⟨_,hu,rfl,?_⟩;cases vk<;>simp_all[oT,fits]
 .rename_i hu;simp only[yb] at hk;subst hk;refine .inl ⟨_,hu,rfl,?_⟩;cases vk<;>simp_all[oT,fits]
 .rename_i hu;simp only[yb] at hk;subst hk;refine .inl ⟨_,hu,rfl,?_⟩;cases vk<;>simp_all[oT,fits]
 .rename_i fs hu
  cases hc:(fs.toList.all (fun f=>A3 P f.type)&& !P.stoodInHeld kt) with
  | false=>rw[hc] at hk;cases hk
  | true=>
   rw[hc] at hk;simp only[yq] at hk;simp only[ye,vS] at hc
   cases hs:kinds P 20 kt with
   | none=>simp[hs] at hk
   | some ks=>
    simp only[hs] at hk
    cases hl:ym ks.length fs.size with
    | false=>rw[hl] at hk;cases hk
    | true=>
     rw[hl] at hk;simp only[yq,yb] at hk;subst hk;cases vk<;>simp only[oT,yC] at h
     exact .inr ⟨fs,ks,_,hu,hc.1,hc.2,rfl,yf hl,rfl,yf h⟩
 .cases hk
def XU{P:xm}{n:Nat}:∀(fs:List ub) (o:Nat) (ks:List Nat),fs.all (fun f=>A3 P f.type)=ydh->oP P (fun u=>kinds P n u) fs o=Ft ks->ks=yp fs.length 1
 | [],o,ks,_,h=>by simp only[oP,yb] at h;subst h;rfl
 | f::fs,o,ks,ha,h=>by
  simp only[yal,ye] at ha;simp only[oP] at h
  cases hk:kinds P n f.type with
  | none=>simp[hk] at h
  | some kf=>
   cases hz:bZ P f.type with
   | none=>simp[hk,hz] at h
   | some s=>
    simp only[hk,hz] at h
    cases hc:(f.name != "_"&&ym f.offset o&&ym kf.length s&& !P.stoodInHeld f.type) with
    | false=>rw[hc] at h;cases h
    | true=>
     rw[hc] at h;simp only[yq] at h
     cases hr:oP P (fun u=>kinds P n u) fs (o+s) with
     | none=>simp[hr] at h
     | some kr=>
      simp only[hr,yb] at h;subst h;have hkf:kf=[1]:=by
       have hi:=ha.1;unfold A3 at hi
       cases n with
       | zero=>simp[kinds] at hk
       | succ n=>
        unfold kinds at hk
        split at hi
        .rename_i hu;simp only[hu,yb] at hk;exact hk.symm
        .cases hi
      rw[hkf,XU fs (o+s) kr ha.2 hr];rfl
def ajU{kt:yv}{fs:Array ub}(hu:P.underlying kt=Ft (.struct fs))(ha:fs.toList.all (fun f=>A3 P f.type)=ydh)(hk:kinds P 20 kt=Ft ks):
  ks=yp fs.size 1:=by
 unfold kinds at hk;simp only[hu] at hk
 have:=XU (n:=19) fs.toList 0 ks ha hk
 simpa using this
def ajq{b:Bool}{n:Nat}{t:yv}{k:xd}{u:yg}(hu:P.underlying t=Ft (.int k)):(Instr.checkKey b (n+1) t u).run P w=.ok () w:=by
 simp[Instr.checkKey,run_underlying hu]
def XV{P:xm}{b:Bool}{q q':Nat}(hq:q=q'+1){cs:Array yg}:∀(fs:List ub) (o n:Nat) (ks:List Nat),fs.all (fun f=>A3 P f.type)=ydh->oP P (fun u=>kinds P n u) fs o=Ft ks->o+ks.length<=cs.size->
  Sem.run P (forIn fs yaw fun f _=>
      if f.name≠ "_" then do
       let x <-part f.type cs f.offset
       Instr.checkKey b q f.type x
       pure (yaY yaw)
      else pure (yaY yaw)) w=.ok yaw w
 | [],o,n,ks,_,h,_=>by simp
 | f::fs,o,n,ks,ha,h,hl=>by
  simp only[yal,ye] at ha;simp only[oP] at h
  cases hk:kinds P n f.type with
  | none=>simp[hk] at h
  | some kf=>
   cases hz:bZ P f.type with
   | none=>simp[hk,hz] at h
   | some s=>
    simp only[hk,hz] at h
    cases hc:(f.name != "_"&&ym f.offset o&&ym kf.length s&& !P.stoodInHeld f.type) with
    | false=>rw[hc] at h;cases h
    | true=>
     rw[hc] at h;simp only[yq] at h;simp only[ye,bne_iff_ne,vS] at hc;obtain⟨⟨⟨hn,ho⟩,hls⟩,aT⟩:=hc;have ho:=yf ho;have hls:=yf hls
     cases hr:oP P (fun u=>kinds P n u) fs (o+s) with
     | none=>simp[hr] at h
     | some kr=>
      simp only[hr,yb] at h;subst h;rw[yJ] at hl;have hi:=ha.1;unfold A3 at hi
      split at hi
      .rename_i kd hu;obtain⟨ag,z8,h1⟩:=Zc hk;have aeJ:dc P f.type=Ft ydi:=by simp[dc,hu]
       have h2:=z8;rw[aeJ] at h2;injection h2 with h2
       have aM:f.offset<cs.size:=by have:=h1 h2.symm;omega
       have hp:(part f.type cs f.offset).run P w=.ok cs[f.offset] w:=by
        simp[part,Mz aeJ,Array.getElem?_eq_getElem aM]
       have fk:(Instr.checkKey b q f.type cs[f.offset]).run P w=.ok () w:=by
        rw[hq];exact ajq hu
       have rest:=XV (b:=b) hq (cs:=cs) fs (o+s) n kr ha.2 hr (by omega);rw[List.forIn_cons];simp only[hn,ne_eq,ydb,xQ,Sem.run_bind,hp,fk,Result.andThen_ok,Sem.run_pure];simpa only[ne_eq] using rest
      .cases hi
def aiZ{b:Bool}{q q':Nat}(hq:q=q'+1){kt:yv}{fs:Array ub}{cs:Array yg}(hu:P.underlying kt=Ft (.struct fs))(ha:fs.toList.all (fun f=>A3 P f.type)=ydh)(hk:kinds P 20 kt=Ft ks)(hl:ks.length<=cs.size):(Instr.checkKey b (q+1) kt (.agg cs)).run P w=.ok () w:=by
 unfold kinds at hk;simp only[hu] at hk;have h:=XV (w:=w) (b:=b) hq (cs:=cs) fs.toList 0 19 ks ha hk (by omega);simp only[Instr.checkKey,Sem.run_bind,run_underlying hu,Result.andThen_ok,<-Array.forIn_toList];rw[h]
 simp
def X5{kt:yv}(hk:keyOf P kt=Ft kk)(h:oT kk vk=ydh)(hr:ae ab m S w vk k)(b:Bool):(Instr.checkKey b 10000 kt k).run P w=.ok () w:=by
 rcases Yu hk h with ⟨d,h1,h2,h3⟩ | ⟨fs,ks,cs,hu,ha,aT,oB,hl,rfl,dH⟩
 .exact aiS h1 h2 b k
 .simp only [ae] at hr;obtain⟨xs,rfl,hx⟩:=hr;have Wh:=gR _ _ hx;rw[vG] at Wh
  exact aiZ (q:=9999) (q':=9998) rfl hu ha oB (by omega)
def Yv{kt:yv}(hk:keyOf P kt=Ft kk)(h:oT kk vk=ydh)(hr:ae ab m S w vk k):
  ∃E:yg->Bool->Prop,(∀c u b,ae ab m S w c u->pg vk c=Ft b->E u b)/\∀es f,sJ E es 0 f->(Instr.findKey kt k es).run P w=.ok f w:=by
 rcases Yu hk h with ⟨d,h1,h2,h3⟩ | ⟨fs,ks,cs,hu,ha,aT,oB,hl,rfl,dH⟩
 .refine ⟨fun u b=>Instr.sameNow d k u=Ft b,fun c u b hc he=>amB hr hc he h3,fun es f hf=>?_⟩;simp[Instr.findKey,run_underlying h1,aoP hf]
 .refine ⟨fun u b=>(Op.equal kt k u).run P w=.ok b w,fun c u b hc he=>?_,fun es f hf=>?_⟩
  .cases c<;>simp only[pg,reduceCtorEq] at he
   rename_i df;simp only[ae] at hr hc;obtain⟨xs,rfl,hx⟩:=hr;obtain⟨ys,rfl,hy⟩:=hc;rw[dH,<-ajU hu ha oB] at he;have z8:dc P kt=Ft ydh:=by simp[dc,hu]
   rw[Sc];exact NV 20 kt ks oB aT 10000 (by omega) _ _ _ _ b _ _ hx hy he (.inl ⟨z8,by simp⟩) (.inl ⟨z8,by simp⟩)
  .simp only [ae] at hr;obtain⟨xs,rfl,hx⟩:=hr
   cases hf with
   | nil=>simp[Instr.findKey,run_underlying hu,Instr.findNow]
   | hit g=>simp[Instr.findKey,run_underlying hu,Instr.findNow,Instr.sameNow,abk (.hit g)]
   | Et g g'=>simp[Instr.findKey,run_underlying hu,Instr.findNow,Instr.sameNow,abk (.Et g g')]
def arH{t kt e:yv}{ok:Bool}{hp:Hp}{ct:Nat}{vx v:AV}{x zero:yg}(hh:aR O m S w hp ct)(hu:O.P.underlying t=Ft (.map kt e))(hk:keyOf O.P kt=Ft kk)(hdk:oT kk vk=ydh)(hz:(zeroValue e).run O.P w=.ok zero w)(hx:ae O.ab m S w vx x)(hkr:ae O.ab m S w vk k){z:AV}(Wi:ae O.ab m S w z zero){r:Option AV}(hr:Cl hp vk vx=Ft r)(hv:(match r with | some u=>(bif ok then AV.ax [u,.bool ydh] else u) | none=>(bif ok then AV.ax [z,.bool ydi] else z))=v):
  ∃u,(Instr.lookup t x k ok).run O.P w=.ok u w/\ae O.ab m S w v u:=by
 have fin:∀(u:AV) (uu:yg) (b:Bool),ae O.ab m S w u uu->ae O.ab m S w (bif ok then AV.ax [u,.bool b] else u) (if ok then .tuple #[uu,.bool b] else uu):=by
  intro u uu b h
  cases ok with
  | true=>simp only[yq,xQ,ae,az];exact⟨_,rfl,_,_,rfl,h,_,_,rfl,rfl,rfl⟩
  | false=>simpa using h
 have fk:=fun b:Bool=>X5 (P:=O.P) (w:=w) hk hdk hkr b
 obtain⟨E,hE,hF⟩:=Yv (P:=O.P) hk hdk hkr;have body:∀(x':yg) (es:Array ve),((x'=.map Fu/\es=#[])\/∃b clock,x'=.map (Ft b)/\w.heap[b]? =Ft (.map es clock))->(∃f,sJ E es.toList 0 f/\Found O.ab m S w f r)->
   ∃u,(Instr.lookup t x' k ok).run O.P w=.ok u w/\ae O.ab m S w v u:=by
  rintro x' es hl ⟨f,hf,iJ⟩;have dM:=hF _ _ hf
  cases r with
  | none=>
   have nt:f=Fu:=iJ;subst nt;refine⟨if ok then .tuple #[zero,.bool ydi] else zero,?_,by rw[<-hv];exact fin z zero ydi Wi⟩
   rcases hl with ⟨rfl,rfl⟩ | ⟨b,clock,rfl,hb⟩
   .have Ej:(Instr.findKey kt k []).run O.P w=.ok Fu w:=dM;simp[Instr.lookup,run_underlying hu,fk,Ej,hz]
   .simp [Instr.lookup,run_underlying hu,getObj,Sem.run,hb];rw[fk];simp[dM,hz]
  | some v'=>
   obtain⟨j,u,rfl,h2⟩:=iJ;refine⟨if ok then .tuple #[u,.bool ydh] else u,?_,by rw[<-hv];exact fin v' u ydh h2⟩
   rcases hl with ⟨rfl,rfl⟩ | ⟨b,clock,rfl,hb⟩
   .cases hf
   .simp [Instr.lookup,run_underlying hu,getObj,Sem.run,hb];rw[fk];simp[dM]
 cases vx<;>simp only[Cl,reduceCtorEq] at hr
 case jl=>
  simp only[yb] at hr;subst hr;simp only[ae] at hx;subst hx;exact body _ #[] (.inl ⟨rfl,rfl⟩) ⟨Fu,.nil,rfl⟩
 case map id=>
  simp only[ae] at hx;obtain⟨p,hm,rfl⟩:=hx
  split at hr
  case h_2=>cases hr
  rename_i Wg ks vs Ei;obtain⟨p',es,clock,iI,hb,h1,h2,_⟩:=hh.obj id _ _ Ei hm;rw[hm] at iI;injection iI with iI;subst iI
  exact body _ es (.inr ⟨_,_,rfl,hb⟩) (Sf hE ks vs es.toList 0 r h1 h2 hr)
 case jm ks vs=>
  simp only[ae] at hx;obtain⟨b,es,clock,rfl,_,_,_,hb,h1,h2⟩:=hx;exact body _ es (.inr ⟨_,_,rfl,hb⟩) (Sf hE ks vs es.toList 0 r h1 h2 hr)
end
end
end
section
open Go
def da{tm:Env}{hp:Hp}{v:AV}(h:bf tm hp bad=Ft v):False:=by simp[bad,bf] at h
section
variable {O:bl}{H:Hint}{m:Mp}{S:Nat->Prop}{w:yi}{tm:Env}{a:Act}{hp:Hp}{ct:Nat}
def aoQ{ab:Nat->Nat}{va vb v:AV}{x y:yg}(hx:ae ab m S w va x)(hy:ae ab m S w vb y)(h:VE.min2 va vb=Ft v):∃u,(Builtin.min2 x y).run O.P w=.ok u w/\ae ab m S w v u:=by
 unfold VE.min2 at h
 split at h
 .simp only [ae] at hx hy;subst hx;subst hy;simp only[yb] at h;subst h;exact⟨_,by simp only[Builtin.min2,Sem.run_pure];rfl,by simp only[ae]⟩
 .rename_i k p k' q;subst hx;subst hy
  cases ho:k.format.order p q with
  | none=>simp[ho] at h
  | some c=>cases c<;>(simp only[ho,yb] at h;subst h;exact⟨_,by simp only[Builtin.min2,ho,Sem.run_pure];rfl,by simp only[ae]⟩)
 .cases h
def aoR{ab:Nat->Nat}{va vb v:AV}{x y:yg}(hx:ae ab m S w va x)(hy:ae ab m S w vb y)(h:VE.max2 va vb=Ft v):∃u,(Builtin.max2 x y).run O.P w=.ok u w/\ae ab m S w v u:=by
 unfold VE.max2 at h
 split at h
 .simp only [ae] at hx hy;subst hx;subst hy;simp only[yb] at h;subst h;exact⟨_,by simp only[Builtin.max2,Sem.run_pure];rfl,by simp only[ae]⟩
 .rename_i k p k' q;subst hx;subst hy
  cases ho:k.format.order p q with
  | none=>simp[ho] at h
  | some c=>cases c<;>(simp only[ho,yb] at h;subst h;exact⟨_,by simp only[Builtin.max2,ho,Sem.run_pure];rfl,by simp only[ae]⟩)
 .cases h
def SU{ab:Nat->Nat}{f:AV->AV->Option AV}{g:yg->yg->Sem yg}(hfg:∀va vb v x y,ae ab m S w va x->ae ab m S w vb y->f va vb=Ft v->∃u,(g x y).run O.P w=.ok u w/\ae ab m S w v u):
  ∀(l:List AV) (us:List yg) (va v:AV) (x:yg),ae ab m S w va x->az ab m S w l us->Ch f va l=Ft v->∃u,(us.foldlM g x).run O.P w=.ok u w/\ae ab m S w v u
 | [],us,va,v,x,hx,hl,h=>by
  simp only[az] at hl;simp only[Ch,yb] at h
  simp_all
 | b::l,us,va,v,x,hx,hl,h=>by
  obtain⟨u,r,rfl,hu,hr⟩:=hl;simp only[Ch] at h
  cases hf:f va b with
  | none=>simp[hf] at h
  | some c=>
   simp only[hf] at h;obtain⟨u1,h1,h2⟩:=hfg _ _ _ _ _ hx hu hf;obtain⟨u2,h3,h4⟩:=SU hfg l r c v u1 h2 hr h
   simp_all
def Tv{t:yv}{vx v:AV}{x:yg}{ty:yv}(hh:aR O m S w hp ct)(hx:ae O.ab m S w vx x){k:Nat}(hu:(k=0/\O.P.underlying t=Ft .string)\/(k=1/\∃e,O.P.underlying t=Ft (.slice e))\/(k=2/\∃kt e,O.P.underlying t=Ft (.map kt e)))(h:fX hp k vx=Ft v):∃u,(Builtin.len_ #[t] ty #[x]).run O.P w=.ok u w/\ae O.ab m S w v u:=by
 rcases hu with ⟨rfl,hu⟩ | ⟨rfl,e,hu⟩ | ⟨rfl,kt,e,hu⟩
 all_goals cases vx<;>simp only[fX,reduceCtorEq] at h
 case inl.str s=>
  simp only[ae] at hx;obtain⟨b,rfl,rfl⟩:=hx;simp only[yb] at h;subst h;refine⟨_,by simp[Builtin.len_,run_underlying hu];rfl,?_⟩
  simp only[ae,goInt]
  simp_all
 case inr.inl.af=>
  simp only[ae] at hx;subst hx;simp only[yb] at h;subst h;exact⟨_,by simp[Builtin.len_,run_underlying hu];rfl,by simp[ae,goInt]⟩
 case inr.inl.au ex n cs=>
  simp only[ae] at hx;rcases hx with ⟨b,o,c,rfl,_⟩ | ⟨a,rfl,rfl,rfl⟩
  all_goals
   simp only[yb] at h;subst h;exact⟨_,by simp[Builtin.len_,run_underlying hu];rfl,by simp[ae,goInt]⟩
 case inr.inl.ap id o n=>
  simp only[ae] at hx;obtain⟨p,c,_,rfl,_⟩:=hx;simp only[yb] at h;subst h;exact⟨_,by simp[Builtin.len_,run_underlying hu];rfl,by simp[ae,goInt]⟩
 case inr.inr.jl=>
  simp only[ae] at hx;subst hx;simp only[yb] at h;subst h;exact⟨_,by simp[Builtin.len_,run_underlying hu];rfl,by simp[ae,goInt]⟩
 case inr.inr.jm ks vs=>
  simp only[ae] at hx;obtain⟨b,es,clock,rfl,_,_,_,hb,h1,_⟩:=hx;simp only[yb] at h;subst h;refine⟨_,by simp[Builtin.len_,run_underlying hu,getObj,Sem.run,hb];rfl,?_⟩
  have:=gR _ _ h1
  simp only[ae,goInt];rw[<-this];simp
 case inr.inr.map id=>
  simp only[ae] at hx;obtain⟨p,hm,rfl⟩:=hx
  split at h
  case h_2=>cases h
  rename_i Wg ks vs Ei;simp only[yb] at h;subst h;obtain⟨p',es,clock,iI,hb,h1,_⟩:=hh.obj id _ _ Ei hm;rw[hm] at iI;injection iI with iI;subst iI
  refine⟨_,by simp[Builtin.len_,run_underlying hu,getObj,Sem.run,hb];rfl,?_⟩
  have:=gR _ _ h1
  simp only[ae,goInt];rw[<-this];simp
end
end
section
open Go
section
variable {O:bl}{H:Hint}{m:Mp}{S:Nat->Prop}{w:yi}{tm:Env}{a:Act}{hp:Hp}{ct:Nat}
def FM{t:yv}{z:AV}(h:my O.P t=Ft z):∃v,(zeroValue t).run O.P w=.ok v w/\z=eN v:=by
 unfold my at h
 cases hi:O.P.info? t with
 | none=>simp[hi] at h
 | some i=>
  simp only[hi] at h
  cases hz:i.zero with
  | none=>simp[hz] at h
  | some v=>
   simp only[hz,yb] at h;exact⟨v,by simp[zeroValue,typeInfo,hi,hz],h.symm⟩
def Reads(O:bl)(m:Mp)(S:Nat->Prop)(w:yi)(a:Act)(o:yT)(v:AV):Prop:=
 ∃u,(execOp a.eval o).run O.P w=.ok (.value u) w/\ae O.ab m S w v u
def km{o:yT}{v:AV}{s:Sem yg}(he:execOp a.eval o=(do pure (.value (<-s)):Sem yaP))(h:∃u,s.run O.P w=.ok u w/\ae O.ab m S w v u):Reads O m S w a o v:=by
 have⟨u,h1,h2⟩:=h;exact⟨u,by rw[he];simp[h1],h2⟩
def amE{o:yT}{op:vd}{t ty:yv}{x y:xr}{k:Nat}{v:AV}(hH:eX O H)(ht:bO O m S w tm a.tmps)(ho:o.op=.binOp op t x y ty)(hv:bf tm hp (aP O.P H k o)=Ft v):Reads O m S w a o v:=by
 have rx:=bQ hH ht x;have ry:=bQ hH ht y;have guard:∀{u:yg},(∀xs ys,¬(a.eval x=.agg xs/\a.eval y=.agg ys))\/O.P.eqGuardType O.P.depth t=ydi->a.eval x≠.nilIface->(xY op t (a.eval x) (a.eval y)).run O.P w=.ok u w->
   (do eqGuard op t x y (a.eval x) (a.eval y);xY op t (a.eval x) (a.eval y):Sem yg).run O.P w=.ok u w:=by
  intro u h1 h2 h3
  simp only[Sem.run_bind,ajT (P:=O.P) (w:=w) (t:=t) (op:=op) (x:=x) (y:=y) (h1.symm) h2,Result.andThen_ok,h3]
 have plain:bf tm hp (.bin op (aK H x) (aK H y))=Ft v->Reads O m S w a o v:=by
  intro hv;simp only[bf] at hv;obtain⟨u,h1,h2⟩:=amx (P:=O.P) (t:=t) rx ry hv
  refine km (s:=do eqGuard op t x y (a.eval x) (a.eval y);xY op t (a.eval x) (a.eval y)) (by simp only[execOp,ho]) ⟨u,guard (.inl ?_) ?_ h1,h2⟩
  .rintro xs ys ⟨e1,e2⟩;rw[e1] at rx;unfold VE.binOp at hv
   split at hv
   .rename_i h3 _;rw[h3] at rx;simp[ae] at rx
   .rename_i h3 _;rw[h3] at rx;simp[ae] at rx
   .rename_i h3 _;rw[h3] at rx;simp[ae] at rx
   .rename_i h3 _;rw[h3] at rx;simp[ae] at rx
   .cases hv
  .intro e1;rw[e1] at rx;unfold VE.binOp at hv
   split at hv
   .rename_i h3 _;rw[h3] at rx;simp[ae] at rx
   .rename_i h3 _;rw[h3] at rx;simp[ae] at rx
   .rename_i h3 _;rw[h3] at rx;simp[ae] at rx
   .rename_i h3 _;rw[h3] at rx;simp[ae] at rx
   .cases hv
 have other:∀(ne:Bool) (kd:VE.PT),(op=.eql/\ne=ydi\/op=.neq/\ne=ydh)->(∀r,jo kd (ay tm (aK H x)) (ay tm (aK H y))=Ft r->(Op.equal t (a.eval x) (a.eval y)).run O.P w=.ok r w/\
    ((∀xs ys,¬(a.eval x=.agg xs/\a.eval y=.agg ys))\/O.P.eqGuardType O.P.depth t=ydi)/\a.eval x≠.nilIface/\
    ∀q:Bool,(op=.eql->xY op t (a.eval x) (a.eval y)=(do pure (.bool (<-Op.equal t (a.eval x) (a.eval y)))))/\(op=.neq->xY op t (a.eval x) (a.eval y)=(do pure (.bool (!(<-Op.equal t (a.eval x) (a.eval y)))))))->
   bf tm hp (.eq ne kd (aK H x) (aK H y))=Ft v->Reads O m S w a o v:=by
  intro ne kd gZ jZ hv;simp only[bf] at hv
  cases he:jo kd (ay tm (aK H x)) (ay tm (aK H y)) with
  | none=>simp[he] at hv
  | some r=>
   simp only[he,yb] at hv;subst hv;obtain⟨h1,h2,h3,h4⟩:=jZ r he;obtain⟨h5,h6⟩:=h4 ydh
   refine km (s:=do eqGuard op t x y (a.eval x) (a.eval y);xY op t (a.eval x) (a.eval y)) (by simp only[execOp,ho]) ⟨.bool (ne !=r),guard h2 h3 ?_,by simp[ae]⟩
   rcases gZ with ⟨rfl,rfl⟩ | ⟨rfl,rfl⟩
   .rw [h5 rfl];simp[h1]
   .rw [h6 rfl];simp[h1]
 have pB:O.P.underlying t=Ft .bool->∀r,jo .b (ay tm (aK H x)) (ay tm (aK H y))=Ft r->∃p q,a.eval x=.bool p/\a.eval y=.bool q/\(Op.equal t (a.eval x) (a.eval y)).run O.P w=.ok r w:=by
  intro hu r he;cases hx:ay tm (aK H x)<;>cases hy:ay tm (aK H y)<;>rw[hx,hy] at he<;>simp only[jo,reduceCtorEq] at he
  rw[hx] at rx;rw[hy] at ry;simp only[ae] at rx ry;simp only[yb] at he;refine⟨_,_,rx,ry,?_⟩;rw[rx,ry,Sc,<-he];exact arz hu
 have pS:∀e,O.P.underlying t=Ft (.slice e)->∀r,jo .sl (ay tm (aK H x)) (ay tm (aK H y))=Ft r->∃p n c q n' c',a.eval x=.slice p n c/\a.eval y=.slice q n' c'/\(Op.equal t (a.eval x) (a.eval y)).run O.P w=.ok r w:=by
  intro e hu r he;have h1:=aoM hu rx ry he;have sl:∀{v:AV} {u:yg},ae O.ab m S w v u->(v=.af\/(∃a b c,v=.au a b c)\/∃a b c,v=.ap a b c)->∃p n c,u=.slice p n c:=by
   intro v u hr hv;rcases hv with rfl | ⟨_,_,_,rfl⟩ | ⟨_,_,_,rfl⟩
   .simp only [ae] at hr;exact⟨_,_,_,hr⟩
   .simp only [ae] at hr;rcases hr with ⟨b,o,c,hr,_⟩ | ⟨_,hr,_⟩<;>exact⟨_,_,_,hr⟩
   .simp only [ae] at hr;obtain⟨b,c,_,hr,_⟩:=hr;exact⟨_,_,_,hr⟩
  have dE:(ay tm (aK H x)=.af\/(∃a b c,ay tm (aK H x)=.au a b c)\/∃a b c,ay tm (aK H x)=.ap a b c)/\
    (ay tm (aK H y)=.af\/(∃a b c,ay tm (aK H y)=.au a b c)\/∃a b c,ay tm (aK H y)=.ap a b c):=by
   cases hx:ay tm (aK H x)<;>cases hy:ay tm (aK H y)<;>rw[hx,hy] at he<;>simp[jo] at he ⊢
  obtain⟨p,n,c,e1⟩:=sl rx dE.1;obtain⟨q,n',c',e2⟩:=sl ry dE.2;exact⟨p,n,c,q,n',c',e1,e2,h1⟩
 have pF:∀ps rs vr,O.P.underlying t=Ft (.func ps rs vr)->∀r,jo .fn (ay tm (aK H x)) (ay tm (aK H y))=Ft r->
   ((a.eval x=.nilFunc\/∃f p q,a.eval x=.func f p q)/\(a.eval y=.nilFunc\/∃f p q,a.eval y=.func f p q))/\(Op.equal t (a.eval x) (a.eval y)).run O.P w=.ok r w:=by
  intro ps rs vr hu r he;have h1:=aoN hu rx ry he;have sl:∀{v:AV} {u:yg},ae O.ab m S w v u->(v=.gU\/(∃a b c,v=.fn a b c))->(u=.nilFunc\/∃f p q,u=.func f p q):=by
   intro v u hr hv;rcases hv with rfl | ⟨f,_,_,rfl⟩
   .simp only [ae] at hr;exact .inl hr
   .cases f with
    | f g=>simp only[ae] at hr;obtain⟨b,c,hr,_⟩:=hr;exact .inr ⟨_,_,_,hr⟩
    | y l=>simp only[ae] at hr;obtain⟨b,_,hr⟩:=hr;exact .inr ⟨_,_,_,hr⟩
  have dE:(ay tm (aK H x)=.gU\/(∃a b c,ay tm (aK H x)=.fn a b c))/\(ay tm (aK H y)=.gU\/(∃a b c,ay tm (aK H y)=.fn a b c)):=by
   cases hx:ay tm (aK H x)<;>cases hy:ay tm (aK H y)<;>rw[hx,hy] at he<;>simp[jo] at he ⊢
  exact⟨⟨sl rx dE.1,sl ry dE.2⟩,h1⟩
 have pA:∀ks,kinds O.P 20 t=Ft ks->dc O.P t=Ft ydh->O.P.stoodInHeld t=ydi->∀r,jo (.ag ks) (ay tm (aK H x)) (ay tm (aK H y))=Ft r->∃p q,a.eval x=.agg p/\a.eval y=.agg q/\(Op.equal t (a.eval x) (a.eval y)).run O.P w=.ok r w:=by
  intro ks hk ha aT r he;cases hx:ay tm (aK H x)<;>cases hy:ay tm (aK H y)<;>rw[hx,hy] at he<;>simp only[jo,reduceCtorEq] at he
  rw[hx] at rx;rw[hy] at ry;simp only[ae] at rx ry;obtain⟨p,e1,h1⟩:=rx;obtain⟨q,e2,h2⟩:=ry;refine⟨p,q,e1,e2,?_⟩;rw[e1,e2,Sc];exact NV 20 t ks hk aT 10000 (by omega) _ _ _ _ r _ _ h1 h2 he (.inl ⟨ha,by simp⟩) (.inl ⟨ha,by simp⟩)
 have eqs:∀(ne:Bool),(op=.eql/\ne=ydi\/op=.neq/\ne=ydh)->bf tm hp (nR O.P H ne op t x y)=Ft v->Reads O m S w a o v:=by
  intro ne gZ hv;have agg:dc O.P t=Ft ydh->bf tm hp (oU O.P H ne t x y)=Ft v->Reads O m S w a o v:=by
   intro ha hv;unfold oU at hv
   cases hk:kinds O.P 20 t with
   | none=>rw[hk] at hv;exact (da hv).elim
   | some ks=>
    simp only[hk] at hv
    cases hc:(O.P.stoodInHeld t||O.P.eqGuardType O.P.depth t) with
    | true=>rw[hc] at hv;exact (da hv).elim
    | false=>
     rw[hc] at hv;simp only[yO] at hv;simp only[Bool.or_eq_false_iff] at hc;refine other ne (.ag ks) gZ (fun r hr=>?_) hv;obtain⟨p,q,e1,e2,h1⟩:=pA ks hk ha hc.1 r hr;refine⟨h1,.inr hc.2,by rw[e1];simp,fun _=>?_⟩
     rw[e1,e2];exact⟨fun e=>by subst e;rfl,fun e=>by subst e;rfl⟩
  unfold nR at hv
  split at hv
  .exact plain hv
  .exact plain hv
  .exact plain hv
  .exact plain hv
  .rename_i hu;refine other ne .b gZ (fun r hr=>?_) hv;obtain⟨p,q,e1,e2,h1⟩:=pB hu r hr;refine⟨h1,.inl (by rw[e1];simp),by rw[e1];simp,fun _=>?_⟩
   rw[e1,e2];exact⟨fun e=>by subst e;rfl,fun e=>by subst e;rfl⟩
  .rename_i e hu;refine other ne .sl gZ (fun r hr=>?_) hv;obtain⟨p,n,c,q,n',c',e1,e2,h1⟩:=pS e hu r hr;refine⟨h1,.inl (by rw[e1];simp),by rw[e1];simp,fun _=>?_⟩
   rw[e1,e2];exact⟨fun e=>by subst e;rfl,fun e=>by subst e;rfl⟩
  .rename_i ps rs vr hu;refine other ne .fn gZ (fun r hr=>?_) hv;obtain⟨⟨e1,e2⟩,h1⟩:=pF ps rs vr hu r hr;refine⟨h1,.inl ?_,?_,fun _=>?_⟩
   .rcases e1 with e1 | ⟨_,_,_,e1⟩<;>rw[e1]<;>simp
   .rcases e1 with e1 | ⟨_,_,_,e1⟩<;>rw[e1]<;>simp
   .rcases e1 with e1 | ⟨_,_,_,e1⟩<;>rcases e2 with e2 | ⟨_,_,_,e2⟩<;>rw[e1,e2]<;>exact⟨fun e=>by subst e;rfl,fun e=>by subst e;rfl⟩
  .rename_i fs hu;exact agg (by simp[dc,hu]) hv
  .rename_i k0 e hu;exact agg (by simp[dc,hu]) hv
  .exact (da hv).elim
 cases op
 case eql=>exact eqs ydi (.inl ⟨rfl,rfl⟩) (by simpa only[aP,ho] using hv)
 case neq=>exact eqs ydh (.inr ⟨rfl,rfl⟩) (by simpa only[aP,ho] using hv)
 all_goals exact plain (by simpa only[aP,ho] using hv)
end
end
section
open Go
section
variable {O:bl}{H:Hint}{m:Mp}{S:Nat->Prop}{w:yi}{tm:Env}{a:Act}{hp:Hp}{ct:Nat}
def At{o:yT}{b:Builtin}{args:Array xr}{ts:Array yv}(ho:o.op=.call {callee:=.builtin b,args:=args,argTypes:=ts}):
  ∃cs,(execOp a.eval o).run O.P w=(builtin b ts o.type cs (args.map a.eval)).run O.P w:=by
 exact⟨_,by simp only[execOp,ho,resolve,Sem.run_bind,Sem.run_pure,Result.andThen_ok,invoke];rfl⟩
def akO{o:yT}{c:Call}{k:Nat}{v:AV}(hH:eX O H)(ht:bO O m S w tm a.tmps)(hh:aR O m S w hp ct)(ho:o.op=.call c)(hv:bf tm hp (aP O.P H k o)=Ft v):Reads O m S w a o v:=by
 obtain⟨callee,args,ts⟩:=c;simp only[aP,ho] at hv
 split at hv
 .cases ET:H.mode k<;>simp[ET,bf] at hv
 .rename_i _ b
  split at hv
  .have key:∀{bb:Bool} {sz by':Nat} {x y:X},bf tm hp (bif bb then .cQ sz by' x y else bad)=Ft v->False:=by
    intro bb sz by' x y h
    cases bb
    .exact da h
    .simp [bf] at h
   split at hv
   .split at hv
    .exact (key hv).elim
    .exact (da hv).elim
   .split at hv
    .exact (key hv).elim
    .exact (da hv).elim
   .exact (da hv).elim
  .rename_i x t eA mJ;obtain⟨al⟩:=args;obtain⟨tl⟩:=ts;simp only at eA mJ;subst eA;subst mJ;obtain⟨cs,dM⟩:=At (O:=O) (w:=w) (a:=a) ho;have fin:(∃u,(Builtin.len_ #[t] o.type #[a.eval x]).run O.P w=.ok u w/\ae O.ab m S w v u)->Reads O m S w a o v:=by
    rintro⟨u,h1,h2⟩;refine⟨u,?_,h2⟩;rw[dM];simp[builtin,h1]
   split at hv
   .rename_i n e hu;simp only[bf,ay,yb] at hv;subst hv;exact fin ⟨_,by simp[Builtin.len_,run_underlying hu];rfl,by simp[ae,goInt]⟩
   .rename_i hu;simp only[bf] at hv;exact fin (Tv hh (bQ hH ht x) (.inl ⟨rfl,hu⟩) hv)
   .rename_i e hu;simp only[bf] at hv;exact fin (Tv hh (bQ hH ht x) (.inr (.inl ⟨rfl,e,hu⟩)) hv)
   .rename_i kt e hu;simp only[bf] at hv;exact fin (Tv hh (bQ hH ht x) (.inr (.inr ⟨rfl,kt,e,hu⟩)) hv)
   .exact (da hv).elim
  .split at hv
   .split at hv
    .simp [bf] at hv
    .exact (da hv).elim
   .exact (da hv).elim
  .simp only [bf] at hv;obtain⟨cs,dM⟩:=At (O:=O) (w:=w) (a:=a) ho;have hl:=DT hH ht args.toList
   cases hx:dA tm (iC H args.toList) with
   | nil=>simp[hx] at hv
   | cons c r=>
    simp only[hx] at hv;rw[hx] at hl;simp only[az] at hl;obtain⟨u,us,h1,h2,h3⟩:=hl;obtain⟨q,h4,h5⟩:=SU (O:=O) (g:=Builtin.min2) (fun va vb v x y hx hy h=>aoQ hx hy h) r us c v u h2 h3 hv;refine⟨q,?_,h5⟩;rw[dM];simp[builtin,Builtin.min_,h1,h4]
  .simp only [bf] at hv;obtain⟨cs,dM⟩:=At (O:=O) (w:=w) (a:=a) ho;have hl:=DT hH ht args.toList
   cases hx:dA tm (iC H args.toList) with
   | nil=>simp[hx] at hv
   | cons c r=>
    simp only[hx] at hv;rw[hx] at hl;simp only[az] at hl;obtain⟨u,us,h1,h2,h3⟩:=hl;obtain⟨q,h4,h5⟩:=SU (O:=O) (g:=Builtin.max2) (fun va vb v x y hx hy h=>aoR hx hy h) r us c v u h2 h3 hv;refine⟨q,?_,h5⟩;rw[dM];simp[builtin,Builtin.max_,h1,h4]
  .rename_i ts' x eA;obtain⟨al⟩:=args;simp only at eA;subst eA;obtain⟨cs,dM⟩:=At (O:=O) (w:=w) (a:=a) ho;simp only[bf] at hv;have rx:=bQ hH ht x;cases hx:ay tm (aK H x)<;>rw[hx] at hv rx<;>simp only[kC,reduceCtorEq,yb] at hv
   rename_i k0 p0 q0;subst hv;simp only[ae] at rx;have e1:(#[x]:Array xr).map a.eval=#[Value.complex k0 p0 q0]:=by simp[rx]
   have e2:Builtin.real_ ts o.type #[Value.complex k0 p0 q0]=pure (.float k0 p0):=rfl;exact⟨.float k0 p0,by rw[dM,e1];simp[builtin,e2],by simp[ae]⟩
  .rename_i ts' x eA;obtain⟨al⟩:=args;simp only at eA;subst eA;obtain⟨cs,dM⟩:=At (O:=O) (w:=w) (a:=a) ho;simp only[bf] at hv;have rx:=bQ hH ht x;cases hx:ay tm (aK H x)<;>rw[hx] at hv rx<;>simp only[kC,reduceCtorEq,yb] at hv
   rename_i k0 p0 q0;subst hv;simp only[ae] at rx;have e1:(#[x]:Array xr).map a.eval=#[Value.complex k0 p0 q0]:=by simp[rx]
   have e2:Builtin.imag_ ts o.type #[Value.complex k0 p0 q0]=pure (.float k0 q0):=rfl;exact⟨.float k0 q0,by rw[dM,e1];simp[builtin,e2],by simp[ae]⟩
  .rename_i ts' x y eA;obtain⟨al⟩:=args;simp only at eA;subst eA;obtain⟨cs,dM⟩:=At (O:=O) (w:=w) (a:=a) ho;simp only[bf] at hv;have rx:=bQ hH ht x;have ry:=bQ hH ht y;cases hx:ay tm (aK H x)<;>cases hy:ay tm (aK H y)<;>rw[hx] at hv rx<;>rw[hy] at hv ry<;>simp only[ac8,reduceCtorEq] at hv
   rename_i k1 a1 k2 b1;simp only[ae] at rx ry;by_cases hk:k1=k2
   .subst hk;simp only[xQ,yb] at hv;subst hv;have e1:(#[x,y]:Array xr).map a.eval=#[Value.float k1 a1,Value.float k1 b1]:=by simp[rx,ry]
    have e2:Builtin.complex_ ts o.type #[Value.float k1 a1,Value.float k1 b1]=pure (.complex k1 a1 b1):=by
     show (if k1=k1 then _ else _)=_
     simp
    exact⟨.complex k1 a1 b1,by rw[dM,e1];simp[builtin,e2],by simp[ae]⟩
   .simp [hk] at hv
  .exact (da hv).elim
 .exact (da hv).elim
def abm{o:yT}{k:Nat}{v:AV}(hH:eX O H)(ht:bO O m S w tm a.tmps)(hh:aR O m S w hp ct)(hv:bf tm hp (aP O.P H k o)=Ft v):Reads O m S w a o v:=by
 cases ho:o.op with
 | call c=>exact akO hH ht hh ho hv
 | binOp op t x y ty=>exact amE hH ht ho hv
 | move x=>
  simp only[aP,ho,bf,yb] at hv;subst hv;exact⟨_,by simp only[execOp,ho,Sem.run_pure],bQ hH ht x⟩
 | assign x=>
  simp only[aP,ho,bf,yb] at hv;subst hv;exact⟨_,by simp only[execOp,ho,Sem.run_pure],bQ hH ht x⟩
 | pick c x y=>
  simp only[aP,ho,bf] at hv;have rc:=bQ hH ht c;cases hc:ay tm (aK H c)<;>rw[hc] at hv<;>simp only[reduceCtorEq] at hv
  rename_i b;rw[hc] at rc;simp only[ae] at rc;simp only[yb] at hv;subst hv
  cases b with
  | true=>exact⟨a.eval x,by simp[execOp,ho,rc,asBool],bQ hH ht x⟩
  | false=>exact⟨a.eval y,by simp[execOp,ho,rc,asBool],bQ hH ht y⟩
 | load t x=>
  simp only[aP,ho] at hv
  split at hv
  .rename_i s ag hz ha;simp only[bf] at hv;exact km (by simp only[execOp,ho]) (avB hh hz ha (bQ hH ht x) hv)
  .exact (da hv).elim
 | fieldAddr t x i=>
  simp only[aP,ho] at hv
  split at hv
  .rename_i fs hu
   split at hv
   .rename_i f hf
    split at hv
    .rename_i s hz;simp only[bf] at hv;exact km (by simp only[execOp,ho]) (arA hu hf hz (bQ hH ht x) hv)
    .exact (da hv).elim
   .exact (da hv).elim
  .exact (da hv).elim
 | field t x i=>
  simp only[aP,ho] at hv
  split at hv
  .rename_i fs hu
   split at hv
   .rename_i f hf
    split at hv
    .rename_i s ag hz ha;simp only[bf] at hv;exact km (by simp only[execOp,ho]) (arB hu hf hz ha (bQ hH ht x) hv)
    .exact (da hv).elim
   .exact (da hv).elim
  .exact (da hv).elim
 | nilCheck x=>
  simp only[aP,ho,bf] at hv;have rx:=bQ hH ht x;cases hx:ay tm (aK H x)<;>rw[hx] at hv rx<;>simp only[reduceCtorEq,yb] at hv
  .subst hv;have r':=rx;simp only[ae] at r';obtain⟨p,_,e⟩:=r';exact⟨a.eval x,by simp only[execOp,ho,e,Sem.run_pure],rx⟩
  .subst hv;have r':=rx;simp only[ae] at r';obtain⟨b,o',e,_⟩:=r';exact⟨a.eval x,by simp only[execOp,ho,e,Sem.run_pure],rx⟩
  .subst hv;rename_i f _ _
   cases f with
   | f g=>
    have r':=rx;simp only[ae] at r';obtain⟨fi,ca,e,_⟩:=r';exact⟨a.eval x,by simp only[execOp,ho,e,Sem.run_pure],rx⟩
   | y l=>
    have r':=rx;simp only[ae] at r';obtain⟨p,_,e⟩:=r';exact⟨a.eval x,by simp only[execOp,ho,e,Sem.run_pure],rx⟩
 | unOp op t x=>
  simp only[aP,ho,bf] at hv;exact km (by simp only[execOp,ho]) (aoO (bQ hH ht x) hv)
 | convert s d x=>
  simp only[aP,ho] at hv
  split at hv
  .rename_i k1 k2 hs hd;simp only[bf] at hv;exact km (by simp only[execOp,ho]) (Z4 hd (.inl ⟨_,hs⟩) (bQ hH ht x) hv)
  .rename_i k1 k2 hs hd;simp only[bf] at hv;exact km (by simp only[execOp,ho]) (Z4 hd (.inr ⟨_,hs⟩) (bQ hH ht x) hv)
  .rename_i k1 k2 hs hd;simp only[bf] at hv;exact km (by simp only[execOp,ho]) (Z5 hd (.inl ⟨_,hs⟩) (bQ hH ht x) hv)
  .rename_i k1 k2 hs hd;simp only[bf] at hv;exact km (by simp only[execOp,ho]) (Z5 hd (.inr ⟨_,hs⟩) (bQ hH ht x) hv)
  .rename_i hs hd;simp only[bf] at hv;exact km (by simp only[execOp,ho]) (amy hd hs (bQ hH ht x) hv)
  .exact (da hv).elim
 | makeFunc fn first cap=>
  cases fn with
  | func f=>
   simp only[aP,ho] at hv
   split at hv
   .rename_i g hg;simp only[bf,yb] at hv;subst hv;refine⟨.func (.func f) (first.map a.eval) (cap.map a.eval),by simp[execOp,ho,Instr.makeFunc],?_⟩;simp only[ae];exact⟨_,_,by rw[hH f g hg],by simpa using DT hH ht first.toList,by simpa using DT hH ht cap.toList⟩
   .exact (da hv).elim
  | _=>simp only[aP,ho] at hv;exact (da hv).elim
 | slice t x lo hi mx=>
  cases mx with
  | some q=>simp only[aP,ho] at hv;exact (da hv).elim
  | none=>
   simp only[aP,ho] at hv
   split at hv
   .rename_i hu;simp only[bf] at hv;exact km (by simp only[execOp,ho];rfl) (akN hH ht hu (bQ hH ht x) hv)
   .rename_i e hu
    split at hv
    .rename_i s hz;simp only[bf] at hv;exact km (by simp only[execOp,ho];rfl) (amz hH ht hu hz hh (bQ hH ht x) hv)
    .exact (da hv).elim
   .rename_i n e hu
    split at hv
    .rename_i s hz;simp only[bf] at hv;exact km (by simp only[execOp,ho];rfl) (amA hH ht hu hz (bQ hH ht x) hv)
    .exact (da hv).elim
   .exact (da hv).elim
 | indexAddr t x i=>
  simp only[aP,ho] at hv
  split at hv
  .rename_i e hu
   split at hv
   .rename_i s hz;simp only[bf] at hv
    cases hk:cy (ay tm (aK H i)) with
    | none=>simp[hk] at hv
    | some j=>
     simp only[hk] at hv;exact km (by simp only[execOp,ho]) (arC hu hz (bQ hH ht x) (bQ hH ht i) hk hv)
   .exact (da hv).elim
  .rename_i n e hu
   split at hv
   .rename_i s hz;simp only[bf] at hv
    cases hk:cy (ay tm (aK H i)) with
    | none=>simp[hk] at hv
    | some j=>
     simp only[hk] at hv;exact km (by simp only[execOp,ho]) (arD hu hz (bQ hH ht x) (bQ hH ht i) hk hv)
   .exact (da hv).elim
  .exact (da hv).elim
 | index t x i=>
  simp only[aP,ho] at hv
  split at hv
  .rename_i hu;simp only[bf] at hv
   cases hk:cy (ay tm (aK H i)) with
   | none=>simp[hk] at hv
   | some j=>
    simp only[hk] at hv;exact km (by simp only[execOp,ho]) (arG hu (bQ hH ht x) (bQ hH ht i) hk hv)
  .rename_i n e hu
   split at hv
   .rename_i s ag hz ha;simp only[bf] at hv
    cases hk:cy (ay tm (aK H i)) with
    | none=>simp[hk] at hv
    | some j=>
     simp only[hk] at hv;exact km (by simp only[execOp,ho]) (arE hu hz ha (bQ hH ht x) (bQ hH ht i) hk hv)
   .exact (da hv).elim
  .exact (da hv).elim
 | lookup t x i ok=>
  simp only[aP,ho] at hv
  split at hv
  .rename_i kt e hu
   split at hv
   .rename_i kk z sK hz;simp only[bf] at hv
    cases hf:oT kk (ay tm (aK H i)) with
    | false=>simp[hf] at hv
    | true=>
     simp only[hf,yq] at hv;obtain⟨zv,kW,rfl⟩:=FM (w:=w) hz
     cases hr:Cl hp (ay tm (aK H i)) (ay tm (aK H x)) with
     | none=>simp[hr] at hv
     | some r=>
      refine km (by simp only[execOp,ho]) (arH (ok:=ok) (r:=r) (z:=eN zv) hh hu sK hf kW (bQ hH ht x) (bQ hH ht i) (Nv zv) hr ?_);cases r<;>simpa[hr] using hv
   .exact (da hv).elim
  .exact (da hv).elim
 | extract x i=>
  simp only[aP,ho,bf] at hv;have rx:=bQ hH ht x;cases hx:ay tm (aK H x)<;>rw[hx] at hv rx<;>simp only[reduceCtorEq] at hv
  simp only[ae] at rx;obtain⟨xs,e,hr⟩:=rx;obtain⟨u,h1,h2⟩:=Se hr hv;refine⟨u,?_,h2⟩;have h1':xs[i]? =Ft u:=by simpa using h1
  simp[execOp,ho,e,Instr.extract,h1']
 | build t parts=>
  simp only[aP,ho] at hv
  split at hv
  .rename_i fs z hu hz
   split at hv
   .rename_i pl axr;have ns:=run_places (P:=O.P) w fs.toList pl axr
    split at hv
    case h_2=>exact (da hv).elim
    rename_i ps ja;simp only[bf] at hv
    cases hf:fill tm z ps with
    | none=>simp[hf] at hv
    | some cs=>
     simp only[hf,yb] at hv;subst hv;obtain⟨zv,kW,kh⟩:=FM (w:=w) hz;have Bu:az O.ab m S w z zv.cells.toList:=by
      have:=DA (ab:=O.ab) (m:=m) (S:=S) (w:=w) zv
      rw[<-kh] at this;exact this
     obtain⟨out,h1,h2⟩:=Nx hH ht (place:=fun i=>pl[i]?) parts.toList ps z cs zv.cells ja Bu hf;refine⟨.agg out,?_,by simp only[ae];exact⟨out,rfl,h2⟩⟩
     have hm:(Array.mapM (fun f=>Functor.map (Prod.mk f.offset) (vA f.type)) fs:Sem (Array (Nat×Nat))).run O.P w=.ok pl.toArray w:=by
      rw[Array.mapM_eq_mapM_toList];simp[ns]
     simp[execOp,ho,Instr.build,kW,run_underlying hu,hm,h1]
   .exact (da hv).elim
  .rename_i n e z hu hz
   split at hv
   .rename_i s hs
    split at hv
    .rename_i ps ja;simp only[bf] at hv
     cases hf:fill tm z ps with
     | none=>simp[hf] at hv
     | some cs=>
      simp only[hf,yb] at hv;subst hv;obtain⟨zv,kW,kh⟩:=FM (w:=w) hz;have Bu:az O.ab m S w z zv.cells.toList:=by
       have:=DA (ab:=O.ab) (m:=m) (S:=S) (w:=w) zv
       rw[<-kh] at this;exact this
      obtain⟨out,h1,h2⟩:=Nx hH ht (place:=fun i=>Ft (i*s,s)) parts.toList ps z cs zv.cells ja Bu hf;refine⟨.agg out,?_,by simp only[ae];exact⟨out,rfl,h2⟩⟩
      simp[execOp,ho,Instr.build,kW,run_underlying hu,oO hs,h1]
    .exact (da hv).elim
   .exact (da hv).elim
  .exact (da hv).elim
 | alloc t=>simp only[aP,ho] at hv;split at hv<;>simp[bf,bad] at hv
 | box t x=>simp only[aP,ho] at hv;split at hv<;>simp[bf,bad] at hv
 | buildSlice t n parts=>
  simp only[aP,ho] at hv
  split at hv
  .split at hv
   .rename_i s z _ _
    cases hc:yA (n*s) 16777216 with
    | false=>rw[hc] at hv;exact (da hv).elim
    | true=>
     rw[hc] at hv;simp only[yq] at hv
     split at hv
     .simp [bf] at hv
     .exact (da hv).elim
   .exact (da hv).elim
  .exact (da hv).elim
 | makeMap t r=>
  cases r<;>simp only[aP,ho] at hv
  .repeat' split at hv
   all_goals simp[bf,bad] at hv
  .exact (da hv).elim
 | makeSlice t l c=>
  simp only[aP,ho] at hv
  repeat' split at hv
  all_goals simp[bf,bad] at hv
 | insert t x k y=>
  simp only[aP,ho] at hv
  repeat' split at hv
  all_goals simp[bf,bad] at hv
 | mapUpdate t x k y=>
  simp only[aP,ho] at hv
  repeat' split at hv
  all_goals simp[bf,bad] at hv
 | store t x y=>simp only[aP,ho] at hv;split at hv<;>simp[bf,bad] at hv
 | range t x=>simp only[aP,ho] at hv;split at hv<;>simp[bf,bad] at hv
 | next x b=>cases b<;>simp[aP,ho,bf,bad] at hv
 | _=>simp[aP,ho,bf,bad] at hv
end
end
section
open Go
def fy(m:Mp)(id:Nat)(p:Pl):Mp:=fun i=>if i=id then Ft p else m i
def du{m:Mp}{id:Nat}{p:Pl}:fy m id p id=Ft p:=by simp[fy]
def dY{m:Mp}{id i:Nat}{p:Pl}(h:i≠id):fy m id p i=m i:=by simp[fy,h]
section
variable {O:bl}{m:Mp}{S:Nat->Prop}{w:yi}{hp:Hp}{ct:Nat}
def cY(m m':Mp):Prop:=∀id p,m id=Ft p->m' id=Ft p
def cY.refl{m:Mp}:cY m m:=fun _ _ h=>h
def cY.trans{m m' Lk:Mp}(h:cY m m')(k:cY m' Lk):cY m Lk:=fun id p hp=>k id p (h id p hp)
def jD{i:Nat}(h:m i=Fu){p:Pl}:cY m (fy m i p):=by
 intro id q hq;rw[dY]
 .grind
 .grind
def BP{tm:Env}{tmps:Array yg}{m':Mp}{S':Nat->Prop}{w':yi}(hm:∀id p,m id=Ft p->m' id=Ft p)(hS:∀b,S b->S' b)(hw:fR S w w')(h:bO O m S w tm tmps):bO O m' S' w' tm tmps:=fun i=>mo hm hS hw _ _ (h i)
def alloc_old{o:yar}{b:Nat}(hb:b<w.heap.size):(w.alloc o).heap[b]? =w.heap[b]? :=RowKit.Below.heap_alloc w o b hb
def zk{m':Mp}{S':Nat->Prop}{w':yi}{id:Nat}{o:Obj}(hm:∀id p,m id=Ft p->m' id=Ft p)(hS:∀b,S b->S' b)(hw:fR S w w')(hb:∀p,m id=Ft p->w'.heap[p.b]? =w.heap[p.b]?)(hn:∀p,m id=Ft p->S' p.b->S p.b)(h:eY O m S w id o):eY O m' S' w' id o:=by
 have rowAt:∀(cs:List AV) (b k:Nat),w'.heap[b]? =w.heap[b]? ->bL O.ab m S w cs b k->bL O.ab m' S' w' cs b k:=by
  intro cs
  induction cs with
  | nil=>intro b k _ _;simp only[bL]
  | cons c cs ih=>
   intro b k Aa hr;have⟨⟨u,h1,h2⟩,h3⟩:=hr;exact⟨⟨u,(Mm Aa).trans h1,mo hm hS hw _ _ h2⟩,ih b (k+1) Aa h3⟩
 cases o with
 | cells rw pu ex sz cs=>
  have⟨p,arr,t,h1,h2,h3,h4,h5,h6,h7,h8,h9,iK⟩:=h;exact⟨p,arr,t,hm _ _ h1,(hb p h1).trans h2,h3,h4,h5,h6,rowAt cs p.b p.o (hb p h1) h7,h8,fun hr hs=>h9 hr (hn p h1 hs),fun hr=>hS _ (iK hr)⟩
 | mp rw ks vs=>
  have⟨p,es,clock,h1,h2,h3,h4,h5,h6⟩:=h;exact⟨p,es,clock,hm _ _ h1,(hb p h1).trans h2,ij hm hS hw _ _ h3,ij hm hS hw _ _ h4,fun hr hs=>h5 hr (hn p h1 hs),fun hr=>hS _ (h6 hr)⟩
 | si s pos=>
  have⟨p,t,h1,h2,h3,h4⟩:=h;exact⟨p,t,hm _ _ h1,(hb p h1).trans h2,h3,fun hs=>h4 (hn p h1 hs)⟩
 | lp tm ps as_ body st pe=>
  have⟨p,l,hi,h1,h2,h3,h4,h5,h6,h7,h8⟩:=h;exact⟨p,l,hi,hm _ _ h1,(hb p h1).trans h2,fun hs=>h3 (hn p h1 hs),h4,h5,h6,BP hm hS hw h7,h8⟩
def fo{id i:Nat}{o:Obj}:ai ((id,o)::hp) i=if id=i then Ft o else ai hp i:=by
 simp only[ai]
 simp_all
def IM(hh:aR O m S w hp ct)(g:yar):fR S w (w.alloc g):=fun b hb=>alloc_old (hh.slt b hb)
def jw:Obj->Obj->Prop
 | .cells rw pu ex sz cs,o'=>∃cx,o'=.cells cx pu ex sz cs/\(cx=ydh->rw=ydh)
 | .mp rw ks vs,o'=>∃cx,o'=.mp cx ks vs/\(cx=ydh->rw=ydh)
 | .si s pos,o'=>o'=.si s pos
 | .lp tm ps as_ body st pe,o'=>o'=.lp tm ps as_ body st pe
def jw.refl:∀o,jw o o
 | .cells rw _ _ _ _=>⟨rw,rfl,fun h=>h⟩
 | .mp rw _ _=>⟨rw,rfl,fun h=>h⟩
 | .si _ _=>rfl
 | .lp _ _ _ _ _ _=>rfl
def jw.trans{a b c:Obj}(h:jw a b)(k:jw b c):jw a c:=by
 cases a with
 | cells rw pu ex sz cs=>
  obtain⟨r1,rfl,h1⟩:=h;obtain⟨r2,rfl,h2⟩:=k;exact⟨r2,rfl,fun h=>h1 (h2 h)⟩
 | mp rw ks vs=>
  obtain⟨r1,rfl,h1⟩:=h;obtain⟨r2,rfl,h2⟩:=k;exact⟨r2,rfl,fun h=>h1 (h2 h)⟩
 | si s pos=>simp only[jw] at h;subst h;exact k
 | lp tm ps as_ body st pe=>simp only[jw] at h;subst h;exact k
def cJ(hp an:Hp):Prop:=∀id o,ai hp id=Ft o->∃o',ai an id=Ft o'/\jw o o'
def cJ.refl{hp:Hp}:cJ hp hp:=fun _ o h=>⟨o,h,jw.refl o⟩
def cJ.trans{a b c:Hp}(h:cJ a b)(k:cJ b c):cJ a c:=fun id o ho=>
 let ⟨o1,h1,l1⟩:=h id o ho
 let ⟨o2,h2,l2⟩:=k id o1 h1
 ⟨o2,h2,l1.trans l2⟩
def je:Obj->Prop
 | .cells rw _ _ _ _=>rw=ydi
 | .mp rw _ _=>rw=ydi
 | _=>False
def abn{an:Hp}{aH:Nat}(hh:aR O m S w hp ct)(hl:cJ hp an)(hd:∀id o p,ai an id=Ft o->m id=Ft p->∃o',ai hp id=Ft o')(gJ:ct<=aH)(axs:∀id o,ai an id=Ft o->id<aH):
  ∃S',aR O m S' w an aH/\(∀b,S b->S' b)/\∀b,S' b->S b\/dV m hp b:=by
 refine⟨fun b=>S b\/∃id p o,m id=Ft p/\p.b=b/\ai an id=Ft o/\je o,?_,fun b h=>.inl h,?_⟩
 .refine ⟨?_,fun id p h=>yE (hh.lt id p h) gJ,?_,?_,hh.blt,hh.low,hh.mB,hh.fY,axs⟩
  .intro id o' p jv hm;have⟨o,ho⟩:=hd id o' p jv hm;have⟨Wj,h1,h2⟩:=hl id o ho;rw[jv] at h1;injection h1 with h1
   subst h1;have h3:=hh.obj id o p ho hm;have hS:∀b,S b->(S b\/∃id p o,m id=Ft p/\p.b=b/\ai an id=Ft o/\je o):=fun b h=>.inl h
   have kE:∀q,m id=Ft q->(∃id p o,m id=Ft p/\p.b=q.b/\ai an id=Ft o/\je o)->je o':=by
    rintro q hq ⟨j,pj,oj,PX,hj2,hj3,hj4⟩;have⟨Lm,hj5⟩:=hd j oj pj hj3 PX
    have:=hh.inj id j o Lm q pj ho hj5 hq PX hj2.symm
    grind
   have aT:fR S w w:=fun _ _=>rfl
   cases o with
   | cells rw pu ex sz cs=>
    obtain⟨cx,rfl,oC⟩:=h2;have⟨q,arr,t,h1,h2,h3,h4,h5,h6,h7,h8,h9,iK⟩:=h3;refine⟨q,arr,t,h1,h2,h3,h4,h5,h6,?_,h8,?_,?_⟩
    .clear h4 h6 h8;revert h7;generalize q.o=k
     induction cs generalizing k with
     | nil=>intro _;simp only[bL]
     | cons c cs ih=>
      intro hr;simp only[bL] at hr ⊢;have⟨⟨u,g1,g2⟩,g3⟩:=hr
      exact⟨⟨u,g1,mo (fun _ _ h=>h) hS aT _ _ g2⟩,by
       have Bp:∀(cs:List AV) (b k:Nat),bL O.ab m S w cs b k->bL O.ab m (fun b=>S b\/∃id p o,m id=Ft p/\p.b=b/\ai an id=Ft o/\je o) w cs b k:=by
        intro cs
        induction cs with
        | nil=>intro b k _;simp only[bL]
        | cons c cs ih=>
         intro b k hr;simp only[bL] at hr ⊢;have⟨⟨u,g1,g2⟩,g3⟩:=hr;exact⟨⟨u,g1,mo (fun _ _ h=>h) hS aT _ _ g2⟩,ih b (k+1) g3⟩
       exact Bp _ _ _ g3⟩
    .rintro hr (hs | hs)
     .grind
     .have:=kE q h1 hs
      simp only[je] at this
      grind
    .intro hr;exact .inr ⟨id,q,_,h1,rfl,jv,hr⟩
   | mp rw ks vs=>
    obtain⟨cx,rfl,oC⟩:=h2;have⟨q,es,clock,h1,h2,h3,h4,h5,h6⟩:=h3;refine⟨q,es,clock,h1,h2,ij (fun _ _ h=>h) hS aT _ _ h3,ij (fun _ _ h=>h) hS aT _ _ h4,?_,?_⟩
    .rintro hr (hs | hs)
     .grind
     .have:=kE q h1 hs
      simp only[je] at this
      grind
    .intro hr;exact .inr ⟨id,q,_,h1,rfl,jv,hr⟩
   | si s pos=>
    simp only[jw] at h2;subst h2;refine zk (fun _ _ h=>h) hS aT (fun _ _=>rfl) (fun q hq hs=>?_) h3;rcases hs with hs | hs
    .grind
    .exact (kE q hq hs).elim
   | lp tm ps as_ body st pe=>
    simp only[jw] at h2;subst h2;refine zk (fun _ _ h=>h) hS aT (fun _ _=>rfl) (fun q hq hs=>?_) h3;rcases hs with hs | hs
    .grind
    .exact (kE q hq hs).elim
  .intro i j oi oj pi pj hi hj bD gK e;have⟨Ln,eD⟩:=hd i oi pi hi bD;have⟨Lm,Wk⟩:=hd j oj pj hj gK;exact hh.inj i j Ln Lm pi pj eD Wk bD gK e
  .rintro b (hb | ⟨id,p,o,h1,rfl,_,_⟩)
   .exact hh.slt b hb
   .exact hh.blt id p h1
 .rintro b (hb | ⟨id,p,o,h1,rfl,h3,_⟩)
  .exact .inl hb
  .have ⟨o',jv⟩:=hd id o p h3 h1;exact .inr ⟨id,o',p,jv,h1,rfl⟩
def Sg{i:Nat}(hh:aR O m S w hp ct)(hi:m i=Fu)(G8:i<ct){g:yar}{p:Pl}(hb:p.b=w.heap.size)(hf:∀o,ai hp i=Ft o->(eY O (fy m i p) S (w.alloc g) i o/\¬je o)\/
   (je o/\eY O (fy m i p) (fun b=>S b\/b=w.heap.size) (w.alloc g) i o)):
  ∃S',aR O (fy m i p) S' (w.alloc g) hp ct/\(∀b,S b->S' b)/\∀b,S' b->S b\/b=w.heap.size:=by
 have eC:(w.alloc g).heap.size=w.heap.size+1:=by simp
 have bc:O.w0.heap.size<=w.heap.size:=hh.fY;have gen:∀S':Nat->Prop,(∀b,S b->S' b)->(∀b,S' b->S b\/b=w.heap.size)->(∀o,ai hp i=Ft o->eY O (fy m i p) S' (w.alloc g) i o)->aR O (fy m i p) S' (w.alloc g) hp ct:=by
  intro S' h1 h2 h3;have Lo:∀id q,m id=Ft q->¬q.b=w.heap.size:=fun id q hq=>by have:=hh.blt id q hq;lia
  refine⟨?_,?_,?_,?_,?_,?_,?_,?_,hh.aM⟩
  .intro id o q ho hm;by_cases hc:id=i
   .grind
   .rw [dY hc] at hm;refine zk (jD hi) h1 (IM hh g) (fun q' bG=>alloc_old (hh.blt id q' bG)) (fun q' bG hs=>?_) (hh.obj id o q ho hm)
    grind
  .intro id q hm;by_cases hc:id=i
   .grind
   .rw [dY hc] at hm;exact hh.lt id q hm
  .intro a b oa ob pa pb ha bH EU A4 e;by_cases ca:a=i
   .by_cases cb:b=i
    .grind
    .subst ca;rw[du] at EU;rw[dY cb] at A4
     grind
   .rw [dY ca] at EU;by_cases cb:b=i
    .subst cb;rw[du] at A4
     grind
    .rw [dY cb] at A4;exact hh.inj a b oa ob pa pb ha bH EU A4 e
  .intro b hs;rcases h2 b hs with h | h
   .have:=hh.slt b h;lia
   .lia
  .intro id q hm;by_cases hc:id=i
   .subst hc;rw[du] at hm
    grind
   .rw [dY hc] at hm
    have:=hh.blt id q hm
    lia
  .intro id q hm;by_cases hc:id=i
   .subst hc;rw[du] at hm
    grind
   .rw [dY hc] at hm;exact hh.low id q hm
  .intro b Aa;exact (alloc_old (by lia)).trans (hh.mB b Aa)
  .lia
 cases ho:ai hp i with
 | none=>exact⟨S,gen S (fun _ h=>h) (fun _ h=>.inl h) (fun o h=>by rw[ho] at h;cases h),fun _ h=>h,fun _ h=>.inl h⟩
 | some o=>
  rcases hf o ho with ⟨h1,_⟩ | ⟨_,h1⟩
  .exact ⟨S,gen S (fun _ h=>h) (fun _ h=>.inl h) (fun o' h=>by rw[ho] at h;injection h with h;subst h;exact h1),fun _ h=>h,fun _ h=>.inl h⟩
  .exact ⟨_,gen (fun b=>S b\/b=w.heap.size) (fun _ h=>.inl h) (fun _ h=>h) (fun o' h=>by rw[ho] at h;injection h with h;subst h;exact h1),fun _ h=>.inl h,fun _ h=>h⟩
def Q5{id:Nat}{o o':Obj}{p:Pl}(hl:jw o o')(hm:m id=Ft p)(h:eY O m S w id o)(hn:¬je o):
  (eY O m S w id o'/\¬je o')\/(je o'/\eY O m (fun b=>S b\/b=p.b) w id o'):=by
 have hS:∀b,S b->(S b\/b=p.b):=fun _ h=>.inl h
 have aT:fR S w w:=fun _ _=>rfl
 cases o with
 | cells rw pu ex sz cs=>
  obtain⟨cx,rfl,oC⟩:=hl
  cases cx with
  | true=>
   grind
  | false=>
   refine .inr ⟨rfl,?_⟩;have⟨q,arr,t,h1,h2,h3,h4,h5,h6,h7,h8,h9,iK⟩:=h;rw[hm] at h1;injection h1 with h1
   subst h1;have Bp:∀(cs:List AV) (b k:Nat),bL O.ab m S w cs b k->bL O.ab m (fun b=>S b\/b=p.b) w cs b k:=by
    intro cs
    induction cs with
    | nil=>intro b k _;simp only[bL]
    | cons c cs ih=>
     intro b k hr;have⟨⟨u,g1,g2⟩,g3⟩:=hr;exact⟨⟨u,g1,mo (fun _ _ h=>h) hS aT _ _ g2⟩,ih b (k+1) g3⟩
   exact⟨p,arr,t,hm,h2,h3,h4,h5,h6,Bp _ _ _ h7,h8,by simp,fun _=>.inr rfl⟩
 | mp rw ks vs=>
  obtain⟨cx,rfl,oC⟩:=hl
  cases cx with
  | true=>
   grind
  | false=>
   refine .inr ⟨rfl,?_⟩;have⟨q,es,clock,h1,h2,h3,h4,h5,h6⟩:=h;rw[hm] at h1;injection h1 with h1
   subst h1;exact⟨p,es,clock,hm,h2,ij (fun _ _ h=>h) hS aT _ _ h3,ij (fun _ _ h=>h) hS aT _ _ h4,by simp,fun _=>.inr rfl⟩
 | si s pos=>simp only[jw] at hl;subst hl;exact .inl ⟨h,hn⟩
 | lp tm ps as_ body st pe=>simp only[jw] at hl;subst hl;exact .inl ⟨h,hn⟩
end
end
section
open Go
section
variable {v:AV}{arr:Array yg}{cs:List AV}{sz:Nat}{b:Obj}
section
variable {O:bl}{H:Hint}{m:Mp}{S:Nat->Prop}{w:yi}{tm:Env}{a:Act}{hp:Hp}{ct cq:Nat}
def MR{ab:Nat->Nat}{b:Nat}{arr:Array yg}{t:yv}{fr:Nat×Nat}(hb:w.heap[b]? =Ft (.cells arr t fr)):∀(cs:List AV) (us:List yg) (o:Nat),
  az ab m S w cs us->(∀(j:Nat) (u:yg),us[j]? =Ft u->arr[o+j]? =Ft u)->bL ab m S w cs b o
 | [],us,o,_,_=>by simp only[bL]
 | c::cs,us,o,h,hu=>by
  simp only[az] at h;obtain⟨u,r,rfl,h2,h3⟩:=h;simp only[bL];refine⟨⟨u,?_,h2⟩,MR hb cs r (o+1) h3 (fun j v hv=>?_)⟩
  .have:=hu 0 u (by simp)
   simpa[World.cell?,hb] using this
  .have:=hu (j+1) v (by simpa using hv)
   rw[show o+1+j=o+(j+1) by lia];exact this
def aoS(hh:aR O m S w hp cq){i:Nat}{t:yv}{us:List yg}{pu ex:Bool}(hr:az O.ab m S w cs us)(hu:∀(j:Nat) (u:yg),us[j]? =Ft u->arr[j]? =Ft u)(hl:cs.length<=arr.size)(hex:ex=ydh->cs.length=arr.size)(gj:pu=ydh->aD cs=ydh)(m':Mp)(hm:cY m m')(hi:m' i=Ft ⟨w.heap.size,0,arr.size,sz⟩):eY O m' S (w.alloc (.cells arr t)) i (.cells ydh pu ex sz cs):=by
 refine⟨⟨w.heap.size,0,arr.size,sz⟩,arr,t,hi,heap_alloc_new w _,rfl,hl,by simp,hex,?_,gj,?_,by simp⟩
 .exact MR (heap_alloc_new w _) cs us 0 (ij hm (fun _ h=>h) (IM hh _) _ _ hr) (by simpa using hu)
 .intro _ hS
  have:=hh.slt _ hS
  simp at this
def Ek(O:bl)(m:Mp)(S:Nat->Prop)(w:yi)(a:Act)(ct:Nat)(o:yT)(v:AV)(b:Obj):Prop:=
 ∃u g p,(execOp a.eval o).run O.P w=.ok (.value u) (w.alloc g)/\p.b=w.heap.size/\¬je b/\
  ∀m',cY m m'->m' ct=Ft p->eY O m' S (w.alloc g) ct b/\ae O.ab m' S (w.alloc g) v u
def RJ{o:yT}{t:yv}{us:List yg}{pu ex:Bool}{u:yg}(hh:aR O m S w hp cq)(he:(execOp a.eval o).run O.P w=.ok (.value u) (w.alloc (.cells arr t)))(hr:az O.ab m S w cs us)(hu:∀(j:Nat) (u:yg),us[j]? =Ft u->arr[j]? =Ft u)(hl:cs.length<=arr.size)(hex:ex=ydh->cs.length=arr.size)(gj:pu=ydh->aD cs=ydh)(hv:∀m':Mp,m' ct=Ft ⟨w.heap.size,0,arr.size,sz⟩->ae O.ab m' S (w.alloc (.cells arr t)) v u):Ek O m S w a ct o v (.cells ydh pu ex sz cs):=
 ⟨u,_,⟨w.heap.size,0,arr.size,sz⟩,he,rfl,by simp[je],fun m' hm hi=>⟨aoS hh hr hu hl hex gj m' hm hi,hv m' hi⟩⟩
def Z6{o:yT}{t:yv}{x:yg}{vx:AV}(hh:aR O m S w hp cq)(he:(execOp a.eval o).run O.P w=.ok (.value (.pointer (Ft ⟨w.heap.size,0,Fu⟩))) (w.alloc (.cells x.cells t)))(hx:az O.ab m S w (cellsOf vx) x.cells.toList)(hv:(bif ym (cellsOf vx).length sz&&bS (cellsOf vx) then Ft (AV.ptr ct 0,Obj.cells ydh (aD (cellsOf vx)) ydh sz (cellsOf vx)) else Fu)=Ft (v,b)):Ek O m S w a ct o v b:=by
 cases hc:(ym (cellsOf vx).length sz&&bS (cellsOf vx)) with
 | false=>rw[hc] at hv;cases hv
 | true=>
  rw[hc] at hv;obtain⟨rfl,rfl⟩:=hv;have hlen:=gR _ _ hx;refine RJ hh he hx (fun j u hj=>by simpa using hj) (by rw[<-hlen];simp) (fun _=>by rw[<-hlen];simp) (fun h=>h) (fun m' hi=>?_)
  simp only[ae];exact⟨_,hi,by simp⟩
def amF{o:yT}{t:yv}{r:Option xr}(hh:aR O m S w hp cq)(ho:o.op=.makeMap t r)(hr:r=Fu):Ek O m S w a ct o (.map ct) (.mp ydh [] []):=by
 subst hr;refine⟨.map (Ft w.heap.size),.map #[] 0,⟨w.heap.size,0,0,0⟩,by simp[execOp,ho,Instr.makeMap],rfl,by simp[je],fun m' _ hi=>⟨?_,?_⟩⟩
 .refine ⟨_,#[],0,hi,heap_alloc_new w _,by simp[az],by simp[az],?_,by simp⟩;intro _ hS
  have:=hh.slt _ hS
  simp at this
 .simp only [ae];exact⟨_,hi,rfl⟩
def akP{o:yT}{t:yv}{x:xr}{s:List Nat}(hh:aR O m S w hp cq)(ho:o.op=.range t x)(hu:O.P.underlying t=Ft .string)(hx:ae O.ab m S w (.str s) (a.eval x)):
  Ek O m S w a ct o (.it ct) (.si s 0):=by
 obtain⟨b,e,rfl⟩:=hx;refine⟨.pointer (Ft ⟨w.heap.size,0,Fu⟩),.stringIter b 0,⟨w.heap.size,0,0,0⟩,by simp[execOp,ho,Instr.range,run_underlying hu,e],rfl,by simp[je],fun m' _ hi=>⟨?_,?_⟩⟩
 .refine ⟨_,b,hi,heap_alloc_new w _,rfl,?_⟩;intro hS
  have:=hh.slt _ hS
  simp at this
 .simp only [ae];exact⟨_,hi,rfl⟩
end
def akQ(zero:Array yg):(wF zero.size).map (fun j=>zero[j]!)=zero.toList:=by
 apply List.ext_getElem
 .simp
 .grind
def Yw(zero:Array yg):∀n:Nat,(wF (n*zero.size)).map (fun i=>zero[i%zero.size]!)=(yp n zero.toList).flatten
 | 0=>by simp
 | n+1=>by
  rw[xP,ybx,List.range_add,List.map_append,Yw zero n,List.replicate_succ',ybc]
  congr 1
  simp only[List.map_map,uB,List.flatten_nil,List.append_nil];rw[<-akQ zero];apply List.map_congr_left;intro j hj;simp at hj;simp[Function.comp,xp n,Nat.mod_eq_of_lt hj]
def Sh{ab:Nat->Nat}{m:Mp}{S:Nat->Prop}{w:yi}{cs:List AV}{us:List yg}(h:az ab m S w cs us):∀n,az ab m S w (yp n cs).flatten (yp n us).flatten
 | 0=>by simp[az]
 | n+1=>by rw[wO,wO,uB,uB];exact mi h (Sh h n)
section
variable {O:bl}{H:Hint}{m:Mp}{S:Nat->Prop}{w:yi}{tm:Env}{a:Act}{hp:Hp}{ct cq:Nat}
def Zf(zero:Array yg)(n:Nat):(Array.map (fun i=>zero[i%zero.size]!) (tJ (n*zero.size))).toList=(yp n zero.toList).flatten:=by
 rw[<-Yw zero n]
 simp
def Z7(tm:Env):∀(ps:List (Nat×Nat×X)) (zero cs:List AV),fill tm zero ps=Ft cs->cs.length=zero.length
 | [],zero,cs,h=>by simp only[fill,yb] at h;rw[h]
 | (o,sz,x)::r,zero,cs,h=>by
  simp only[fill] at h
  cases hc:(ym (cellsOf (ay tm x)).length sz&&yA (o+sz) zero.length&&bS (cellsOf (ay tm x))) with
  | false=>rw[hc] at h;cases h
  | true=>
   rw[hc] at h;simp only[ye] at hc;have h1:=yf hc.1.1;have h2:=yr hc.1.2;rw[Z7 tm r _ _ h];simp only[over,yJ,yQ,wD]
   lia
def M8{α:Type}(l:List α):∀n,(yp n l).flatten.length=n*l.length
 | 0=>by simp
 | n+1=>by simp[wO,M8 l n,xP,Nat.add_comm]
def akR{o:yT}{t e:yv}{n s:Nat}{z:AV}{parts:Array (Nat×xr)}{ps:List (Nat×Nat×X)}(hH:eX O H)(ht:bO O m S w tm a.tmps)(hh:aR O m S w hp cq)(ho:o.op=.buildSlice t n parts)(hu:O.P.underlying t=Ft (.slice e))(hs:bZ O.P e=Ft s)(hz:my O.P e=Ft z)(hn:n*s<=16777216)(ja:partsOf H (fun i=>Ft (i*s,s)) parts.toList=Ft ps)(hv:cB tm hp ct (.iB n s (yp n (cellsOf z)).flatten ps)=Ft (v,b)):Ek O m S w a ct o v b:=by
 simp only[cB] at hv
 cases hf:fill tm (yp n (cellsOf z)).flatten ps with
 | none=>simp[hf] at hv
 | some cs=>
  simp only[hf] at hv
  cases hc:ym cs.length (n*s) with
  | false=>rw[hc] at hv;cases hv
  | true=>
   rw[hc] at hv;simp only[yq,yb,yj] at hv;obtain⟨rfl,rfl⟩:=hv;have hlen:=yf hc;obtain⟨zv,kW,rfl⟩:=FM (w:=w) hz;have Bu:az O.ab m S w (cellsOf (eN zv)) zv.cells.toList:=DA zv;have sL:=gR _ _ Bu;have rk:=Z7 tm ps _ _ hf;rw[M8] at rk;have G9:n*s=n*zv.cells.size:=by
    rw[<-hlen,rk,<-sL];simp
   have key:∃zr:Array yg,(n*s=0->zr=#[])/\(n*s≠0->zr=zv.cells)/\az O.ab m S w (yp n (cellsOf (eN zv))).flatten ((tJ (n*s)).map (fun x=>zr[x%zr.size]!)).toList:=by
    by_cases h0:n*s=0
    .refine ⟨#[],fun _=>rfl,fun h=>(h h0).elim,?_⟩
     have:(yp n (cellsOf (eN zv))).flatten=[]:=by
      apply yK;rw[M8,<-sL];simp only[vG]
      lia
     rw[this];simp[az,h0]
    .refine ⟨zv.cells,fun h=>(h0 h).elim,fun _=>rfl,?_⟩;rw[G9,Zf];exact Sh Bu n
   have⟨zr,sM,gL,sN⟩:=key;have⟨out,h1,h2⟩:=Nx hH ht (place:=fun i=>Ft (i*s,s)) parts.toList ps _ cs _ ja sN hf;have Br:=gR _ _ h2
   refine RJ (arr:=out) (t:=e) (us:=out.toList) hh ?_ h2 (fun j u hj=>by simpa using hj) (by rw[<-Br];simp) (fun _=>by rw[<-Br];simp) (fun h=>h) (u:=.slice (Ft ⟨w.heap.size,0,Fu⟩) n n) ?_
   .have kX:¬(n*s>2^24):=by lia
    by_cases h0:n*s=0
    .have:=sM h0
     subst this;simp only[h0] at h1;simp[execOp,ho,Instr.buildSlice,run_underlying hu,oO hs,h0,newRow] at h1 ⊢;simp[h1]
    .have:=gL h0
     subst this;simp[execOp,ho,Instr.buildSlice,run_underlying hu,oO hs,h0,kX,kW,newRow] at h1 ⊢;simp[h1]
   .intro m' hi;simp only[ae];refine⟨_,n,hi,by simp,yu _,?_⟩;simp only[yd];rw[<-hlen,<-Br];simp
def DB:∀{a b:List AV},aD a=ydh->aD b=ydh->aD (a++b)=ydh
 | [],_,_,h=>h
 | c::r,b,h,k=>by
  simp only[aD,ye] at h;simp only[yx,aD,ye];exact⟨h.1,DB h.2 k⟩
def Zg{z:List AV}(h:aD z=ydh):∀n,aD (yp n z).flatten=ydh
 | 0=>by simp[aD]
 | n+1=>by rw[wO,uB];exact DB h (Zg h n)
def amG{o:yT}{t e:yv}{s by':Nat}{z:AV}{l c:xr}(hH:eX O H)(ht:bO O m S w tm a.tmps)(hh:aR O m S w hp cq)(ho:o.op=.makeSlice t l c)(hu:O.P.underlying t=Ft (.slice e))(hs:bZ O.P e=Ft s)(hb:zZ O.P e=Ft by')(hz:my O.P e=Ft z)(hv:cB tm hp ct (.mH s by' (cellsOf z) (aK H l) (aK H c))=Ft (v,b)):Ek O m S w a ct o v b:=by
 simp only[cB] at hv
 cases hl:cy (ay tm (aK H l)) with
 | none=>simp[hl] at hv
 | some ln=>
  cases hc:cy (ay tm (aK H c)) with
  | none=>simp[hl,hc] at hv
  | some cn=>
   simp only[hl,hc] at hv
   cases hk:(yA ln cn&&(yA cn room&&(yA (cn*by') room&&(ym (cellsOf z).length s&&bS (cellsOf z))))) with
   | false=>rw[hk] at hv;cases hv
   | true=>
    rw[hk] at hv;simp only[yq,yb,yj] at hv;obtain⟨rfl,rfl⟩:=hv;simp only[ye] at hk;have h1:=yr hk.1;have h2:=yr hk.2.1;have h3:=yr hk.2.2.1;have h4:=yf hk.2.2.2.1;simp only[room] at h2 h3;have⟨kl,el⟩:=AI (bQ hH ht l) hl;have⟨kc,ec⟩:=AI (bQ hH ht c) hc;obtain⟨zv,kW,rfl⟩:=FM (w:=w) hz;have Bu:az O.ab m S w (cellsOf (eN zv)) zv.cells.toList:=DA zv;have sL:=gR _ _ Bu;have EV:zv.cells.size=s:=by rw[<-h4,<-sL];simp
    have wrapN:∀k:Nat,k<=1099511627776->IntKind.i64.wrap (k:Int)=k:=fun k hk=>IntWalk.i64_in _ (by lia)
    obtain⟨ti,sO,eC,Wl⟩:∃ti,O.P.info? e=Ft ti/\ti.size=s/\ti.bytes=by':=by
     unfold bZ at hs;unfold zZ at hb
     cases hi:O.P.info? e with
     | none=>simp[hi] at hs
     | some ti=>simp only[hi,yb] at hs hb;exact⟨ti,rfl,hs,hb⟩
    have Eu:((tJ (cn*s)).map (zv.cells[·%zv.cells.size]!)).toList=(yp ln zv.cells.toList).flatten++(yp (cn-ln) zv.cells.toList).flatten:=by
     rw[<-EV,Zf,<-ybc,List.replicate_append_replicate]
     grind
    have dH:(yp ln (cellsOf (eN zv))).flatten.length=ln*s:=by rw[M8,h4]
    have hmul:ln*s<=cn*s:=yU _ h1
    refine RJ (arr:=(tJ (cn*s)).map (zv.cells[·%zv.cells.size]!)) (t:=e) (us:=(yp ln zv.cells.toList).flatten) hh (u:=.slice (Ft ⟨w.heap.size,0,Fu⟩) ln cn) ?_
     (Sh Bu ln) ?_ ?_ ?_ (fun h=>?_) ?_
    .have aDM:by'*cn<=1099511627776:=by rw[xp];exact h3
     have sR:((by'*cn:Nat):Int)<=1099511627776:=by lia
     rw[Int.natCast_mul] at sR;have hlc:(ln:Int)<=(cn:Int):=by lia
     have g1:¬(281474976710656<(by':Int)*(cn:Int)):=by lia
     have g2:¬(((ln:Int)<0)):=by lia
     have g3:¬(((cn:Int)<0)):=by lia
     have g4:¬((ln:Int)>(cn:Int)):=by lia
     by_cases h0:cn*s=0
     .simp [execOp,ho,Instr.makeSlice,run_underlying hu,el,ec,asInt,asIntOf,typeInfo,sO,Wl,wrapN ln (by lia),wrapN cn h2,g1,g2,g3,g4,oO hs,h0,newRow,askRoom,roomBytes]
      grind
     .simp [execOp,ho,Instr.makeSlice,run_underlying hu,el,ec,asInt,asIntOf,typeInfo,sO,Wl,wrapN ln (by lia),wrapN cn h2,g1,g2,g3,g4,oO hs,h0,newRow,askRoom,roomBytes,kW]
    .intro j u hj
     have:((tJ (cn*s)).map (zv.cells[·%zv.cells.size]!)).toList[j]? =Ft u:=by
      grind
     grind
    .grind
    .simp_all
    .exact Zg h ln
    .intro m' hi;simp only[ae];refine⟨_,cn,hi,by simp,h1,?_⟩
     simp
def abo{o:yT}{k:Nat}(hH:eX O H)(ht:bO O m S w tm a.tmps)(hh:aR O m S w hp cq)(hv:cB tm hp ct (aP O.P H k o)=Ft (v,b)):Ek O m S w a ct o v b:=by
 cases ho:o.op with
 | call c=>
  have⟨callee,args,ts⟩:=c;simp only[aP,ho] at hv
  repeat' split at hv
  all_goals first
   | (simp[cB,bad] at hv;done)
   | (revert hv;generalize ym _ _=bb;intro hv;cases bb<;>simp[cB,bad] at hv)
 | alloc t=>
  simp only[aP,ho] at hv
  split at hv
  .rename_i s z hs hz;obtain⟨zv,kW,rfl⟩:=FM (w:=w) hz
   exact Z6 (x:=zv) (t:=t) hh (by simp[execOp,ho,Instr.alloc,kW,newVar,newRow]) (DA zv) (by simpa only[cB,ay] using hv)
  .simp [cB,bad] at hv
 | box t x=>
  simp only[aP,ho] at hv
  split at hv
  .rename_i s hs;simp only[cB] at hv
   cases hc:(ym (cellsOf (ay tm (aK H x))).length s&&bS (cellsOf (ay tm (aK H x)))) with
   | false=>rw[hc] at hv;cases hv
   | true=>
    have h1:=hc;simp only[ye] at h1
    exact Z6 (x:=a.eval x) (t:=t) hh (by simp[execOp,ho,Instr.box,newVar,newRow]) (RH (bQ hH ht x) h1.2) hv
  .simp [cB,bad] at hv
 | buildSlice t n parts=>
  simp only[aP,ho] at hv
  split at hv
  .rename_i e hu
   split at hv
   .rename_i s z hs hz
    cases hc:yA (n*s) 16777216 with
    | false=>rw[hc] at hv;simp[cB,bad] at hv
    | true=>
     rw[hc] at hv;simp only[yq] at hv
     split at hv
     .rename_i ps ja;exact akR hH ht hh ho hu hs hz (yr hc) ja hv
     .simp [cB,bad] at hv
   .simp [cB,bad] at hv
  .simp [cB,bad] at hv
 | makeSlice t l c=>
  simp only[aP,ho] at hv
  split at hv
  .rename_i e hu
   split at hv
   .rename_i s by' z hs hb hz
    exact amG hH ht hh ho hu hs hb hz hv
   .simp [cB,bad] at hv
  .simp [cB,bad] at hv
 | makeMap t r=>
  cases r with
  | some x=>simp[aP,ho,cB,bad] at hv
  | none=>
   simp only[aP,ho] at hv
   repeat' split at hv
   all_goals first
    | (simp[cB,bad] at hv;done)
    | (
      simp only[cB,yb,yj] at hv;obtain⟨rfl,rfl⟩:=hv
      exact amF hh ho rfl)
 | range t x=>
  simp only[aP,ho] at hv
  split at hv
  .rename_i hu;simp only[cB] at hv;have rx:=bQ hH ht x;cases hx:ay tm (aK H x)<;>rw[hx] at hv rx<;>simp only[reduceCtorEq] at hv
   simp only[yb,yj] at hv;obtain⟨rfl,rfl⟩:=hv;exact akP hh ho hu rx
  .simp [cB,bad] at hv
 | next x b=>cases b<;>simp[aP,ho,cB,bad] at hv
 | binOp op t x y ty=>
  cases op<;>simp only[aP,ho,nR,oU] at hv
  case eql=>
        repeat' split at hv
        all_goals first
         | (simp[cB,bad] at hv;done)
         | (cases hb:(O.P.stoodInHeld t||O.P.eqGuardType O.P.depth t)<;>rw[hb] at hv<;>simp[cB,bad] at hv)
  case neq=>
        repeat' split at hv
        all_goals first
         | (simp[cB,bad] at hv;done)
         | (cases hb:(O.P.stoodInHeld t||O.P.eqGuardType O.P.depth t)<;>rw[hb] at hv<;>simp[cB,bad] at hv)
  all_goals simp[cB] at hv
 | _=>
  simp only[aP,ho] at hv
  (repeat' split at hv)
  all_goals first
   | contradiction
   | (simp[cB,bad] at hv;done)
end
end
end
section
open Go
section
variable {hp an:Hp}{cs vs ej:List AV}
def zm{id i:Nat}{o:Obj}:ai (aU hp id o) i=if id=i then (if (ai hp id).isSome then Ft o else Fu) else ai hp i:=by
 induction hp with
 | nil=>simp[aU,ai]
 | cons x r ih=>
  have⟨j,q⟩:=x;simp only[aU];by_cases hj:j=id
  .subst hj;simp only[wV,yq,ai];by_cases hi:j=i
   .simp_all
   .have:ym j i=ydi:=by
     cases hq:ym j i with
     | false=>rfl
     | true=>exact absurd (yf hq) hi
    grind
  .have hb:ym j id=ydi:=by
    cases hq:ym j id with
    | false=>rfl
    | true=>exact absurd (yf hq) hj
   simp only[hb,yO];rw[show ai ((j,q)::aU r id o) i=bif ym j i then Ft q else ai (aU r id o) i from rfl,ih];by_cases hi:j=i
   .subst hi
    have:¬id=j:=fun h=>hj h.symm
    simp[wV,this,ai]
   .have sR:ym j i=ydi:=by
     cases hq:ym j i with
     | false=>rfl
     | true=>exact absurd (yf hq) hi
    simp[sR,ai,hb]
def kK(hp an:Hp):Prop:=∀id,(ai an id).isSome=(ai hp id).isSome
def kK.refl:kK hp hp:=fun _=>rfl
def kK.trans{a b c:Hp}(h:kK a b)(k:kK b c):kK a c:=fun id=>(k id).trans (h id)
def SV{id:Nat}{o o':Obj}(h:ai hp id=Ft o)(hl:jw o o'):cJ hp (aU hp id o')/\kK hp (aU hp id o'):=by
 constructor
 .intro i q hq;rw[zm];by_cases hi:id=i
  .grind
  .exact ⟨q,by simp[hi,hq],jw.refl q⟩
 .intro i;rw[zm]
  grind
def Zh{H:Hp}{id:Nat}{pu ex:Bool}{sz:Nat}(hl:cJ hp H)(h:ai hp id=Ft (.cells ydi pu ex sz cs)):ai H id=Ft (.cells ydi pu ex sz cs):=by
 obtain⟨o',h1,cx,rfl,h2⟩:=hl id _ h
 cases cx with
 | false=>exact h1
 | true=>exact absurd (h2 rfl) (by simp)
section
variable {O:bl}
def avD(O:bl)(m:Mp)(S:Nat->Prop)(w:yi)(p:Pl)(ex:Bool)(sz:Nat)(cs:List AV):Prop:=
 p.z=sz/\cs.length<=p.e/\(ex=ydh->cs.length=p.e)/\S p.b/\aD cs=ydh/\bL O.ab m S w cs p.b p.o
def UO(O:bl)(an:Hp)(v v':AV):Prop:=∀H m S w ct,cJ an H->aR O m S w H ct->(∀u,ae O.ab m S w v u->ae O.ab m S w v' u)/\aW v'=ydh
def aeK(O:bl)(an:Hp)(vs ej:List AV):Prop:=∀H m S w ct,cJ an H->aR O m S w H ct->(∀us,az O.ab m S w vs us->az O.ab m S w ej us)/\aD ej=ydh
def axt(O:bl)(an:Hp)(id:Nat)(ex:Bool)(sz:Nat)(cs:List AV):Prop:=∀H m S w ct,cJ an H->aR O m S w H ct->∀p,m id=Ft p->avD O m S w p ex sz cs
def FD{ab:Nat->Nat}{m:Mp}{S:Nat->Prop}{w:yi}{b:Nat}:∀(cs:List AV) (us:List yg) (o:Nat),az ab m S w cs us->
  (∀(j:Nat) (u:yg),us[j]? =Ft u->w.cell? ⟨b,o+j,Fu⟩=Ft u)->bL ab m S w cs b o
 | [],us,o,_,_=>by simp only[bL]
 | c::cs,us,o,h,hu=>by
  obtain⟨u,r,rfl,h2,h3⟩:=h;refine⟨⟨u,by simpa using hu 0 u (by simp),h2⟩,FD cs r (o+1) h3 (fun j v hv=>?_)⟩;rw[show o+1+j=o+(j+1) by lia]
  simp_all
def avE{m:Mp}{S:Nat->Prop}{w:yi}{df:List AV}(h:∀us,az O.ab m S w cs us->az O.ab m S w df us){b o:Nat}(hr:bL O.ab m S w cs b o):bL O.ab m S w df b o:=by
 have⟨us,h1,_,h3⟩:=zi cs b o hr;exact FD df us o (h us h1) h3
def BJ:∀(k:Nat) {cs:List AV},aD cs=ydh->aD (cs.take k)=ydh
 | 0,_,_=>by simp[aD]
 | k+1,[],_=>by simp[aD]
 | k+1,c::cs,h=>by
  simp only[aD,ye,wM] at h ⊢;exact⟨h.1,BJ k h.2⟩
def amH:∀{n:Nat} {hp:Hp},cu n hp vs=Ft (ej,an)->ej.length=vs.length:=by
 intro n
 induction n generalizing vs ej an with
 | zero=>intro hp h;simp[cu] at h
 | succ n ih=>
  intro hp h
  cases vs with
  | nil=>simp only[cu,yb,yj] at h;rw[<-h.1]
  | cons v r=>
   simp only[cu] at h
   cases h1:freeze n hp v with
   | none=>simp[h1] at h
   | some q=>
    have⟨v',aY⟩:=q;simp only[h1] at h
    cases h2:cu n aY r with
    | none=>simp[h2] at h
    | some q2=>
     grind
def Yx:∀n:Nat,
  (∀hp v v' an,freeze n hp v=Ft (v',an)->cJ hp an/\kK hp an/\UO O an v v')/\
  (∀hp id ex sz cs an,rP n hp id=Ft (ex,sz,cs,an)->cJ hp an/\kK hp an/\axt O an id ex sz cs)/\
  (∀hp vs ej an,cu n hp vs=Ft (ej,an)->cJ hp an/\kK hp an/\aeK O an vs ej):=by
 intro n
 induction n with
 | zero=>refine⟨?_,?_,?_⟩<;>intros<;>simp_all[freeze,rP,cu]
 | succ n ih=>
  have⟨ihV,ihB,Hb⟩:=ih;refine⟨?_,?_,?_⟩
  .intro hp v v' an h;have plain:∀{v v':AV} {hp an:Hp},(bif aW v then Ft (v,hp) else Fu)=Ft (v',an)->cJ hp an/\kK hp an/\UO O an v v':=by
    intro v v' hp an h
    cases hc:aW v with
    | false=>rw[hc] at h;cases h
    | true=>
     rw[hc] at h;simp only[yq,yb,yj] at h;obtain⟨rfl,rfl⟩:=h;exact⟨cJ.refl,kK.refl,fun _ _ _ _ _ _ _=>⟨fun _ h=>h,hc⟩⟩
   cases v<;>simp only[freeze] at h<;>first | exact plain h | skip
   case ap id o k=>
    cases hb:rP n hp id with
    | none=>simp[hb] at h
    | some q=>
     have⟨ex,sz,cs,aY⟩:=q;simp only[hb] at h
     cases hc:yA (o+k*sz) cs.length with
     | false=>rw[hc] at h;cases h
     | true=>
      rw[hc] at h;simp only[yq,yb,yj] at h;obtain⟨rfl,rfl⟩:=h;have hle:=yr hc;have⟨h1,h2,h3⟩:=ihB _ _ _ _ _ _ hb;refine⟨h1,h2,fun H m S w ct hl hh=>⟨fun u hu=>?_,by simp only[aW]⟩⟩;simp only[ae] at hu ⊢;obtain⟨p,c,hm,rfl,Bv,PW⟩:=hu;have⟨g1,g2,g3,g4,g5,g6⟩:=h3 H m S w ct hl hh p hm;refine .inl ⟨p.b,p.o+o,c,rfl,Bv,?_,.inr g4,BJ _ (Aw _ _ g5),Av _ _ _ _ (rO _ _ _ _ g6)⟩;intro hx;simp only[ye] at hx;have e1:=yf hx.2;have e2:0<sz:=by
       simp_all
      have e3:=g3 hx.1.1;rw[g1] at PW
      have:c*sz=k*sz:=by lia
      exact Nat.eq_of_mul_eq_mul_right e2 this
   case ptr id o=>
    cases hb:rP n hp id with
    | none=>simp[hb] at h
    | some q=>
     have⟨ex,sz,cs,aY⟩:=q;simp only[hb,yb,yj] at h;obtain⟨rfl,rfl⟩:=h;have⟨h1,h2,h3⟩:=ihB _ _ _ _ _ _ hb;refine⟨h1,h2,fun H m S w ct hl hh=>⟨fun u hu=>?_,by simp only[aW]⟩⟩;simp only[ae] at hu ⊢;obtain⟨p,hm,rfl⟩:=hu;have⟨g1,g2,g3,g4,g5,g6⟩:=h3 H m S w ct hl hh p hm;exact⟨p.b,p.o+o,rfl,.inr g4,Aw _ _ g5,rO _ _ _ _ g6⟩
   case map id=>
    cases hg:ai hp id with
    | none=>simp[hg] at h
    | some ob=>
     cases ob<;>simp only[hg,reduceCtorEq] at h
     rename_i rw ks vs
     cases hc:(aD ks&&aD vs) with
     | false=>rw[hc] at h;cases h
     | true=>
      rw[hc] at h;simp only[yq,yb,yj] at h;obtain⟨rfl,rfl⟩:=h;simp only[ye] at hc;have⟨h1,h2⟩:=SV hg (o':=.mp ydi ks vs) ⟨ydi,rfl,by simp⟩;refine⟨h1,h2,fun H m S w ct hl hh=>⟨fun u hu=>?_,by simp only[aW]⟩⟩;simp only[ae] at hu ⊢;obtain⟨p,hm,rfl⟩:=hu;have hq:ai (aU hp id (.mp ydi ks vs)) id=Ft (.mp ydi ks vs):=by rw[zm];simp[hg]
      obtain⟨o',h3,cx,rfl,h4⟩:=hl id _ hq;have oC:cx=ydi:=by cases cx with | false=>rfl | true=>exact absurd (h4 rfl) (by simp)
      subst oC;have⟨p',es,clock,g1,g2,g3,g4,g5,g6⟩:=hh.obj id _ _ h3 hm;rw[hm] at g1;injection g1 with g1
      subst g1;exact⟨p.b,es,clock,rfl,g6 rfl,hc.1,hc.2,g2,g3,g4⟩
   case fn f first cap=>
    cases f with
    | y l=>simp only[aW,yO,reduceCtorEq] at h
    | f g=>
     simp only at h
     cases h1:cu n hp first with
     | none=>simp[h1] at h
     | some q=>
      have⟨ack,aY⟩:=q;simp only[h1] at h
      cases h2:cu n aY cap with
      | none=>simp[h2] at h
      | some q2=>
       have⟨OI,kD⟩:=q2;simp only[h2,yb,yj] at h;obtain⟨rfl,rfl⟩:=h;have⟨a1,a2,a3⟩:=Hb _ _ _ _ h1;have⟨b1,b2,b3⟩:=Hb _ _ _ _ h2;refine⟨a1.trans b1,a2.trans b2,fun H m S w ct hl hh=>?_⟩;have⟨c1,c2⟩:=a3 H m S w ct (b1.trans hl) hh;have⟨d1,d2⟩:=b3 H m S w ct hl hh;refine⟨fun u hu=>?_,by simp[aW,c2,d2]⟩;simp only[ae] at hu ⊢;obtain⟨fi,ca,rfl,e1,e2⟩:=hu;exact⟨fi,ca,rfl,c1 _ e1,d1 _ e2⟩
   case agg cs=>
    cases h1:cu n hp cs with
    | none=>simp[h1] at h
    | some q=>
     have⟨df,aY⟩:=q;simp only[h1,yb,yj] at h;obtain⟨rfl,rfl⟩:=h;have⟨a1,a2,a3⟩:=Hb _ _ _ _ h1;refine⟨a1,a2,fun H m S w ct hl hh=>?_⟩;have⟨c1,c2⟩:=a3 H m S w ct hl hh;refine⟨fun u hu=>?_,by simpa[aW] using c2⟩;simp only[ae] at hu ⊢;obtain⟨xs,rfl,e1⟩:=hu;exact⟨xs,rfl,c1 _ e1⟩
   case ax cs=>
    cases h1:cu n hp cs with
    | none=>simp[h1] at h
    | some q=>
     have⟨df,aY⟩:=q;simp only[h1,yb,yj] at h;obtain⟨rfl,rfl⟩:=h;have⟨a1,a2,a3⟩:=Hb _ _ _ _ h1;refine⟨a1,a2,fun H m S w ct hl hh=>?_⟩;have⟨c1,c2⟩:=a3 H m S w ct hl hh;refine⟨fun u hu=>?_,by simpa[aW] using c2⟩;simp only[ae] at hu ⊢;obtain⟨xs,rfl,e1⟩:=hu;exact⟨xs,rfl,c1 _ e1⟩
  .intro hp id ex sz df an h;simp only[rP] at h
   cases hg:ai hp id with
   | none=>simp[hg] at h
   | some ob=>
    cases ob<;>simp only[hg,reduceCtorEq] at h
    rename_i rw pu z6 CW cs
    cases pu with
    | true=>
     simp only[yq,yb,yj] at h;obtain⟨rfl,rfl,rfl,rfl⟩:=h;have hq:cJ hp (bif rw then aU hp id (.cells ydi ydh z6 CW cs) else hp)/\kK hp (bif rw then aU hp id (.cells ydi ydh z6 CW cs) else hp)/\ai (bif rw then aU hp id (.cells ydi ydh z6 CW cs) else hp) id=Ft (.cells ydi ydh z6 CW cs):=by
      cases rw with
      | true=>
       have⟨h1,h2⟩:=SV hg (o':=.cells ydi ydh z6 CW cs) ⟨ydi,rfl,by simp⟩;exact⟨h1,h2,by simp[zm,hg]⟩
      | false=>exact⟨cJ.refl,kK.refl,hg⟩
     refine⟨hq.1,hq.2.1,fun H m S w ct hl hh p hm=>?_⟩;have⟨p',arr,t,g1,g2,g3,g4,g5,g6,g7,g8,g9,g10⟩:=hh.obj id _ _ (Zh hl hq.2.2) hm;rw[hm] at g1;injection g1 with g1
     subst g1;exact⟨g3,g4,g6,g10 rfl,g8 rfl,g7⟩
    | false=>
     simp only[yO] at h
     cases h1:cu n hp cs with
     | none=>simp[h1] at h
     | some q=>
      have⟨Ab,aY⟩:=q;simp only[h1,yb,yj] at h;obtain⟨rfl,rfl,rfl,rfl⟩:=h;have⟨a1,a2,a3⟩:=Hb _ _ _ _ h1;obtain⟨o1,kY,rw1,rfl,_⟩:=a1 id _ hg;have⟨b1,b2⟩:=SV kY (o':=.cells ydi ydi z6 CW cs) ⟨ydi,rfl,by simp⟩;refine⟨a1.trans b1,a2.trans b2,fun H m S w ct hl hh p hm=>?_⟩;have hq:ai (aU aY id (.cells ydi ydi z6 CW cs)) id=Ft (.cells ydi ydi z6 CW cs):=by simp[zm,kY]
      have⟨p',arr,t,g1,g2,g3,g4,g5,g6,g7,g8,g9,g10⟩:=hh.obj id _ _ (Zh hl hq) hm;rw[hm] at g1;injection g1 with g1
      subst g1;have⟨c1,c2⟩:=a3 H m S w ct (b1.trans hl) hh;have hlen:=amH h1
      exact⟨g3,by lia,fun hx=>by have:=g6 hx;lia,g10 rfl,c2,avE c1 g7⟩
  .intro hp vs ej an h
   cases vs with
   | nil=>
    simp only[cu,yb,yj] at h;obtain⟨rfl,rfl⟩:=h;exact⟨cJ.refl,kK.refl,fun _ _ _ _ _ _ _=>⟨fun _ h=>h,rfl⟩⟩
   | cons v r=>
    simp only[cu] at h
    cases h1:freeze n hp v with
    | none=>simp[h1] at h
    | some q=>
     have⟨v1,aY⟩:=q;simp only[h1] at h
     cases h2:cu n aY r with
     | none=>simp[h2] at h
     | some q2=>
      have⟨r1,kD⟩:=q2;simp only[h2,yb,yj] at h;obtain⟨rfl,rfl⟩:=h;have⟨a1,a2,a3⟩:=ihV _ _ _ _ h1;have⟨b1,b2,b3⟩:=Hb _ _ _ _ h2;refine⟨a1.trans b1,a2.trans b2,fun H m S w ct hl hh=>?_⟩;have⟨c1,c2⟩:=a3 H m S w ct (b1.trans hl) hh;have⟨d1,d2⟩:=b3 H m S w ct hl hh;refine⟨fun us hu=>?_,by simp[aD,c2,d2]⟩;simp only[az] at hu ⊢;obtain⟨u,t,rfl,e1,e2⟩:=hu;exact⟨u,t,rfl,c1 _ e1,d1 _ e2⟩
def Rh{n:Nat}(h:cu n hp vs=Ft (ej,an)):cJ hp an/\kK hp an/\aeK O an vs ej:=(Yx n).2.2 _ _ _ _ h
def RL{n:Nat}{v v':AV}(h:freeze n hp v=Ft (v',an)):cJ hp an/\kK hp an/\UO O an v v':=(Yx n).1 _ _ _ _ h
end
end
end
section
open Go
section
variable {v:AV}{an:Hp}{cs new:List AV}{aH o:Nat}
section
variable {O:bl}{H:Hint}{m:Mp}{S:Nat->Prop}{w:yi}{tm:Env}{a:Act}{hp:Hp}{ct:Nat}
structure One(w w':yi)(g:Nat):Prop where
 os:w'.os=w.os
 tape:w'.tape=w.tape
 output:w'.output=w.output
 size:w'.heap.size=w.heap.size
 other:∀b,b≠g->w'.heap[b]? =w.heap[b]?
def Ri(w:yi)(g:Nat)(cs:Array yg):One w (w.setRow g cs) g:=
 ⟨rfl,rfl,rfl,by simp,fun b hb=>setRow_other w g b cs hb⟩
def Jm{id:Nat}{o:Obj}{p:Pl}(h:ai hp id=Ft o)(hm:m id=Ft p):dV m hp p.b:=⟨id,o,p,h,hm,rfl⟩
def amI{id:Nat}{o':Obj}{b:Nat}(h:dV m (aU hp id o') b):dV m hp b:=by
 have⟨i,o,p,h1,h2,h3⟩:=h;rw[zm] at h1;by_cases hi:id=i
 .subst hi
  cases hq:ai hp id with
  | none=>simp[hq] at h1
  | some q=>exact⟨id,q,p,hq,h2,h3⟩
 .simp only [hi,xy] at h1;exact⟨i,o,p,h1,h2,h3⟩
def IZ(hh:aR O m S w hp ct){id:Nat}{o o':Obj}{p:Pl}{w':yi}(ho:ai hp id=Ft o)(hm:m id=Ft p)(hn:¬S p.b)(hw:One w w' p.b)(h':eY O m S w' id o')(hk:∀r:uV,w.heap[p.b]? =Ft (.loop r)->∃r':uV,w'.heap[p.b]? =Ft (.loop r')):
  aR O m S w' (aU hp id o') ct/\bU m S w hp m S w' (aU hp id o') ct:=by
 have aT:fR S w w':=fun b hb=>hw.other b (fun e=>hn (e▸hb))
 refine⟨⟨?_,hh.lt,?_,?_,?_,hh.low,?_,?_,fun i q hq=>(by
  rw[zm] at hq;by_cases hc:id=i
  .subst hc;exact hh.aM _ _ ho
  .simp only [hc,xy] at hq;exact hh.aM _ _ hq)⟩,⟨hw.os,hw.tape,hw.output,by rw[hw.size];exact yu _,?_,fun _ h=>h,fun b hb=>aT b hb,fun b hb=>.inl hb,fun b hb=>.inl (amI hb),fun _ _ _ h=>h,fun b r hb=>?_⟩⟩
 rotate_right
 .by_cases hc:b=p.b
  .subst hc;exact hk r hb
  .exact ⟨r,(hw.other b hc).trans hb⟩
 .intro i q pi hi bD;rw[zm] at hi;by_cases hc:id=i
  .subst hc;simp only[xQ,ho,Option.isSome_some] at hi;injection hi with hi
   subst hi;exact h'
  .simp only [hc,xy] at hi;refine zk (fun _ _ h=>h) (fun _ h=>h) aT (fun q' bG=>?_) (fun _ _ h=>h) (hh.obj i q pi hi bD);exact hw.other _ (fun e=>hc (hh.inj i id q o q' p hi ho bG hm e).symm)
 .intro i j oi oj pi pj hi hj bD gK e;have key:∀{i:Nat} {oi:Obj},ai (aU hp id o') i=Ft oi->∃Ln,ai hp i=Ft Ln:=by
   intro i oi hi;rw[zm] at hi;by_cases hc:id=i
   .subst hc;exact⟨o,ho⟩
   .simp only [hc,xy] at hi;exact⟨oi,hi⟩
  have⟨Ln,eD⟩:=key hi;have⟨Lm,Wk⟩:=key hj;exact hh.inj i j Ln Lm pi pj eD Wk bD gK e
 .intro b hb;rw[hw.size];exact hh.slt b hb
 .intro i q hq;rw[hw.size];exact hh.blt i q hq
 .intro b hb
  rw[hw.other b (fun e=>by have:=hh.low id p hm;lia)]
  exact hh.mB b hb
 .rw [hw.size];exact hh.fY
 .intro b _ hb;exact hw.other b (fun e=>hb (e▸Jm ho hm))
def AT(O:bl)(m:Mp)(S:Nat->Prop)(w:yi)(a:Act)(hp:Hp)(ct:Nat)(o:yT)(v:AV)(an:Hp)(aH:Nat):Prop:=
 ∃n u w' m' S',(execOp a.eval o).run O.P w=.ok n w'/\(n=.value u\/(n=.skip/\u=undef))/\aR O m' S' w' an aH/\ae O.ab m' S' w' v u/\cY m m'/\bU m S w hp m' S' w' an ct
def amJ{ab:Nat->Nat}{u:yg}(h:ae ab m S w v u)(ho:cL v=ydh):u.oneCell'=ydh:=by
 cases v with
 | fn f a b=>
  cases f with
  | f g=>simp only[ae] at h;obtain⟨_,_,rfl,_⟩:=h;rfl
  | y l=>simp only[ae] at h;obtain⟨_,_,rfl⟩:=h;rfl
 | int k n=>simp only[ae] at h;subst h;rfl
 | bool b=>simp only[ae] at h;subst h;rfl
 | ao k n=>simp only[ae] at h;subst h;rfl
 | cW k n i=>simp only[ae] at h;subst h;rfl
 | str s=>simp only[ae] at h;obtain⟨_,rfl,_⟩:=h;rfl
 | jY=>simp only[ae] at h;subst h;rfl
 | ptr i k=>simp only[ae] at h;obtain⟨_,_,rfl⟩:=h;rfl
 | bq cs=>simp only[ae] at h;obtain⟨_,_,rfl,_⟩:=h;rfl
 | af=>simp only[ae] at h;subst h;rfl
 | au e n cs=>simp only[ae] at h;rcases h with ⟨_,_,_,rfl,_⟩ | ⟨_,rfl,_,_⟩<;>rfl
 | cF _ _ _ _=>simp[cL] at ho
 | ap i k n=>simp only[ae] at h;obtain⟨_,_,_,rfl,_⟩:=h;rfl
 | gU=>simp only[ae] at h;subst h;rfl
 | jl=>simp only[ae] at h;subst h;rfl
 | map i=>simp only[ae] at h;obtain⟨_,_,rfl⟩:=h;rfl
 | jm ks vs=>simp only[ae] at h;obtain⟨_,_,_,rfl,_⟩:=h;rfl
 | it i=>simp only[ae] at h;obtain⟨_,_,rfl⟩:=h;rfl
 | agg cs=>simp[cL] at ho
 | ax cs=>simp[cL] at ho
 | undef=>simp[cL] at ho
def MS{ab:Nat->Nat}:∀{vs:List AV} {us:List yg},az ab m S w vs us->bS vs=ydh->∀u∈us,u.oneCell'=ydh
 | [],us,h,_,u,hu=>by simp only[az] at h;subst h;cases hu
 | v::r,us,h,ho,u,hu=>by
  obtain⟨u',t,rfl,h1,h2⟩:=h;simp only[bS,ye] at ho;rcases List.mem_cons.1 hu with rfl | hu
  .exact amJ h1 ho.1
  .exact MS h2 ho.2 u hu
def Z8{arr:Array yg}{t:yv}{p:Pl}{vs:List yg}{S':Nat->Prop}{m':Mp}(hb:w.heap[p.b]? =Ft (.cells arr t (0,0)))(hr:bL O.ab m S w cs p.b p.o)(hv:az O.ab m S w new vs)(hl:o+new.length<=cs.length)(hs:p.o+cs.length<=arr.size){w':yi}(hm:cY m m')(hS:∀b,S b->S' b)(aT:fR S w w')(hw:w'.heap[p.b]? =Ft (.cells (arr.toList.take (p.o+o)++vs++arr.toList.drop (p.o+o+vs.length)).toArray t (0,0))):bL O.ab m' S' w' (over o new cs) p.b p.o:=by
 have⟨us,h1,h2,h3⟩:=zi cs p.b p.o hr;have hvl:=gR _ _ hv;have h4:az O.ab m S w (over o new cs) (us.take o++vs++us.drop (o+new.length)):=mi (mi (FB o h1) hv) (IS _ h1);refine FD _ _ _ (ij hm hS aT _ _ h4) (fun j u hj=>?_);have El:∀k u,us[k]? =Ft u->arr[p.o+k]? =Ft u:=by
  intro k u hk
  have:=h3 k u hk
  simpa[World.cell?,hb] using this
 simp only[World.cell?,hw,tR,yC,xy];rw[yaS];have e1:(arr.toList.take (p.o+o)).length=p.o+o:=by rw[yQ,vG];lia
 have e2:(us.take o).length=o:=by rw[yQ];lia
 by_cases c1:j<o
 .have g1:(us.take o++vs++us.drop (o+new.length))[j]? =us[j]? :=by
   rw[xx,wK (by lia),tf c1]
  rw[g1] at hj;rw[xx,wK (by lia),tf (by lia)];simpa using El j u hj
 .by_cases c2:j<o+vs.length
  .have g1:(us.take o++vs++us.drop (o+new.length))[j]? =vs[j-o]? :=by
    rw[xx,wA (by lia),e2,wK (by lia)]
   rw[g1] at hj;rw[xx,wA (by lia),e1,wK (by lia),show p.o+j-(p.o+o)=j-o by lia];exact hj
  .have g1:(us.take o++vs++us.drop (o+new.length))[j]? =us[j]? :=by
    rw[xx,wA (by lia),e2,wA (by lia),ybm]
    congr 1
    lia
   rw[g1] at hj;rw[xx,wA (by lia),e1,wA (by lia),ybm,show p.o+o+vs.length+(p.o+j-(p.o+o)-vs.length)=p.o+j by lia];simpa using El j u hj
def M9(hl:o+new.length<=cs.length):(over o new cs).length=cs.length:=by
 simp only[over,yJ,yQ,wD];lia
def Yy(h:aD cs=ydh)(h':aD new=ydh):aD (over o new cs)=ydh:=
 DB (DB (BJ _ h) h') (Aw _ _ h)
def aoT{o:yT}{t:yv}{x y:xr}{sz:Nat}(hH:eX O H)(ht:bO O m S w tm a.tmps)(hh:aR O m S w hp ct)(ho:o.op=.store t x y)(hz:bZ O.P t=Ft sz)(hv:b8 tm hp ct (.st sz (aK H x) (aK H y))=Ft (v,an,aH)):AT O m S w a hp ct o v an aH:=by
 simp only[b8] at hv;have rx:=bQ hH ht x;cases hx:ay tm (aK H x)<;>rw[hx] at hv rx<;>simp only[reduceCtorEq] at hv
 rename_i id k;simp only[ae] at rx;have⟨p,hm,ex⟩:=rx
 split at hv
 case h_2=>cases hv
 rename_i pu PY z cs hg
 cases hc:(ym (cellsOf (ay tm (aK H y))).length sz&&yA (k+sz) cs.length&&bS (cellsOf (ay tm (aK H y)))) with
 | false=>rw[hc] at hv;cases hv
 | true=>
  rw[hc] at hv;simp only[yq,yb,yj] at hv;obtain⟨rfl,rfl,rfl⟩:=hv;simp only[ye] at hc;have c1:=yf hc.1.1;have c2:=yr hc.1.2;have ry:=RH (bQ hH ht y) hc.2;have hl:=gR _ _ ry;have⟨p',arr,t',g1,g2,g3,g4,g5,g6,g7,g8,g9,g10⟩:=hh.obj id _ _ hg hm;rw[hm] at g1;injection g1 with g1
  subst g1;have fM:=MS ry hc.2;have dM:=run_storeCells_at O.P p.b (p.o+k) t' (a.eval y).cells.toList 0 arr w g2 (by rw[hl];lia) fM
  simp only[yW] at dM;have avF:(a.eval y).cells.size=sz:=by simp_all
  have pP:eY O m S (w.setRow p.b (arr.toList.take (p.o+k)++(a.eval y).cells.toList++arr.toList.drop (p.o+k+(a.eval y).cells.toList.length)).toArray) id
    (.cells ydh (pu&&aD (cellsOf (ay tm (aK H y)))) PY z (over k (cellsOf (ay tm (aK H y))) cs)):=by
   refine⟨p,_,t',hm,setRow_heap w p.b arr _ t' _ g2,g3,by rw[M9 (by lia)];exact g4,?_,fun h=>by rw[M9 (by lia)];exact g6 h,?_,?_,fun _=>g9 rfl,by simp⟩
   .grind
   .exact Z8 g2 g7 ry (by lia) (by lia) cY.refl (fun _ h=>h) (fun b hb=>setRow_other w p.b b _ (fun e=>g9 rfl (e▸hb))) (setRow_heap w p.b arr _ t' _ g2)
   .intro h;simp only[ye] at h;exact Yy (g8 h.1) h.2
  have⟨e1,e2⟩:=IZ hh hg hm (g9 rfl) (Ri w p.b _) pP (fun r hr=>by rw[g2] at hr;cases hr);refine⟨.skip,undef,_,m,S,?_,.inr ⟨rfl,rfl⟩,e1,by simp[ae,az,undef],cY.refl,e2⟩;simp only[execOp,ho,Instr.storeAt,ex,Instr.sureAddr,Sem.run_bind,Sem.run_pure,Result.andThen_ok,storeVar,oO hz,avF,ne_eq,ydc,xy];simp[dM]
def Fy(w:yi)(g:Nat)(o:yar):One w {w with heap:=w.heap.setIfInBounds g o} g:=
 ⟨rfl,rfl,rfl,by simp,fun b hb=>by simp[Array.getElem?_setIfInBounds_ne (fun e=>hb e.symm)]⟩
def MA{g:Nat}{o q:yar}(h:w.heap[g]? =Ft q):({w with heap:=w.heap.setIfInBounds g o}:yi).heap[g]? =Ft o:=by grind
def Z9{o:yT}{t kt e:yv}{x k y:xr}{kk:Nat}(hH:eX O H)(ht:bO O m S w tm a.tmps)(hh:aR O m S w hp ct)(ho:o.op=.mapUpdate t x k y\/o.op=.insert t x k y)(hu:O.P.underlying t=Ft (.map kt e))(sK:VE.keyOf O.P kt=Ft kk)(hv:b8 tm hp ct (.qY kk (aK H x) (aK H k) (aK H y))=Ft (v,an,aH)):AT O m S w a hp ct o v an aH:=by
 simp only[b8] at hv;have rx:=bQ hH ht x;cases hx:ay tm (aK H x)<;>rw[hx] at hv rx<;>simp only[reduceCtorEq] at hv
 rename_i id;simp only[ae] at rx;obtain⟨p,hm,ex⟩:=rx
 split at hv
 case h_2=>cases hv
 rename_i ks vs hg
 cases hc:oT kk (ay tm (aK H k)) with
 | false=>simp[hc] at hv
 | true=>
  simp only[hc,Bool.not_true,yO] at hv
  cases aY:A2 (ay tm (aK H k)) (ay tm (aK H y)) ks vs with
  | none=>simp[aY] at hv
  | some q=>
   obtain⟨kT,ej⟩:=q;simp only[aY,yb,yj] at hv;obtain⟨rfl,rfl,rfl⟩:=hv;obtain⟨E,hE,hF⟩:=Yv (P:=O.P) sK hc (bQ hH ht k);obtain⟨p',es,clock,g1,g2,g3,g4,g5,g6⟩:=hh.obj id _ _ hg hm;rw[hm] at g1;injection g1 with g1
   subst g1;have axu:=abl hE (bQ hH ht k) (bQ hH ht y) ks vs es.toList 0 kT ej g3 g4 aY
   have fin:∀(EW:Array ve) (c':Nat),(Instr.mapUpdate t (a.eval x) (a.eval k) (a.eval y)).run O.P w=.ok () {w with heap:=w.heap.setIfInBounds p.b (.map EW c')}->
     az O.ab m S w kT (EW.toList.map (·.key))->az O.ab m S w ej (EW.toList.map (·.val))->AT O m S w a hp ct o (.ax []) (aU hp id (.mp ydh kT ej)) ct:=by
    intro EW c' dM h1 h2
    have aT:fR S w {w with heap:=w.heap.setIfInBounds p.b (.map EW c')}:=fun b hb=>(Fy w p.b _).other b (fun e=>g5 rfl (e▸hb))
    have pP:eY O m S {w with heap:=w.heap.setIfInBounds p.b (.map EW c')} id (.mp ydh kT ej):=
     ⟨p,EW,c',hm,MA g2,ij (fun _ _ h=>h) (fun _ h=>h) aT _ _ h1,ij (fun _ _ h=>h) (fun _ h=>h) aT _ _ h2,fun _=>g5 rfl,by simp⟩
    obtain⟨e1,e2⟩:=IZ hh hg hm (g5 rfl) (Fy w p.b _) pP (fun r hr=>by rw[g2] at hr;cases hr);refine⟨.skip,undef,_,m,S,?_,.inr ⟨rfl,rfl⟩,e1,by simp[ae,az,undef],cY.refl,e2⟩;rcases ho with ho | ho<;>simp[execOp,ho,dM]
   have fk:=X5 (P:=O.P) (w:=w) sK hc (bQ hH ht k) ydi;rcases axu with ⟨h1,h2,h3⟩ | ⟨j,e0,vc,vk0,h1,h2,⟨q1,q2,h3⟩,h4,h5⟩
   .refine fin (es.push ⟨a.eval k,a.eval y,clock⟩) (clock+1) ?_ (by simpa using h2) (by simpa using h3);rw[ex];simp[Instr.mapUpdate,run_underlying hu,MapKept.run_getObj_map g2,fk,hF _ _ h1,MapKept.run_setObj_map _ g2]
   .have hj:es[j]? =Ft e0:=by simpa using h2
    simp only[yd] at h1;obtain⟨aeL,hsb⟩:=amD q1 q2 h3
    refine fin (es.modify j fun e=>{e with key:=a.eval k,val:=a.eval y}) clock ?_ ?_ ?_
    .rw [ex];simp[Instr.mapUpdate,run_underlying hu,MapKept.run_getObj_map g2,fk,hF _ _ h1,MapKept.run_setObj_map _ g2,hj,Instr.keyThatStays,hsb,aeL.symm]
    .have:(es.modify j fun e=>{e with key:=a.eval k,val:=a.eval y}).toList.map (·.key)=es.toList.map (·.key):=by
      apply ybq;intro n;simp only[uW,tq,yaQ];by_cases hn:j=n
      .subst hn;simp[hj,aeL]
      .simp [hn]
     rw[this];exact h4
    .have:(es.modify j fun e=>{e with key:=a.eval k,val:=a.eval y}).toList.map (·.val)=(es.toList.map (·.val)).set j (a.eval y):=by
      apply ybq;intro n;simp only[uW,tq,yaQ,List.getElem?_set];by_cases hn:j=n
      .subst hn
       have:=(xt.1 hj).1
       simp[this]
      .simp [hn]
     rw[this];exact h5
def aoU(t:ByteArray)(i:Nat):(t.get! i).toNat=(t.data.toList.map xg).getD i 0:=by
 have:t.get! i=t.data[i]! :=by cases t;rfl
 rw[this];by_cases h:i<t.data.size
 .grind
 .simp only [Array.getElem!_eq_getD,Array.getD_eq_getD_getElem?,List.getD_eq_getElem?_getD,uW,tq];rw[Array.getElem?_eq_none (by lia)];rfl
def akS(t:ByteArray)(i:Nat):decodeL (t.data.toList.map xg) i=Utf8.decode t i:=by
 have eC:(t.data.toList.map xg).length=t.size:=by simp
 simp only[decodeL,Utf8.decode,aoU,eC]
def amK{o:yT}{x:xr}(hH:eX O H)(ht:bO O m S w tm a.tmps)(hh:aR O m S w hp ct)(ho:o.op=.next x ydh)(hv:b8 tm hp ct (.q8 (aK H x))=Ft (v,an,aH)):AT O m S w a hp ct o v an aH:=by
 simp only[b8] at hv;have rx:=bQ hH ht x;cases hx:ay tm (aK H x)<;>rw[hx] at hv rx<;>simp only[reduceCtorEq] at hv
 rename_i id;simp only[ae] at rx;have⟨p,hm,ex⟩:=rx
 split at hv
 case h_2=>cases hv
 rename_i s pos hg;have⟨p',t,g1,g2,g3,g4⟩:=hh.obj id _ _ hg hm;rw[hm] at g1;injection g1 with g1
 subst g1;have ai:(getObj p.b).run O.P w=.ok (.stringIter t pos) w:=by simp[getObj,Sem.run,g2]
 have hlen:s.length=t.size:=by rw[<-g3];simp
 cases hc:yI pos s.length with
 | false=>
  rw[hc] at hv;simp only[yO,yb,yj] at hv;obtain⟨rfl,rfl,rfl⟩:=hv;have aM:¬pos<t.size:=by
   intro h
   have:yI pos s.length=ydh:=by simp[yI];lia
   grind
  refine⟨.value (.tuple #[.bool ydi]),.tuple #[.bool ydi],w,m,S,?_,.inl rfl,hh,by simp[ae,az],cY.refl,bU.refl⟩;simp[execOp,ho,ex,Instr.next,ai,aM]
 | true=>
  rw[hc] at hv;simp only[yq] at hv;have aM:pos<t.size:=by
   simp_all
  cases hdc:decodeL s pos with | mk c wd=>
  rw[hdc] at hv;simp only[yb,yj] at hv;obtain⟨rfl,rfl,rfl⟩:=hv;have hd:Utf8.decode t pos=(c,wd):=by rw[<-akS,g3,hdc]
  have pP:eY O m S {w with heap:=w.heap.setIfInBounds p.b (.stringIter t (pos+wd))} id (.si s (pos+wd)):=⟨p,t,hm,MA g2,g3,g4⟩;have⟨e1,e2⟩:=IZ hh hg hm g4 (Fy w p.b _) pP (fun r hr=>by rw[g2] at hr;cases hr);refine⟨.value (.tuple #[.bool ydh,goInt pos,.int .i32 c]),_,_,m,S,?_,.inl rfl,e1,by simp[ae,az,goInt],cY.refl,e2⟩
  have aU:(setObj p.b (.stringIter t (pos+wd))).run O.P w=.ok () {w with heap:=w.heap.setIfInBounds p.b (.stringIter t (pos+wd))}:=by simp[setObj,Sem.run,g2]
  simp[execOp,ho,ex,Instr.next,ai,aM,hd,aU]
end
end
end
section
open Go
section
variable {cs:List AV}{n size:Nat}{P:xm}{x:yg}
def IT{hp:Hp}{id i:Nat}:ai (cC hp id) i=if id=i then Fu else ai hp i:=by
 induction hp with
 | nil=>simp[cC,ai]
 | cons x r ih=>
  have⟨j,q⟩:=x;simp only[cC];by_cases hj:j=id
  .subst hj;simp only[wV,yq,ih,ai];by_cases hi:j=i
   .grind
   .have:ym j i=ydi:=by
     cases hq:ym j i with
     | false=>rfl
     | true=>exact absurd (yf hq) hi
    grind
  .have hb:ym j id=ydi:=by
    cases hq:ym j id with
    | false=>rfl
    | true=>exact absurd (yf hq) hj
   simp only[hb,yO];rw[show ai ((j,q)::cC r id) i=bif ym j i then Ft q else ai (cC r id) i from rfl,ih];by_cases hi:j=i
   .subst hi
    have:¬id=j:=fun h=>hj h.symm
    simp[wV,this,ai]
   .have sR:ym j i=ydi:=by
     cases hq:ym j i with
     | false=>rfl
     | true=>exact absurd (yf hq) hi
    simp[sR,ai]
section
variable {O:bl}{H:Hint}{m:Mp}{S:Nat->Prop}{w:yi}{tm:Env}{a:Act}{hp:Hp}{ct:Nat}
def Src(P:xm)(w:yi)(size n:Nat)(news:List yg)(x:yg):Prop:=
 (∀w',(Builtin.lenOf x).run P w'=.ok n w')/\news.length=n*size/\
 ∀w',w'.heap=w.heap->∀k,k<=n->(Builtin.firstCells size k x).run P w'=.ok (news.take (k*size)).toArray w'
def FC{c:Nat}{b:uK}{news:List yg}(hl:news.length=n*size)(hc:∀j u,news[j]? =Ft u->w.cell? (b.add j)=Ft u):
  Src P w size n news (.slice (Ft b) n c):=by
 refine⟨fun w'=>by simp[Builtin.lenOf],hl,fun w' hw k hk=>?_⟩;have hle:k*size<=news.length:=by rw[hl];exact yU _ hk
 refine run_firstCells_some (P:=P) w' size k b n c (news.take (k*size)) (by rw[yQ];lia) (fun j v hv=>?_)
 rw[List.getElem?_take] at hv
 split at hv
 .have:=hc j v hv
  simpa[World.cell?,hw] using this
 .cases hv
def abp:Src P w size 0 [] (.slice Fu 0 0):=
 ⟨fun w'=>by simp[Builtin.lenOf],by simp,fun w' _ k hk=>by simp[Builtin.firstCells]⟩
def ajV(s:ByteArray)(k:Nat):(s.extract 0 k).data.map (fun b=>Value.int .u8 b.toNat)=((s.data.toList.map fun b=>Value.int .u8 (b.toNat:Int)).take k).toArray:=by
 have:(s.extract 0 k).data=s.data.extract 0 k:=by simp
 grind
def aoV{s:ByteArray}:Src P w 1 s.size (s.data.toList.map fun b=>Value.int .u8 (b.toNat:Int)) (.string s):=by
 refine⟨fun w'=>by simp[Builtin.lenOf],by simp,fun w' _ k hk=>?_⟩;simp only[Builtin.firstCells,Sem.run_pure,Nat.mul_one];rw[ajV]
def X6{ab:Nat->Nat}:∀l:List UInt8,az ab m S w (Ns (l.map xg)) (l.map fun b=>Value.int .u8 (b.toNat:Int))
 | []=>by simp[Ns,az]
 | b::r=>by
  exact⟨_,_,rfl,by simp[ae],X6 r⟩
def Yz{vx:AV}(hh:aR O m S w hp ct)(hx:ae O.ab m S w vx x)(h:mM hp size vx=Ft (n,cs)):
  ∃us,az O.ab m S w cs us/\Src O.P w size n us x:=by
 cases vx<;>simp only[mM,reduceCtorEq] at h
 case af=>
  obtain⟨rfl,rfl⟩:=h;subst hx;exact⟨[],by simp[az],abp⟩
 case au ex n' df=>
  cases hc:ym df.length (n'*size) with
  | false=>rw[hc] at h;cases h
  | true=>
   rw[hc] at h;obtain⟨rfl,rfl⟩:=h;have hl:=yf hc;rcases hx with ⟨b,o,c,rfl,h1,h2,h3,h4,h5⟩ | ⟨ad,rfl,rfl,rfl⟩
   .have ⟨us,g1,g2,g3⟩:=zi _ b o h5;exact⟨us,g1,FC (by lia) (fun j u hj=>by rw[nS];exact g3 j u hj)⟩
   .exact ⟨[],by simp[az],FC (by simp) (fun j u hj=>by simp at hj)⟩
 case ap id o n'=>
  cases hg:ai hp id with
  | none=>simp[hg] at h
  | some ob=>
   cases ob<;>simp only[hg,reduceCtorEq] at h
   rename_i rw pu ex z df
   cases hc:yA (o+n'*size) df.length with
   | false=>rw[hc] at h;cases h
   | true=>
    rw[hc] at h;simp only[yq,yb,yj] at h;obtain⟨rfl,rfl⟩:=h;have hl:=yr hc;obtain⟨p,c,hm,rfl,h1,h2⟩:=hx;have hr:=Sd (o:=0) (n:=0) hh hg hm;have Bw:=Av (n'*size) _ _ _ (rO o _ _ _ hr);have⟨us,g1,g2,g3⟩:=zi _ p.b (p.o+o) Bw;refine⟨us,g1,FC ?_ (fun j u hj=>by rw[nS];exact g3 j u hj)⟩
    grind
def Zi{vx:AV}(hh:aR O m S w hp ct)(hx:ae O.ab m S w vx x)(h:jh hp size vx=Ft (n,cs)):
  ∃us,az O.ab m S w cs us/\Src O.P w size n us x:=by
 cases vx<;>try exact Yz hh hx h
 simp only[jh] at h
 cases hc:ym size 1 with
 | false=>rw[hc] at h;cases h
 | true=>
  rw[hc] at h;obtain⟨rfl,rfl⟩:=h
  have:=yf hc
  subst this;obtain⟨t,rfl,rfl⟩:=hx;refine⟨_,X6 _,?_⟩
  have:(List.map xg t.data.toList).length=t.size:=by simp
  rw[this];exact aoV
def ajc{t u ty e:yv}{i:ydd}(ht:P.underlying t=Ft (.slice e))(hu:(∃e',P.underlying u=Ft (.slice e'))\/P.underlying u=Ft .string)(hi:P.info? e=Ft i){g o jq sh:Nat}{Lp:Array yg}{te:yv}(hg:w.heap[g]? =Ft (.cells Lp te (0,0))){news:List yg}(hs:Src P w i.size n news x)(h1:∀u∈news,u.oneCell'=ydh)(Gl:jq+n<=sh)(UP:o+jq*i.size+news.length<=Lp.size):
  (Builtin.append_ #[t,u] ty #[.slice (Ft ⟨g,o,Fu⟩) jq sh,x]).run P w=
   .ok (.slice (Ft ⟨g,o,Fu⟩) (jq+n) sh) (w.setRow g (Lp.toList.take (o+jq*i.size)++news++Lp.toList.drop (o+jq*i.size+news.length)).toArray):=by
 have⟨oA,sS,Wm⟩:=hs;have hf:=Wm w rfl n (yu _);rw[yG (by lia)] at hf;have aT:=run_storeCells_at P g (o+jq*i.size) te news 0 Lp w hg (by lia) h1;rcases hu with ⟨e',hd⟩ | hd<;>
  simp[Builtin.append_,run_underlying ht,run_underlying hd,vA,typeInfo,hi,oA,Gl,hf,nS,aT]
def Mn{t u ty e:yv}{i:ydd}{z:yg}(ht:P.underlying t=Ft (.slice e))(hu:(∃e',P.underlying u=Ft (.slice e'))\/P.underlying u=Ft .string)(hi:P.info? e=Ft i)(hz:i.zero=Ft z){s:yg}{base:Option uK}{jq sh:Nat}(es:s=.slice base jq sh){mC:List yg}(ho:Src P w i.size jq mC s){news:List yg}(hs:Src P w i.size n news x)(hg:sh<jq+n)(h63:jq+n<=1099511627776)(Wl:(jq+n)*i.bytes<=1099511627776):
  (Builtin.append_ #[t,u] ty #[s,x]).run P w=
   .ok (.slice (Ft ⟨w.heap.size,0,Fu⟩) (jq+n) (grownCap w (jq+n) sh e))
    (w.drew.alloc (.cells ((mC++news).toArray++Builtin.zeroCells z.cells (grownCap w (jq+n) sh e-(jq+n))) e)):=by
 have⟨oA,sS,Wm⟩:=hs;have⟨ho1,Wn,ho3⟩:=ho;have hf:=Wm w.drew rfl n (yu _);rw[yG (by lia)] at hf;have hfo:=ho3 w.drew rfl jq (yu _);have hn:¬(jq+n<=sh):=by lia
 have axv:¬(9223372036854775807<((jq:Int)+(n:Int))):=by lia
 have UP:=growslice_fits (need:=jq+n) (old:=sh) (bytes:=i.bytes) hg (by lia);have axw:¬(281474976710656<Builtin.nextslicecap (jq+n) sh*i.bytes):=by lia
 subst es;rcases hu with ⟨e',hd⟩ | hd
 all_goals
  simp[Builtin.append_,run_underlying ht,run_underlying hd,vA,typeInfo,zeroValue,hi,hz,oA,hn,axv,axw,Question.forced,hf,hfo,newRow,askRoom,grownCap]
  grind
def RM{e:yv}{z:yg}{sz need cap:Nat}{us:List yg}(hh:aR O m S w hp ct)(hr:az O.ab m S w cs us)(hl:us.length=need*sz)(hz:z.cells.size=sz)(Eh:Bool)(Wo:Eh=ydh->aD cs=ydh)(hc:need<=cap):
  let w':=w.drew.alloc (.cells (us.toArray++Builtin.zeroCells z.cells (cap-need)) e)
  let p:Pl:=⟨w.heap.size,0,cap*sz,sz⟩
  ∀m',cY m m'->m' ct=Ft p->eY O m' S w' ct (.cells ydh Eh ydi sz cs):=by
 intro w' p m' hm hi;have aT:fR S w w':=fun b hb=>by
  have:=hh.slt b hb
  exact RowKit.Below.heap_alloc w.drew _ b (by simpa using this)
 have iD:w'.heap[w.heap.size]? =Ft (.cells (us.toArray++Builtin.zeroCells z.cells (cap-need)) e (0,0)):=heap_alloc_new w.drew _;have dH:=gR _ _ hr;refine⟨p,_,e,hi,iD,rfl,?_,?_,by simp,?_,Wo,?_,by simp⟩
 .show cs.length<=cap*sz
  rw[<-dH,hl];exact yU _ hc
 .show 0+cap*sz<=_
  rw[Array.size_append,tr,size_zeroCells,hz,hl,<-xP]
  grind
 .refine MR iD cs us 0 (ij hm (fun _ h=>h) aT _ _ hr) (fun j u hj=>?_)
  grind
 .intro _ hS
  have:=hh.slt _ hS
  grind
def aiX(hh:aR O m S w hp ct)(g:yar):fR S w (w.drew.alloc g):=fun b hb=>by
 have:=hh.slt b hb
 exact RowKit.Below.heap_alloc w.drew _ b (by simpa using this)
def RN(hh:aR O m S w hp ct){hp0:Hp}{g:yar}{p:Pl}{o:Obj}(OJ:∀i q,ai hp0 i=Ft q->ai hp i=Ft q)(hb:p.b=w.heap.size)(ho:∀m',cY m m'->m' ct=Ft p->eY O m' S (w.drew.alloc g) ct o):
  aR O (fy m ct p) S (w.drew.alloc g) ((ct,o)::hp0) (ct+1)/\bU m S w hp (fy m ct p) S (w.drew.alloc g) ((ct,o)::hp0) ct:=by
 have hn:m ct=Fu:=by
  cases h:m ct with
  | none=>rfl
  | some q=>have:=hh.lt _ _ h;lia
 have hle:=jD hn (p:=p);have aT:=aiX hh g;have hold:∀b,b<w.heap.size->(w.drew.alloc g).heap[b]? =w.heap[b]? :=fun b hb=>RowKit.Below.heap_alloc w.drew _ b (by simpa using hb)
 have eC:(w.drew.alloc g).heap.size=w.heap.size+1:=by simp
 have cN:∀i q,ai ((ct,o)::hp0) i=Ft q->i≠ct->ai hp i=Ft q:=fun i q h hi=>by
  rw[fo,yz (fun e=>hi e.symm)] at h
  grind
 refine⟨⟨?_,?_,?_,?_,?_,?_,?_,?_,fun i q hq=>(by
  by_cases hc:i=ct
  .lia
  .have:=hh.aM _ _ (cN i q hq hc);lia)⟩,⟨rfl,rfl,rfl,by lia,?_,fun _ h=>h,fun b hb=>aT b hb,fun b hb=>.inl hb,?_,fun i q _ h=>hle i q h,fun b r hb=>⟨r,(hold b (xt.1 hb).1).trans hb⟩⟩⟩
 .intro i q pi hi bD;by_cases hc:i=ct
  .subst hc;rw[fo] at hi;simp only[xQ,yb] at hi;subst hi;exact ho _ hle du
  .rw [dY hc] at bD;exact zk hle (fun _ h=>h) aT (fun q' bG=>hold _ (hh.blt i q' bG)) (fun _ _ h=>h) (hh.obj i q pi (cN i q hi hc) bD)
 .intro i q bD;by_cases hc:i=ct
  .lia
  .rw [dY hc] at bD;have:=hh.lt i q bD;lia
 .intro i j oi oj pi pj hi hj bD gK e;by_cases ci:i=ct
  .by_cases cj:j=ct
   .grind
   .subst ci;rw[du] at bD;rw[dY cj] at gK;injection bD with bD
    subst bD
    have:=hh.blt j pj gK
    lia
  .rw [dY ci] at bD;by_cases cj:j=ct
   .subst cj;rw[du] at gK;injection gK with gK
    subst gK
    have:=hh.blt i pi bD
    lia
   .rw [dY cj] at gK;exact hh.inj i j oi oj pi pj (cN i oi hi ci) (cN j oj hj cj) bD gK e
 .intro b hb;have:=hh.slt b hb;lia
 .intro i q bD;by_cases hc:i=ct
  .subst hc;rw[du] at bD;injection bD with bD
   subst bD
   lia
  .rw [dY hc] at bD;have:=hh.blt i q bD;lia
 .intro i q bD;have h0:=hh.fY;by_cases hc:i=ct
  .subst hc;rw[du] at bD;injection bD with bD
   subst bD
   lia
  .rw [dY hc] at bD;exact hh.low i q bD
 .intro b hb;have h0:=hh.fY;exact (hold b (by lia)).trans (hh.mB b hb)
 .have h0:=hh.fY;lia
 .intro b hb _;exact hold b hb
 .rintro b ⟨i,q,pi,h1,h2,h3⟩;by_cases hc:i=ct
  .subst hc;rw[du] at h2;injection h2 with h2
   subst h2;exact .inr (by lia)
  .rw [dY hc] at h2;exact .inl ⟨i,q,pi,cN i q h1 hc,h2,h3⟩
def akT(hh:aR O m S w hp ct){id:Nat}{o o':Obj}{p p':Pl}{w':yi}(hg:ai hp id=Ft o)(hm:m id=Ft p)(hn:¬S p.b)(hw:One w w' p.b)(hk:∀r:uV,w.heap[p.b]? =Ft (.loop r)->∃r':uV,w'.heap[p.b]? =Ft (.loop r'))(hb:p'.b=p.b)(ho:∀m',cY m m'->m' ct=Ft p'->eY O m' S w' ct o'):
  aR O (fy m ct p') S w' ((ct,o')::cC hp id) (ct+1)/\bU m S w hp (fy m ct p') S w' ((ct,o')::cC hp id) ct:=by
 have kX:m ct=Fu:=by
  cases h:m ct with
  | none=>rfl
  | some q=>have:=hh.lt _ _ h;lia
 have hle:=jD kX (p:=p');have aT:fR S w w':=fun b hb=>hw.other b (fun e=>hn (e▸hb))
 have cN:∀i q,ai ((ct,o')::cC hp id) i=Ft q->i≠ct->ai hp i=Ft q/\i≠id:=fun i q h hi=>by
  rw[fo,yz (fun e=>hi e.symm),IT] at h
  grind
 have aeM:∀i q pi,ai hp i=Ft q->i≠id->m i=Ft pi->pi.b≠p.b:=fun i q pi h hi bD e=>hi (hh.inj i id q o pi p h hg bD hm e)
 refine⟨⟨?_,?_,?_,?_,?_,?_,?_,?_,fun i q hq=>(by
  by_cases hc:i=ct
  .lia
  .have:=hh.aM _ _ (cN i q hq hc).1;lia)⟩,⟨hw.os,hw.tape,hw.output,by rw[hw.size];exact yu _,?_,fun _ h=>h,fun b hb=>aT b hb,fun b hb=>.inl hb,?_,fun i q _ h=>hle i q h,fun b r hb=>(by
  by_cases hc:b=p.b
  .grind
  .exact ⟨r,(hw.other b hc).trans hb⟩)⟩⟩
 .intro i q pi hi bD;by_cases hc:i=ct
  .subst hc;rw[fo] at hi;simp only[xQ,yb] at hi;subst hi;exact ho _ hle du
  .rw [dY hc] at bD;have⟨h1,h2⟩:=cN i q hi hc;exact zk hle (fun _ h=>h) aT (fun q' bG=>hw.other _ (aeM i q q' h1 h2 bG)) (fun _ _ h=>h) (hh.obj i q pi h1 bD)
 .intro i q bD;by_cases hc:i=ct
  .lia
  .rw [dY hc] at bD;have:=hh.lt i q bD;lia
 .intro i j oi oj pi pj hi hj bD gK e;by_cases ci:i=ct
  .by_cases cj:j=ct
   .grind
   .subst ci;rw[du] at bD;rw[dY cj] at gK
    grind
  .rw [dY ci] at bD;have⟨h1,h2⟩:=cN i oi hi ci;by_cases cj:j=ct
   .subst cj;rw[du] at gK;injection gK with gK
    subst gK;exact (aeM i oi pi h1 h2 bD (by rw[e,hb])).elim
   .rw [dY cj] at gK;exact hh.inj i j oi oj pi pj h1 (cN j oj hj cj).1 bD gK e
 .intro b hb;rw[hw.size];exact hh.slt b hb
 .intro i q bD;rw[hw.size];by_cases hc:i=ct
  .subst hc;rw[du] at bD;injection bD with bD
   subst bD;rw[hb];exact hh.blt id p hm
  .rw [dY hc] at bD;exact hh.blt i q bD
 .intro i q bD;by_cases hc:i=ct
  .subst hc;rw[du] at bD;injection bD with bD
   subst bD;rw[hb];exact hh.low id p hm
  .rw [dY hc] at bD;exact hh.low i q bD
 .intro b hb
  rw[hw.other b (fun e=>by have:=hh.low id p hm;lia)]
  exact hh.mB b hb
 .rw [hw.size];exact hh.fY
 .intro b _ bH;exact hw.other b (fun e=>bH (e▸Jm hg hm))
 .rintro b ⟨i,q,pi,h1,h2,h3⟩;by_cases hc:i=ct
  .subst hc;rw[du] at h2;injection h2 with h2
   subst h2;exact .inl ⟨id,o,p,hg,hm,by rw[<-h3,hb]⟩
  .rw [dY hc] at h2;exact .inl ⟨i,q,pi,(cN i q h1 hc).1,h2,h3⟩
def abq{e:yv}{s by':Nat}{z:AV}(hs:bZ P e=Ft s)(hb:zZ P e=Ft by')(hz:my P e=Ft z):
  ∃ti zv,P.info? e=Ft ti/\ti.size=s/\ti.bytes=by'/\ti.zero=Ft zv/\z=eN zv:=by
 unfold bZ at hs;unfold zZ at hb;unfold my at hz
 cases hi:P.info? e with
 | none=>simp[hi] at hs
 | some ti=>
  simp only[hi,yb] at hs hb hz
  cases eK:ti.zero with
  | none=>simp[eK] at hz
  | some zv=>
   grind
def I0{o:yT}{v:AV}{u:yg}{w':yi}{m':Mp}{S':Nat->Prop}{an:Hp}{aH:Nat}(h1:(execOp a.eval o).run O.P w=.ok (.value u) w')(h2:aR O m' S' w' an aH)(h3:ae O.ab m' S' w' v u)(h4:cY m m')(h5:bU m S w hp m' S' w' an ct):AT O m S w a hp ct o v an aH:=⟨_,u,w',m',S',h1,.inl rfl,h2,h3,h4,h5⟩
def amL{o:yT}{b':yv}{t u e:yv}{sz by':Nat}{z:AV}{x y:xr}{v:AV}{an:Hp}{aH:Nat}(hH:eX O H)(ht:bO O m S w tm a.tmps)(hh:aR O m S w hp ct)(dM:(execOp a.eval o).run O.P w=((do pure (.value (<-Builtin.append_ #[t,u] b' #[a.eval x,a.eval y])):Sem yaP)).run O.P w)(Ad:O.P.underlying t=Ft (.slice e))(hu:(∃e',O.P.underlying u=Ft (.slice e'))\/O.P.underlying u=Ft .string)(hs:bZ O.P e=Ft sz)(hb:zZ O.P e=Ft by')(hz:my O.P e=Ft z)(sL:(cellsOf z).length=sz)(hv:b8 tm hp ct (.cQ sz by' (aK H x) (aK H y))=Ft (v,an,aH)):AT O m S w a hp ct o v an aH:=by
 simp only[b8] at hv;obtain⟨ti,zv,sO,rfl,rfl,Lq,rfl⟩:=abq hs hb hz;have aO:∀u' w',(Builtin.append_ #[t,u] b' #[a.eval x,a.eval y]).run O.P w=.ok u' w'->(execOp a.eval o).run O.P w=.ok (.value u') w':=fun u' w' h=>by
  rw[dM,Sem.run_bind,h];rfl
 have zH:m ct=Fu:=by
  cases h:m ct with
  | none=>rfl
  | some q=>have:=hh.lt _ _ h;lia
 have EV:zv.cells.size=ti.size:=by
  have:=gR _ _ (DA (ab:=O.ab) (m:=m) (S:=S) (w:=w) zv)
  rw[<-sL,<-this];simp
 cases lP:jh hp ti.size (ay tm (aK H y)) with
 | none=>simp[lP] at hv
 | some q=>
  have⟨n,new⟩:=q;simp only[lP] at hv;have⟨news,mK,dK⟩:=Zi hh (bQ hH ht y) lP;have Lr:=gR _ _ mK;have rx:=bQ hH ht x
  cases hx:ay tm (aK H x) with
  | af=>
   rw[hx] at hv rx;simp only at hv;simp only[ae] at rx
   cases h0:ym n 0 with
   | true=>
    rw[h0] at hv;simp only[yq,yb,yj] at hv;obtain⟨rfl,rfl,rfl⟩:=hv;have pQ:=yf h0;subst pQ;have Uf:news=[]:=yK (by rw[dK.2.1];simp)
    subst Uf;have hf:=dK.2.2 w rfl 0 (yu _);have kV:=dK.1 w;refine⟨.value (.slice Fu 0 0),.slice Fu 0 0,w,m,S,?_,.inl rfl,hh,by simp[ae],cY.refl,bU.refl⟩;rw[dM,rx];rcases hu with ⟨e',hu⟩ | hu<;>
     simp[Builtin.append_,run_underlying Ad,run_underlying hu,vA,typeInfo,sO,kV,hf]
   | false=>
    rw[h0] at hv;simp only[yO] at hv
    cases hc:(yA n room&&(yA (n*ti.bytes) room&&yI 0 ti.size)) with
    | false=>rw[hc] at hv;cases hv
    | true=>
     rw[hc] at hv;simp only[yq,yb,yj] at hv;obtain⟨rfl,rfl,rfl⟩:=hv;simp only[ye] at hc;have c1:=yr hc.1;have c2:=yr hc.2.1;simp only[room] at c1 c2;have pQ:0<n:=by
      rcases xq n with h | h
      .subst h;simp at h0
      .exact h
     have hr:=Mn (P:=O.P) (ty:=b') (w:=w) Ad hu sO Lq (s:=.slice Fu 0 0) rfl (abp (P:=O.P) (size:=ti.size)) dK (by lia) (by lia) (by simpa using c2);simp only[yd,List.nil_append] at hr;have kF:=grownCap_ge w n 0 e;have iD:=RM (e:=e) (z:=zv) (cap:=grownCap w n 0 e) hh mK (need:=n) (sz:=ti.size) dK.2.1 EV (aD new) (fun h=>h) kF;have⟨k1,k2⟩:=RN hh (hp0:=hp) (p:=⟨w.heap.size,0,grownCap w n 0 e*ti.size,ti.size⟩) (fun _ _ h=>h) rfl iD;exact I0 (aO _ _ (by rw[rx];exact hr)) k1 (by simp only[ae];exact⟨_,_,du,rfl,kF,by simp⟩) (jD zH) k2
  | au ex k cs=>
   rw[hx] at hv rx
   cases ex with
   | false=>simp at hv
   | true=>
    simp only at hv;have rx0:=rx;simp only[ae] at rx;have rx1:∃ad mC,a.eval x=.slice (Ft ad) k k/\az O.ab m S w cs mC/\mC.length=cs.length/\(∀(j:Nat) (u:yg),mC[j]? =Ft u->w.cell? (ad.add j)=Ft u)/\aD cs=ydh:=by
     rcases rx with ⟨bb,oo,c,ex,h1,h2,h3,h4,h5⟩ | ⟨ad,ex,rfl,rfl⟩
     .have fk:c=k:=h2 (by trivial);subst fk;have⟨mC,g1,g2,g3⟩:=zi cs bb oo h5;exact⟨_,mC,ex,g1,g2,fun j u hj=>by rw[nS];exact g3 j u hj,h4⟩
     .exact ⟨ad,[],ex,by simp[az],rfl,fun j u hj=>by simp at hj,rfl⟩
    have⟨ad,mC,ex,g1,g2,g3,h4⟩:=rx1
    cases h0:ym n 0 with
    | true=>
     rw[h0] at hv;simp only[yq,yb,yj] at hv;obtain⟨rfl,rfl,rfl⟩:=hv;have pQ:=yf h0;subst pQ;have Uf:news=[]:=yK (by rw[dK.2.1];simp)
     subst Uf;have hf:=dK.2.2 w rfl 0 (yu _);have kV:=dK.1 w;refine⟨.value (a.eval x),a.eval x,w,m,S,?_,.inl rfl,hh,rx0,cY.refl,bU.refl⟩;rw[dM,ex];rcases hu with ⟨e',hu⟩ | hu<;>
      simp[Builtin.append_,run_underlying Ad,run_underlying hu,vA,typeInfo,sO,kV,hf,storeCells]
    | false=>
     rw[h0] at hv;simp only[yO] at hv
     cases hc:(yA (k+n) room&&(yA ((k+n)*ti.bytes) room&&(ym cs.length (k*ti.size)&&yI 0 ti.size))) with
     | false=>rw[hc] at hv;cases hv
     | true=>
      rw[hc] at hv;simp only[yq,yb,yj] at hv;obtain⟨rfl,rfl,rfl⟩:=hv;simp only[ye] at hc;have c1:=yr hc.1;have c2:=yr hc.2.1;have c3:=yf hc.2.2.1;simp only[room] at c1 c2;have pQ:0<n:=by
       rcases xq n with h | h
       .subst h;simp at h0
       .exact h
      have Ls:Src O.P w ti.size k mC (.slice (Ft ad) k k):=FC (by lia) g3;have hr:=Mn (P:=O.P) (ty:=b') (w:=w) Ad hu sO Lq rfl Ls dK (by lia) c1 c2;have kF:=grownCap_ge w (k+n) k e;have iD:=RM (e:=e) (z:=zv) (cap:=grownCap w (k+n) k e) hh (mi g1 mK) (need:=k+n) (sz:=ti.size) (by rw[yJ,g2,c3,dK.2.1,xP]) EV (aD cs&&aD new)
       (fun h=>by simp only[ye] at h;exact DB h.1 h.2) kF
      have⟨k1,k2⟩:=RN hh (hp0:=hp) (p:=⟨w.heap.size,0,grownCap w (k+n) k e*ti.size,ti.size⟩) (fun _ _ h=>h) rfl iD;exact I0 (aO _ _ (by rw[ex];exact hr)) k1 (by simp only[ae];exact⟨_,_,du,rfl,kF,by simp⟩) (jD zH) k2
  | ap id o0 k=>
   rw[hx] at hv rx;simp only at hv;simp only[ae] at rx;have⟨p,c,hm,ex,h1,h2⟩:=rx
   split at hv
   case h_2=>cases hv
   rename_i pu PY zz cs hg
   cases hc:(ym zz ti.size&&(yA (k+n) room&&(yA ((k+n)*ti.bytes) room&&(yA (o0+k*ti.size) cs.length&&(yI 0 ti.size&&bS new))))) with
   | false=>rw[hc] at hv;cases hv
   | true=>
    rw[hc] at hv;simp only[yq,yb,yj] at hv;obtain⟨rfl,rfl,rfl⟩:=hv;simp only[ye] at hc;have c0:=yf hc.1;have c1:=yr hc.2.1;have c2:=yr hc.2.2.1;have c3:=yr hc.2.2.2.1;have c4:=hc.2.2.2.2.2;simp only[room] at c1 c2;have⟨p',arr,t',g1,g2,g3,g4,g5,g6,g7,g8,g9,g10⟩:=hh.obj id _ _ hg hm;rw[hm] at g1;injection g1 with g1
    subst g1;subst c0;rw[g3] at h2;have CX:bL O.ab m S w (slice o0 (k*ti.size) cs) p.b (p.o+o0):=Av _ _ _ _ (rO _ _ _ _ g7);have⟨mC,f1,f2,f3⟩:=zi _ _ _ CX;have OK:(slice o0 (k*ti.size) cs).length=k*ti.size:=by simp only[slice,yQ,wD];lia
    have ns:(pu&&aD new)=ydh->aD (slice o0 (k*ti.size) cs++new)=ydh:=fun h=>by
     simp only[ye] at h;exact DB (BJ _ (Aw _ _ (g8 h.1))) h.2
    by_cases Gl:k+n<=c
    .have fM:=MS mK c4;have UP:p.o+o0+k*ti.size+news.length<=arr.size:=by
      rw[dK.2.1]
      have:(k+n)*ti.size<=c*ti.size:=yU _ Gl
      rw[xP] at this
      lia
     have hr:=ajc (P:=O.P) (ty:=b') (w:=w) Ad hu sO g2 dK fM Gl UP;have ho:∀m',cY m m'->m' ct=Ft ⟨p.b,p.o+o0,c*ti.size,ti.size⟩->
       eY O m' S (w.setRow p.b (arr.toList.take (p.o+o0+k*ti.size)++news++arr.toList.drop (p.o+o0+k*ti.size+news.length)).toArray) ct
        (.cells ydh (pu&&aD new) ydi ti.size (slice o0 (k*ti.size) cs++new)):=by
      intro m' hle hi;have aT:fR S w (w.setRow p.b (arr.toList.take (p.o+o0+k*ti.size)++news++arr.toList.drop (p.o+o0+k*ti.size+news.length)).toArray):=fun b hb=>setRow_other w p.b b _ (fun e=>g9 rfl (e▸hb))
      refine⟨_,_,t',hi,setRow_heap w p.b arr _ t' _ g2,rfl,?_,?_,by simp,?_,ns,fun _=>g9 rfl,by simp⟩
      .show (slice o0 (k*ti.size) cs++new).length<=c*ti.size
       rw[yJ,OK,<-Lr,dK.2.1,<-xP];exact yU _ Gl
      .show p.o+o0+c*ti.size<=_
       rw[tr,yJ,yJ,yQ,wD,vG]
       lia
      .refine FD _ (mC++news) _ (mi (ij hle (fun _ h=>h) aT _ _ f1) (ij hle (fun _ h=>h) aT _ _ mK)) (fun j u hj=>?_);show World.cell? _ ⟨p.b,p.o+o0+j,Fu⟩=Ft u
       simp only[World.cell?,setRow_heap w p.b arr _ t' _ g2,tR,yC,xy];rw[yaS];have e1:(arr.toList.take (p.o+o0+k*ti.size)).length=p.o+o0+k*ti.size:=by rw[yQ,vG];lia
       by_cases PX:j<k*ti.size
       .rw [wK (by lia)] at hj;rw[xx,wK (by lia),tf (by lia)]
        have:=f3 j u hj
        simpa[World.cell?,g2] using this
       .rw [wA (by lia)] at hj;have hjl:=(List.getElem?_eq_some_iff.1 hj).1;rw[xx,wA (by lia),e1,wK (by lia),show p.o+o0+j-(p.o+o0+k*ti.size)=j-mC.length by lia];exact hj
     have⟨k1,k2⟩:=akT (p':=⟨p.b,p.o+o0,c*ti.size,ti.size⟩) hh hg hm (g9 rfl) (Ri w p.b _) (fun r hr=>by rw[g2] at hr;cases hr) rfl ho;exact I0 (aO _ _ (by rw[ex];exact hr)) k1 (by simp only[ae];exact⟨_,c,du,rfl,Gl,by simp⟩) (jD zH) k2
    .have Ls:Src O.P w ti.size k mC (.slice (Ft ⟨p.b,p.o+o0,Fu⟩) k c):=FC (by lia) (fun j u hj=>by rw[nS];exact f3 j u hj)
     have hr:=Mn (P:=O.P) (ty:=b') (w:=w) Ad hu sO Lq rfl Ls dK (by lia) c1 c2;have kF:=grownCap_ge w (k+n) c e;have iD:=RM (e:=e) (z:=zv) (cap:=grownCap w (k+n) c e) hh (mi f1 mK) (need:=k+n) (sz:=ti.size) (by rw[yJ,f2,OK,dK.2.1,xP]) EV (pu&&aD new) ns kF;have⟨k1,k2⟩:=RN hh (hp0:=cC hp id) (p:=⟨w.heap.size,0,grownCap w (k+n) c e*ti.size,ti.size⟩) (fun i q h=>by
      rw[IT] at h;by_cases hi:id=i
      .simp [hi] at h
      .simpa only [hi,xy] using h) rfl iD
     exact I0 (aO _ _ (by rw[ex];exact hr)) k1 (by simp only[ae];exact⟨_,_,du,rfl,kF,by simp⟩) (jD zH) k2
  | _=>rw[hx] at hv;simp at hv
end
end
end
section
open Go
section
variable {O:bl}{H:Hint}{m:Mp}{S:Nat->Prop}{w:yi}{tm:Env}{a:Act}{hp:Hp}{ct:Nat}
def ajr{n:Nat}{cs:List AV}(h:aD cs=ydh):aD (cs.take n)=ydh:=BJ n h
def XX:∀(n:Nat) {cs:List AV},bS cs=ydh->bS (cs.take n)=ydh
 | 0,_,_=>by simp[bS]
 | n+1,[],_=>by simp[bS]
 | n+1,c::cs,h=>by
  simp only[wM,bS,ye] at h ⊢;exact⟨h.1,XX n h.2⟩
def amM{o:yT}{b':yv}{t u e:yv}{sz:Nat}{x y:xr}{v:AV}{an:Hp}{aH:Nat}(hH:eX O H)(ht:bO O m S w tm a.tmps)(hh:aR O m S w hp ct)(dM:(execOp a.eval o).run O.P w=((do pure (.value (<-Builtin.copy_ #[t,u] b' #[a.eval x,a.eval y])):Sem yaP)).run O.P w)(Ad:O.P.underlying t=Ft (.slice e))(hs:bZ O.P e=Ft sz)(hv:b8 tm hp ct (.rb sz (aK H x) (aK H y))=Ft (v,an,aH)):AT O m S w a hp ct o v an aH:=by
 simp only[b8] at hv
 cases lP:mM hp sz (ay tm (aK H y)) with
 | none=>simp[lP] at hv
 | some q=>
  have⟨n,new⟩:=q;simp only[lP] at hv;have⟨news,mK,dK⟩:=Yz hh (bQ hH ht y) lP;have Lr:=gR _ _ mK;have rx:=bQ hH ht x;cases hx:ay tm (aK H x)<;>rw[hx] at hv rx<;>simp only[reduceCtorEq] at hv
  rename_i id o0 k;simp only[ae] at rx;have⟨p,c,hm,ex,h1,h2⟩:=rx
  split at hv
  case h_2=>cases hv
  rename_i pu PY zz cs hg
  cases hc:(ym zz sz&&(yA (o0+k*sz) cs.length&&bS new)) with
  | false=>rw[hc] at hv;cases hv
  | true=>
   rw[hc] at hv;simp only[yq,yb,yj] at hv;obtain⟨rfl,rfl,rfl⟩:=hv;simp only[ye] at hc;have c0:=yf hc.1;have c1:=yr hc.2.1;subst c0;have⟨p',arr,t',g1,g2,g3,g4,g5,g6,g7,g8,g9,g10⟩:=hh.obj id _ _ hg hm;rw[hm] at g1;injection g1 with g1
   subst g1;have aeN:min n k*zz<=k*zz:=yU _ (Nat.min_le_right _ _);have aDD:min n k*zz<=n*zz:=yU _ (ybR _ _);have rt:=FB (min n k*zz) mK;have Ae:(news.take (min n k*zz)).length=min n k*zz:=by rw[yQ,dK.2.1];lia
   have aDN:(new.take (min n k*zz)).length=min n k*zz:=by rw[yQ,<-Lr,dK.2.1];lia
   have fM:=MS rt (XX _ hc.2.2);have hf:=dK.2.2 w rfl (min n k) (ybR _ _);have aT:=run_storeCells_at O.P p.b (p.o+o0) t' (news.take (min n k*zz)) 0 arr w g2 (by rw[Ae];lia) fM
   simp only[yW] at aT;have pP:eY O m S (w.setRow p.b (arr.toList.take (p.o+o0)++news.take (min n k*zz)++arr.toList.drop (p.o+o0+(news.take (min n k*zz)).length)).toArray) id
     (.cells ydh (pu&&aD new) PY zz (over o0 (new.take (min n k*zz)) cs)):=by
    refine⟨p,_,t',hm,setRow_heap w p.b arr _ t' _ g2,g3,by rw[M9 (by lia)];exact g4,?_,fun h=>by rw[M9 (by lia)];exact g6 h,?_,?_,fun _=>g9 rfl,by simp⟩
    .rw [tr,yJ,yJ,yQ,wD,vG,Ae];lia
    .exact Z8 g2 g7 rt (by lia) (by lia) cY.refl (fun _ h=>h) (fun b hb=>setRow_other w p.b b _ (fun e=>g9 rfl (e▸hb))) (setRow_heap w p.b arr _ t' _ g2)
    .intro h;simp only[ye] at h;exact Yy (g8 h.1) (ajr h.2)
   have⟨e1,e2⟩:=IZ hh hg hm (g9 rfl) (Ri w p.b _) pP (fun r hr=>by rw[g2] at hr;cases hr)
   refine I0 (u:=goInt ((min n k:Nat):Int)) (m':=m) (S':=S) ?_ e1 (by simp[ae,goInt]) cY.refl e2;rw[dM,ex];simp[Builtin.copy_,run_underlying Ad,dK.1 w,oO hs,show Nat.min n k=min n k from rfl,hf,aT]
def aoW{o:yT}{k:Nat}{v:AV}{an:Hp}{aH:Nat}(hH:eX O H)(ht:bO O m S w tm a.tmps)(hh:aR O m S w hp ct)(hv:b8 tm hp ct (aP O.P H k o)=Ft (v,an,aH)):AT O m S w a hp ct o v an aH:=by
 have iY:∀{r:AV×Hp×Nat},b8 tm hp ct bad=Ft r->False:=fun h=>by simp[bad,b8] at h
 cases ho:o.op with
 | call c=>
  obtain⟨callee,args,ts⟩:=c;simp only[aP,ho] at hv
  split at hv
  .cases ET:H.mode k<;>simp[ET,b8] at hv
  .rename_i _ b
   split at hv
   .rename_i x y t u eA mJ;obtain⟨al⟩:=args;obtain⟨tl⟩:=ts;simp only at eA mJ;subst eA;subst mJ;obtain⟨cs,dM⟩:=At (O:=O) (w:=w) (a:=a) ho;have Ej:(execOp a.eval o).run O.P w=((do pure (.value (<-Builtin.append_ #[t,u] o.type #[a.eval x,a.eval y])):Sem yaP)).run O.P w:=by
     rw[dM];simp[builtin]
    have key:∀{z:AV} {sz by':Nat} {e:yv},O.P.underlying t=Ft (.slice e)->((∃e',O.P.underlying u=Ft (.slice e'))\/O.P.underlying u=Ft .string)->bZ O.P e=Ft sz->zZ O.P e=Ft by'->my O.P e=Ft z->
      b8 tm hp ct (bif ym (cellsOf z).length sz then .cQ sz by' (aK H x) (aK H y) else bad)=Ft (v,an,aH)->AT O m S w a hp ct o v an aH:=by
     intro z sz by' e h1 h2 h3 h4 h5 h
     cases hb:ym (cellsOf z).length sz with
     | false=>rw[hb] at h;exact (iY h).elim
     | true=>
      rw[hb] at h;exact amL hH ht hh Ej h1 h2 h3 h4 h5 (yf hb) h
    split at hv
    .rename_i e e' h1 h2
     split at hv
     .rename_i sz by' z h3 h4 h5
      exact key h1 (.inl ⟨_,h2⟩) h3 h4 h5 hv
     .exact (iY hv).elim
    .rename_i e h1 h2
     split at hv
     .rename_i sz by' z h3 h4 h5
      exact key h1 (.inr h2) h3 h4 h5 hv
     .exact (iY hv).elim
    .exact (iY hv).elim
   .repeat' split at hv
    all_goals simp[b8,bad] at hv
   .rename_i x y t u eA mJ;obtain⟨al⟩:=args;obtain⟨tl⟩:=ts;simp only at eA mJ;subst eA;subst mJ;obtain⟨cs,dM⟩:=At (O:=O) (w:=w) (a:=a) ho;have Ej:(execOp a.eval o).run O.P w=((do pure (.value (<-Builtin.copy_ #[t,u] o.type #[a.eval x,a.eval y])):Sem yaP)).run O.P w:=by
     rw[dM];simp[builtin]
    split at hv
    .rename_i e h1
     split at hv
     .rename_i sz h3;exact amM hH ht hh Ej h1 h3 hv
     .exact (iY hv).elim
    .exact (iY hv).elim
   .simp [b8] at hv
   .simp [b8] at hv
   .simp [b8] at hv
   .simp [b8] at hv
   .simp [b8] at hv
   .exact (iY hv).elim
  .exact (iY hv).elim
 | store t x y=>
  simp only[aP,ho] at hv
  split at hv
  .rename_i s hs;exact aoT hH ht hh ho hs hv
  .exact (iY hv).elim
 | mapUpdate t x k y=>
  simp only[aP,ho] at hv
  split at hv
  .rename_i kt e hu
   split at hv
   .rename_i kk sK;exact Z9 hH ht hh (.inl ho) hu sK hv
   .exact (iY hv).elim
  .exact (iY hv).elim
 | insert t x k y=>
  simp only[aP,ho] at hv
  split at hv
  .rename_i kt e hu
   split at hv
   .rename_i kk sK;exact Z9 hH ht hh (.inr ho) hu sK hv
   .exact (iY hv).elim
  .exact (iY hv).elim
 | next x b=>
  cases b with
  | false=>simp only[aP,ho] at hv;exact (iY hv).elim
  | true=>exact amK hH ht hh ho (by simpa only[aP,ho] using hv)
 | binOp op t x y ty=>
  cases op<;>simp only[aP,ho,nR,oU] at hv
  case eql=>
        repeat' split at hv
        all_goals first
         | (simp[b8,bad] at hv;done)
         | (cases hb:(O.P.stoodInHeld t||O.P.eqGuardType O.P.depth t)<;>rw[hb] at hv<;>simp[b8,bad] at hv)
  case neq=>
        repeat' split at hv
        all_goals first
         | (simp[b8,bad] at hv;done)
         | (cases hb:(O.P.stoodInHeld t||O.P.eqGuardType O.P.depth t)<;>rw[hb] at hv<;>simp[b8,bad] at hv)
  all_goals simp[b8] at hv
 | buildSlice t n parts=>
  simp only[aP,ho] at hv
  repeat' split at hv
  all_goals first
   | (simp[b8,bad] at hv;done)
   | (
     revert hv;generalize yA _ _=bb;intro hv;cases bb<;>simp[b8,bad] at hv
     try (split at hv<;>simp[b8,bad] at hv))
 | makeMap t r=>
  cases r<;>simp only[aP,ho] at hv
  .repeat' split at hv
   all_goals simp[b8,bad] at hv
  .exact (iY hv).elim
 | _=>
  simp only[aP,ho] at hv
  (repeat' split at hv)
  all_goals first
   | contradiction
   | (simp[b8,bad] at hv;done)
end
end
section
variable {v x:AV}{hp:Hp}{o:Op}
section
variable {hp H:Hp}{tm tm':Env}
def abr(hl:cJ hp H){id:Nat}{rw pu ex:Bool}{sz:Nat}{cs:List AV}(h:ai hp id=Ft (.cells rw pu ex sz cs)):∃cx,ai H id=Ft (.cells cx pu ex sz cs):=by
 obtain⟨o',h1,cx,rfl,_⟩:=hl id _ h
 grind
def abt(hl:cJ hp H){id:Nat}{rw:Bool}{ks vs:List AV}(h:ai hp id=Ft (.mp rw ks vs)):∃cx,ai H id=Ft (.mp cx ks vs):=by
 obtain⟨o',h1,cx,rfl,_⟩:=hl id _ h
 grind
def SW(hl:cJ hp H){sz:Nat}{ag:Bool}(h:fL hp sz ag x=Ft v):fL H sz ag x=Ft v:=by
 cases x<;>simp only[fL,reduceCtorEq] at h ⊢
 .rename_i id o
  cases hg:ai hp id with
  | none=>simp[hg] at h
  | some ob=>
   cases ob<;>simp only[hg,reduceCtorEq] at h
   obtain⟨r,h1⟩:=abr hl hg
   grind
 .exact h
def amN(hl:cJ hp H){k:AV}{v:Option AV}(h:Cl hp k x=Ft v):Cl H k x=Ft v:=by
 cases x<;>simp only[Cl,reduceCtorEq] at h ⊢
 .grind
 .rename_i id
  cases hg:ai hp id with
  | none=>simp[hg] at h
  | some ob=>
   cases ob<;>simp only[hg,reduceCtorEq] at h
   obtain⟨r,h1⟩:=abt hl hg
   grind
 .exact h
def amO(hl:cJ hp H){k:Nat}(h:fX hp k x=Ft v):fX H k x=Ft v:=by
 unfold fX at h ⊢
 split at h
 all_goals first
  | exact h
  | cases h
  | skip
 rename_i id
 cases hg:ai hp id with
 | none=>simp[hg] at h
 | some ob=>
  cases ob<;>simp only[hg,reduceCtorEq] at h
  obtain⟨r,h1⟩:=abt hl hg
  grind
def amP(hl:cJ hp H){k:Cut}{lo hi:Option X}(h:fj hp k x tm lo hi=Ft v):fj H k x tm lo hi=Ft v:=by
 unfold fj at h ⊢
 split at h
 all_goals first
  | exact h
  | cases h
  | skip
 rename_i sz id o n
 cases hg:ai hp id with
 | none=>simp[hg] at h
 | some ob=>
  cases ob<;>simp only[hg,reduceCtorEq] at h
  obtain⟨r,h1⟩:=abr hl hg
  grind
def akU(hl:cJ hp H)(h:bf tm hp o=Ft v):bf tm H o=Ft v:=by
 cases o<;>simp only[bf,reduceCtorEq] at h ⊢<;>first
  | exact h
  | exact SW hl h
  | exact amO hl h
  | exact amP hl h
  | skip
 rename_i kk zero ok m k
 cases hk:oT kk (ay tm k) with
 | false=>rw[hk] at h;cases h
 | true=>
  rw[hk] at h
  cases hr:Cl hp (ay tm k) (ay tm m) with
  | none=>simp[hr] at h
  | some r=>rw[amN hl hr];simpa only[hr] using h
def akV(hk:bg o=0)(hp H:Hp):bf tm hp o=bf tm H o:=by
 cases o with
 | oz k x lo hi=>
  cases k with
  | str=>simp only[bf,fj];cases ay tm x<;>rfl
  | sl sz=>simp[bg] at hk
  | ar n sz=>simp[bg] at hk
 | len k x=>
  match k,hk with
  | 0,_=>simp only[bf];unfold fX;split<;>simp_all
  | 1,_=>simp only[bf];unfold fX;split<;>simp_all
  | k+2,hk=>simp[bg] at hk
 | call md f xs=>cases md<;>simp[bg] at hk
 | _=>first
  | rfl
  | simp[bg] at hk
end
section
variable {tm tm':Env}
def dw{x:X}(h:∀t,t∈jG x->ak tm' t=ak tm t):ay tm' x=ay tm x:=by
 cases x with
 | t i=>exact h i (by simp[jG])
 | c v=>rfl
def DD:∀{xs:List X},(∀t,t∈AK xs->ak tm' t=ak tm t)->dA tm' xs=dA tm xs
 | [],_=>rfl
 | x::r,h=>by
  simp only[dA]
  rw[dw (x:=x) (fun t ht=>h t (by simp[AK,ht])),DD (fun t ht=>h t (by simp[AK,ht]))]
def MU:∀{ps:List (Nat×Nat×X)} {z:List AV},(∀t,t∈J4 ps->ak tm' t=ak tm t)->fill tm' z ps=fill tm z ps
 | [],_,_=>rfl
 | (o,s,x)::r,z,h=>by
  simp only[fill]
  rw[dw (x:=x) (fun t ht=>h t (by simp[J4,ht]))]
  rw[MU (ps:=r) (fun t ht=>h t (by simp[J4,ht]))]
def YA{d:Nat}{x:Option X}(h:∀t,t∈J3 x->ak tm' t=ak tm t):cP tm' d x=cP tm d x:=by
 cases x with
 | none=>rfl
 | some x=>simp only[cP];rw[dw h]
def ajW{k:Cut}{lo hi:Option X}(h1:∀t,t∈J3 lo->ak tm' t=ak tm t)(h2:∀t,t∈J3 hi->ak tm' t=ak tm t):
  fj hp k x tm' lo hi=fj hp k x tm lo hi:=by
 unfold fj;simp only[YA h1,YA h2]
def ajs(h:∀t,t∈kv o->ak tm' t=ak tm t):bf tm' hp o=bf tm hp o:=by
 cases o<;>simp only[kv,xH] at h<;>simp only[bf]
 case pick c a b=>rw[dw (x:=c) fun t ht=>h t (.inl ht),dw (x:=a) fun t ht=>h t (.inr (.inl ht)),dw (x:=b) fun t ht=>h t (.inr (.inr ht))]
 case Cg z ps=>rw[MU h]
 case pL n s z ps=>rw[MU h]
 case G4 f a b=>rw[DD (xs:=a) fun t ht=>h t (.inl ht),DD (xs:=b) fun t ht=>h t (.inr ht)]
 case oz k x lo hi=>rw[dw (x:=x) fun t ht=>h t (.inl ht),ajW (fun t ht=>h t (.inr (.inl ht))) (fun t ht=>h t (.inr (.inr ht)))]
 case mn xs=>rw[DD h]
 case mx xs=>rw[DD h]
 case bin op x y=>rw[dw (x:=x) fun t ht=>h t (.inl ht),dw (x:=y) fun t ht=>h t (.inr ht)]
 case Lh x y=>rw[dw (x:=x) fun t ht=>h t (.inl ht),dw (x:=y) fun t ht=>h t (.inr ht)]
 case eq n k x y=>rw[dw (x:=x) fun t ht=>h t (.inl ht),dw (x:=y) fun t ht=>h t (.inr ht)]
 case bh s x y=>rw[dw (x:=x) fun t ht=>h t (.inl ht),dw (x:=y) fun t ht=>h t (.inr ht)]
 case CO l s x y=>rw[dw (x:=x) fun t ht=>h t (.inl ht),dw (x:=y) fun t ht=>h t (.inr ht)]
 case G5 x y=>rw[dw (x:=x) fun t ht=>h t (.inl ht),dw (x:=y) fun t ht=>h t (.inr ht)]
 case G6 l s g x y=>rw[dw (x:=x) fun t ht=>h t (.inl ht),dw (x:=y) fun t ht=>h t (.inr ht)]
 case PU kk z ok x y=>rw[dw (x:=x) fun t ht=>h t (.inl ht),dw (x:=y) fun t ht=>h t (.inr ht)]
 all_goals first
  | rfl
  | (rename_i x;rw[dw (x:=x) h])
def II{an:Hp}{ct:Nat}(h:∀t,t∈kv o->ak tm' t=ak tm t):cB tm' an ct o=cB tm hp ct o:=by
 cases o<;>simp only[kv,xH] at h<;>simp only[cB]
 case box s x=>rw[dw (x:=x) h]
 case iB n s z ps=>rw[MU h]
 case mH s b z x y=>rw[dw (x:=x) fun t ht=>h t (.inl ht),dw (x:=y) fun t ht=>h t (.inr ht)]
 case qZ x=>rw[dw (x:=x) h]
def DC{ct:Nat}(h:∀t,t∈kv o->ak tm' t=ak tm t):b8 tm' hp ct o=b8 tm hp ct o:=by
 cases o<;>simp only[kv,xH] at h<;>simp only[b8]
 case st s x y=>rw[dw (x:=x) fun t ht=>h t (.inl ht),dw (x:=y) fun t ht=>h t (.inr ht)]
 case qY kk c a b=>rw[dw (x:=c) fun t ht=>h t (.inl ht),dw (x:=a) fun t ht=>h t (.inr (.inl ht)),dw (x:=b) fun t ht=>h t (.inr (.inr ht))]
 case q8 x=>rw[dw (x:=x) h]
 case cQ s b x y=>rw[dw (x:=x) fun t ht=>h t (.inl ht),dw (x:=y) fun t ht=>h t (.inr ht)]
 case rb s x y=>rw[dw (x:=x) fun t ht=>h t (.inl ht),dw (x:=y) fun t ht=>h t (.inr ht)]
end
end
section
open Go
section
variable {r:AV}{bs:List Nat}{lo:Nat}{ab:Nat->Nat}{u:yg}
structure Calm(w w':yi):Prop where
 os:w'.os=w.os
 tape:w'.tape=w.tape
 output:w'.output=w.output
 size:w.heap.size<=w'.heap.size
 same:∀b,b<w.heap.size->w'.heap[b]? =w.heap[b]?
def Calm.refl{w:yi}:Calm w w:=⟨rfl,rfl,rfl,yu _,fun _ _=>rfl⟩
def Cn(O:bl)(w:yi):Prop:=(∀b,b<O.w0.heap.size->w.heap[b]? =O.w0.heap[b]?)/\O.w0.heap.size<=w.heap.size
def eR:Mp:=fun _=>Fu
def jr(ab:Nat->Nat)(S:Nat->Prop)(w:yi)(lo:Nat):AV->yg->List Nat->Prop
 | .cF ex sz n cs,u,bs=>∃b o c arr t,bs=[b]/\u=.slice (Ft ⟨b,o,Fu⟩) n c/\n<=c/\(ex=ydh->c=n)/\lo<=b/\¬S b/\w.heap[b]? =Ft (.cells arr t (0,0))/\cs.length=n*sz/\
   o+c*sz<=arr.size/\bL ab eR S w cs b o/\aD cs=ydh
 | r,u,bs=>bs=[]/\ae ab eR S w r u/\aW r=ydh
def lQ(ab:Nat->Nat)(S:Nat->Prop)(w:yi)(lo:Nat):List AV->List yg->List Nat->Prop
 | [],us,bs=>us=[]/\bs=[]
 | v::r,us,bs=>∃u t b1 b2,us=u::t/\bs=b1++b2/\jr ab S w lo v u b1/\lQ ab S w lo r t b2
def pn(ab:Nat->Nat)(S:Nat->Prop)(w:yi)(lo:Nat)(r:AV)(u:yg):Prop:=
 match r with
 | .ax vs=>∃(us:Array yg) (bs:List Nat),u=.tuple us/\lQ ab S w lo vs us.toList bs/\bs.Nodup
 | r=>∃bs,jr ab S w lo r u bs
def B0(P:xm)(f:tW)(args:Array yg)(w:yi)(R:yba->yi->Prop):Prop:=
 ((callFunc f args).run P w=.ok (.enter f args) w/\CallsIn Fence.wide 0 P f args w R)\/∃u w',(callFunc f args).run P w=.ok (.value u) w'/\R (.returned u) w'
def aaa(O:bl)(w:yi)(S:Nat->Prop)(r:AV)(e:yba)(w':yi):Prop:=
 ∃u S',e=.returned u/\Calm w w'/\(∀b,S b->S' b)/\(∀b,S' b->S b\/w.heap.size<=b)/\(∀b,S' b->b<w'.heap.size)/\pn O.ab S' w' w.heap.size r u
def dZ(O:bl)(n:Nat)(aq:List AV)(r:AV):Prop:=
 ∀(w:yi) (S:Nat->Prop) (args:Array yg),Cn O w->(∀b,S b->b<w.heap.size)->az O.ab eR S w aq args.toList->aD aq=ydh->
  B0 O.P (O.ab n) args w (aaa O w S r)
def AB(O:bl)(m:Mp)(S:Nat->Prop)(w:yi)(hp:Hp)(ct:Nat)(v:AV)(an:Hp)(aH:Nat)(e:yba)(w':yi):Prop:=
 ∃u m' S',e=.returned u/\aR O m' S' w' an aH/\ct<=aH/\ae O.ab m' S' w' v u/\bU m S w hp m' S' w' an ct
def Co(O:bl)(n:Nat)(hp:Hp)(ct:Nat)(aq:List AV)(v:AV)(an:Hp)(aH:Nat):Prop:=
 ∀(m:Mp) (S:Nat->Prop) (w:yi) (args:Array yg),aR O m S w hp ct->az O.ab m S w aq args.toList->B0 O.P (O.ab n) args w (AB O m S w hp ct v an aH)
section
variable {ab:Nat->Nat}{m m':Mp}{S S':Nat->Prop}{w w':yi}
mutual
def rS(hS:∀b,S b->S' b)(hw:fR S w w'):∀(v:AV) (u:yg),aW v=ydh->ae ab m S w v u->ae ab m' S' w' v u
 | .int _ _,_,_,h | .bool _,_,_,h | .ao _ _,_,_,h | .cW _ _ _,_,_,h | .str _,_,_,h | .jY,_,_,h | .af,_,_,h | .gU,_,_,h | .jl,_,_,h | .undef,_,_,h=>by
  simpa only[ae] using h
 | .ptr id o,u,hp,h=>by simp[aW] at hp
 | .bq cs,u,hp,h=>by
  simp only[ae] at h ⊢;obtain⟨b,o,h1,h2,h3,h4⟩:=h;refine⟨b,o,h1,h2.imp id (hS b),h3,?_⟩;rcases h2 with rfl | h2
  .simp only [bL]
  .exact Rj hS hw cs b o h3 h2 h4
 | .au ex n cs,u,hp,h=>by
  simp only[ae] at h ⊢;rcases h with ⟨b,o,c,h1,h2,h3,h4,h5,h6⟩ | h
  .refine .inl ⟨b,o,c,h1,h2,h3,h4.imp id (hS b),h5,?_⟩;rcases h4 with rfl | h4
   .simp only [bL]
   .exact Rj hS hw cs b o h5 h4 h6
  .exact .inr h
 | .cF _ _ _ _,u,hp,h=>by simp[aW] at hp
 | .ap id o n,u,hp,h=>by simp[aW] at hp
 | .fn (.f g) first cap,u,hp,h=>by
  simp only[ae] at h ⊢;simp only[aW,ye] at hp;obtain⟨fi,ca,h1,h2,h3⟩:=h;exact⟨fi,ca,h1,Ay hS hw first _ hp.1 h2,Ay hS hw cap _ hp.2 h3⟩
 | .fn (.y l) _ _,u,hp,h=>by simp[aW] at hp
 | .map id,u,hp,h=>by simp[aW] at hp
 | .jm ks vs,u,hp,h=>by
  simp only[ae] at h ⊢;obtain⟨b,es,clock,h1,h2,h3,h4,h5,h6,h7⟩:=h;exact⟨b,es,clock,h1,hS b h2,h3,h4,(hw b h2).trans h5,Ay hS hw ks _ h3 h6,Ay hS hw vs _ h4 h7⟩
 | .it id,u,hp,h=>by simp[aW] at hp
 | .agg cs,u,hp,h=>by
  simp only[ae] at h ⊢;simp only[aW] at hp;obtain⟨xs,h1,h2⟩:=h;exact⟨xs,h1,Ay hS hw cs _ hp h2⟩
 | .ax cs,u,hp,h=>by
  simp only[ae] at h ⊢;simp only[aW] at hp;obtain⟨xs,h1,h2⟩:=h;exact⟨xs,h1,Ay hS hw cs _ hp h2⟩
def Ay(hS:∀b,S b->S' b)(hw:fR S w w'):∀(vs:List AV) (us:List yg),aD vs=ydh->az ab m S w vs us->az ab m' S' w' vs us
 | [],us,_,h=>by simpa only[az] using h
 | v::r,us,hp,h=>by
  simp only[az] at h ⊢;simp only[aD,ye] at hp;have⟨u,t,h1,h2,h3⟩:=h;exact⟨u,t,h1,rS hS hw v u hp.1 h2,Ay hS hw r t hp.2 h3⟩
def Rj(hS:∀b,S b->S' b)(hw:fR S w w'):∀(cs:List AV) (b o:Nat),aD cs=ydh->S b->bL ab m S w cs b o->bL ab m' S' w' cs b o
 | [],_,_,_,_,_=>by simp only[bL]
 | c::cs,b,o,hp,hb,h=>by
  simp only[bL] at h ⊢;simp only[aD,ye] at hp;have⟨⟨u,h1,h2⟩,h3⟩:=h;exact⟨⟨u,(Mm (hw b hb)).trans h1,rS hS hw c u hp.1 h2⟩,Rj hS hw cs b (o+1) hp.2 hb h3⟩
end
def BK(hS:∀b,S b->S' b)(hw:fR S w w'):∀(cs:List AV) (b o:Nat),aD cs=ydh->w'.heap[b]? =w.heap[b]? ->bL ab m S w cs b o->bL ab m' S' w' cs b o
 | [],_,_,_,_,_=>by simp only[bL]
 | c::cs,b,o,hp,hb,h=>by
  simp only[aD,ye] at hp;have⟨⟨u,h1,h2⟩,h3⟩:=h;exact⟨⟨u,(Mm hb).trans h1,rS hS hw c u hp.1 h2⟩,BK hS hw cs b (o+1) hp.2 hb h3⟩
end
section
variable {O:bl}{m:Mp}{S S':Nat->Prop}{w w':yi}{hp:Hp}{ct:Nat}
def akW(hh:aR O m S w hp ct)(hw:Calm w w'):fR S w w':=fun b hb=>hw.same b (hh.slt b hb)
def BQ(hh:aR O m S w hp ct)(hw:Calm w w')(hS:∀b,S b->S' b)(hn:∀b,S' b->S b\/w.heap.size<=b)(hl:∀b,S' b->b<w'.heap.size):aR O m S' w' hp ct where
 obj id o p ho hm:=zk (fun _ _ h=>h) hS (akW hh hw) (fun q hq=>hw.same _ (hh.blt id q hq)) (fun q hq hs=>(hn _ hs).resolve_right (by have:=hh.blt id q hq;lia)) (hh.obj id o p ho hm)
 lt:=hh.lt
 inj:=hh.inj
 slt:=hl
 blt id p h:=yE (hh.blt id p h) hw.size
 low:=hh.low
 mB b hb:=(hw.same b (yE hb hh.fY)).trans (hh.mB b hb)
 fY:=xo hh.fY hw.size
 aM:=hh.aM
def AD{base:Nat}(hh:aR O m S w hp ct)(hw:Calm w w')(hS:∀b,S b->S' b)(hn:∀b,S' b->S b\/w.heap.size<=b):bU m S w hp m S' w' hp base where
 os:=hw.os
 tape:=hw.tape
 output:=hw.output
 size:=hw.size
 same b hb _:=hw.same b hb
 sub:=hS
 still b hb:=hw.same b (hh.slt b hb)
 new b hb:=(hn b hb).imp id .inr
 own b hb:=.inl hb
 old _ _ _ h:=h
 loops b r hb:=⟨r,(hw.same b (xt.1 hb).1).trans hb⟩
def amQ{i:Nat}(hh:aR O m S w hp ct)(hi:m i=Fu)(G8:i<ct){p:Pl}(hb:p.b<w.heap.size)(bc:O.w0.heap.size<=p.b)(G9:¬S p.b)(pR:∀j q,m j=Ft q->q.b≠p.b)(hf:∀o,ai hp i=Ft o->(eY O (fy m i p) S w i o/\¬je o)\/(je o/\eY O (fy m i p) (fun b=>S b\/b=p.b) w i o)):
  ∃S',aR O (fy m i p) S' w hp ct/\(∀b,S b->S' b)/\∀b,S' b->S b\/b=p.b:=by
 have aT:fR S w w:=fun _ _=>rfl
 have gen:∀S':Nat->Prop,(∀b,S b->S' b)->(∀b,S' b->S b\/b=p.b)->(∀o,ai hp i=Ft o->eY O (fy m i p) S' w i o)->aR O (fy m i p) S' w hp ct:=by
  intro S' h1 h2 h3;refine⟨?_,?_,?_,?_,?_,?_,hh.mB,hh.fY,hh.aM⟩
  .intro id o q ho hm;by_cases hc:id=i
   .grind
   .rw [dY hc] at hm;refine zk (jD hi) h1 aT (fun _ _=>rfl) (fun q' bG hs=>?_) (hh.obj id o q ho hm)
    grind
  .intro id q hm;by_cases hc:id=i
   .grind
   .rw [dY hc] at hm;exact hh.lt id q hm
  .intro a b oa ob pa pb ha bH EU A4 e;by_cases ca:a=i
   .by_cases cb:b=i
    .grind
    .subst ca;rw[du] at EU;rw[dY cb] at A4
     grind
   .rw [dY ca] at EU;by_cases cb:b=i
    .subst cb;rw[du] at A4
     grind
    .rw [dY cb] at A4;exact hh.inj a b oa ob pa pb ha bH EU A4 e
  .intro b hs;rcases h2 b hs with h | h
   .exact hh.slt b h
   .grind
  .intro id q hm;by_cases hc:id=i
   .subst hc;rw[du] at hm
    grind
   .rw [dY hc] at hm;exact hh.blt id q hm
  .intro id q hm;by_cases hc:id=i
   .subst hc;rw[du] at hm
    grind
   .rw [dY hc] at hm;exact hh.low id q hm
 cases ho:ai hp i with
 | none=>exact⟨S,gen S (fun _ h=>h) (fun _ h=>.inl h) (fun o h=>by rw[ho] at h;cases h),fun _ h=>h,fun _ h=>.inl h⟩
 | some o=>
  rcases hf o ho with ⟨h1,_⟩ | ⟨_,h1⟩
  .exact ⟨S,gen S (fun _ h=>h) (fun _ h=>.inl h) (fun o' h=>by rw[ho] at h;injection h with h;subst h;exact h1),fun _ h=>h,fun _ h=>.inl h⟩
  .exact ⟨_,gen (fun b=>S b\/b=p.b) (fun _ h=>.inl h) (fun _ h=>h) (fun o' h=>by rw[ho] at h;injection h with h;subst h;exact h1),fun _ h=>.inl h,fun _ h=>h⟩
def Zj(h:jr ab S w lo r u bs)(m:Mp)(hS:∀b,S b->S' b)(hbs:∀b,b∈bs->S' b):ae ab m S' w (bF r) u:=by
 have aT:fR S w w:=fun _ _=>rfl
 cases r with
 | cF ex sz n cs=>
  obtain⟨b,o,c,arr,t,rfl,rfl,h1,h2,h3,h4,h5,h6,h7,h8,h9⟩:=h;exact .inl ⟨b,o,c,rfl,h1,h2,.inr (hbs b (by simp)),h9,BK hS aT cs b o h9 rfl h8⟩
 | _=>simp only[jr] at h;exact rS hS aT _ _ h.2.2 h.2.1
def Zk{ab:Nat->Nat}{lo:Nat}(m:Mp)(hS:∀b,S b->S' b):∀{vs:List AV} {us:List yg} {bs:List Nat},lQ ab S w lo vs us bs->(∀b,b∈bs->S' b)->az ab m S' w (Eb vs) us
 | [],us,bs,h,_=>by simp only[lQ] at h;exact h.1
 | v::r,us,bs,h,hb=>by
  obtain⟨u,t,b1,b2,rfl,rfl,h1,h2⟩:=h;exact⟨u,t,rfl,Zj h1 m hS (fun b bH=>hb b (by simp[bH])),Zk m hS h2 (fun b bH=>hb b (by simp[bH]))⟩
def SX(h:jr ab S w lo r u bs):∀b,b∈bs->lo<=b/\b<w.heap.size:=by
 intro b hb
 cases r with
 | cF ex sz n cs=>
  simp only[jr] at h
  grind
 | _=>simp only[jr] at h;rw[h.1] at hb;cases hb
def SY{ab:Nat->Nat}{lo:Nat}:∀{vs:List AV} {us:List yg} {bs:List Nat},lQ ab S w lo vs us bs->∀b,b∈bs->lo<=b/\b<w.heap.size
 | [],us,bs,h,b,hb=>by simp only[lQ] at h;rw[h.2] at hb;cases hb
 | v::r,us,bs,h,b,hb=>by
  obtain⟨u,t,b1,b2,rfl,rfl,h1,h2⟩:=h;rcases xH.1 hb with hb | hb
  .exact SX h1 b hb
  .exact SY h2 b hb
def Zl(h:pn ab S w lo r u)(m:Mp):∃S',(∀b,S b->S' b)/\(∀b,S' b->S b\/(lo<=b/\b<w.heap.size))/\ae ab m S' w (shut r) u:=by
 have one:∀(r:AV) (bs:List Nat),shut r=bF r->jr ab S w lo r u bs->∃S',(∀b,S b->S' b)/\(∀b,S' b->S b\/(lo<=b/\b<w.heap.size))/\ae ab m S' w (shut r) u:=by
  intro r bs hs h;refine⟨fun b=>S b\/b∈bs,fun _ h=>.inl h,fun b hb=>hb.imp (fun x=>x) (fun hb=>SX h b hb),?_⟩;rw[hs];exact Zj h m (fun _ h=>.inl h) (fun _ h=>.inr h)
 cases r with
 | ax vs=>
  obtain⟨us,bs,rfl,h1,h2⟩:=h;refine⟨fun b=>S b\/b∈bs,fun _ h=>.inl h,fun b hb=>hb.imp (fun x=>x) (fun hb=>SY h1 b hb),?_⟩;exact⟨us,rfl,Zk m (fun _ h=>.inl h) h1 (fun _ h=>.inr h)⟩
 | _=>
  have⟨bs,h⟩:=h;exact one _ bs rfl h
end
end
end
section
open Go
section
variable {r:AV}{hp:Hp}{ct:Nat}
section
variable {O:bl}{m:Mp}{S:Nat->Prop}{w:yi}{H:Hp}{cH:Nat}
def Ny:ct<=(fw hp ct r).2.2:=by
 cases r<;>simp only[fw]<;>lia
def Nz:∀{vs:List AV} {hp:Hp} {ct:Nat},ct<=(kB hp ct vs).2.2
 | [],hp,ct=>by simp[kB]
 | v::r,hp,ct=>by
  simp only[kB];have h1:=Ny (hp:=hp) (ct:=ct) (r:=v);have h2:=Nz (vs:=r) (hp:=(fw hp ct v).2.1) (ct:=(fw hp ct v).2.2)
  lia
def SZ(hf:∀id o,ai hp id=Ft o->id<ct):∀id o,ai hp id=Ft o->ai (fw hp ct r).2.1 id=Ft o:=by
 intro id o h;cases r<;>simp only[fw]<;>try exact h
 rw[fo,yz (by have:=hf id o h;lia)]
 exact h
def abu{lo:Nat}{u:yg}{bs:List Nat}(hh:aR O m S w H cH)(hl:cJ (fw hp ct r).2.1 H)(gJ:(fw hp ct r).2.2<=cH)(hn:∀id,ct<=id->id<(fw hp ct r).2.2->m id=Fu)(hr:jr O.ab S w lo r u bs)(bc:O.w0.heap.size<=lo)(pR:∀j q,m j=Ft q->q.b∉bs):
  ∃m' S',aR O m' S' w H cH/\cY m m'/\(∀id p,m' id=Ft p->m id=Ft p\/(ct<=id/\id<(fw hp ct r).2.2/\p.b∈bs))/\ae O.ab m' S' w (fw hp ct r).1 u/\(∀b,S b->S' b)/\(∀b,S' b->S b\/b∈bs):=by
 have aT:fR S w w:=fun _ _=>rfl
 cases r with
 | cF ex sz n cs=>
  simp only[fw] at hl gJ hn;obtain⟨b,o,c,arr,t,rfl,rfl,h1,h2,h3,h4,h5,h6,h7,h8,h9⟩:=hr;have bD:m ct=Fu:=hn ct (yu _) (Nat.lt_succ_self _);have axx:b<w.heap.size:=(xt.1 h5).1;have pP:eY O (fy m ct ⟨b,o,c*sz,sz⟩) S w ct (.cells ydh ydh ex sz cs):=by
   refine⟨_,arr,t,du,h5,rfl,?_,h7,fun hx=>?_,BK (fun _ h=>h) aT cs b o h9 rfl h8,fun _=>h9,fun _=>h4,by simp⟩
   .show cs.length<=c*sz
    rw[h6];exact yU _ h1
   .grind
  have⟨S',k1,k2,k3⟩:=amQ (p:=⟨b,o,c*sz,sz⟩) hh bD (by lia) axx (by show _<=b;lia) h4 (fun j q hq e=>pR j q hq (by rw[e];simp)) (fun o' jv=>by
   have⟨Wj,g1,g2⟩:=hl ct (.cells ydh ydh ex sz cs) (by rw[fo];simp)
   rw[jv] at g1;injection g1 with g1
   subst g1
   exact Q5 (p:=⟨b,o,c*sz,sz⟩) g2 du pP (by simp[je]))
  refine⟨_,S',k1,jD bD,fun id p an=>?_,?_,k2,fun b' bH=>(k3 b' bH).imp (fun h=>h) (fun h=>by rw[h];simp)⟩
  .by_cases hc:id=ct
   .subst hc;rw[du] at an;injection an with an
    subst an;exact .inr ⟨yu _,by simp[fw],by simp⟩
   .rw [dY hc] at an;exact .inl an
  .simp only [fw,ae];exact⟨_,c,du,by simp,h1,by simp⟩
 | _=>
  exact⟨m,S,hh,cY.refl,fun _ _ h=>.inl h,rS (fun _ h=>h) aT _ _ hr.2.2 hr.2.1,fun _ h=>h,fun _ h=>.inl h⟩
def Jb(hf:∀id o,ai hp id=Ft o->id<ct):∀id o,ai (fw hp ct r).2.1 id=Ft o->id<(fw hp ct r).2.2:=by
 intro id o h;cases r<;>simp only[fw] at h ⊢<;>try exact hf id o h
 rw[fo] at h
 grind
def NA:∀{vs:List AV} {hp:Hp} {ct:Nat},(∀id o,ai hp id=Ft o->id<ct)->∀id o,ai hp id=Ft o->ai (kB hp ct vs).2.1 id=Ft o
 | [],hp,ct,_,id,o,h=>by simpa[kB] using h
 | v::r,hp,ct,hf,id,o,h=>by
  exact NA (Jb hf) id o (SZ hf id o h)
def abw{lo:Nat}(bc:O.w0.heap.size<=lo):∀{vs:List AV} {us:List yg} {bs:List Nat} {hp:Hp} {ct:Nat} {m:Mp} {S:Nat->Prop},aR O m S w H cH->cJ (kB hp ct vs).2.1 H->(kB hp ct vs).2.2<=cH->
  (∀id o,ai hp id=Ft o->id<ct)->(∀id,ct<=id->id<(kB hp ct vs).2.2->m id=Fu)->
  lQ O.ab S w lo vs us bs->bs.Nodup->(∀j q,m j=Ft q->q.b∉bs)->
  ∃m' S',aR O m' S' w H cH/\cY m m'/\(∀id p,m' id=Ft p->m id=Ft p\/(ct<=id/\id<(kB hp ct vs).2.2/\p.b∈bs))/\az O.ab m' S' w (kB hp ct vs).1 us/\(∀b,S b->S' b)/\(∀b,S' b->S b\/b∈bs)
 | [],us,bs,hp,ct,m,S,hh,hl,gJ,hf,hn,hr,lX,pR=>by
  simp only[lQ] at hr;exact⟨m,S,hh,cY.refl,fun _ _ h=>.inl h,by simp only[kB,az];exact hr.1,fun _ h=>h,fun _ h=>.inl h⟩
 | v::r,us,bs,hp,ct,m,S,hh,hl,gJ,hf,hn,hr,lX,pR=>by
  simp only[lQ] at hr;obtain⟨u,t,b1,b2,rfl,rfl,h1,h2⟩:=hr;simp only[kB] at hl gJ hn ⊢;have eL:=Ny (hp:=hp) (ct:=ct) (r:=v);have CY:=Nz (vs:=r) (hp:=(fw hp ct v).2.1) (ct:=(fw hp ct v).2.2);rw[List.nodup_append] at lX;have⟨m1,S1,k1,k2,k3,k4,k5,k6⟩:=abu (hp:=hp) (ct:=ct) (lo:=lo) hh ((fun id o h=>hl id o (NA (Jb hf) id o h))) (by lia) (fun id g1 g2=>hn id g1 (by lia)) h1 bc
   (fun j q hq hb=>pR j q hq (by simp[hb]))
  have h2':lQ O.ab S1 w lo r t b2:=by
   clear k4;have UQ:∀b,S1 b->S b\/b∈b1:=k6;have hd:∀b,b∈b2->b∉b1:=fun b hb eE=>lX.2.2 b eE b hb rfl
   have one:∀{v:AV} {u:yg} {bb:List Nat},(∀b,b∈bb->b∉b1)->jr O.ab S w lo v u bb->jr O.ab S1 w lo v u bb:=by
    intro v u bb Aa h
    cases v with
    | cF ex sz n cs=>
     simp only[jr] at h ⊢;obtain⟨b,o,c,arr,tt,rfl,rfl,g1,g2,g3,g4,g5,g6,g7,g8,g9⟩:=h;exact⟨b,o,c,arr,tt,rfl,rfl,g1,g2,g3,fun hs=>(UQ b hs).elim g4 (Aa b (by simp)),g5,g6,g7,BK k5 (fun _ _=>rfl) cs b o g9 rfl g8,g9⟩
    | _=>simp only[jr] at h ⊢;exact⟨h.1,rS k5 (fun _ _=>rfl) _ _ h.2.2 h.2.1,h.2.2⟩
   clear k1 k2 k3 hl gJ hn pR lX;revert hd h2;generalize b2=bb
   induction r generalizing t bb with
   | nil=>intro h2 hd;simpa only[lQ] using h2
   | cons v' r ih=>
    intro h2 hd;simp only[lQ] at h2 ⊢;obtain⟨u',t',c1,c2,rfl,rfl,g1,g2⟩:=h2
    exact⟨u',t',c1,c2,rfl,rfl,one (fun b hb=>hd b (by simp[hb])) g1,ih _ (by
     have:=Nz (vs:=r) (hp:=(fw hp ct v).2.1) (ct:=(fw hp ct v).2.2)
     exact this) _ g2 (fun b hb=>hd b (by simp[hb]))⟩
  have⟨m2,S2,g1,g2,g3,g4,g5,g6⟩:=abw bc (vs:=r) (us:=t) (bs:=b2) (m:=m1) (S:=S1) k1 hl gJ (Jb hf) (fun id q1 q2=>by
   cases hq:m1 id with
   | none=>rfl
   | some p=>
    rcases k3 id p hq with h | ⟨_,h,_⟩
    .rw [hn id (by lia) q2] at h;cases h
    .lia) h2' lX.2.1 (fun j q hq hb=>by
     rcases k3 j q hq with h | ⟨_,_,h⟩
     .exact pR j q h (by simp[hb])
     .exact lX.2.2 q.b h q.b hb rfl)
  refine⟨m2,S2,g1,k2.trans g2,fun id p an=>?_,?_,fun b hb=>g5 b (k5 b hb),fun b hb=>?_⟩
  .rcases g3 id p an with h | ⟨a1,a2,a3⟩
   .rcases k3 id p h with h | ⟨a1,a2,a3⟩
    .exact .inl h
    .exact .inr ⟨a1,by lia,by simp[a3]⟩
   .exact .inr ⟨by lia,a2,by simp[a3]⟩
  .simp only [az];exact⟨u,t,rfl,mo g2 g5 (fun _ _=>rfl) _ _ k4,g4⟩
  .rcases g6 b hb with h | h
   .exact (k6 b h).imp (fun h=>h) (fun h=>by simp[h])
   .exact .inr (by simp[h])
def arI{lo:Nat}{u:yg}(hh:aR O m S w H cH)(hl:cJ (own hp ct r).2.1 H)(gJ:(own hp ct r).2.2<=cH)(hf:∀id o,ai hp id=Ft o->id<ct)(hn:∀id,ct<=id->id<(own hp ct r).2.2->m id=Fu)(hr:pn O.ab S w lo r u)(bc:O.w0.heap.size<=lo)(Lo:∀j q,m j=Ft q->q.b<lo):
  ∃m' S',aR O m' S' w H cH/\cY m m'/\(∀id p,m' id=Ft p->m id=Ft p\/(ct<=id/\id<(own hp ct r).2.2/\lo<=p.b))/\ae O.ab m' S' w (own hp ct r).1 u/\(∀b,S b->S' b)/\(∀b,S' b->S b\/lo<=b):=by
 have one:∀(r:AV) (bs:List Nat),own hp ct r=fw hp ct r->jr O.ab S w lo r u bs->cJ (own hp ct r).2.1 H->(own hp ct r).2.2<=cH->(∀id,ct<=id->id<(own hp ct r).2.2->m id=Fu)->
   ∃m' S',aR O m' S' w H cH/\cY m m'/\(∀id p,m' id=Ft p->m id=Ft p\/(ct<=id/\id<(own hp ct r).2.2/\lo<=p.b))/\ae O.ab m' S' w (own hp ct r).1 u/\(∀b,S b->S' b)/\(∀b,S' b->S b\/lo<=b):=by
  intro r bs he hr hl gJ hn;rw[he] at hl gJ hn ⊢;have Ev:=SX hr;have⟨m',S',k1,k2,k3,k4,k5,k6⟩:=abu hh hl gJ hn hr bc (fun j q hq hb=>by have:=Lo j q hq;have:=(Ev _ hb).1;lia)
  exact⟨m',S',k1,k2,fun id p h=>(k3 id p h).imp (fun h=>h) (fun h=>⟨h.1,h.2.1,(Ev _ h.2.2).1⟩),k4,k5,fun b hb=>(k6 b hb).imp (fun h=>h) (fun h=>(Ev _ h).1)⟩
 cases r with
 | ax vs=>
  simp only[own] at hl gJ hn ⊢;simp only[pn] at hr;obtain⟨us,bs,rfl,h1,h2⟩:=hr;have Ev:=SY h1;have⟨m',S',k1,k2,k3,k4,k5,k6⟩:=abw bc hh hl gJ hf hn h1 h2 (fun j q hq hb=>by have:=Lo j q hq;have:=(Ev _ hb).1;lia)
  exact⟨m',S',k1,k2,fun id p h=>(k3 id p h).imp (fun h=>h) (fun h=>⟨h.1,h.2.1,(Ev _ h.2.2).1⟩),by simp only[ae];exact⟨us,rfl,k4⟩,k5,fun b hb=>(k6 b hb).imp (fun h=>h) (fun h=>(Ev _ h).1)⟩
 | _=>
  simp only[pn] at hr;have⟨bs,hr⟩:=hr;exact one _ bs rfl hr hl gJ hn
end
end
end
end VE
