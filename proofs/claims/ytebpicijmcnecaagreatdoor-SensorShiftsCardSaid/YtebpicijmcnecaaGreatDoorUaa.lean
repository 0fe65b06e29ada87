import GoSem.Core.Code
import GoSem.Core.Float
import GoSem.Core.Utf8
import Derived.CallsIn
import Derived.Laws.World
import GoSem.Op.Equal
import GoSem.Core.Region
import Derived.Below
import Derived.Laws.AppendOwn
import Derived.Laws.Rows
import Derived.WalkKit
import Derived.Laws.CopyRow
import Derived.Laws.Cells
import Derived.Laws.Strings
import Derived.Lib.Strings
import Derived.WideLaws
import Derived.Maps.Keyed
import Derived.ChangeKeysEq
import Derived.Laws.Tables
import Derived.IntWalk
import Derived.Laws.CopyOwn
set_option linter.all false
set_option maxRecDepth 100000
open Array renaming getElem?_eq_some_iff->xo,getElem?_modify->yau,getElem?_toList->uW,length_toList->wY,range->tj
open BitVec renaming ofInt->we
open Bool renaming and_assoc->yac,and_eq_true->ye,eq_iff_iff->tU,false_eq_true->yA,not_eq_true'->vD
open ForInStep renaming yield->yaF
open Go renaming Addr->uh,BinOp->wJ,Code->wS,Ending->yaH,Field->vI,FloatKind->xO,FuncId->tC,IntKind->yZ,Loop->uE,MapEntry->wL,Next->yat,Obj->tV,Oper->yP,Operand->xm,Program->xi,TypeDesc->tv,TypeId->yu,TypeInfo->ycD,UnOp->ycl,Value->yg,World->yi,binOp->xR,sizeOf->wT
open Go.Utf8 renaming runeError->um,valid->yaZ
open List renaming all_cons->tO,append_assoc->xr,cons_append->ym,drop_drop->wZ,eq_nil_of_length_eq_zero->yG,ext_getElem?->yaV,flatten_append->yaJ,flatten_cons->uG,getElem?_append_left->wo,getElem?_append_right->wb,getElem?_drop->yaT,getElem?_eq_getElem->xh,getElem?_map->uF,getElem?_take_of_lt->uK,getElem?_toArray->yaz,length_append->yC,length_cons->yH,length_drop->wH,length_take->yT,map_cons->yV,map_eq_nil_iff->yaI,mem_append->xD,range->wE,replicate->yy,replicate_succ->wR,size_toArray->uX,take_of_length_le->yO,take_succ_cons->wq,take_zero->ybq
open List.cons renaming injEq->uN
open Nat renaming add_assoc->uv,add_mul->xL,add_zero->yS,beq->yo,beq_eq->ycz,beq_refl->wC,ble->yz,ble_eq->ycA,blt->yF,eq_of_beq_eq_true->yf,eq_zero_or_pos->xg,le_of_ble_eq_true->yv,le_refl->yq,le_trans->y9,lt_of_lt_of_le->yE,min_le_left->ybs,mul_comm->xb,mul_le_mul_right->yL,one_mul->yag,testBit->ve,zero_add->yd
open Option renaming isSome_none->tu,map_none->vV,map_some->wB
open Option.some renaming injEq->yb
open PUnit renaming unit->yaa
open Prod.mk renaming injEq->yj
open UInt8 renaming toNat->xe,toNat_inj->yba
open Option renaming some->D5,none->D6
open Bool renaming true->ycG,false->ycH
def vC:=@and_true
def tD:=@beq_iff_eq
def tz:=@beq_self_eq_true
def yJ:=@cond_false
def yr:=@cond_true
def yax:=@decide_eq_decide
def yW:=@decide_eq_false
def yU:=@decide_eq_true
def vh:=@decide_eq_true_eq
def xf:=@decide_false
def xa:=@decide_true
def xq:=@if_false
def yx:=@if_neg
def yN:=@if_pos
def xN:=@if_true
def ycB:=@not_false_eq_true
def ycC:=@not_true_eq_false
namespace VE
section
open Go (IntKind FloatKind BinOp UnOp)
inductive Fr where
 | f (n:Nat)
 | y (l:Nat)
 deriving DecidableEq,Inhabited
inductive AV where
 | int (k:yZ) (n:Int)
 | bool (b:Bool)
 | au (k:xO) (bits:Nat)
 | cK (k:xO) (re im:Nat)
 | str (s:List Nat)
 | jq
 | ptr (id off:Nat)
 | bJ (cells:List AV)
 | ah
 | aq (ex:Bool) (n:Nat) (cells:List AV)
 | cu (ex:Bool) (sz n:Nat) (cells:List AV)
 | av (id off n:Nat)
 | fn (f:Fr) (first cap:List AV)
 | fR
 | iw
 | map (id:Nat)
 | iz (ks vs:List AV)
 | it (id:Nat)
 | agg (cells:List AV)
 | ay (vs:List AV)
 | undef
 deriving Inhabited
inductive X where
 | t (i:Nat)
 | c (v:AV)
 deriving Inhabited
inductive Conv where
 | toInt (k:yZ)
 | toFlt (k:xO)
 | str
 | re
 | im
 deriving Inhabited
inductive Md where
 | pure | own | heap | dyn
 deriving Inhabited
inductive Cut where
 | str
 | sl (sz:Nat)
 | ar (len sz:Nat)
 deriving Inhabited
inductive Oo where
 | b | sl | fn | ag (ks:List Nat)
 deriving Inhabited
inductive Op where
 | pU (x:X)
 | pick (c a b:X)
 | box (sz:Nat) (x:X)
 | CZ (zero:List AV) (parts:List (Nat×Nat×X))
 | iY (n sz:Nat) (zero:List AV) (parts:List (Nat×Nat×X))
 | ld (sz:Nat) (ag:Bool) (x:X)
 | st (sz:Nat) (x v:X)
 | IT (x:X)
 | bin (op:wJ) (x y:X)
 | eq (ne:Bool) (k:Oo) (x y:X)
 | un (op:ycl) (x:X)
 | cv (k:Conv) (x:X)
 | Fm (f:Fr) (first cap:List X)
 | Ao
 | oh (sz bytes:Nat) (zero:List AV) (len cap:X)
 | pV (k:Cut) (x:X) (lo hi:Option X)
 | off (k:Nat) (x:X)
 | JM (o sz:Nat) (ag:Bool) (x:X)
 | bD (sz:Nat) (x i:X)
 | Fo (len sz:Nat) (x i:X)
 | Fp (x i:X)
 | Fq (len sz:Nat) (ag:Bool) (x i:X)
 | Oq (kk:Nat) (zero:AV) (ok:Bool) (m k:X)
 | pW (kk:Nat) (m k v:X)
 | pX (x:X)
 | pY (x:X)
 | ext (i:Nat) (x:X)
 | call (m:Md) (f:X) (xs:List X)
 | iS (rs:List (Nat×Bool×Nat)) (f:X) (xs:List X)
 | kx (rs:List (Nat×Bool×Nat)) (sz:Nat) (x v:X)
 | kQ (rs:List (Nat×Bool×Nat)) (sz bytes:Nat) (s x:X)
 | df (sz bytes:Nat) (s x:X)
 | pZ (sz bytes:Nat) (s x:X)
 | p6 (sz:Nat) (d s:X)
 | len (k:Nat) (x:X)
 | mn (xs:List X)
 | mx (xs:List X)
 | JN (x y:X)
 | ol (n sz:Nat) (zero:List AV) (parts:List (Nat×Nat×X))
 deriving Inhabited
structure aO where
 dst:Option Nat
 guard:Option (Nat×Bool)
 op:Op
 deriving Inhabited
inductive VC where
 | skip
 | nm (ops:List aO)
 | seq (a b:VC)
 | cond (x:X) (a b:VC)
 | dz (id:Nat) (a:VC)
 | kp (live:List Nat)
 | fz (ts:List Nat)
 | loop (live:List Nat) (a:VC)
 | rf (f:X) (ps:List Nat) (assign body:VC)
 | exit (id:Nat)
 | ret
 deriving Inhabited
inductive RV where
 | t (i:Nat)
 | cell (i sz:Nat) (ag:Bool)
 deriving Inhabited
structure az where
 eA:List RV
 body:VC
 deriving Inhabited
inductive sn where
 | none | ret | exit (id:Nat)
 deriving Inhabited,DecidableEq
abbrev Env:=List (Nat×AV)
inductive Obj where
 | cells (rw pu ex:Bool) (sz:Nat) (cs:List AV)
 | mp (rw:Bool) (ks vs:List AV)
 | si (s:List Nat) (pos:Nat)
 | lp (tm:Env) (ps:List Nat) (assign body:VC) (state:Nat) (pending:sn)
 deriving Inhabited
abbrev Hp:=List (Nat×Obj)
structure St where
 tm:Env
 hp:Hp
 ct:Nat
 base:Nat
 deriving Inhabited
inductive Ex where
 | normal
 | ret
 | exit (id:Nat)
 deriving Inhabited,DecidableEq
def aj:Env->Nat->AV
 | [],_=>.undef
 | (j,v)::r,i=>bif yo j i then v else aj r i
def ai:Hp->Nat->Option Obj
 | [],_=>D6
 | (j,o)::r,i=>bif yo j i then D5 o else ai r i
def aV:Hp->Nat->Obj->Hp
 | [],_,_=>[]
 | (j,o)::r,i,u=>bif yo j i then (j,u)::r else (j,o)::aV r i u
def cl:Hp->Nat->Hp
 | [],_=>[]
 | (j,o)::r,i=>bif yo j i then cl r i else (j,o)::cl r i
mutual
def aS:AV->Bool
 | .ptr _ _ | .av _ _ _ | .map _ | .it _ | .cu _ _ _ _=>ycH
 | .fn (.y _) _ _=>ycH
 | .fn (.f _) first cap=>aD first&&aD cap
 | .agg cs=>aD cs
 | .ay vs=>aD vs
 | _=>ycG
def aD:List AV->Bool
 | []=>ycG
 | v::r=>aS v&&aD r
end
def cellsOf:AV->List AV
 | .agg cs=>cs
 | v=>[v]
def dD:AV->Bool
 | .agg _ | .ay _ | .undef | .cu _ _ _ _=>ycH
 | _=>ycG
def b5:List AV->Bool
 | []=>ycG
 | v::r=>dD v&&b5 r
def aw(tm:Env):X->AV
 | .t i=>aj tm i
 | .c v=>v
def db(tm:Env):List X->List AV
 | []=>[]
 | x::r=>aw tm x::db tm r
def slice(o n:Nat)(cs:List AV):List AV:=(cs.drop o).take n
def over(o:Nat)(new cs:List AV):List AV:=cs.take o++new++cs.drop (o+new.length)
mutual
def freeze:Nat->Hp->AV->Option (AV×Hp)
 | 0,_,_=>D6
 | n+1,hp,v=>
  match v with
  | .av id o k=>
   match qF n hp id with
   | some (ex,sz,cs,an)=>
    bif yz (o+k*sz) cs.length then
     D5 (.aq (ex&&yF 0 sz&&yo (o+k*sz) cs.length) k (slice o (k*sz) cs),an)
    else D6
   | none=>D6
  | .ptr id o=>
   match qF n hp id with
   | some (_,_,cs,an)=>D5 (.bJ (cs.drop o),an)
   | none=>D6
  | .map id=>
   match ai hp id with
   | some (.mp _ ks vs)=>bif aD ks&&aD vs then D5 (.iz ks vs,aV hp id (.mp ycH ks vs)) else D6
   | _=>D6
  | .fn (.f g) first cap=>
   match cf n hp first with
   | some (aaB,aX)=>
    match cf n aX cap with
    | some (M6,ic)=>D5 (.fn (.f g) aaB M6,ic)
    | none=>D6
   | none=>D6
  | .agg cs=>match cf n hp cs with | some (cW,an)=>D5 (.agg cW,an) | none=>D6
  | .ay cs=>match cf n hp cs with | some (cW,an)=>D5 (.ay cW,an) | none=>D6
  | v=>bif aS v then D5 (v,hp) else D6
def qF:Nat->Hp->Nat->Option (Bool×Nat×List AV×Hp)
 | 0,_,_=>D6
 | n+1,hp,id=>
  match ai hp id with
  | some (.cells rw pu ex sz cs)=>
   bif pu then D5 (ex,sz,cs,bif rw then aV hp id (.cells ycH ycG ex sz cs) else hp)
   else match cf n hp cs with
    | some (cW,an)=>D5 (ex,sz,cW,aV an id (.cells ycH ycH ex sz cs))
    | none=>D6
  | _=>D6
def cf:Nat->Hp->List AV->Option (List AV×Hp)
 | 0,_,_=>D6
 | _+1,hp,[]=>D5 ([],hp)
 | n+1,hp,v::r=>
  match freeze n hp v with
  | some (v',aX)=>
   match cf n aX r with
   | some (r',ic)=>D5 (v'::r',ic)
   | none=>D6
  | none=>D6
end
def nP(n:Nat)(hp:Hp)(v:AV):Option (AV×Hp):=
 match v with
 | .av id o k=>
  match ai hp id with
  | some (.cells ycG ycG ex sz cs)=>
   bif yz (o+k*sz) cs.length then
    D5 (.cu (ex&&yF 0 sz&&yo (o+k*sz) cs.length) sz k (slice o (k*sz) cs),cl hp id)
   else D6
  | _=>freeze n hp v
 | _=>freeze n hp v
def Mf:List AV->Option (List Nat)
 | []=>D5 []
 | .av id _ _::r=>match Mf r with | some l=>bif l.any (yo id) then D6 else D5 (id::l) | none=>D6
 | v::r=>bif aS v then Mf r else D6
def CE(n:Nat):Hp->List AV->Option (List AV×Hp)
 | hp,[]=>D5 ([],hp)
 | hp,v::r=>
  match nP n hp v with
  | some (v',aX)=>match CE n aX r with | some (r',ic)=>D5 (v'::r',ic) | none=>D6
  | none=>D6
def deep:Nat:=1000
def result(hp:Hp)(v:AV):Option AV:=
 match v with
 | .ay vs=>
  match Mf vs with
  | some _=>match CE deep hp vs with | some (dM,_)=>D5 (.ay dM) | none=>D6
  | none=>match freeze deep hp v with | some (v',_)=>D5 v' | none=>D6
 | v=>match nP deep hp v with | some (v',_)=>D5 v' | none=>D6
def bX:AV->AV
 | .cu ex _ n cs=>.aq ex n cs
 | v=>v
def C0:List AV->List AV
 | []=>[]
 | v::r=>bX v::C0 r
def shut:AV->AV
 | .cu ex _ n cs=>.aq ex n cs
 | .ay vs=>.ay (C0 vs)
 | v=>v
def eQ(hp:Hp)(ct:Nat):AV->AV×Hp×Nat
 | .cu ex sz n cs=>(.av ct 0 n,(ct,.cells ycG ycG ex sz cs)::hp,ct+1)
 | v=>(v,hp,ct)
def jK:Hp->Nat->List AV->List AV×Hp×Nat
 | hp,ct,[]=>([],hp,ct)
 | hp,ct,v::r=>((eQ hp ct v).1::(jK (eQ hp ct v).2.1 (eQ hp ct v).2.2 r).1,(jK (eQ hp ct v).2.1 (eQ hp ct v).2.2 r).2)
def own(hp:Hp)(ct:Nat):AV->AV×Hp×Nat
 | .ay vs=>(.ay (jK hp ct vs).1,(jK hp ct vs).2)
 | v=>eQ hp ct v
mutual
def refs:AV->List Nat
 | .ptr id _=>[id]
 | .av id _ _=>[id]
 | .map id=>[id]
 | .it id=>[id]
 | .fn (.f _) first cap=>eG first++eG cap
 | .fn (.y l) _ _=>[l]
 | .agg cs=>eG cs
 | .ay cs=>eG cs
 | _=>[]
def eG:List AV->List Nat
 | []=>[]
 | v::r=>refs v++eG r
end
def ck:Env->List Nat
 | []=>[]
 | (_,v)::r=>refs v++ck r
def gD:Obj->List Nat
 | .cells _ pu _ _ cs=>bif pu then [] else eG cs
 | .mp _ ks vs=>eG ks++eG vs
 | .si _ _=>[]
 | .lp tm _ _ _ _ _=>ck tm
mutual
def bi(f:Nat->Option Nat):AV->AV
 | .ptr id o=>match f id with | some j=>.ptr j o | none=>.undef
 | .av id o n=>match f id with | some j=>.av j o n | none=>.undef
 | .map id=>match f id with | some j=>.map j | none=>.undef
 | .it id=>match f id with | some j=>.it j | none=>.undef
 | .fn (.f g) first cap=>.fn (.f g) (dd f first) (dd f cap)
 | .fn (.y l) first cap=>match f l with | some j=>.fn (.y j) (dd f first) (dd f cap) | none=>.undef
 | .agg cs=>.agg (dd f cs)
 | .ay cs=>.ay (dd f cs)
 | v=>v
def dd(f:Nat->Option Nat):List AV->List AV
 | []=>[]
 | v::r=>bi f v::dd f r
end
def dt(f:Nat->Option Nat):Env->Env
 | []=>[]
 | (i,v)::r=>(i,bi f v)::dt f r
def fC(f:Nat->Option Nat):Obj->Obj
 | .cells rw pu ex sz cs=>.cells rw pu ex sz (bif pu then cs else dd f cs)
 | .mp rw ks vs=>.mp rw (dd f ks) (dd f vs)
 | .si s pos=>.si s pos
 | .lp tm ps as_ body st pe=>.lp (dt f tm) ps as_ body st pe
def aY(tm:Env):List Nat->Env
 | []=>[]
 | i::r=>(i,aj tm i)::aY tm r
def iA(i:Nat):List Nat->Bool
 | []=>ycH
 | j::r=>bif yo j i then ycG else iA i r
def reach(hp:Hp)(base:Nat):Nat->List Nat->List Nat->List Nat
 | 0,_,seen=>seen
 | _+1,[],seen=>seen
 | n+1,id::b6,seen=>
  bif yF id base||iA id seen then reach hp base n b6 seen
  else match ai hp id with
   | some o=>reach hp base n (gD o++b6) (seen++[id])
   | none=>reach hp base n b6 seen
def bH(base:Nat):Hp->List Nat
 | []=>[]
 | (id,o)::r=>bif yF id base then gD o++bH base r else bH base r
def fS(i:Nat):List Nat->Nat->Option Nat
 | [],_=>D6
 | j::r,k=>bif yo j i then D5 k else fS i r (k+1)
def fA(base:Nat)(seen:List Nat)(id:Nat):Option Nat:=bif yF id base then D5 id else fS id seen base
def eM(base:Nat)(f:Nat->Option Nat):Hp->Hp
 | []=>[]
 | (id,o)::r=>bif yF id base then (id,fC f o)::eM base f r else eM base f r
def dP(hp:Hp)(f:Nat->Option Nat):List Nat->Nat->Hp->Hp
 | [],_,acc=>acc
 | id::r,k,acc=>match ai hp id with | some o=>dP hp f r (k+1) ((k,fC f o)::acc) | none=>dP hp f r (k+1) acc
def bg(live:List Nat)(s:St):St:=
 let tm:=aY s.tm live
 let seen:=reach s.hp s.base 100000 (ck tm++bH s.base s.hp) []
 let f:=fA s.base seen
 {tm:=dt f tm,hp:=dP s.hp f seen s.base (eM s.base f s.hp),ct:=s.base+seen.length,base:=s.base}
def lZ(hp:Hp)(sz:Nat):AV->Option (Nat×List AV)
 | .ah=>D5 (0,[])
 | .aq _ n cs=>bif yo cs.length (n*sz) then D5 (n,cs) else D6
 | .av id o n=>
  match ai hp id with
  | some (.cells _ _ _ _ cs)=>bif yz (o+n*sz) cs.length then D5 (n,slice o (n*sz) cs) else D6
  | _=>D6
 | _=>D6
def LI:List Nat->List AV
 | []=>[]
 | b::r=>.int .u8 b::LI r
def BS:List Nat->List Nat->Bool
 | _,[]=>ycH
 | [],_::_=>ycG
 | a::x,b::y=>yF a b||(yo a b&&BS x y)
def fX:List Nat->List Nat->Bool
 | [],[]=>ycG
 | a::x,b::y=>yo a b&&fX x y
 | _,_=>ycH
def cI:List Nat->List AV->List AV->Option Bool
 | [],[],[]=>D5 ycG
 | 0::ks,.bool a::x,.bool b::y=>match cI ks x y with | some r=>D5 ((a==b)&&r) | none=>D6
 | 1::ks,.int k a::x,.int k' b::y=>if k=k' then (match cI ks x y with | some r=>D5 ((a==b)&&r) | none=>D6) else D6
 | 2::ks,.str a::x,.str b::y=>match cI ks x y with | some r=>D5 (fX a b&&r) | none=>D6
 | _,_,_=>D6
def jr:Oo->AV->AV->Option Bool
 | .b,.bool a,.bool b=>D5 (a==b)
 | .sl,.ah,.ah=>D5 ycG
 | .sl,.ah,.aq _ _ _=>D5 ycH
 | .sl,.ah,.av _ _ _=>D5 ycH
 | .sl,.aq _ _ _,.ah=>D5 ycH
 | .sl,.av _ _ _,.ah=>D5 ycH
 | .fn,.fR,.fR=>D5 ycG
 | .fn,.fR,.fn _ _ _=>D5 ycH
 | .fn,.fn _ _ _,.fR=>D5 ycH
 | .ag ks,.agg a,.agg b=>cI ks a b
 | _,_,_=>D6
def intCmp(op:wJ)(x y:Int):Option Bool:=
 match op with
 | .eql=>D5 (x==y)
 | .neq=>D5 (x !=y)
 | .lss=>D5 (decide (x<y))
 | .leq=>D5 (decide (x<=y))
 | .gtr=>D5 (decide (x>y))
 | .geq=>D5 (decide (x>=y))
 | _=>D6
def lk(op:wJ)(k:yZ)(x y:Int):Option AV:=
 match op with
 | .add=>D5 (.int k (k.wrap (x+y)))
 | .sub=>D5 (.int k (k.wrap (x-y)))
 | .mul=>D5 (.int k (k.wrap (x*y)))
 | .quo=>if y=0 then D6 else D5 (.int k (k.wrap (x.tdiv y)))
 | .rem=>if y=0 then D6 else D5 (.int k (x.tmod y))
 | .and=>D5 (.int k (k.wrap (we k.bits x&&&we k.bits y).toNat))
 | .or=>D5 (.int k (k.wrap (we k.bits x|||we k.bits y).toNat))
 | .xor=>D5 (.int k (k.wrap (we k.bits x^^^we k.bits y).toNat))
 | .andNot=>D5 (.int k (k.wrap (we k.bits x&&&~~~(we k.bits y)).toNat))
 | .shl | .shr=>D6
 | op=>match intCmp op x y with | some b=>D5 (.bool b) | none=>D6
def CF(op:wJ)(k:yZ)(x y:Int):Option AV:=
 if y<0 then D6 else
 match op with
 | .shl=>D5 (.int k (k.wrap (x*2^(min y.toNat k.bits))))
 | .shr=>D5 (.int k (x.fdiv (2^(min y.toNat k.bits))))
 | _=>D6
def Iv(op:wJ)(x y:List Nat):Option AV:=
 match op with
 | .add=>bif yz (x.length+y.length) 9223372036854775807 then D5 (.str (x++y)) else D6
 | .eql=>D5 (.bool (fX x y))
 | .neq=>D5 (.bool (!fX x y))
 | .lss=>D5 (.bool (BS x y))
 | .leq=>D5 (.bool (BS x y||fX x y))
 | .gtr=>D5 (.bool (!(BS x y||fX x y)))
 | .geq=>D5 (.bool (!BS x y))
 | _=>D6
def MC(op:wJ)(k:xO)(x y:Nat):Option AV:=
 let c:=k.format.order x y
 let ar (r:Option Nat):Option AV:=match r with | some b=>D5 (.au k b) | none=>D6
 match op with
 | .add=>ar (k.format.add x y)
 | .sub=>ar (k.format.sub x y)
 | .mul=>ar (k.format.mul x y)
 | .quo=>ar (k.format.div x y)
 | .eql=>D5 (.bool (c==D5 .eq))
 | .neq=>D5 (.bool (c !=D5 .eq))
 | .lss=>D5 (.bool (c==D5 .lt))
 | .leq=>D5 (.bool (c==D5 .lt||c==D5 .eq))
 | .gtr=>D5 (.bool (c==D5 .gt))
 | .geq=>D5 (.bool (c==D5 .gt||c==D5 .eq))
 | _=>D6
def BT(s k:xO)(b:Nat):Option Nat:=
 if s=k then D5 b else
 match s.decode b with
 | .number sg m e=>if (k.decode (k.encode (.number sg m e))).isInfinity then D6 else D5 (k.encode (.number sg m e))
 | _=>D6
def lO(op:wJ)(k:xO)(x y:Nat):Option Nat:=
 match op with
 | .add=>k.format.add x y
 | .sub=>k.format.sub x y
 | .mul=>k.format.mul x y
 | _=>D6
def Rv(k:xO)(a b c d:Nat):Option AV:=
 match BT k .f64 a,BT k .f64 b,BT k .f64 c,BT k .f64 d with
 | some a,D5 b,D5 c,D5 d=>
  match lO .mul .f64 a c,lO .mul .f64 b d,lO .mul .f64 a d,lO .mul .f64 b c with
  | some p,D5 q,D5 r,D5 s=>
   match lO .sub .f64 p q,lO .add .f64 r s with
   | some e,D5 f=>match BT .f64 k e,BT .f64 k f with | some e,D5 f=>D5 (.cK k e f) | _,_=>D6
   | _,_=>D6
  | _,_,_,_=>D6
 | _,_,_,_=>D6
def RZ(op:wJ)(k:xO)(a b c d:Nat):Option AV:=
 match op with
 | .eql=>D5 (.bool (k.format.order a c==D5 .eq&&k.format.order b d==D5 .eq))
 | .neq=>D5 (.bool (!(k.format.order a c==D5 .eq&&k.format.order b d==D5 .eq)))
 | .add=>match lO .add k a c,lO .add k b d with | some r,D5 i=>D5 (.cK k r i) | _,_=>D6
 | .sub=>match lO .sub k a c,lO .sub k b d with | some r,D5 i=>D5 (.cK k r i) | _,_=>D6
 | .mul=>Rv k a b c d
 | _=>D6
def abd(x y:AV):Option AV:=
 match x,y with
 | .au k a,.au k' b=>if k=k' then D5 (.cK k a b) else D6
 | _,_=>D6
def binOp(op:wJ)(x y:AV):Option AV:=
 match x,y with
 | .int k a,.int k' b=>
  match op with
  | .shl | .shr=>CF op k a b
  | _=>if k=k' then lk op k a b else D6
 | .au k a,.au k' b=>if k=k' then MC op k a b else D6
 | .str a,.str b=>Iv op a b
 | .cK k a b,.cK k' c d=>if k=k' then RZ op k a b c d else D6
 | _,_=>D6
def unOp(op:ycl)(x:AV):Option AV:=
 match op,x with
 | .neg,.int k n=>D5 (.int k (k.wrap (0-n)))
 | .xor,.int k n=>lk .xor k (if k.signed then -1 else k.max) n
 | .not,.bool b=>D5 (.bool !b)
 | .neg,.au k b=>D5 (.au k (b^^^2^(k.format.exponentBits+k.format.fractionBits)))
 | _,_=>D6
def kM(c:Conv)(x:AV):Option AV:=
 match c,x with
 | .toInt k,.int _ n=>D5 (.int k (k.wrap n))
 | .toFlt k,.int _ n=>D5 (.au k (k.nearest n))
 | .toInt k,.au s b=>
  match (s.decode b).toInt .zero with
  | some n=>if k.min<=n/\n<=k.max then D5 (.int k n) else D6
  | none=>D6
 | .toFlt k,.au s b=>
  if s=k then D5 (.au k b) else
  match s.decode b with
  | .number sg m e=>if (k.decode (k.encode (.number sg m e))).isInfinity then D6 else D5 (.au k (k.encode (.number sg m e)))
  | _=>D6
 | .str,.str s=>D5 (.str s)
 | .re,.cK k a _=>D5 (.au k a)
 | .im,.cK k _ b=>D5 (.au k b)
 | _,_=>D6
def gN(sz:Nat)(ag:Bool)(cs:List AV):Option AV:=
 bif ag then (bif yz sz cs.length then D5 (.agg (cs.take sz)) else D6)
 else match cs with | v::_=>D5 v | []=>D6
def cF(x:AV):Option Nat:=
 match x with
 | .int _ n=>match n with | .ofNat k=>D5 k | .negSucc _=>D6
 | _=>D6
def cC(tm:Env)(d:Nat):Option X->Option Nat
 | none=>D5 d
 | some x=>cF (aw tm x)
def eP(hp:Hp)(k:Cut)(x:AV)(tm:Env)(lo hi:Option X):Option AV:=
 match k,x with
 | .str,.str s=>
  match cC tm 0 lo,cC tm s.length hi with
  | some l,D5 h=>bif yz l h&&yz h s.length then D5 (.str ((s.take h).drop l)) else D6
  | _,_=>D6
 | .sl _,.ah=>
  match cC tm 0 lo,cC tm 0 hi with
  | some 0,D5 0=>D5 .ah
  | _,_=>D6
 | .sl sz,.aq ex n cs=>
  match cC tm 0 lo,cC tm n hi with
  | some l,D5 h=>bif yz l h&&yz h n then D5 (.aq (ex&&yo h n) (h-l) (slice (l*sz) ((h-l)*sz) cs)) else D6
  | _,_=>D6
 | .sl sz,.av id o n=>
  match ai hp id with
  | some (.cells _ _ _ z _)=>
   match cC tm 0 lo,cC tm n hi with
   | some l,D5 h=>
    bif yz l h&&yz h n&&yo z sz then
     bif yo l h&& !yo l 0 then D5 (.aq ycH 0 []) else D5 (.av id (o+l*sz) (h-l))
    else D6
   | _,_=>D6
  | _=>D6
 | .ar n s,.bJ cs=>
  match cC tm 0 lo,cC tm n hi with
  | some l,D5 h=>bif yo l 0&&yo h n&&(yF 0 n&&yz (n*s) cs.length) then D5 (.aq ycG n (cs.take (n*s))) else D6
  | _,_=>D6
 | _,_=>D6
def fill(tm:Env):List AV->List (Nat×Nat×X)->Option (List AV)
 | cs,[]=>D5 cs
 | cs,(o,sz,x)::r=>
  let new:=cellsOf (aw tm x)
  bif yo new.length sz&&yz (o+sz) cs.length&&b5 new then fill tm (over o new cs) r else D6
def nX:AV->AV->Option Bool
 | .int k a,.int k' b=>if k=k' then D5 (a==b) else D6
 | .str a,.str b=>D5 (fX a b)
 | .bool a,.bool b=>D5 (a==b)
 | .agg a,.agg b=>cI (yy a.length 1) a b
 | _,_=>D6
def nM:Nat->AV->Bool
 | 0,.bool _=>ycG
 | 1,.int _ _=>ycG
 | 2,.str _=>ycG
 | n+3,.agg cs=>yo cs.length n
 | _,_=>ycH
def C1(k:AV):List AV->List AV->Option (Option AV)
 | [],_=>D5 D6
 | k'::ks,v::vs=>match nX k k' with | some ycG=>D5 (D5 v) | some ycH=>C1 k ks vs | none=>D6
 | _::_,[]=>D6
def Aa(k v:AV):List AV->List AV->Option (List AV×List AV)
 | [],[]=>D5 ([k],[v])
 | k'::ks,u::us=>
  match nX k k' with
  | some ycG=>D5 (k'::ks,v::us)
  | some ycH=>match Aa k v ks us with | some (ky,JO)=>D5 (k'::ky,u::JO) | none=>D6
  | none=>D6
 | _,_=>D6
def min2:AV->AV->Option AV
 | .int k x,.int _ y=>D5 (.int k (if y<x then y else x))
 | .au k x,.au _ y=>
  match k.format.order x y with
  | none=>D6
  | some .lt=>D5 (.au k x)
  | some .gt=>D5 (.au k y)
  | some .eq=>D5 (.au k (if (k.decode x).neg then x else y))
 | _,_=>D6
def max2:AV->AV->Option AV
 | .int k x,.int _ y=>D5 (.int k (if y>x then y else x))
 | .au k x,.au _ y=>
  match k.format.order x y with
  | none=>D6
  | some .lt=>D5 (.au k y)
  | some .gt=>D5 (.au k x)
  | some .eq=>D5 (.au k (if (k.decode x).neg then y else x))
 | _,_=>D6
def Bn(f:AV->AV->Option AV):AV->List AV->Option AV
 | a,[]=>D5 a
 | a,b::r=>match f a b with | some c=>Bn f c r | none=>D6
def room:Nat:=1099511627776
abbrev fY:=Option (AV×Hp×Nat)
def fD(hp:Hp)(sz:Nat)(ag:Bool):AV->Option AV
 | .ptr id o=>match ai hp id with | some (.cells _ _ _ _ cs)=>gN sz ag (cs.drop o) | _=>D6
 | .bJ cs=>gN sz ag cs
 | _=>D6
def Bo(k:Nat):AV->Option AV
 | .ptr id o=>D5 (.ptr id (o+k))
 | .bJ cs=>bif yz k cs.length then D5 (.bJ (cs.drop k)) else D6
 | _=>D6
def MD(o sz:Nat)(ag:Bool):AV->Option AV
 | .agg cs=>gN sz ag (cs.drop o)
 | _=>D6
def jn(sz i:Nat):AV->Option AV
 | .av id o n=>bif yF i n then D5 (.ptr id (o+i*sz)) else D6
 | .aq _ n cs=>bif yF i n then D5 (.bJ (cs.drop (i*sz))) else D6
 | _=>D6
def ME(len sz i:Nat):AV->Option AV
 | .ptr id o=>bif yF i len then D5 (.ptr id (o+i*sz)) else D6
 | .bJ cs=>bif yF i len then D5 (.bJ (cs.drop (i*sz))) else D6
 | _=>D6
def Bp(i:Nat):AV->Option AV
 | .str s=>match s[i]? with | some b=>D5 (.int .u8 b) | none=>D6
 | _=>D6
def MF(len sz:Nat)(ag:Bool)(i:Nat):AV->Option AV
 | .agg cs=>bif yF i len then gN sz ag (cs.drop (i*sz)) else D6
 | _=>D6
def Bq(hp:Hp)(k:AV):AV->Option (Option AV)
 | .iw=>D5 D6
 | .map id=>match ai hp id with | some (.mp _ ks vs)=>C1 k ks vs | _=>D6
 | .iz ks vs=>C1 k ks vs
 | _=>D6
def iT(hp:Hp):Nat->AV->Option AV
 | 0,.str s=>D5 (.int .i64 s.length)
 | 1,.ah=>D5 (.int .i64 0)
 | 1,.aq _ n _=>D5 (.int .i64 n)
 | 1,.av _ _ n=>D5 (.int .i64 n)
 | 2,.iw=>D5 (.int .i64 0)
 | 2,.iz ks _=>D5 (.int .i64 ks.length)
 | 2,.map id=>match ai hp id with | some (.mp _ ks _)=>D5 (.int .i64 ks.length) | _=>D6
 | _,_=>D6
def a7(tm:Env)(hp:Hp):Op->Option AV
 | .pU x=>D5 (aw tm x)
 | .pick c a b=>match aw tm c with | .bool t=>D5 (bif t then aw tm a else aw tm b) | _=>D6
 | .CZ zero parts=>match fill tm zero parts with | some cs=>D5 (.agg cs) | none=>D6
 | .ld sz ag x=>fD hp sz ag (aw tm x)
 | .IT x=>
  match aw tm x with
  | .ptr id o=>D5 (.ptr id o)
  | .bJ cs=>D5 (.bJ cs)
  | .fn f a b=>D5 (.fn f a b)
  | _=>D6
 | .bin op x y=>binOp op (aw tm x) (aw tm y)
 | .eq ne k x y=>match jr k (aw tm x) (aw tm y) with | some r=>D5 (.bool (ne !=r)) | none=>D6
 | .un op x=>unOp op (aw tm x)
 | .cv k x=>kM k (aw tm x)
 | .JN x y=>abd (aw tm x) (aw tm y)
 | .ol n sz zero parts=>
  match fill tm zero parts with
  | some cs=>bif yo cs.length (n*sz)&&(yF 0 sz&&aD cs) then D5 (.aq ycG n cs) else D6
  | none=>D6
 | .Fm f first cap=>D5 (.fn f (db tm first) (db tm cap))
 | .pV k x lo hi=>eP hp k (aw tm x) tm lo hi
 | .off k x=>Bo k (aw tm x)
 | .JM o sz ag x=>MD o sz ag (aw tm x)
 | .bD sz x i=>match cF (aw tm i) with | some j=>jn sz j (aw tm x) | none=>D6
 | .Fo len sz x i=>match cF (aw tm i) with | some j=>ME len sz j (aw tm x) | none=>D6
 | .Fp x i=>match cF (aw tm i) with | some j=>Bp j (aw tm x) | none=>D6
 | .Fq len sz ag x i=>match cF (aw tm i) with | some j=>MF len sz ag j (aw tm x) | none=>D6
 | .Oq kk zero ok m k=>
  bif nM kk (aw tm k) then
   match Bq hp (aw tm k) (aw tm m) with
   | some (D5 v)=>D5 (bif ok then .ay [v,.bool ycG] else v)
   | some D6=>D5 (bif ok then .ay [zero,.bool ycH] else zero)
   | none=>D6
  else D6
 | .ext i x=>match aw tm x with | .ay vs=>vs[i]? | _=>D6
 | .len k x=>iT hp k (aw tm x)
 | .mn xs=>match db tm xs with | a::r=>Bn min2 a r | []=>D6
 | .mx xs=>match db tm xs with | a::r=>Bn max2 a r | []=>D6
 | _=>D6
def cg(tm:Env)(hp:Hp)(ct:Nat):Op->Option (AV×Obj)
 | .box sz x=>
  let cs:=cellsOf (aw tm x)
  bif yo cs.length sz&&b5 cs then D5 (.ptr ct 0,.cells ycG (aD cs) ycG sz cs) else D6
 | .iY n sz zero parts=>
  match fill tm zero parts with
  | some cs=>bif yo cs.length (n*sz) then D5 (.av ct 0 n,.cells ycG (aD cs) ycG sz cs) else D6
  | none=>D6
 | .oh sz bytes zero len cap=>
  match cF (aw tm len),cF (aw tm cap) with
  | some l,D5 c=>
   bif yz l c&&(yz c room&&(yz (c*bytes) room&&(yo zero.length sz&&b5 zero))) then
    D5 (.av ct 0 l,.cells ycG (aD zero) (yo l c) sz (yy l zero).flatten)
   else D6
  | _,_=>D6
 | .Ao=>D5 (.map ct,.mp ycG [] [])
 | .pX x=>match aw tm x with | .str s=>D5 (.it ct,.si s 0) | _=>D6
 | _=>D6
def decodeL(s:List Nat)(i:Nat):Nat×Nat:=
 let at' (k:Nat):Nat:=s.getD (i+k) 0
 let cont (k:Nat):Bool:=decide (i+k<s.length)&&at' k/64==2
 let b0:=at' 0
 if b0<0x80 then (b0,1)
 else if b0/32==6&&cont 1 then
  let c:=(b0%32)*64+at' 1%64
  if c>=0x80 then (c,2) else (um,1)
 else if b0/16==14&&cont 1&&cont 2 then
  let c:=(b0%16)*4096+(at' 1%64)*64+at' 2%64
  if c>=0x800&&yaZ c then (c,3) else (um,1)
 else if b0/8==30&&cont 1&&cont 2&&cont 3 then
  let c:=(b0%8)*262144+(at' 1%64)*4096+(at' 2%64)*64+at' 3%64
  if c>=0x10000&&yaZ c then (c,4) else (um,1)
 else (um,1)
def iq(hp:Hp)(sz:Nat):AV->Option (Nat×List AV)
 | .str b=>bif yo sz 1 then D5 (b.length,LI b) else D6
 | v=>lZ hp sz v
def sc(hp:Hp)(ct sz bytes:Nat)(s:AV)(src:Option (Nat×List AV)):Option (AV×Obj):=
 match src with
 | none=>D6
 | some (m,new)=>
  match s with
  | .av id o n=>
   match ai hp id with
   | some (.cells _ pu ycG z cs)=>
    bif yo z sz&&(yF 0 m&&(yz (n+m) room&&(yz ((n+m)*bytes) room&&(yo (o+n*sz) cs.length&&yF 0 sz)))) then
     D5 (.av ct 0 (n+m),.cells ycG (pu&&aD new) ycH sz (slice o (n*sz) cs++new))
    else D6
   | _=>D6
  | _=>D6
def bV(tm:Env)(hp:Hp)(ct:Nat):Op->fY
 | .st sz x v=>
  let new:=cellsOf (aw tm v)
  match aw tm x with
  | .ptr id o=>
   match ai hp id with
   | some (.cells ycG pu ex z cs)=>
    bif yo new.length sz&&yz (o+sz) cs.length&&b5 new then
     D5 (.ay [],aV hp id (.cells ycG (pu&&aD new) ex z (over o new cs)),ct)
    else D6
   | _=>D6
  | _=>D6
 | .pW kk m k v=>
  match aw tm m with
  | .map id=>
   match ai hp id with
   | some (.mp ycG ks vs)=>bif !nM kk (aw tm k) then D6 else match Aa (aw tm k) (aw tm v) ks vs with | some (ky,dM)=>D5 (.ay [],aV hp id (.mp ycG ky dM),ct) | none=>D6
   | _=>D6
  | _=>D6
 | .pY x=>
  match aw tm x with
  | .it id=>
   match ai hp id with
   | some (.si s pos)=>
    bif yF pos s.length then
     match decodeL s pos with
     | (c,wd)=>D5 (.ay [.bool ycG,.int .i64 pos,.int .i32 c],aV hp id (.si s (pos+wd)),ct)
    else D5 (.ay [.bool ycH],hp,ct)
   | _=>D6
  | _=>D6
 | .df sz bytes s x=>
  match iq hp sz (aw tm x) with
  | none=>D6
  | some (m,new)=>
   match aw tm s with
   | .ah=>
    bif yo m 0 then D5 (.ah,hp,ct)
    else bif yz m room&&(yz (m*bytes) room&&yF 0 sz) then D5 (.av ct 0 m,(ct,.cells ycG (aD new) ycH sz new)::hp,ct+1) else D6
   | .aq ycG n cs=>
    bif yo m 0 then D5 (.aq ycG n cs,hp,ct)
    else bif yz (n+m) room&&(yz ((n+m)*bytes) room&&(yo cs.length (n*sz)&&yF 0 sz)) then D5 (.av ct 0 (n+m),(ct,.cells ycG (aD cs&&aD new) ycH sz (cs++new))::hp,ct+1) else D6
   | .av id o n=>
    match ai hp id with
    | some (.cells ycG pu _ z cs)=>
     bif yo z sz&&(yz (n+m) room&&(yz ((n+m)*bytes) room&&(yz (o+n*sz) cs.length&&(yF 0 sz&&b5 new)))) then
      D5 (.av ct 0 (n+m),(ct,.cells ycG (pu&&aD new) ycH sz (slice o (n*sz) cs++new))::cl hp id,ct+1)
     else D6
    | _=>D6
   | _=>D6
 | .p6 sz d s=>
  match lZ hp sz (aw tm s),aw tm d with
  | some (m,new),.av id o n=>
   match ai hp id with
   | some (.cells ycG pu ex z cs)=>
    bif yo z sz&&(yz (o+n*sz) cs.length&&b5 new) then
     D5 (.int .i64 (min m n:Nat),aV hp id (.cells ycG (pu&&aD new) ex z (over o (new.take (min m n*sz)) cs)),ct)
    else D6
   | _=>D6
  | _,_=>D6
 | _=>D6
def iU:X->List Nat | .t i=>[i] | .c _=>[]
def zH:List X->List Nat
 | []=>[]
 | x::r=>iU x++zH r
def Iw:Option X->List Nat | some x=>iU x | none=>[]
def Ix:List (Nat×Nat×X)->List Nat
 | []=>[]
 | (_,_,x)::r=>iU x++Ix r
def jE:Op->List Nat
 | .pU x | .box _ x | .ld _ _ x | .IT x | .un _ x | .cv _ x | .off _ x | .JM _ _ _ x | .pX x | .pY x | .ext _ x | .len _ x=>iU x
 | .pick a b c | .pW _ a b c=>iU a++(iU b++iU c)
 | .CZ _ ps | .iY _ _ _ ps | .ol _ _ _ ps=>Ix ps
 | .st _ a b | .bin _ a b | .JN a b | .eq _ _ a b | .bD _ a b | .Fo _ _ a b | .Fp a b | .Fq _ _ _ a b | .Oq _ _ _ a b | .df _ _ a b | .pZ _ _ a b | .p6 _ a b=>iU a++iU b
 | .Fm _ a b=>zH a++zH b
 | .Ao=>[]
 | .oh _ _ _ a b=>iU a++iU b
 | .pV _ x a b=>iU x++(Iw a++Iw b)
 | .call _ f xs=>iU f++zH xs
 | .iS _ f xs=>iU f++zH xs
 | .kx _ _ a b=>iU a++iU b
 | .kQ _ _ _ a b=>iU a++iU b
 | .mn xs | .mx xs=>zH xs
def bf:Op->Nat
 | .pU _ | .pick _ _ _ | .CZ _ _ | .IT _ | .bin _ _ _ | .eq _ _ _ _ | .un _ _ | .cv _ _ | .Fm _ _ _ | .off _ _ | .JM _ _ _ _ | .bD _ _ _ | .Fo _ _ _ _ | .Fp _ _ | .Fq _ _ _ _ _ | .ext _ _ | .mn _ | .mx _ | .JN _ _ | .ol _ _ _ _=>0
 | .pV .str _ _ _ | .len 0 _ | .len 1 _=>0
 | .st _ _ _ | .pW _ _ _ _ | .pY _ | .df _ _ _ _ | .p6 _ _ _ | .iS _ _ _ | .kx _ _ _ _ | .kQ _ _ _ _ _ | .call .heap _ _ | .call .dyn _ _=>2
 | _=>1
def R0:Option (Nat×Bool)->List Nat | some (t,_)=>[t] | none=>[]
def CL(o:aO):List Nat:=R0 o.guard++jE o.op
def EY(d:Option Nat)(l:List Nat):Bool:=match d with | some i=>iA i l | none=>ycH
def R1(d e:Option Nat):Bool:=match d,e with | some i,D5 j=>yo i j | _,_=>ycH
def Lp(a b:aO):Bool:=EY a.dst (CL b)||EY b.dst (CL a)||R1 a.dst b.dst
def Dg(sz:Nat)(ag:Bool)(t:Nat):List (Nat×Bool×Nat)->Bool
 | []=>ycH
 | (s,g,u)::r=>(yo s sz&&(g==ag&&yo u t))||Dg sz ag t r
def C2(t:Nat):List aO->Bool
 | []=>ycG
 | o::r=> !EY o.dst [t]&&C2 t r
def Hx(a b:aO)(r:List aO):Bool:=
 match a.guard,a.op,b.op with
 | none,.ld sz ag (.t t),.iS rs _ _=>Dg sz ag t rs&&C2 t (a::r)
 | none,.ld sz ag (.t t),.kx rs _ _ _=>Dg sz ag t rs&&C2 t (a::r)
 | none,.ld sz ag (.t t),.kQ rs _ _ _ _=>Dg sz ag t rs&&C2 t (a::r)
 | _,_,_=>ycH
def Hd(a b:aO):Bool:=
 match bf a.op,bf b.op with
 | 1,2 | 2,1 | 2,2=>ycG
 | _,_=>ycH
def Lq(m:Nat)(b:aO):List aO->Nat->Bool
 | [],_=>ycG
 | a::r,i=>(ve m i|| !(Lp a b||(Hd a b&& !Hx a b r)))&&Lq m b r (i+1)
def oV(done:List aO):List aO->List Nat->Bool
 | [],_=>ycG
 | b::r,m::ms=>Lq m b done 0&&oV (done++[b]) r ms
 | _::_,[]=>ycH
def Hy(m:Nat):List aO->Nat->List (Nat×Bool×Nat)
 | [],_=>[]
 | a::r,i=>
  match ve m i,a with
  | false,⟨_,D6,.ld sz ag (.t t)⟩=>(sz,ag,t)::Hy m r (i+1)
  | _,_=>Hy m r (i+1)
def stOp(rs:List (Nat×Bool×Nat))(sz:Nat)(x v:X):Op:=match rs with | []=>.st sz x v | rs=>.kx rs sz x v
def acA(rs:List (Nat×Bool×Nat))(sz b:Nat)(x v:X):Op:=match rs with | []=>.df sz b x v | rs=>.kQ rs sz b x v
def kh(done:List aO):List aO->List Nat->List aO
 | ⟨d,g,.iS _ f xs⟩::r,m::ms=>let o:aO:=⟨d,g,.iS (Hy m done 0) f xs⟩;o::kh (done++[o]) r ms
 | ⟨d,g,.st sz x v⟩::r,m::ms=>let o:aO:=⟨d,g,stOp (Hy m done 0) sz x v⟩;o::kh (done++[o]) r ms
 | ⟨d,g,.df sz b x v⟩::r,m::ms=>let o:aO:=⟨d,g,acA (Hy m done 0) sz b x v⟩;o::kh (done++[o]) r ms
 | o::r,_::ms=>o::kh (done++[o]) r ms
 | l,_=>l
def aaC(done:List aO):X->Bool
 | .t i=>done.any fun o=>match o.dst,o.op with | some j,.iY _ _ _ _=>yo i j | _,_=>ycH
 | _=>ycH
def ES(done:List aO):List aO->List aO
 | []=>[]
 | o::r=>(match o.op with | .df sz b x v=>bif aaC done x then ⟨o.dst,o.guard,.pZ sz b x v⟩ else o | _=>o)::ES (done++[o]) r
def Mg(d:Option Nat):List aO->Bool
 | []=>ycH
 | ⟨_,_,.df _ _ _ (.t i)⟩::r=>R1 d (D5 i)||Mg d r
 | _::r=>Mg d r
def C3(all:List aO):List aO->List aO
 | []=>[]
 | o::r=>(match o.op with | .iY n sz z ps=>bif Mg o.dst all then ⟨o.dst,o.guard,.ol n sz z ps⟩ else o | _=>o)::C3 all r
def waits(m:Nat):List aO->Nat->Bool
 | [],_=>ycH
 | o::r,i=>(ve m i&&yo (bf o.op) 2)||waits m r (i+1)
def early(all:List aO):List aO->List Nat->Nat->List Nat
 | o::r,m::ms,i=>bif !yo (bf o.op) 2&& !waits m all 0 then i::early all r ms (i+1) else early all r ms (i+1)
 | _,_,_=>[]
def late(all:List aO):List aO->List Nat->Nat->List Nat
 | o::r,m::ms,i=>bif !yo (bf o.op) 2&& !waits m all 0 then late all r ms (i+1) else i::late all r ms (i+1)
 | _,_,_=>[]
def places(l:List aO)(ms:List Nat):List Nat:=early l l ms 0++late l l ms 0
def Eu(m:Nat):List Nat->Nat->Nat
 | [],_=>0
 | x::r,i=>(bif ve m x then 2^i else 0)|||Eu m r (i+1)
def Br(l:List aO):List Nat->List aO
 | []=>[]
 | x::r=>match l[x]? with | some o=>o::Br l r | none=>Br l r
def A8(ms pm all:List Nat):List Nat->List Nat
 | []=>[]
 | x::r=>Eu (ms.getD x 0) pm 0::A8 ms pm all r
def HI(n:Nat)(pm inv:List Nat):Bool:=
 yo pm.length n&&(wE n).all fun i=>yF (pm.getD i i) n&&(yF (inv.getD i i) n&&(yo (inv.getD (pm.getD i i) i) i&&yo (pm.getD (inv.getD i i) i) i))
def sd(pm:List Nat)(n:Nat):List Nat:=(wE n).map fun x=>(fS x pm 0).getD x
abbrev aE:=Nat->Option az
structure Lib where
 pure:Nat->Option (List AV->Option AV)
 heap:Nat->Option (Hp->Nat->List AV->fY)
abbrev bZ:=VC->St->Option (Ex×St)
def eL:Nat->List AV->Env
 | _,[]=>[]
 | i,v::r=>(i,v)::eL (i+1) r
def results1(s:St):RV->Option AV
 | .t i=>D5 (aj s.tm i)
 | .cell i sz ag=>
  match aj s.tm i with
  | .ptr id o=>match ai s.hp id with | some (.cells _ _ _ _ cs)=>gN sz ag (cs.drop o) | _=>D6
  | .bJ cs=>gN sz ag cs
  | _=>D6
def kY(s:St):List RV->Option (List AV)
 | []=>D5 []
 | r::rest=>match results1 s r,kY s rest with | some v,D5 vs=>D5 (v::vs) | _,_=>D6
def ig(s:St)(rs:List RV):Option AV:=
 match kY s rs with
 | some [v]=>D5 v
 | some vs=>D5 (.ay vs)
 | none=>D6
def bQ(P:aE)(L:Lib)(self:bZ)(n:Nat)(ap:List AV):Option AV:=
 match L.pure n with
 | some sp=>sp ap
 | none=>
  match P n with
  | none=>D6
  | some F=>
   match self F.body ⟨eL 0 ap,[],0,0⟩ with
   | some (.normal,s) | some (.ret,s)=>match ig s F.eA with | some v=>result s.hp v | none=>D6
   | _=>D6
def Rw:Ex->sn
 | .normal=>.none
 | .ret=>.ret
 | .exit id=>.exit id
def qK:Env->List Nat->List AV->Option Env
 | tm,[],[]=>D5 tm
 | tm,p::ps,v::vs=>qK ((p,v)::tm) ps vs
 | _,_,_=>D6
def ir(P:aE)(L:Lib)(self:bZ)(hp:Hp)(ct:Nat)(n:Nat)(ap:List AV):fY:=
 match L.heap n with
 | some sp=>sp hp ct ap
 | none=>
  match P n with
  | none=>D6
  | some F=>
   match self F.body ⟨eL 0 ap,hp,ct,ct⟩ with
   | some (.normal,s) | some (.ret,s)=>match ig s F.eA with | some v=>D5 (v,s.hp,s.ct) | none=>D6
   | _=>D6
def iP(self:bZ)(hp:Hp)(ct:Nat)(l:Nat)(xs:List AV):fY:=
 match ai hp l with
 | some (.lp tm ps as_ body 0 _)=>
  match qK tm ps xs with
  | none=>D6
  | some tm'=>
   match self as_ ⟨tm',hp,ct,ct⟩ with
   | some (.normal,s1)=>
    match ai s1.hp l with
    | some (.lp gO sR BU C4 0 p7)=>
     match self body ⟨s1.tm,aV s1.hp l (.lp gO sR BU C4 1 p7),s1.ct,s1.ct⟩ with
     | some (ex,s2)=>
      match ai s2.hp l with
      | some (.lp om Ap JP Iy 1 _)=>
       match ex with
       | .normal=>D5 (.bool ycG,aV s2.hp l (.lp om Ap JP Iy 0 .none),s2.ct)
       | ex=>D5 (.bool ycH,aV s2.hp l (.lp om Ap JP Iy 2 (Rw ex)),s2.ct)
      | _=>D6
     | none=>D6
    | _=>D6
   | _=>D6
 | _=>D6
def eb(P:aE)(L:Lib)(self:bZ)(hp:Hp)(ct:Nat)(m:Md)(fv:AV)(xs:List AV):fY:=
 match fv with
 | .fn (.f n) first cap=>
  match m with
  | .pure=>
   match cf deep hp (first++(xs++cap)) with
   | some (ap,aX)=>match bQ P L self n ap with | some r=>D5 (shut r,aX,ct) | none=>D6
   | none=>D6
  | .own=>
   match cf deep hp (first++(xs++cap)) with
   | some (ap,aX)=>match bQ P L self n ap with | some r=>D5 (own aX ct r) | none=>D6
   | none=>D6
  | .heap=>ir P L self hp ct n (first++(xs++cap))
  | .dyn=>
   bif aD (first++(xs++cap)) then
    match bQ P L self n (first++(xs++cap)) with | some r=>D5 (shut r,hp,ct) | none=>D6
   else ir P L self hp ct n (first++(xs++cap))
 | .fn (.y l) _ _=>
  match m with
  | .heap | .dyn=>iP self hp ct l xs
  | _=>D6
 | _=>D6
def SF:AV->AV->Bool
 | .int k a,.int k' b=>decide (k=k')&&a==b
 | .bool a,.bool b=>a==b
 | .str a,.str b=>fX a b
 | .ah,.ah=>ycG
 | .jq,.jq=>ycG
 | .ptr i o,.ptr j p=>yo i j&&yo o p
 | .av i o n,.av j p m=>yo i j&&(yo o p&&yo n m)
 | .map i,.map j=>yo i j
 | _,_=>ycH
def oW(tm:Env)(hp an:Hp):List (Nat×Bool×Nat)->Bool
 | []=>ycG
 | (sz,ag,x)::r=>
  match fD hp sz ag (aj tm x),fD an sz ag (aj tm x) with
  | some a,D5 b=>SF a b&&oW tm hp an r
  | _,_=>ycH
def lf(tm:Env)(id:Nat):List (Nat×Bool×Nat)->Bool
 | []=>ycG
 | (_,_,x)::r=>(match aj tm x with | .ptr j _=> !yo j id | .bJ _=>ycG | _=>ycH)&&lf tm id r
def EZ(tm:Env)(s:AV)(rs:List (Nat×Bool×Nat)):Bool:=
 match s with
 | .av id _ _=>lf tm id rs
 | .ah | .aq _ _ _=>ycG
 | _=>ycH
def aW(P:aE)(L:Lib)(self:bZ)(tm:Env)(hp:Hp)(ct:Nat)(o:Op):fY:=
 match o with
 | .call m f xs=>eb P L self hp ct m (aw tm f) (db tm xs)
 | .iS rs f xs=>
  match eb P L self hp ct .dyn (aw tm f) (db tm xs) with
  | some (v,an,aK)=>bif oW tm hp an rs then D5 (v,an,aK) else D6
  | none=>D6
 | .kx rs sz x v=>
  match aw tm x with
  | .ptr id _=>bif lf tm id rs then bV tm hp ct (.st sz x v) else D6
  | _=>D6
 | .pZ sz b x v=>
  match sc hp ct sz b (aw tm x) (iq hp sz (aw tm v)) with
  | some (v,b)=>D5 (v,(ct,b)::hp,ct+1)
  | none=>D6
 | .kQ rs sz b x v=>
  match bV tm hp ct (.df sz b x v) with
  | some (v,an,aK)=>bif EZ tm (aw tm x) rs||oW tm hp an rs then D5 (v,an,aK) else D6
  | none=>D6
 | .st .. | .pW .. | .pY .. | .df .. | .p6 .. =>bV tm hp ct o
 | .box .. | .iY .. | .oh .. | .Ao | .pX .. =>match cg tm hp ct o with | some (v,b)=>D5 (v,(ct,b)::hp,ct+1) | none=>D6
 | o=>match a7 tm hp o with | some v=>D5 (v,hp,ct) | none=>D6
def put(d:Option Nat)(v:AV)(tm:Env):Env:=
 match d with
 | some i=>(i,v)::tm
 | none=>tm
def cJ(P:aE)(L:Lib)(self:bZ):List aO->St->Option St
 | [],s=>D5 s
 | ⟨d,g,o⟩::r,s=>
  let want:=match g with | none=>D5 ycG | some (t,b)=>match aj s.tm t with | .bool c=>D5 (c==b) | .ay []=>D5 ycH | _=>D6
  match want with
  | some ycG=>
   match aW P L self s.tm s.hp s.ct o with
   | some (v,hp,ct)=>cJ P L self r {s with tm:=put d v s.tm,hp:=hp,ct:=ct}
   | none=>D6
  | some ycH=>cJ P L self r {s with tm:=put d (.ay []) s.tm}
  | none=>D6
def pD:List Nat->St->Option St
 | [],s=>D5 s
 | t::r,s=>
  match freeze deep s.hp (aj s.tm t) with
  | some (v,hp)=>pD r {s with tm:=(t,v)::s.tm,hp:=hp}
  | none=>D6
def br(P:aE)(L:Lib)(self:bZ):VC->St->Option (Ex×St)
 | .skip,s=>D5 (.normal,s)
 | .nm ops,s=>match cJ P L self ops s with | some s'=>D5 (.normal,s') | none=>D6
 | .seq a b,s=>
  match br P L self a s with
  | some (.normal,s1)=>br P L self b s1
  | r=>r
 | .cond x a b,s=>
  match aw s.tm x with
  | .bool t=>bif t then br P L self a s else br P L self b s
  | _=>D6
 | .dz id a,s=>
  match br P L self a s with
  | some (.exit j,s1)=>bif yo j id then D5 (.normal,s1) else D5 (.exit j,s1)
  | r=>r
 | .kp live,s=>D5 (.normal,bg live s)
 | .fz ts,s=>match pD ts s with | some s'=>D5 (.normal,s') | none=>D6
 | .loop live a,s=>
  match br P L self a (bg live s) with
  | some (.normal,s1)=>self (.loop live a) s1
  | r=>r
 | .rf f ps as_ body,s=>
  match aw s.tm f with
  | .fn (.f n) first cap=>
   match L.heap n with
   | some _=>D6
   | none=>
    match ir P L self ((s.ct,.lp s.tm ps as_ body 0 .none)::s.hp) (s.ct+1) n (first++(.fn (.y s.ct) [] []::cap)) with
    | some (_,hp,ct)=>
     match ai hp s.ct with
     | some (.lp _ _ _ _ st pe)=>
      bif yo st 1 then D6 else
      match pe with
      | .none=>D5 (.normal,{s with hp:=cl hp s.ct,ct:=ct})
      | .ret=>D5 (.ret,{s with hp:=cl hp s.ct,ct:=ct})
      | .exit id=>D5 (.exit id,{s with hp:=cl hp s.ct,ct:=ct})
     | _=>D6
    | none=>D6
  | _=>D6
 | .exit id,s=>D5 (.exit id,s)
 | .ret,s=>D5 (.ret,s)
def ev(P:aE)(L:Lib)(n:Nat):bZ:=Nat.rec (fun _ _=>D6) (fun _ ih=>br P L ih) n
def Un(P:aE)(L:Lib)(n:Nat)(f:Nat)(ap:List AV):Option AV:=bQ P L (ev P L n) f ap
end
section
open Go
structure Pl where
 b:Nat
 o:Nat
 e:Nat
 z:Nat
abbrev Mp:=Nat->Option Pl
section
variable (ab:Nat->Nat)(m:Mp)(S:Nat->Prop)(w:yi)
mutual
def ae:AV->yg->Prop
 | .int k n,v=>v=.int k n
 | .bool b,v=>v=.bool b
 | .au k b,v=>v=.float k b
 | .cK k a b,v=>v=.complex k a b
 | .str s,v=>∃t:ByteArray,v=.string t/\t.data.toList.map xe=s
 | .jq,v=>v=.pointer D6
 | .ptr id o,v=>∃p,m id=D5 p/\v=.pointer (D5 ⟨p.b,p.o+o,D6⟩)
 | .bJ cs,v=>∃b o,v=.pointer (D5 ⟨b,o,D6⟩)/\(cs=[]\/S b)/\aD cs=ycG/\bL cs b o
 | .ah,v=>v=.slice D6 0 0
 | .aq ex n cs,v=>(∃b o c,v=.slice (D5 ⟨b,o,D6⟩) n c/\n<=c/\(ex=ycG->c=n)/\(cs=[]\/S b)/\aD cs=ycG/\bL cs b o)\/(∃a,v=.slice (D5 a) 0 0/\n=0/\cs=[])
 | .cu _ _ _ _,_=>False
 | .av id o n,v=>∃p c,m id=D5 p/\v=.slice (D5 ⟨p.b,p.o+o,D6⟩) n c/\n<=c/\o+c*p.z=p.e
 | .fn (.f g) first cap,v=>∃fi ca:Array yg,v=.func (.func (ab g)) fi ca/\ax first fi.toList/\ax cap ca.toList
 | .fn (.y l) _ _,v=>∃p,m l=D5 p/\v=.func (.yield p.b) #[] #[]
 | .fR,v=>v=.nilFunc
 | .iw,v=>v=.map D6
 | .map id,v=>∃p,m id=D5 p/\v=.map (D5 p.b)
 | .iz ks vs,v=>∃b es clock,v=.map (D5 b)/\S b/\aD ks=ycG/\aD vs=ycG/\w.heap[b]? =D5 (.map es clock)/\
   ax ks (es.toList.map (·.key))/\ax vs (es.toList.map (·.val))
 | .it id,v=>∃p,m id=D5 p/\v=.pointer (D5 ⟨p.b,0,D6⟩)
 | .agg cs,v=>∃xs:Array yg,v=.agg xs/\ax cs xs.toList
 | .ay cs,v=>∃xs:Array yg,v=.tuple xs/\ax cs xs.toList
 | .undef,_=>True
def ax:List AV->List yg->Prop
 | [],us=>us=[]
 | c::cs,us=>∃u r,us=u::r/\ae c u/\ax cs r
def bL:List AV->Nat->Nat->Prop
 | [],_,_=>True
 | c::cs,b,o=>(∃u,w.cell? ⟨b,o,D6⟩=D5 u/\ae c u)/\bL cs b (o+1)
end
end
def fg(S:Nat->Prop)(w w':yi):Prop:=∀b,S b->w'.heap[b]? =w.heap[b]?
def KM{w w':yi}{b o:Nat}(h:w'.heap[b]? =w.heap[b]?):w'.cell? ⟨b,o,D6⟩=w.cell? ⟨b,o,D6⟩:=by
 simp only[World.cell?,h]
section
variable {ab:Nat->Nat}{m m':Mp}{S S':Nat->Prop}{w w':yi}
mutual
def kZ(hm:∀id p,m id=D5 p->m' id=D5 p)(hS:∀b,S b->S' b)(hw:fg S w w'):
  ∀(v:AV) (u:yg),ae ab m S w v u->ae ab m' S' w' v u
 | .int _ _,_,h | .bool _,_,h | .au _ _,_,h | .cK _ _ _,_,h | .str _,_,h | .jq,_,h | .ah,_,h | .fR,_,h | .iw,_,h | .undef,_,h=>by
  simpa only[ae] using h
 | .ptr id o,u,h=>by
  simp only[ae] at h ⊢;obtain⟨p,h1,h2⟩:=h;exact⟨p,hm _ _ h1,h2⟩
 | .bJ cs,u,h=>by
  simp only[ae] at h ⊢;obtain⟨b,o,h1,h2,h3,h4⟩:=h;refine⟨b,o,h1,h2.imp id (hS b),h3,?_⟩;rcases h2 with rfl | h2
  .simp only [bL]
  .exact PB hm hS hw cs b o h2 h4
 | .aq ex n cs,u,h=>by
  simp only[ae] at h ⊢;rcases h with ⟨b,o,c,h1,h2,h3,h4,h5,h6⟩ | h
  .refine .inl ⟨b,o,c,h1,h2,h3,h4.imp id (hS b),h5,?_⟩;rcases h4 with rfl | h4
   .simp only [bL]
   .exact PB hm hS hw cs b o h4 h6
  .exact .inr h
 | .cu _ _ _ _,u,h=>by simp only[ae] at h
 | .av id o n,u,h=>by
  simp only[ae] at h ⊢;obtain⟨p,c,h1,h2⟩:=h;exact⟨p,c,hm _ _ h1,h2⟩
 | .fn (.f g) first cap,u,h=>by
  simp only[ae] at h ⊢;obtain⟨fi,ca,h1,h2,h3⟩:=h;exact⟨fi,ca,h1,gA hm hS hw first _ h2,gA hm hS hw cap _ h3⟩
 | .fn (.y l) _ _,u,h=>by
  simp only[ae] at h ⊢;obtain⟨p,h1,h2⟩:=h;exact⟨p,hm _ _ h1,h2⟩
 | .map id,u,h=>by
  simp only[ae] at h ⊢;obtain⟨p,h1,h2⟩:=h;exact⟨p,hm _ _ h1,h2⟩
 | .iz ks vs,u,h=>by
  simp only[ae] at h ⊢;obtain⟨b,es,clock,h1,h2,h3,h4,h5,h6,h7⟩:=h;exact⟨b,es,clock,h1,hS b h2,h3,h4,(hw b h2).trans h5,gA hm hS hw ks _ h6,gA hm hS hw vs _ h7⟩
 | .it id,u,h=>by
  simp only[ae] at h ⊢;obtain⟨p,h1,h2⟩:=h;exact⟨p,hm _ _ h1,h2⟩
 | .agg cs,u,h=>by
  simp only[ae] at h ⊢;obtain⟨xs,h1,h2⟩:=h;exact⟨xs,h1,gA hm hS hw cs _ h2⟩
 | .ay cs,u,h=>by
  simp only[ae] at h ⊢;obtain⟨xs,h1,h2⟩:=h;exact⟨xs,h1,gA hm hS hw cs _ h2⟩
def gA(hm:∀id p,m id=D5 p->m' id=D5 p)(hS:∀b,S b->S' b)(hw:fg S w w'):
  ∀(vs:List AV) (us:List yg),ax ab m S w vs us->ax ab m' S' w' vs us
 | [],us,h=>by simpa only[ax] using h
 | v::r,us,h=>by
  simp only[ax] at h ⊢;have⟨u,t,h1,h2,h3⟩:=h;exact⟨u,t,h1,kZ hm hS hw v u h2,gA hm hS hw r t h3⟩
def PB(hm:∀id p,m id=D5 p->m' id=D5 p)(hS:∀b,S b->S' b)(hw:fg S w w'):
  ∀(cs:List AV) (b o:Nat),S b->bL ab m S w cs b o->bL ab m' S' w' cs b o
 | [],_,_,_,_=>by simp only[bL]
 | c::cs,b,o,hb,h=>by
  simp only[bL] at h ⊢;have⟨⟨u,h1,h2⟩,h3⟩:=h;exact⟨⟨u,(KM (hw b hb)).trans h1,kZ hm hS hw c u h2⟩,PB hm hS hw cs b (o+1) hb h3⟩
end
end
end
section
open Go
structure Hint where
 n:Nat
 bi:tC->Option Nat
 live:Nat->List Nat
 out:Nat->Option (List Nat)
 mode:Nat->Md
 fz:Nat->List Nat
section
variable (P:xi)(H:Hint)
mutual
def et:yg->AV
 | .int k n=>.int k n
 | .bool b=>.bool b
 | .float k b=>.au k b
 | .complex k a b=>.cK k a b
 | .string s=>.str (s.data.toList.map xe)
 | .pointer D6=>.jq
 | .slice D6 0 0=>.ah
 | .map D6=>.iw
 | .nilFunc=>.fR
 | .agg ⟨cs⟩=>.agg (Ev cs)
 | .tuple ⟨cs⟩=>.ay (Ev cs)
 | _=>.undef
def Ev:List yg->List AV
 | []=>[]
 | v::r=>et v::Ev r
end
def aI:xm->X
 | .tmp t=>.t t
 | .const v=>.c (et v)
 | .global _=>.c .undef
 | .func f=>match H.bi f with | some g=>.c (.fn (.f g) [] []) | none=>.c .undef
def gH:List xm->List X
 | []=>[]
 | x::r=>aI H x::gH r
def bU(t:yu):Option Nat:=match P.info? t with | some i=>D5 i.size | none=>D6
def sS(t:yu):Option Nat:=match P.info? t with | some i=>D5 i.bytes | none=>D6
def ll(t:yu):Option AV:=match P.info? t with | some i=>(match i.zero with | some v=>D5 (et v) | none=>D6) | none=>D6
def cU(t:yu):Option Bool:=match P.underlying t with | some (.struct _) | some (.array _ _)=>D5 ycG | some _=>D5 ycH | none=>D6
def bad:Op:=.call .pure (.c .undef) []
def partsOf(place:Nat->Option (Nat×Nat)):List (Nat×xm)->Option (List (Nat×Nat×X))
 | []=>D5 []
 | (i,x)::r=>
  match place i,partsOf place r with
  | some (o,s),D5 l=>D5 ((o,s,aI H x)::l)
  | _,_=>D6
def nH(self:yu->Option (List Nat)):List vI->Nat->Option (List Nat)
 | [],_=>D5 []
 | f::r,o=>
  match self f.type,bU P f.type with
  | some ks,D5 s=>
   bif f.name != "_"&&yo f.offset o&&yo ks.length s&& !P.stoodInHeld f.type then
    (match nH self r (o+s) with | some l=>D5 (ks++l) | none=>D6)
   else D6
  | _,_=>D6
def kinds:Nat->yu->Option (List Nat)
 | 0,_=>D6
 | n+1,t=>
  match P.underlying t with
  | some .bool=>D5 [0]
  | some (.int _)=>D5 [1]
  | some .string=>D5 [2]
  | some (.struct fs)=>nH P (fun u=>kinds n u) fs.toList 0
  | some (.array k e)=>
   match kinds n e,bU P e with
   | some ks,D5 s=>bif yo ks.length s&& !P.stoodInHeld e then D5 (yy k ks).flatten else D6
   | _,_=>D6
  | _=>D6
def Ab(t:yu):Bool:=match P.underlying t with | some (.int _)=>ycG | _=>ycH
def keyOf(t:yu):Option Nat:=
 match P.underlying t with
 | some .bool=>D5 0
 | some (.int _)=>D5 1
 | some .string=>D5 2
 | some (.struct fs)=>bif fs.toList.all (fun f=>Ab P f.type)&& !P.stoodInHeld t then
   (match kinds P 20 t with | some ks=>(bif yo ks.length fs.size then D5 (fs.size+3) else D6) | none=>D6) else D6
 | _=>D6
def nN(ne:Bool)(t:yu)(a b:xm):Op:=
 match kinds P 20 t with
 | some ks=>bif P.stoodInHeld t||P.eqGuardType P.depth t then bad else .eq ne (.ag ks) (aI H a) (aI H b)
 | none=>bad
def mR(ne:Bool)(op:wJ)(t:yu)(a b:xm):Op:=
 match P.underlying t with
 | some (.int _) | some .string | some (.float _) | some (.complex _)=>.bin op (aI H a) (aI H b)
 | some .bool=>.eq ne .b (aI H a) (aI H b)
 | some (.slice _)=>.eq ne .sl (aI H a) (aI H b)
 | some (.func _ _ _)=>.eq ne .fn (aI H a) (aI H b)
 | some (.struct _) | some (.array _ _)=>nN P H ne t a b
 | _=>bad
def aM(k:Nat)(o:yP):Op:=
 let x (y:xm):X:=aI H y
 match o.op with
 | .move a | .assign a=>.pU (x a)
 | .pick c a b=>.pick (x c) (x a) (x b)
 | .alloc t=>match bU P t,ll P t with | some s,D5 z=>.box s (.c z) | _,_=>bad
 | .box t v=>match bU P t with | some s=>.box s (x v) | none=>bad
 | .build t parts=>
  match P.underlying t,ll P t with
  | some (.struct fs),D5 (.agg z)=>
   match fs.toList.mapM (fun f=>(P.info? f.type).map fun i=>(f.offset,i.size)) with
   | some pl=>(match partsOf H (fun i=>pl[i]?) parts.toList with | some ps=>.CZ z ps | none=>bad)
   | none=>bad
  | some (.array _ e),D5 (.agg z)=>
   match bU P e with
   | some s=>(match partsOf H (fun i=>D5 (i*s,s)) parts.toList with | some ps=>.CZ z ps | none=>bad)
   | none=>bad
  | _,_=>bad
 | .buildSlice t n parts=>
  match P.underlying t with
  | some (.slice e)=>
   match bU P e,ll P e with
   | some s,D5 z=>
    bif yz (n*s) 16777216 then
     (match partsOf H (fun i=>D5 (i*s,s)) parts.toList with | some ps=>.iY n s (yy n (cellsOf z)).flatten ps | none=>bad)
    else bad
   | _,_=>bad
  | _=>bad
 | .load t a=>match bU P t,cU P t with | some s,D5 ag=>.ld s ag (x a) | _,_=>bad
 | .store t a v=>match bU P t with | some s=>.st s (x a) (x v) | none=>bad
 | .nilCheck a=>.IT (x a)
 | .binOp op t a b _=>
  match op with
  | .eql=>mR P H ycH op t a b
  | .neq=>mR P H ycG op t a b
  | _=>.bin op (x a) (x b)
 | .unOp op _ a=>.un op (x a)
 | .convert s d a=>
  match P.underlying s,P.underlying d with
  | some (.int _),D5 (.int k) | some (.float _),D5 (.int k)=>.cv (.toInt k) (x a)
  | some (.int _),D5 (.float k) | some (.float _),D5 (.float k)=>.cv (.toFlt k) (x a)
  | some .string,D5 .string=>.cv .str (x a)
  | _,_=>bad
 | .makeFunc (.func f) first cap=>match H.bi f with | some g=>.Fm (.f g) (gH H first.toList) (gH H cap.toList) | none=>bad
 | .makeMap t D6=>match P.underlying t with | some (.map ke _)=>(match keyOf P ke with | some _=>.Ao | none=>bad) | _=>bad
 | .makeSlice t l c=>
  match P.underlying t with
  | some (.slice e)=>(match bU P e,sS P e,ll P e with | some s,D5 b,D5 z=>.oh s b (cellsOf z) (x l) (x c) | _,_,_=>bad)
  | _=>bad
 | .slice t a lo hi D6=>
  match P.underlying t with
  | some .string=>.pV .str (x a) (lo.map x) (hi.map x)
  | some (.slice e)=>(match bU P e with | some s=>.pV (.sl s) (x a) (lo.map x) (hi.map x) | none=>bad)
  | some (.array n e)=>(match bU P e with | some s=>.pV (.ar n s) (x a) (lo.map x) (hi.map x) | none=>bad)
  | _=>bad
 | .fieldAddr t a i=>
  match P.underlying t with
  | some (.struct fs)=>
   match fs[i]? with
   | some f=>(match bU P f.type with | some (_+1)=>.off f.offset (x a) | _=>bad)
   | none=>bad
  | _=>bad
 | .field t a i=>
  match P.underlying t with
  | some (.struct fs)=>
   match fs[i]? with
   | some f=>(match bU P f.type,cU P f.type with | some s,D5 ag=>.JM f.offset s ag (x a) | _,_=>bad)
   | none=>bad
  | _=>bad
 | .indexAddr t a i=>
  match P.underlying t with
  | some (.slice e)=>(match bU P e with | some s=>.bD s (x a) (x i) | none=>bad)
  | some (.array n e)=>(match bU P e with | some s=>.Fo n s (x a) (x i) | none=>bad)
  | _=>bad
 | .index t a i=>
  match P.underlying t with
  | some .string=>.Fp (x a) (x i)
  | some (.array n e)=>(match bU P e,cU P e with | some s,D5 ag=>.Fq n s ag (x a) (x i) | _,_=>bad)
  | _=>bad
 | .lookup t a i ok=>
  match P.underlying t with
  | some (.map ke e)=>(match keyOf P ke,ll P e with | some kk,D5 z=>.Oq kk z ok (x a) (x i) | _,_=>bad)
  | _=>bad
 | .mapUpdate t a i v | .insert t a i v=>
  match P.underlying t with
  | some (.map ke _)=>(match keyOf P ke with | some kk=>.pW kk (x a) (x i) (x v) | none=>bad)
  | _=>bad
 | .range t a=>match P.underlying t with | some .string=>.pX (x a) | _=>bad
 | .next it ycG=>.pY (x it)
 | .extract t i=>.ext i (x t)
 | .call c=>
  match c.callee with
  | .value f=>(match H.mode k with | .dyn=>.iS [] (x f) (gH H c.args.toList) | md=>.call md (x f) (gH H c.args.toList))
  | .builtin b=>
   match b,c.args.toList,c.argTypes.toList with
   | .append,[s,a],[t,u]=>
    match P.underlying t,P.underlying u with
    | some (.slice e),D5 (.slice _) | some (.slice e),D5 .string=>
     (match bU P e,sS P e,ll P e with | some sz,D5 by',D5 z=>(bif yo (cellsOf z).length sz then .df sz by' (x s) (x a) else bad) | _,_,_=>bad)
    | _,_=>bad
   | .len,[a],[t]=>
    match P.underlying t with
    | some (.array n _)=>.pU (.c (.int .i64 n))
    | some .string=>.len 0 (x a)
    | some (.slice _)=>.len 1 (x a)
    | some (.map _ _)=>.len 2 (x a)
    | _=>bad
   | .copy,[d,s],[t,_]=>
    match P.underlying t with
    | some (.slice e)=>(match bU P e with | some sz=>.p6 sz (x d) (x s) | none=>bad)
    | _=>bad
   | .min,l,_=>.mn (gH H l)
   | .max,l,_=>.mx (gH H l)
   | .real,[a],_=>.cv .re (x a)
   | .imag,[a],_=>.cv .im (x a)
   | .complex,[a,b],_=>.JN (x a) (x b)
   | _,_,_=>bad
  | _=>bad
 | _=>bad
def Rx(o:yP):Bool:=match o.op with | .call {callee:=.value _,..}=>ycG | _=>ycH
def Iz(d:Option Nat):Bool:=match d with | some i=>yF i H.n | none=>ycG
def zS(n:Nat):List Nat->Bool
 | []=>ycG
 | i::r=>yF i n&&zS n r
def CG(ops:Array yP):List yP->Nat->List aO×Nat
 | [],k=>([],k)
 | o::r,k=>
  let g:=match o.guard with
   | none=>D5 D6
   | some (j,b)=>match (ops[j]?).bind (·.dst) with | some t=>D5 (D5 (t,b)) | none=>D6
  match CG ops r (k+(bif Rx o then 1 else 0)) with
  | (l,k')=>
   match g,Iz H o.dst with
   | some g,ycG=>(⟨o.dst,g,aM P H k o⟩::l,k')
   | _,_=>(⟨o.dst,D6,bad⟩::l,k')
def Be(acc:List Nat):List Edge->Nat
 | []=>0
 | e::r=>bif Region.binds .any e then (2^e.on|||acc.getD e.on 0)|||Be acc r else Be acc r
def jo(acc:List Nat):List yP->List Nat
 | []=>acc
 | o::r=>jo (acc++[Be acc o.after.toList]) r
def mJ:List yP->Nat->Bool
 | [],_=>ycG
 | o::r,i=>o.after.toList.all (fun e=> !Region.binds .any e||yF e.on i)&&mJ r (i+1)
def LJ(ops:Array yP)(draw:Bool)(k:Nat):List aO×Nat:=
 match CG P H ops ops.toList k with
 | (l,k')=>
  bif draw then
   (let ms:=jo [] ops.toList
    let l':=kh [] l ms
    bif mJ ops.toList 0&&oV [] l' ms then (l',k') else bif mJ ops.toList 0&&oV [] (ES [] l') ms then (ES [] l',k') else
    (let pm:=places l ms
    let q8:=A8 ms pm pm pm
    let l2:=kh [] (Br (C3 l l) pm) q8
    bif mJ ops.toList 0&&(HI ops.size pm (sd pm ops.size)&&oV [] l2 q8) then (l2,k') else ([⟨D6,D6,bad⟩],k')))
  else (l,k')
def aoR:wS->Bool
 | .loop _=>ycG
 | _=>ycH
def comp:wS->Nat->Nat->VC×Nat×Nat
 | .skip,l,k | .label _,l,k=>(.skip,l,k)
 | .region i ops d,l,k=>match LJ P H ops d k with | (r,k')=>((match H.fz i with | []=>.nm r | t::ts=>.seq (.fz (t::ts)) (.nm r)),l,k')
 | .seq a b,l,k=>match comp a l k with | (a',l1,k1)=>match comp b l1 k1 with | (b',l2,k2)=>(.seq a' b',l2,k2)
 | .cond c a b,l,k=>
  match comp a (l+1) k with
  | (a',l1,k1)=>
   match comp b l1 k1 with
   | (b',l2,k2)=>(match H.out l with | some o=>.seq (.cond (aI H c) a' b') (.kp o) | none=>.cond (aI H c) a' b',l2,k2)
 | .block id a,l,k=>
  match comp a l k with
  | (a',r)=>(match aoR a,H.out l with | true,D5 o=>.seq (.dz id a') (.kp o) | _,_=>.dz id a',r)
 | .loop a,l,k=>match comp a (l+1) k with | (a',r)=>(.loop (H.live l) a',r)
 | .rangeFunc f ps as_ body,l,k=>
  match comp as_ l k with | (as',l1,k1)=>match comp body l1 k1 with | (b',l2,k2)=>(bif zS H.n ps.toList then .rf (aI H f) ps.toList as' b' else .nm [⟨D6,D6,bad⟩],l2,k2)
 | .exit id,l,k=>(.exit id,l,k)
 | .scope a,l,k=>comp a l k
 | .ret,l,k=>(.ret,l,k)
 | .goto _,l,k | .refuse _,l,k=>(.nm [⟨D6,D6,bad⟩],l,k)
def oX:List ResultVar->Option (List RV)
 | []=>D5 []
 | .tmp t::r=>match oX r with | some l=>D5 (.t t::l) | none=>D6
 | .cell a t::r=>match bU P t,cU P t,oX r with | some s,D5 ag,D5 l=>D5 (.cell a s ag::l) | _,_,_=>D6
def Ew(fn:Func):Option az:=
 match fn.body,oX P fn.results.toList with
 | some c,D5 rs=>bif yz H.n fn.ntmps then D5 ⟨rs,(comp P H c 0 0).1⟩ else D6
 | _,_=>D6
end
end
section
open Go
structure bk where
 P:xi
 aG:Lib
 ab:Nat->Nat
 prog:aE
 hint:Nat->Hint
 w0:yi
def BV(P:xi)(H:Hint)(v:VC)(c:wS):Prop:=∃l k,(comp P H c l k).1=v
def BC:Nat->LoopState
 | 0=>.ready
 | 1=>.busy
 | 2=>.done
 | _=>.exhausted
def zI:sn->Option wS
 | .none=>D6
 | .ret=>D5 .ret
 | .exit id=>D5 (.exit id)
section
variable (O:bk)(m:Mp)(S:Nat->Prop)(w:yi)
def bN(tm:Env)(tmps:Array yg):Prop:=∀i,ae O.ab m S w (aj tm i) (tmps.getD i undef)
def eH(id:Nat):Obj->Prop
 | .cells rw pu ex sz cs=>∃p arr t,m id=D5 p/\w.heap[p.b]? =D5 (.cells arr t (0,0))/\p.z=sz/\cs.length<=p.e/\p.o+p.e<=arr.size/\
   (ex=ycG->cs.length=p.e)/\bL O.ab m S w cs p.b p.o/\(pu=ycG->aD cs=ycG)/\(rw=ycG->¬S p.b)/\(rw=ycH->S p.b)
 | .mp rw ks vs=>∃p es clock,m id=D5 p/\w.heap[p.b]? =D5 (.map es clock)/\ax O.ab m S w ks (es.toList.map (·.key))/\ax O.ab m S w vs (es.toList.map (·.val))/\
   (rw=ycG->¬S p.b)/\(rw=ycH->S p.b)
 | .si s pos=>∃p t,m id=D5 p/\w.heap[p.b]? =D5 (.stringIter t pos)/\t.data.toList.map xe=s/\¬S p.b
 | .lp tm ps as_ body st pe=>∃p l h,m id=D5 p/\w.heap[p.b]? =D5 (.loop l)/\¬S p.b/\l.state=BC st/\st<=2/\l.pending=zI pe/\bN O m S w tm l.tmps/\
   l.params.toList=ps/\BV O.P (O.hint h) as_ l.assign/\BV O.P (O.hint h) body l.body/\(O.hint h).n<=l.tmps.size/\zS (O.hint h).n ps=ycG
structure aP(hp:Hp)(ct:Nat):Prop where
 obj:∀id o p,ai hp id=D5 o->m id=D5 p->eH O m S w id o
 lt:∀id p,m id=D5 p->id<ct
 inj:∀i j oi oj pi pj,ai hp i=D5 oi->ai hp j=D5 oj->m i=D5 pi->m j=D5 pj->pi.b=pj.b->i=j
 slt:∀b,S b->b<w.heap.size
 blt:∀id p,m id=D5 p->p.b<w.heap.size
 low:∀id p,m id=D5 p->O.w0.heap.size<=p.b
 lB:∀b,b<O.w0.heap.size->w.heap[b]? =O.w0.heap[b]?
 fk:O.w0.heap.size<=w.heap.size
 aB:∀id o,ai hp id=D5 o->id<ct
end
def dI(m:Mp)(hp:Hp)(b:Nat):Prop:=∃id o p,ai hp id=D5 o/\m id=D5 p/\p.b=b
structure bR(m:Mp)(S:Nat->Prop)(w:yi)(hp:Hp)(m':Mp)(S':Nat->Prop)(w':yi)(an:Hp)(base:Nat):Prop where
 os:w'.os=w.os
 tape:w'.tape=w.tape
 output:w'.output=w.output
 size:w.heap.size<=w'.heap.size
 same:∀b,b<w.heap.size->¬dI m hp b->w'.heap[b]? =w.heap[b]?
 sub:∀b,S b->S' b
 still:∀b,S b->w'.heap[b]? =w.heap[b]?
 new:∀b,S' b->S b\/dI m hp b\/w.heap.size<=b
 own:∀b,dI m' an b->dI m hp b\/w.heap.size<=b
 old:∀id p,id<base->m id=D5 p->m' id=D5 p
 loops:∀(b:Nat) (r:uE),w.heap[b]? =D5 (.loop r)->∃r':uE,w'.heap[b]? =D5 (.loop r')
def bR.refl{m:Mp}{S:Nat->Prop}{w:yi}{hp:Hp}{base:Nat}:bR m S w hp m S w hp base:=
 ⟨rfl,rfl,rfl,yq _,fun _ _ _=>rfl,fun _ h=>h,fun _ _=>rfl,fun _ h=>.inl h,fun _ h=>.inl h,fun _ _ _ h=>h,fun _ r h=>⟨r,h⟩⟩
def bR.trans{m m' JQ:Mp}{S S' BW:Nat->Prop}{w w' Ot:yi}{hp an IU:Hp}{base:Nat}(h:bR m S w hp m' S' w' an base)(k:bR m' S' w' an JQ BW Ot IU base):bR m S w hp JQ BW Ot IU base where
 os:=k.os.trans h.os
 tape:=k.tape.trans h.tape
 output:=k.output.trans h.output
 size:=y9 h.size k.size
 same b hb ho:=(k.same b (yE hb h.size) (fun iH=>(h.own b iH).elim ho (fun h1=>by omega))).trans (h.same b hb ho)
 sub b hb:=k.sub b (h.sub b hb)
 still b hb:=(k.still b (h.sub b hb)).trans (h.still b hb)
 new b hb:=by
  rcases k.new b hb with h1 | h1 | h1
  .exact h.new b h1
  .rcases h.own b h1 with h2 | h2
   .grind
   .grind
  .exact .inr (.inr (y9 h.size h1))
 own b hb:=by
  rcases k.own b hb with h1 | h1
  .exact h.own b h1
  .exact .inr (y9 h.size h1)
 old id p hid hp:=k.old id p hid (h.old id p hid hp)
 loops b r hb:=let ⟨r',h1⟩:=h.loops b r hb;k.loops b r' h1
end
section
open Go
section
variable {ab:Nat->Nat}{m:Mp}{S:Nat->Prop}{w:yi}
mutual
def LK:∀v:yg,ae ab m S w (et v) v
 | .int _ _ | .bool _ | .float _ _ | .complex _ _ _=>by simp only[et,ae]
 | .string s=>by simp only[et,ae];exact⟨s,rfl,rfl⟩
 | .pointer D6=>by simp only[et,ae]
 | .pointer (D5 _)=>by simp only[et,ae]
 | .slice D6 0 0=>by simp only[et,ae]
 | .slice D6 0 (_+1)=>by simp only[et,ae]
 | .slice D6 (_+1) _=>by simp only[et,ae]
 | .slice (D5 _) _ _=>by simp only[et,ae]
 | .map D6=>by simp only[et,ae]
 | .map (D5 _)=>by simp only[et,ae]
 | .nilFunc=>by simp only[et,ae]
 | .agg ⟨cs⟩=>by simp only[et,ae];exact⟨⟨cs⟩,rfl,Qj cs⟩
 | .tuple ⟨cs⟩=>by simp only[et,ae];exact⟨⟨cs⟩,rfl,Qj cs⟩
 | .chan _ | .func _ _ _ | .iface _ _ | .nilIface=>by simp only[et,ae]
def Qj:∀l:List yg,ax ab m S w (Ev l) l
 | []=>by simp only[Ev,ax]
 | v::r=>by simp only[Ev,ax];exact⟨v,r,rfl,LK v,Qj r⟩
end
end
def eF(O:bk)(H:Hint):Prop:=∀f g,H.bi f=D5 g->O.ab g=f
section
variable {O:bk}{H:Hint}{m:Mp}{S:Nat->Prop}{w:yi}{tm:Env}{a:Act}
def bO(hH:eF O H)(ht:bN O m S w tm a.tmps)(x:xm):ae O.ab m S w (aw tm (aI H x)) (a.eval x):=by
 cases x with
 | tmp t=>exact ht t
 | const v=>simp only[aI,aw,Act.eval];exact LK v
 | global g=>simp only[aI,aw,ae]
 | func f=>
  simp only[aI,Act.eval]
  cases hr:H.bi f with
  | none=>simp only[aw,ae]
  | some g=>simp only[aw,ae,hH f g hr,ax];exact⟨#[],#[],rfl,rfl,rfl⟩
def CM(hH:eF O H)(ht:bN O m S w tm a.tmps):∀l:List xm,ax O.ab m S w (db tm (gH H l)) (l.map a.eval)
 | []=>by simp only[gH,db,List.map_nil,ax]
 | x::r=>by simp only[gH,db,yV,ax];exact⟨_,_,rfl,bO hH ht x,CM hH ht r⟩
end
section
variable {O:bk}{m:Mp}{S:Nat->Prop}{w:yi}
def qD{ab:Nat->Nat}:∀(k:Nat) (cs:List AV) (b o:Nat),bL ab m S w cs b o->bL ab m S w (cs.drop k) b (o+k)
 | 0,cs,b,o,h=>by simpa using h
 | k+1,[],b,o,_=>by simp only[List.drop_nil,bL]
 | k+1,c::cs,b,o,h=>by
  have:=qD k cs b (o+1) h.2
  grind
def zq{ab:Nat->Nat}:∀(k:Nat) (cs:List AV) (b o:Nat),bL ab m S w cs b o->bL ab m S w (cs.take k) b o
 | 0,cs,b,o,_=>by simp only[ybq,bL]
 | k+1,[],b,o,_=>by simp only[List.take_nil,bL]
 | k+1,c::cs,b,o,h=>by
  exact⟨h.1,zq k cs b (o+1) h.2⟩
def rK{ab:Nat->Nat}:∀(cs:List AV) (b o:Nat),bL ab m S w cs b o->
  ∃us:List yg,ax ab m S w cs us/\us.length=cs.length/\∀j u,us[j]? =D5 u->w.cell? ⟨b,o+j,D6⟩=D5 u
 | [],b,o,_=>⟨[],by simp only[ax],rfl,fun j u h=>by simp at h⟩
 | c::cs,b,o,h=>by
  obtain⟨⟨u,h1,h2⟩,h3⟩:=h;obtain⟨us,h4,h5,h6⟩:=rK cs b (o+1) h3;refine⟨u::us,by simp only[ax];exact⟨u,us,rfl,h2,h4⟩,by simp[h5],fun j v hv=>?_⟩
  cases j with
  | zero=>simp at hv;subst hv;simpa using h1
  | succ j=>simp at hv;have:=h6 j v hv;rw[show o+(j+1)=o+1+j by omega];exact this
def fP{ab:Nat->Nat}:∀(cs:List AV) (us:List yg),ax ab m S w cs us->us.length=cs.length
 | [],us,h=>by simp only[ax] at h;subst h;rfl
 | c::cs,us,h=>by
  obtain⟨u,r,rfl,_,h3⟩:=h;simp[fP cs r h3]
end
end
section
open Go
def mS(b o j:Nat):(⟨b,o,D6⟩:uh).add j=⟨b,o+j,D6⟩:=by
 unfold Addr.add;split<;>simp_all
section
variable {P:xi}{w:yi}
def ag4(t:yu)(b o:Nat)(us:List yg)(ha:cU P t=D5 ycG)(hz:bU P t=D5 us.length)(h:∀j u,us[j]? =D5 u->w.cell? ⟨b,o+j,D6⟩=D5 u):(loadVar t ⟨b,o,D6⟩).run P w=.ok (.agg us.toArray) w:=by
 have hl:=run_loadCells_list (P:=P) w ⟨b,o,D6⟩ us (fun j u hu=>by rw[mS];exact h j u hu)
 unfold bU at hz
 cases hi:P.info? t with
 | none=>simp[hi] at hz
 | some i=>
  unfold cU at ha
  cases hu:P.underlying t with
  | none=>simp[hu] at ha
  | some d=>cases d<;>simp_all[loadVar,isAgg,wT,typeInfo,underlying]
def ag5(t:yu)(b o:Nat)(u:yg)(ha:cU P t=D5 ycH)(h:w.cell? ⟨b,o,D6⟩=D5 u):(loadVar t ⟨b,o,D6⟩).run P w=.ok u w:=by
 unfold cU at ha
 cases hu:P.underlying t with
 | none=>simp[hu] at ha
 | some d=>cases d<;>simp_all[loadVar,isAgg,underlying]
end
section
variable {O:bk}{m:Mp}{S:Nat->Prop}{w:yi}
def LL{t:yu}{sz:Nat}{ag:Bool}{cs:List AV}{b o:Nat}{v:AV}(hz:bU O.P t=D5 sz)(ha:cU O.P t=D5 ag)(hr:bL O.ab m S w cs b o)(hv:gN sz ag cs=D5 v):∃u,(loadVar t ⟨b,o,D6⟩).run O.P w=.ok u w/\ae O.ab m S w v u:=by
 cases ag with
 | true=>
  simp only[gN,yr] at hv
  cases hle:yz sz cs.length with
  | false=>simp only[hle,yJ] at hv;cases hv
  | true=>
   simp only[hle,yr,yb] at hv;subst hv;obtain⟨us,h1,h2,h3⟩:=rK _ _ _ (zq sz cs b o hr);have hlen:us.length=sz:=by
    simp_all
   refine⟨.agg us.toArray,ag4 t b o us ha (by rw[hlen];exact hz) h3,?_⟩
   simp only[ae]
   grind
 | false=>
  simp only[gN,yJ] at hv
  cases cs with
  | nil=>simp at hv
  | cons c cs=>
   simp only[yb] at hv;subst hv;obtain⟨⟨u,h1,h2⟩,_⟩:=hr;exact⟨u,ag5 t b o u ha h1,h2⟩
def ZA{t:yu}{sz o:Nat}{ag:Bool}{cs:List AV}{xs:Array yg}{v:AV}(hz:bU O.P t=D5 sz)(ha:cU O.P t=D5 ag)(hr:ax O.ab m S w cs xs.toList)(hv:gN sz ag (cs.drop o)=D5 v):∃u,(part t xs o).run O.P w=.ok u w/\ae O.ab m S w v u:=by
 have hd:∀(k:Nat) (cs:List AV) (us:List yg),ax O.ab m S w cs us->ax O.ab m S w (cs.drop k) (us.drop k):=by
  intro k
  induction k with
  | zero=>intro cs us h;simpa using h
  | succ k ih=>
   intro cs us h
   cases cs with
   | nil=>simp only[ax] at h;subst h;simp[ax]
   | cons c cs=>simp only[ax] at h;obtain⟨u,r,rfl,_,h3⟩:=h;simpa using ih cs r h3
 have eV:∀(k:Nat) (cs:List AV) (us:List yg),ax O.ab m S w cs us->ax O.ab m S w (cs.take k) (us.take k):=by
  intro k
  induction k with
  | zero=>intro cs us h;simp[ax]
  | succ k ih=>
   intro cs us h
   cases cs with
   | nil=>simp only[ax] at h;subst h;simp[ax]
   | cons c cs=>simp only[ax] at h;obtain⟨u,r,rfl,h2,h3⟩:=h;simp only[wq,ax];exact⟨u,_,rfl,h2,ih cs r h3⟩
 have acB:(isAgg t).run O.P w=.ok ag w:=by
  unfold cU at ha
  cases hu:O.P.underlying t with
  | none=>simp[hu] at ha
  | some d=>cases d<;>simp_all[isAgg,underlying]
 have dR:(wT t).run O.P w=.ok sz w:=by
  unfold bU at hz
  cases hi:O.P.info? t with
  | none=>simp[hi] at hz
  | some i=>simp_all[wT,typeInfo]
 have bq:=hd o cs xs.toList hr
 cases ag with
 | true=>
  simp only[gN,yr] at hv
  cases hle:yz sz (cs.drop o).length with
  | false=>simp only[hle,yJ] at hv;cases hv
  | true=>
   simp only[hle,yr,yb] at hv;subst hv;refine⟨.agg (xs.extract o (o+sz)),by simp[part,Sem.run_bind,acB,dR],?_⟩;simp only[ae]
   simp_all
 | false=>
  simp only[gN,yJ] at hv
  cases hc:cs.drop o with
  | nil=>simp[hc] at hv
  | cons c r=>
   simp only[hc,yb] at hv;subst hv;rw[hc] at bq;simp only[ax] at bq;obtain⟨u,us,h1,h2,_⟩:=bq;have hx:xs[o]? =D5 u:=by
    have:xs.toList[o]? =D5 u:=by
     have:=congrArg (fun l=>l[0]?) h1
     simpa using this
    simpa using this
   exact⟨u,by simp[part,Sem.run_bind,acB,hx],h2⟩
end
end
section
open Go
section
variable {v:AV}{k:yZ}{b:Nat}
def me(t:ByteArray):List Nat:=t.data.toList.map xe
def ZB:∀a b:List UInt8,fX (a.map xe) (b.map xe)=(a==b)
 | [],[]=>rfl
 | [],_::_=>rfl
 | _::_,[]=>rfl
 | a::x,b::y=>by
  have h:yo a.toNat b.toNat=(a==b):=by
   rw[tU,ycz,tD];exact yba
  simp only[yV,fX,ZB x y,h,List.cons_beq_cons]
def ZC:∀a b:List UInt8,BS (a.map xe) (b.map xe)=Op.bytesLess a b
 | [],[]=>rfl
 | [],_::_=>rfl
 | _::_,[]=>rfl
 | a::x,b::y=>by
  have h:yo a.toNat b.toNat=(a==b):=by
   rw[tU,ycz,tD];exact yba
  have h2:yF a.toNat b.toNat=decide (a<b):=by
   rw[tU];simp only[yF,ycA,vh,UInt8.lt_iff_toNat_lt]
   lia
  simp only[yV,BS,Op.bytesLess,ZC x y,h,h2]
def XB(s t:ByteArray):fX (me s) (me t)=(s.toList==t.toList):=by
 rw[me,me,ZB,ByteArray.toList_eq,ByteArray.toList_eq]
def aip(s t:ByteArray):BS (me s) (me t)=Op.bytesLess s.toList t.toList:=by
 rw[me,me,ZC,ByteArray.toList_eq,ByteArray.toList_eq]
def XC(s:ByteArray):(me s).length=s.size:=by
 rw[me,List.length_map,Lib.size_eq]
section
variable {ab:Nat->Nat}{P:xi}{m:Mp}{S:Nat->Prop}{w:yi}{t:yu}
def aj4{op:wJ}{x y:Int}(h:lk op k x y=D5 v):
  ∃u,(xR op t (.int k x) (.int k y)).run P w=.ok u w/\ae ab m S w v u:=by
 cases op<;>simp only[lk,intCmp,yb] at h
 case quo=>
  by_cases hy:y=0
  .grind
  .simp only [hy,xq,yb] at h;subst h;exact⟨_,by simp[xR,Op.intDiv,hy];rfl,by simp[ae]⟩
 case rem=>
  by_cases hy:y=0
  .grind
  .simp only [hy,xq,yb] at h;subst h;exact⟨_,by simp[xR,Op.intDiv,hy];rfl,by simp[ae]⟩
 case shl=>cases h
 case shr=>cases h
 all_goals
  subst h;exact⟨_,by simp[xR,Op.intCmp];rfl,by simp[ae]⟩
def WW{op:wJ}{k':yZ}{x y:Int}(h:CF op k x y=D5 v):
  ∃u,(xR op t (.int k x) (.int k' y)).run P w=.ok u w/\ae ab m S w v u:=by
 unfold CF at h;by_cases hy:y<0
 .grind
 .simp only [hy,xq] at h;cases op<;>simp only[yb] at h
  case shl=>subst h;exact⟨_,by simp[xR,Op.shift,hy];rfl,by simp[ae]⟩
  case shr=>subst h;exact⟨_,by simp[xR,Op.shift,hy];rfl,by simp[ae]⟩
  all_goals cases h
def aj5{op:wJ}{x y:ByteArray}(h:Iv op (me x) (me y)=D5 v):
  ∃u,(xR op t (.string x) (.string y)).run P w=.ok u w/\ae ab m S w v u:=by
 cases op<;>simp only[Iv,XB,aip,XC,yb] at h
 case add=>
  cases hle:yz (x.size+y.size) 9223372036854775807 with
  | false=>rw[hle] at h;cases h
  | true=>
   rw[hle] at h;simp only[yr,yb] at h;subst h;have aAp:=yv hle;have auL:¬(((x.size+y.size:Nat):Int)>IntKind.i64.max):=by
    have:IntKind.i64.max=9223372036854775807:=by decide
    grind
   refine⟨.string (x++y),?_,?_⟩
   .simp only [xR,Op.stringOp,yx auL,Sem.run_pure]
   .simp only [ae];exact⟨x++y,rfl,by simp[me]⟩
 all_goals first
  | (cases h;done)
  | (subst h;exact⟨_,by simp[xR,Op.stringOp];rfl,by simp[ae]⟩)
def aj6{op:wJ}{k:xO}{x y:Nat}(h:MC op k x y=D5 v):
  ∃u,(xR op t (.float k x) (.float k y)).run P w=.ok u w/\ae ab m S w v u:=by
 cases op<;>simp only[MC,yb] at h
 case add=>
  cases hr:k.format.add x y with
  | none=>simp[hr] at h
  | some r=>simp only[hr,yb] at h;subst h;exact⟨.float k r,by simp[xR,Op.floatArith,hr],by simp[ae]⟩
 case sub=>
  cases hr:k.format.sub x y with
  | none=>simp[hr] at h
  | some r=>simp only[hr,yb] at h;subst h;exact⟨.float k r,by simp[xR,Op.floatArith,hr],by simp[ae]⟩
 case mul=>
  cases hr:k.format.mul x y with
  | none=>simp[hr] at h
  | some r=>simp only[hr,yb] at h;subst h;exact⟨.float k r,by simp[xR,Op.floatArith,hr],by simp[ae]⟩
 case quo=>
  cases hr:k.format.div x y with
  | none=>simp[hr] at h
  | some r=>simp only[hr,yb] at h;subst h;exact⟨.float k r,by simp[xR,Op.floatArith,hr],by simp[ae]⟩
 all_goals first
  | (cases h;done)
  | (subst h;exact⟨_,by simp[xR,Op.floatCmp];rfl,by simp[ae]⟩)
def ZD(k:xO)(x y:Nat):(Op.Complex.cmp .eql k x y).run P w=.ok (k.format.order x y==D5 .eq) w:=by
 simp[Op.Complex.cmp,Op.floatCmp,asBool]
def rV{op:wJ}{k:xO}{x y r:Nat}(h:lO op k x y=D5 r):(Op.Complex.arith op k x y).run P w=.ok r w:=by
 unfold lO at h
 split at h
 .simp [Op.Complex.arith,Op.floatArith,h]
 .simp [Op.Complex.arith,Op.floatArith,h]
 .simp [Op.Complex.arith,Op.floatArith,h]
 .cases h
def Ey{s k:xO}{r:Nat}(h:BT s k b=D5 r):(Op.Complex.conv s b k).run P w=.ok r w:=by
 unfold BT at h;unfold Op.Complex.conv;by_cases hk:s=k
 .rw [yN hk] at h ⊢;cases h;rfl
 .rw [yx hk] at h ⊢
  cases hd:s.decode b with
  | nan _ _=>simp[hd] at h
  | infinity _=>simp[hd] at h
  | number sg m e=>
   simp only[hd] at h
   cases hi:(k.decode (k.encode (.number sg m e))).isInfinity with
   | true=>simp[hi] at h
   | false=>simp[hi] at h;subst h;simp[Conv.floatToFloat,hk,hd,hi]
def aiq{k:xO}{a c d:Nat}(h:Rv k a b c d=D5 v):
  ∃u,(xR .mul t (.complex k a b) (.complex k c d)).run P w=.ok u w/\ae ab m S w v u:=by
 unfold Rv at h
 split at h
 .rename_i a' b' c' d' h1 h2 h3 h4
  split at h
  .rename_i p q r s g1 g2 g3 g4
   split at h
   .rename_i e f k1 k2
    split at h
    .rename_i e' f' l1 l2;cases h;exact⟨.complex k e' f',by simp[xR,Op.complexOp,Op.Complex.product,Op.Complex.mul,Op.Complex.sub,Op.Complex.add,Ey h1,Ey h2,Ey h3,Ey h4,rV g1,rV g2,rV g3,rV g4,rV k1,rV k2,Ey l1,Ey l2],by simp[ae]⟩
    .cases h
   .cases h
  .cases h
 .cases h
def aj7{op:wJ}{k:xO}{a c d:Nat}(h:RZ op k a b c d=D5 v):
  ∃u,(xR op t (.complex k a b) (.complex k c d)).run P w=.ok u w/\ae ab m S w v u:=by
 cases op<;>simp only[RZ,yb,reduceCtorEq] at h
 case add=>
  cases h1:lO .add k a c with
  | none=>simp[h1] at h
  | some r=>
   cases h2:lO .add k b d with
   | none=>simp[h1,h2] at h
   | some i=>
    simp only[h1,h2,yb] at h;subst h;exact⟨.complex k r i,by simp[xR,Op.complexOp,rV h1,rV h2],by simp[ae]⟩
 case sub=>
  cases h1:lO .sub k a c with
  | none=>simp[h1] at h
  | some r=>
   cases h2:lO .sub k b d with
   | none=>simp[h1,h2] at h
   | some i=>
    simp only[h1,h2,yb] at h;subst h;exact⟨.complex k r i,by simp[xR,Op.complexOp,rV h1,rV h2],by simp[ae]⟩
 case mul=>exact aiq h
 case eql=>subst h;exact⟨_,by simp[xR,Op.complexOp,ZD];rfl,by simp[ae]⟩
 case neq=>subst h;exact⟨_,by simp[xR,Op.complexOp,ZD];rfl,by simp[ae]⟩
def aj8{op:wJ}{vx vy:AV}{x y:yg}(hx:ae ab m S w vx x)(hy:ae ab m S w vy y)(h:VE.binOp op vx vy=D5 v):
  ∃u,(xR op t x y).run P w=.ok u w/\ae ab m S w v u:=by
 unfold VE.binOp at h
 split at h
 .rename_i k a k' b;simp only[ae] at hx hy;subst hx;subst hy
  split at h
  .exact WW h
  .exact WW h
  .by_cases hk:k=k'
   .subst hk;simp only[xN] at h;exact aj4 h
   .simp [hk] at h
 .rename_i k a k' b;simp only[ae] at hx hy;subst hx;subst hy;by_cases hk:k=k'
  .subst hk;simp only[xN] at h;exact aj6 h
  .simp [hk] at h
 .rename_i a b;simp only[ae] at hx hy;obtain⟨s,rfl,rfl⟩:=hx;obtain⟨s',rfl,rfl⟩:=hy;exact aj5 h
 .rename_i k a b k' c d;simp only[ae] at hx hy;subst hx;subst hy;by_cases hk:k=k'
  .subst hk;simp only[xN] at h;exact aj7 h
  .simp [hk] at h
 .cases h
end
end
end
section
open Go
section
variable {v vx:AV}{vr:Bool}{d:Nat}{x:yg}
section
variable {ab:Nat->Nat}{P:xi}{m:Mp}{S:Nat->Prop}{w:yi}{t:yu}
def ahB{op:wJ}{x y:xm}{a b:yg}(h:P.eqGuardType P.depth t=ycH\/∀xs ys,¬(a=.agg xs/\b=.agg ys))(hn:a≠.nilIface):
  (eqGuard op t x y a b).run P w=.ok () w:=by
 unfold eqGuard;cases op
 all_goals first
  | rfl
  | (
    cases a
    all_goals first
     | rfl
     | exact absurd rfl hn
     | (
      cases b
      all_goals first
       | rfl
       | (
         rcases h with h | h
         .simp [h]
         .exact absurd ⟨rfl,rfl⟩ (h _ _))))
def aoS{p q:Bool}(ht:P.underlying t=D5 .bool):(Op.equalIn (d+1) t (.bool p) (.bool q)).run P w=.ok (p==q) w:=by
 simp[Op.equalIn,underlying,ht]
def R2{e:yu}(ht:P.underlying t=D5 (.slice e))(y:Option uh)(n c n' c':Nat):
  (Op.equalIn (d+1) t (.slice D6 n c) (.slice y n' c')).run P w=.ok y.isNone w:=by simp[Op.equalIn,underlying,ht]
def abe{e:yu}(ht:P.underlying t=D5 (.slice e))(x:uh)(n c n' c':Nat):
  (Op.equalIn (d+1) t (.slice (D5 x) n c) (.slice D6 n' c')).run P w=.ok ycH w:=by simp[Op.equalIn,underlying,ht]
def asV{ps rs:Array yu}(ht:P.underlying t=D5 (.func ps rs vr)):
  (Op.equalIn (d+1) t .nilFunc .nilFunc).run P w=.ok ycG w:=by simp[Op.equalIn,underlying,ht]
def abf{ps rs:Array yu}(ht:P.underlying t=D5 (.func ps rs vr))(f:Go.Fn)(a b:Array yg):
  (Op.equalIn (d+1) t .nilFunc (.func f a b)).run P w=.ok ycH w:=by simp[Op.equalIn,underlying,ht]
def abg{ps rs:Array yu}(ht:P.underlying t=D5 (.func ps rs vr))(f:Go.Fn)(a b:Array yg):
  (Op.equalIn (d+1) t (.func f a b) .nilFunc).run P w=.ok ycH w:=by simp[Op.equalIn,underlying,ht]
def Qk(x y:yg):Op.equal t x y=Op.equalIn (9999+1) t x y:=rfl
def amq{vy:AV}{y:yg}{r:Bool}{e:yu}(ht:P.underlying t=D5 (.slice e))(hx:ae ab m S w vx x)(hy:ae ab m S w vy y)(h:jr .sl vx vy=D5 r):(Op.equal t x y).run P w=.ok r w:=by
 unfold jr at h
 split at h<;>simp_all only [yb,reduceCtorEq]
 all_goals subst h
 .subst hx;subst hy;exact R2 ht _ _ _ _ _
 .rcases hy with ⟨b,o,c,rfl,_⟩ | ⟨_,rfl,_⟩<;>(subst hx;exact R2 ht _ _ _ _ _)
 .obtain ⟨p,c,_,rfl,_⟩:=hy;subst hx;exact R2 ht _ _ _ _ _
 .rcases hx with ⟨b,o,c,rfl,_⟩ | ⟨_,rfl,_⟩<;>(subst hy;exact abe ht _ _ _ _ _)
 .obtain ⟨p,c,_,rfl,_⟩:=hx;subst hy;exact abe ht _ _ _ _ _
def amr{vy:AV}{y:yg}{r:Bool}{ps rs:Array yu}(ht:P.underlying t=D5 (.func ps rs vr))(hx:ae ab m S w vx x)(hy:ae ab m S w vy y)(h:jr .fn vx vy=D5 r):(Op.equal t x y).run P w=.ok r w:=by
 unfold jr at h
 split at h<;>simp_all only [yb,reduceCtorEq]
 all_goals subst h
 .simp only [ae] at hx hy;subst hx;subst hy;exact asV ht
 .rename_i f _ _
  cases f with
  | f g=>simp only[ae] at hx hy;obtain⟨fi,ca,rfl,_⟩:=hy;subst hx;exact abf ht _ _ _
  | y l=>simp only[ae] at hx hy;obtain⟨p,_,rfl⟩:=hy;subst hx;exact abf ht _ _ _
 .rename_i f _ _
  cases f with
  | f g=>simp only[ae] at hx hy;obtain⟨fi,ca,rfl,_⟩:=hx;subst hy;exact abg ht _ _ _
  | y l=>simp only[ae] at hx hy;obtain⟨p,_,rfl⟩:=hx;subst hy;exact abg ht _ _ _
def ams{op:ycl}(hx:ae ab m S w vx x)(h:VE.unOp op vx=D5 v):∃u,(Op.unary op x).run P w=.ok u w/\ae ab m S w v u:=by
 unfold VE.unOp at h
 split at h
 .rename_i k n;subst hx;simp only[yb] at h;subst h;exact⟨_,by simp[Op.unary,Op.intArith];rfl,by simp[ae]⟩
 .rename_i k n;subst hx;simp only[lk,yb] at h;subst h;exact⟨_,by simp[Op.unary,Op.intBits];rfl,by simp[ae]⟩
 .rename_i b;subst hx;simp only[yb] at h;subst h;exact⟨_,by simp[Op.unary];rfl,by simp[ae]⟩
 .rename_i k b;subst hx;simp only[yb] at h;subst h;exact⟨_,by simp[Op.unary,Op.negFloat];rfl,by simp[ae]⟩
 .cases h
def Yu{s d:yu}{k:yZ}(hd:P.underlying d=D5 (.int k))(hs:(∃k',P.underlying s=D5 (.int k'))\/∃k',P.underlying s=D5 (.float k'))(hx:ae ab m S w vx x)(h:kM (.toInt k) vx=D5 v):∃u,(convert s d x).run P w=.ok u w/\ae ab m S w v u:=by
 cases vx<;>simp only[kM,reduceCtorEq] at h
 case int k0 n=>
  simp only[ae] at hx;subst hx;simp only[yb] at h;subst h;refine⟨.int k (k.wrap n),?_,by simp[ae]⟩;rcases hs with ⟨k',h'⟩ | ⟨k',h'⟩<;>simp[convert,underlying,Conv.intToInt,hd,h']
 case au sk b=>
  subst hx
  cases hi:(sk.decode b).toInt .zero with
  | none=>simp[hi] at h
  | some n=>
   simp only[hi] at h;by_cases hr:k.min<=n/\n<=k.max
   .simp only [hr,and_self,xN,yb] at h;subst h;refine⟨.int k n,?_,by simp[ae]⟩;rcases hs with ⟨k',h'⟩ | ⟨k',h'⟩<;>simp[convert,underlying,Conv.floatToInt,hd,h',hi,hr]
   .grind
def Yv{s d:yu}{k:xO}(hd:P.underlying d=D5 (.float k))(hs:(∃k',P.underlying s=D5 (.int k'))\/∃k',P.underlying s=D5 (.float k'))(hx:ae ab m S w vx x)(h:kM (.toFlt k) vx=D5 v):∃u,(convert s d x).run P w=.ok u w/\ae ab m S w v u:=by
 cases vx<;>simp only[kM,reduceCtorEq] at h
 case int k0 n=>
  simp only[ae] at hx;subst hx;simp only[yb] at h;subst h;refine⟨.float k (k.nearest n),?_,by simp[ae]⟩;rcases hs with ⟨k',h'⟩ | ⟨k',h'⟩<;>simp[convert,underlying,Conv.intToFloat,hd,h']
 case au sk b=>
  simp only[ae] at hx;subst hx;by_cases he:sk=k
  .subst he;simp only[xN,yb] at h;subst h;refine⟨.float sk b,?_,by simp[ae]⟩;rcases hs with ⟨k',h'⟩ | ⟨k',h'⟩<;>simp[convert,underlying,Conv.floatToFloat,hd,h']
  .simp only [he,xq] at h
   cases M7:sk.decode b with
   | nan _ _=>simp[M7] at h
   | infinity _=>simp[M7] at h
   | number sg mm ee=>
    simp only[M7] at h
    cases SG:(k.decode (k.encode (.number sg mm ee))).isInfinity with
    | true=>simp[SG] at h
    | false=>
     simp only[SG,yA,xq,yb] at h;subst h;refine⟨.float k (k.encode (.number sg mm ee)),?_,by simp[ae]⟩;rcases hs with ⟨k',h'⟩ | ⟨k',h'⟩<;>simp[convert,underlying,Conv.floatToFloat,hd,h',he,M7,SG]
def aj9{s d:yu}(hd:P.underlying d=D5 .string)(hs:P.underlying s=D5 .string)(hx:ae ab m S w vx x)(h:kM .str vx=D5 v):∃u,(convert s d x).run P w=.ok u w/\ae ab m S w v u:=by
 cases vx<;>simp only[kM,reduceCtorEq] at h
 simp only[yb] at h;subst h;obtain⟨b,rfl,hb⟩:=hx;exact⟨.string b,by simp[convert,underlying,hs,hd],by simp only[ae];exact⟨b,rfl,hb⟩⟩
end
end
end
section
open Go
section
variable {v vx:AV}{hp:Hp}{k:Nat}{P:xi}{x:yg}
def air(h:cF v=D5 k):∃kd,v=.int kd (k:Int):=by
 cases v<;>simp only[cF,reduceCtorEq] at h
 rename_i kd n
 cases n with
 | ofNat j=>simp only[yb] at h;subst h;exact⟨kd,rfl⟩
 | negSucc j=>cases h
section
variable {O:bk}{H:Hint}{m:Mp}{S:Nat->Prop}{w:yi}{tm:Env}{a:Act}
def zF{ab:Nat->Nat}(hx:ae ab m S w v x)(h:cF v=D5 k):∃kd,x=.int kd (k:Int):=by
 obtain⟨kd,rfl⟩:=air h;simp only[ae] at hx
 grind
def run_sliceBound{kd:yZ}{y:Nat}{code:BoundsCode}(h:k<=y):(Instr.sliceBound (.int kd (k:Int)) y code).run P w=.ok k w:=by
 have:(0:Int)<=(k:Int)/\(k:Int)<=(y:Int):=by lia
 simp[Instr.sliceBound,asIntOf,this]
def PT{isSlice:Bool}{len cap l h:Nat}{lo hi:Option xm}(hH:eF O H)(ht:bN O m S w tm a.tmps)(hl:cC tm 0 (lo.map (aI H))=D5 l)(hh:cC tm len (hi.map (aI H))=D5 h)(h1:l<=h)(h2:h<=cap):
  (Instr.sliceBounds isSlice len cap (lo.map a.eval) (hi.map a.eval) D6).run P w=.ok (l,h,cap) w:=by
 cases lo with
 | none=>
  simp only[vV,cC,yb] at hl;subst hl
  cases hi with
  | none=>
   simp only[vV,cC,yb] at hh;subst hh;simp[Instr.sliceBounds]
  | some y=>
   have⟨kd,e⟩:=zF (bO hH ht y) hh;simp only[Instr.sliceBounds,vV,wB,e,Sem.run_bind,Sem.run_pure,Result.andThen_ok,run_sliceBound h2]
 | some x=>
  have⟨kd,e⟩:=zF (bO hH ht x) hl
  cases hi with
  | none=>
   simp only[vV,cC,yb] at hh;subst hh;simp only[Instr.sliceBounds,vV,wB,e,Sem.run_bind,Sem.run_pure,Result.andThen_ok,run_sliceBound h1]
  | some y=>
   have⟨Uo,e'⟩:=zF (bO hH ht y) hh;simp only[Instr.sliceBounds,wB,e,e',Sem.run_bind,Sem.run_pure,Result.andThen_ok,run_sliceBound h2,run_sliceBound h1]
def ais{t:yu}{lo hi:Option xm}(hH:eF O H)(ht:bN O m S w tm a.tmps)(hu:O.P.underlying t=D5 .string)(hx:ae O.ab m S w vx x)(h:eP hp .str vx tm (lo.map (aI H)) (hi.map (aI H))=D5 v):
  ∃u,(Instr.sliceAt t x (lo.map a.eval) (hi.map a.eval) D6).run O.P w=.ok u w/\ae O.ab m S w v u:=by
 cases vx<;>simp only[eP,reduceCtorEq] at h
 obtain⟨b,rfl,rfl⟩:=hx
 cases hl:cC tm 0 (lo.map (aI H)) with
 | none=>simp[hl] at h
 | some l=>
  simp only[hl] at h
  cases hh:cC tm (b.data.toList.map xe).length (hi.map (aI H)) with
  | none=>rw[hh] at h;cases h
  | some g=>
   rw[hh] at h;simp only at h
   cases hc:(yz l g&&yz g (b.data.toList.map xe).length) with
   | false=>rw[hc] at h;cases h
   | true=>
    rw[hc] at h;simp only[yr,yb] at h;subst h;simp only[ye] at hc;have h1:=yv hc.1;have h2:=yv hc.2;have hlen:(b.data.toList.map xe).length=b.size:=XC b;rw[hlen] at hh h2;refine⟨.string (b.extract l g),?_,?_⟩
    .simp only [Instr.sliceAt,Sem.run_bind,run_underlying hu,Result.andThen_ok,Instr.slice,tu,yA,xq,Sem.run_pure,
      PT (P:=O.P) (isSlice:=ycH) (len:=b.size) (cap:=b.size) hH ht hl hh h1 h2]
    .simp only [ae];refine⟨_,rfl,?_⟩;rw[Lib.extract_data,List.map_take,List.map_drop,List.drop_take]
def aka{t e:yu}{sz:Nat}{lo hi:Option xm}(hH:eF O H)(ht:bN O m S w tm a.tmps)(hu:O.P.underlying t=D5 (.slice e))(hz:bU O.P e=D5 sz){ct:Nat}(hh:aP O m S w hp ct)(hx:ae O.ab m S w vx x)(h:eP hp (.sl sz) vx tm (lo.map (aI H)) (hi.map (aI H))=D5 v):
  ∃u,(Instr.sliceAt t x (lo.map a.eval) (hi.map a.eval) D6).run O.P w=.ok u w/\ae O.ab m S w v u:=by
 have dR:(wT e).run O.P w=.ok sz w:=by
  unfold bU at hz
  cases hi:O.P.info? e with
  | none=>simp[hi] at hz
  | some i=>simp_all[wT,typeInfo]
 have HJ:∀(ad:Option uh) (n c l g:Nat),cC tm 0 (lo.map (aI H))=D5 l->cC tm n (hi.map (aI H))=D5 g->l<=g->g<=c->
   (Instr.sliceAt t (.slice ad n c) (lo.map a.eval) (hi.map a.eval) D6).run O.P w=.ok (.slice (if c=l then ad else ad.map (·.add (l*sz))) (g-l) (c-l)) w:=by
  intro ad n c l g hl hg h1 h2
  simp only[Instr.sliceAt,Sem.run_bind,run_underlying hu,Result.andThen_ok,Instr.slice,Sem.run_pure,dR,
   PT (P:=O.P) (isSlice:=ycG) (len:=n) (cap:=c) hH ht hl hg h1 h2]
 cases vx<;>simp only[eP,reduceCtorEq] at h
 case ah=>
  simp only[ae] at hx;subst hx
  cases hl:cC tm 0 (lo.map (aI H)) with
  | none=>simp[hl] at h
  | some l=>
   cases l with
   | succ l=>simp[hl] at h
   | zero=>
    simp only[hl] at h
    cases hh:cC tm 0 (hi.map (aI H)) with
    | none=>simp[hh] at h
    | some g=>
     cases g with
     | succ g=>simp[hh] at h
     | zero=>
      simp only[hh,yb] at h;subst h;exact⟨_,HJ D6 0 0 0 0 hl hh (yq _) (yq _),by simp[ae]⟩
 case aq ex n cs=>
  simp only[ae] at hx;rcases hx with ⟨b,o,c,rfl,JR,hex,hS,fZ,Aq⟩ | ⟨ad,rfl,rfl,rfl⟩
  case inr=>
   cases hl:cC tm 0 (lo.map (aI H)) with
   | none=>simp[hl] at h
   | some l=>
    simp only[hl] at h
    cases hh:cC tm 0 (hi.map (aI H)) with
    | none=>simp[hh] at h
    | some g=>
     simp only[hh] at h
     cases hc:(yz l g&&yz g 0) with
     | false=>rw[hc] at h;cases h
     | true=>
      rw[hc] at h;simp only[yr,yb] at h;subst h;simp only[ye] at hc;have h1:=yv hc.1;have h2:=yv hc.2;have hg:g=0:=by lia
      subst hg;have kA:l=0:=by lia
      subst kA;refine⟨_,HJ (D5 ad) 0 0 0 0 hl hh h1 h2,?_⟩;simp only[ae];exact .inr ⟨ad,by simp,by simp,by simp[slice]⟩
  cases hl:cC tm 0 (lo.map (aI H)) with
  | none=>simp[hl] at h
  | some l=>
   simp only[hl] at h
   cases hh:cC tm n (hi.map (aI H)) with
   | none=>simp[hh] at h
   | some g=>
    simp only[hh] at h
    cases hc:(yz l g&&yz g n) with
    | false=>rw[hc] at h;cases h
    | true=>
     rw[hc] at h;simp only[yr,yb] at h;subst h;simp only[ye] at hc;have h1:=yv hc.1;have h2:=yv hc.2;refine⟨_,HJ (D5 ⟨b,o,D6⟩) n c l g hl hh h1 (by lia),?_⟩;have C5:aD (slice (l*sz) ((g-l)*sz) cs)=ycG:=by
      have pd:∀(k:Nat) (cs:List AV),aD cs=ycG->aD (cs.drop k)=ycG:=by
       intro k
       induction k with
       | zero=>intro cs h;simpa using h
       | succ k ih=>intro cs h;cases cs with
        | nil=>simpa using h
        | cons c cs=>simp only[aD,ye] at h;simpa using ih cs h.2
      have pt:∀(k:Nat) (cs:List AV),aD cs=ycG->aD (cs.take k)=ycG:=by
       intro k
       induction k with
       | zero=>intro cs h;simp[aD]
       | succ k ih=>intro cs h;cases cs with
        | nil=>simp[aD]
        | cons c cs=>simp only[aD,ye,wq] at h ⊢;exact⟨h.1,ih cs h.2⟩
      exact pt _ _ (pd _ _ fZ)
     have acC:(ex&&yo g n)=ycG->c-l=g-l:=by
      intro hq;simp only[ye] at hq
      have:=hex hq.1
      have:=yf hq.2
      lia
     simp only[ae];by_cases fG:c=l
     .have h0:g-l=0:=by lia
      have Ar:slice (l*sz) ((g-l)*sz) cs=[]:=by simp[slice,h0]
      rw[Ar];exact .inl ⟨b,o,c-l,by simp[fG],by lia,acC,.inl rfl,rfl,by simp[bL]⟩
     .refine .inl ⟨b,o+l*sz,c-l,by simp[fG,mS],by lia,acC,?_,C5,?_⟩
      .rcases hS with rfl | hS
       .exact .inl (by simp[slice])
       .exact .inr hS
      .exact zq _ _ _ _ (qD _ _ _ _ Aq)
 case av id o n=>
  simp only[ae] at hx;obtain⟨p,c,hm,rfl,JR,Ou⟩:=hx
  split at h
  case h_2=>cases h
  rename_i Up pu0 sT z0 kB C6;have⟨p',arr,t',gP,_,eI,_⟩:=hh.obj id _ _ C6 hm;rw[hm] at gP;injection gP with gP
  subst gP
  cases hl:cC tm 0 (lo.map (aI H)) with
  | none=>simp[hl] at h
  | some l=>
   simp only[hl] at h
   cases hh:cC tm n (hi.map (aI H)) with
   | none=>simp[hh] at h
   | some g=>
    simp only[hh] at h
    cases hc:(yz l g&&yz g n&&yo z0 sz) with
    | false=>rw[hc] at h;cases h
    | true=>
     rw[hc] at h;simp only[yr] at h;simp only[ye] at hc;have h1:=yv hc.1.1;have h2:=yv hc.1.2;have hpz:p.z=sz:=eI.trans (yf hc.2)
     cases he:(yo l g&& !yo l 0) with
     | true=>
      rw[he] at h;simp only[yr,yb] at h;subst h;simp only[ye] at he;have Ov:=yf he.1;refine⟨_,HJ (D5 ⟨p.b,p.o+o,D6⟩) n c l g hl hh h1 (by lia),?_⟩;simp only[ae];by_cases fG:c=l
      .exact .inl ⟨p.b,p.o+o,c-l,by simp[fG];lia,by lia,by simp,by simp,by simp[aD],by simp[bL]⟩
      .exact .inl ⟨p.b,p.o+o+l*sz,c-l,by simp[fG,mS];lia,by lia,by simp,by simp,by simp[aD],by simp[bL]⟩
     | false=>
      rw[he] at h;simp only[yJ,yb] at h;subst h;have fG:c=l->l=0:=by
       intro fG;have Ov:l=g:=by lia
       cases kA:yo l 0 with
       | true=>exact yf kA
       | false=>rw[Ov,wC,<-Ov,kA] at he;cases he
      refine⟨_,HJ (D5 ⟨p.b,p.o+o,D6⟩) n c l g hl hh h1 (by lia),?_⟩;simp only[ae];refine⟨p,c-l,hm,?_,by lia,?_⟩
      .by_cases SH:c=l
       .have:=fG SH;subst this;subst SH;simp
       .simp [SH,mS,uv]
      .rw [hpz] at Ou ⊢
       have:c*sz=l*sz+(c-l)*sz:=by rw[<-xL];congr 1;lia
       lia
def akb{t e:yu}{n sz:Nat}{lo hi:Option xm}(hH:eF O H)(ht:bN O m S w tm a.tmps)(hu:O.P.underlying t=D5 (.array n e))(hz:bU O.P e=D5 sz)(hx:ae O.ab m S w vx x)(h:eP hp (.ar n sz) vx tm (lo.map (aI H)) (hi.map (aI H))=D5 v):
  ∃u,(Instr.sliceAt t x (lo.map a.eval) (hi.map a.eval) D6).run O.P w=.ok u w/\ae O.ab m S w v u:=by
 have dR:(wT e).run O.P w=.ok sz w:=by
  unfold bU at hz
  cases hi:O.P.info? e with
  | none=>simp[hi] at hz
  | some i=>simp_all[wT,typeInfo]
 cases vx<;>simp only[eP,reduceCtorEq] at h
 rename_i cs;simp only[ae] at hx;obtain⟨b,o,rfl,hS,fZ,Aq⟩:=hx
 cases hl:cC tm 0 (lo.map (aI H)) with
 | none=>simp[hl] at h
 | some l=>
  simp only[hl] at h
  cases hh:cC tm n (hi.map (aI H)) with
  | none=>simp[hh] at h
  | some g=>
   simp only[hh] at h
   cases hc:(yo l 0&&yo g n&&(yF 0 n&&yz (n*sz) cs.length)) with
   | false=>rw[hc] at h;cases h
   | true=>
    rw[hc] at h;simp only[yr,yb] at h;subst h;simp only[ye] at hc;have h1:=yf hc.1.1;have h2:=yf hc.1.2;have h3:0<n:=yv hc.2.1;subst h1 h2;have dV:¬g=0:=by omega
    refine⟨.slice (D5 ⟨b,o,D6⟩) g g,?_,?_⟩
    .simp only [Instr.sliceAt,Sem.run_bind,run_underlying hu,Result.andThen_ok,Instr.sureAddr,Sem.run_pure,dR,
      PT (P:=O.P) (isSlice:=ycH) (len:=g) (cap:=g) hH ht hl hh (Nat.zero_le _) (yq _)]
     simp[mS]
    .have pt:∀(k:Nat) (cs:List AV),aD cs=ycG->aD (cs.take k)=ycG:=by
      intro k
      induction k with
      | zero=>intro cs h;simp[aD]
      | succ k ih=>intro cs h;cases cs with
       | nil=>simp[aD]
       | cons c cs=>simp only[aD,ye,wq] at h ⊢;exact⟨h.1,ih cs h.2⟩
     simp only[ae];refine .inl ⟨b,o,g,rfl,yq _,fun _=>rfl,?_,pt _ _ fZ,zq _ _ _ _ Aq⟩;rcases hS with rfl | hS
     .exact .inl (by simp)
     .exact .inr hS
end
end
end
section
open Go
section
variable {v vi vx:AV}{ag:Bool}{cs:List AV}{k sz:Nat}{i x:yg}
def nG{P:xi}{w:yi}{t:yu}(hz:bU P t=D5 sz):(wT t).run P w=.ok sz w:=by
 unfold bU at hz
 cases hi:P.info? t with
 | none=>simp[hi] at hz
 | some i=>simp_all[wT,typeInfo]
section
variable {O:bk}{H:Hint}{m:Mp}{S:Nat->Prop}{w:yi}{tm:Env}{a:Act}{hp:Hp}{ct:Nat}
def Ql{id o n:Nat}{rw pu ex:Bool}{p:Pl}(hh:aP O m S w hp ct)(hg:ai hp id=D5 (.cells rw pu ex sz cs))(hm:m id=D5 p):
  bL O.ab m S w cs p.b p.o:=by
 have⟨p',arr,t',gP,_,_,_,_,_,hr,_⟩:=hh.obj id _ _ hg hm
 grind
def asW{t:yu}(hh:aP O m S w hp ct)(hz:bU O.P t=D5 sz)(ha:cU O.P t=D5 ag)(hx:ae O.ab m S w vx x)(h:fD hp sz ag vx=D5 v):∃u,(Instr.loadAt t x).run O.P w=.ok u w/\ae O.ab m S w v u:=by
 cases vx<;>simp only[fD,reduceCtorEq] at h
 case ptr id o=>
  obtain⟨p,hm,rfl⟩:=hx
  split at h
  case h_2=>cases h
  rename_i Up pu0 sT z0 kB C6;have hr:=Ql (id:=id) (o:=0) (n:=0) hh C6 hm;have⟨u,h1,h2⟩:=LL hz ha (qD o kB p.b p.o hr) h;exact⟨u,by simp only[Instr.loadAt,Instr.sureAddr,Sem.run_bind,Sem.run_pure,Result.andThen_ok];exact h1,h2⟩
 case bJ cs=>
  obtain⟨b,o,rfl,_,_,hr⟩:=hx;have⟨u,h1,h2⟩:=LL hz ha hr h;exact⟨u,by simp only[Instr.loadAt,Instr.sureAddr,Sem.run_bind,Sem.run_pure,Result.andThen_ok];exact h1,h2⟩
def zt:∀(k:Nat) (cs:List AV),aD cs=ycG->aD (cs.drop k)=ycG
 | 0,cs,h=>by simpa using h
 | k+1,[],h=>by simpa using h
 | k+1,c::cs,h=>by simp only[aD,ye] at h;simpa using zt k cs h.2
def PU{b o:Nat}(h2:cs=[]\/S b)(h3:aD cs=ycG)(h4:bL O.ab m S w cs b o):ae O.ab m S w (.bJ (cs.drop k)) (.pointer (D5 ⟨b,o+k,D6⟩)):=by
 refine⟨b,o+k,rfl,?_,zt k cs h3,qD k cs b o h4⟩
 grind
def aoT{t:yu}{fs:Array vI}{i:Nat}{f:vI}(hu:O.P.underlying t=D5 (.struct fs))(hf:fs[i]? =D5 f)(hz:bU O.P f.type=D5 (sz+1))(hx:ae O.ab m S w vx x)(h:Bo f.offset vx=D5 v):∃u,(Instr.fieldAt t x i).run O.P w=.ok u w/\ae O.ab m S w v u:=by
 have abh:∀(b o:Nat),(Instr.fieldAt t (.pointer (D5 ⟨b,o,D6⟩)) i).run O.P w=.ok (.pointer (D5 ⟨b,o+f.offset,D6⟩)) w:=by
  intro b o;simp only[Instr.fieldAt,Sem.run_bind,run_underlying hu,Result.andThen_ok,hf,Instr.sureAddr,Sem.run_pure,fieldPlace,nG hz,Nat.succ_ne_zero,xq,mS]
 cases vx<;>simp only[Bo,reduceCtorEq] at h
 case ptr id o=>
  obtain⟨p,hm,rfl⟩:=hx;simp only[yb] at h;subst h;exact⟨_,abh _ _,by simp only[ae];exact⟨p,hm,by rw[uv]⟩⟩
 case bJ cs=>
  obtain⟨b,o,rfl,h2,h3,h4⟩:=hx
  cases hc:yz f.offset cs.length with
  | false=>rw[hc] at h;cases h
  | true=>
   rw[hc] at h;simp only[yr,yb] at h;subst h;exact⟨_,abh _ _,PU h2 h3 h4⟩
def aoU{t:yu}{fs:Array vI}{i:Nat}{f:vI}(hu:O.P.underlying t=D5 (.struct fs))(hf:fs[i]? =D5 f)(hz:bU O.P f.type=D5 sz)(ha:cU O.P f.type=D5 ag)(hx:ae O.ab m S w vx x)(h:MD f.offset sz ag vx=D5 v):∃u,(Instr.field t x i).run O.P w=.ok u w/\ae O.ab m S w v u:=by
 cases vx<;>simp only[MD,reduceCtorEq] at h
 obtain⟨xs,rfl,hr⟩:=hx;have⟨u,h1,h2⟩:=ZA hz ha hr h;exact⟨u,by simp only[Instr.field,Sem.run_bind,run_underlying hu,Result.andThen_ok,hf,asAgg,Sem.run_pure];exact h1,h2⟩
def aoV{t e:yu}(hu:O.P.underlying t=D5 (.slice e))(hz:bU O.P e=D5 sz)(hx:ae O.ab m S w vx x)(hi:ae O.ab m S w vi i)(hk:cF vi=D5 k)(h:jn sz k vx=D5 v):∃u,(Instr.indexAt t x i).run O.P w=.ok u w/\ae O.ab m S w v u:=by
 obtain⟨kd,rfl⟩:=zF hi hk;have IA:∀(b o n c:Nat),k<n->(Instr.indexAt t (.slice (D5 ⟨b,o,D6⟩) n c) (.int kd (k:Int))).run O.P w=.ok (.pointer (D5 ⟨b,o+k*sz,D6⟩)) w:=by
  intro b o n c p8;have hr:(0:Int)<=(k:Int)/\(k:Int)<(n:Int):=by lia
  simp[Instr.indexAt,asIntOf,run_underlying hu,nG hz,hr,mS]
  grind
 cases vx<;>simp only[jn,reduceCtorEq] at h
 case av id o n=>
  obtain⟨p,c,hm,rfl,JR,Ou⟩:=hx
  cases hc:yF k n with
  | false=>rw[hc] at h;cases h
  | true=>
   rw[hc] at h;simp only[yr,yb] at h;subst h;have p8:k<n:=by simp_all
   exact⟨_,IA _ _ _ _ p8,by simp only[ae];exact⟨p,hm,by rw[uv]⟩⟩
 case aq ex n cs=>
  rcases hx with ⟨b,o,c,rfl,JR,hex,h2,h3,h4⟩ | ⟨a,rfl,rfl,rfl⟩
  case inr=>
   have:yF k 0=ycH:=by cases hq:yF k 0 with | false=>rfl | true=>simp only[yF,ycA] at hq;lia
   grind
  cases hc:yF k n with
  | false=>rw[hc] at h;cases h
  | true=>
   rw[hc] at h;simp only[yr,yb] at h;subst h;have p8:k<n:=by simp_all
   exact⟨_,IA _ _ _ _ p8,PU h2 h3 h4⟩
def aoW{t e:yu}{len:Nat}(hu:O.P.underlying t=D5 (.array len e))(hz:bU O.P e=D5 sz)(hx:ae O.ab m S w vx x)(hi:ae O.ab m S w vi i)(hk:cF vi=D5 k)(h:ME len sz k vx=D5 v):∃u,(Instr.indexAt t x i).run O.P w=.ok u w/\ae O.ab m S w v u:=by
 obtain⟨kd,rfl⟩:=zF hi hk;have IA:∀(b o:Nat),k<len->(Instr.indexAt t (.pointer (D5 ⟨b,o,D6⟩)) (.int kd (k:Int))).run O.P w=.ok (.pointer (D5 ⟨b,o+k*sz,D6⟩)) w:=by
  intro b o p8;have hr:(0:Int)<=(k:Int)/\(k:Int)<(len:Int):=by lia
  simp[Instr.indexAt,asIntOf,run_underlying hu,nG hz,hr,mS,Instr.sureAddr]
  grind
 cases vx<;>simp only[ME,reduceCtorEq] at h
 case ptr id o=>
  obtain⟨p,hm,rfl⟩:=hx
  cases hc:yF k len with
  | false=>rw[hc] at h;cases h
  | true=>
   rw[hc] at h;simp only[yr,yb] at h;subst h;have p8:k<len:=by simp_all
   exact⟨_,IA _ _ p8,by simp only[ae];exact⟨p,hm,by rw[uv]⟩⟩
 case bJ cs=>
  obtain⟨b,o,rfl,h2,h3,h4⟩:=hx
  cases hc:yF k len with
  | false=>rw[hc] at h;cases h
  | true=>
   rw[hc] at h;simp only[yr,yb] at h;subst h;have p8:k<len:=by simp_all
   exact⟨_,IA _ _ p8,PU h2 h3 h4⟩
def aoX{t e:yu}{len:Nat}(hu:O.P.underlying t=D5 (.array len e))(hz:bU O.P e=D5 sz)(ha:cU O.P e=D5 ag)(hx:ae O.ab m S w vx x)(hi:ae O.ab m S w vi i)(hk:cF vi=D5 k)(h:MF len sz ag k vx=D5 v):
  ∃u,(Instr.index t x i).run O.P w=.ok u w/\ae O.ab m S w v u:=by
 obtain⟨kd,rfl⟩:=zF hi hk;cases vx<;>simp only[MF,reduceCtorEq] at h
 obtain⟨xs,rfl,hr⟩:=hx
 cases hc:yF k len with
 | false=>rw[hc] at h;cases h
 | true=>
  rw[hc] at h;have p8:k<len:=by simp_all
  have⟨u,h1,h2⟩:=ZA hz ha hr h;have bq:(0:Int)<=(k:Int)/\(k:Int)<(len:Int):=by lia
  exact⟨u,by simp[Instr.index,asIntOf,run_underlying hu,nG hz,bq,h1];intro hle;exact absurd hle (by lia),h2⟩
def aoY{t:yu}(hu:O.P.underlying t=D5 .string)(hx:ae O.ab m S w vx x)(hi:ae O.ab m S w vi i)(hk:cF vi=D5 k)(h:Bp k vx=D5 v):
  ∃u,(Instr.index t x i).run O.P w=.ok u w/\ae O.ab m S w v u:=by
 obtain⟨kd,rfl⟩:=zF hi hk;cases vx<;>simp only[Bp,reduceCtorEq] at h
 obtain⟨b,rfl,rfl⟩:=hx
 cases hs:(b.data.toList.map xe)[k]? with
 | none=>rw[hs] at h;cases h
 | some q=>
  rw[hs] at h;simp only[yb] at h;subst h;rw[uF] at hs
  cases hb:b.data.toList[k]? with
  | none=>rw[hb] at hs;cases hs
  | some c=>
   rw[hb] at hs;simp only[wB,yb] at hs;subst hs;have bm:b[k]? =D5 c:=by
    have aB:k<b.data.toList.length:=by
     grind
    have dR:k<b.size:=by simp_all
    rw[getElem?_pos b k dR];rw[xh aB] at hb;rw[<-hb];rfl
   refine⟨.int .u8 c.toNat,?_,by simp[ae]⟩;simp[Instr.index,asIntOf,run_underlying hu,bm]
end
end
end
section
open Go
section
variable {ab:Nat->Nat}{m:Mp}{S:Nat->Prop}{w:yi}
def PV:∀{v:AV} {u:yg},ae ab m S w v u->b5 (cellsOf v)=ycG->ax ab m S w (cellsOf v) u.cells.toList:=by
 intro v u h h1;cases v
 case undef=>simp[cellsOf,b5,dD] at h1
 case cu=>simp[cellsOf,b5,dD] at h1
 case fn f a b=>
  cases f with
  | f g=>have h':=h;obtain⟨fi,ca,rfl,_⟩:=h';exact⟨_,_,rfl,h,rfl⟩
  | y l=>have h':=h;obtain⟨p,_,rfl⟩:=h';exact⟨_,_,rfl,h,rfl⟩
 all_goals
  have h':=h;simp only[ae] at h';simp only[cellsOf,Value.cells,ax]
  grind
def Cu(v:yg):ax ab m S w (cellsOf (et v)) v.cells.toList:=by
 have h:=LK (ab:=ab) (m:=m) (S:=S) (w:=w) v;cases v
 case agg xs=>
  obtain⟨xs,e,hr⟩:=h;injection e with e
  subst e;exact hr
 case pointer p=>cases p<;>(simp only[et] at h ⊢;exact⟨_,_,rfl,h,rfl⟩)
 case map p=>cases p<;>(simp only[et] at h ⊢;exact⟨_,_,rfl,h,rfl⟩)
 case slice p n c=>
  cases p
  .cases n
   .cases c<;>(simp only[et] at h ⊢;exact⟨_,_,rfl,h,rfl⟩)
   .simp only [et] at h ⊢;exact⟨_,_,rfl,h,rfl⟩
  .simp only [et] at h ⊢;exact⟨_,_,rfl,h,rfl⟩
 all_goals (simp only[et] at h ⊢;exact⟨_,_,rfl,h,rfl⟩)
def kX:∀{a b:List AV} {x y:List yg},ax ab m S w a x->ax ab m S w b y->ax ab m S w (a++b) (x++y)
 | [],b,x,y,h,k=>by simp only[ax] at h;subst h;simpa using k
 | c::a,b,x,y,h,k=>by
  obtain⟨u,r,rfl,h2,h3⟩:=h;exact⟨u,r++y,rfl,h2,kX h3 k⟩
def He:∀(k:Nat) {cs:List AV} {us:List yg},ax ab m S w cs us->ax ab m S w (cs.drop k) (us.drop k)
 | 0,cs,us,h=>by simpa using h
 | k+1,[],us,h=>by simp only[ax] at h;subst h;simp[ax]
 | k+1,c::cs,us,h=>by simp only[ax] at h;obtain⟨u,r,rfl,_,h3⟩:=h;simpa using He k h3
def Ec:∀(k:Nat) {cs:List AV} {us:List yg},ax ab m S w cs us->ax ab m S w (cs.take k) (us.take k)
 | 0,cs,us,h=>by simp[ax]
 | k+1,[],us,h=>by simp only[ax] at h;subst h;simp[ax]
 | k+1,c::cs,us,h=>by
  simp only[ax] at h;obtain⟨u,r,rfl,h2,h3⟩:=h;exact⟨u,_,rfl,h2,Ec k h3⟩
def Qm:∀{cs:List AV} {us:List yg} {i:Nat} {v:AV},ax ab m S w cs us->cs[i]? =D5 v->∃u,us[i]? =D5 u/\ae ab m S w v u
 | [],us,i,v,_,h=>by simp at h
 | c::cs,us,0,v,h,e=>by
  simp only[ax] at h;obtain⟨u,r,rfl,h2,h3⟩:=h;simp at e;subst e;exact⟨u,rfl,h2⟩
 | c::cs,us,i+1,v,h,e=>by
  simp only[ax] at h;obtain⟨u,r,rfl,h2,h3⟩:=h;simpa using Qm h3 e
end
def XD(off:Nat):∀(new:List yg) (j:Nat) (cells:Array yg),off+j+new.length<=cells.size->
  ((new.zipIdx j).foldl (fun (cs:Array yg) (p:yg×Nat)=>cs.setIfInBounds (off+p.2) p.1) cells).toList=
   cells.toList.take (off+j)++new++cells.toList.drop (off+j+new.length)
 | [],j,cells,_=>by simp
 | v::r,j,cells,h=>by
  simp only[yH] at h;have ih:=XD off r (j+1) (cells.setIfInBounds (off+j) v) (by simp;omega);simp only[List.zipIdx_cons,List.foldl_cons];rw[ih];have aB:off+j<cells.toList.length:=by grind
  have h1:(cells.setIfInBounds (off+j) v).toList=cells.toList.set (off+j) v:=by simp
  rw[h1,show off+(j+1)=off+j+1 by omega];have h2:(cells.toList.set (off+j) v).take (off+j+1)=cells.toList.take (off+j)++[v]:=by
   rw[List.take_succ_eq_append_getElem (by simpa using aB)];simp[List.take_set_of_le]
  have h3:(cells.toList.set (off+j) v).drop (off+j+1+r.length)=cells.toList.drop (off+j+(r.length+1)):=by
   rw[List.drop_set_of_lt (by omega)];congr 1;omega
  grind
section
variable {O:bk}{H:Hint}{m:Mp}{S:Nat->Prop}{w:yi}{tm:Env}{a:Act}
def LM(hH:eF O H)(ht:bN O m S w tm a.tmps){place:Nat->Option (Nat×Nat)}:∀(parts:List (Nat×xm)) (ps:List (Nat×Nat×X)) (zero cs:List AV) (cells:Array yg),
  partsOf H place parts=D5 ps->ax O.ab m S w zero cells.toList->fill tm zero ps=D5 cs->
  ∃out,Instr.fill place cells (parts.map fun p=>(p.1,a.eval p.2))=D5 out/\ax O.ab m S w cs out.toList
 | [],ps,zero,cs,cells,hp,hz,hf=>by
  simp only[partsOf,yb] at hp;subst hp;simp only[fill,yb] at hf;subst hf;exact⟨cells,rfl,hz⟩
 | (i,x)::r,ps,zero,cs,cells,hp,hz,hf=>by
  simp only[partsOf] at hp
  cases mC:place i with
  | none=>simp[mC] at hp
  | some q=>
   obtain⟨o,s⟩:=q;simp only[mC] at hp
   cases ot:partsOf H place r with
   | none=>simp[ot] at hp
   | some l=>
    simp only[ot,yb] at hp;subst hp;simp only[fill] at hf
    cases hc:(yo (cellsOf (aw tm (aI H x))).length s&&yz (o+s) zero.length&&b5 (cellsOf (aw tm (aI H x)))) with
    | false=>rw[hc] at hf;cases hf
    | true=>
     rw[hc] at hf;simp only[ye] at hc;have hle:=yv hc.1.2;have hrx:=PV (bO hH ht x) hc.2;have ox:=fP _ _ hrx;have oy:=fP _ _ hz;have dR:(a.eval x).cells.size=s:=by simp_all
     have As:cells.size=zero.length:=by omega
     have asX:=XD o (a.eval x).cells.toList 0 cells (by simp;omega);have eI:ax O.ab m S w (over o (cellsOf (aw tm (aI H x))) zero)
       ((a.eval x).cells.zipIdx.foldl (fun (cs:Array yg) (p:yg×Nat)=>cs.setIfInBounds (o+p.2) p.1) cells).toList:=by
      rw[<-Array.foldl_toList,Array.toList_zipIdx,asX];rw[show (a.eval x).cells.toList.length=(cellsOf (aw tm (aI H x))).length from ox];exact kX (kX (Ec o hz) hrx) (He _ hz)
     obtain⟨out,h1,h2⟩:=LM hH ht r l _ cs _ ot eI hf;simp only[yV,Instr.fill,mC,dR]
     grind
end
end
section
open Go
def PW(p q:ByteArray):(p==q)=fX (me p) (me q):=by
 have h:(p==q)=(p.data==q.data):=by cases p;rfl
 rw[h,XB,ByteArray.toList_eq,ByteArray.toList_eq]
 simp_all
def SI:tv->Bool
 | .bool | .int _ | .string=>ycG
 | _=>ycH
def fits(d:tv)(v:AV):Bool:=
 match d,v with
 | .int _,.int _ _ | .string,.str _ | .bool,.bool _=>ycG
 | _,_=>ycH
section
variable {O:bk}{ab:Nat->Nat}{m:Mp}{S:Nat->Prop}{w:yi}
def akc{vk vk':AV}{k k':yg}{r:Bool}{d:tv}(hk:ae ab m S w vk k)(nn:ae ab m S w vk' k')(h:nX vk vk'=D5 r)(hd:fits d vk=ycG):Instr.sameNow d k k'=D5 r:=by
 unfold nX at h
 split at h
 .rename_i j x j' y;simp only[ae] at hk nn;subst hk;subst nn;by_cases hj:j=j'
  .simp only [hj,xN,yb] at h;subst hj;cases d<;>simp[fits] at hd
   simpa[Instr.sameNow] using h
  .simp [hj] at h
 .simp only [ae] at hk nn;obtain⟨s,rfl,rfl⟩:=hk;obtain⟨s',rfl,rfl⟩:=nn;simp only[yb] at h;cases d<;>simp[fits] at hd
  simp only[Instr.sameNow,PW];rw[<-h];rfl
 .simp only [ae] at hk nn;subst hk;subst nn;simp only[yb] at h;cases d<;>simp[fits] at hd
  simp[Instr.sameNow,h]
 .cases d<;>simp[fits] at hd
 .cases h
def agy{P:xi}{kt:yu}{d:tv}(hu:P.underlying kt=D5 d)(hd:SI d=ycG)(b:Bool)(k:yg):(Instr.checkKey b 10000 kt k).run P w=.ok () w:=by
 have:∀n,(Instr.checkKey b (n+1) kt k).run P w=.ok () w:=by
  cases d<;>simp[SI] at hd<;>simp[Instr.checkKey,run_underlying hu]
 grind
end
end
section
open Go
def G1:∀(k1 k2:List Nat) (a b:List AV) (r:Bool),cI (k1++k2) a b=D5 r->
  ∃r1 r2,cI k1 (a.take k1.length) (b.take k1.length)=D5 r1/\cI k2 (a.drop k1.length) (b.drop k1.length)=D5 r2/\r=(r1&&r2)
 | [],k2,a,b,r,h=>⟨ycG,r,by simp[cI],by simpa using h,by simp⟩
 | k::k1,k2,[],b,r,h=>by
  simp only[ym] at h;unfold cI at h
  grind
 | k::k1,k2,x::a,[],r,h=>by
  unfold cI at h
  grind
 | k::k1,k2,x::a,y::b,r,h=>by
  have step:∀(q:Bool) (f:Bool->Bool),(match cI (k1++k2) a b with | some r=>D5 (f r) | none=>D6)=D5 q->∃r0,cI (k1++k2) a b=D5 r0/\q=f r0:=by grind
  unfold cI at h
  split at h
  .grind
  .rename_i e1 e2 e3;obtain⟨rfl,rfl⟩:=e1;obtain⟨rfl,rfl⟩:=e2;obtain⟨rfl,rfl⟩:=e3;obtain⟨r0,h0,rfl⟩:=step r _ h;obtain⟨r1,r2,h1,h2,rfl⟩:=G1 k1 k2 _ _ r0 h0;exact⟨_,r2,by simp only[yH,wq,cI,h1],by simpa using h2,(yac _ _ _).symm⟩
  .rename_i e1 e2 e3;obtain⟨rfl,rfl⟩:=e1;obtain⟨rfl,rfl⟩:=e2;obtain⟨rfl,rfl⟩:=e3
   split at h
   .rename_i hk;obtain⟨r0,h0,rfl⟩:=step r _ h;obtain⟨r1,r2,h1,h2,rfl⟩:=G1 k1 k2 _ _ r0 h0;exact⟨_,r2,by simp only[yH,wq,cI,h1,hk,xN],by simpa using h2,(yac _ _ _).symm⟩
   .cases h
  .rename_i e1 e2 e3;obtain⟨rfl,rfl⟩:=e1;obtain⟨rfl,rfl⟩:=e2;obtain⟨rfl,rfl⟩:=e3;obtain⟨r0,h0,rfl⟩:=step r _ h;obtain⟨r1,r2,h1,h2,rfl⟩:=G1 k1 k2 _ _ r0 h0;exact⟨_,r2,by simp only[yH,wq,cI,h1],by simpa using h2,(yac _ _ _).symm⟩
  .cases h
def Ws:∀(ks:List Nat) (a b:List AV) (r:Bool),cI ks a b=D5 r->a.length=ks.length/\b.length=ks.length
 | [],a,b,r,h=>by
  unfold cI at h
  grind
 | k::ks,[],b,r,h=>by
  unfold cI at h
  grind
 | k::ks,x::a,[],r,h=>by
  unfold cI at h
  grind
 | k::ks,x::a,y::b,r,h=>by
  have:∃r0,cI ks a b=D5 r0:=by
   cases he:cI ks a b with
   | some r0=>exact⟨r0,rfl⟩
   | none=>unfold cI at h;split at h<;>simp_all
  have⟨r0,h0⟩:=this
  have:=Ws ks a b r0 h0
  simp[this]
def Fs(P:xi)(t:yu)(x:yg)(xs:List yg):Prop:=(cU P t=D5 ycG/\x=.agg xs.toArray)\/(cU P t=D5 ycH/\xs=[x])
section
variable {P:xi}{ab:Nat->Nat}{m:Mp}{S:Nat->Prop}{w:yi}
def KV{t:yu}{ag:Bool}(ha:cU P t=D5 ag):(isAgg t).run P w=.ok ag w:=by
 unfold cU at ha
 cases hu:P.underlying t with
 | none=>simp[hu] at ha
 | some d=>cases d<;>simp_all[isAgg,underlying]
def akd{t:yu}{s o:Nat}{xs:List yg}(hz:bU P t=D5 s)(ha:∃ag,cU P t=D5 ag)(h1:cU P t=D5 ycH->s=1)(hl:o+s<=xs.length):
  ∃u,(part t xs.toArray o).run P w=.ok u w/\Fs P t u ((xs.drop o).take s):=by
 have⟨ag,ha⟩:=ha
 cases ag with
 | true=>
  refine⟨.agg ((xs.drop o).take s).toArray,?_,.inl ⟨ha,rfl⟩⟩;simp[part,KV ha,nG hz,List.extract_eq_take_drop]
 | false=>
  have hs:=h1 ha;subst hs;have aB:o<xs.length:=by lia
  refine⟨xs[o],?_,.inr ⟨ha,?_⟩⟩
  .simp [part,KV ha,xh aB]
  .rw [List.drop_eq_getElem_cons aB,wq,ybq]
def XE{n:Nat}{t:yu}{ks:List Nat}(h:kinds P n t=D5 ks):∃ag,cU P t=D5 ag/\(ag=ycH->ks.length=1):=by
 cases n with
 | zero=>simp[kinds] at h
 | succ n=>
  unfold kinds at h;unfold cU
  split at h<;>simp_all
  all_goals (rw[<-h];rfl)
def R3(P:xi)(ab:Nat->Nat)(m:Mp)(S:Nat->Prop)(w:yi)(n:Nat):Prop:=
 ∀(t:yu) (ks:List Nat),kinds P n t=D5 ks->P.stoodInHeld t=ycH->∀(d:Nat),n<=d->∀(xs ys:List yg) (cs cW:List AV) (r:Bool) (x y:yg),
  ax ab m S w cs xs->ax ab m S w cW ys->cI ks cs cW=D5 r->Fs P t x xs->Fs P t y ys->(Op.equalIn d t x y).run P w=.ok r w
def XF{n:Nat}(ih:R3 P ab m S w n){t:yu}{ks:List Nat}{s o d:Nat}(hk:kinds P n t=D5 ks)(aQ:P.stoodInHeld t=ycH)(hz:bU P t=D5 s)(hs:ks.length=s)(hd:n<=d){xs ys:List yg}{cs cW:List AV}(h1:ax ab m S w cs xs)(h2:ax ab m S w cW ys){r:Bool}(he:cI ks ((cs.drop o).take s) ((cW.drop o).take s)=D5 r):
  ∃u u',(part t xs.toArray o).run P w=.ok u w/\(part t ys.toArray o).run P w=.ok u' w/\(Op.equalIn d t u u').run P w=.ok r w:=by
 have⟨ag,ha,h1s⟩:=XE hk;have⟨l1,l2⟩:=Ws _ _ _ _ he;have q1:=fP _ _ h1;have q2:=fP _ _ h2;simp only[yT,wH] at l1 l2;have lP:cU P t=D5 ycH->s=1:=fun h=>by
  grind
 have ox:o+s<=xs.length\/s=0:=by lia
 have oy:o+s<=ys.length\/s=0:=by lia
 have get:∀(zs:List yg),(o+s<=zs.length\/s=0)->∃u,(part t zs.toArray o).run P w=.ok u w/\Fs P t u ((zs.drop o).take s):=by
  intro zs hl;rcases hl with hl | hl
  .exact akd hz ⟨ag,ha⟩ lP hl
  .subst hl
   cases ag with
   | false=>have:=lP ha;lia
   | true=>
    refine⟨.agg ((zs.drop o).take 0).toArray,?_,.inl ⟨ha,rfl⟩⟩;simp[part,KV ha,nG hz]
 have⟨u,p1,v1⟩:=get xs ox;have⟨u',p2,v2⟩:=get ys oy;exact⟨u,u',p1,p2,ih t ks hk aQ d hd _ _ _ _ r u u' (Ec s (He o h1)) (Ec s (He o h2)) he v1 v2⟩
def Wt{n:Nat}(ih:R3 P ab m S w n){d:Nat}(hd:n<=d){xs ys:List yg}{cs cW:List AV}(h1:ax ab m S w cs xs)(h2:ax ab m S w cW ys):
  ∀(fs:List vI) (o:Nat) (ks:List Nat) (r:Bool),nH P (fun u=>kinds P n u) fs o=D5 ks->cI ks (cs.drop o) (cW.drop o)=D5 r->(Op.eqFields d xs.toArray ys.toArray fs).run P w=.ok r w
 | [],o,ks,r,h,he=>by
  simp only[nH,yb] at h;unfold cI at he
  split at he<;>simp_all[Op.eqFields]
 | f::fs,o,ks,r,h,he=>by
  simp only[nH] at h
  cases hk:kinds P n f.type with
  | none=>simp[hk] at h
  | some kf=>
   cases hz:bU P f.type with
   | none=>simp[hk,hz] at h
   | some s=>
    simp only[hk,hz] at h
    cases hc:(f.name != "_"&&yo f.offset o&&yo kf.length s&& !P.stoodInHeld f.type) with
    | false=>rw[hc] at h;cases h
    | true=>
     rw[hc] at h;simp only[yr] at h;simp only[ye,bne_iff_ne,vD] at hc;have⟨⟨⟨hn,ho⟩,hl⟩,aQ⟩:=hc;have ho:=yf ho;have hl:=yf hl
     cases hr:nH P (fun u=>kinds P n u) fs (o+s) with
     | none=>simp[hr] at h
     | some kr=>
      simp only[hr,yb] at h;subst h;obtain⟨r1,r2,e1,e2,rfl⟩:=G1 _ _ _ _ _ he;rw[hl] at e1 e2;rw[wZ,wZ] at e2;have⟨u,u',p1,p2,p3⟩:=XF ih (o:=o) hk aQ hz hl hd h1 h2 e1;have rest:=Wt ih hd h1 h2 fs (o+s) kr r2 hr e2;subst ho;simp only[Op.eqFields]
      cases r1 with
      | true=>simp[hn,p1,p2,p3,rest]
      | false=>simp[hn,p1,p2,p3]
def WX{n:Nat}(ih:R3 P ab m S w n){d:Nat}(hd:n<=d){xs ys:List yg}{cs cW:List AV}(h1:ax ab m S w cs xs)(h2:ax ab m S w cW ys){e:yu}{ks:List Nat}{s:Nat}(hk:kinds P n e=D5 ks)(aQ:P.stoodInHeld e=ycH)(hz:bU P e=D5 s)(hl:ks.length=s):
  ∀(k j:Nat) (r:Bool),cI (yy k ks).flatten (cs.drop (j*s)) (cW.drop (j*s))=D5 r->(Op.eqItems d e s xs.toArray ys.toArray (List.range' j k)).run P w=.ok r w
 | 0,j,r,he=>by
  unfold cI at he
  split at he<;>simp_all[Op.eqItems]
 | k+1,j,r,he=>by
  obtain⟨r1,r2,e1,e2,rfl⟩:=G1 _ _ _ _ _ he;rw[hl] at e1 e2;rw[wZ,wZ,show j*s+s=(j+1)*s by rw[xL,yag]] at e2;have⟨u,u',p1,p2,p3⟩:=XF ih (o:=j*s) hk aQ hz hl hd h1 h2 e1;have rest:=WX ih hd h1 h2 hk aQ hz hl k (j+1) r2 e2;rw[List.range'_succ];simp only[Op.eqItems]
  cases r1 with
  | true=>simp[p1,p2,p3,rest]
  | false=>simp[p1,p2,p3]
def Mh:∀(n:Nat) (t:yu) (ks:List Nat),kinds P n t=D5 ks->P.stoodInHeld t=ycH->∀(d:Nat),n<=d->∀(xs ys:List yg) (cs cW:List AV) (r:Bool) (x y:yg),
  ax ab m S w cs xs->ax ab m S w cW ys->cI ks cs cW=D5 r->Fs P t x xs->Fs P t y ys->(Op.equalIn d t x y).run P w=.ok r w
 | 0,t,ks,h,_,_,_,_,_,_,_,_,_,_,_,_,_,_,_=>by simp[kinds] at h
 | n+1,t,ks,h,aQ,0,hd,_,_,_,_,_,_,_,_,_,_,_,_=>by lia
 | n+1,t,ks,h,aQ,d+1,hd,xs,ys,cs,cW,r,x,y,h1,h2,he,hx,hy=>by
  unfold kinds at h;have one:∀{k:Nat},ks=[k]->cU P t=D5 ycH->∃c c',cs=[c]/\cW=[c']/\ae ab m S w c x/\ae ab m S w c' y:=by
   intro k hk ha;rcases hx with ⟨hx,_⟩ | ⟨_,rfl⟩
   .grind
   rcases hy with ⟨hy,_⟩ | ⟨_,rfl⟩
   .grind
   have l1:=fP _ _ h1;have l2:=fP _ _ h2
   match cs,cW,l1,l2 with
   | [c],[c'],_,_=>
    simp only[ax] at h1 h2
    grind
  split at h
  .rename_i hu;simp only[yb] at h;have ha:cU P t=D5 ycH:=by simp[cU,hu]
   obtain⟨c,c',rfl,rfl,r1,r2⟩:=one h.symm ha;subst h;unfold cI at he
   split at he<;>simp_all[cI]
   subst he;simp only[ae] at r1 r2;subst r1;subst r2;simp[Op.equalIn,run_underlying hu]
  .rename_i k0 hu;simp only[yb] at h;have ha:cU P t=D5 ycH:=by simp[cU,hu]
   obtain⟨c,c',rfl,rfl,r1,r2⟩:=one h.symm ha;subst h;unfold cI at he
   split at he<;>simp_all[cI]
   have⟨hk,he⟩:=he;subst he;simp only[ae] at r1 r2;subst r1;subst r2;simp[Op.equalIn,run_underlying hu]
  .rename_i hu;simp only[yb] at h;have ha:cU P t=D5 ycH:=by simp[cU,hu]
   obtain⟨c,c',rfl,rfl,r1,r2⟩:=one h.symm ha;subst h;unfold cI at he
   split at he<;>simp_all[cI]
   subst he;simp only[ae] at r1 r2;obtain⟨s,rfl,rfl⟩:=r1;obtain⟨s',rfl,rfl⟩:=r2;simp only[Op.equalIn,Sem.run_bind,run_underlying hu,Result.andThen_ok,Sem.run_pure,PW];rfl
  .rename_i fs hu;have ha:cU P t=D5 ycG:=by simp[cU,hu]
   rcases hx with ⟨_,rfl⟩ | ⟨hx,_⟩
   .rcases hy with ⟨_,rfl⟩ | ⟨hy,_⟩
    .have hf:P.fieldsOf t=fs:=by simp[Program.fieldsOf,hu]
     rw[run_equalIn_struct w d t _ _ (by rw[hf];exact hu) aQ,hf]
     exact Wt (Mh n) (by lia) h1 h2 fs.toList 0 ks r h (by simpa using he)
    .rw [ha] at hy;cases hy
   .rw [ha] at hx;cases hx
  .rename_i k e hu;have ha:cU P t=D5 ycG:=by simp[cU,hu]
   rcases hx with ⟨_,rfl⟩ | ⟨hx,_⟩
   .rcases hy with ⟨_,rfl⟩ | ⟨hy,_⟩
    .cases hk:kinds P n e with
     | none=>simp[hk] at h
     | some ke=>
      cases hz:bU P e with
      | none=>simp[hk,hz] at h
      | some s=>
       simp only[hk,hz] at h
       cases hc:(yo ke.length s&& !P.stoodInHeld e) with
       | false=>rw[hc] at h;cases h
       | true=>
        rw[hc] at h;simp only[yr,yb] at h;subst h;simp only[ye,vD] at hc;have eI:=hz;unfold bU at eI
        cases hi:P.info? e with
        | none=>simp[hi] at eI
        | some i=>
         simp only[hi,yb] at eI;have As:P.cellsOf e=s:=by simp[Program.cellsOf,hi,eI]
         rw[run_equalIn_array w d _ _ hu hi,As,List.range_eq_range'];exact WX (Mh n) (by lia) h1 h2 hk hc.2 hz (yf hc.1) k 0 r (by simpa using he)
    .rw [ha] at hy;cases hy
   .rw [ha] at hx;cases hx
  .cases h
end
end
section
open Go
section
variable {vk:AV}{ks:List Nat}{kk:Nat}{P:xi}{k:yg}
inductive q9(E:yg->Bool->Prop):List wL->Nat->Option (Nat×yg)->Prop
 | nil {i:Nat}:q9 E [] i D6
 | hit {e:wL} {es:List wL} {i:Nat}:E e.key ycG->q9 E (e::es) i (D5 (i,e.val))
 | Dh {e:wL} {es:List wL} {i:Nat} {f:Option (Nat×yg)}:E e.key ycH->q9 E es (i+1) f->q9 E (e::es) i f
def amt{d:tv}{es:List wL}{i:Nat}{f:Option (Nat×yg)}(h:q9 (fun u b=>Instr.sameNow d k u=D5 b) es i f):Instr.findNow d k es i=D5 f:=by
 induction h with
 | nil=>rfl
 | hit h=>simp[Instr.findNow,h]
 | Dh h _ ih=>simp[Instr.findNow,h,ih]
def ZE{w:yi}{kt:yu}{es:List wL}{i:Nat}{f:Option (Nat×yg)}(h:q9 (fun u b=>(Op.equal kt k u).run P w=.ok b w) es i f):
  (Instr.findAsking kt k es i).run P w=.ok f w:=by
 induction h with
 | nil=>simp[Instr.findAsking]
 | hit h=>simp[Instr.findAsking,h]
 | Dh h _ ih=>simp[Instr.findAsking,h,ih]
section
variable {O:bk}{ab:Nat->Nat}{m:Mp}{S:Nat->Prop}{w:yi}
def Found(ab:Nat->Nat)(m:Mp)(S:Nat->Prop)(w:yi)(f:Option (Nat×yg)):Option AV->Prop
 | none=>f=D6
 | some v=>∃j u,f=D5 (j,u)/\ae ab m S w v u
def Qn{vk:AV}{E:yg->Bool->Prop}(hE:∀c u b,ae ab m S w c u->nX vk c=D5 b->E u b):∀(ks vs:List AV) (es:List wL) (i:Nat) (r:Option AV),
  ax ab m S w ks (es.map (·.key))->ax ab m S w vs (es.map (·.val))->C1 vk ks vs=D5 r->∃f,q9 E es i f/\Found ab m S w f r
 | [],vs,es,i,r,h1,h2,h=>by
  simp only[ax,yaI] at h1;subst h1;simp only[C1,yb] at h;subst h;exact⟨D6,.nil,rfl⟩
 | c::ks,[],es,i,r,h1,h2,h=>by simp only[C1] at h;cases h
 | c::ks,v::vs,es,i,r,h1,h2,h=>by
  cases es with
  | nil=>simp[ax] at h1
  | cons e es=>
   simp only[yV,ax,uN] at h1 h2;obtain⟨u,t,⟨rfl,rfl⟩,hc,ns⟩:=h1;obtain⟨u',t',⟨rfl,rfl⟩,hv,At⟩:=h2;simp only[C1] at h
   cases sU:nX vk c with
   | none=>simp[sU] at h
   | some b=>
    have hs:=hE _ _ _ hc sU
    cases b with
    | true=>
     simp only[sU,yb] at h;subst h;exact⟨_,.hit hs,i,e.val,rfl,hv⟩
    | false=>
     simp only[sU] at h;obtain⟨f,h1,h2⟩:=Qn hE ks vs es (i+1) r ns At h;exact⟨f,.Dh hs h1,h2⟩
def Put(ab:Nat->Nat)(m:Mp)(S:Nat->Prop)(w:yi)(E:yg->Bool->Prop)(k x:yg)(es:List wL)(i:Nat)(ky dM:List AV):Prop:=
 (q9 E es i D6/\ax ab m S w ky (es.map (·.key)++[k])/\ax ab m S w dM (es.map (·.val)++[x]))\/
 ∃(j:Nat) (e0:wL) (c vk:AV),q9 E es i (D5 (i+j,e0.val))/\es[j]? =D5 e0/\(ae ab m S w vk k/\ae ab m S w c e0.key/\nX vk c=D5 ycG)/\ax ab m S w ky (es.map (·.key))/\ax ab m S w dM ((es.map (·.val)).set j x)
def ZF{vk vx:AV}{k x:yg}{E:yg->Bool->Prop}(hE:∀c u b,ae ab m S w c u->nX vk c=D5 b->E u b)(hk:ae ab m S w vk k)(hx:ae ab m S w vx x):∀(ks vs:List AV) (es:List wL) (i:Nat) (ky dM:List AV),
  ax ab m S w ks (es.map (·.key))->ax ab m S w vs (es.map (·.val))->Aa vk vx ks vs=D5 (ky,dM)->Put ab m S w E k x es i ky dM
 | [],[],es,i,ky,dM,h1,h2,h=>by
  simp only[ax,yaI] at h1;subst h1;simp only[Aa,yb,yj] at h;obtain⟨rfl,rfl⟩:=h;exact .inl ⟨.nil,by simp[ax,hk],by simp[ax,hx]⟩
 | [],_::_,es,i,ky,dM,h1,h2,h=>by simp[Aa] at h
 | _::_,[],es,i,ky,dM,h1,h2,h=>by simp[Aa] at h
 | c::ks,v::vs,es,i,ky,dM,h1,h2,h=>by
  cases es with
  | nil=>simp[ax] at h1
  | cons e es=>
   simp only[yV,ax,uN] at h1 h2;obtain⟨u,t,⟨rfl,rfl⟩,hc,ns⟩:=h1;obtain⟨u',t',⟨rfl,rfl⟩,hv,At⟩:=h2;simp only[Aa] at h
   cases sU:nX vk c with
   | none=>simp[sU] at h
   | some b=>
    have hs:=hE _ _ _ hc sU
    cases b with
    | true=>
     simp only[sU,yb,yj] at h;obtain⟨rfl,rfl⟩:=h;refine .inr ⟨0,e,c,vk,.hit hs,rfl,⟨hk,hc,sU⟩,?_,?_⟩
     .simp only [yV,ax];exact⟨_,_,rfl,hc,ns⟩
     .simp only [yV,List.set_cons_zero,ax];exact⟨_,_,rfl,hx,At⟩
    | false=>
     simp only[sU] at h
     cases hm:Aa vk vx ks vs with
     | none=>simp[hm] at h
     | some q=>
      obtain⟨k1,v1⟩:=q;simp only[hm,yb,yj] at h;obtain⟨rfl,rfl⟩:=h;rcases ZF hE hk hx ks vs es (i+1) k1 v1 ns At hm with ⟨g1,g2,g3⟩ | ⟨j,e0,c0,vk0,g1,g2,g3,g4,g5⟩
      .refine .inl ⟨.Dh hs g1,?_,?_⟩
       .simp only [yV,ym,ax];exact⟨_,_,rfl,hc,g2⟩
       .simp only [yV,ym,ax];exact⟨_,_,rfl,hv,g3⟩
      .refine .inr ⟨j+1,e0,c0,vk0,?_,by simpa using g2,g3,?_,?_⟩
       .rw [show i+(j+1)=i+1+j by omega];exact .Dh hs g1
       .simp only [yV,ax];exact⟨_,_,rfl,hc,g4⟩
       .simp only [yV,List.set_cons_succ,ax];exact⟨_,_,rfl,hv,g5⟩
def XG:∀(n:Nat) (a b:List AV) (x y:List yg),cI (yy n 1) a b=D5 ycG->ax ab m S w a x->ax ab m S w b y->x=y/\(x.zip x).all (fun (p,q)=>Instr.sameBits 9999 p q)=ycG
 | 0,a,b,x,y,h,hx,hy=>by
  match a,b with
  | [],[]=>simp only[ax] at hx hy;subst hx;subst hy;exact⟨rfl,rfl⟩
  | [],_::_=>simp[cI] at h
  | _::_,[]=>simp[cI] at h
  | _::_,_::_=>simp[cI] at h
 | n+1,a,b,x,y,h,hx,hy=>by
  rw[wR] at h;unfold cI at h
  split at h
  any_goals (cases h;done)
  .simp_all
  .simp_all
  .rename_i ks k p xs k' q ys ns;simp only[uN,true_and] at ns;subst ns;by_cases hk:k=k'
   .subst hk;simp only[xN] at h
    cases hr:cI (yy n 1) xs ys with
    | none=>simp[hr] at h
    | some r=>
     simp only[hr,yb,ye,tD] at h;obtain⟨rfl,rfl⟩:=h;simp only[ax] at hx hy;obtain⟨u,us,rfl,e1,e2⟩:=hx;obtain⟨u',JO,rfl,e1',e2'⟩:=hy;simp only[ae] at e1 e1';subst e1;subst e1';obtain⟨rfl,g⟩:=XG n xs ys us JO hr e2 e2';refine⟨rfl,?_⟩;simp only[List.zip_cons_cons,tO,g,Bool.and_true];simp[Instr.sameBits]
   .simp [hk] at h
  .simp_all
def ake{c:AV}{u:yg}(hk:ae ab m S w vk k)(hc:ae ab m S w c u)(h:nX vk c=D5 ycG):k=u/\Instr.sameBits 10000 k k=ycG:=by
 unfold nX at h
 split at h
 .rename_i j x j' y;simp only[ae] at hk hc;subst hk;subst hc;by_cases hj:j=j'
  .simp only [hj,xN,yb,tD] at h;exact⟨by rw[hj,h],by simp[Instr.sameBits]⟩
  .simp [hj] at h
 .simp only [ae] at hk hc;obtain⟨s,rfl,rfl⟩:=hk;obtain⟨s',rfl,rfl⟩:=hc;simp only[yb] at h;have h2:(s==s')=ycG:=by rw[PW];exact h
  have h3:(s.data==s'.data)=ycG:=by cases s;cases s';exact h2
  rw[tD] at h3;have e:s=s':=by cases s;cases s';simp only at h3;rw[h3]
  subst e;exact⟨rfl,by simp[Instr.sameBits,h2]⟩
 .simp only [ae] at hk hc;subst hk;subst hc;simp only[yb,tD] at h;exact⟨by rw[h],by simp[Instr.sameBits]⟩
 .rename_i a b;simp only[ae] at hk hc;obtain⟨xs,rfl,hx⟩:=hk;obtain⟨ys,rfl,hy⟩:=hc;obtain⟨e,g⟩:=XG _ _ _ _ _ h hx hy;have e':xs=ys:=by cases xs;cases ys;simp only at e;rw[e]
  subst e';refine⟨rfl,?_⟩;simp only[Instr.sameBits,tz,Bool.true_and];exact g
 .cases h
def WY{kt:yu}(hk:keyOf P kt=D5 kk)(h:nM kk vk=ycG):
  (∃d,P.underlying kt=D5 d/\SI d=ycG/\fits d vk=ycG)\/
  ∃fs ks cs,P.underlying kt=D5 (.struct fs)/\fs.toList.all (fun f=>Ab P f.type)=ycG/\P.stoodInHeld kt=ycH/\kinds P 20 kt=D5 ks/\ks.length=fs.size/\vk=.agg cs/\cs.length=fs.size:=by
 unfold keyOf at hk
 split at hk
 .rename_i hu;simp only[yb] at hk;subst hk;refine .inl ⟨_,hu,rfl,?_⟩;cases vk<;>simp_all[nM,fits]
 .rename_i hu;simp only[yb] at hk;subst hk;refine .inl ⟨_,hu,rfl,?_⟩;cases vk<;>simp_all[nM,fits]
 .rename_i hu;simp only[yb] at hk;subst hk;refine .inl ⟨_,hu,rfl,?_⟩;cases vk<;>simp_all[nM,fits]
 .rename_i fs hu
  cases hc:(fs.toList.all (fun f=>Ab P f.type)&& !P.stoodInHeld kt) with
  | false=>rw[hc] at hk;cases hk
  | true=>
   rw[hc] at hk;simp only[yr] at hk;simp only[ye,vD] at hc
   cases hs:kinds P 20 kt with
   | none=>simp[hs] at hk
   | some ks=>
    simp only[hs] at hk
    cases hl:yo ks.length fs.size with
    | false=>rw[hl] at hk;cases hk
    | true=>
     rw[hl] at hk;simp only[yr,yb] at hk;subst hk;cases vk<;>simp only[nM,yA] at h
     exact .inr ⟨fs,ks,_,hu,hc.1,hc.2,rfl,yf hl,rfl,yf h⟩
 .cases hk
def Wk{P:xi}{n:Nat}:∀(fs:List vI) (o:Nat) (ks:List Nat),fs.all (fun f=>Ab P f.type)=ycG->nH P (fun u=>kinds P n u) fs o=D5 ks->ks=yy fs.length 1
 | [],o,ks,_,h=>by simp only[nH,yb] at h;subst h;rfl
 | f::fs,o,ks,ha,h=>by
  simp only[tO,ye] at ha;simp only[nH] at h
  cases hk:kinds P n f.type with
  | none=>simp[hk] at h
  | some kf=>
   cases hz:bU P f.type with
   | none=>simp[hk,hz] at h
   | some s=>
    simp only[hk,hz] at h
    cases hc:(f.name != "_"&&yo f.offset o&&yo kf.length s&& !P.stoodInHeld f.type) with
    | false=>rw[hc] at h;cases h
    | true=>
     rw[hc] at h;simp only[yr] at h
     cases hr:nH P (fun u=>kinds P n u) fs (o+s) with
     | none=>simp[hr] at h
     | some kr=>
      simp only[hr,yb] at h;subst h;have hkf:kf=[1]:=by
       have hi:=ha.1;unfold Ab at hi
       cases n with
       | zero=>simp[kinds] at hk
       | succ n=>
        unfold kinds at hk
        split at hi
        .rename_i hu;simp only[hu,yb] at hk;exact hk.symm
        .cases hi
      rw[hkf,Wk fs (o+s) kr ha.2 hr];rfl
def ahC{kt:yu}{fs:Array vI}(hu:P.underlying kt=D5 (.struct fs))(ha:fs.toList.all (fun f=>Ab P f.type)=ycG)(hk:kinds P 20 kt=D5 ks):
  ks=yy fs.size 1:=by
 unfold kinds at hk;simp only[hu] at hk
 have:=Wk (n:=19) fs.toList 0 ks ha hk
 simpa using this
def ag6{b:Bool}{n:Nat}{t:yu}{k:yZ}{u:yg}(hu:P.underlying t=D5 (.int k)):(Instr.checkKey b (n+1) t u).run P w=.ok () w:=by
 simp[Instr.checkKey,run_underlying hu]
def Wl{P:xi}{b:Bool}{q q':Nat}(hq:q=q'+1){cs:Array yg}:∀(fs:List vI) (o n:Nat) (ks:List Nat),fs.all (fun f=>Ab P f.type)=ycG->nH P (fun u=>kinds P n u) fs o=D5 ks->o+ks.length<=cs.size->
  Sem.run P (forIn fs yaa fun f _=>
      if f.name≠ "_" then do
       let x <-part f.type cs f.offset
       Instr.checkKey b q f.type x
       pure (yaF yaa)
      else pure (yaF yaa)) w=.ok yaa w
 | [],o,n,ks,_,h,_=>by simp
 | f::fs,o,n,ks,ha,h,hl=>by
  simp only[tO,ye] at ha;simp only[nH] at h
  cases hk:kinds P n f.type with
  | none=>simp[hk] at h
  | some kf=>
   cases hz:bU P f.type with
   | none=>simp[hk,hz] at h
   | some s=>
    simp only[hk,hz] at h
    cases hc:(f.name != "_"&&yo f.offset o&&yo kf.length s&& !P.stoodInHeld f.type) with
    | false=>rw[hc] at h;cases h
    | true=>
     rw[hc] at h;simp only[yr] at h;simp only[ye,bne_iff_ne,vD] at hc;obtain⟨⟨⟨hn,ho⟩,hls⟩,aQ⟩:=hc;have ho:=yf ho;have hls:=yf hls
     cases hr:nH P (fun u=>kinds P n u) fs (o+s) with
     | none=>simp[hr] at h
     | some kr=>
      simp only[hr,yb] at h;subst h;rw[yC] at hl;have hi:=ha.1;unfold Ab at hi
      split at hi
      .rename_i kd hu;obtain⟨ag,sW,h1⟩:=XE hk;have acD:cU P f.type=D5 ycH:=by simp[cU,hu]
       have h2:=sW;rw[acD] at h2;injection h2 with h2
       have aB:f.offset<cs.size:=by have:=h1 h2.symm;omega
       have hp:(part f.type cs f.offset).run P w=.ok cs[f.offset] w:=by
        simp[part,KV acD,Array.getElem?_eq_getElem aB]
       have ei:(Instr.checkKey b q f.type cs[f.offset]).run P w=.ok () w:=by
        rw[hq];exact ag6 hu
       have rest:=Wl (b:=b) hq (cs:=cs) fs (o+s) n kr ha.2 hr (by omega);rw[List.forIn_cons];simp only[hn,ne_eq,ycB,xN,Sem.run_bind,hp,ei,Result.andThen_ok,Sem.run_pure];simpa only[ne_eq] using rest
      .cases hi
def agF{b:Bool}{q q':Nat}(hq:q=q'+1){kt:yu}{fs:Array vI}{cs:Array yg}(hu:P.underlying kt=D5 (.struct fs))(ha:fs.toList.all (fun f=>Ab P f.type)=ycG)(hk:kinds P 20 kt=D5 ks)(hl:ks.length<=cs.size):(Instr.checkKey b (q+1) kt (.agg cs)).run P w=.ok () w:=by
 unfold kinds at hk;simp only[hu] at hk;have h:=Wl (w:=w) (b:=b) hq (cs:=cs) fs.toList 0 19 ks ha hk (by omega);simp only[Instr.checkKey,Sem.run_bind,run_underlying hu,Result.andThen_ok,<-Array.forIn_toList];rw[h]
 simp
def Wu{kt:yu}(hk:keyOf P kt=D5 kk)(h:nM kk vk=ycG)(hr:ae ab m S w vk k)(b:Bool):(Instr.checkKey b 10000 kt k).run P w=.ok () w:=by
 rcases WY hk h with ⟨d,h1,h2,h3⟩ | ⟨fs,ks,cs,hu,ha,aQ,ns,hl,rfl,fG⟩
 .exact agy h1 h2 b k
 .simp only [ae] at hr;obtain⟨xs,rfl,hx⟩:=hr;have Uq:=fP _ _ hx;rw[wY] at Uq
  exact agF (q:=9999) (q':=9998) rfl hu ha ns (by omega)
def WZ{kt:yu}(hk:keyOf P kt=D5 kk)(h:nM kk vk=ycG)(hr:ae ab m S w vk k):
  ∃E:yg->Bool->Prop,(∀c u b,ae ab m S w c u->nX vk c=D5 b->E u b)/\∀es f,q9 E es 0 f->(Instr.findKey kt k es).run P w=.ok f w:=by
 rcases WY hk h with ⟨d,h1,h2,h3⟩ | ⟨fs,ks,cs,hu,ha,aQ,ns,hl,rfl,fG⟩
 .refine ⟨fun u b=>Instr.sameNow d k u=D5 b,fun c u b hc he=>akc hr hc he h3,fun es f hf=>?_⟩;simp[Instr.findKey,run_underlying h1,amt hf]
 .refine ⟨fun u b=>(Op.equal kt k u).run P w=.ok b w,fun c u b hc he=>?_,fun es f hf=>?_⟩
  .cases c<;>simp only[nX,reduceCtorEq] at he
   rename_i cW;simp only[ae] at hr hc;obtain⟨xs,rfl,hx⟩:=hr;obtain⟨ys,rfl,hy⟩:=hc;rw[fG,<-ahC hu ha ns] at he;have sW:cU P kt=D5 ycG:=by simp[cU,hu]
   rw[Qk];exact Mh 20 kt ks ns aQ 10000 (by omega) _ _ _ _ b _ _ hx hy he (.inl ⟨sW,by simp⟩) (.inl ⟨sW,by simp⟩)
  .simp only [ae] at hr;obtain⟨xs,rfl,hx⟩:=hr
   cases hf with
   | nil=>simp[Instr.findKey,run_underlying hu,Instr.findNow]
   | hit g=>simp[Instr.findKey,run_underlying hu,Instr.findNow,Instr.sameNow,ZE (.hit g)]
   | Dh g g'=>simp[Instr.findKey,run_underlying hu,Instr.findNow,Instr.sameNow,ZE (.Dh g g')]
def aoZ{t kt e:yu}{ok:Bool}{hp:Hp}{ct:Nat}{vx v:AV}{x zero:yg}(hh:aP O m S w hp ct)(hu:O.P.underlying t=D5 (.map kt e))(hk:keyOf O.P kt=D5 kk)(hdk:nM kk vk=ycG)(hz:(zeroValue e).run O.P w=.ok zero w)(hx:ae O.ab m S w vx x)(Ft:ae O.ab m S w vk k){z:AV}(Ur:ae O.ab m S w z zero){r:Option AV}(hr:Bq hp vk vx=D5 r)(hv:(match r with | some u=>(bif ok then AV.ay [u,.bool ycG] else u) | none=>(bif ok then AV.ay [z,.bool ycH] else z))=v):
  ∃u,(Instr.lookup t x k ok).run O.P w=.ok u w/\ae O.ab m S w v u:=by
 have fin:∀(u:AV) (uu:yg) (b:Bool),ae O.ab m S w u uu->ae O.ab m S w (bif ok then AV.ay [u,.bool b] else u) (if ok then .tuple #[uu,.bool b] else uu):=by
  intro u uu b h
  cases ok with
  | true=>simp only[yr,xN,ae,ax];exact⟨_,rfl,_,_,rfl,h,_,_,rfl,rfl,rfl⟩
  | false=>simpa using h
 have ei:=fun b:Bool=>Wu (P:=O.P) (w:=w) hk hdk Ft b
 obtain⟨E,hE,hF⟩:=WZ (P:=O.P) hk hdk Ft;have body:∀(x':yg) (es:Array wL),((x'=.map D6/\es=#[])\/∃b clock,x'=.map (D5 b)/\w.heap[b]? =D5 (.map es clock))->(∃f,q9 E es.toList 0 f/\Found O.ab m S w f r)->
   ∃u,(Instr.lookup t x' k ok).run O.P w=.ok u w/\ae O.ab m S w v u:=by
  rintro x' es hl ⟨f,hf,gQ⟩;have du:=hF _ _ hf
  cases r with
  | none=>
   have BX:f=D6:=gQ;subst BX;refine⟨if ok then .tuple #[zero,.bool ycH] else zero,?_,by rw[<-hv];exact fin z zero ycH Ur⟩
   rcases hl with ⟨rfl,rfl⟩ | ⟨b,clock,rfl,hb⟩
   .have C7:(Instr.findKey kt k []).run O.P w=.ok D6 w:=du;simp[Instr.lookup,run_underlying hu,ei,C7,hz]
   .simp [Instr.lookup,run_underlying hu,getObj,Sem.run,hb];rw[ei];simp[du,hz]
  | some v'=>
   obtain⟨j,u,rfl,h2⟩:=gQ;refine⟨if ok then .tuple #[u,.bool ycG] else u,?_,by rw[<-hv];exact fin v' u ycG h2⟩
   rcases hl with ⟨rfl,rfl⟩ | ⟨b,clock,rfl,hb⟩
   .cases hf
   .simp [Instr.lookup,run_underlying hu,getObj,Sem.run,hb];rw[ei];simp[du]
 cases vx<;>simp only[Bq,reduceCtorEq] at hr
 case iw=>
  simp only[yb] at hr;subst hr;simp only[ae] at hx;subst hx;exact body _ #[] (.inl ⟨rfl,rfl⟩) ⟨D6,.nil,rfl⟩
 case map id=>
  simp only[ae] at hx;obtain⟨p,hm,rfl⟩:=hx
  split at hr
  case h_2=>cases hr
  rename_i Up ks vs C6;obtain⟨p',es,clock,gP,hb,h1,h2,_⟩:=hh.obj id _ _ C6 hm;rw[hm] at gP;injection gP with gP;subst gP
  exact body _ es (.inr ⟨_,_,rfl,hb⟩) (Qn hE ks vs es.toList 0 r h1 h2 hr)
 case iz ks vs=>
  simp only[ae] at hx;obtain⟨b,es,clock,rfl,_,_,_,hb,h1,h2⟩:=hx;exact body _ es (.inr ⟨_,_,rfl,hb⟩) (Qn hE ks vs es.toList 0 r h1 h2 hr)
end
end
end
section
open Go
def cR{tm:Env}{hp:Hp}{v:AV}(h:a7 tm hp bad=D5 v):False:=by simp[bad,a7] at h
section
variable {O:bk}{H:Hint}{m:Mp}{S:Nat->Prop}{w:yi}{tm:Env}{a:Act}{hp:Hp}{ct:Nat}
def amu{ab:Nat->Nat}{va vb v:AV}{x y:yg}(hx:ae ab m S w va x)(hy:ae ab m S w vb y)(h:VE.min2 va vb=D5 v):∃u,(Builtin.min2 x y).run O.P w=.ok u w/\ae ab m S w v u:=by
 unfold VE.min2 at h
 split at h
 .simp only [ae] at hx hy;subst hx;subst hy;simp only[yb] at h;subst h;exact⟨_,by simp only[Builtin.min2,Sem.run_pure];rfl,by simp only[ae]⟩
 .rename_i k p k' q;subst hx;subst hy
  cases ho:k.format.order p q with
  | none=>simp[ho] at h
  | some c=>cases c<;>(simp only[ho,yb] at h;subst h;exact⟨_,by simp only[Builtin.min2,ho,Sem.run_pure];rfl,by simp only[ae]⟩)
 .cases h
def amv{ab:Nat->Nat}{va vb v:AV}{x y:yg}(hx:ae ab m S w va x)(hy:ae ab m S w vb y)(h:VE.max2 va vb=D5 v):∃u,(Builtin.max2 x y).run O.P w=.ok u w/\ae ab m S w v u:=by
 unfold VE.max2 at h
 split at h
 .simp only [ae] at hx hy;subst hx;subst hy;simp only[yb] at h;subst h;exact⟨_,by simp only[Builtin.max2,Sem.run_pure];rfl,by simp only[ae]⟩
 .rename_i k p k' q;subst hx;subst hy
  cases ho:k.format.order p q with
  | none=>simp[ho] at h
  | some c=>cases c<;>(simp only[ho,yb] at h;subst h;exact⟨_,by simp only[Builtin.max2,ho,Sem.run_pure];rfl,by simp only[ae]⟩)
 .cases h
def QT{ab:Nat->Nat}{f:AV->AV->Option AV}{g:yg->yg->Sem yg}(hfg:∀va vb v x y,ae ab m S w va x->ae ab m S w vb y->f va vb=D5 v->∃u,(g x y).run O.P w=.ok u w/\ae ab m S w v u):
  ∀(l:List AV) (us:List yg) (va v:AV) (x:yg),ae ab m S w va x->ax ab m S w l us->Bn f va l=D5 v->∃u,(us.foldlM g x).run O.P w=.ok u w/\ae ab m S w v u
 | [],us,va,v,x,hx,hl,h=>by
  simp only[ax] at hl;simp only[Bn,yb] at h
  simp_all
 | b::l,us,va,v,x,hx,hl,h=>by
  obtain⟨u,r,rfl,hu,hr⟩:=hl;simp only[Bn] at h
  cases hf:f va b with
  | none=>simp[hf] at h
  | some c=>
   simp only[hf] at h;obtain⟨u1,h1,h2⟩:=hfg _ _ _ _ _ hx hu hf;obtain⟨u2,h3,h4⟩:=QT hfg l r c v u1 h2 hr h
   simp_all
def Ry{t:yu}{vx v:AV}{x:yg}{ty:yu}(hh:aP O m S w hp ct)(hx:ae O.ab m S w vx x){k:Nat}(hu:(k=0/\O.P.underlying t=D5 .string)\/(k=1/\∃e,O.P.underlying t=D5 (.slice e))\/(k=2/\∃kt e,O.P.underlying t=D5 (.map kt e)))(h:iT hp k vx=D5 v):∃u,(Builtin.len_ #[t] ty #[x]).run O.P w=.ok u w/\ae O.ab m S w v u:=by
 rcases hu with ⟨rfl,hu⟩ | ⟨rfl,e,hu⟩ | ⟨rfl,kt,e,hu⟩
 all_goals cases vx<;>simp only[iT,reduceCtorEq] at h
 case inl.str s=>
  simp only[ae] at hx;obtain⟨b,rfl,rfl⟩:=hx;simp only[yb] at h;subst h;refine⟨_,by simp[Builtin.len_,run_underlying hu];rfl,?_⟩
  simp only[ae,goInt]
  simp_all
 case inr.inl.ah=>
  simp only[ae] at hx;subst hx;simp only[yb] at h;subst h;exact⟨_,by simp[Builtin.len_,run_underlying hu];rfl,by simp[ae,goInt]⟩
 case inr.inl.aq ex n cs=>
  simp only[ae] at hx;rcases hx with ⟨b,o,c,rfl,_⟩ | ⟨a,rfl,rfl,rfl⟩
  all_goals
   simp only[yb] at h;subst h;exact⟨_,by simp[Builtin.len_,run_underlying hu];rfl,by simp[ae,goInt]⟩
 case inr.inl.av id o n=>
  simp only[ae] at hx;obtain⟨p,c,_,rfl,_⟩:=hx;simp only[yb] at h;subst h;exact⟨_,by simp[Builtin.len_,run_underlying hu];rfl,by simp[ae,goInt]⟩
 case inr.inr.iw=>
  simp only[ae] at hx;subst hx;simp only[yb] at h;subst h;exact⟨_,by simp[Builtin.len_,run_underlying hu];rfl,by simp[ae,goInt]⟩
 case inr.inr.iz ks vs=>
  simp only[ae] at hx;obtain⟨b,es,clock,rfl,_,_,_,hb,h1,_⟩:=hx;simp only[yb] at h;subst h;refine⟨_,by simp[Builtin.len_,run_underlying hu,getObj,Sem.run,hb];rfl,?_⟩
  have:=fP _ _ h1
  simp only[ae,goInt];rw[<-this];simp
 case inr.inr.map id=>
  simp only[ae] at hx;obtain⟨p,hm,rfl⟩:=hx
  split at h
  case h_2=>cases h
  rename_i Up ks vs C6;simp only[yb] at h;subst h;obtain⟨p',es,clock,gP,hb,h1,_⟩:=hh.obj id _ _ C6 hm;rw[hm] at gP;injection gP with gP;subst gP
  refine⟨_,by simp[Builtin.len_,run_underlying hu,getObj,Sem.run,hb];rfl,?_⟩
  have:=fP _ _ h1
  simp only[ae,goInt];rw[<-this];simp
end
end
section
open Go
section
variable {O:bk}{H:Hint}{m:Mp}{S:Nat->Prop}{w:yi}{tm:Env}{a:Act}{hp:Hp}{ct:Nat}
def Em{t:yu}{z:AV}(h:ll O.P t=D5 z):∃v,(zeroValue t).run O.P w=.ok v w/\z=et v:=by
 unfold ll at h
 cases hi:O.P.info? t with
 | none=>simp[hi] at h
 | some i=>
  simp only[hi] at h
  cases hz:i.zero with
  | none=>simp[hz] at h
  | some v=>
   simp only[hz,yb] at h;exact⟨v,by simp[zeroValue,typeInfo,hi,hz],h.symm⟩
def Reads(O:bk)(m:Mp)(S:Nat->Prop)(w:yi)(a:Act)(o:yP)(v:AV):Prop:=
 ∃u,(execOp a.eval o).run O.P w=.ok (.value u) w/\ae O.ab m S w v u
def jC{o:yP}{v:AV}{s:Sem yg}(he:execOp a.eval o=(do pure (.value (<-s)):Sem yat))(h:∃u,s.run O.P w=.ok u w/\ae O.ab m S w v u):Reads O m S w a o v:=by
 have⟨u,h1,h2⟩:=h;exact⟨u,by rw[he];simp[h1],h2⟩
def akf{o:yP}{op:wJ}{t ty:yu}{x y:xm}{k:Nat}{v:AV}(hH:eF O H)(ht:bN O m S w tm a.tmps)(ho:o.op=.binOp op t x y ty)(hv:a7 tm hp (aM O.P H k o)=D5 v):Reads O m S w a o v:=by
 have rx:=bO hH ht x;have ry:=bO hH ht y;have guard:∀{u:yg},(∀xs ys,¬(a.eval x=.agg xs/\a.eval y=.agg ys))\/O.P.eqGuardType O.P.depth t=ycH->a.eval x≠.nilIface->(xR op t (a.eval x) (a.eval y)).run O.P w=.ok u w->
   (do eqGuard op t x y (a.eval x) (a.eval y);xR op t (a.eval x) (a.eval y):Sem yg).run O.P w=.ok u w:=by
  intro u h1 h2 h3
  simp only[Sem.run_bind,ahB (P:=O.P) (w:=w) (t:=t) (op:=op) (x:=x) (y:=y) (h1.symm) h2,Result.andThen_ok,h3]
 have plain:a7 tm hp (.bin op (aI H x) (aI H y))=D5 v->Reads O m S w a o v:=by
  intro hv;simp only[a7] at hv;obtain⟨u,h1,h2⟩:=aj8 (P:=O.P) (t:=t) rx ry hv
  refine jC (s:=do eqGuard op t x y (a.eval x) (a.eval y);xR op t (a.eval x) (a.eval y)) (by simp only[execOp,ho]) ⟨u,guard (.inl ?_) ?_ h1,h2⟩
  .rintro xs ys ⟨e1,e2⟩;rw[e1] at rx;unfold VE.binOp at hv
   split at hv
   .rename_i h3 _;rw[h3] at rx;simp[ae] at rx
   .rename_i h3 _;rw[h3] at rx;simp[ae] at rx
   .rename_i h3 _;rw[h3] at rx;simp[ae] at rx
   .rename_i h3 _;rw[h3] at rx;simp[ae] at rx
   .cases hv
  .intro e1;rw[e1] at rx;unfold VE.binOp at hv
   split at hv
   .rename_i h3 _;rw[h3] at rx;simp[ae] at rx
   .rename_i h3 _;rw[h3] at rx;simp[ae] at rx
   .rename_i h3 _;rw[h3] at rx;simp[ae] at rx
   .rename_i h3 _;rw[h3] at rx;simp[ae] at rx
   .cases hv
 have other:∀(ne:Bool) (kd:VE.Oo),(op=.eql/\ne=ycH\/op=.neq/\ne=ycG)->(∀r,jr kd (aw tm (aI H x)) (aw tm (aI H y))=D5 r->(Op.equal t (a.eval x) (a.eval y)).run O.P w=.ok r w/\
    ((∀xs ys,¬(a.eval x=.agg xs/\a.eval y=.agg ys))\/O.P.eqGuardType O.P.depth t=ycH)/\a.eval x≠.nilIface/\
    ∀q:Bool,(op=.eql->xR op t (a.eval x) (a.eval y)=(do pure (.bool (<-Op.equal t (a.eval x) (a.eval y)))))/\(op=.neq->xR op t (a.eval x) (a.eval y)=(do pure (.bool (!(<-Op.equal t (a.eval x) (a.eval y)))))))->
   a7 tm hp (.eq ne kd (aI H x) (aI H y))=D5 v->Reads O m S w a o v:=by
  intro ne kd gg kN hv;simp only[a7] at hv
  cases he:jr kd (aw tm (aI H x)) (aw tm (aI H y)) with
  | none=>simp[he] at hv
  | some r=>
   simp only[he,yb] at hv;subst hv;obtain⟨h1,h2,h3,h4⟩:=kN r he;obtain⟨h5,h6⟩:=h4 ycG
   refine jC (s:=do eqGuard op t x y (a.eval x) (a.eval y);xR op t (a.eval x) (a.eval y)) (by simp only[execOp,ho]) ⟨.bool (ne !=r),guard h2 h3 ?_,by simp[ae]⟩
   rcases gg with ⟨rfl,rfl⟩ | ⟨rfl,rfl⟩
   .rw [h5 rfl];simp[h1]
   .rw [h6 rfl];simp[h1]
 have pB:O.P.underlying t=D5 .bool->∀r,jr .b (aw tm (aI H x)) (aw tm (aI H y))=D5 r->∃p q,a.eval x=.bool p/\a.eval y=.bool q/\(Op.equal t (a.eval x) (a.eval y)).run O.P w=.ok r w:=by
  intro hu r he;cases hx:aw tm (aI H x)<;>cases hy:aw tm (aI H y)<;>rw[hx,hy] at he<;>simp only[jr,reduceCtorEq] at he
  rw[hx] at rx;rw[hy] at ry;simp only[ae] at rx ry;simp only[yb] at he;refine⟨_,_,rx,ry,?_⟩;rw[rx,ry,Qk,<-he];exact aoS hu
 have pS:∀e,O.P.underlying t=D5 (.slice e)->∀r,jr .sl (aw tm (aI H x)) (aw tm (aI H y))=D5 r->∃p n c q n' c',a.eval x=.slice p n c/\a.eval y=.slice q n' c'/\(Op.equal t (a.eval x) (a.eval y)).run O.P w=.ok r w:=by
  intro e hu r he;have h1:=amq hu rx ry he;have sl:∀{v:AV} {u:yg},ae O.ab m S w v u->(v=.ah\/(∃a b c,v=.aq a b c)\/∃a b c,v=.av a b c)->∃p n c,u=.slice p n c:=by
   intro v u hr hv;rcases hv with rfl | ⟨_,_,_,rfl⟩ | ⟨_,_,_,rfl⟩
   .simp only [ae] at hr;exact⟨_,_,_,hr⟩
   .simp only [ae] at hr;rcases hr with ⟨b,o,c,hr,_⟩ | ⟨_,hr,_⟩<;>exact⟨_,_,_,hr⟩
   .simp only [ae] at hr;obtain⟨b,c,_,hr,_⟩:=hr;exact⟨_,_,_,hr⟩
  have cE:(aw tm (aI H x)=.ah\/(∃a b c,aw tm (aI H x)=.aq a b c)\/∃a b c,aw tm (aI H x)=.av a b c)/\
    (aw tm (aI H y)=.ah\/(∃a b c,aw tm (aI H y)=.aq a b c)\/∃a b c,aw tm (aI H y)=.av a b c):=by
   cases hx:aw tm (aI H x)<;>cases hy:aw tm (aI H y)<;>rw[hx,hy] at he<;>simp[jr] at he ⊢
  obtain⟨p,n,c,e1⟩:=sl rx cE.1;obtain⟨q,n',c',e2⟩:=sl ry cE.2;exact⟨p,n,c,q,n',c',e1,e2,h1⟩
 have pF:∀ps rs vr,O.P.underlying t=D5 (.func ps rs vr)->∀r,jr .fn (aw tm (aI H x)) (aw tm (aI H y))=D5 r->
   ((a.eval x=.nilFunc\/∃f p q,a.eval x=.func f p q)/\(a.eval y=.nilFunc\/∃f p q,a.eval y=.func f p q))/\(Op.equal t (a.eval x) (a.eval y)).run O.P w=.ok r w:=by
  intro ps rs vr hu r he;have h1:=amr hu rx ry he;have sl:∀{v:AV} {u:yg},ae O.ab m S w v u->(v=.fR\/(∃a b c,v=.fn a b c))->(u=.nilFunc\/∃f p q,u=.func f p q):=by
   intro v u hr hv;rcases hv with rfl | ⟨f,_,_,rfl⟩
   .simp only [ae] at hr;exact .inl hr
   .cases f with
    | f g=>simp only[ae] at hr;obtain⟨b,c,hr,_⟩:=hr;exact .inr ⟨_,_,_,hr⟩
    | y l=>simp only[ae] at hr;obtain⟨b,_,hr⟩:=hr;exact .inr ⟨_,_,_,hr⟩
  have cE:(aw tm (aI H x)=.fR\/(∃a b c,aw tm (aI H x)=.fn a b c))/\(aw tm (aI H y)=.fR\/(∃a b c,aw tm (aI H y)=.fn a b c)):=by
   cases hx:aw tm (aI H x)<;>cases hy:aw tm (aI H y)<;>rw[hx,hy] at he<;>simp[jr] at he ⊢
  exact⟨⟨sl rx cE.1,sl ry cE.2⟩,h1⟩
 have pA:∀ks,kinds O.P 20 t=D5 ks->cU O.P t=D5 ycG->O.P.stoodInHeld t=ycH->∀r,jr (.ag ks) (aw tm (aI H x)) (aw tm (aI H y))=D5 r->∃p q,a.eval x=.agg p/\a.eval y=.agg q/\(Op.equal t (a.eval x) (a.eval y)).run O.P w=.ok r w:=by
  intro ks hk ha aQ r he;cases hx:aw tm (aI H x)<;>cases hy:aw tm (aI H y)<;>rw[hx,hy] at he<;>simp only[jr,reduceCtorEq] at he
  rw[hx] at rx;rw[hy] at ry;simp only[ae] at rx ry;obtain⟨p,e1,h1⟩:=rx;obtain⟨q,e2,h2⟩:=ry;refine⟨p,q,e1,e2,?_⟩;rw[e1,e2,Qk];exact Mh 20 t ks hk aQ 10000 (by omega) _ _ _ _ r _ _ h1 h2 he (.inl ⟨ha,by simp⟩) (.inl ⟨ha,by simp⟩)
 have eqs:∀(ne:Bool),(op=.eql/\ne=ycH\/op=.neq/\ne=ycG)->a7 tm hp (mR O.P H ne op t x y)=D5 v->Reads O m S w a o v:=by
  intro ne gg hv;have agg:cU O.P t=D5 ycG->a7 tm hp (nN O.P H ne t x y)=D5 v->Reads O m S w a o v:=by
   intro ha hv;unfold nN at hv
   cases hk:kinds O.P 20 t with
   | none=>rw[hk] at hv;exact (cR hv).elim
   | some ks=>
    simp only[hk] at hv
    cases hc:(O.P.stoodInHeld t||O.P.eqGuardType O.P.depth t) with
    | true=>rw[hc] at hv;exact (cR hv).elim
    | false=>
     rw[hc] at hv;simp only[yJ] at hv;simp only[Bool.or_eq_false_iff] at hc;refine other ne (.ag ks) gg (fun r hr=>?_) hv;obtain⟨p,q,e1,e2,h1⟩:=pA ks hk ha hc.1 r hr;refine⟨h1,.inr hc.2,by rw[e1];simp,fun _=>?_⟩
     rw[e1,e2];exact⟨fun e=>by subst e;rfl,fun e=>by subst e;rfl⟩
  unfold mR at hv
  split at hv
  .exact plain hv
  .exact plain hv
  .exact plain hv
  .exact plain hv
  .rename_i hu;refine other ne .b gg (fun r hr=>?_) hv;obtain⟨p,q,e1,e2,h1⟩:=pB hu r hr;refine⟨h1,.inl (by rw[e1];simp),by rw[e1];simp,fun _=>?_⟩
   rw[e1,e2];exact⟨fun e=>by subst e;rfl,fun e=>by subst e;rfl⟩
  .rename_i e hu;refine other ne .sl gg (fun r hr=>?_) hv;obtain⟨p,n,c,q,n',c',e1,e2,h1⟩:=pS e hu r hr;refine⟨h1,.inl (by rw[e1];simp),by rw[e1];simp,fun _=>?_⟩
   rw[e1,e2];exact⟨fun e=>by subst e;rfl,fun e=>by subst e;rfl⟩
  .rename_i ps rs vr hu;refine other ne .fn gg (fun r hr=>?_) hv;obtain⟨⟨e1,e2⟩,h1⟩:=pF ps rs vr hu r hr;refine⟨h1,.inl ?_,?_,fun _=>?_⟩
   .rcases e1 with e1 | ⟨_,_,_,e1⟩<;>rw[e1]<;>simp
   .rcases e1 with e1 | ⟨_,_,_,e1⟩<;>rw[e1]<;>simp
   .rcases e1 with e1 | ⟨_,_,_,e1⟩<;>rcases e2 with e2 | ⟨_,_,_,e2⟩<;>rw[e1,e2]<;>exact⟨fun e=>by subst e;rfl,fun e=>by subst e;rfl⟩
  .rename_i fs hu;exact agg (by simp[cU,hu]) hv
  .rename_i k0 e hu;exact agg (by simp[cU,hu]) hv
  .exact (cR hv).elim
 cases op
 case eql=>exact eqs ycH (.inl ⟨rfl,rfl⟩) (by simpa only[aM,ho] using hv)
 case neq=>exact eqs ycG (.inr ⟨rfl,rfl⟩) (by simpa only[aM,ho] using hv)
 all_goals exact plain (by simpa only[aM,ho] using hv)
end
end
section
open Go
section
variable {O:bk}{H:Hint}{m:Mp}{S:Nat->Prop}{w:yi}{tm:Env}{a:Act}{hp:Hp}{ct:Nat}
def zp{o:yP}{b:Builtin}{args:Array xm}{ts:Array yu}(ho:o.op=.call {callee:=.builtin b,args:=args,argTypes:=ts}):
  ∃cs,(execOp a.eval o).run O.P w=(builtin b ts o.type cs (args.map a.eval)).run O.P w:=by
 exact⟨_,by simp only[execOp,ho,resolve,Sem.run_bind,Sem.run_pure,Result.andThen_ok,invoke];rfl⟩
def ait{o:yP}{c:Call}{k:Nat}{v:AV}(hH:eF O H)(ht:bN O m S w tm a.tmps)(hh:aP O m S w hp ct)(ho:o.op=.call c)(hv:a7 tm hp (aM O.P H k o)=D5 v):Reads O m S w a o v:=by
 obtain⟨callee,args,ts⟩:=c;simp only[aM,ho] at hv
 split at hv
 .cases DE:H.mode k<;>simp[DE,a7] at hv
 .rename_i _ b
  split at hv
  .have key:∀{bb:Bool} {sz by':Nat} {x y:X},a7 tm hp (bif bb then .df sz by' x y else bad)=D5 v->False:=by
    intro bb sz by' x y h
    cases bb
    .exact cR h
    .simp [a7] at h
   split at hv
   .split at hv
    .exact (key hv).elim
    .exact (cR hv).elim
   .split at hv
    .exact (key hv).elim
    .exact (cR hv).elim
   .exact (cR hv).elim
  .rename_i x t dQ kR;obtain⟨al⟩:=args;obtain⟨tl⟩:=ts;simp only at dQ kR;subst dQ;subst kR;obtain⟨cs,du⟩:=zp (O:=O) (w:=w) (a:=a) ho;have fin:(∃u,(Builtin.len_ #[t] o.type #[a.eval x]).run O.P w=.ok u w/\ae O.ab m S w v u)->Reads O m S w a o v:=by
    rintro⟨u,h1,h2⟩;refine⟨u,?_,h2⟩;rw[du];simp[builtin,h1]
   split at hv
   .rename_i n e hu;simp only[a7,aw,yb] at hv;subst hv;exact fin ⟨_,by simp[Builtin.len_,run_underlying hu];rfl,by simp[ae,goInt]⟩
   .rename_i hu;simp only[a7] at hv;exact fin (Ry hh (bO hH ht x) (.inl ⟨rfl,hu⟩) hv)
   .rename_i e hu;simp only[a7] at hv;exact fin (Ry hh (bO hH ht x) (.inr (.inl ⟨rfl,e,hu⟩)) hv)
   .rename_i kt e hu;simp only[a7] at hv;exact fin (Ry hh (bO hH ht x) (.inr (.inr ⟨rfl,kt,e,hu⟩)) hv)
   .exact (cR hv).elim
  .split at hv
   .split at hv
    .simp [a7] at hv
    .exact (cR hv).elim
   .exact (cR hv).elim
  .simp only [a7] at hv;obtain⟨cs,du⟩:=zp (O:=O) (w:=w) (a:=a) ho;have hl:=CM hH ht args.toList
   cases hx:db tm (gH H args.toList) with
   | nil=>simp[hx] at hv
   | cons c r=>
    simp only[hx] at hv;rw[hx] at hl;simp only[ax] at hl;obtain⟨u,us,h1,h2,h3⟩:=hl;obtain⟨q,h4,h5⟩:=QT (O:=O) (g:=Builtin.min2) (fun va vb v x y hx hy h=>amu hx hy h) r us c v u h2 h3 hv;refine⟨q,?_,h5⟩;rw[du];simp[builtin,Builtin.min_,h1,h4]
  .simp only [a7] at hv;obtain⟨cs,du⟩:=zp (O:=O) (w:=w) (a:=a) ho;have hl:=CM hH ht args.toList
   cases hx:db tm (gH H args.toList) with
   | nil=>simp[hx] at hv
   | cons c r=>
    simp only[hx] at hv;rw[hx] at hl;simp only[ax] at hl;obtain⟨u,us,h1,h2,h3⟩:=hl;obtain⟨q,h4,h5⟩:=QT (O:=O) (g:=Builtin.max2) (fun va vb v x y hx hy h=>amv hx hy h) r us c v u h2 h3 hv;refine⟨q,?_,h5⟩;rw[du];simp[builtin,Builtin.max_,h1,h4]
  .rename_i ts' x dQ;obtain⟨al⟩:=args;simp only at dQ;subst dQ;obtain⟨cs,du⟩:=zp (O:=O) (w:=w) (a:=a) ho;simp only[a7] at hv;have rx:=bO hH ht x;cases hx:aw tm (aI H x)<;>rw[hx] at hv rx<;>simp only[kM,reduceCtorEq,yb] at hv
   rename_i k0 p0 q0;subst hv;simp only[ae] at rx;have e1:(#[x]:Array xm).map a.eval=#[Value.complex k0 p0 q0]:=by simp[rx]
   have e2:Builtin.real_ ts o.type #[Value.complex k0 p0 q0]=pure (.float k0 p0):=rfl;exact⟨.float k0 p0,by rw[du,e1];simp[builtin,e2],by simp[ae]⟩
  .rename_i ts' x dQ;obtain⟨al⟩:=args;simp only at dQ;subst dQ;obtain⟨cs,du⟩:=zp (O:=O) (w:=w) (a:=a) ho;simp only[a7] at hv;have rx:=bO hH ht x;cases hx:aw tm (aI H x)<;>rw[hx] at hv rx<;>simp only[kM,reduceCtorEq,yb] at hv
   rename_i k0 p0 q0;subst hv;simp only[ae] at rx;have e1:(#[x]:Array xm).map a.eval=#[Value.complex k0 p0 q0]:=by simp[rx]
   have e2:Builtin.imag_ ts o.type #[Value.complex k0 p0 q0]=pure (.float k0 q0):=rfl;exact⟨.float k0 q0,by rw[du,e1];simp[builtin,e2],by simp[ae]⟩
  .rename_i ts' x y dQ;obtain⟨al⟩:=args;simp only at dQ;subst dQ;obtain⟨cs,du⟩:=zp (O:=O) (w:=w) (a:=a) ho;simp only[a7] at hv;have rx:=bO hH ht x;have ry:=bO hH ht y;cases hx:aw tm (aI H x)<;>cases hy:aw tm (aI H y)<;>rw[hx] at hv rx<;>rw[hy] at hv ry<;>simp only[abd,reduceCtorEq] at hv
   rename_i k1 a1 k2 b1;simp only[ae] at rx ry;by_cases hk:k1=k2
   .subst hk;simp only[xN,yb] at hv;subst hv;have e1:(#[x,y]:Array xm).map a.eval=#[Value.float k1 a1,Value.float k1 b1]:=by simp[rx,ry]
    have e2:Builtin.complex_ ts o.type #[Value.float k1 a1,Value.float k1 b1]=pure (.complex k1 a1 b1):=by
     show (if k1=k1 then _ else _)=_
     simp
    exact⟨.complex k1 a1 b1,by rw[du,e1];simp[builtin,e2],by simp[ae]⟩
   .simp [hk] at hv
  .exact (cR hv).elim
 .exact (cR hv).elim
def ZG{o:yP}{k:Nat}{v:AV}(hH:eF O H)(ht:bN O m S w tm a.tmps)(hh:aP O m S w hp ct)(hv:a7 tm hp (aM O.P H k o)=D5 v):Reads O m S w a o v:=by
 cases ho:o.op with
 | call c=>exact ait hH ht hh ho hv
 | binOp op t x y ty=>exact akf hH ht ho hv
 | move x=>
  simp only[aM,ho,a7,yb] at hv;subst hv;exact⟨_,by simp only[execOp,ho,Sem.run_pure],bO hH ht x⟩
 | assign x=>
  simp only[aM,ho,a7,yb] at hv;subst hv;exact⟨_,by simp only[execOp,ho,Sem.run_pure],bO hH ht x⟩
 | pick c x y=>
  simp only[aM,ho,a7] at hv;have rc:=bO hH ht c;cases hc:aw tm (aI H c)<;>rw[hc] at hv<;>simp only[reduceCtorEq] at hv
  rename_i b;rw[hc] at rc;simp only[ae] at rc;simp only[yb] at hv;subst hv
  cases b with
  | true=>exact⟨a.eval x,by simp[execOp,ho,rc,asBool],bO hH ht x⟩
  | false=>exact⟨a.eval y,by simp[execOp,ho,rc,asBool],bO hH ht y⟩
 | load t x=>
  simp only[aM,ho] at hv
  split at hv
  .rename_i s ag hz ha;simp only[a7] at hv;exact jC (by simp only[execOp,ho]) (asW hh hz ha (bO hH ht x) hv)
  .exact (cR hv).elim
 | fieldAddr t x i=>
  simp only[aM,ho] at hv
  split at hv
  .rename_i fs hu
   split at hv
   .rename_i f hf
    split at hv
    .rename_i s hz;simp only[a7] at hv;exact jC (by simp only[execOp,ho]) (aoT hu hf hz (bO hH ht x) hv)
    .exact (cR hv).elim
   .exact (cR hv).elim
  .exact (cR hv).elim
 | field t x i=>
  simp only[aM,ho] at hv
  split at hv
  .rename_i fs hu
   split at hv
   .rename_i f hf
    split at hv
    .rename_i s ag hz ha;simp only[a7] at hv;exact jC (by simp only[execOp,ho]) (aoU hu hf hz ha (bO hH ht x) hv)
    .exact (cR hv).elim
   .exact (cR hv).elim
  .exact (cR hv).elim
 | nilCheck x=>
  simp only[aM,ho,a7] at hv;have rx:=bO hH ht x;cases hx:aw tm (aI H x)<;>rw[hx] at hv rx<;>simp only[reduceCtorEq,yb] at hv
  .subst hv;have r':=rx;simp only[ae] at r';obtain⟨p,_,e⟩:=r';exact⟨a.eval x,by simp only[execOp,ho,e,Sem.run_pure],rx⟩
  .subst hv;have r':=rx;simp only[ae] at r';obtain⟨b,o',e,_⟩:=r';exact⟨a.eval x,by simp only[execOp,ho,e,Sem.run_pure],rx⟩
  .subst hv;rename_i f _ _
   cases f with
   | f g=>
    have r':=rx;simp only[ae] at r';obtain⟨fi,ca,e,_⟩:=r';exact⟨a.eval x,by simp only[execOp,ho,e,Sem.run_pure],rx⟩
   | y l=>
    have r':=rx;simp only[ae] at r';obtain⟨p,_,e⟩:=r';exact⟨a.eval x,by simp only[execOp,ho,e,Sem.run_pure],rx⟩
 | unOp op t x=>
  simp only[aM,ho,a7] at hv;exact jC (by simp only[execOp,ho]) (ams (bO hH ht x) hv)
 | convert s d x=>
  simp only[aM,ho] at hv
  split at hv
  .rename_i k1 k2 hs hd;simp only[a7] at hv;exact jC (by simp only[execOp,ho]) (Yu hd (.inl ⟨_,hs⟩) (bO hH ht x) hv)
  .rename_i k1 k2 hs hd;simp only[a7] at hv;exact jC (by simp only[execOp,ho]) (Yu hd (.inr ⟨_,hs⟩) (bO hH ht x) hv)
  .rename_i k1 k2 hs hd;simp only[a7] at hv;exact jC (by simp only[execOp,ho]) (Yv hd (.inl ⟨_,hs⟩) (bO hH ht x) hv)
  .rename_i k1 k2 hs hd;simp only[a7] at hv;exact jC (by simp only[execOp,ho]) (Yv hd (.inr ⟨_,hs⟩) (bO hH ht x) hv)
  .rename_i hs hd;simp only[a7] at hv;exact jC (by simp only[execOp,ho]) (aj9 hd hs (bO hH ht x) hv)
  .exact (cR hv).elim
 | makeFunc fn first cap=>
  cases fn with
  | func f=>
   simp only[aM,ho] at hv
   split at hv
   .rename_i g hg;simp only[a7,yb] at hv;subst hv;refine⟨.func (.func f) (first.map a.eval) (cap.map a.eval),by simp[execOp,ho,Instr.makeFunc],?_⟩;simp only[ae];exact⟨_,_,by rw[hH f g hg],by simpa using CM hH ht first.toList,by simpa using CM hH ht cap.toList⟩
   .exact (cR hv).elim
  | _=>simp only[aM,ho] at hv;exact (cR hv).elim
 | slice t x lo hi mx=>
  cases mx with
  | some q=>simp only[aM,ho] at hv;exact (cR hv).elim
  | none=>
   simp only[aM,ho] at hv
   split at hv
   .rename_i hu;simp only[a7] at hv;exact jC (by simp only[execOp,ho];rfl) (ais hH ht hu (bO hH ht x) hv)
   .rename_i e hu
    split at hv
    .rename_i s hz;simp only[a7] at hv;exact jC (by simp only[execOp,ho];rfl) (aka hH ht hu hz hh (bO hH ht x) hv)
    .exact (cR hv).elim
   .rename_i n e hu
    split at hv
    .rename_i s hz;simp only[a7] at hv;exact jC (by simp only[execOp,ho];rfl) (akb hH ht hu hz (bO hH ht x) hv)
    .exact (cR hv).elim
   .exact (cR hv).elim
 | indexAddr t x i=>
  simp only[aM,ho] at hv
  split at hv
  .rename_i e hu
   split at hv
   .rename_i s hz;simp only[a7] at hv
    cases hk:cF (aw tm (aI H i)) with
    | none=>simp[hk] at hv
    | some j=>
     simp only[hk] at hv;exact jC (by simp only[execOp,ho]) (aoV hu hz (bO hH ht x) (bO hH ht i) hk hv)
   .exact (cR hv).elim
  .rename_i n e hu
   split at hv
   .rename_i s hz;simp only[a7] at hv
    cases hk:cF (aw tm (aI H i)) with
    | none=>simp[hk] at hv
    | some j=>
     simp only[hk] at hv;exact jC (by simp only[execOp,ho]) (aoW hu hz (bO hH ht x) (bO hH ht i) hk hv)
   .exact (cR hv).elim
  .exact (cR hv).elim
 | index t x i=>
  simp only[aM,ho] at hv
  split at hv
  .rename_i hu;simp only[a7] at hv
   cases hk:cF (aw tm (aI H i)) with
   | none=>simp[hk] at hv
   | some j=>
    simp only[hk] at hv;exact jC (by simp only[execOp,ho]) (aoY hu (bO hH ht x) (bO hH ht i) hk hv)
  .rename_i n e hu
   split at hv
   .rename_i s ag hz ha;simp only[a7] at hv
    cases hk:cF (aw tm (aI H i)) with
    | none=>simp[hk] at hv
    | some j=>
     simp only[hk] at hv;exact jC (by simp only[execOp,ho]) (aoX hu hz ha (bO hH ht x) (bO hH ht i) hk hv)
   .exact (cR hv).elim
  .exact (cR hv).elim
 | lookup t x i ok=>
  simp only[aM,ho] at hv
  split at hv
  .rename_i kt e hu
   split at hv
   .rename_i kk z rb hz;simp only[a7] at hv
    cases hf:nM kk (aw tm (aI H i)) with
    | false=>simp[hf] at hv
    | true=>
     simp only[hf,yr] at hv;obtain⟨zv,lQ,rfl⟩:=Em (w:=w) hz
     cases hr:Bq hp (aw tm (aI H i)) (aw tm (aI H x)) with
     | none=>simp[hr] at hv
     | some r=>
      refine jC (by simp only[execOp,ho]) (aoZ (ok:=ok) (r:=r) (z:=et zv) hh hu rb hf lQ (bO hH ht x) (bO hH ht i) (LK zv) hr ?_);cases r<;>simpa[hr] using hv
   .exact (cR hv).elim
  .exact (cR hv).elim
 | extract x i=>
  simp only[aM,ho,a7] at hv;have rx:=bO hH ht x;cases hx:aw tm (aI H x)<;>rw[hx] at hv rx<;>simp only[reduceCtorEq] at hv
  simp only[ae] at rx;obtain⟨xs,e,hr⟩:=rx;obtain⟨u,h1,h2⟩:=Qm hr hv;refine⟨u,?_,h2⟩;have JS:xs[i]? =D5 u:=by simpa using h1
  simp[execOp,ho,e,Instr.extract,JS]
 | build t parts=>
  simp only[aM,ho] at hv
  split at hv
  .rename_i fs z hu hz
   split at hv
   .rename_i pl auM;have mC:=run_places (P:=O.P) w fs.toList pl auM
    split at hv
    case h_2=>exact (cR hv).elim
    rename_i ps fa;simp only[a7] at hv
    cases hf:fill tm z ps with
    | none=>simp[hf] at hv
    | some cs=>
     simp only[hf,yb] at hv;subst hv;obtain⟨zv,lQ,jO⟩:=Em (w:=w) hz;have Au:ax O.ab m S w z zv.cells.toList:=by
      have:=Cu (ab:=O.ab) (m:=m) (S:=S) (w:=w) zv
      rw[<-jO] at this;exact this
     obtain⟨out,h1,h2⟩:=LM hH ht (place:=fun i=>pl[i]?) parts.toList ps z cs zv.cells fa Au hf;refine⟨.agg out,?_,by simp only[ae];exact⟨out,rfl,h2⟩⟩
     have hm:(Array.mapM (fun f=>Functor.map (Prod.mk f.offset) (wT f.type)) fs:Sem (Array (Nat×Nat))).run O.P w=.ok pl.toArray w:=by
      rw[Array.mapM_eq_mapM_toList];simp[mC]
     simp[execOp,ho,Instr.build,lQ,run_underlying hu,hm,h1]
   .exact (cR hv).elim
  .rename_i n e z hu hz
   split at hv
   .rename_i s hs
    split at hv
    .rename_i ps fa;simp only[a7] at hv
     cases hf:fill tm z ps with
     | none=>simp[hf] at hv
     | some cs=>
      simp only[hf,yb] at hv;subst hv;obtain⟨zv,lQ,jO⟩:=Em (w:=w) hz;have Au:ax O.ab m S w z zv.cells.toList:=by
       have:=Cu (ab:=O.ab) (m:=m) (S:=S) (w:=w) zv
       rw[<-jO] at this;exact this
      obtain⟨out,h1,h2⟩:=LM hH ht (place:=fun i=>D5 (i*s,s)) parts.toList ps z cs zv.cells fa Au hf;refine⟨.agg out,?_,by simp only[ae];exact⟨out,rfl,h2⟩⟩
      simp[execOp,ho,Instr.build,lQ,run_underlying hu,nG hs,h1]
    .exact (cR hv).elim
   .exact (cR hv).elim
  .exact (cR hv).elim
 | alloc t=>simp only[aM,ho] at hv;split at hv<;>simp[a7,bad] at hv
 | box t x=>simp only[aM,ho] at hv;split at hv<;>simp[a7,bad] at hv
 | buildSlice t n parts=>
  simp only[aM,ho] at hv
  split at hv
  .split at hv
   .rename_i s z _ _
    cases hc:yz (n*s) 16777216 with
    | false=>rw[hc] at hv;exact (cR hv).elim
    | true=>
     rw[hc] at hv;simp only[yr] at hv
     split at hv
     .simp [a7] at hv
     .exact (cR hv).elim
   .exact (cR hv).elim
  .exact (cR hv).elim
 | makeMap t r=>
  cases r<;>simp only[aM,ho] at hv
  .repeat' split at hv
   all_goals simp[a7,bad] at hv
  .exact (cR hv).elim
 | makeSlice t l c=>
  simp only[aM,ho] at hv
  repeat' split at hv
  all_goals simp[a7,bad] at hv
 | insert t x k y=>
  simp only[aM,ho] at hv
  repeat' split at hv
  all_goals simp[a7,bad] at hv
 | mapUpdate t x k y=>
  simp only[aM,ho] at hv
  repeat' split at hv
  all_goals simp[a7,bad] at hv
 | store t x y=>simp only[aM,ho] at hv;split at hv<;>simp[a7,bad] at hv
 | range t x=>simp only[aM,ho] at hv;split at hv<;>simp[a7,bad] at hv
 | next x b=>cases b<;>simp[aM,ho,a7,bad] at hv
 | _=>simp[aM,ho,a7,bad] at hv
end
end
section
open Go
def eR(m:Mp)(id:Nat)(p:Pl):Mp:=fun i=>if i=id then D5 p else m i
def c9{m:Mp}{id:Nat}{p:Pl}:eR m id p id=D5 p:=by simp[eR]
def dK{m:Mp}{id i:Nat}{p:Pl}(h:i≠id):eR m id p i=m i:=by simp[eR,h]
section
variable {O:bk}{m:Mp}{S:Nat->Prop}{w:yi}{hp:Hp}{ct:Nat}
def cL(m m':Mp):Prop:=∀id p,m id=D5 p->m' id=D5 p
def cL.refl{m:Mp}:cL m m:=fun _ _ h=>h
def cL.trans{m m' JQ:Mp}(h:cL m m')(k:cL m' JQ):cL m JQ:=fun id p hp=>k id p (h id p hp)
def iQ{i:Nat}(h:m i=D6){p:Pl}:cL m (eR m i p):=by
 intro id q hq;rw[dK]
 .grind
 .grind
def AU{tm:Env}{tmps:Array yg}{m':Mp}{S':Nat->Prop}{w':yi}(hm:∀id p,m id=D5 p->m' id=D5 p)(hS:∀b,S b->S' b)(hw:fg S w w')(h:bN O m S w tm tmps):bN O m' S' w' tm tmps:=fun i=>kZ hm hS hw _ _ (h i)
def alloc_old{o:tV}{b:Nat}(hb:b<w.heap.size):(w.alloc o).heap[b]? =w.heap[b]? :=RowKit.Below.heap_alloc w o b hb
def rM{m':Mp}{S':Nat->Prop}{w':yi}{id:Nat}{o:Obj}(hm:∀id p,m id=D5 p->m' id=D5 p)(hS:∀b,S b->S' b)(hw:fg S w w')(hb:∀p,m id=D5 p->w'.heap[p.b]? =w.heap[p.b]?)(hn:∀p,m id=D5 p->S' p.b->S p.b)(h:eH O m S w id o):eH O m' S' w' id o:=by
 have rowAt:∀(cs:List AV) (b k:Nat),w'.heap[b]? =w.heap[b]? ->bL O.ab m S w cs b k->bL O.ab m' S' w' cs b k:=by
  intro cs
  induction cs with
  | nil=>intro b k _ _;simp only[bL]
  | cons c cs ih=>
   intro b k sX hr;have⟨⟨u,h1,h2⟩,h3⟩:=hr;exact⟨⟨u,(KM sX).trans h1,kZ hm hS hw _ _ h2⟩,ih b (k+1) sX h3⟩
 cases o with
 | cells rw pu ex sz cs=>
  have⟨p,arr,t,h1,h2,h3,h4,h5,h6,h7,h8,h9,gR⟩:=h;exact⟨p,arr,t,hm _ _ h1,(hb p h1).trans h2,h3,h4,h5,h6,rowAt cs p.b p.o (hb p h1) h7,h8,fun hr hs=>h9 hr (hn p h1 hs),fun hr=>hS _ (gR hr)⟩
 | mp rw ks vs=>
  have⟨p,es,clock,h1,h2,h3,h4,h5,h6⟩:=h;exact⟨p,es,clock,hm _ _ h1,(hb p h1).trans h2,gA hm hS hw _ _ h3,gA hm hS hw _ _ h4,fun hr hs=>h5 hr (hn p h1 hs),fun hr=>hS _ (h6 hr)⟩
 | si s pos=>
  have⟨p,t,h1,h2,h3,h4⟩:=h;exact⟨p,t,hm _ _ h1,(hb p h1).trans h2,h3,fun hs=>h4 (hn p h1 hs)⟩
 | lp tm ps as_ body st pe=>
  have⟨p,l,hi,h1,h2,h3,h4,h5,h6,h7,h8⟩:=h;exact⟨p,l,hi,hm _ _ h1,(hb p h1).trans h2,fun hs=>h3 (hn p h1 hs),h4,h5,h6,AU hm hS hw h7,h8⟩
def eO{id i:Nat}{o:Obj}:ai ((id,o)::hp) i=if id=i then D5 o else ai hp i:=by
 simp only[ai]
 simp_all
def G7(hh:aP O m S w hp ct)(g:tV):fg S w (w.alloc g):=fun b hb=>alloc_old (hh.slt b hb)
def iI:Obj->Obj->Prop
 | .cells rw pu ex sz cs,o'=>∃cm,o'=.cells cm pu ex sz cs/\(cm=ycG->rw=ycG)
 | .mp rw ks vs,o'=>∃cm,o'=.mp cm ks vs/\(cm=ycG->rw=ycG)
 | .si s pos,o'=>o'=.si s pos
 | .lp tm ps as_ body st pe,o'=>o'=.lp tm ps as_ body st pe
def iI.refl:∀o,iI o o
 | .cells rw _ _ _ _=>⟨rw,rfl,fun h=>h⟩
 | .mp rw _ _=>⟨rw,rfl,fun h=>h⟩
 | .si _ _=>rfl
 | .lp _ _ _ _ _ _=>rfl
def iI.trans{a b c:Obj}(h:iI a b)(k:iI b c):iI a c:=by
 cases a with
 | cells rw pu ex sz cs=>
  obtain⟨r1,rfl,h1⟩:=h;obtain⟨r2,rfl,h2⟩:=k;exact⟨r2,rfl,fun h=>h1 (h2 h)⟩
 | mp rw ks vs=>
  obtain⟨r1,rfl,h1⟩:=h;obtain⟨r2,rfl,h2⟩:=k;exact⟨r2,rfl,fun h=>h1 (h2 h)⟩
 | si s pos=>simp only[iI] at h;subst h;exact k
 | lp tm ps as_ body st pe=>simp only[iI] at h;subst h;exact k
def cz(hp an:Hp):Prop:=∀id o,ai hp id=D5 o->∃o',ai an id=D5 o'/\iI o o'
def cz.refl{hp:Hp}:cz hp hp:=fun _ o h=>⟨o,h,iI.refl o⟩
def cz.trans{a b c:Hp}(h:cz a b)(k:cz b c):cz a c:=fun id o ho=>
 let ⟨o1,h1,l1⟩:=h id o ho
 let ⟨o2,h2,l2⟩:=k id o1 h1
 ⟨o2,h2,l1.trans l2⟩
def ij:Obj->Prop
 | .cells rw _ _ _ _=>rw=ycH
 | .mp rw _ _=>rw=ycH
 | _=>False
def ZH{an:Hp}{aK:Nat}(hh:aP O m S w hp ct)(hl:cz hp an)(hd:∀id o p,ai an id=D5 o->m id=D5 p->∃o',ai hp id=D5 o')(fH:ct<=aK)(auN:∀id o,ai an id=D5 o->id<aK):
  ∃S',aP O m S' w an aK/\(∀b,S b->S' b)/\∀b,S' b->S b\/dI m hp b:=by
 refine⟨fun b=>S b\/∃id p o,m id=D5 p/\p.b=b/\ai an id=D5 o/\ij o,?_,fun b h=>.inl h,?_⟩
 .refine ⟨?_,fun id p h=>yE (hh.lt id p h) fH,?_,?_,hh.blt,hh.low,hh.lB,hh.fk,auN⟩
  .intro id o' p iH hm;have⟨o,ho⟩:=hd id o' p iH hm;have⟨Us,h1,h2⟩:=hl id o ho;rw[iH] at h1;injection h1 with h1
   subst h1;have h3:=hh.obj id o p ho hm;have hS:∀b,S b->(S b\/∃id p o,m id=D5 p/\p.b=b/\ai an id=D5 o/\ij o):=fun b h=>.inl h
   have mD:∀q,m id=D5 q->(∃id p o,m id=D5 p/\p.b=q.b/\ai an id=D5 o/\ij o)->ij o':=by
    rintro q hq ⟨j,pj,oj,JT,hj2,hj3,hj4⟩;have⟨JU,hj5⟩:=hd j oj pj hj3 JT
    have:=hh.inj id j o JU q pj ho hj5 hq JT hj2.symm
    grind
   have aQ:fg S w w:=fun _ _=>rfl
   cases o with
   | cells rw pu ex sz cs=>
    obtain⟨cm,rfl,oz⟩:=h2;have⟨q,arr,t,h1,h2,h3,h4,h5,h6,h7,h8,h9,gR⟩:=h3;refine⟨q,arr,t,h1,h2,h3,h4,h5,h6,?_,h8,?_,?_⟩
    .clear h4 h6 h8;revert h7;generalize q.o=k
     induction cs generalizing k with
     | nil=>intro _;simp only[bL]
     | cons c cs ih=>
      intro hr;simp only[bL] at hr ⊢;have⟨⟨u,g1,g2⟩,g3⟩:=hr
      exact⟨⟨u,g1,kZ (fun _ _ h=>h) hS aQ _ _ g2⟩,by
       have Aq:∀(cs:List AV) (b k:Nat),bL O.ab m S w cs b k->bL O.ab m (fun b=>S b\/∃id p o,m id=D5 p/\p.b=b/\ai an id=D5 o/\ij o) w cs b k:=by
        intro cs
        induction cs with
        | nil=>intro b k _;simp only[bL]
        | cons c cs ih=>
         intro b k hr;simp only[bL] at hr ⊢;have⟨⟨u,g1,g2⟩,g3⟩:=hr;exact⟨⟨u,g1,kZ (fun _ _ h=>h) hS aQ _ _ g2⟩,ih b (k+1) g3⟩
       exact Aq _ _ _ g3⟩
    .rintro hr (hs | hs)
     .grind
     .have:=mD q h1 hs
      simp only[ij] at this
      grind
    .intro hr;exact .inr ⟨id,q,_,h1,rfl,iH,hr⟩
   | mp rw ks vs=>
    obtain⟨cm,rfl,oz⟩:=h2;have⟨q,es,clock,h1,h2,h3,h4,h5,h6⟩:=h3;refine⟨q,es,clock,h1,h2,gA (fun _ _ h=>h) hS aQ _ _ h3,gA (fun _ _ h=>h) hS aQ _ _ h4,?_,?_⟩
    .rintro hr (hs | hs)
     .grind
     .have:=mD q h1 hs
      simp only[ij] at this
      grind
    .intro hr;exact .inr ⟨id,q,_,h1,rfl,iH,hr⟩
   | si s pos=>
    simp only[iI] at h2;subst h2;refine rM (fun _ _ h=>h) hS aQ (fun _ _=>rfl) (fun q hq hs=>?_) h3;rcases hs with hs | hs
    .grind
    .exact (mD q hq hs).elim
   | lp tm ps as_ body st pe=>
    simp only[iI] at h2;subst h2;refine rM (fun _ _ h=>h) hS aQ (fun _ _=>rfl) (fun q hq hs=>?_) h3;rcases hs with hs | hs
    .grind
    .exact (mD q hq hs).elim
  .intro i j oi oj pi pj hi hj bB fI e;have⟨JV,cX⟩:=hd i oi pi hi bB;have⟨JU,Ut⟩:=hd j oj pj hj fI;exact hh.inj i j JV JU pi pj cX Ut bB fI e
  .rintro b (hb | ⟨id,p,o,h1,rfl,_,_⟩)
   .exact hh.slt b hb
   .exact hh.blt id p h1
 .rintro b (hb | ⟨id,p,o,h1,rfl,h3,_⟩)
  .exact .inl hb
  .have ⟨o',iH⟩:=hd id o p h3 h1;exact .inr ⟨id,o',p,iH,h1,rfl⟩
def Qo{i:Nat}(hh:aP O m S w hp ct)(hi:m i=D6)(Fu:i<ct){g:tV}{p:Pl}(hb:p.b=w.heap.size)(hf:∀o,ai hp i=D5 o->(eH O (eR m i p) S (w.alloc g) i o/\¬ij o)\/
   (ij o/\eH O (eR m i p) (fun b=>S b\/b=w.heap.size) (w.alloc g) i o)):
  ∃S',aP O (eR m i p) S' (w.alloc g) hp ct/\(∀b,S b->S' b)/\∀b,S' b->S b\/b=w.heap.size:=by
 have dR:(w.alloc g).heap.size=w.heap.size+1:=by simp
 have aZ:O.w0.heap.size<=w.heap.size:=hh.fk;have gen:∀S':Nat->Prop,(∀b,S b->S' b)->(∀b,S' b->S b\/b=w.heap.size)->(∀o,ai hp i=D5 o->eH O (eR m i p) S' (w.alloc g) i o)->aP O (eR m i p) S' (w.alloc g) hp ct:=by
  intro S' h1 h2 h3;have JW:∀id q,m id=D5 q->¬q.b=w.heap.size:=fun id q hq=>by have:=hh.blt id q hq;lia
  refine⟨?_,?_,?_,?_,?_,?_,?_,?_,hh.aB⟩
  .intro id o q ho hm;by_cases hc:id=i
   .grind
   .rw [dK hc] at hm;refine rM (iQ hi) h1 (G7 hh g) (fun q' bE=>alloc_old (hh.blt id q' bE)) (fun q' bE hs=>?_) (hh.obj id o q ho hm)
    grind
  .intro id q hm;by_cases hc:id=i
   .grind
   .rw [dK hc] at hm;exact hh.lt id q hm
  .intro a b oa ob pa pb ha bm DF Ad e;by_cases ca:a=i
   .by_cases cb:b=i
    .grind
    .subst ca;rw[c9] at DF;rw[dK cb] at Ad
     grind
   .rw [dK ca] at DF;by_cases cb:b=i
    .subst cb;rw[c9] at Ad
     grind
    .rw [dK cb] at Ad;exact hh.inj a b oa ob pa pb ha bm DF Ad e
  .intro b hs;rcases h2 b hs with h | h
   .have:=hh.slt b h;lia
   .lia
  .intro id q hm;by_cases hc:id=i
   .subst hc;rw[c9] at hm
    grind
   .rw [dK hc] at hm
    have:=hh.blt id q hm
    lia
  .intro id q hm;by_cases hc:id=i
   .subst hc;rw[c9] at hm
    grind
   .rw [dK hc] at hm;exact hh.low id q hm
  .intro b sX;exact (alloc_old (by lia)).trans (hh.lB b sX)
  .lia
 cases ho:ai hp i with
 | none=>exact⟨S,gen S (fun _ h=>h) (fun _ h=>.inl h) (fun o h=>by rw[ho] at h;cases h),fun _ h=>h,fun _ h=>.inl h⟩
 | some o=>
  rcases hf o ho with ⟨h1,_⟩ | ⟨_,h1⟩
  .exact ⟨S,gen S (fun _ h=>h) (fun _ h=>.inl h) (fun o' h=>by rw[ho] at h;injection h with h;subst h;exact h1),fun _ h=>h,fun _ h=>.inl h⟩
  .exact ⟨_,gen (fun b=>S b\/b=w.heap.size) (fun _ h=>.inl h) (fun _ h=>h) (fun o' h=>by rw[ho] at h;injection h with h;subst h;exact h1),fun _ h=>.inl h,fun _ h=>h⟩
def Pu{id:Nat}{o o':Obj}{p:Pl}(hl:iI o o')(hm:m id=D5 p)(h:eH O m S w id o)(hn:¬ij o):
  (eH O m S w id o'/\¬ij o')\/(ij o'/\eH O m (fun b=>S b\/b=p.b) w id o'):=by
 have hS:∀b,S b->(S b\/b=p.b):=fun _ h=>.inl h
 have aQ:fg S w w:=fun _ _=>rfl
 cases o with
 | cells rw pu ex sz cs=>
  obtain⟨cm,rfl,oz⟩:=hl
  cases cm with
  | true=>
   grind
  | false=>
   refine .inr ⟨rfl,?_⟩;have⟨q,arr,t,h1,h2,h3,h4,h5,h6,h7,h8,h9,gR⟩:=h;rw[hm] at h1;injection h1 with h1
   subst h1;have Aq:∀(cs:List AV) (b k:Nat),bL O.ab m S w cs b k->bL O.ab m (fun b=>S b\/b=p.b) w cs b k:=by
    intro cs
    induction cs with
    | nil=>intro b k _;simp only[bL]
    | cons c cs ih=>
     intro b k hr;have⟨⟨u,g1,g2⟩,g3⟩:=hr;exact⟨⟨u,g1,kZ (fun _ _ h=>h) hS aQ _ _ g2⟩,ih b (k+1) g3⟩
   exact⟨p,arr,t,hm,h2,h3,h4,h5,h6,Aq _ _ _ h7,h8,by simp,fun _=>.inr rfl⟩
 | mp rw ks vs=>
  obtain⟨cm,rfl,oz⟩:=hl
  cases cm with
  | true=>
   grind
  | false=>
   refine .inr ⟨rfl,?_⟩;have⟨q,es,clock,h1,h2,h3,h4,h5,h6⟩:=h;rw[hm] at h1;injection h1 with h1
   subst h1;exact⟨p,es,clock,hm,h2,gA (fun _ _ h=>h) hS aQ _ _ h3,gA (fun _ _ h=>h) hS aQ _ _ h4,by simp,fun _=>.inr rfl⟩
 | si s pos=>simp only[iI] at hl;subst hl;exact .inl ⟨h,hn⟩
 | lp tm ps as_ body st pe=>simp only[iI] at hl;subst hl;exact .inl ⟨h,hn⟩
end
end
section
open Go
section
variable {v:AV}{arr:Array yg}{cs:List AV}{sz:Nat}{b:Obj}
section
variable {O:bk}{H:Hint}{m:Mp}{S:Nat->Prop}{w:yi}{tm:Env}{a:Act}{hp:Hp}{ct cq:Nat}
def Lb{ab:Nat->Nat}{b:Nat}{arr:Array yg}{t:yu}{fr:Nat×Nat}(hb:w.heap[b]? =D5 (.cells arr t fr)):∀(cs:List AV) (us:List yg) (o:Nat),
  ax ab m S w cs us->(∀(j:Nat) (u:yg),us[j]? =D5 u->arr[o+j]? =D5 u)->bL ab m S w cs b o
 | [],us,o,_,_=>by simp only[bL]
 | c::cs,us,o,h,hu=>by
  simp only[ax] at h;obtain⟨u,r,rfl,h2,h3⟩:=h;simp only[bL];refine⟨⟨u,?_,h2⟩,Lb hb cs r (o+1) h3 (fun j v hv=>?_)⟩
  .have:=hu 0 u (by simp)
   simpa[World.cell?,hb] using this
  .have:=hu (j+1) v (by simpa using hv)
   rw[show o+1+j=o+(j+1) by lia];exact this
def amw(hh:aP O m S w hp cq){i:Nat}{t:yu}{us:List yg}{pu ex:Bool}(hr:ax O.ab m S w cs us)(hu:∀(j:Nat) (u:yg),us[j]? =D5 u->arr[j]? =D5 u)(hl:cs.length<=arr.size)(hex:ex=ycG->cs.length=arr.size)(fZ:pu=ycG->aD cs=ycG)(m':Mp)(hm:cL m m')(hi:m' i=D5 ⟨w.heap.size,0,arr.size,sz⟩):eH O m' S (w.alloc (.cells arr t)) i (.cells ycG pu ex sz cs):=by
 refine⟨⟨w.heap.size,0,arr.size,sz⟩,arr,t,hi,heap_alloc_new w _,rfl,hl,by simp,hex,?_,fZ,?_,by simp⟩
 .exact Lb (heap_alloc_new w _) cs us 0 (gA hm (fun _ h=>h) (G7 hh _) _ _ hr) (by simpa using hu)
 .intro _ hS
  have:=hh.slt _ hS
  simp at this
def C8(O:bk)(m:Mp)(S:Nat->Prop)(w:yi)(a:Act)(ct:Nat)(o:yP)(v:AV)(b:Obj):Prop:=
 ∃u g p,(execOp a.eval o).run O.P w=.ok (.value u) (w.alloc g)/\p.b=w.heap.size/\¬ij b/\
  ∀m',cL m m'->m' ct=D5 p->eH O m' S (w.alloc g) ct b/\ae O.ab m' S (w.alloc g) v u
def PX{o:yP}{t:yu}{us:List yg}{pu ex:Bool}{u:yg}(hh:aP O m S w hp cq)(he:(execOp a.eval o).run O.P w=.ok (.value u) (w.alloc (.cells arr t)))(hr:ax O.ab m S w cs us)(hu:∀(j:Nat) (u:yg),us[j]? =D5 u->arr[j]? =D5 u)(hl:cs.length<=arr.size)(hex:ex=ycG->cs.length=arr.size)(fZ:pu=ycG->aD cs=ycG)(hv:∀m':Mp,m' ct=D5 ⟨w.heap.size,0,arr.size,sz⟩->ae O.ab m' S (w.alloc (.cells arr t)) v u):C8 O m S w a ct o v (.cells ycG pu ex sz cs):=
 ⟨u,_,⟨w.heap.size,0,arr.size,sz⟩,he,rfl,by simp[ij],fun m' hm hi=>⟨amw hh hr hu hl hex fZ m' hm hi,hv m' hi⟩⟩
def Yw{o:yP}{t:yu}{x:yg}{vx:AV}(hh:aP O m S w hp cq)(he:(execOp a.eval o).run O.P w=.ok (.value (.pointer (D5 ⟨w.heap.size,0,D6⟩))) (w.alloc (.cells x.cells t)))(hx:ax O.ab m S w (cellsOf vx) x.cells.toList)(hv:(bif yo (cellsOf vx).length sz&&b5 (cellsOf vx) then D5 (AV.ptr ct 0,Obj.cells ycG (aD (cellsOf vx)) ycG sz (cellsOf vx)) else D6)=D5 (v,b)):C8 O m S w a ct o v b:=by
 cases hc:(yo (cellsOf vx).length sz&&b5 (cellsOf vx)) with
 | false=>rw[hc] at hv;cases hv
 | true=>
  rw[hc] at hv;obtain⟨rfl,rfl⟩:=hv;have hlen:=fP _ _ hx;refine PX hh he hx (fun j u hj=>by simpa using hj) (by rw[<-hlen];simp) (fun _=>by rw[<-hlen];simp) (fun h=>h) (fun m' hi=>?_)
  simp only[ae];exact⟨_,hi,by simp⟩
def akg{o:yP}{t:yu}{r:Option xm}(hh:aP O m S w hp cq)(ho:o.op=.makeMap t r)(hr:r=D6):C8 O m S w a ct o (.map ct) (.mp ycG [] []):=by
 subst hr;refine⟨.map (D5 w.heap.size),.map #[] 0,⟨w.heap.size,0,0,0⟩,by simp[execOp,ho,Instr.makeMap],rfl,by simp[ij],fun m' _ hi=>⟨?_,?_⟩⟩
 .refine ⟨_,#[],0,hi,heap_alloc_new w _,by simp[ax],by simp[ax],?_,by simp⟩;intro _ hS
  have:=hh.slt _ hS
  simp at this
 .simp only [ae];exact⟨_,hi,rfl⟩
def aiu{o:yP}{t:yu}{x:xm}{s:List Nat}(hh:aP O m S w hp cq)(ho:o.op=.range t x)(hu:O.P.underlying t=D5 .string)(hx:ae O.ab m S w (.str s) (a.eval x)):
  C8 O m S w a ct o (.it ct) (.si s 0):=by
 obtain⟨b,e,rfl⟩:=hx;refine⟨.pointer (D5 ⟨w.heap.size,0,D6⟩),.stringIter b 0,⟨w.heap.size,0,0,0⟩,by simp[execOp,ho,Instr.range,run_underlying hu,e],rfl,by simp[ij],fun m' _ hi=>⟨?_,?_⟩⟩
 .refine ⟨_,b,hi,heap_alloc_new w _,rfl,?_⟩;intro hS
  have:=hh.slt _ hS
  simp at this
 .simp only [ae];exact⟨_,hi,rfl⟩
end
def aiv(zero:Array yg):(wE zero.size).map (fun j=>zero[j]!)=zero.toList:=by
 apply List.ext_getElem
 .simp
 .grind
def W0(zero:Array yg):∀n:Nat,(wE (n*zero.size)).map (fun i=>zero[i%zero.size]!)=(yy n zero.toList).flatten
 | 0=>by simp
 | n+1=>by
  rw[xL,yag,List.range_add,List.map_append,W0 zero n,List.replicate_succ',yaJ]
  congr 1
  simp only[List.map_map,uG,List.flatten_nil,List.append_nil];rw[<-aiv zero];apply List.map_congr_left;intro j hj;simp at hj;simp[Function.comp,xb n,Nat.mod_eq_of_lt hj]
def Qp{ab:Nat->Nat}{m:Mp}{S:Nat->Prop}{w:yi}{cs:List AV}{us:List yg}(h:ax ab m S w cs us):∀n,ax ab m S w (yy n cs).flatten (yy n us).flatten
 | 0=>by simp[ax]
 | n+1=>by rw[wR,wR,uG,uG];exact kX h (Qp h n)
section
variable {O:bk}{H:Hint}{m:Mp}{S:Nat->Prop}{w:yi}{tm:Env}{a:Act}{hp:Hp}{ct cq:Nat}
def XH(zero:Array yg)(n:Nat):(Array.map (fun i=>zero[i%zero.size]!) (tj (n*zero.size))).toList=(yy n zero.toList).flatten:=by
 rw[<-W0 zero n]
 simp
def Yx(tm:Env):∀(ps:List (Nat×Nat×X)) (zero cs:List AV),fill tm zero ps=D5 cs->cs.length=zero.length
 | [],zero,cs,h=>by simp only[fill,yb] at h;rw[h]
 | (o,sz,x)::r,zero,cs,h=>by
  simp only[fill] at h
  cases hc:(yo (cellsOf (aw tm x)).length sz&&yz (o+sz) zero.length&&b5 (cellsOf (aw tm x))) with
  | false=>rw[hc] at h;cases h
  | true=>
   rw[hc] at h;simp only[ye] at hc;have h1:=yf hc.1.1;have h2:=yv hc.1.2;rw[Yx tm r _ _ h];simp only[over,yC,yT,wH]
   lia
def Lr{α:Type}(l:List α):∀n,(yy n l).flatten.length=n*l.length
 | 0=>by simp
 | n+1=>by simp[wR,Lr l n,xL,Nat.add_comm]
def aiw{o:yP}{t e:yu}{n s:Nat}{z:AV}{parts:Array (Nat×xm)}{ps:List (Nat×Nat×X)}(hH:eF O H)(ht:bN O m S w tm a.tmps)(hh:aP O m S w hp cq)(ho:o.op=.buildSlice t n parts)(hu:O.P.underlying t=D5 (.slice e))(hs:bU O.P e=D5 s)(hz:ll O.P e=D5 z)(hn:n*s<=16777216)(fa:partsOf H (fun i=>D5 (i*s,s)) parts.toList=D5 ps)(hv:cg tm hp ct (.iY n s (yy n (cellsOf z)).flatten ps)=D5 (v,b)):C8 O m S w a ct o v b:=by
 simp only[cg] at hv
 cases hf:fill tm (yy n (cellsOf z)).flatten ps with
 | none=>simp[hf] at hv
 | some cs=>
  simp only[hf] at hv
  cases hc:yo cs.length (n*s) with
  | false=>rw[hc] at hv;cases hv
  | true=>
   rw[hc] at hv;simp only[yr,yb,yj] at hv;obtain⟨rfl,rfl⟩:=hv;have hlen:=yf hc;obtain⟨zv,lQ,rfl⟩:=Em (w:=w) hz;have Au:ax O.ab m S w (cellsOf (et zv)) zv.cells.toList:=Cu zv;have rh:=fP _ _ Au;have Ow:=Yx tm ps _ _ hf;rw[Lr] at Ow;have Fv:n*s=n*zv.cells.size:=by
    rw[<-hlen,Ow,<-rh];simp
   have key:∃zr:Array yg,(n*s=0->zr=#[])/\(n*s≠0->zr=zv.cells)/\ax O.ab m S w (yy n (cellsOf (et zv))).flatten ((tj (n*s)).map (fun x=>zr[x%zr.size]!)).toList:=by
    by_cases h0:n*s=0
    .refine ⟨#[],fun _=>rfl,fun h=>(h h0).elim,?_⟩
     have:(yy n (cellsOf (et zv))).flatten=[]:=by
      apply yG;rw[Lr,<-rh];simp only[wY]
      lia
     rw[this];simp[ax,h0]
    .refine ⟨zv.cells,fun h=>(h0 h).elim,fun _=>rfl,?_⟩;rw[Fv,XH];exact Qp Au n
   have⟨zr,BY,ju,ri⟩:=key;have⟨out,h1,h2⟩:=LM hH ht (place:=fun i=>D5 (i*s,s)) parts.toList ps _ cs _ fa ri hf;have oy:=fP _ _ h2
   refine PX (arr:=out) (t:=e) (us:=out.toList) hh ?_ h2 (fun j u hj=>by simpa using hj) (by rw[<-oy];simp) (fun _=>by rw[<-oy];simp) (fun h=>h) (u:=.slice (D5 ⟨w.heap.size,0,D6⟩) n n) ?_
   .have iJ:¬(n*s>2^24):=by lia
    by_cases h0:n*s=0
    .have:=BY h0
     subst this;simp only[h0] at h1;simp[execOp,ho,Instr.buildSlice,run_underlying hu,nG hs,h0,newRow] at h1 ⊢;simp[h1]
    .have:=ju h0
     subst this;simp[execOp,ho,Instr.buildSlice,run_underlying hu,nG hs,h0,iJ,lQ,newRow] at h1 ⊢;simp[h1]
   .intro m' hi;simp only[ae];refine⟨_,n,hi,by simp,yq _,?_⟩;simp only[yd];rw[<-hlen,<-oy];simp
def Cv:∀{a b:List AV},aD a=ycG->aD b=ycG->aD (a++b)=ycG
 | [],_,_,h=>h
 | c::r,b,h,k=>by
  simp only[aD,ye] at h;simp only[ym,aD,ye];exact⟨h.1,Cv h.2 k⟩
def XI{z:List AV}(h:aD z=ycG):∀n,aD (yy n z).flatten=ycG
 | 0=>by simp[aD]
 | n+1=>by rw[wR,uG];exact Cv h (XI h n)
def akh{o:yP}{t e:yu}{s by':Nat}{z:AV}{l c:xm}(hH:eF O H)(ht:bN O m S w tm a.tmps)(hh:aP O m S w hp cq)(ho:o.op=.makeSlice t l c)(hu:O.P.underlying t=D5 (.slice e))(hs:bU O.P e=D5 s)(hb:sS O.P e=D5 by')(hz:ll O.P e=D5 z)(hv:cg tm hp ct (.oh s by' (cellsOf z) (aI H l) (aI H c))=D5 (v,b)):C8 O m S w a ct o v b:=by
 simp only[cg] at hv
 cases hl:cF (aw tm (aI H l)) with
 | none=>simp[hl] at hv
 | some ln=>
  cases hc:cF (aw tm (aI H c)) with
  | none=>simp[hl,hc] at hv
  | some cn=>
   simp only[hl,hc] at hv
   cases hk:(yz ln cn&&(yz cn room&&(yz (cn*by') room&&(yo (cellsOf z).length s&&b5 (cellsOf z))))) with
   | false=>rw[hk] at hv;cases hv
   | true=>
    rw[hk] at hv;simp only[yr,yb,yj] at hv;obtain⟨rfl,rfl⟩:=hv;simp only[ye] at hk;have h1:=yv hk.1;have h2:=yv hk.2.1;have h3:=yv hk.2.2.1;have h4:=yf hk.2.2.2.1;simp only[room] at h2 h3;have⟨kl,el⟩:=zF (bO hH ht l) hl;have⟨kc,ec⟩:=zF (bO hH ht c) hc;obtain⟨zv,lQ,rfl⟩:=Em (w:=w) hz;have Au:ax O.ab m S w (cellsOf (et zv)) zv.cells.toList:=Cu zv;have rh:=fP _ _ Au;have DG:zv.cells.size=s:=by rw[<-h4,<-rh];simp
    have wrapN:∀k:Nat,k<=1099511627776->IntKind.i64.wrap (k:Int)=k:=fun k hk=>IntWalk.i64_in _ (by lia)
    obtain⟨ti,rk,dR,Uu⟩:∃ti,O.P.info? e=D5 ti/\ti.size=s/\ti.bytes=by':=by
     unfold bU at hs;unfold sS at hb
     cases hi:O.P.info? e with
     | none=>simp[hi] at hs
     | some ti=>simp only[hi,yb] at hs hb;exact⟨ti,rfl,hs,hb⟩
    have Di:((tj (cn*s)).map (zv.cells[·%zv.cells.size]!)).toList=(yy ln zv.cells.toList).flatten++(yy (cn-ln) zv.cells.toList).flatten:=by
     rw[<-DG,XH,<-yaJ,List.replicate_append_replicate]
     grind
    have fG:(yy ln (cellsOf (et zv))).flatten.length=ln*s:=by rw[Lr,h4]
    have hmul:ln*s<=cn*s:=yL _ h1
    refine PX (arr:=(tj (cn*s)).map (zv.cells[·%zv.cells.size]!)) (t:=e) (us:=(yy ln zv.cells.toList).flatten) hh (u:=.slice (D5 ⟨w.heap.size,0,D6⟩) ln cn) ?_
     (Qp Au ln) ?_ ?_ ?_ (fun h=>?_) ?_
    .have aAq:by'*cn<=1099511627776:=by rw[xb];exact h3
     have rm:((by'*cn:Nat):Int)<=1099511627776:=by lia
     rw[Int.natCast_mul] at rm;have hlc:(ln:Int)<=(cn:Int):=by lia
     have g1:¬(281474976710656<(by':Int)*(cn:Int)):=by lia
     have g2:¬(((ln:Int)<0)):=by lia
     have g3:¬(((cn:Int)<0)):=by lia
     have g4:¬((ln:Int)>(cn:Int)):=by lia
     by_cases h0:cn*s=0
     .simp [execOp,ho,Instr.makeSlice,run_underlying hu,el,ec,asInt,asIntOf,typeInfo,rk,Uu,wrapN ln (by lia),wrapN cn h2,g1,g2,g3,g4,nG hs,h0,newRow,askRoom,roomBytes]
      grind
     .simp [execOp,ho,Instr.makeSlice,run_underlying hu,el,ec,asInt,asIntOf,typeInfo,rk,Uu,wrapN ln (by lia),wrapN cn h2,g1,g2,g3,g4,nG hs,h0,newRow,askRoom,roomBytes,lQ]
    .intro j u hj
     have:((tj (cn*s)).map (zv.cells[·%zv.cells.size]!)).toList[j]? =D5 u:=by
      grind
     grind
    .grind
    .simp_all
    .exact XI h ln
    .intro m' hi;simp only[ae];refine⟨_,cn,hi,by simp,h1,?_⟩
     simp
def ZI{o:yP}{k:Nat}(hH:eF O H)(ht:bN O m S w tm a.tmps)(hh:aP O m S w hp cq)(hv:cg tm hp ct (aM O.P H k o)=D5 (v,b)):C8 O m S w a ct o v b:=by
 cases ho:o.op with
 | call c=>
  have⟨callee,args,ts⟩:=c;simp only[aM,ho] at hv
  repeat' split at hv
  all_goals first
   | (simp[cg,bad] at hv;done)
   | (revert hv;generalize yo _ _=bb;intro hv;cases bb<;>simp[cg,bad] at hv)
 | alloc t=>
  simp only[aM,ho] at hv
  split at hv
  .rename_i s z hs hz;obtain⟨zv,lQ,rfl⟩:=Em (w:=w) hz
   exact Yw (x:=zv) (t:=t) hh (by simp[execOp,ho,Instr.alloc,lQ,newVar,newRow]) (Cu zv) (by simpa only[cg,aw] using hv)
  .simp [cg,bad] at hv
 | box t x=>
  simp only[aM,ho] at hv
  split at hv
  .rename_i s hs;simp only[cg] at hv
   cases hc:(yo (cellsOf (aw tm (aI H x))).length s&&b5 (cellsOf (aw tm (aI H x)))) with
   | false=>rw[hc] at hv;cases hv
   | true=>
    have h1:=hc;simp only[ye] at h1
    exact Yw (x:=a.eval x) (t:=t) hh (by simp[execOp,ho,Instr.box,newVar,newRow]) (PV (bO hH ht x) h1.2) hv
  .simp [cg,bad] at hv
 | buildSlice t n parts=>
  simp only[aM,ho] at hv
  split at hv
  .rename_i e hu
   split at hv
   .rename_i s z hs hz
    cases hc:yz (n*s) 16777216 with
    | false=>rw[hc] at hv;simp[cg,bad] at hv
    | true=>
     rw[hc] at hv;simp only[yr] at hv
     split at hv
     .rename_i ps fa;exact aiw hH ht hh ho hu hs hz (yv hc) fa hv
     .simp [cg,bad] at hv
   .simp [cg,bad] at hv
  .simp [cg,bad] at hv
 | makeSlice t l c=>
  simp only[aM,ho] at hv
  split at hv
  .rename_i e hu
   split at hv
   .rename_i s by' z hs hb hz
    exact akh hH ht hh ho hu hs hb hz hv
   .simp [cg,bad] at hv
  .simp [cg,bad] at hv
 | makeMap t r=>
  cases r with
  | some x=>simp[aM,ho,cg,bad] at hv
  | none=>
   simp only[aM,ho] at hv
   repeat' split at hv
   all_goals first
    | (simp[cg,bad] at hv;done)
    | (
      simp only[cg,yb,yj] at hv;obtain⟨rfl,rfl⟩:=hv
      exact akg hh ho rfl)
 | range t x=>
  simp only[aM,ho] at hv
  split at hv
  .rename_i hu;simp only[cg] at hv;have rx:=bO hH ht x;cases hx:aw tm (aI H x)<;>rw[hx] at hv rx<;>simp only[reduceCtorEq] at hv
   simp only[yb,yj] at hv;obtain⟨rfl,rfl⟩:=hv;exact aiu hh ho hu rx
  .simp [cg,bad] at hv
 | next x b=>cases b<;>simp[aM,ho,cg,bad] at hv
 | binOp op t x y ty=>
  cases op<;>simp only[aM,ho,mR,nN] at hv
  case eql=>
        repeat' split at hv
        all_goals first
         | (simp[cg,bad] at hv;done)
         | (cases hb:(O.P.stoodInHeld t||O.P.eqGuardType O.P.depth t)<;>rw[hb] at hv<;>simp[cg,bad] at hv)
  case neq=>
        repeat' split at hv
        all_goals first
         | (simp[cg,bad] at hv;done)
         | (cases hb:(O.P.stoodInHeld t||O.P.eqGuardType O.P.depth t)<;>rw[hb] at hv<;>simp[cg,bad] at hv)
  all_goals simp[cg] at hv
 | _=>
  simp only[aM,ho] at hv
  (repeat' split at hv)
  all_goals first
   | contradiction
   | (simp[cg,bad] at hv;done)
end
end
end
section
open Go
section
variable {hp an:Hp}{cs vs dM:List AV}
def rN{id i:Nat}{o:Obj}:ai (aV hp id o) i=if id=i then (if (ai hp id).isSome then D5 o else D6) else ai hp i:=by
 induction hp with
 | nil=>simp[aV,ai]
 | cons x r ih=>
  have⟨j,q⟩:=x;simp only[aV];by_cases hj:j=id
  .subst hj;simp only[wC,yr,ai];by_cases hi:j=i
   .simp_all
   .have:yo j i=ycH:=by
     cases hq:yo j i with
     | false=>rfl
     | true=>exact absurd (yf hq) hi
    grind
  .have hb:yo j id=ycH:=by
    cases hq:yo j id with
    | false=>rfl
    | true=>exact absurd (yf hq) hj
   simp only[hb,yJ];rw[show ai ((j,q)::aV r id o) i=bif yo j i then D5 q else ai (aV r id o) i from rfl,ih];by_cases hi:j=i
   .subst hi
    have:¬id=j:=fun h=>hj h.symm
    simp[wC,this,ai]
   .have rm:yo j i=ycH:=by
     cases hq:yo j i with
     | false=>rfl
     | true=>exact absurd (yf hq) hi
    simp[rm,ai,hb]
def jZ(hp an:Hp):Prop:=∀id,(ai an id).isSome=(ai hp id).isSome
def jZ.refl:jZ hp hp:=fun _=>rfl
def jZ.trans{a b c:Hp}(h:jZ a b)(k:jZ b c):jZ a c:=fun id=>(k id).trans (h id)
def QU{id:Nat}{o o':Obj}(h:ai hp id=D5 o)(hl:iI o o'):cz hp (aV hp id o')/\jZ hp (aV hp id o'):=by
 constructor
 .intro i q hq;rw[rN];by_cases hi:id=i
  .grind
  .exact ⟨q,by simp[hi,hq],iI.refl q⟩
 .intro i;rw[rN]
  grind
def XJ{H:Hp}{id:Nat}{pu ex:Bool}{sz:Nat}(hl:cz hp H)(h:ai hp id=D5 (.cells ycH pu ex sz cs)):ai H id=D5 (.cells ycH pu ex sz cs):=by
 obtain⟨o',h1,cm,rfl,h2⟩:=hl id _ h
 cases cm with
 | false=>exact h1
 | true=>exact absurd (h2 rfl) (by simp)
section
variable {O:bk}
def asY(O:bk)(m:Mp)(S:Nat->Prop)(w:yi)(p:Pl)(ex:Bool)(sz:Nat)(cs:List AV):Prop:=
 p.z=sz/\cs.length<=p.e/\(ex=ycG->cs.length=p.e)/\S p.b/\aD cs=ycG/\bL O.ab m S w cs p.b p.o
def SJ(O:bk)(an:Hp)(v v':AV):Prop:=∀H m S w ct,cz an H->aP O m S w H ct->(∀u,ae O.ab m S w v u->ae O.ab m S w v' u)/\aS v'=ycG
def acE(O:bk)(an:Hp)(vs dM:List AV):Prop:=∀H m S w ct,cz an H->aP O m S w H ct->(∀us,ax O.ab m S w vs us->ax O.ab m S w dM us)/\aD dM=ycG
def auO(O:bk)(an:Hp)(id:Nat)(ex:Bool)(sz:Nat)(cs:List AV):Prop:=∀H m S w ct,cz an H->aP O m S w H ct->∀p,m id=D5 p->asY O m S w p ex sz cs
def Eh{ab:Nat->Nat}{m:Mp}{S:Nat->Prop}{w:yi}{b:Nat}:∀(cs:List AV) (us:List yg) (o:Nat),ax ab m S w cs us->
  (∀(j:Nat) (u:yg),us[j]? =D5 u->w.cell? ⟨b,o+j,D6⟩=D5 u)->bL ab m S w cs b o
 | [],us,o,_,_=>by simp only[bL]
 | c::cs,us,o,h,hu=>by
  obtain⟨u,r,rfl,h2,h3⟩:=h;refine⟨⟨u,by simpa using hu 0 u (by simp),h2⟩,Eh cs r (o+1) h3 (fun j v hv=>?_)⟩;rw[show o+1+j=o+(j+1) by lia]
  simp_all
def asZ{m:Mp}{S:Nat->Prop}{w:yi}{cW:List AV}(h:∀us,ax O.ab m S w cs us->ax O.ab m S w cW us){b o:Nat}(hr:bL O.ab m S w cs b o):bL O.ab m S w cW b o:=by
 have⟨us,h1,_,h3⟩:=rK cs b o hr;exact Eh cW us o (h us h1) h3
def AO:∀(k:Nat) {cs:List AV},aD cs=ycG->aD (cs.take k)=ycG
 | 0,_,_=>by simp[aD]
 | k+1,[],_=>by simp[aD]
 | k+1,c::cs,h=>by
  simp only[aD,ye,wq] at h ⊢;exact⟨h.1,AO k h.2⟩
def aki:∀{n:Nat} {hp:Hp},cf n hp vs=D5 (dM,an)->dM.length=vs.length:=by
 intro n
 induction n generalizing vs dM an with
 | zero=>intro hp h;simp[cf] at h
 | succ n ih=>
  intro hp h
  cases vs with
  | nil=>simp only[cf,yb,yj] at h;rw[<-h.1]
  | cons v r=>
   simp only[cf] at h
   cases h1:freeze n hp v with
   | none=>simp[h1] at h
   | some q=>
    have⟨v',aX⟩:=q;simp only[h1] at h
    cases h2:cf n aX r with
    | none=>simp[h2] at h
    | some q2=>
     grind
def W1:∀n:Nat,
  (∀hp v v' an,freeze n hp v=D5 (v',an)->cz hp an/\jZ hp an/\SJ O an v v')/\
  (∀hp id ex sz cs an,qF n hp id=D5 (ex,sz,cs,an)->cz hp an/\jZ hp an/\auO O an id ex sz cs)/\
  (∀hp vs dM an,cf n hp vs=D5 (dM,an)->cz hp an/\jZ hp an/\acE O an vs dM):=by
 intro n
 induction n with
 | zero=>refine⟨?_,?_,?_⟩<;>intros<;>simp_all[freeze,qF,cf]
 | succ n ih=>
  have⟨ihV,ihB,Fw⟩:=ih;refine⟨?_,?_,?_⟩
  .intro hp v v' an h;have plain:∀{v v':AV} {hp an:Hp},(bif aS v then D5 (v,hp) else D6)=D5 (v',an)->cz hp an/\jZ hp an/\SJ O an v v':=by
    intro v v' hp an h
    cases hc:aS v with
    | false=>rw[hc] at h;cases h
    | true=>
     rw[hc] at h;simp only[yr,yb,yj] at h;obtain⟨rfl,rfl⟩:=h;exact⟨cz.refl,jZ.refl,fun _ _ _ _ _ _ _=>⟨fun _ h=>h,hc⟩⟩
   cases v<;>simp only[freeze] at h<;>first | exact plain h | skip
   case av id o k=>
    cases hb:qF n hp id with
    | none=>simp[hb] at h
    | some q=>
     have⟨ex,sz,cs,aX⟩:=q;simp only[hb] at h
     cases hc:yz (o+k*sz) cs.length with
     | false=>rw[hc] at h;cases h
     | true=>
      rw[hc] at h;simp only[yr,yb,yj] at h;obtain⟨rfl,rfl⟩:=h;have hle:=yv hc;have⟨h1,h2,h3⟩:=ihB _ _ _ _ _ _ hb;refine⟨h1,h2,fun H m S w ct hl hh=>⟨fun u hu=>?_,by simp only[aS]⟩⟩;simp only[ae] at hu ⊢;obtain⟨p,c,hm,rfl,Av,Ou⟩:=hu;have⟨g1,g2,g3,g4,g5,g6⟩:=h3 H m S w ct hl hh p hm;refine .inl ⟨p.b,p.o+o,c,rfl,Av,?_,.inr g4,AO _ (zt _ _ g5),zq _ _ _ _ (qD _ _ _ _ g6)⟩;intro hx;simp only[ye] at hx;have e1:=yf hx.2;have e2:0<sz:=by
       simp_all
      have e3:=g3 hx.1.1;rw[g1] at Ou
      have:c*sz=k*sz:=by lia
      exact Nat.eq_of_mul_eq_mul_right e2 this
   case ptr id o=>
    cases hb:qF n hp id with
    | none=>simp[hb] at h
    | some q=>
     have⟨ex,sz,cs,aX⟩:=q;simp only[hb,yb,yj] at h;obtain⟨rfl,rfl⟩:=h;have⟨h1,h2,h3⟩:=ihB _ _ _ _ _ _ hb;refine⟨h1,h2,fun H m S w ct hl hh=>⟨fun u hu=>?_,by simp only[aS]⟩⟩;simp only[ae] at hu ⊢;obtain⟨p,hm,rfl⟩:=hu;have⟨g1,g2,g3,g4,g5,g6⟩:=h3 H m S w ct hl hh p hm;exact⟨p.b,p.o+o,rfl,.inr g4,zt _ _ g5,qD _ _ _ _ g6⟩
   case map id=>
    cases hg:ai hp id with
    | none=>simp[hg] at h
    | some ob=>
     cases ob<;>simp only[hg,reduceCtorEq] at h
     rename_i rw ks vs
     cases hc:(aD ks&&aD vs) with
     | false=>rw[hc] at h;cases h
     | true=>
      rw[hc] at h;simp only[yr,yb,yj] at h;obtain⟨rfl,rfl⟩:=h;simp only[ye] at hc;have⟨h1,h2⟩:=QU hg (o':=.mp ycH ks vs) ⟨ycH,rfl,by simp⟩;refine⟨h1,h2,fun H m S w ct hl hh=>⟨fun u hu=>?_,by simp only[aS]⟩⟩;simp only[ae] at hu ⊢;obtain⟨p,hm,rfl⟩:=hu;have hq:ai (aV hp id (.mp ycH ks vs)) id=D5 (.mp ycH ks vs):=by rw[rN];simp[hg]
      obtain⟨o',h3,cm,rfl,h4⟩:=hl id _ hq;have oz:cm=ycH:=by cases cm with | false=>rfl | true=>exact absurd (h4 rfl) (by simp)
      subst oz;have⟨p',es,clock,g1,g2,g3,g4,g5,g6⟩:=hh.obj id _ _ h3 hm;rw[hm] at g1;injection g1 with g1
      subst g1;exact⟨p.b,es,clock,rfl,g6 rfl,hc.1,hc.2,g2,g3,g4⟩
   case fn f first cap=>
    cases f with
    | y l=>simp only[aS,yJ,reduceCtorEq] at h
    | f g=>
     simp only at h
     cases h1:cf n hp first with
     | none=>simp[h1] at h
     | some q=>
      have⟨aaB,aX⟩:=q;simp only[h1] at h
      cases h2:cf n aX cap with
      | none=>simp[h2] at h
      | some q2=>
       have⟨M6,ic⟩:=q2;simp only[h2,yb,yj] at h;obtain⟨rfl,rfl⟩:=h;have⟨a1,a2,a3⟩:=Fw _ _ _ _ h1;have⟨b1,b2,b3⟩:=Fw _ _ _ _ h2;refine⟨a1.trans b1,a2.trans b2,fun H m S w ct hl hh=>?_⟩;have⟨c1,c2⟩:=a3 H m S w ct (b1.trans hl) hh;have⟨d1,d2⟩:=b3 H m S w ct hl hh;refine⟨fun u hu=>?_,by simp[aS,c2,d2]⟩;simp only[ae] at hu ⊢;obtain⟨fi,ca,rfl,e1,e2⟩:=hu;exact⟨fi,ca,rfl,c1 _ e1,d1 _ e2⟩
   case agg cs=>
    cases h1:cf n hp cs with
    | none=>simp[h1] at h
    | some q=>
     have⟨cW,aX⟩:=q;simp only[h1,yb,yj] at h;obtain⟨rfl,rfl⟩:=h;have⟨a1,a2,a3⟩:=Fw _ _ _ _ h1;refine⟨a1,a2,fun H m S w ct hl hh=>?_⟩;have⟨c1,c2⟩:=a3 H m S w ct hl hh;refine⟨fun u hu=>?_,by simpa[aS] using c2⟩;simp only[ae] at hu ⊢;obtain⟨xs,rfl,e1⟩:=hu;exact⟨xs,rfl,c1 _ e1⟩
   case ay cs=>
    cases h1:cf n hp cs with
    | none=>simp[h1] at h
    | some q=>
     have⟨cW,aX⟩:=q;simp only[h1,yb,yj] at h;obtain⟨rfl,rfl⟩:=h;have⟨a1,a2,a3⟩:=Fw _ _ _ _ h1;refine⟨a1,a2,fun H m S w ct hl hh=>?_⟩;have⟨c1,c2⟩:=a3 H m S w ct hl hh;refine⟨fun u hu=>?_,by simpa[aS] using c2⟩;simp only[ae] at hu ⊢;obtain⟨xs,rfl,e1⟩:=hu;exact⟨xs,rfl,c1 _ e1⟩
  .intro hp id ex sz cW an h;simp only[qF] at h
   cases hg:ai hp id with
   | none=>simp[hg] at h
   | some ob=>
    cases ob<;>simp only[hg,reduceCtorEq] at h
    rename_i rw pu sT BZ cs
    cases pu with
    | true=>
     simp only[yr,yb,yj] at h;obtain⟨rfl,rfl,rfl,rfl⟩:=h;have hq:cz hp (bif rw then aV hp id (.cells ycH ycG sT BZ cs) else hp)/\jZ hp (bif rw then aV hp id (.cells ycH ycG sT BZ cs) else hp)/\ai (bif rw then aV hp id (.cells ycH ycG sT BZ cs) else hp) id=D5 (.cells ycH ycG sT BZ cs):=by
      cases rw with
      | true=>
       have⟨h1,h2⟩:=QU hg (o':=.cells ycH ycG sT BZ cs) ⟨ycH,rfl,by simp⟩;exact⟨h1,h2,by simp[rN,hg]⟩
      | false=>exact⟨cz.refl,jZ.refl,hg⟩
     refine⟨hq.1,hq.2.1,fun H m S w ct hl hh p hm=>?_⟩;have⟨p',arr,t,g1,g2,g3,g4,g5,g6,g7,g8,g9,g10⟩:=hh.obj id _ _ (XJ hl hq.2.2) hm;rw[hm] at g1;injection g1 with g1
     subst g1;exact⟨g3,g4,g6,g10 rfl,g8 rfl,g7⟩
    | false=>
     simp only[yJ] at h
     cases h1:cf n hp cs with
     | none=>simp[h1] at h
     | some q=>
      have⟨sY,aX⟩:=q;simp only[h1,yb,yj] at h;obtain⟨rfl,rfl,rfl,rfl⟩:=h;have⟨a1,a2,a3⟩:=Fw _ _ _ _ h1;obtain⟨o1,p9,rw1,rfl,_⟩:=a1 id _ hg;have⟨b1,b2⟩:=QU p9 (o':=.cells ycH ycH sT BZ cs) ⟨ycH,rfl,by simp⟩;refine⟨a1.trans b1,a2.trans b2,fun H m S w ct hl hh p hm=>?_⟩;have hq:ai (aV aX id (.cells ycH ycH sT BZ cs)) id=D5 (.cells ycH ycH sT BZ cs):=by simp[rN,p9]
      have⟨p',arr,t,g1,g2,g3,g4,g5,g6,g7,g8,g9,g10⟩:=hh.obj id _ _ (XJ hl hq) hm;rw[hm] at g1;injection g1 with g1
      subst g1;have⟨c1,c2⟩:=a3 H m S w ct (b1.trans hl) hh;have hlen:=aki h1
      exact⟨g3,by lia,fun hx=>by have:=g6 hx;lia,g10 rfl,c2,asZ c1 g7⟩
  .intro hp vs dM an h
   cases vs with
   | nil=>
    simp only[cf,yb,yj] at h;obtain⟨rfl,rfl⟩:=h;exact⟨cz.refl,jZ.refl,fun _ _ _ _ _ _ _=>⟨fun _ h=>h,rfl⟩⟩
   | cons v r=>
    simp only[cf] at h
    cases h1:freeze n hp v with
    | none=>simp[h1] at h
    | some q=>
     have⟨v1,aX⟩:=q;simp only[h1] at h
     cases h2:cf n aX r with
     | none=>simp[h2] at h
     | some q2=>
      have⟨r1,ic⟩:=q2;simp only[h2,yb,yj] at h;obtain⟨rfl,rfl⟩:=h;have⟨a1,a2,a3⟩:=ihV _ _ _ _ h1;have⟨b1,b2,b3⟩:=Fw _ _ _ _ h2;refine⟨a1.trans b1,a2.trans b2,fun H m S w ct hl hh=>?_⟩;have⟨c1,c2⟩:=a3 H m S w ct (b1.trans hl) hh;have⟨d1,d2⟩:=b3 H m S w ct hl hh;refine⟨fun us hu=>?_,by simp[aD,c2,d2]⟩;simp only[ax] at hu ⊢;obtain⟨u,t,rfl,e1,e2⟩:=hu;exact⟨u,t,rfl,c1 _ e1,d1 _ e2⟩
def PC{n:Nat}(h:cf n hp vs=D5 (dM,an)):cz hp an/\jZ hp an/\acE O an vs dM:=(W1 n).2.2 _ _ _ _ h
def PY{n:Nat}{v v':AV}(h:freeze n hp v=D5 (v',an)):cz hp an/\jZ hp an/\SJ O an v v':=(W1 n).1 _ _ _ _ h
end
end
end
section
open Go
section
variable {v:AV}{an:Hp}{cs new:List AV}{aK o:Nat}
section
variable {O:bk}{H:Hint}{m:Mp}{S:Nat->Prop}{w:yi}{tm:Env}{a:Act}{hp:Hp}{ct:Nat}
structure One(w w':yi)(g:Nat):Prop where
 os:w'.os=w.os
 tape:w'.tape=w.tape
 output:w'.output=w.output
 size:w'.heap.size=w.heap.size
 other:∀b,b≠g->w'.heap[b]? =w.heap[b]?
def PD(w:yi)(g:Nat)(cs:Array yg):One w (w.setRow g cs) g:=
 ⟨rfl,rfl,rfl,by simp,fun b hb=>setRow_other w g b cs hb⟩
def HK{id:Nat}{o:Obj}{p:Pl}(h:ai hp id=D5 o)(hm:m id=D5 p):dI m hp p.b:=⟨id,o,p,h,hm,rfl⟩
def akj{id:Nat}{o':Obj}{b:Nat}(h:dI m (aV hp id o') b):dI m hp b:=by
 have⟨i,o,p,h1,h2,h3⟩:=h;rw[rN] at h1;by_cases hi:id=i
 .subst hi
  cases hq:ai hp id with
  | none=>simp[hq] at h1
  | some q=>exact⟨id,q,p,hq,h2,h3⟩
 .simp only [hi,xq] at h1;exact⟨i,o,p,h1,h2,h3⟩
def Hm(hh:aP O m S w hp ct){id:Nat}{o o':Obj}{p:Pl}{w':yi}(ho:ai hp id=D5 o)(hm:m id=D5 p)(hn:¬S p.b)(hw:One w w' p.b)(h':eH O m S w' id o')(hk:∀r:uE,w.heap[p.b]? =D5 (.loop r)->∃r':uE,w'.heap[p.b]? =D5 (.loop r')):
  aP O m S w' (aV hp id o') ct/\bR m S w hp m S w' (aV hp id o') ct:=by
 have aQ:fg S w w':=fun b hb=>hw.other b (fun e=>hn (e▸hb))
 refine⟨⟨?_,hh.lt,?_,?_,?_,hh.low,?_,?_,fun i q hq=>(by
  rw[rN] at hq;by_cases hc:id=i
  .subst hc;exact hh.aB _ _ ho
  .simp only [hc,xq] at hq;exact hh.aB _ _ hq)⟩,⟨hw.os,hw.tape,hw.output,by rw[hw.size];exact yq _,?_,fun _ h=>h,fun b hb=>aQ b hb,fun b hb=>.inl hb,fun b hb=>.inl (akj hb),fun _ _ _ h=>h,fun b r hb=>?_⟩⟩
 rotate_right
 .by_cases hc:b=p.b
  .subst hc;exact hk r hb
  .exact ⟨r,(hw.other b hc).trans hb⟩
 .intro i q pi hi bB;rw[rN] at hi;by_cases hc:id=i
  .subst hc;simp only[xN,ho,Option.isSome_some] at hi;injection hi with hi
   subst hi;exact h'
  .simp only [hc,xq] at hi;refine rM (fun _ _ h=>h) (fun _ h=>h) aQ (fun q' bE=>?_) (fun _ _ h=>h) (hh.obj i q pi hi bB);exact hw.other _ (fun e=>hc (hh.inj i id q o q' p hi ho bE hm e).symm)
 .intro i j oi oj pi pj hi hj bB fI e;have key:∀{i:Nat} {oi:Obj},ai (aV hp id o') i=D5 oi->∃JV,ai hp i=D5 JV:=by
   intro i oi hi;rw[rN] at hi;by_cases hc:id=i
   .subst hc;exact⟨o,ho⟩
   .simp only [hc,xq] at hi;exact⟨oi,hi⟩
  have⟨JV,cX⟩:=key hi;have⟨JU,Ut⟩:=key hj;exact hh.inj i j JV JU pi pj cX Ut bB fI e
 .intro b hb;rw[hw.size];exact hh.slt b hb
 .intro i q hq;rw[hw.size];exact hh.blt i q hq
 .intro b hb
  rw[hw.other b (fun e=>by have:=hh.low id p hm;lia)]
  exact hh.lB b hb
 .rw [hw.size];exact hh.fk
 .intro b _ hb;exact hw.other b (fun e=>hb (e▸HK ho hm))
def zT(O:bk)(m:Mp)(S:Nat->Prop)(w:yi)(a:Act)(hp:Hp)(ct:Nat)(o:yP)(v:AV)(an:Hp)(aK:Nat):Prop:=
 ∃n u w' m' S',(execOp a.eval o).run O.P w=.ok n w'/\(n=.value u\/(n=.skip/\u=undef))/\aP O m' S' w' an aK/\ae O.ab m' S' w' v u/\cL m m'/\bR m S w hp m' S' w' an ct
def akk{ab:Nat->Nat}{u:yg}(h:ae ab m S w v u)(ho:dD v=ycG):u.oneCell'=ycG:=by
 cases v with
 | fn f a b=>
  cases f with
  | f g=>simp only[ae] at h;obtain⟨_,_,rfl,_⟩:=h;rfl
  | y l=>simp only[ae] at h;obtain⟨_,_,rfl⟩:=h;rfl
 | int k n=>simp only[ae] at h;subst h;rfl
 | bool b=>simp only[ae] at h;subst h;rfl
 | au k n=>simp only[ae] at h;subst h;rfl
 | cK k n i=>simp only[ae] at h;subst h;rfl
 | str s=>simp only[ae] at h;obtain⟨_,rfl,_⟩:=h;rfl
 | jq=>simp only[ae] at h;subst h;rfl
 | ptr i k=>simp only[ae] at h;obtain⟨_,_,rfl⟩:=h;rfl
 | bJ cs=>simp only[ae] at h;obtain⟨_,_,rfl,_⟩:=h;rfl
 | ah=>simp only[ae] at h;subst h;rfl
 | aq e n cs=>simp only[ae] at h;rcases h with ⟨_,_,_,rfl,_⟩ | ⟨_,rfl,_,_⟩<;>rfl
 | cu _ _ _ _=>simp[dD] at ho
 | av i k n=>simp only[ae] at h;obtain⟨_,_,_,rfl,_⟩:=h;rfl
 | fR=>simp only[ae] at h;subst h;rfl
 | iw=>simp only[ae] at h;subst h;rfl
 | map i=>simp only[ae] at h;obtain⟨_,_,rfl⟩:=h;rfl
 | iz ks vs=>simp only[ae] at h;obtain⟨_,_,_,rfl,_⟩:=h;rfl
 | it i=>simp only[ae] at h;obtain⟨_,_,rfl⟩:=h;rfl
 | agg cs=>simp[dD] at ho
 | ay cs=>simp[dD] at ho
 | undef=>simp[dD] at ho
def Lc{ab:Nat->Nat}:∀{vs:List AV} {us:List yg},ax ab m S w vs us->b5 vs=ycG->∀u∈us,u.oneCell'=ycG
 | [],us,h,_,u,hu=>by simp only[ax] at h;subst h;cases hu
 | v::r,us,h,ho,u,hu=>by
  obtain⟨u',t,rfl,h1,h2⟩:=h;simp only[b5,ye] at ho;rcases List.mem_cons.1 hu with rfl | hu
  .exact akk h1 ho.1
  .exact Lc h2 ho.2 u hu
def Yy{arr:Array yg}{t:yu}{p:Pl}{vs:List yg}{S':Nat->Prop}{m':Mp}(hb:w.heap[p.b]? =D5 (.cells arr t (0,0)))(hr:bL O.ab m S w cs p.b p.o)(hv:ax O.ab m S w new vs)(hl:o+new.length<=cs.length)(hs:p.o+cs.length<=arr.size){w':yi}(hm:cL m m')(hS:∀b,S b->S' b)(aQ:fg S w w')(hw:w'.heap[p.b]? =D5 (.cells (arr.toList.take (p.o+o)++vs++arr.toList.drop (p.o+o+vs.length)).toArray t (0,0))):bL O.ab m' S' w' (over o new cs) p.b p.o:=by
 have⟨us,h1,h2,h3⟩:=rK cs p.b p.o hr;have hvl:=fP _ _ hv;have h4:ax O.ab m S w (over o new cs) (us.take o++vs++us.drop (o+new.length)):=kX (kX (Ec o h1) hv) (He _ h1);refine Eh _ _ _ (gA hm hS aQ _ _ h4) (fun j u hj=>?_);have C9:∀k u,us[k]? =D5 u->arr[p.o+k]? =D5 u:=by
  intro k u hk
  have:=h3 k u hk
  simpa[World.cell?,hb] using this
 simp only[World.cell?,hw,tu,yA,xq];rw[yaz];have e1:(arr.toList.take (p.o+o)).length=p.o+o:=by rw[yT,wY];lia
 have e2:(us.take o).length=o:=by rw[yT];lia
 by_cases c1:j<o
 .have g1:(us.take o++vs++us.drop (o+new.length))[j]? =us[j]? :=by
   rw[xr,wo (by lia),uK c1]
  rw[g1] at hj;rw[xr,wo (by lia),uK (by lia)];simpa using C9 j u hj
 .by_cases c2:j<o+vs.length
  .have g1:(us.take o++vs++us.drop (o+new.length))[j]? =vs[j-o]? :=by
    rw[xr,wb (by lia),e2,wo (by lia)]
   rw[g1] at hj;rw[xr,wb (by lia),e1,wo (by lia),show p.o+j-(p.o+o)=j-o by lia];exact hj
  .have g1:(us.take o++vs++us.drop (o+new.length))[j]? =us[j]? :=by
    rw[xr,wb (by lia),e2,wb (by lia),yaT]
    congr 1
    lia
   rw[g1] at hj;rw[xr,wb (by lia),e1,wb (by lia),yaT,show p.o+o+vs.length+(p.o+j-(p.o+o)-vs.length)=p.o+j by lia];simpa using C9 j u hj
def Ls(hl:o+new.length<=cs.length):(over o new cs).length=cs.length:=by
 simp only[over,yC,yT,wH];lia
def W2(h:aD cs=ycG)(h':aD new=ycG):aD (over o new cs)=ycG:=
 Cv (Cv (AO _ h) h') (zt _ _ h)
def amx{o:yP}{t:yu}{x y:xm}{sz:Nat}(hH:eF O H)(ht:bN O m S w tm a.tmps)(hh:aP O m S w hp ct)(ho:o.op=.store t x y)(hz:bU O.P t=D5 sz)(hv:bV tm hp ct (.st sz (aI H x) (aI H y))=D5 (v,an,aK)):zT O m S w a hp ct o v an aK:=by
 simp only[bV] at hv;have rx:=bO hH ht x;cases hx:aw tm (aI H x)<;>rw[hx] at hv rx<;>simp only[reduceCtorEq] at hv
 rename_i id k;simp only[ae] at rx;have⟨p,hm,ex⟩:=rx
 split at hv
 case h_2=>cases hv
 rename_i pu Ox z cs hg
 cases hc:(yo (cellsOf (aw tm (aI H y))).length sz&&yz (k+sz) cs.length&&b5 (cellsOf (aw tm (aI H y)))) with
 | false=>rw[hc] at hv;cases hv
 | true=>
  rw[hc] at hv;simp only[yr,yb,yj] at hv;obtain⟨rfl,rfl,rfl⟩:=hv;simp only[ye] at hc;have c1:=yf hc.1.1;have c2:=yv hc.1.2;have ry:=PV (bO hH ht y) hc.2;have hl:=fP _ _ ry;have⟨p',arr,t',g1,g2,g3,g4,g5,g6,g7,g8,g9,g10⟩:=hh.obj id _ _ hg hm;rw[hm] at g1;injection g1 with g1
  subst g1;have fE:=Lc ry hc.2;have du:=run_storeCells_at O.P p.b (p.o+k) t' (a.eval y).cells.toList 0 arr w g2 (by rw[hl];lia) fE
  simp only[yS] at du;have as0:(a.eval y).cells.size=sz:=by simp_all
  have oA:eH O m S (w.setRow p.b (arr.toList.take (p.o+k)++(a.eval y).cells.toList++arr.toList.drop (p.o+k+(a.eval y).cells.toList.length)).toArray) id
    (.cells ycG (pu&&aD (cellsOf (aw tm (aI H y)))) Ox z (over k (cellsOf (aw tm (aI H y))) cs)):=by
   refine⟨p,_,t',hm,setRow_heap w p.b arr _ t' _ g2,g3,by rw[Ls (by lia)];exact g4,?_,fun h=>by rw[Ls (by lia)];exact g6 h,?_,?_,fun _=>g9 rfl,by simp⟩
   .grind
   .exact Yy g2 g7 ry (by lia) (by lia) cL.refl (fun _ h=>h) (fun b hb=>setRow_other w p.b b _ (fun e=>g9 rfl (e▸hb))) (setRow_heap w p.b arr _ t' _ g2)
   .intro h;simp only[ye] at h;exact W2 (g8 h.1) h.2
  have⟨e1,e2⟩:=Hm hh hg hm (g9 rfl) (PD w p.b _) oA (fun r hr=>by rw[g2] at hr;cases hr);refine⟨.skip,undef,_,m,S,?_,.inr ⟨rfl,rfl⟩,e1,by simp[ae,ax,undef],cL.refl,e2⟩;simp only[execOp,ho,Instr.storeAt,ex,Instr.sureAddr,Sem.run_bind,Sem.run_pure,Result.andThen_ok,storeVar,nG hz,as0,ne_eq,ycC,xq];simp[du]
def D8(w:yi)(g:Nat)(o:tV):One w {w with heap:=w.heap.setIfInBounds g o} g:=
 ⟨rfl,rfl,rfl,by simp,fun b hb=>by simp[Array.getElem?_setIfInBounds_ne (fun e=>hb e.symm)]⟩
def KW{g:Nat}{o q:tV}(h:w.heap[g]? =D5 q):({w with heap:=w.heap.setIfInBounds g o}:yi).heap[g]? =D5 o:=by grind
def Yz{o:yP}{t kt e:yu}{x k y:xm}{kk:Nat}(hH:eF O H)(ht:bN O m S w tm a.tmps)(hh:aP O m S w hp ct)(ho:o.op=.mapUpdate t x k y\/o.op=.insert t x k y)(hu:O.P.underlying t=D5 (.map kt e))(rb:VE.keyOf O.P kt=D5 kk)(hv:bV tm hp ct (.pW kk (aI H x) (aI H k) (aI H y))=D5 (v,an,aK)):zT O m S w a hp ct o v an aK:=by
 simp only[bV] at hv;have rx:=bO hH ht x;cases hx:aw tm (aI H x)<;>rw[hx] at hv rx<;>simp only[reduceCtorEq] at hv
 rename_i id;simp only[ae] at rx;obtain⟨p,hm,ex⟩:=rx
 split at hv
 case h_2=>cases hv
 rename_i ks vs hg
 cases hc:nM kk (aw tm (aI H k)) with
 | false=>simp[hc] at hv
 | true=>
  simp only[hc,Bool.not_true,yJ] at hv
  cases aX:Aa (aw tm (aI H k)) (aw tm (aI H y)) ks vs with
  | none=>simp[aX] at hv
  | some q=>
   obtain⟨ky,dM⟩:=q;simp only[aX,yb,yj] at hv;obtain⟨rfl,rfl,rfl⟩:=hv;obtain⟨E,hE,hF⟩:=WZ (P:=O.P) rb hc (bO hH ht k);obtain⟨p',es,clock,g1,g2,g3,g4,g5,g6⟩:=hh.obj id _ _ hg hm;rw[hm] at g1;injection g1 with g1
   subst g1;have auP:=ZF hE (bO hH ht k) (bO hH ht y) ks vs es.toList 0 ky dM g3 g4 aX
   have fin:∀(DH:Array wL) (c':Nat),(Instr.mapUpdate t (a.eval x) (a.eval k) (a.eval y)).run O.P w=.ok () {w with heap:=w.heap.setIfInBounds p.b (.map DH c')}->
     ax O.ab m S w ky (DH.toList.map (·.key))->ax O.ab m S w dM (DH.toList.map (·.val))->zT O m S w a hp ct o (.ay []) (aV hp id (.mp ycG ky dM)) ct:=by
    intro DH c' du h1 h2
    have aQ:fg S w {w with heap:=w.heap.setIfInBounds p.b (.map DH c')}:=fun b hb=>(D8 w p.b _).other b (fun e=>g5 rfl (e▸hb))
    have oA:eH O m S {w with heap:=w.heap.setIfInBounds p.b (.map DH c')} id (.mp ycG ky dM):=
     ⟨p,DH,c',hm,KW g2,gA (fun _ _ h=>h) (fun _ h=>h) aQ _ _ h1,gA (fun _ _ h=>h) (fun _ h=>h) aQ _ _ h2,fun _=>g5 rfl,by simp⟩
    obtain⟨e1,e2⟩:=Hm hh hg hm (g5 rfl) (D8 w p.b _) oA (fun r hr=>by rw[g2] at hr;cases hr);refine⟨.skip,undef,_,m,S,?_,.inr ⟨rfl,rfl⟩,e1,by simp[ae,ax,undef],cL.refl,e2⟩;rcases ho with ho | ho<;>simp[execOp,ho,du]
   have ei:=Wu (P:=O.P) (w:=w) rb hc (bO hH ht k) ycH;rcases auP with ⟨h1,h2,h3⟩ | ⟨j,e0,vc,vk0,h1,h2,⟨q1,q2,h3⟩,h4,h5⟩
   .refine fin (es.push ⟨a.eval k,a.eval y,clock⟩) (clock+1) ?_ (by simpa using h2) (by simpa using h3);rw[ex];simp[Instr.mapUpdate,run_underlying hu,MapKept.run_getObj_map g2,ei,hF _ _ h1,MapKept.run_setObj_map _ g2]
   .have hj:es[j]? =D5 e0:=by simpa using h2
    simp only[yd] at h1;obtain⟨acF,hsb⟩:=ake q1 q2 h3
    refine fin (es.modify j fun e=>{e with key:=a.eval k,val:=a.eval y}) clock ?_ ?_ ?_
    .rw [ex];simp[Instr.mapUpdate,run_underlying hu,MapKept.run_getObj_map g2,ei,hF _ _ h1,MapKept.run_setObj_map _ g2,hj,Instr.keyThatStays,hsb,acF.symm]
    .have:(es.modify j fun e=>{e with key:=a.eval k,val:=a.eval y}).toList.map (·.key)=es.toList.map (·.key):=by
      apply yaV;intro n;simp only[uF,uW,yau];by_cases hn:j=n
      .subst hn;simp[hj,acF]
      .simp [hn]
     rw[this];exact h4
    .have:(es.modify j fun e=>{e with key:=a.eval k,val:=a.eval y}).toList.map (·.val)=(es.toList.map (·.val)).set j (a.eval y):=by
      apply yaV;intro n;simp only[uF,uW,yau,List.getElem?_set];by_cases hn:j=n
      .subst hn
       have:=(xo.1 hj).1
       simp[this]
      .simp [hn]
     rw[this];exact h5
def amy(t:ByteArray)(i:Nat):(t.get! i).toNat=(t.data.toList.map xe).getD i 0:=by
 have:t.get! i=t.data[i]! :=by cases t;rfl
 rw[this];by_cases h:i<t.data.size
 .grind
 .simp only [Array.getElem!_eq_getD,Array.getD_eq_getD_getElem?,List.getD_eq_getElem?_getD,uF,uW];rw[Array.getElem?_eq_none (by lia)];rfl
def aix(t:ByteArray)(i:Nat):decodeL (t.data.toList.map xe) i=Utf8.decode t i:=by
 have dR:(t.data.toList.map xe).length=t.size:=by simp
 simp only[decodeL,Utf8.decode,amy,dR]
def akl{o:yP}{x:xm}(hH:eF O H)(ht:bN O m S w tm a.tmps)(hh:aP O m S w hp ct)(ho:o.op=.next x ycG)(hv:bV tm hp ct (.pY (aI H x))=D5 (v,an,aK)):zT O m S w a hp ct o v an aK:=by
 simp only[bV] at hv;have rx:=bO hH ht x;cases hx:aw tm (aI H x)<;>rw[hx] at hv rx<;>simp only[reduceCtorEq] at hv
 rename_i id;simp only[ae] at rx;have⟨p,hm,ex⟩:=rx
 split at hv
 case h_2=>cases hv
 rename_i s pos hg;have⟨p',t,g1,g2,g3,g4⟩:=hh.obj id _ _ hg hm;rw[hm] at g1;injection g1 with g1
 subst g1;have ai:(getObj p.b).run O.P w=.ok (.stringIter t pos) w:=by simp[getObj,Sem.run,g2]
 have hlen:s.length=t.size:=by rw[<-g3];simp
 cases hc:yF pos s.length with
 | false=>
  rw[hc] at hv;simp only[yJ,yb,yj] at hv;obtain⟨rfl,rfl,rfl⟩:=hv;have aB:¬pos<t.size:=by
   intro h
   have:yF pos s.length=ycG:=by simp[yF];lia
   grind
  refine⟨.value (.tuple #[.bool ycH]),.tuple #[.bool ycH],w,m,S,?_,.inl rfl,hh,by simp[ae,ax],cL.refl,bR.refl⟩;simp[execOp,ho,ex,Instr.next,ai,aB]
 | true=>
  rw[hc] at hv;simp only[yr] at hv;have aB:pos<t.size:=by
   simp_all
  cases hdc:decodeL s pos with | mk c wd=>
  rw[hdc] at hv;simp only[yb,yj] at hv;obtain⟨rfl,rfl,rfl⟩:=hv;have hd:Utf8.decode t pos=(c,wd):=by rw[<-aix,g3,hdc]
  have oA:eH O m S {w with heap:=w.heap.setIfInBounds p.b (.stringIter t (pos+wd))} id (.si s (pos+wd)):=⟨p,t,hm,KW g2,g3,g4⟩;have⟨e1,e2⟩:=Hm hh hg hm g4 (D8 w p.b _) oA (fun r hr=>by rw[g2] at hr;cases hr);refine⟨.value (.tuple #[.bool ycG,goInt pos,.int .i32 c]),_,_,m,S,?_,.inl rfl,e1,by simp[ae,ax,goInt],cL.refl,e2⟩
  have aV:(setObj p.b (.stringIter t (pos+wd))).run O.P w=.ok () {w with heap:=w.heap.setIfInBounds p.b (.stringIter t (pos+wd))}:=by simp[setObj,Sem.run,g2]
  simp[execOp,ho,ex,Instr.next,ai,aB,hd,aV]
end
end
end
section
open Go
section
variable {cs:List AV}{n size:Nat}{P:xi}{x:yg}
def Hf{hp:Hp}{id i:Nat}:ai (cl hp id) i=if id=i then D6 else ai hp i:=by
 induction hp with
 | nil=>simp[cl,ai]
 | cons x r ih=>
  have⟨j,q⟩:=x;simp only[cl];by_cases hj:j=id
  .subst hj;simp only[wC,yr,ih,ai];by_cases hi:j=i
   .grind
   .have:yo j i=ycH:=by
     cases hq:yo j i with
     | false=>rfl
     | true=>exact absurd (yf hq) hi
    grind
  .have hb:yo j id=ycH:=by
    cases hq:yo j id with
    | false=>rfl
    | true=>exact absurd (yf hq) hj
   simp only[hb,yJ];rw[show ai ((j,q)::cl r id) i=bif yo j i then D5 q else ai (cl r id) i from rfl,ih];by_cases hi:j=i
   .subst hi
    have:¬id=j:=fun h=>hj h.symm
    simp[wC,this,ai]
   .have rm:yo j i=ycH:=by
     cases hq:yo j i with
     | false=>rfl
     | true=>exact absurd (yf hq) hi
    simp[rm,ai]
section
variable {O:bk}{H:Hint}{m:Mp}{S:Nat->Prop}{w:yi}{tm:Env}{a:Act}{hp:Hp}{ct:Nat}
def Src(P:xi)(w:yi)(size n:Nat)(news:List yg)(x:yg):Prop:=
 (∀w',(Builtin.lenOf x).run P w'=.ok n w')/\news.length=n*size/\
 ∀w',w'.heap=w.heap->∀k,k<=n->(Builtin.firstCells size k x).run P w'=.ok (news.take (k*size)).toArray w'
def Ed{c:Nat}{b:uh}{news:List yg}(hl:news.length=n*size)(hc:∀j u,news[j]? =D5 u->w.cell? (b.add j)=D5 u):
  Src P w size n news (.slice (D5 b) n c):=by
 refine⟨fun w'=>by simp[Builtin.lenOf],hl,fun w' hw k hk=>?_⟩;have hle:k*size<=news.length:=by rw[hl];exact yL _ hk
 refine run_firstCells_some (P:=P) w' size k b n c (news.take (k*size)) (by rw[yT];lia) (fun j v hv=>?_)
 rw[List.getElem?_take] at hv
 split at hv
 .have:=hc j v hv
  simpa[World.cell?,hw] using this
 .cases hv
def ZJ:Src P w size 0 [] (.slice D6 0 0):=
 ⟨fun w'=>by simp[Builtin.lenOf],by simp,fun w' _ k hk=>by simp[Builtin.firstCells]⟩
def ahD(s:ByteArray)(k:Nat):(s.extract 0 k).data.map (fun b=>Value.int .u8 b.toNat)=((s.data.toList.map fun b=>Value.int .u8 (b.toNat:Int)).take k).toArray:=by
 have:(s.extract 0 k).data=s.data.extract 0 k:=by simp
 grind
def amz{s:ByteArray}:Src P w 1 s.size (s.data.toList.map fun b=>Value.int .u8 (b.toNat:Int)) (.string s):=by
 refine⟨fun w'=>by simp[Builtin.lenOf],by simp,fun w' _ k hk=>?_⟩;simp only[Builtin.firstCells,Sem.run_pure,Nat.mul_one];rw[ahD]
def Wv{ab:Nat->Nat}:∀l:List UInt8,ax ab m S w (LI (l.map xe)) (l.map fun b=>Value.int .u8 (b.toNat:Int))
 | []=>by simp[LI,ax]
 | b::r=>by
  exact⟨_,_,rfl,by simp[ae],Wv r⟩
def W3{vx:AV}(hh:aP O m S w hp ct)(hx:ae O.ab m S w vx x)(h:lZ hp size vx=D5 (n,cs)):
  ∃us,ax O.ab m S w cs us/\Src O.P w size n us x:=by
 cases vx<;>simp only[lZ,reduceCtorEq] at h
 case ah=>
  obtain⟨rfl,rfl⟩:=h;subst hx;exact⟨[],by simp[ax],ZJ⟩
 case aq ex n' cW=>
  cases hc:yo cW.length (n'*size) with
  | false=>rw[hc] at h;cases h
  | true=>
   rw[hc] at h;obtain⟨rfl,rfl⟩:=h;have hl:=yf hc;rcases hx with ⟨b,o,c,rfl,h1,h2,h3,h4,h5⟩ | ⟨ad,rfl,rfl,rfl⟩
   .have ⟨us,g1,g2,g3⟩:=rK _ b o h5;exact⟨us,g1,Ed (by lia) (fun j u hj=>by rw[mS];exact g3 j u hj)⟩
   .exact ⟨[],by simp[ax],Ed (by simp) (fun j u hj=>by simp at hj)⟩
 case av id o n'=>
  cases hg:ai hp id with
  | none=>simp[hg] at h
  | some ob=>
   cases ob<;>simp only[hg,reduceCtorEq] at h
   rename_i rw pu ex z cW
   cases hc:yz (o+n'*size) cW.length with
   | false=>rw[hc] at h;cases h
   | true=>
    rw[hc] at h;simp only[yr,yb,yj] at h;obtain⟨rfl,rfl⟩:=h;have hl:=yv hc;obtain⟨p,c,hm,rfl,h1,h2⟩:=hx;have hr:=Ql (o:=0) (n:=0) hh hg hm;have jP:=zq (n'*size) _ _ _ (qD o _ _ _ hr);have⟨us,g1,g2,g3⟩:=rK _ p.b (p.o+o) jP;refine⟨us,g1,Ed ?_ (fun j u hj=>by rw[mS];exact g3 j u hj)⟩
    grind
def XK{vx:AV}(hh:aP O m S w hp ct)(hx:ae O.ab m S w vx x)(h:iq hp size vx=D5 (n,cs)):
  ∃us,ax O.ab m S w cs us/\Src O.P w size n us x:=by
 cases vx<;>try exact W3 hh hx h
 simp only[iq] at h
 cases hc:yo size 1 with
 | false=>rw[hc] at h;cases h
 | true=>
  rw[hc] at h;obtain⟨rfl,rfl⟩:=h
  have:=yf hc
  subst this;obtain⟨t,rfl,rfl⟩:=hx;refine⟨_,Wv _,?_⟩
  have:(List.map xe t.data.toList).length=t.size:=by simp
  rw[this];exact amz
def agR{t u ty e:yu}{i:ycD}(ht:P.underlying t=D5 (.slice e))(hu:(∃e',P.underlying u=D5 (.slice e'))\/P.underlying u=D5 .string)(hi:P.info? e=D5 i){g o iB qQ:Nat}{JX:Array yg}{te:yu}(hg:w.heap[g]? =D5 (.cells JX te (0,0))){news:List yg}(hs:Src P w i.size n news x)(h1:∀u∈news,u.oneCell'=ycG)(ET:iB+n<=qQ)(SK:o+iB*i.size+news.length<=JX.size):
  (Builtin.append_ #[t,u] ty #[.slice (D5 ⟨g,o,D6⟩) iB qQ,x]).run P w=
   .ok (.slice (D5 ⟨g,o,D6⟩) (iB+n) qQ) (w.setRow g (JX.toList.take (o+iB*i.size)++news++JX.toList.drop (o+iB*i.size+news.length)).toArray):=by
 have⟨lP,Aw,Uv⟩:=hs;have hf:=Uv w rfl n (yq _);rw[yO (by lia)] at hf;have aQ:=run_storeCells_at P g (o+iB*i.size) te news 0 JX w hg (by lia) h1;rcases hu with ⟨e',hd⟩ | hd<;>
  simp[Builtin.append_,run_underlying ht,run_underlying hd,wT,typeInfo,hi,lP,ET,hf,mS,aQ]
def KN{t u ty e:yu}{i:ycD}{z:yg}(ht:P.underlying t=D5 (.slice e))(hu:(∃e',P.underlying u=D5 (.slice e'))\/P.underlying u=D5 .string)(hi:P.info? e=D5 i)(hz:i.zero=D5 z){s:yg}{base:Option uh}{iB qQ:Nat}(es:s=.slice base iB qQ){lC:List yg}(ho:Src P w i.size iB lC s){news:List yg}(hs:Src P w i.size n news x)(hg:qQ<iB+n)(h63:iB+n<=1099511627776)(Uu:(iB+n)*i.bytes<=1099511627776):
  (Builtin.append_ #[t,u] ty #[s,x]).run P w=
   .ok (.slice (D5 ⟨w.heap.size,0,D6⟩) (iB+n) (grownCap w (iB+n) qQ e))
    (w.drew.alloc (.cells ((lC++news).toArray++Builtin.zeroCells z.cells (grownCap w (iB+n) qQ e-(iB+n))) e)):=by
 have⟨lP,Aw,Uv⟩:=hs;have⟨ho1,Uw,ho3⟩:=ho;have hf:=Uv w.drew rfl n (yq _);rw[yO (by lia)] at hf;have hfo:=ho3 w.drew rfl iB (yq _);have hn:¬(iB+n<=qQ):=by lia
 have auQ:¬(9223372036854775807<((iB:Int)+(n:Int))):=by lia
 have SK:=growslice_fits (need:=iB+n) (old:=qQ) (bytes:=i.bytes) hg (by lia);have auR:¬(281474976710656<Builtin.nextslicecap (iB+n) qQ*i.bytes):=by lia
 subst es;rcases hu with ⟨e',hd⟩ | hd
 all_goals
  simp[Builtin.append_,run_underlying ht,run_underlying hd,wT,typeInfo,zeroValue,hi,hz,lP,hn,auQ,auR,Question.forced,hf,hfo,newRow,askRoom,grownCap]
  grind
def PZ{e:yu}{z:yg}{sz need cap:Nat}{us:List yg}(hh:aP O m S w hp ct)(hr:ax O.ab m S w cs us)(hl:us.length=need*sz)(hz:z.cells.size=sz)(C5:Bool)(Ux:C5=ycG->aD cs=ycG)(hc:need<=cap):
  let w':=w.drew.alloc (.cells (us.toArray++Builtin.zeroCells z.cells (cap-need)) e)
  let p:Pl:=⟨w.heap.size,0,cap*sz,sz⟩
  ∀m',cL m m'->m' ct=D5 p->eH O m' S w' ct (.cells ycG C5 ycH sz cs):=by
 intro w' p m' hm hi;have aQ:fg S w w':=fun b hb=>by
  have:=hh.slt b hb
  exact RowKit.Below.heap_alloc w.drew _ b (by simpa using this)
 have iZ:w'.heap[w.heap.size]? =D5 (.cells (us.toArray++Builtin.zeroCells z.cells (cap-need)) e (0,0)):=heap_alloc_new w.drew _;have fG:=fP _ _ hr;refine⟨p,_,e,hi,iZ,rfl,?_,?_,by simp,?_,Ux,?_,by simp⟩
 .show cs.length<=cap*sz
  rw[<-fG,hl];exact yL _ hc
 .show 0+cap*sz<=_
  rw[Array.size_append,uX,size_zeroCells,hz,hl,<-xL]
  grind
 .refine Lb iZ cs us 0 (gA hm (fun _ h=>h) aQ _ _ hr) (fun j u hj=>?_)
  grind
 .intro _ hS
  have:=hh.slt _ hS
  grind
def agD(hh:aP O m S w hp ct)(g:tV):fg S w (w.drew.alloc g):=fun b hb=>by
 have:=hh.slt b hb
 exact RowKit.Below.heap_alloc w.drew _ b (by simpa using this)
def P0(hh:aP O m S w hp ct){hp0:Hp}{g:tV}{p:Pl}{o:Obj}(M8:∀i q,ai hp0 i=D5 q->ai hp i=D5 q)(hb:p.b=w.heap.size)(ho:∀m',cL m m'->m' ct=D5 p->eH O m' S (w.drew.alloc g) ct o):
  aP O (eR m ct p) S (w.drew.alloc g) ((ct,o)::hp0) (ct+1)/\bR m S w hp (eR m ct p) S (w.drew.alloc g) ((ct,o)::hp0) ct:=by
 have hn:m ct=D6:=by
  cases h:m ct with
  | none=>rfl
  | some q=>have:=hh.lt _ _ h;lia
 have hle:=iQ hn (p:=p);have aQ:=agD hh g;have hold:∀b,b<w.heap.size->(w.drew.alloc g).heap[b]? =w.heap[b]? :=fun b hb=>RowKit.Below.heap_alloc w.drew _ b (by simpa using hb)
 have dR:(w.drew.alloc g).heap.size=w.heap.size+1:=by simp
 have b9:∀i q,ai ((ct,o)::hp0) i=D5 q->i≠ct->ai hp i=D5 q:=fun i q h hi=>by
  rw[eO,yx (fun e=>hi e.symm)] at h
  grind
 refine⟨⟨?_,?_,?_,?_,?_,?_,?_,?_,fun i q hq=>(by
  by_cases hc:i=ct
  .lia
  .have:=hh.aB _ _ (b9 i q hq hc);lia)⟩,⟨rfl,rfl,rfl,by lia,?_,fun _ h=>h,fun b hb=>aQ b hb,fun b hb=>.inl hb,?_,fun i q _ h=>hle i q h,fun b r hb=>⟨r,(hold b (xo.1 hb).1).trans hb⟩⟩⟩
 .intro i q pi hi bB;by_cases hc:i=ct
  .subst hc;rw[eO] at hi;simp only[xN,yb] at hi;subst hi;exact ho _ hle c9
  .rw [dK hc] at bB;exact rM hle (fun _ h=>h) aQ (fun q' bE=>hold _ (hh.blt i q' bE)) (fun _ _ h=>h) (hh.obj i q pi (b9 i q hi hc) bB)
 .intro i q bB;by_cases hc:i=ct
  .lia
  .rw [dK hc] at bB;have:=hh.lt i q bB;lia
 .intro i j oi oj pi pj hi hj bB fI e;by_cases ci:i=ct
  .by_cases cj:j=ct
   .grind
   .subst ci;rw[c9] at bB;rw[dK cj] at fI;injection bB with bB
    subst bB
    have:=hh.blt j pj fI
    lia
  .rw [dK ci] at bB;by_cases cj:j=ct
   .subst cj;rw[c9] at fI;injection fI with fI
    subst fI
    have:=hh.blt i pi bB
    lia
   .rw [dK cj] at fI;exact hh.inj i j oi oj pi pj (b9 i oi hi ci) (b9 j oj hj cj) bB fI e
 .intro b hb;have:=hh.slt b hb;lia
 .intro i q bB;by_cases hc:i=ct
  .subst hc;rw[c9] at bB;injection bB with bB
   subst bB
   lia
  .rw [dK hc] at bB;have:=hh.blt i q bB;lia
 .intro i q bB;have h0:=hh.fk;by_cases hc:i=ct
  .subst hc;rw[c9] at bB;injection bB with bB
   subst bB
   lia
  .rw [dK hc] at bB;exact hh.low i q bB
 .intro b hb;have h0:=hh.fk;exact (hold b (by lia)).trans (hh.lB b hb)
 .have h0:=hh.fk;lia
 .intro b hb _;exact hold b hb
 .rintro b ⟨i,q,pi,h1,h2,h3⟩;by_cases hc:i=ct
  .subst hc;rw[c9] at h2;injection h2 with h2
   subst h2;exact .inr (by lia)
  .rw [dK hc] at h2;exact .inl ⟨i,q,pi,b9 i q h1 hc,h2,h3⟩
def aiy(hh:aP O m S w hp ct){id:Nat}{o o':Obj}{p p':Pl}{w':yi}(hg:ai hp id=D5 o)(hm:m id=D5 p)(hn:¬S p.b)(hw:One w w' p.b)(hk:∀r:uE,w.heap[p.b]? =D5 (.loop r)->∃r':uE,w'.heap[p.b]? =D5 (.loop r'))(hb:p'.b=p.b)(ho:∀m',cL m m'->m' ct=D5 p'->eH O m' S w' ct o'):
  aP O (eR m ct p') S w' ((ct,o')::cl hp id) (ct+1)/\bR m S w hp (eR m ct p') S w' ((ct,o')::cl hp id) ct:=by
 have iJ:m ct=D6:=by
  cases h:m ct with
  | none=>rfl
  | some q=>have:=hh.lt _ _ h;lia
 have hle:=iQ iJ (p:=p');have aQ:fg S w w':=fun b hb=>hw.other b (fun e=>hn (e▸hb))
 have b9:∀i q,ai ((ct,o')::cl hp id) i=D5 q->i≠ct->ai hp i=D5 q/\i≠id:=fun i q h hi=>by
  rw[eO,yx (fun e=>hi e.symm),Hf] at h
  grind
 have acG:∀i q pi,ai hp i=D5 q->i≠id->m i=D5 pi->pi.b≠p.b:=fun i q pi h hi bB e=>hi (hh.inj i id q o pi p h hg bB hm e)
 refine⟨⟨?_,?_,?_,?_,?_,?_,?_,?_,fun i q hq=>(by
  by_cases hc:i=ct
  .lia
  .have:=hh.aB _ _ (b9 i q hq hc).1;lia)⟩,⟨hw.os,hw.tape,hw.output,by rw[hw.size];exact yq _,?_,fun _ h=>h,fun b hb=>aQ b hb,fun b hb=>.inl hb,?_,fun i q _ h=>hle i q h,fun b r hb=>(by
  by_cases hc:b=p.b
  .grind
  .exact ⟨r,(hw.other b hc).trans hb⟩)⟩⟩
 .intro i q pi hi bB;by_cases hc:i=ct
  .subst hc;rw[eO] at hi;simp only[xN,yb] at hi;subst hi;exact ho _ hle c9
  .rw [dK hc] at bB;have⟨h1,h2⟩:=b9 i q hi hc;exact rM hle (fun _ h=>h) aQ (fun q' bE=>hw.other _ (acG i q q' h1 h2 bE)) (fun _ _ h=>h) (hh.obj i q pi h1 bB)
 .intro i q bB;by_cases hc:i=ct
  .lia
  .rw [dK hc] at bB;have:=hh.lt i q bB;lia
 .intro i j oi oj pi pj hi hj bB fI e;by_cases ci:i=ct
  .by_cases cj:j=ct
   .grind
   .subst ci;rw[c9] at bB;rw[dK cj] at fI
    grind
  .rw [dK ci] at bB;have⟨h1,h2⟩:=b9 i oi hi ci;by_cases cj:j=ct
   .subst cj;rw[c9] at fI;injection fI with fI
    subst fI;exact (acG i oi pi h1 h2 bB (by rw[e,hb])).elim
   .rw [dK cj] at fI;exact hh.inj i j oi oj pi pj h1 (b9 j oj hj cj).1 bB fI e
 .intro b hb;rw[hw.size];exact hh.slt b hb
 .intro i q bB;rw[hw.size];by_cases hc:i=ct
  .subst hc;rw[c9] at bB;injection bB with bB
   subst bB;rw[hb];exact hh.blt id p hm
  .rw [dK hc] at bB;exact hh.blt i q bB
 .intro i q bB;by_cases hc:i=ct
  .subst hc;rw[c9] at bB;injection bB with bB
   subst bB;rw[hb];exact hh.low id p hm
  .rw [dK hc] at bB;exact hh.low i q bB
 .intro b hb
  rw[hw.other b (fun e=>by have:=hh.low id p hm;lia)]
  exact hh.lB b hb
 .rw [hw.size];exact hh.fk
 .intro b _ bm;exact hw.other b (fun e=>bm (e▸HK hg hm))
 .rintro b ⟨i,q,pi,h1,h2,h3⟩;by_cases hc:i=ct
  .subst hc;rw[c9] at h2;injection h2 with h2
   subst h2;exact .inl ⟨id,o,p,hg,hm,by rw[<-h3,hb]⟩
  .rw [dK hc] at h2;exact .inl ⟨i,q,pi,(b9 i q h1 hc).1,h2,h3⟩
def ZK{e:yu}{s by':Nat}{z:AV}(hs:bU P e=D5 s)(hb:sS P e=D5 by')(hz:ll P e=D5 z):
  ∃ti zv,P.info? e=D5 ti/\ti.size=s/\ti.bytes=by'/\ti.zero=D5 zv/\z=et zv:=by
 unfold bU at hs;unfold sS at hb;unfold ll at hz
 cases hi:P.info? e with
 | none=>simp[hi] at hs
 | some ti=>
  simp only[hi,yb] at hs hb hz
  cases eI:ti.zero with
  | none=>simp[eI] at hz
  | some zv=>
   grind
def Hn{o:yP}{v:AV}{u:yg}{w':yi}{m':Mp}{S':Nat->Prop}{an:Hp}{aK:Nat}(h1:(execOp a.eval o).run O.P w=.ok (.value u) w')(h2:aP O m' S' w' an aK)(h3:ae O.ab m' S' w' v u)(h4:cL m m')(h5:bR m S w hp m' S' w' an ct):zT O m S w a hp ct o v an aK:=⟨_,u,w',m',S',h1,.inl rfl,h2,h3,h4,h5⟩
def akm{o:yP}{b':yu}{t u e:yu}{sz by':Nat}{z:AV}{x y:xm}{v:AV}{an:Hp}{aK:Nat}(hH:eF O H)(ht:bN O m S w tm a.tmps)(hh:aP O m S w hp ct)(du:(execOp a.eval o).run O.P w=((do pure (.value (<-Builtin.append_ #[t,u] b' #[a.eval x,a.eval y])):Sem yat)).run O.P w)(sZ:O.P.underlying t=D5 (.slice e))(hu:(∃e',O.P.underlying u=D5 (.slice e'))\/O.P.underlying u=D5 .string)(hs:bU O.P e=D5 sz)(hb:sS O.P e=D5 by')(hz:ll O.P e=D5 z)(rh:(cellsOf z).length=sz)(hv:bV tm hp ct (.df sz by' (aI H x) (aI H y))=D5 (v,an,aK)):zT O m S w a hp ct o v an aK:=by
 simp only[bV] at hv;obtain⟨ti,zv,rk,rfl,rfl,JY,rfl⟩:=ZK hs hb hz;have aJ:∀u' w',(Builtin.append_ #[t,u] b' #[a.eval x,a.eval y]).run O.P w=.ok u' w'->(execOp a.eval o).run O.P w=.ok (.value u') w':=fun u' w' h=>by
  rw[du,Sem.run_bind,h];rfl
 have se:m ct=D6:=by
  cases h:m ct with
  | none=>rfl
  | some q=>have:=hh.lt _ _ h;lia
 have DG:zv.cells.size=ti.size:=by
  have:=fP _ _ (Cu (ab:=O.ab) (m:=m) (S:=S) (w:=w) zv)
  rw[<-rh,<-this];simp
 cases nf:iq hp ti.size (aw tm (aI H y)) with
 | none=>simp[nf] at hv
 | some q=>
  have⟨n,new⟩:=q;simp only[nf] at hv;have⟨news,kC,dn⟩:=XK hh (bO hH ht y) nf;have JZ:=fP _ _ kC;have rx:=bO hH ht x
  cases hx:aw tm (aI H x) with
  | ah=>
   rw[hx] at hv rx;simp only at hv;simp only[ae] at rx
   cases h0:yo n 0 with
   | true=>
    rw[h0] at hv;simp only[yr,yb,yj] at hv;obtain⟨rfl,rfl,rfl⟩:=hv;have Ax:=yf h0;subst Ax;have R4:news=[]:=yG (by rw[dn.2.1];simp)
    subst R4;have hf:=dn.2.2 w rfl 0 (yq _);have kA:=dn.1 w;refine⟨.value (.slice D6 0 0),.slice D6 0 0,w,m,S,?_,.inl rfl,hh,by simp[ae],cL.refl,bR.refl⟩;rw[du,rx];rcases hu with ⟨e',hu⟩ | hu<;>
     simp[Builtin.append_,run_underlying sZ,run_underlying hu,wT,typeInfo,rk,kA,hf]
   | false=>
    rw[h0] at hv;simp only[yJ] at hv
    cases hc:(yz n room&&(yz (n*ti.bytes) room&&yF 0 ti.size)) with
    | false=>rw[hc] at hv;cases hv
    | true=>
     rw[hc] at hv;simp only[yr,yb,yj] at hv;obtain⟨rfl,rfl,rfl⟩:=hv;simp only[ye] at hc;have c1:=yv hc.1;have c2:=yv hc.2.1;simp only[room] at c1 c2;have Ax:0<n:=by
      rcases xg n with h | h
      .subst h;simp at h0
      .exact h
     have hr:=KN (P:=O.P) (ty:=b') (w:=w) sZ hu rk JY (s:=.slice D6 0 0) rfl (ZJ (P:=O.P) (size:=ti.size)) dn (by lia) (by lia) (by simpa using c2);simp only[yd,List.nil_append] at hr;have jQ:=grownCap_ge w n 0 e;have iZ:=PZ (e:=e) (z:=zv) (cap:=grownCap w n 0 e) hh kC (need:=n) (sz:=ti.size) dn.2.1 DG (aD new) (fun h=>h) jQ;have⟨k1,k2⟩:=P0 hh (hp0:=hp) (p:=⟨w.heap.size,0,grownCap w n 0 e*ti.size,ti.size⟩) (fun _ _ h=>h) rfl iZ;exact Hn (aJ _ _ (by rw[rx];exact hr)) k1 (by simp only[ae];exact⟨_,_,c9,rfl,jQ,by simp⟩) (iQ se) k2
  | aq ex k cs=>
   rw[hx] at hv rx
   cases ex with
   | false=>simp at hv
   | true=>
    simp only at hv;have rx0:=rx;simp only[ae] at rx;have rx1:∃ad lC,a.eval x=.slice (D5 ad) k k/\ax O.ab m S w cs lC/\lC.length=cs.length/\(∀(j:Nat) (u:yg),lC[j]? =D5 u->w.cell? (ad.add j)=D5 u)/\aD cs=ycG:=by
     rcases rx with ⟨bb,oo,c,ex,h1,h2,h3,h4,h5⟩ | ⟨ad,ex,rfl,rfl⟩
     .have ei:c=k:=h2 (by trivial);subst ei;have⟨lC,g1,g2,g3⟩:=rK cs bb oo h5;exact⟨_,lC,ex,g1,g2,fun j u hj=>by rw[mS];exact g3 j u hj,h4⟩
     .exact ⟨ad,[],ex,by simp[ax],rfl,fun j u hj=>by simp at hj,rfl⟩
    have⟨ad,lC,ex,g1,g2,g3,h4⟩:=rx1
    cases h0:yo n 0 with
    | true=>
     rw[h0] at hv;simp only[yr,yb,yj] at hv;obtain⟨rfl,rfl,rfl⟩:=hv;have Ax:=yf h0;subst Ax;have R4:news=[]:=yG (by rw[dn.2.1];simp)
     subst R4;have hf:=dn.2.2 w rfl 0 (yq _);have kA:=dn.1 w;refine⟨.value (a.eval x),a.eval x,w,m,S,?_,.inl rfl,hh,rx0,cL.refl,bR.refl⟩;rw[du,ex];rcases hu with ⟨e',hu⟩ | hu<;>
      simp[Builtin.append_,run_underlying sZ,run_underlying hu,wT,typeInfo,rk,kA,hf,storeCells]
    | false=>
     rw[h0] at hv;simp only[yJ] at hv
     cases hc:(yz (k+n) room&&(yz ((k+n)*ti.bytes) room&&(yo cs.length (k*ti.size)&&yF 0 ti.size))) with
     | false=>rw[hc] at hv;cases hv
     | true=>
      rw[hc] at hv;simp only[yr,yb,yj] at hv;obtain⟨rfl,rfl,rfl⟩:=hv;simp only[ye] at hc;have c1:=yv hc.1;have c2:=yv hc.2.1;have c3:=yf hc.2.2.1;simp only[room] at c1 c2;have Ax:0<n:=by
       rcases xg n with h | h
       .subst h;simp at h0
       .exact h
      have J0:Src O.P w ti.size k lC (.slice (D5 ad) k k):=Ed (by lia) g3;have hr:=KN (P:=O.P) (ty:=b') (w:=w) sZ hu rk JY rfl J0 dn (by lia) c1 c2;have jQ:=grownCap_ge w (k+n) k e;have iZ:=PZ (e:=e) (z:=zv) (cap:=grownCap w (k+n) k e) hh (kX g1 kC) (need:=k+n) (sz:=ti.size) (by rw[yC,g2,c3,dn.2.1,xL]) DG (aD cs&&aD new)
       (fun h=>by simp only[ye] at h;exact Cv h.1 h.2) jQ
      have⟨k1,k2⟩:=P0 hh (hp0:=hp) (p:=⟨w.heap.size,0,grownCap w (k+n) k e*ti.size,ti.size⟩) (fun _ _ h=>h) rfl iZ;exact Hn (aJ _ _ (by rw[ex];exact hr)) k1 (by simp only[ae];exact⟨_,_,c9,rfl,jQ,by simp⟩) (iQ se) k2
  | av id o0 k=>
   rw[hx] at hv rx;simp only at hv;simp only[ae] at rx;have⟨p,c,hm,ex,h1,h2⟩:=rx
   split at hv
   case h_2=>cases hv
   rename_i pu Ox zz cs hg
   cases hc:(yo zz ti.size&&(yz (k+n) room&&(yz ((k+n)*ti.bytes) room&&(yz (o0+k*ti.size) cs.length&&(yF 0 ti.size&&b5 new))))) with
   | false=>rw[hc] at hv;cases hv
   | true=>
    rw[hc] at hv;simp only[yr,yb,yj] at hv;obtain⟨rfl,rfl,rfl⟩:=hv;simp only[ye] at hc;have c0:=yf hc.1;have c1:=yv hc.2.1;have c2:=yv hc.2.2.1;have c3:=yv hc.2.2.2.1;have c4:=hc.2.2.2.2.2;simp only[room] at c1 c2;have⟨p',arr,t',g1,g2,g3,g4,g5,g6,g7,g8,g9,g10⟩:=hh.obj id _ _ hg hm;rw[hm] at g1;injection g1 with g1
    subst g1;subst c0;rw[g3] at h2;have oC:bL O.ab m S w (slice o0 (k*ti.size) cs) p.b (p.o+o0):=zq _ _ _ _ (qD _ _ _ _ g7);have⟨lC,f1,f2,f3⟩:=rK _ _ _ oC;have M9:(slice o0 (k*ti.size) cs).length=k*ti.size:=by simp only[slice,yT,wH];lia
    have mC:(pu&&aD new)=ycG->aD (slice o0 (k*ti.size) cs++new)=ycG:=fun h=>by
     simp only[ye] at h;exact Cv (AO _ (zt _ _ (g8 h.1))) h.2
    by_cases ET:k+n<=c
    .have fE:=Lc kC c4;have SK:p.o+o0+k*ti.size+news.length<=arr.size:=by
      rw[dn.2.1]
      have:(k+n)*ti.size<=c*ti.size:=yL _ ET
      rw[xL] at this
      lia
     have hr:=agR (P:=O.P) (ty:=b') (w:=w) sZ hu rk g2 dn fE ET SK;have ho:∀m',cL m m'->m' ct=D5 ⟨p.b,p.o+o0,c*ti.size,ti.size⟩->
       eH O m' S (w.setRow p.b (arr.toList.take (p.o+o0+k*ti.size)++news++arr.toList.drop (p.o+o0+k*ti.size+news.length)).toArray) ct
        (.cells ycG (pu&&aD new) ycH ti.size (slice o0 (k*ti.size) cs++new)):=by
      intro m' hle hi;have aQ:fg S w (w.setRow p.b (arr.toList.take (p.o+o0+k*ti.size)++news++arr.toList.drop (p.o+o0+k*ti.size+news.length)).toArray):=fun b hb=>setRow_other w p.b b _ (fun e=>g9 rfl (e▸hb))
      refine⟨_,_,t',hi,setRow_heap w p.b arr _ t' _ g2,rfl,?_,?_,by simp,?_,mC,fun _=>g9 rfl,by simp⟩
      .show (slice o0 (k*ti.size) cs++new).length<=c*ti.size
       rw[yC,M9,<-JZ,dn.2.1,<-xL];exact yL _ ET
      .show p.o+o0+c*ti.size<=_
       rw[uX,yC,yC,yT,wH,wY]
       lia
      .refine Eh _ (lC++news) _ (kX (gA hle (fun _ h=>h) aQ _ _ f1) (gA hle (fun _ h=>h) aQ _ _ kC)) (fun j u hj=>?_);show World.cell? _ ⟨p.b,p.o+o0+j,D6⟩=D5 u
       simp only[World.cell?,setRow_heap w p.b arr _ t' _ g2,tu,yA,xq];rw[yaz];have e1:(arr.toList.take (p.o+o0+k*ti.size)).length=p.o+o0+k*ti.size:=by rw[yT,wY];lia
       by_cases JT:j<k*ti.size
       .rw [wo (by lia)] at hj;rw[xr,wo (by lia),uK (by lia)]
        have:=f3 j u hj
        simpa[World.cell?,g2] using this
       .rw [wb (by lia)] at hj;have hjl:=(List.getElem?_eq_some_iff.1 hj).1;rw[xr,wb (by lia),e1,wo (by lia),show p.o+o0+j-(p.o+o0+k*ti.size)=j-lC.length by lia];exact hj
     have⟨k1,k2⟩:=aiy (p':=⟨p.b,p.o+o0,c*ti.size,ti.size⟩) hh hg hm (g9 rfl) (PD w p.b _) (fun r hr=>by rw[g2] at hr;cases hr) rfl ho;exact Hn (aJ _ _ (by rw[ex];exact hr)) k1 (by simp only[ae];exact⟨_,c,c9,rfl,ET,by simp⟩) (iQ se) k2
    .have J0:Src O.P w ti.size k lC (.slice (D5 ⟨p.b,p.o+o0,D6⟩) k c):=Ed (by lia) (fun j u hj=>by rw[mS];exact f3 j u hj)
     have hr:=KN (P:=O.P) (ty:=b') (w:=w) sZ hu rk JY rfl J0 dn (by lia) c1 c2;have jQ:=grownCap_ge w (k+n) c e;have iZ:=PZ (e:=e) (z:=zv) (cap:=grownCap w (k+n) c e) hh (kX f1 kC) (need:=k+n) (sz:=ti.size) (by rw[yC,f2,M9,dn.2.1,xL]) DG (pu&&aD new) mC jQ;have⟨k1,k2⟩:=P0 hh (hp0:=cl hp id) (p:=⟨w.heap.size,0,grownCap w (k+n) c e*ti.size,ti.size⟩) (fun i q h=>by
      rw[Hf] at h;by_cases hi:id=i
      .simp [hi] at h
      .simpa only [hi,xq] using h) rfl iZ
     exact Hn (aJ _ _ (by rw[ex];exact hr)) k1 (by simp only[ae];exact⟨_,_,c9,rfl,jQ,by simp⟩) (iQ se) k2
  | _=>rw[hx] at hv;simp at hv
end
end
end
section
open Go
section
variable {O:bk}{H:Hint}{m:Mp}{S:Nat->Prop}{w:yi}{tm:Env}{a:Act}{hp:Hp}{ct:Nat}
def ag7{n:Nat}{cs:List AV}(h:aD cs=ycG):aD (cs.take n)=ycG:=AO n h
def Wn:∀(n:Nat) {cs:List AV},b5 cs=ycG->b5 (cs.take n)=ycG
 | 0,_,_=>by simp[b5]
 | n+1,[],_=>by simp[b5]
 | n+1,c::cs,h=>by
  simp only[wq,b5,ye] at h ⊢;exact⟨h.1,Wn n h.2⟩
def akn{o:yP}{b':yu}{t u e:yu}{sz:Nat}{x y:xm}{v:AV}{an:Hp}{aK:Nat}(hH:eF O H)(ht:bN O m S w tm a.tmps)(hh:aP O m S w hp ct)(du:(execOp a.eval o).run O.P w=((do pure (.value (<-Builtin.copy_ #[t,u] b' #[a.eval x,a.eval y])):Sem yat)).run O.P w)(sZ:O.P.underlying t=D5 (.slice e))(hs:bU O.P e=D5 sz)(hv:bV tm hp ct (.p6 sz (aI H x) (aI H y))=D5 (v,an,aK)):zT O m S w a hp ct o v an aK:=by
 simp only[bV] at hv
 cases nf:lZ hp sz (aw tm (aI H y)) with
 | none=>simp[nf] at hv
 | some q=>
  have⟨n,new⟩:=q;simp only[nf] at hv;have⟨news,kC,dn⟩:=W3 hh (bO hH ht y) nf;have JZ:=fP _ _ kC;have rx:=bO hH ht x;cases hx:aw tm (aI H x)<;>rw[hx] at hv rx<;>simp only[reduceCtorEq] at hv
  rename_i id o0 k;simp only[ae] at rx;have⟨p,c,hm,ex,h1,h2⟩:=rx
  split at hv
  case h_2=>cases hv
  rename_i pu Ox zz cs hg
  cases hc:(yo zz sz&&(yz (o0+k*sz) cs.length&&b5 new)) with
  | false=>rw[hc] at hv;cases hv
  | true=>
   rw[hc] at hv;simp only[yr,yb,yj] at hv;obtain⟨rfl,rfl,rfl⟩:=hv;simp only[ye] at hc;have c0:=yf hc.1;have c1:=yv hc.2.1;subst c0;have⟨p',arr,t',g1,g2,g3,g4,g5,g6,g7,g8,g9,g10⟩:=hh.obj id _ _ hg hm;rw[hm] at g1;injection g1 with g1
   subst g1;have acH:min n k*zz<=k*zz:=yL _ (Nat.min_le_right _ _);have aAg:min n k*zz<=n*zz:=yL _ (ybs _ _);have rt:=Ec (min n k*zz) kC;have za:(news.take (min n k*zz)).length=min n k*zz:=by rw[yT,dn.2.1];lia
   have aAr:(new.take (min n k*zz)).length=min n k*zz:=by rw[yT,<-JZ,dn.2.1];lia
   have fE:=Lc rt (Wn _ hc.2.2);have hf:=dn.2.2 w rfl (min n k) (ybs _ _);have aQ:=run_storeCells_at O.P p.b (p.o+o0) t' (news.take (min n k*zz)) 0 arr w g2 (by rw[za];lia) fE
   simp only[yS] at aQ;have oA:eH O m S (w.setRow p.b (arr.toList.take (p.o+o0)++news.take (min n k*zz)++arr.toList.drop (p.o+o0+(news.take (min n k*zz)).length)).toArray) id
     (.cells ycG (pu&&aD new) Ox zz (over o0 (new.take (min n k*zz)) cs)):=by
    refine⟨p,_,t',hm,setRow_heap w p.b arr _ t' _ g2,g3,by rw[Ls (by lia)];exact g4,?_,fun h=>by rw[Ls (by lia)];exact g6 h,?_,?_,fun _=>g9 rfl,by simp⟩
    .rw [uX,yC,yC,yT,wH,wY,za];lia
    .exact Yy g2 g7 rt (by lia) (by lia) cL.refl (fun _ h=>h) (fun b hb=>setRow_other w p.b b _ (fun e=>g9 rfl (e▸hb))) (setRow_heap w p.b arr _ t' _ g2)
    .intro h;simp only[ye] at h;exact W2 (g8 h.1) (ag7 h.2)
   have⟨e1,e2⟩:=Hm hh hg hm (g9 rfl) (PD w p.b _) oA (fun r hr=>by rw[g2] at hr;cases hr)
   refine Hn (u:=goInt ((min n k:Nat):Int)) (m':=m) (S':=S) ?_ e1 (by simp[ae,goInt]) cL.refl e2;rw[du,ex];simp[Builtin.copy_,run_underlying sZ,dn.1 w,nG hs,show Nat.min n k=min n k from rfl,hf,aQ]
def amA{o:yP}{k:Nat}{v:AV}{an:Hp}{aK:Nat}(hH:eF O H)(ht:bN O m S w tm a.tmps)(hh:aP O m S w hp ct)(hv:bV tm hp ct (aM O.P H k o)=D5 (v,an,aK)):zT O m S w a hp ct o v an aK:=by
 have ib:∀{r:AV×Hp×Nat},bV tm hp ct bad=D5 r->False:=fun h=>by simp[bad,bV] at h
 cases ho:o.op with
 | call c=>
  obtain⟨callee,args,ts⟩:=c;simp only[aM,ho] at hv
  split at hv
  .cases DE:H.mode k<;>simp[DE,bV] at hv
  .rename_i _ b
   split at hv
   .rename_i x y t u dQ kR;obtain⟨al⟩:=args;obtain⟨tl⟩:=ts;simp only at dQ kR;subst dQ;subst kR;obtain⟨cs,du⟩:=zp (O:=O) (w:=w) (a:=a) ho;have C7:(execOp a.eval o).run O.P w=((do pure (.value (<-Builtin.append_ #[t,u] o.type #[a.eval x,a.eval y])):Sem yat)).run O.P w:=by
     rw[du];simp[builtin]
    have key:∀{z:AV} {sz by':Nat} {e:yu},O.P.underlying t=D5 (.slice e)->((∃e',O.P.underlying u=D5 (.slice e'))\/O.P.underlying u=D5 .string)->bU O.P e=D5 sz->sS O.P e=D5 by'->ll O.P e=D5 z->
      bV tm hp ct (bif yo (cellsOf z).length sz then .df sz by' (aI H x) (aI H y) else bad)=D5 (v,an,aK)->zT O m S w a hp ct o v an aK:=by
     intro z sz by' e h1 h2 h3 h4 h5 h
     cases hb:yo (cellsOf z).length sz with
     | false=>rw[hb] at h;exact (ib h).elim
     | true=>
      rw[hb] at h;exact akm hH ht hh C7 h1 h2 h3 h4 h5 (yf hb) h
    split at hv
    .rename_i e e' h1 h2
     split at hv
     .rename_i sz by' z h3 h4 h5
      exact key h1 (.inl ⟨_,h2⟩) h3 h4 h5 hv
     .exact (ib hv).elim
    .rename_i e h1 h2
     split at hv
     .rename_i sz by' z h3 h4 h5
      exact key h1 (.inr h2) h3 h4 h5 hv
     .exact (ib hv).elim
    .exact (ib hv).elim
   .repeat' split at hv
    all_goals simp[bV,bad] at hv
   .rename_i x y t u dQ kR;obtain⟨al⟩:=args;obtain⟨tl⟩:=ts;simp only at dQ kR;subst dQ;subst kR;obtain⟨cs,du⟩:=zp (O:=O) (w:=w) (a:=a) ho;have C7:(execOp a.eval o).run O.P w=((do pure (.value (<-Builtin.copy_ #[t,u] o.type #[a.eval x,a.eval y])):Sem yat)).run O.P w:=by
     rw[du];simp[builtin]
    split at hv
    .rename_i e h1
     split at hv
     .rename_i sz h3;exact akn hH ht hh C7 h1 h3 hv
     .exact (ib hv).elim
    .exact (ib hv).elim
   .simp [bV] at hv
   .simp [bV] at hv
   .simp [bV] at hv
   .simp [bV] at hv
   .simp [bV] at hv
   .exact (ib hv).elim
  .exact (ib hv).elim
 | store t x y=>
  simp only[aM,ho] at hv
  split at hv
  .rename_i s hs;exact amx hH ht hh ho hs hv
  .exact (ib hv).elim
 | mapUpdate t x k y=>
  simp only[aM,ho] at hv
  split at hv
  .rename_i kt e hu
   split at hv
   .rename_i kk rb;exact Yz hH ht hh (.inl ho) hu rb hv
   .exact (ib hv).elim
  .exact (ib hv).elim
 | insert t x k y=>
  simp only[aM,ho] at hv
  split at hv
  .rename_i kt e hu
   split at hv
   .rename_i kk rb;exact Yz hH ht hh (.inr ho) hu rb hv
   .exact (ib hv).elim
  .exact (ib hv).elim
 | next x b=>
  cases b with
  | false=>simp only[aM,ho] at hv;exact (ib hv).elim
  | true=>exact akl hH ht hh ho (by simpa only[aM,ho] using hv)
 | binOp op t x y ty=>
  cases op<;>simp only[aM,ho,mR,nN] at hv
  case eql=>
        repeat' split at hv
        all_goals first
         | (simp[bV,bad] at hv;done)
         | (cases hb:(O.P.stoodInHeld t||O.P.eqGuardType O.P.depth t)<;>rw[hb] at hv<;>simp[bV,bad] at hv)
  case neq=>
        repeat' split at hv
        all_goals first
         | (simp[bV,bad] at hv;done)
         | (cases hb:(O.P.stoodInHeld t||O.P.eqGuardType O.P.depth t)<;>rw[hb] at hv<;>simp[bV,bad] at hv)
  all_goals simp[bV] at hv
 | buildSlice t n parts=>
  simp only[aM,ho] at hv
  repeat' split at hv
  all_goals first
   | (simp[bV,bad] at hv;done)
   | (
     revert hv;generalize yz _ _=bb;intro hv;cases bb<;>simp[bV,bad] at hv
     try (split at hv<;>simp[bV,bad] at hv))
 | makeMap t r=>
  cases r<;>simp only[aM,ho] at hv
  .repeat' split at hv
   all_goals simp[bV,bad] at hv
  .exact (ib hv).elim
 | _=>
  simp only[aM,ho] at hv
  (repeat' split at hv)
  all_goals first
   | contradiction
   | (simp[bV,bad] at hv;done)
end
end
section
variable {v x:AV}{hp:Hp}{o:Op}
section
variable {hp H:Hp}{tm tm':Env}
def ZL(hl:cz hp H){id:Nat}{rw pu ex:Bool}{sz:Nat}{cs:List AV}(h:ai hp id=D5 (.cells rw pu ex sz cs)):∃cm,ai H id=D5 (.cells cm pu ex sz cs):=by
 obtain⟨o',h1,cm,rfl,_⟩:=hl id _ h
 grind
def ZM(hl:cz hp H){id:Nat}{rw:Bool}{ks vs:List AV}(h:ai hp id=D5 (.mp rw ks vs)):∃cm,ai H id=D5 (.mp cm ks vs):=by
 obtain⟨o',h1,cm,rfl,_⟩:=hl id _ h
 grind
def QV(hl:cz hp H){sz:Nat}{ag:Bool}(h:fD hp sz ag x=D5 v):fD H sz ag x=D5 v:=by
 cases x<;>simp only[fD,reduceCtorEq] at h ⊢
 .rename_i id o
  cases hg:ai hp id with
  | none=>simp[hg] at h
  | some ob=>
   cases ob<;>simp only[hg,reduceCtorEq] at h
   obtain⟨r,h1⟩:=ZL hl hg
   grind
 .exact h
def ako(hl:cz hp H){k:AV}{v:Option AV}(h:Bq hp k x=D5 v):Bq H k x=D5 v:=by
 cases x<;>simp only[Bq,reduceCtorEq] at h ⊢
 .grind
 .rename_i id
  cases hg:ai hp id with
  | none=>simp[hg] at h
  | some ob=>
   cases ob<;>simp only[hg,reduceCtorEq] at h
   obtain⟨r,h1⟩:=ZM hl hg
   grind
 .exact h
def akp(hl:cz hp H){k:Nat}(h:iT hp k x=D5 v):iT H k x=D5 v:=by
 unfold iT at h ⊢
 split at h
 all_goals first
  | exact h
  | cases h
  | skip
 rename_i id
 cases hg:ai hp id with
 | none=>simp[hg] at h
 | some ob=>
  cases ob<;>simp only[hg,reduceCtorEq] at h
  obtain⟨r,h1⟩:=ZM hl hg
  grind
def akq(hl:cz hp H){k:Cut}{lo hi:Option X}(h:eP hp k x tm lo hi=D5 v):eP H k x tm lo hi=D5 v:=by
 unfold eP at h ⊢
 split at h
 all_goals first
  | exact h
  | cases h
  | skip
 rename_i sz id o n
 cases hg:ai hp id with
 | none=>simp[hg] at h
 | some ob=>
  cases ob<;>simp only[hg,reduceCtorEq] at h
  obtain⟨r,h1⟩:=ZL hl hg
  grind
def aiz(hl:cz hp H)(h:a7 tm hp o=D5 v):a7 tm H o=D5 v:=by
 cases o<;>simp only[a7,reduceCtorEq] at h ⊢<;>first
  | exact h
  | exact QV hl h
  | exact akp hl h
  | exact akq hl h
  | skip
 rename_i kk zero ok m k
 cases hk:nM kk (aw tm k) with
 | false=>rw[hk] at h;cases h
 | true=>
  rw[hk] at h
  cases hr:Bq hp (aw tm k) (aw tm m) with
  | none=>simp[hr] at h
  | some r=>rw[ako hl hr];simpa only[hr] using h
def aiA(hk:bf o=0)(hp H:Hp):a7 tm hp o=a7 tm H o:=by
 cases o with
 | pV k x lo hi=>
  cases k with
  | str=>simp only[a7,eP];cases aw tm x<;>rfl
  | sl sz=>simp[bf] at hk
  | ar n sz=>simp[bf] at hk
 | len k x=>
  match k,hk with
  | 0,_=>simp only[a7];unfold iT;split<;>simp_all
  | 1,_=>simp only[a7];unfold iT;split<;>simp_all
  | k+2,hk=>simp[bf] at hk
 | call md f xs=>cases md<;>simp[bf] at hk
 | _=>first
  | rfl
  | simp[bf] at hk
end
section
variable {tm tm':Env}
def da{x:X}(h:∀t,t∈iU x->aj tm' t=aj tm t):aw tm' x=aw tm x:=by
 cases x with
 | t i=>exact h i (by simp[iU])
 | c v=>rfl
def Cx:∀{xs:List X},(∀t,t∈zH xs->aj tm' t=aj tm t)->db tm' xs=db tm xs
 | [],_=>rfl
 | x::r,h=>by
  simp only[db]
  rw[da (x:=x) (fun t ht=>h t (by simp[zH,ht])),Cx (fun t ht=>h t (by simp[zH,ht]))]
def Ld:∀{ps:List (Nat×Nat×X)} {z:List AV},(∀t,t∈Ix ps->aj tm' t=aj tm t)->fill tm' z ps=fill tm z ps
 | [],_,_=>rfl
 | (o,s,x)::r,z,h=>by
  simp only[fill]
  rw[da (x:=x) (fun t ht=>h t (by simp[Ix,ht]))]
  rw[Ld (ps:=r) (fun t ht=>h t (by simp[Ix,ht]))]
def W4{d:Nat}{x:Option X}(h:∀t,t∈Iw x->aj tm' t=aj tm t):cC tm' d x=cC tm d x:=by
 cases x with
 | none=>rfl
 | some x=>simp only[cC];rw[da h]
def ahE{k:Cut}{lo hi:Option X}(h1:∀t,t∈Iw lo->aj tm' t=aj tm t)(h2:∀t,t∈Iw hi->aj tm' t=aj tm t):
  eP hp k x tm' lo hi=eP hp k x tm lo hi:=by
 unfold eP;simp only[W4 h1,W4 h2]
def ag8(h:∀t,t∈jE o->aj tm' t=aj tm t):a7 tm' hp o=a7 tm hp o:=by
 cases o<;>simp only[jE,xD] at h<;>simp only[a7]
 case pick c a b=>rw[da (x:=c) fun t ht=>h t (.inl ht),da (x:=a) fun t ht=>h t (.inr (.inl ht)),da (x:=b) fun t ht=>h t (.inr (.inr ht))]
 case CZ z ps=>rw[Ld h]
 case ol n s z ps=>rw[Ld h]
 case Fm f a b=>rw[Cx (xs:=a) fun t ht=>h t (.inl ht),Cx (xs:=b) fun t ht=>h t (.inr ht)]
 case pV k x lo hi=>rw[da (x:=x) fun t ht=>h t (.inl ht),ahE (fun t ht=>h t (.inr (.inl ht))) (fun t ht=>h t (.inr (.inr ht)))]
 case mn xs=>rw[Cx h]
 case mx xs=>rw[Cx h]
 case bin op x y=>rw[da (x:=x) fun t ht=>h t (.inl ht),da (x:=y) fun t ht=>h t (.inr ht)]
 case JN x y=>rw[da (x:=x) fun t ht=>h t (.inl ht),da (x:=y) fun t ht=>h t (.inr ht)]
 case eq n k x y=>rw[da (x:=x) fun t ht=>h t (.inl ht),da (x:=y) fun t ht=>h t (.inr ht)]
 case bD s x y=>rw[da (x:=x) fun t ht=>h t (.inl ht),da (x:=y) fun t ht=>h t (.inr ht)]
 case Fo l s x y=>rw[da (x:=x) fun t ht=>h t (.inl ht),da (x:=y) fun t ht=>h t (.inr ht)]
 case Fp x y=>rw[da (x:=x) fun t ht=>h t (.inl ht),da (x:=y) fun t ht=>h t (.inr ht)]
 case Fq l s g x y=>rw[da (x:=x) fun t ht=>h t (.inl ht),da (x:=y) fun t ht=>h t (.inr ht)]
 case Oq kk z ok x y=>rw[da (x:=x) fun t ht=>h t (.inl ht),da (x:=y) fun t ht=>h t (.inr ht)]
 all_goals first
  | rfl
  | (rename_i x;rw[da (x:=x) h])
def G3{an:Hp}{ct:Nat}(h:∀t,t∈jE o->aj tm' t=aj tm t):cg tm' an ct o=cg tm hp ct o:=by
 cases o<;>simp only[jE,xD] at h<;>simp only[cg]
 case box s x=>rw[da (x:=x) h]
 case iY n s z ps=>rw[Ld h]
 case oh s b z x y=>rw[da (x:=x) fun t ht=>h t (.inl ht),da (x:=y) fun t ht=>h t (.inr ht)]
 case pX x=>rw[da (x:=x) h]
def Cw{ct:Nat}(h:∀t,t∈jE o->aj tm' t=aj tm t):bV tm' hp ct o=bV tm hp ct o:=by
 cases o<;>simp only[jE,xD] at h<;>simp only[bV]
 case st s x y=>rw[da (x:=x) fun t ht=>h t (.inl ht),da (x:=y) fun t ht=>h t (.inr ht)]
 case pW kk c a b=>rw[da (x:=c) fun t ht=>h t (.inl ht),da (x:=a) fun t ht=>h t (.inr (.inl ht)),da (x:=b) fun t ht=>h t (.inr (.inr ht))]
 case pY x=>rw[da (x:=x) h]
 case df s b x y=>rw[da (x:=x) fun t ht=>h t (.inl ht),da (x:=y) fun t ht=>h t (.inr ht)]
 case p6 s x y=>rw[da (x:=x) fun t ht=>h t (.inl ht),da (x:=y) fun t ht=>h t (.inr ht)]
end
end
section
open Go
section
variable {r:AV}{bs:List Nat}{lo:Nat}{ab:Nat->Nat}{u:yg}
structure Calm(w w':yi):Prop where
 os:w'.os=w.os
 tape:w'.tape=w.tape
 output:w'.output=w.output
 size:w.heap.size<=w'.heap.size
 same:∀b,b<w.heap.size->w'.heap[b]? =w.heap[b]?
def Calm.refl{w:yi}:Calm w w:=⟨rfl,rfl,rfl,yq _,fun _ _=>rfl⟩
def Bs(O:bk)(w:yi):Prop:=(∀b,b<O.w0.heap.size->w.heap[b]? =O.w0.heap[b]?)/\O.w0.heap.size<=w.heap.size
def eB:Mp:=fun _=>D6
def iC(ab:Nat->Nat)(S:Nat->Prop)(w:yi)(lo:Nat):AV->yg->List Nat->Prop
 | .cu ex sz n cs,u,bs=>∃b o c arr t,bs=[b]/\u=.slice (D5 ⟨b,o,D6⟩) n c/\n<=c/\(ex=ycG->c=n)/\lo<=b/\¬S b/\w.heap[b]? =D5 (.cells arr t (0,0))/\cs.length=n*sz/\
   o+c*sz<=arr.size/\bL ab eB S w cs b o/\aD cs=ycG
 | r,u,bs=>bs=[]/\ae ab eB S w r u/\aS r=ycG
def kO(ab:Nat->Nat)(S:Nat->Prop)(w:yi)(lo:Nat):List AV->List yg->List Nat->Prop
 | [],us,bs=>us=[]/\bs=[]
 | v::r,us,bs=>∃u t b1 b2,us=u::t/\bs=b1++b2/\iC ab S w lo v u b1/\kO ab S w lo r t b2
def nZ(ab:Nat->Nat)(S:Nat->Prop)(w:yi)(lo:Nat)(r:AV)(u:yg):Prop:=
 match r with
 | .ay vs=>∃(us:Array yg) (bs:List Nat),u=.tuple us/\kO ab S w lo vs us.toList bs/\bs.Nodup
 | r=>∃bs,iC ab S w lo r u bs
def A9(P:xi)(f:tC)(args:Array yg)(w:yi)(R:yaH->yi->Prop):Prop:=
 ((callFunc f args).run P w=.ok (.enter f args) w/\CallsIn Fence.wide 0 P f args w R)\/∃u w',(callFunc f args).run P w=.ok (.value u) w'/\R (.returned u) w'
def YA(O:bk)(w:yi)(S:Nat->Prop)(r:AV)(e:yaH)(w':yi):Prop:=
 ∃u S',e=.returned u/\Calm w w'/\(∀b,S b->S' b)/\(∀b,S' b->S b\/w.heap.size<=b)/\(∀b,S' b->b<w'.heap.size)/\nZ O.ab S' w' w.heap.size r u
def dL(O:bk)(n:Nat)(ap:List AV)(r:AV):Prop:=
 ∀(w:yi) (S:Nat->Prop) (args:Array yg),Bs O w->(∀b,S b->b<w.heap.size)->ax O.ab eB S w ap args.toList->aD ap=ycG->
  A9 O.P (O.ab n) args w (YA O w S r)
def zx(O:bk)(m:Mp)(S:Nat->Prop)(w:yi)(hp:Hp)(ct:Nat)(v:AV)(an:Hp)(aK:Nat)(e:yaH)(w':yi):Prop:=
 ∃u m' S',e=.returned u/\aP O m' S' w' an aK/\ct<=aK/\ae O.ab m' S' w' v u/\bR m S w hp m' S' w' an ct
def Bt(O:bk)(n:Nat)(hp:Hp)(ct:Nat)(ap:List AV)(v:AV)(an:Hp)(aK:Nat):Prop:=
 ∀(m:Mp) (S:Nat->Prop) (w:yi) (args:Array yg),aP O m S w hp ct->ax O.ab m S w ap args.toList->A9 O.P (O.ab n) args w (zx O m S w hp ct v an aK)
section
variable {ab:Nat->Nat}{m m':Mp}{S S':Nat->Prop}{w w':yi}
mutual
def qH(hS:∀b,S b->S' b)(hw:fg S w w'):∀(v:AV) (u:yg),aS v=ycG->ae ab m S w v u->ae ab m' S' w' v u
 | .int _ _,_,_,h | .bool _,_,_,h | .au _ _,_,_,h | .cK _ _ _,_,_,h | .str _,_,_,h | .jq,_,_,h | .ah,_,_,h | .fR,_,_,h | .iw,_,_,h | .undef,_,_,h=>by
  simpa only[ae] using h
 | .ptr id o,u,hp,h=>by simp[aS] at hp
 | .bJ cs,u,hp,h=>by
  simp only[ae] at h ⊢;obtain⟨b,o,h1,h2,h3,h4⟩:=h;refine⟨b,o,h1,h2.imp id (hS b),h3,?_⟩;rcases h2 with rfl | h2
  .simp only [bL]
  .exact PE hS hw cs b o h3 h2 h4
 | .aq ex n cs,u,hp,h=>by
  simp only[ae] at h ⊢;rcases h with ⟨b,o,c,h1,h2,h3,h4,h5,h6⟩ | h
  .refine .inl ⟨b,o,c,h1,h2,h3,h4.imp id (hS b),h5,?_⟩;rcases h4 with rfl | h4
   .simp only [bL]
   .exact PE hS hw cs b o h5 h4 h6
  .exact .inr h
 | .cu _ _ _ _,u,hp,h=>by simp[aS] at hp
 | .av id o n,u,hp,h=>by simp[aS] at hp
 | .fn (.f g) first cap,u,hp,h=>by
  simp only[ae] at h ⊢;simp only[aS,ye] at hp;obtain⟨fi,ca,h1,h2,h3⟩:=h;exact⟨fi,ca,h1,zu hS hw first _ hp.1 h2,zu hS hw cap _ hp.2 h3⟩
 | .fn (.y l) _ _,u,hp,h=>by simp[aS] at hp
 | .map id,u,hp,h=>by simp[aS] at hp
 | .iz ks vs,u,hp,h=>by
  simp only[ae] at h ⊢;obtain⟨b,es,clock,h1,h2,h3,h4,h5,h6,h7⟩:=h;exact⟨b,es,clock,h1,hS b h2,h3,h4,(hw b h2).trans h5,zu hS hw ks _ h3 h6,zu hS hw vs _ h4 h7⟩
 | .it id,u,hp,h=>by simp[aS] at hp
 | .agg cs,u,hp,h=>by
  simp only[ae] at h ⊢;simp only[aS] at hp;obtain⟨xs,h1,h2⟩:=h;exact⟨xs,h1,zu hS hw cs _ hp h2⟩
 | .ay cs,u,hp,h=>by
  simp only[ae] at h ⊢;simp only[aS] at hp;obtain⟨xs,h1,h2⟩:=h;exact⟨xs,h1,zu hS hw cs _ hp h2⟩
def zu(hS:∀b,S b->S' b)(hw:fg S w w'):∀(vs:List AV) (us:List yg),aD vs=ycG->ax ab m S w vs us->ax ab m' S' w' vs us
 | [],us,_,h=>by simpa only[ax] using h
 | v::r,us,hp,h=>by
  simp only[ax] at h ⊢;simp only[aD,ye] at hp;have⟨u,t,h1,h2,h3⟩:=h;exact⟨u,t,h1,qH hS hw v u hp.1 h2,zu hS hw r t hp.2 h3⟩
def PE(hS:∀b,S b->S' b)(hw:fg S w w'):∀(cs:List AV) (b o:Nat),aD cs=ycG->S b->bL ab m S w cs b o->bL ab m' S' w' cs b o
 | [],_,_,_,_,_=>by simp only[bL]
 | c::cs,b,o,hp,hb,h=>by
  simp only[bL] at h ⊢;simp only[aD,ye] at hp;have⟨⟨u,h1,h2⟩,h3⟩:=h;exact⟨⟨u,(KM (hw b hb)).trans h1,qH hS hw c u hp.1 h2⟩,PE hS hw cs b (o+1) hp.2 hb h3⟩
end
def AP(hS:∀b,S b->S' b)(hw:fg S w w'):∀(cs:List AV) (b o:Nat),aD cs=ycG->w'.heap[b]? =w.heap[b]? ->bL ab m S w cs b o->bL ab m' S' w' cs b o
 | [],_,_,_,_,_=>by simp only[bL]
 | c::cs,b,o,hp,hb,h=>by
  simp only[aD,ye] at hp;have⟨⟨u,h1,h2⟩,h3⟩:=h;exact⟨⟨u,(KM hb).trans h1,qH hS hw c u hp.1 h2⟩,AP hS hw cs b (o+1) hp.2 hb h3⟩
end
section
variable {O:bk}{m:Mp}{S S':Nat->Prop}{w w':yi}{hp:Hp}{ct:Nat}
def aiB(hh:aP O m S w hp ct)(hw:Calm w w'):fg S w w':=fun b hb=>hw.same b (hh.slt b hb)
def AW(hh:aP O m S w hp ct)(hw:Calm w w')(hS:∀b,S b->S' b)(hn:∀b,S' b->S b\/w.heap.size<=b)(hl:∀b,S' b->b<w'.heap.size):aP O m S' w' hp ct where
 obj id o p ho hm:=rM (fun _ _ h=>h) hS (aiB hh hw) (fun q hq=>hw.same _ (hh.blt id q hq)) (fun q hq hs=>(hn _ hs).resolve_right (by have:=hh.blt id q hq;lia)) (hh.obj id o p ho hm)
 lt:=hh.lt
 inj:=hh.inj
 slt:=hl
 blt id p h:=yE (hh.blt id p h) hw.size
 low:=hh.low
 lB b hb:=(hw.same b (yE hb hh.fk)).trans (hh.lB b hb)
 fk:=y9 hh.fk hw.size
 aB:=hh.aB
def zy{base:Nat}(hh:aP O m S w hp ct)(hw:Calm w w')(hS:∀b,S b->S' b)(hn:∀b,S' b->S b\/w.heap.size<=b):bR m S w hp m S' w' hp base where
 os:=hw.os
 tape:=hw.tape
 output:=hw.output
 size:=hw.size
 same b hb _:=hw.same b hb
 sub:=hS
 still b hb:=hw.same b (hh.slt b hb)
 new b hb:=(hn b hb).imp id .inr
 own b hb:=.inl hb
 old _ _ _ h:=h
 loops b r hb:=⟨r,(hw.same b (xo.1 hb).1).trans hb⟩
def akr{i:Nat}(hh:aP O m S w hp ct)(hi:m i=D6)(Fu:i<ct){p:Pl}(hb:p.b<w.heap.size)(aZ:O.w0.heap.size<=p.b)(Fv:¬S p.b)(oD:∀j q,m j=D5 q->q.b≠p.b)(hf:∀o,ai hp i=D5 o->(eH O (eR m i p) S w i o/\¬ij o)\/(ij o/\eH O (eR m i p) (fun b=>S b\/b=p.b) w i o)):
  ∃S',aP O (eR m i p) S' w hp ct/\(∀b,S b->S' b)/\∀b,S' b->S b\/b=p.b:=by
 have aQ:fg S w w:=fun _ _=>rfl
 have gen:∀S':Nat->Prop,(∀b,S b->S' b)->(∀b,S' b->S b\/b=p.b)->(∀o,ai hp i=D5 o->eH O (eR m i p) S' w i o)->aP O (eR m i p) S' w hp ct:=by
  intro S' h1 h2 h3;refine⟨?_,?_,?_,?_,?_,?_,hh.lB,hh.fk,hh.aB⟩
  .intro id o q ho hm;by_cases hc:id=i
   .grind
   .rw [dK hc] at hm;refine rM (iQ hi) h1 aQ (fun _ _=>rfl) (fun q' bE hs=>?_) (hh.obj id o q ho hm)
    grind
  .intro id q hm;by_cases hc:id=i
   .grind
   .rw [dK hc] at hm;exact hh.lt id q hm
  .intro a b oa ob pa pb ha bm DF Ad e;by_cases ca:a=i
   .by_cases cb:b=i
    .grind
    .subst ca;rw[c9] at DF;rw[dK cb] at Ad
     grind
   .rw [dK ca] at DF;by_cases cb:b=i
    .subst cb;rw[c9] at Ad
     grind
    .rw [dK cb] at Ad;exact hh.inj a b oa ob pa pb ha bm DF Ad e
  .intro b hs;rcases h2 b hs with h | h
   .exact hh.slt b h
   .grind
  .intro id q hm;by_cases hc:id=i
   .subst hc;rw[c9] at hm
    grind
   .rw [dK hc] at hm;exact hh.blt id q hm
  .intro id q hm;by_cases hc:id=i
   .subst hc;rw[c9] at hm
    grind
   .rw [dK hc] at hm;exact hh.low id q hm
 cases ho:ai hp i with
 | none=>exact⟨S,gen S (fun _ h=>h) (fun _ h=>.inl h) (fun o h=>by rw[ho] at h;cases h),fun _ h=>h,fun _ h=>.inl h⟩
 | some o=>
  rcases hf o ho with ⟨h1,_⟩ | ⟨_,h1⟩
  .exact ⟨S,gen S (fun _ h=>h) (fun _ h=>.inl h) (fun o' h=>by rw[ho] at h;injection h with h;subst h;exact h1),fun _ h=>h,fun _ h=>.inl h⟩
  .exact ⟨_,gen (fun b=>S b\/b=p.b) (fun _ h=>.inl h) (fun _ h=>h) (fun o' h=>by rw[ho] at h;injection h with h;subst h;exact h1),fun _ h=>.inl h,fun _ h=>h⟩
def XL(h:iC ab S w lo r u bs)(m:Mp)(hS:∀b,S b->S' b)(jv:∀b,b∈bs->S' b):ae ab m S' w (bX r) u:=by
 have aQ:fg S w w:=fun _ _=>rfl
 cases r with
 | cu ex sz n cs=>
  obtain⟨b,o,c,arr,t,rfl,rfl,h1,h2,h3,h4,h5,h6,h7,h8,h9⟩:=h;exact .inl ⟨b,o,c,rfl,h1,h2,.inr (jv b (by simp)),h9,AP hS aQ cs b o h9 rfl h8⟩
 | _=>simp only[iC] at h;exact qH hS aQ _ _ h.2.2 h.2.1
def XM{ab:Nat->Nat}{lo:Nat}(m:Mp)(hS:∀b,S b->S' b):∀{vs:List AV} {us:List yg} {bs:List Nat},kO ab S w lo vs us bs->(∀b,b∈bs->S' b)->ax ab m S' w (C0 vs) us
 | [],us,bs,h,_=>by simp only[kO] at h;exact h.1
 | v::r,us,bs,h,hb=>by
  obtain⟨u,t,b1,b2,rfl,rfl,h1,h2⟩:=h;exact⟨u,t,rfl,XL h1 m hS (fun b bm=>hb b (by simp[bm])),XM m hS h2 (fun b bm=>hb b (by simp[bm]))⟩
def QW(h:iC ab S w lo r u bs):∀b,b∈bs->lo<=b/\b<w.heap.size:=by
 intro b hb
 cases r with
 | cu ex sz n cs=>
  simp only[iC] at h
  grind
 | _=>simp only[iC] at h;rw[h.1] at hb;cases hb
def QX{ab:Nat->Nat}{lo:Nat}:∀{vs:List AV} {us:List yg} {bs:List Nat},kO ab S w lo vs us bs->∀b,b∈bs->lo<=b/\b<w.heap.size
 | [],us,bs,h,b,hb=>by simp only[kO] at h;rw[h.2] at hb;cases hb
 | v::r,us,bs,h,b,hb=>by
  obtain⟨u,t,b1,b2,rfl,rfl,h1,h2⟩:=h;rcases xD.1 hb with hb | hb
  .exact QW h1 b hb
  .exact QX h2 b hb
def XN(h:nZ ab S w lo r u)(m:Mp):∃S',(∀b,S b->S' b)/\(∀b,S' b->S b\/(lo<=b/\b<w.heap.size))/\ae ab m S' w (shut r) u:=by
 have one:∀(r:AV) (bs:List Nat),shut r=bX r->iC ab S w lo r u bs->∃S',(∀b,S b->S' b)/\(∀b,S' b->S b\/(lo<=b/\b<w.heap.size))/\ae ab m S' w (shut r) u:=by
  intro r bs hs h;refine⟨fun b=>S b\/b∈bs,fun _ h=>.inl h,fun b hb=>hb.imp (fun x=>x) (fun hb=>QW h b hb),?_⟩;rw[hs];exact XL h m (fun _ h=>.inl h) (fun _ h=>.inr h)
 cases r with
 | ay vs=>
  obtain⟨us,bs,rfl,h1,h2⟩:=h;refine⟨fun b=>S b\/b∈bs,fun _ h=>.inl h,fun b hb=>hb.imp (fun x=>x) (fun hb=>QX h1 b hb),?_⟩;exact⟨us,rfl,XM m (fun _ h=>.inl h) h1 (fun _ h=>.inr h)⟩
 | _=>
  have⟨bs,h⟩:=h;exact one _ bs rfl h
end
end
end
section
open Go
section
variable {r:AV}{hp:Hp}{ct:Nat}
section
variable {O:bk}{m:Mp}{S:Nat->Prop}{w:yi}{H:Hp}{cH:Nat}
def LN:ct<=(eQ hp ct r).2.2:=by
 cases r<;>simp only[eQ]<;>lia
def LO:∀{vs:List AV} {hp:Hp} {ct:Nat},ct<=(jK hp ct vs).2.2
 | [],hp,ct=>by simp[jK]
 | v::r,hp,ct=>by
  simp only[jK];have h1:=LN (hp:=hp) (ct:=ct) (r:=v);have h2:=LO (vs:=r) (hp:=(eQ hp ct v).2.1) (ct:=(eQ hp ct v).2.2)
  lia
def QY(hf:∀id o,ai hp id=D5 o->id<ct):∀id o,ai hp id=D5 o->ai (eQ hp ct r).2.1 id=D5 o:=by
 intro id o h;cases r<;>simp only[eQ]<;>try exact h
 rw[eO,yx (by have:=hf id o h;lia)]
 exact h
def ZN{lo:Nat}{u:yg}{bs:List Nat}(hh:aP O m S w H cH)(hl:cz (eQ hp ct r).2.1 H)(fH:(eQ hp ct r).2.2<=cH)(hn:∀id,ct<=id->id<(eQ hp ct r).2.2->m id=D6)(hr:iC O.ab S w lo r u bs)(aZ:O.w0.heap.size<=lo)(oD:∀j q,m j=D5 q->q.b∉bs):
  ∃m' S',aP O m' S' w H cH/\cL m m'/\(∀id p,m' id=D5 p->m id=D5 p\/(ct<=id/\id<(eQ hp ct r).2.2/\p.b∈bs))/\ae O.ab m' S' w (eQ hp ct r).1 u/\(∀b,S b->S' b)/\(∀b,S' b->S b\/b∈bs):=by
 have aQ:fg S w w:=fun _ _=>rfl
 cases r with
 | cu ex sz n cs=>
  simp only[eQ] at hl fH hn;obtain⟨b,o,c,arr,t,rfl,rfl,h1,h2,h3,h4,h5,h6,h7,h8,h9⟩:=hr;have bB:m ct=D6:=hn ct (yq _) (Nat.lt_succ_self _);have auS:b<w.heap.size:=(xo.1 h5).1;have oA:eH O (eR m ct ⟨b,o,c*sz,sz⟩) S w ct (.cells ycG ycG ex sz cs):=by
   refine⟨_,arr,t,c9,h5,rfl,?_,h7,fun hx=>?_,AP (fun _ h=>h) aQ cs b o h9 rfl h8,fun _=>h9,fun _=>h4,by simp⟩
   .show cs.length<=c*sz
    rw[h6];exact yL _ h1
   .grind
  have⟨S',k1,k2,k3⟩:=akr (p:=⟨b,o,c*sz,sz⟩) hh bB (by lia) auS (by show _<=b;lia) h4 (fun j q hq e=>oD j q hq (by rw[e];simp)) (fun o' iH=>by
   have⟨Us,g1,g2⟩:=hl ct (.cells ycG ycG ex sz cs) (by rw[eO];simp)
   rw[iH] at g1;injection g1 with g1
   subst g1
   exact Pu (p:=⟨b,o,c*sz,sz⟩) g2 c9 oA (by simp[ij]))
  refine⟨_,S',k1,iQ bB,fun id p an=>?_,?_,k2,fun b' bm=>(k3 b' bm).imp (fun h=>h) (fun h=>by rw[h];simp)⟩
  .by_cases hc:id=ct
   .subst hc;rw[c9] at an;injection an with an
    subst an;exact .inr ⟨yq _,by simp[eQ],by simp⟩
   .rw [dK hc] at an;exact .inl an
  .simp only [eQ,ae];exact⟨_,c,c9,by simp,h1,by simp⟩
 | _=>
  exact⟨m,S,hh,cL.refl,fun _ _ h=>.inl h,qH (fun _ h=>h) aQ _ _ hr.2.2 hr.2.1,fun _ h=>h,fun _ h=>.inl h⟩
def Hz(hf:∀id o,ai hp id=D5 o->id<ct):∀id o,ai (eQ hp ct r).2.1 id=D5 o->id<(eQ hp ct r).2.2:=by
 intro id o h;cases r<;>simp only[eQ] at h ⊢<;>try exact hf id o h
 rw[eO] at h
 grind
def LP:∀{vs:List AV} {hp:Hp} {ct:Nat},(∀id o,ai hp id=D5 o->id<ct)->∀id o,ai hp id=D5 o->ai (jK hp ct vs).2.1 id=D5 o
 | [],hp,ct,_,id,o,h=>by simpa[jK] using h
 | v::r,hp,ct,hf,id,o,h=>by
  exact LP (Hz hf) id o (QY hf id o h)
def ZO{lo:Nat}(aZ:O.w0.heap.size<=lo):∀{vs:List AV} {us:List yg} {bs:List Nat} {hp:Hp} {ct:Nat} {m:Mp} {S:Nat->Prop},aP O m S w H cH->cz (jK hp ct vs).2.1 H->(jK hp ct vs).2.2<=cH->
  (∀id o,ai hp id=D5 o->id<ct)->(∀id,ct<=id->id<(jK hp ct vs).2.2->m id=D6)->
  kO O.ab S w lo vs us bs->bs.Nodup->(∀j q,m j=D5 q->q.b∉bs)->
  ∃m' S',aP O m' S' w H cH/\cL m m'/\(∀id p,m' id=D5 p->m id=D5 p\/(ct<=id/\id<(jK hp ct vs).2.2/\p.b∈bs))/\ax O.ab m' S' w (jK hp ct vs).1 us/\(∀b,S b->S' b)/\(∀b,S' b->S b\/b∈bs)
 | [],us,bs,hp,ct,m,S,hh,hl,fH,hf,hn,hr,kS,oD=>by
  simp only[kO] at hr;exact⟨m,S,hh,cL.refl,fun _ _ h=>.inl h,by simp only[jK,ax];exact hr.1,fun _ h=>h,fun _ h=>.inl h⟩
 | v::r,us,bs,hp,ct,m,S,hh,hl,fH,hf,hn,hr,kS,oD=>by
  simp only[kO] at hr;obtain⟨u,t,b1,b2,rfl,rfl,h1,h2⟩:=hr;simp only[jK] at hl fH hn ⊢;have dW:=LN (hp:=hp) (ct:=ct) (r:=v);have rn:=LO (vs:=r) (hp:=(eQ hp ct v).2.1) (ct:=(eQ hp ct v).2.2);rw[List.nodup_append] at kS;have⟨m1,S1,k1,k2,k3,k4,k5,k6⟩:=ZN (hp:=hp) (ct:=ct) (lo:=lo) hh ((fun id o h=>hl id o (LP (Hz hf) id o h))) (by lia) (fun id g1 g2=>hn id g1 (by lia)) h1 aZ
   (fun j q hq hb=>oD j q hq (by simp[hb]))
  have h2':kO O.ab S1 w lo r t b2:=by
   clear k4;have SL:∀b,S1 b->S b\/b∈b1:=k6;have hd:∀b,b∈b2->b∉b1:=fun b hb gh=>kS.2.2 b gh b hb rfl
   have one:∀{v:AV} {u:yg} {bb:List Nat},(∀b,b∈bb->b∉b1)->iC O.ab S w lo v u bb->iC O.ab S1 w lo v u bb:=by
    intro v u bb sX h
    cases v with
    | cu ex sz n cs=>
     simp only[iC] at h ⊢;obtain⟨b,o,c,arr,tt,rfl,rfl,g1,g2,g3,g4,g5,g6,g7,g8,g9⟩:=h;exact⟨b,o,c,arr,tt,rfl,rfl,g1,g2,g3,fun hs=>(SL b hs).elim g4 (sX b (by simp)),g5,g6,g7,AP k5 (fun _ _=>rfl) cs b o g9 rfl g8,g9⟩
    | _=>simp only[iC] at h ⊢;exact⟨h.1,qH k5 (fun _ _=>rfl) _ _ h.2.2 h.2.1,h.2.2⟩
   clear k1 k2 k3 hl fH hn oD kS;revert hd h2;generalize b2=bb
   induction r generalizing t bb with
   | nil=>intro h2 hd;simpa only[kO] using h2
   | cons v' r ih=>
    intro h2 hd;simp only[kO] at h2 ⊢;obtain⟨u',t',c1,c2,rfl,rfl,g1,g2⟩:=h2
    exact⟨u',t',c1,c2,rfl,rfl,one (fun b hb=>hd b (by simp[hb])) g1,ih _ (by
     have:=LO (vs:=r) (hp:=(eQ hp ct v).2.1) (ct:=(eQ hp ct v).2.2)
     exact this) _ g2 (fun b hb=>hd b (by simp[hb]))⟩
  have⟨m2,S2,g1,g2,g3,g4,g5,g6⟩:=ZO aZ (vs:=r) (us:=t) (bs:=b2) (m:=m1) (S:=S1) k1 hl fH (Hz hf) (fun id q1 q2=>by
   cases hq:m1 id with
   | none=>rfl
   | some p=>
    rcases k3 id p hq with h | ⟨_,h,_⟩
    .rw [hn id (by lia) q2] at h;cases h
    .lia) h2' kS.2.1 (fun j q hq hb=>by
     rcases k3 j q hq with h | ⟨_,_,h⟩
     .exact oD j q h (by simp[hb])
     .exact kS.2.2 q.b h q.b hb rfl)
  refine⟨m2,S2,g1,k2.trans g2,fun id p an=>?_,?_,fun b hb=>g5 b (k5 b hb),fun b hb=>?_⟩
  .rcases g3 id p an with h | ⟨a1,a2,a3⟩
   .rcases k3 id p h with h | ⟨a1,a2,a3⟩
    .exact .inl h
    .exact .inr ⟨a1,by lia,by simp[a3]⟩
   .exact .inr ⟨by lia,a2,by simp[a3]⟩
  .simp only [ax];exact⟨u,t,rfl,kZ g2 g5 (fun _ _=>rfl) _ _ k4,g4⟩
  .rcases g6 b hb with h | h
   .exact (k6 b h).imp (fun h=>h) (fun h=>by simp[h])
   .exact .inr (by simp[h])
def ao0{lo:Nat}{u:yg}(hh:aP O m S w H cH)(hl:cz (own hp ct r).2.1 H)(fH:(own hp ct r).2.2<=cH)(hf:∀id o,ai hp id=D5 o->id<ct)(hn:∀id,ct<=id->id<(own hp ct r).2.2->m id=D6)(hr:nZ O.ab S w lo r u)(aZ:O.w0.heap.size<=lo)(JW:∀j q,m j=D5 q->q.b<lo):
  ∃m' S',aP O m' S' w H cH/\cL m m'/\(∀id p,m' id=D5 p->m id=D5 p\/(ct<=id/\id<(own hp ct r).2.2/\lo<=p.b))/\ae O.ab m' S' w (own hp ct r).1 u/\(∀b,S b->S' b)/\(∀b,S' b->S b\/lo<=b):=by
 have one:∀(r:AV) (bs:List Nat),own hp ct r=eQ hp ct r->iC O.ab S w lo r u bs->cz (own hp ct r).2.1 H->(own hp ct r).2.2<=cH->(∀id,ct<=id->id<(own hp ct r).2.2->m id=D6)->
   ∃m' S',aP O m' S' w H cH/\cL m m'/\(∀id p,m' id=D5 p->m id=D5 p\/(ct<=id/\id<(own hp ct r).2.2/\lo<=p.b))/\ae O.ab m' S' w (own hp ct r).1 u/\(∀b,S b->S' b)/\(∀b,S' b->S b\/lo<=b):=by
  intro r bs he hr hl fH hn;rw[he] at hl fH hn ⊢;have Dj:=QW hr;have⟨m',S',k1,k2,k3,k4,k5,k6⟩:=ZN hh hl fH hn hr aZ (fun j q hq hb=>by have:=JW j q hq;have:=(Dj _ hb).1;lia)
  exact⟨m',S',k1,k2,fun id p h=>(k3 id p h).imp (fun h=>h) (fun h=>⟨h.1,h.2.1,(Dj _ h.2.2).1⟩),k4,k5,fun b hb=>(k6 b hb).imp (fun h=>h) (fun h=>(Dj _ h).1)⟩
 cases r with
 | ay vs=>
  simp only[own] at hl fH hn ⊢;simp only[nZ] at hr;obtain⟨us,bs,rfl,h1,h2⟩:=hr;have Dj:=QX h1;have⟨m',S',k1,k2,k3,k4,k5,k6⟩:=ZO aZ hh hl fH hf hn h1 h2 (fun j q hq hb=>by have:=JW j q hq;have:=(Dj _ hb).1;lia)
  exact⟨m',S',k1,k2,fun id p h=>(k3 id p h).imp (fun h=>h) (fun h=>⟨h.1,h.2.1,(Dj _ h.2.2).1⟩),by simp only[ae];exact⟨us,rfl,k4⟩,k5,fun b hb=>(k6 b hb).imp (fun h=>h) (fun h=>(Dj _ h).1)⟩
 | _=>
  simp only[nZ] at hr;have⟨bs,hr⟩:=hr;exact one _ bs rfl hr hl fH hn
end
end
end
end VE
