import GoSem.Core.Code
import GoSem.Core.Float
import GoSem.Core.Utf8
import Derived.CallsIn
import Derived.Laws.World
import GoSem.Op.Equal
import GoSem.Core.Region
import Derived.Below
import Derived.Laws.AppendOwn
import Derived.Laws.Rows
import Derived.WalkKit
import Derived.Laws.CopyRow
import Derived.Laws.Cells
import Derived.Laws.Strings
import Derived.Lib.Strings
import Derived.WideLaws
import Derived.Maps.Keyed
import Derived.ChangeKeysEq
import Derived.Laws.Tables
import Derived.IntWalk
import Derived.Laws.CopyOwn
set_option linter.all false
set_option maxRecDepth 100000
open Array renaming getElem?_eq_some_iff->xC,getElem?_modify->yaJ,getElem?_toList->tn,length_toList->vE,range->tE
open BitVec renaming ofInt->wv
open Bool renaming and_assoc->yat,and_eq_true->ye,eq_iff_iff->yam,false_eq_true->yD,not_eq_true'->vR
open ForInStep renaming yield->yaS
open Go renaming Addr->uL,BinOp->wX,Code->vz,Ending->yaU,Field->ua,FloatKind->wc,FuncId->tS,IntKind->xe,Loop->uV,MapEntry->wY,Next->yaI,Obj->yan,Oper->yU,Operand->xA,Program->xx,TypeDesc->tM,TypeId->yA,TypeInfo->ycZ,UnOp->ycH,Value->yh,World->yk,binOp->wh,sizeOf->vA
open Go.Utf8 renaming runeError->uN,valid->ybr
open List renaming all_cons->yah,append_assoc->xD,cons_append->yj,drop_drop->vM,eq_nil_of_length_eq_zero->yK,ext_getElem?->ybm,flatten_append->yaX,flatten_cons->uB,getElem?_append_left->wF,getElem?_append_right->wu,getElem?_drop->ybj,getElem?_eq_getElem->xv,getElem?_map->uW,getElem?_take_of_lt->ta,getElem?_toArray->yaN,length_append->yJ,length_cons->yF,length_drop->we,length_take->yQ,map_cons->xb,map_eq_nil_iff->yaW,mem_append->xF,range->xY,replicate->yz,replicate_succ->wP,size_toArray->tp,take_of_length_le->yE,take_succ_cons->wG,take_zero->ybK
open List.cons renaming injEq->tW
open Nat renaming add_assoc->uP,add_mul->xR,add_zero->yX,beq->yq,beq_eq->ycV,beq_refl->wQ,ble->yB,ble_eq->ycW,blt->yL,eq_of_beq_eq_true->yg,eq_zero_or_pos->xq,le_of_ble_eq_true->yt,le_refl->yp,le_trans->xo,lt_of_lt_of_le->yG,min_le_left->ybM,mul_comm->xt,mul_le_mul_right->yO,one_mul->tZ,testBit->vH,zero_add->yd
open Option renaming isSome_none->tL,map_none->uA,map_some->wO
open Option.some renaming injEq->yc
open PUnit renaming unit->yar
open Prod.mk renaming injEq->yo
open UInt8 renaming toNat->xr,toNat_inj->ybs
open Option renaming some->Gp,none->Gq
open Bool renaming true->ydb,false->ydc
def vQ:=@and_true
def tT:=@beq_iff_eq
def tO:=@beq_self_eq_true
def yP:=@cond_false
def yu:=@cond_true
def tQ:=@decide_eq_decide
def yW:=@decide_eq_false
def xk:=@decide_eq_true
def vS:=@decide_eq_true_eq
def yM:=@decide_false
def yI:=@decide_true
def ycv:=@false_or
def xz:=@if_false
def yr:=@if_neg
def yC:=@if_pos
def xP:=@if_true
def ycX:=@not_false_eq_true
def ycY:=@not_true_eq_false
def tN:=@true_and
namespace VE
section
open Go (IntKind FloatKind BinOp UnOp)
inductive Fr where
 | f (n:Nat)
 | y (l:Nat)
 deriving DecidableEq,Inhabited
inductive AV where
 | int (k:xe) (n:Int)
 | bool (b:Bool)
 | aw (k:wc) (bits:Nat)
 | dh (k:wc) (re im:Nat)
 | str (s:List Nat)
 | kN
 | ptr (id off:Nat)
 | bC (cells:List AV)
 | ah
 | ap (ex:Bool) (n:Nat) (cells:List AV)
 | cF (ex:Bool) (sz n:Nat) (cells:List AV)
 | aq (id off n:Nat)
 | fn (f:Fr) (first cap:List AV)
 | iE
 | jF
 | map (id:Nat)
 | jG (ks vs:List AV)
 | it (id:Nat)
 | agg (cells:List AV)
 | av (vs:List AV)
 | undef
 deriving Inhabited
inductive X where
 | t (i:Nat)
 | c (v:AV)
 deriving Inhabited
inductive Conv where
 | toInt (k:xe)
 | toFlt (k:wc)
 | str
 | re
 | im
 deriving Inhabited
inductive Md where
 | pure | own | heap | dyn
 deriving Inhabited
inductive Cut where
 | str
 | sl (sz:Nat)
 | ar (len sz:Nat)
 deriving Inhabited
inductive Sl where
 | b | sl | fn | ag (ks:List Nat)
 deriving Inhabited
inductive Op where
 | rR (x:X)
 | pick (c a b:X)
 | box (sz:Nat) (x:X)
 | ER (zero:List AV) (parts:List (Nat×Nat×X))
 | kj (n sz:Nat) (zero:List AV) (parts:List (Nat×Nat×X))
 | ld (sz:Nat) (ag:Bool) (x:X)
 | st (sz:Nat) (x v:X)
 | LK (x:X)
 | bin (op:wX) (x y:X)
 | eq (ne:Bool) (k:Sl) (x y:X)
 | un (op:ycH) (x:X)
 | cv (k:Conv) (x:X)
 | H8 (f:Fr) (first cap:List X)
 | BY
 | p8 (sz bytes:Nat) (zero:List AV) (len cap:X)
 | rS (k:Cut) (x:X) (lo hi:Option X)
 | off (k:Nat) (x:X)
 | MQ (o sz:Nat) (ag:Bool) (x:X)
 | bk (sz:Nat) (x i:X)
 | H9 (len sz:Nat) (x i:X)
 | Ia (x i:X)
 | Ib (len sz:Nat) (ag:Bool) (x i:X)
 | Sm (kk:Nat) (zero:AV) (ok:Bool) (m k:X)
 | rT (kk:Nat) (m k v:X)
 | rU (x:X)
 | rV (x:X)
 | ext (i:Nat) (x:X)
 | call (m:Md) (f:X) (xs:List X)
 | j0 (rs:List (Nat×Bool×Nat)) (f:X) (xs:List X)
 | lP (rs:List (Nat×Bool×Nat)) (sz:Nat) (x v:X)
 | my (rs:List (Nat×Bool×Nat)) (sz bytes:Nat) (s x:X)
 | di (sz bytes:Nat) (s x:X)
 | rW (sz bytes:Nat) (s x:X)
 | rX (sz:Nat) (d s:X)
 | len (k:Nat) (x:X)
 | mn (xs:List X)
 | mx (xs:List X)
 | MR (x y:X)
 | p9 (n sz:Nat) (zero:List AV) (parts:List (Nat×Nat×X))
 deriving Inhabited
structure aS where
 dst:Option Nat
 guard:Option (Nat×Bool)
 op:Op
 deriving Inhabited
inductive VC where
 | skip
 | oO (ops:List aS)
 | seq (a b:VC)
 | cond (x:X) (a b:VC)
 | eb (id:Nat) (a:VC)
 | kp (live:List Nat)
 | fz (ts:List Nat)
 | loop (live:List Nat) (a:VC)
 | rf (f:X) (ps:List Nat) (assign body:VC)
 | exit (id:Nat)
 | ret
 deriving Inhabited
inductive RV where
 | t (i:Nat)
 | cell (i sz:Nat) (ag:Bool)
 deriving Inhabited
structure az where
 dR:List RV
 body:VC
 deriving Inhabited
inductive sY where
 | none | ret | exit (id:Nat)
 deriving Inhabited,DecidableEq
abbrev Env:=List (Nat×AV)
inductive Obj where
 | cells (rw pu ex:Bool) (sz:Nat) (cs:List AV)
 | mp (rw:Bool) (ks vs:List AV)
 | si (s:List Nat) (pos:Nat)
 | lp (tm:Env) (ps:List Nat) (assign body:VC) (state:Nat) (pending:sY)
 deriving Inhabited
abbrev Hp:=List (Nat×Obj)
structure St where
 tm:Env
 hp:Hp
 ct:Nat
 base:Nat
 deriving Inhabited
inductive Ex where
 | normal
 | ret
 | exit (id:Nat)
 deriving Inhabited,DecidableEq
def ak:Env->Nat->AV
 | [],_=>.undef
 | (j,v)::r,i=>bif yq j i then v else ak r i
def ai:Hp->Nat->Option Obj
 | [],_=>Gq
 | (j,o)::r,i=>bif yq j i then Gp o else ai r i
def aU:Hp->Nat->Obj->Hp
 | [],_,_=>[]
 | (j,o)::r,i,u=>bif yq j i then (j,u)::r else (j,o)::aU r i u
def cE:Hp->Nat->Hp
 | [],_=>[]
 | (j,o)::r,i=>bif yq j i then cE r i else (j,o)::cE r i
mutual
def aW:AV->Bool
 | .ptr _ _ | .aq _ _ _ | .map _ | .it _ | .cF _ _ _ _=>ydc
 | .fn (.y _) _ _=>ydc
 | .fn (.f _) first cap=>aF first&&aF cap
 | .agg cs=>aF cs
 | .av vs=>aF vs
 | _=>ydb
def aF:List AV->Bool
 | []=>ydb
 | v::r=>aW v&&aF r
end
def cellsOf:AV->List AV
 | .agg cs=>cs
 | v=>[v]
def db:AV->Bool
 | .agg _ | .av _ | .undef | .cF _ _ _ _=>ydc
 | _=>ydb
def cd:List AV->Bool
 | []=>ydb
 | v::r=>db v&&cd r
def ay(tm:Env):X->AV
 | .t i=>ak tm i
 | .c v=>v
def dN(tm:Env):List X->List AV
 | []=>[]
 | x::r=>ay tm x::dN tm r
def slice(o n:Nat)(cs:List AV):List AV:=(cs.drop o).take n
def over(o:Nat)(new cs:List AV):List AV:=cs.take o++new++cs.drop (o+new.length)
mutual
def freeze:Nat->Hp->AV->Option (AV×Hp)
 | 0,_,_=>Gq
 | n+1,hp,v=>
  match v with
  | .aq id o k=>
   match sJ n hp id with
   | some (ex,sz,cs,an)=>
    bif yB (o+k*sz) cs.length then
     Gp (.ap (ex&&yL 0 sz&&yq (o+k*sz) cs.length) k (slice o (k*sz) cs),an)
    else Gq
   | none=>Gq
  | .ptr id o=>
   match sJ n hp id with
   | some (_,_,cs,an)=>Gp (.bC (cs.drop o),an)
   | none=>Gq
  | .map id=>
   match ai hp id with
   | some (.mp _ ks vs)=>bif aF ks&&aF vs then Gp (.jG ks vs,aU hp id (.mp ydc ks vs)) else Gq
   | _=>Gq
  | .fn (.f g) first cap=>
   match cB n hp first with
   | some (aeR,aX)=>
    match cB n aX cap with
    | some (QD,jP)=>Gp (.fn (.f g) aeR QD,jP)
    | none=>Gq
   | none=>Gq
  | .agg cs=>match cB n hp cs with | some (dE,an)=>Gp (.agg dE,an) | none=>Gq
  | .av cs=>match cB n hp cs with | some (dE,an)=>Gp (.av dE,an) | none=>Gq
  | v=>bif aW v then Gp (v,hp) else Gq
def sJ:Nat->Hp->Nat->Option (Bool×Nat×List AV×Hp)
 | 0,_,_=>Gq
 | n+1,hp,id=>
  match ai hp id with
  | some (.cells rw pu ex sz cs)=>
   bif pu then Gp (ex,sz,cs,bif rw then aU hp id (.cells ydc ydb ex sz cs) else hp)
   else match cB n hp cs with
    | some (dE,an)=>Gp (ex,sz,dE,aU an id (.cells ydc ydc ex sz cs))
    | none=>Gq
  | _=>Gq
def cB:Nat->Hp->List AV->Option (List AV×Hp)
 | 0,_,_=>Gq
 | _+1,hp,[]=>Gp ([],hp)
 | n+1,hp,v::r=>
  match freeze n hp v with
  | some (v',aX)=>
   match cB n aX r with
   | some (r',jP)=>Gp (v'::r',jP)
   | none=>Gq
  | none=>Gq
end
def mL(n:Nat)(hp:Hp)(v:AV):Option (AV×Hp):=
 match v with
 | .aq id o k=>
  match ai hp id with
  | some (.cells ydb ydb ex sz cs)=>
   bif yB (o+k*sz) cs.length then
    Gp (.cF (ex&&yL 0 sz&&yq (o+k*sz) cs.length) sz k (slice o (k*sz) cs),cE hp id)
   else Gq
  | _=>freeze n hp v
 | _=>freeze n hp v
def Ky:List AV->Option (List Nat)
 | []=>Gp []
 | .aq id _ _::r=>match Ky r with | some l=>bif l.any (yq id) then Gq else Gp (id::l) | none=>Gq
 | v::r=>bif aW v then Ky r else Gq
def CD(n:Nat):Hp->List AV->Option (List AV×Hp)
 | hp,[]=>Gp ([],hp)
 | hp,v::r=>
  match mL n hp v with
  | some (v',aX)=>match CD n aX r with | some (r',jP)=>Gp (v'::r',jP) | none=>Gq
  | none=>Gq
def deep:Nat:=1000
def result(hp:Hp)(v:AV):Option AV:=
 match v with
 | .av vs=>
  match Ky vs with
  | some _=>match CD deep hp vs with | some (eH,_)=>Gp (.av eH) | none=>Gq
  | none=>match freeze deep hp v with | some (v',_)=>Gp v' | none=>Gq
 | v=>match mL deep hp v with | some (v',_)=>Gp v' | none=>Gq
def bI:AV->AV
 | .cF ex _ n cs=>.ap ex n cs
 | v=>v
def ES:List AV->List AV
 | []=>[]
 | v::r=>bI v::ES r
def shut:AV->AV
 | .cF ex _ n cs=>.ap ex n cs
 | .av vs=>.av (ES vs)
 | v=>v
def fI(hp:Hp)(ct:Nat):AV->AV×Hp×Nat
 | .cF ex sz n cs=>(.aq ct 0 n,(ct,.cells ydb ydb ex sz cs)::hp,ct+1)
 | v=>(v,hp,ct)
def lf:Hp->Nat->List AV->List AV×Hp×Nat
 | hp,ct,[]=>([],hp,ct)
 | hp,ct,v::r=>((fI hp ct v).1::(lf (fI hp ct v).2.1 (fI hp ct v).2.2 r).1,(lf (fI hp ct v).2.1 (fI hp ct v).2.2 r).2)
def own(hp:Hp)(ct:Nat):AV->AV×Hp×Nat
 | .av vs=>(.av (lf hp ct vs).1,(lf hp ct vs).2)
 | v=>fI hp ct v
mutual
def refs:AV->List Nat
 | .ptr id _=>[id]
 | .aq id _ _=>[id]
 | .map id=>[id]
 | .it id=>[id]
 | .fn (.f _) first cap=>eZ first++eZ cap
 | .fn (.y l) _ _=>[l]
 | .agg cs=>eZ cs
 | .av cs=>eZ cs
 | _=>[]
def eZ:List AV->List Nat
 | []=>[]
 | v::r=>refs v++eZ r
end
def cJ:Env->List Nat
 | []=>[]
 | (_,v)::r=>refs v++cJ r
def iT:Obj->List Nat
 | .cells _ pu _ _ cs=>bif pu then [] else eZ cs
 | .mp _ ks vs=>eZ ks++eZ vs
 | .si _ _=>[]
 | .lp tm _ _ _ _ _=>cJ tm
mutual
def bq(f:Nat->Option Nat):AV->AV
 | .ptr id o=>match f id with | some j=>.ptr j o | none=>.undef
 | .aq id o n=>match f id with | some j=>.aq j o n | none=>.undef
 | .map id=>match f id with | some j=>.map j | none=>.undef
 | .it id=>match f id with | some j=>.it j | none=>.undef
 | .fn (.f g) first cap=>.fn (.f g) (dO f first) (dO f cap)
 | .fn (.y l) first cap=>match f l with | some j=>.fn (.y j) (dO f first) (dO f cap) | none=>.undef
 | .agg cs=>.agg (dO f cs)
 | .av cs=>.av (dO f cs)
 | v=>v
def dO(f:Nat->Option Nat):List AV->List AV
 | []=>[]
 | v::r=>bq f v::dO f r
end
def dw(f:Nat->Option Nat):Env->Env
 | []=>[]
 | (i,v)::r=>(i,bq f v)::dw f r
def gL(f:Nat->Option Nat):Obj->Obj
 | .cells rw pu ex sz cs=>.cells rw pu ex sz (bif pu then cs else dO f cs)
 | .mp rw ks vs=>.mp rw (dO f ks) (dO f vs)
 | .si s pos=>.si s pos
 | .lp tm ps as_ body st pe=>.lp (dw f tm) ps as_ body st pe
def bc(tm:Env):List Nat->Env
 | []=>[]
 | i::r=>(i,ak tm i)::bc tm r
def jH(i:Nat):List Nat->Bool
 | []=>ydc
 | j::r=>bif yq j i then ydb else jH i r
def reach(hp:Hp)(base:Nat):Nat->List Nat->List Nat->List Nat
 | 0,_,seen=>seen
 | _+1,[],seen=>seen
 | n+1,id::cA,seen=>
  bif yL id base||jH id seen then reach hp base n cA seen
  else match ai hp id with
   | some o=>reach hp base n (iT o++cA) (seen++[id])
   | none=>reach hp base n cA seen
def b7(base:Nat):Hp->List Nat
 | []=>[]
 | (id,o)::r=>bif yL id base then iT o++b7 base r else b7 base r
def dz(i:Nat):List Nat->Nat->Option Nat
 | [],_=>Gq
 | j::r,k=>bif yq j i then Gp k else dz i r (k+1)
def gW(base:Nat)(seen:List Nat)(id:Nat):Option Nat:=bif yL id base then Gp id else dz id seen base
def fT(base:Nat)(f:Nat->Option Nat):Hp->Hp
 | []=>[]
 | (id,o)::r=>bif yL id base then (id,gL f o)::fT base f r else fT base f r
def eF(hp:Hp)(f:Nat->Option Nat):List Nat->Nat->Hp->Hp
 | [],_,acc=>acc
 | id::r,k,acc=>match ai hp id with | some o=>eF hp f r (k+1) ((k,gL f o)::acc) | none=>eF hp f r (k+1) acc
def bn(live:List Nat)(s:St):St:=
 let tm:=bc s.tm live
 let seen:=reach s.hp s.base 100000 (cJ tm++b7 s.base s.hp) []
 let f:=gW s.base seen
 {tm:=dw f tm,hp:=eF s.hp f seen s.base (fT s.base f s.hp),ct:=s.base+seen.length,base:=s.base}
def nA(hp:Hp)(sz:Nat):AV->Option (Nat×List AV)
 | .ah=>Gp (0,[])
 | .ap _ n cs=>bif yq cs.length (n*sz) then Gp (n,cs) else Gq
 | .aq id o n=>
  match ai hp id with
  | some (.cells _ _ _ _ cs)=>bif yB (o+n*sz) cs.length then Gp (n,slice o (n*sz) cs) else Gq
  | _=>Gq
 | _=>Gq
def O6:List Nat->List AV
 | []=>[]
 | b::r=>.int .u8 b::O6 r
def Dv:List Nat->List Nat->Bool
 | _,[]=>ydc
 | [],_::_=>ydb
 | a::x,b::y=>yL a b||(yq a b&&Dv x y)
def cK:List Nat->List Nat->Bool
 | [],[]=>ydb
 | a::x,b::y=>yq a b&&cK x y
 | _,_=>ydc
def dc:List Nat->List AV->List AV->Option Bool
 | [],[],[]=>Gp ydb
 | 0::ks,.bool a::x,.bool b::y=>match dc ks x y with | some r=>Gp ((a==b)&&r) | none=>Gq
 | 1::ks,.int k a::x,.int k' b::y=>if k=k' then (match dc ks x y with | some r=>Gp ((a==b)&&r) | none=>Gq) else Gq
 | 2::ks,.str a::x,.str b::y=>match dc ks x y with | some r=>Gp (cK a b&&r) | none=>Gq
 | _,_,_=>Gq
def km:Sl->AV->AV->Option Bool
 | .b,.bool a,.bool b=>Gp (a==b)
 | .sl,.ah,.ah=>Gp ydb
 | .sl,.ah,.ap _ _ _=>Gp ydc
 | .sl,.ah,.aq _ _ _=>Gp ydc
 | .sl,.ap _ _ _,.ah=>Gp ydc
 | .sl,.aq _ _ _,.ah=>Gp ydc
 | .fn,.iE,.iE=>Gp ydb
 | .fn,.iE,.fn _ _ _=>Gp ydc
 | .fn,.fn _ _ _,.iE=>Gp ydc
 | .ag ks,.agg a,.agg b=>dc ks a b
 | _,_,_=>Gq
def intCmp(op:wX)(x y:Int):Option Bool:=
 match op with
 | .eql=>Gp (x==y)
 | .neq=>Gp (x !=y)
 | .lss=>Gp (decide (x<y))
 | .leq=>Gp (decide (x<=y))
 | .gtr=>Gp (decide (x>y))
 | .geq=>Gp (decide (x>=y))
 | _=>Gq
def mP(op:wX)(k:xe)(x y:Int):Option AV:=
 match op with
 | .add=>Gp (.int k (k.wrap (x+y)))
 | .sub=>Gp (.int k (k.wrap (x-y)))
 | .mul=>Gp (.int k (k.wrap (x*y)))
 | .quo=>if y=0 then Gq else Gp (.int k (k.wrap (x.tdiv y)))
 | .rem=>if y=0 then Gq else Gp (.int k (x.tmod y))
 | .and=>Gp (.int k (k.wrap (wv k.bits x&&&wv k.bits y).toNat))
 | .or=>Gp (.int k (k.wrap (wv k.bits x|||wv k.bits y).toNat))
 | .xor=>Gp (.int k (k.wrap (wv k.bits x^^^wv k.bits y).toNat))
 | .andNot=>Gp (.int k (k.wrap (wv k.bits x&&&~~~(wv k.bits y)).toNat))
 | .shl | .shr=>Gq
 | op=>match intCmp op x y with | some b=>Gp (.bool b) | none=>Gq
def Eo(op:wX)(k:xe)(x y:Int):Option AV:=
 if y<0 then Gq else
 match op with
 | .shl=>Gp (.int k (k.wrap (x*2^(min y.toNat k.bits))))
 | .shr=>Gp (.int k (x.fdiv (2^(min y.toNat k.bits))))
 | _=>Gq
def Lm(op:wX)(x y:List Nat):Option AV:=
 match op with
 | .add=>bif yB (x.length+y.length) 9223372036854775807 then Gp (.str (x++y)) else Gq
 | .eql=>Gp (.bool (cK x y))
 | .neq=>Gp (.bool (!cK x y))
 | .lss=>Gp (.bool (Dv x y))
 | .leq=>Gp (.bool (Dv x y||cK x y))
 | .gtr=>Gp (.bool (!(Dv x y||cK x y)))
 | .geq=>Gp (.bool (!Dv x y))
 | _=>Gq
def P4(op:wX)(k:wc)(x y:Nat):Option AV:=
 let c:=k.format.order x y
 let ar (r:Option Nat):Option AV:=match r with | some b=>Gp (.aw k b) | none=>Gq
 match op with
 | .add=>ar (k.format.add x y)
 | .sub=>ar (k.format.sub x y)
 | .mul=>ar (k.format.mul x y)
 | .quo=>ar (k.format.div x y)
 | .eql=>Gp (.bool (c==Gp .eq))
 | .neq=>Gp (.bool (c !=Gp .eq))
 | .lss=>Gp (.bool (c==Gp .lt))
 | .leq=>Gp (.bool (c==Gp .lt||c==Gp .eq))
 | .gtr=>Gp (.bool (c==Gp .gt))
 | .geq=>Gp (.bool (c==Gp .gt||c==Gp .eq))
 | _=>Gq
def Dw(s k:wc)(b:Nat):Option Nat:=
 if s=k then Gp b else
 match s.decode b with
 | .number sg m e=>if (k.decode (k.encode (.number sg m e))).isInfinity then Gq else Gp (k.encode (.number sg m e))
 | _=>Gq
def nc(op:wX)(k:wc)(x y:Nat):Option Nat:=
 match op with
 | .add=>k.format.add x y
 | .sub=>k.format.sub x y
 | .mul=>k.format.mul x y
 | _=>Gq
def Vz(k:wc)(a b c d:Nat):Option AV:=
 match Dw k .f64 a,Dw k .f64 b,Dw k .f64 c,Dw k .f64 d with
 | some a,Gp b,Gp c,Gp d=>
  match nc .mul .f64 a c,nc .mul .f64 b d,nc .mul .f64 a d,nc .mul .f64 b c with
  | some p,Gp q,Gp r,Gp s=>
   match nc .sub .f64 p q,nc .add .f64 r s with
   | some e,Gp f=>match Dw .f64 k e,Dw .f64 k f with | some e,Gp f=>Gp (.dh k e f) | _,_=>Gq
   | _,_=>Gq
  | _,_,_,_=>Gq
 | _,_,_,_=>Gq
def V7(op:wX)(k:wc)(a b c d:Nat):Option AV:=
 match op with
 | .eql=>Gp (.bool (k.format.order a c==Gp .eq&&k.format.order b d==Gp .eq))
 | .neq=>Gp (.bool (!(k.format.order a c==Gp .eq&&k.format.order b d==Gp .eq)))
 | .add=>match nc .add k a c,nc .add k b d with | some r,Gp i=>Gp (.dh k r i) | _,_=>Gq
 | .sub=>match nc .sub k a c,nc .sub k b d with | some r,Gp i=>Gp (.dh k r i) | _,_=>Gq
 | .mul=>Vz k a b c d
 | _=>Gq
def afF(x y:AV):Option AV:=
 match x,y with
 | .aw k a,.aw k' b=>if k=k' then Gp (.dh k a b) else Gq
 | _,_=>Gq
def binOp(op:wX)(x y:AV):Option AV:=
 match x,y with
 | .int k a,.int k' b=>
  match op with
  | .shl | .shr=>Eo op k a b
  | _=>if k=k' then mP op k a b else Gq
 | .aw k a,.aw k' b=>if k=k' then P4 op k a b else Gq
 | .str a,.str b=>Lm op a b
 | .dh k a b,.dh k' c d=>if k=k' then V7 op k a b c d else Gq
 | _,_=>Gq
def unOp(op:ycH)(x:AV):Option AV:=
 match op,x with
 | .neg,.int k n=>Gp (.int k (k.wrap (0-n)))
 | .xor,.int k n=>mP .xor k (if k.signed then -1 else k.max) n
 | .not,.bool b=>Gp (.bool !b)
 | .neg,.aw k b=>Gp (.aw k (b^^^2^(k.format.exponentBits+k.format.fractionBits)))
 | _,_=>Gq
def mu(c:Conv)(x:AV):Option AV:=
 match c,x with
 | .toInt k,.int _ n=>Gp (.int k (k.wrap n))
 | .toFlt k,.int _ n=>Gp (.aw k (k.nearest n))
 | .toInt k,.aw s b=>
  match (s.decode b).toInt .zero with
  | some n=>if k.min<=n/\n<=k.max then Gp (.int k n) else Gq
  | none=>Gq
 | .toFlt k,.aw s b=>
  if s=k then Gp (.aw k b) else
  match s.decode b with
  | .number sg m e=>if (k.decode (k.encode (.number sg m e))).isInfinity then Gq else Gp (.aw k (k.encode (.number sg m e)))
  | _=>Gq
 | .str,.str s=>Gp (.str s)
 | .re,.dh k a _=>Gp (.aw k a)
 | .im,.dh k _ b=>Gp (.aw k b)
 | _,_=>Gq
def ie(sz:Nat)(ag:Bool)(cs:List AV):Option AV:=
 bif ag then (bif yB sz cs.length then Gp (.agg (cs.take sz)) else Gq)
 else match cs with | v::_=>Gp v | []=>Gq
def dd(x:AV):Option Nat:=
 match x with
 | .int _ n=>match n with | .ofNat k=>Gp k | .negSucc _=>Gq
 | _=>Gq
def cU(tm:Env)(d:Nat):Option X->Option Nat
 | none=>Gp d
 | some x=>dd (ay tm x)
def fC(hp:Hp)(k:Cut)(x:AV)(tm:Env)(lo hi:Option X):Option AV:=
 match k,x with
 | .str,.str s=>
  match cU tm 0 lo,cU tm s.length hi with
  | some l,Gp h=>bif yB l h&&yB h s.length then Gp (.str ((s.take h).drop l)) else Gq
  | _,_=>Gq
 | .sl _,.ah=>
  match cU tm 0 lo,cU tm 0 hi with
  | some 0,Gp 0=>Gp .ah
  | _,_=>Gq
 | .sl sz,.ap ex n cs=>
  match cU tm 0 lo,cU tm n hi with
  | some l,Gp h=>bif yB l h&&yB h n then Gp (.ap (ex&&yq h n) (h-l) (slice (l*sz) ((h-l)*sz) cs)) else Gq
  | _,_=>Gq
 | .sl sz,.aq id o n=>
  match ai hp id with
  | some (.cells _ _ _ z _)=>
   match cU tm 0 lo,cU tm n hi with
   | some l,Gp h=>
    bif yB l h&&yB h n&&yq z sz then
     bif yq l h&& !yq l 0 then Gp (.ap ydc 0 []) else Gp (.aq id (o+l*sz) (h-l))
    else Gq
   | _,_=>Gq
  | _=>Gq
 | .ar n s,.bC cs=>
  match cU tm 0 lo,cU tm n hi with
  | some l,Gp h=>bif yq l 0&&yq h n&&(yL 0 n&&yB (n*s) cs.length) then Gp (.ap ydb n (cs.take (n*s))) else Gq
  | _,_=>Gq
 | _,_=>Gq
def fill(tm:Env):List AV->List (Nat×Nat×X)->Option (List AV)
 | cs,[]=>Gp cs
 | cs,(o,sz,x)::r=>
  let new:=cellsOf (ay tm x)
  bif yq new.length sz&&yB (o+sz) cs.length&&cd new then fill tm (over o new cs) r else Gq
def pN:AV->AV->Option Bool
 | .int k a,.int k' b=>if k=k' then Gp (a==b) else Gq
 | .str a,.str b=>Gp (cK a b)
 | .bool a,.bool b=>Gp (a==b)
 | .agg a,.agg b=>dc (yz a.length 1) a b
 | _,_=>Gq
def pD:Nat->AV->Bool
 | 0,.bool _=>ydb
 | 1,.int _ _=>ydb
 | 2,.str _=>ydb
 | n+3,.agg cs=>yq cs.length n
 | _,_=>ydc
def ET(k:AV):List AV->List AV->Option (Option AV)
 | [],_=>Gp Gq
 | k'::ks,v::vs=>match pN k k' with | some ydb=>Gp (Gp v) | some ydc=>ET k ks vs | none=>Gq
 | _::_,[]=>Gq
def BF(k v:AV):List AV->List AV->Option (List AV×List AV)
 | [],[]=>Gp ([k],[v])
 | k'::ks,u::us=>
  match pN k k' with
  | some ydb=>Gp (k'::ks,v::us)
  | some ydc=>match BF k v ks us with | some (lQ,MS)=>Gp (k'::lQ,u::MS) | none=>Gq
  | none=>Gq
 | _,_=>Gq
def min2:AV->AV->Option AV
 | .int k x,.int _ y=>Gp (.int k (if y<x then y else x))
 | .aw k x,.aw _ y=>
  match k.format.order x y with
  | none=>Gq
  | some .lt=>Gp (.aw k x)
  | some .gt=>Gp (.aw k y)
  | some .eq=>Gp (.aw k (if (k.decode x).neg then x else y))
 | _,_=>Gq
def max2:AV->AV->Option AV
 | .int k x,.int _ y=>Gp (.int k (if y>x then y else x))
 | .aw k x,.aw _ y=>
  match k.format.order x y with
  | none=>Gq
  | some .lt=>Gp (.aw k y)
  | some .gt=>Gp (.aw k x)
  | some .eq=>Gp (.aw k (if (k.decode x).neg then y else x))
 | _,_=>Gq
def CX(f:AV->AV->Option AV):AV->List AV->Option AV
 | a,[]=>Gp a
 | a,b::r=>match f a b with | some c=>CX f c r | none=>Gq
def room:Nat:=1099511627776
abbrev iH:=Option (AV×Hp×Nat)
def gn(hp:Hp)(sz:Nat)(ag:Bool):AV->Option AV
 | .ptr id o=>match ai hp id with | some (.cells _ _ _ _ cs)=>ie sz ag (cs.drop o) | _=>Gq
 | .bC cs=>ie sz ag cs
 | _=>Gq
def CY(k:Nat):AV->Option AV
 | .ptr id o=>Gp (.ptr id (o+k))
 | .bC cs=>bif yB k cs.length then Gp (.bC (cs.drop k)) else Gq
 | _=>Gq
def P5(o sz:Nat)(ag:Bool):AV->Option AV
 | .agg cs=>ie sz ag (cs.drop o)
 | _=>Gq
def gH(sz i:Nat):AV->Option AV
 | .aq id o n=>bif yL i n then Gp (.ptr id (o+i*sz)) else Gq
 | .ap _ n cs=>bif yL i n then Gp (.bC (cs.drop (i*sz))) else Gq
 | _=>Gq
def P6(len sz i:Nat):AV->Option AV
 | .ptr id o=>bif yL i len then Gp (.ptr id (o+i*sz)) else Gq
 | .bC cs=>bif yL i len then Gp (.bC (cs.drop (i*sz))) else Gq
 | _=>Gq
def oD(i:Nat):AV->Option AV
 | .str s=>match s[i]? with | some b=>Gp (.int .u8 b) | none=>Gq
 | _=>Gq
def P7(len sz:Nat)(ag:Bool)(i:Nat):AV->Option AV
 | .agg cs=>bif yL i len then ie sz ag (cs.drop (i*sz)) else Gq
 | _=>Gq
def CZ(hp:Hp)(k:AV):AV->Option (Option AV)
 | .jF=>Gp Gq
 | .map id=>match ai hp id with | some (.mp _ ks vs)=>ET k ks vs | _=>Gq
 | .jG ks vs=>ET k ks vs
 | _=>Gq
def jo(hp:Hp):Nat->AV->Option AV
 | 0,.str s=>Gp (.int .i64 s.length)
 | 1,.ah=>Gp (.int .i64 0)
 | 1,.ap _ n _=>Gp (.int .i64 n)
 | 1,.aq _ _ n=>Gp (.int .i64 n)
 | 2,.jF=>Gp (.int .i64 0)
 | 2,.jG ks _=>Gp (.int .i64 ks.length)
 | 2,.map id=>match ai hp id with | some (.mp _ ks _)=>Gp (.int .i64 ks.length) | _=>Gq
 | _,_=>Gq
def bj(tm:Env)(hp:Hp):Op->Option AV
 | .rR x=>Gp (ay tm x)
 | .pick c a b=>match ay tm c with | .bool t=>Gp (bif t then ay tm a else ay tm b) | _=>Gq
 | .ER zero parts=>match fill tm zero parts with | some cs=>Gp (.agg cs) | none=>Gq
 | .ld sz ag x=>gn hp sz ag (ay tm x)
 | .LK x=>
  match ay tm x with
  | .ptr id o=>Gp (.ptr id o)
  | .bC cs=>Gp (.bC cs)
  | .fn f a b=>Gp (.fn f a b)
  | _=>Gq
 | .bin op x y=>binOp op (ay tm x) (ay tm y)
 | .eq ne k x y=>match km k (ay tm x) (ay tm y) with | some r=>Gp (.bool (ne !=r)) | none=>Gq
 | .un op x=>unOp op (ay tm x)
 | .cv k x=>mu k (ay tm x)
 | .MR x y=>afF (ay tm x) (ay tm y)
 | .p9 n sz zero parts=>
  match fill tm zero parts with
  | some cs=>bif yq cs.length (n*sz)&&(yL 0 sz&&aF cs) then Gp (.ap ydb n cs) else Gq
  | none=>Gq
 | .H8 f first cap=>Gp (.fn f (dN tm first) (dN tm cap))
 | .rS k x lo hi=>fC hp k (ay tm x) tm lo hi
 | .off k x=>CY k (ay tm x)
 | .MQ o sz ag x=>P5 o sz ag (ay tm x)
 | .bk sz x i=>match dd (ay tm i) with | some j=>gH sz j (ay tm x) | none=>Gq
 | .H9 len sz x i=>match dd (ay tm i) with | some j=>P6 len sz j (ay tm x) | none=>Gq
 | .Ia x i=>match dd (ay tm i) with | some j=>oD j (ay tm x) | none=>Gq
 | .Ib len sz ag x i=>match dd (ay tm i) with | some j=>P7 len sz ag j (ay tm x) | none=>Gq
 | .Sm kk zero ok m k=>
  bif pD kk (ay tm k) then
   match CZ hp (ay tm k) (ay tm m) with
   | some (Gp v)=>Gp (bif ok then .av [v,.bool ydb] else v)
   | some Gq=>Gp (bif ok then .av [zero,.bool ydc] else zero)
   | none=>Gq
  else Gq
 | .ext i x=>match ay tm x with | .av vs=>vs[i]? | _=>Gq
 | .len k x=>jo hp k (ay tm x)
 | .mn xs=>match dN tm xs with | a::r=>CX min2 a r | []=>Gq
 | .mx xs=>match dN tm xs with | a::r=>CX max2 a r | []=>Gq
 | _=>Gq
def cI(tm:Env)(hp:Hp)(ct:Nat):Op->Option (AV×Obj)
 | .box sz x=>
  let cs:=cellsOf (ay tm x)
  bif yq cs.length sz&&cd cs then Gp (.ptr ct 0,.cells ydb (aF cs) ydb sz cs) else Gq
 | .kj n sz zero parts=>
  match fill tm zero parts with
  | some cs=>bif yq cs.length (n*sz) then Gp (.aq ct 0 n,.cells ydb (aF cs) ydb sz cs) else Gq
  | none=>Gq
 | .p8 sz bytes zero len cap=>
  match dd (ay tm len),dd (ay tm cap) with
  | some l,Gp c=>
   bif yB l c&&(yB c room&&(yB (c*bytes) room&&(yq zero.length sz&&cd zero))) then
    Gp (.aq ct 0 l,.cells ydb (aF zero) (yq l c) sz (yz l zero).flatten)
   else Gq
  | _,_=>Gq
 | .BY=>Gp (.map ct,.mp ydb [] [])
 | .rU x=>match ay tm x with | .str s=>Gp (.it ct,.si s 0) | _=>Gq
 | _=>Gq
def decodeL(s:List Nat)(i:Nat):Nat×Nat:=
 let at' (k:Nat):Nat:=s.getD (i+k) 0
 let cont (k:Nat):Bool:=decide (i+k<s.length)&&at' k/64==2
 let b0:=at' 0
 if b0<0x80 then (b0,1)
 else if b0/32==6&&cont 1 then
  let c:=(b0%32)*64+at' 1%64
  if c>=0x80 then (c,2) else (uN,1)
 else if b0/16==14&&cont 1&&cont 2 then
  let c:=(b0%16)*4096+(at' 1%64)*64+at' 2%64
  if c>=0x800&&ybr c then (c,3) else (uN,1)
 else if b0/8==30&&cont 1&&cont 2&&cont 3 then
  let c:=(b0%8)*262144+(at' 1%64)*4096+(at' 2%64)*64+at' 3%64
  if c>=0x10000&&ybr c then (c,4) else (uN,1)
 else (uN,1)
def jD(hp:Hp)(sz:Nat):AV->Option (Nat×List AV)
 | .str b=>bif yq sz 1 then Gp (b.length,O6 b) else Gq
 | v=>nA hp sz v
def Af(hp:Hp)(ct sz bytes:Nat)(s:AV)(src:Option (Nat×List AV)):Option (AV×Obj):=
 match src with
 | none=>Gq
 | some (m,new)=>
  match s with
  | .aq id o n=>
   match ai hp id with
   | some (.cells _ pu ydb z cs)=>
    bif yq z sz&&(yL 0 m&&(yB (n+m) room&&(yB ((n+m)*bytes) room&&(yq (o+n*sz) cs.length&&yL 0 sz)))) then
     Gp (.aq ct 0 (n+m),.cells ydb (pu&&aF new) ydc sz (slice o (n*sz) cs++new))
    else Gq
   | _=>Gq
  | _=>Gq
def cu(tm:Env)(hp:Hp)(ct:Nat):Op->iH
 | .st sz x v=>
  let new:=cellsOf (ay tm v)
  match ay tm x with
  | .ptr id o=>
   match ai hp id with
   | some (.cells ydb pu ex z cs)=>
    bif yq new.length sz&&yB (o+sz) cs.length&&cd new then
     Gp (.av [],aU hp id (.cells ydb (pu&&aF new) ex z (over o new cs)),ct)
    else Gq
   | _=>Gq
  | _=>Gq
 | .rT kk m k v=>
  match ay tm m with
  | .map id=>
   match ai hp id with
   | some (.mp ydb ks vs)=>bif !pD kk (ay tm k) then Gq else match BF (ay tm k) (ay tm v) ks vs with | some (lQ,eH)=>Gp (.av [],aU hp id (.mp ydb lQ eH),ct) | none=>Gq
   | _=>Gq
  | _=>Gq
 | .rV x=>
  match ay tm x with
  | .it id=>
   match ai hp id with
   | some (.si s pos)=>
    bif yL pos s.length then
     match decodeL s pos with
     | (c,wd)=>Gp (.av [.bool ydb,.int .i64 pos,.int .i32 c],aU hp id (.si s (pos+wd)),ct)
    else Gp (.av [.bool ydc],hp,ct)
   | _=>Gq
  | _=>Gq
 | .di sz bytes s x=>
  match jD hp sz (ay tm x) with
  | none=>Gq
  | some (m,new)=>
   match ay tm s with
   | .ah=>
    bif yq m 0 then Gp (.ah,hp,ct)
    else bif yB m room&&(yB (m*bytes) room&&yL 0 sz) then Gp (.aq ct 0 m,(ct,.cells ydb (aF new) ydc sz new)::hp,ct+1) else Gq
   | .ap ydb n cs=>
    bif yq m 0 then Gp (.ap ydb n cs,hp,ct)
    else bif yB (n+m) room&&(yB ((n+m)*bytes) room&&(yq cs.length (n*sz)&&yL 0 sz)) then Gp (.aq ct 0 (n+m),(ct,.cells ydb (aF cs&&aF new) ydc sz (cs++new))::hp,ct+1) else Gq
   | .aq id o n=>
    match ai hp id with
    | some (.cells ydb pu _ z cs)=>
     bif yq z sz&&(yB (n+m) room&&(yB ((n+m)*bytes) room&&(yB (o+n*sz) cs.length&&(yL 0 sz&&cd new)))) then
      Gp (.aq ct 0 (n+m),(ct,.cells ydb (pu&&aF new) ydc sz (slice o (n*sz) cs++new))::cE hp id,ct+1)
     else Gq
    | _=>Gq
   | _=>Gq
 | .rX sz d s=>
  match nA hp sz (ay tm s),ay tm d with
  | some (m,new),.aq id o n=>
   match ai hp id with
   | some (.cells ydb pu ex z cs)=>
    bif yq z sz&&(yB (o+n*sz) cs.length&&cd new) then
     Gp (.int .i64 (min m n:Nat),aU hp id (.cells ydb (pu&&aF new) ex z (over o (new.take (min m n*sz)) cs)),ct)
    else Gq
   | _=>Gq
  | _,_=>Gq
 | _=>Gq
def j8:X->List Nat | .t i=>[i] | .c _=>[]
def Bp:List X->List Nat
 | []=>[]
 | x::r=>j8 x++Bp r
def Ln:Option X->List Nat | some x=>j8 x | none=>[]
def Lo:List (Nat×Nat×X)->List Nat
 | []=>[]
 | (_,_,x)::r=>j8 x++Lo r
def kT:Op->List Nat
 | .rR x | .box _ x | .ld _ _ x | .LK x | .un _ x | .cv _ x | .off _ x | .MQ _ _ _ x | .rU x | .rV x | .ext _ x | .len _ x=>j8 x
 | .pick a b c | .rT _ a b c=>j8 a++(j8 b++j8 c)
 | .ER _ ps | .kj _ _ _ ps | .p9 _ _ _ ps=>Lo ps
 | .st _ a b | .bin _ a b | .MR a b | .eq _ _ a b | .bk _ a b | .H9 _ _ a b | .Ia a b | .Ib _ _ _ a b | .Sm _ _ _ a b | .di _ _ a b | .rW _ _ a b | .rX _ a b=>j8 a++j8 b
 | .H8 _ a b=>Bp a++Bp b
 | .BY=>[]
 | .p8 _ _ _ a b=>j8 a++j8 b
 | .rS _ x a b=>j8 x++(Ln a++Ln b)
 | .call _ f xs=>j8 f++Bp xs
 | .j0 _ f xs=>j8 f++Bp xs
 | .lP _ _ a b=>j8 a++j8 b
 | .my _ _ _ a b=>j8 a++j8 b
 | .mn xs | .mx xs=>Bp xs
def bl:Op->Nat
 | .rR _ | .pick _ _ _ | .ER _ _ | .LK _ | .bin _ _ _ | .eq _ _ _ _ | .un _ _ | .cv _ _ | .H8 _ _ _ | .off _ _ | .MQ _ _ _ _ | .bk _ _ _ | .H9 _ _ _ _ | .Ia _ _ | .Ib _ _ _ _ _ | .ext _ _ | .mn _ | .mx _ | .MR _ _ | .p9 _ _ _ _=>0
 | .rS .str _ _ _ | .len 0 _ | .len 1 _=>0
 | .st _ _ _ | .rT _ _ _ _ | .rV _ | .di _ _ _ _ | .rX _ _ _ | .j0 _ _ _ | .lP _ _ _ _ | .my _ _ _ _ _ | .call .heap _ _ | .call .dyn _ _=>2
 | _=>1
def V8:Option (Nat×Bool)->List Nat | some (t,_)=>[t] | none=>[]
def Ey(o:aS):List Nat:=V8 o.guard++kT o.op
def Hs(d:Option Nat)(l:List Nat):Bool:=match d with | some i=>jH i l | none=>ydc
def V9(d e:Option Nat):Bool:=match d,e with | some i,Gp j=>yq i j | _,_=>ydc
def OJ(a b:aS):Bool:=Hs a.dst (Ey b)||Hs b.dst (Ey a)||V9 a.dst b.dst
def E9(sz:Nat)(ag:Bool)(t:Nat):List (Nat×Bool×Nat)->Bool
 | []=>ydc
 | (s,g,u)::r=>(yq s sz&&(g==ag&&yq u t))||E9 sz ag t r
def EU(t:Nat):List aS->Bool
 | []=>ydb
 | o::r=> !Hs o.dst [t]&&EU t r
def Kj(a b:aS)(r:List aS):Bool:=
 match a.guard,a.op,b.op with
 | none,.ld sz ag (.t t),.j0 rs _ _=>E9 sz ag t rs&&EU t (a::r)
 | none,.ld sz ag (.t t),.lP rs _ _ _=>E9 sz ag t rs&&EU t (a::r)
 | none,.ld sz ag (.t t),.my rs _ _ _ _=>E9 sz ag t rs&&EU t (a::r)
 | _,_,_=>ydc
def JX(a b:aS):Bool:=
 match bl a.op,bl b.op with
 | 1,2 | 2,1 | 2,2=>ydb
 | _,_=>ydc
def OK(m:Nat)(b:aS):List aS->Nat->Bool
 | [],_=>ydb
 | a::r,i=>(vH m i|| !(OJ a b||(JX a b&& !Kj a b r)))&&OK m b r (i+1)
def qV(done:List aS):List aS->List Nat->Bool
 | [],_=>ydb
 | b::r,m::ms=>OK m b done 0&&qV (done++[b]) r ms
 | _::_,[]=>ydc
def Kk(m:Nat):List aS->Nat->List (Nat×Bool×Nat)
 | [],_=>[]
 | a::r,i=>
  match vH m i,a with
  | false,⟨_,Gq,.ld sz ag (.t t)⟩=>(sz,ag,t)::Kk m r (i+1)
  | _,_=>Kk m r (i+1)
def stOp(rs:List (Nat×Bool×Nat))(sz:Nat)(x v:X):Op:=match rs with | []=>.st sz x v | rs=>.lP rs sz x v
def ahh(rs:List (Nat×Bool×Nat))(sz b:Nat)(x v:X):Op:=match rs with | []=>.di sz b x v | rs=>.my rs sz b x v
def lK(done:List aS):List aS->List Nat->List aS
 | ⟨d,g,.j0 _ f xs⟩::r,m::ms=>let o:aS:=⟨d,g,.j0 (Kk m done 0) f xs⟩;o::lK (done++[o]) r ms
 | ⟨d,g,.st sz x v⟩::r,m::ms=>let o:aS:=⟨d,g,stOp (Kk m done 0) sz x v⟩;o::lK (done++[o]) r ms
 | ⟨d,g,.di sz b x v⟩::r,m::ms=>let o:aS:=⟨d,g,ahh (Kk m done 0) sz b x v⟩;o::lK (done++[o]) r ms
 | o::r,_::ms=>o::lK (done++[o]) r ms
 | l,_=>l
def aeS(done:List aS):X->Bool
 | .t i=>done.any fun o=>match o.dst,o.op with | some j,.kj _ _ _ _=>yq i j | _,_=>ydc
 | _=>ydc
def Hk(done:List aS):List aS->List aS
 | []=>[]
 | o::r=>(match o.op with | .di sz b x v=>bif aeS done x then ⟨o.dst,o.guard,.rW sz b x v⟩ else o | _=>o)::Hk (done++[o]) r
def PE(d:Option Nat):List aS->Bool
 | []=>ydc
 | ⟨_,_,.di _ _ _ (.t i)⟩::r=>V9 d (Gp i)||PE d r
 | _::r=>PE d r
def EV(all:List aS):List aS->List aS
 | []=>[]
 | o::r=>(match o.op with | .kj n sz z ps=>bif PE o.dst all then ⟨o.dst,o.guard,.p9 n sz z ps⟩ else o | _=>o)::EV all r
def waits(m:Nat):List aS->Nat->Bool
 | [],_=>ydc
 | o::r,i=>(vH m i&&yq (bl o.op) 2)||waits m r (i+1)
def early(all:List aS):List aS->List Nat->Nat->List Nat
 | o::r,m::ms,i=>bif !yq (bl o.op) 2&& !waits m all 0 then i::early all r ms (i+1) else early all r ms (i+1)
 | _,_,_=>[]
def late(all:List aS):List aS->List Nat->Nat->List Nat
 | o::r,m::ms,i=>bif !yq (bl o.op) 2&& !waits m all 0 then late all r ms (i+1) else i::late all r ms (i+1)
 | _,_,_=>[]
def places(l:List aS)(ms:List Nat):List Nat:=early l l ms 0++late l l ms 0
def GR(m:Nat):List Nat->Nat->Nat
 | [],_=>0
 | x::r,i=>(bif vH m x then 2^i else 0)|||GR m r (i+1)
def C0(l:List aS):List Nat->List aS
 | []=>[]
 | x::r=>match l[x]? with | some o=>o::C0 l r | none=>C0 l r
def CE(ms pm all:List Nat):List Nat->List Nat
 | []=>[]
 | x::r=>GR (ms.getD x 0) pm 0::CE ms pm all r
def Kz(n:Nat)(pm inv:List Nat):Bool:=
 yq pm.length n&&(xY n).all fun i=>yL (pm.getD i i) n&&(yL (inv.getD i i) n&&(yq (inv.getD (pm.getD i i) i) i&&yq (pm.getD (inv.getD i i) i) i))
def Ag(pm:List Nat)(n:Nat):List Nat:=(xY n).map fun x=>(dz x pm 0).getD x
abbrev aE:=Nat->Option az
structure Lib where
 pure:Nat->Option (List AV->Option AV)
 heap:Nat->Option (Hp->Nat->List AV->iH)
abbrev cx:=VC->St->Option (Ex×St)
def fA:Nat->List AV->Env
 | _,[]=>[]
 | i,v::r=>(i,v)::fA (i+1) r
def results1(s:St):RV->Option AV
 | .t i=>Gp (ak s.tm i)
 | .cell i sz ag=>
  match ak s.tm i with
  | .ptr id o=>match ai s.hp id with | some (.cells _ _ _ _ cs)=>ie sz ag (cs.drop o) | _=>Gq
  | .bC cs=>ie sz ag cs
  | _=>Gq
def mI(s:St):List RV->Option (List AV)
 | []=>Gp []
 | r::rest=>match results1 s r,mI s rest with | some v,Gp vs=>Gp (v::vs) | _,_=>Gq
def jA(s:St)(rs:List RV):Option AV:=
 match mI s rs with
 | some [v]=>Gp v
 | some vs=>Gp (.av vs)
 | none=>Gq
def bO(P:aE)(L:Lib)(self:cx)(n:Nat)(au:List AV):Option AV:=
 match L.pure n with
 | some sp=>sp au
 | none=>
  match P n with
  | none=>Gq
  | some F=>
   match self F.body ⟨fA 0 au,[],0,0⟩ with
   | some (.normal,s) | some (.ret,s)=>match jA s F.dR with | some v=>result s.hp v | none=>Gq
   | _=>Gq
def PF:Ex->sY
 | .normal=>.none
 | .ret=>.ret
 | .exit id=>.exit id
def ri:Env->List Nat->List AV->Option Env
 | tm,[],[]=>Gp tm
 | tm,p::ps,v::vs=>ri ((p,v)::tm) ps vs
 | _,_,_=>Gq
def iQ(P:aE)(L:Lib)(self:cx)(hp:Hp)(ct:Nat)(n:Nat)(au:List AV):iH:=
 match L.heap n with
 | some sp=>sp hp ct au
 | none=>
  match P n with
  | none=>Gq
  | some F=>
   match self F.body ⟨fA 0 au,hp,ct,ct⟩ with
   | some (.normal,s) | some (.ret,s)=>match jA s F.dR with | some v=>Gp (v,s.hp,s.ct) | none=>Gq
   | _=>Gq
def gF(self:cx)(hp:Hp)(ct:Nat)(l:Nat)(xs:List AV):iH:=
 match ai hp l with
 | some (.lp tm ps as_ body 0 _)=>
  match ri tm ps xs with
  | none=>Gq
  | some tm'=>
   match self as_ ⟨tm',hp,ct,ct⟩ with
   | some (.normal,s1)=>
    match ai s1.hp l with
    | some (.lp gO qc Dx EW 0 nQ)=>
     match self body ⟨s1.tm,aU s1.hp l (.lp gO qc Dx EW 1 nQ),s1.ct,s1.ct⟩ with
     | some (ex,s2)=>
      match ai s2.hp l with
      | some (.lp nd rY MU Lp 1 _)=>
       match ex with
       | .normal=>Gp (.bool ydb,aU s2.hp l (.lp nd rY MU Lp 0 .none),s2.ct)
       | ex=>Gp (.bool ydc,aU s2.hp l (.lp nd rY MU Lp 2 (PF ex)),s2.ct)
      | _=>Gq
     | none=>Gq
    | _=>Gq
   | _=>Gq
 | _=>Gq
def eL(P:aE)(L:Lib)(self:cx)(hp:Hp)(ct:Nat)(m:Md)(fv:AV)(xs:List AV):iH:=
 match fv with
 | .fn (.f n) first cap=>
  match m with
  | .pure=>
   match cB deep hp (first++(xs++cap)) with
   | some (au,aX)=>match bO P L self n au with | some r=>Gp (shut r,aX,ct) | none=>Gq
   | none=>Gq
  | .own=>
   match cB deep hp (first++(xs++cap)) with
   | some (au,aX)=>match bO P L self n au with | some r=>Gp (own aX ct r) | none=>Gq
   | none=>Gq
  | .heap=>iQ P L self hp ct n (first++(xs++cap))
  | .dyn=>
   bif aF (first++(xs++cap)) then
    match bO P L self n (first++(xs++cap)) with | some r=>Gp (shut r,hp,ct) | none=>Gq
   else iQ P L self hp ct n (first++(xs++cap))
 | .fn (.y l) _ _=>
  match m with
  | .heap | .dyn=>gF self hp ct l xs
  | _=>Gq
 | _=>Gq
def WY:AV->AV->Bool
 | .int k a,.int k' b=>decide (k=k')&&a==b
 | .bool a,.bool b=>a==b
 | .str a,.str b=>cK a b
 | .ah,.ah=>ydb
 | .kN,.kN=>ydb
 | .ptr i o,.ptr j p=>yq i j&&yq o p
 | .aq i o n,.aq j p m=>yq i j&&(yq o p&&yq n m)
 | .map i,.map j=>yq i j
 | _,_=>ydc
def qW(tm:Env)(hp an:Hp):List (Nat×Bool×Nat)->Bool
 | []=>ydb
 | (sz,ag,x)::r=>
  match gn hp sz ag (ak tm x),gn an sz ag (ak tm x) with
  | some a,Gp b=>WY a b&&qW tm hp an r
  | _,_=>ydc
def mM(tm:Env)(id:Nat):List (Nat×Bool×Nat)->Bool
 | []=>ydb
 | (_,_,x)::r=>(match ak tm x with | .ptr j _=> !yq j id | .bC _=>ydb | _=>ydc)&&mM tm id r
def Ht(tm:Env)(s:AV)(rs:List (Nat×Bool×Nat)):Bool:=
 match s with
 | .aq id _ _=>mM tm id rs
 | .ah | .ap _ _ _=>ydb
 | _=>ydc
def aZ(P:aE)(L:Lib)(self:cx)(tm:Env)(hp:Hp)(ct:Nat)(o:Op):iH:=
 match o with
 | .call m f xs=>eL P L self hp ct m (ay tm f) (dN tm xs)
 | .j0 rs f xs=>
  match eL P L self hp ct .dyn (ay tm f) (dN tm xs) with
  | some (v,an,aI)=>bif qW tm hp an rs then Gp (v,an,aI) else Gq
  | none=>Gq
 | .lP rs sz x v=>
  match ay tm x with
  | .ptr id _=>bif mM tm id rs then cu tm hp ct (.st sz x v) else Gq
  | _=>Gq
 | .rW sz b x v=>
  match Af hp ct sz b (ay tm x) (jD hp sz (ay tm v)) with
  | some (v,b)=>Gp (v,(ct,b)::hp,ct+1)
  | none=>Gq
 | .my rs sz b x v=>
  match cu tm hp ct (.di sz b x v) with
  | some (v,an,aI)=>bif Ht tm (ay tm x) rs||qW tm hp an rs then Gp (v,an,aI) else Gq
  | none=>Gq
 | .st .. | .rT .. | .rV .. | .di .. | .rX .. =>cu tm hp ct o
 | .box .. | .kj .. | .p8 .. | .BY | .rU .. =>match cI tm hp ct o with | some (v,b)=>Gp (v,(ct,b)::hp,ct+1) | none=>Gq
 | o=>match bj tm hp o with | some v=>Gp (v,hp,ct) | none=>Gq
def put(d:Option Nat)(v:AV)(tm:Env):Env:=
 match d with
 | some i=>(i,v)::tm
 | none=>tm
def de(P:aE)(L:Lib)(self:cx):List aS->St->Option St
 | [],s=>Gp s
 | ⟨d,g,o⟩::r,s=>
  let want:=match g with | none=>Gp ydb | some (t,b)=>match ak s.tm t with | .bool c=>Gp (c==b) | .av []=>Gp ydc | _=>Gq
  match want with
  | some ydb=>
   match aZ P L self s.tm s.hp s.ct o with
   | some (v,hp,ct)=>de P L self r {s with tm:=put d v s.tm,hp:=hp,ct:=ct}
   | none=>Gq
  | some ydc=>de P L self r {s with tm:=put d (.av []) s.tm}
  | none=>Gq
def rq:List Nat->St->Option St
 | [],s=>Gp s
 | t::r,s=>
  match freeze deep s.hp (ak s.tm t) with
  | some (v,hp)=>rq r {s with tm:=(t,v)::s.tm,hp:=hp}
  | none=>Gq
def bE(P:aE)(L:Lib)(self:cx):VC->St->Option (Ex×St)
 | .skip,s=>Gp (.normal,s)
 | .oO ops,s=>match de P L self ops s with | some s'=>Gp (.normal,s') | none=>Gq
 | .seq a b,s=>
  match bE P L self a s with
  | some (.normal,s1)=>bE P L self b s1
  | r=>r
 | .cond x a b,s=>
  match ay s.tm x with
  | .bool t=>bif t then bE P L self a s else bE P L self b s
  | _=>Gq
 | .eb id a,s=>
  match bE P L self a s with
  | some (.exit j,s1)=>bif yq j id then Gp (.normal,s1) else Gp (.exit j,s1)
  | r=>r
 | .kp live,s=>Gp (.normal,bn live s)
 | .fz ts,s=>match rq ts s with | some s'=>Gp (.normal,s') | none=>Gq
 | .loop live a,s=>
  match bE P L self a (bn live s) with
  | some (.normal,s1)=>self (.loop live a) s1
  | r=>r
 | .rf f ps as_ body,s=>
  match ay s.tm f with
  | .fn (.f n) first cap=>
   match L.heap n with
   | some _=>Gq
   | none=>
    match iQ P L self ((s.ct,.lp s.tm ps as_ body 0 .none)::s.hp) (s.ct+1) n (first++(.fn (.y s.ct) [] []::cap)) with
    | some (_,hp,ct)=>
     match ai hp s.ct with
     | some (.lp _ _ _ _ st pe)=>
      bif yq st 1 then Gq else
      match pe with
      | .none=>Gp (.normal,{s with hp:=cE hp s.ct,ct:=ct})
      | .ret=>Gp (.ret,{s with hp:=cE hp s.ct,ct:=ct})
      | .exit id=>Gp (.exit id,{s with hp:=cE hp s.ct,ct:=ct})
     | _=>Gq
    | none=>Gq
  | _=>Gq
 | .exit id,s=>Gp (.exit id,s)
 | .ret,s=>Gp (.ret,s)
def ev(P:aE)(L:Lib)(n:Nat):cx:=Nat.rec (fun _ _=>Gq) (fun _ ih=>bE P L ih) n
def YF(P:aE)(L:Lib)(n:Nat)(f:Nat)(au:List AV):Option AV:=bO P L (ev P L n) f au
end
section
open Go
structure Pl where
 b:Nat
 o:Nat
 e:Nat
 z:Nat
abbrev Mp:=Nat->Option Pl
section
variable (ae:Nat->Nat)(m:Mp)(S:Nat->Prop)(w:yk)
mutual
def af:AV->yh->Prop
 | .int k n,v=>v=.int k n
 | .bool b,v=>v=.bool b
 | .aw k b,v=>v=.float k b
 | .dh k a b,v=>v=.complex k a b
 | .str s,v=>∃t:ByteArray,v=.string t/\t.data.toList.map xr=s
 | .kN,v=>v=.pointer Gq
 | .ptr id o,v=>∃p,m id=Gp p/\v=.pointer (Gp ⟨p.b,p.o+o,Gq⟩)
 | .bC cs,v=>∃b o,v=.pointer (Gp ⟨b,o,Gq⟩)/\(cs=[]\/S b)/\aF cs=ydb/\bU cs b o
 | .ah,v=>v=.slice Gq 0 0
 | .ap ex n cs,v=>(∃b o c,v=.slice (Gp ⟨b,o,Gq⟩) n c/\n<=c/\(ex=ydb->c=n)/\(cs=[]\/S b)/\aF cs=ydb/\bU cs b o)\/(∃a,v=.slice (Gp a) 0 0/\n=0/\cs=[])
 | .cF _ _ _ _,_=>False
 | .aq id o n,v=>∃p c,m id=Gp p/\v=.slice (Gp ⟨p.b,p.o+o,Gq⟩) n c/\n<=c/\o+c*p.z=p.e
 | .fn (.f g) first cap,v=>∃fi ca:Array yh,v=.func (.func (ae g)) fi ca/\aA first fi.toList/\aA cap ca.toList
 | .fn (.y l) _ _,v=>∃p,m l=Gp p/\v=.func (.yield p.b) #[] #[]
 | .iE,v=>v=.nilFunc
 | .jF,v=>v=.map Gq
 | .map id,v=>∃p,m id=Gp p/\v=.map (Gp p.b)
 | .jG ks vs,v=>∃b es clock,v=.map (Gp b)/\S b/\aF ks=ydb/\aF vs=ydb/\w.heap[b]? =Gp (.map es clock)/\
   aA ks (es.toList.map (·.key))/\aA vs (es.toList.map (·.val))
 | .it id,v=>∃p,m id=Gp p/\v=.pointer (Gp ⟨p.b,0,Gq⟩)
 | .agg cs,v=>∃xs:Array yh,v=.agg xs/\aA cs xs.toList
 | .av cs,v=>∃xs:Array yh,v=.tuple xs/\aA cs xs.toList
 | .undef,_=>True
def aA:List AV->List yh->Prop
 | [],us=>us=[]
 | c::cs,us=>∃u r,us=u::r/\af c u/\aA cs r
def bU:List AV->Nat->Nat->Prop
 | [],_,_=>True
 | c::cs,b,o=>(∃u,w.cell? ⟨b,o,Gq⟩=Gp u/\af c u)/\bU cs b (o+1)
end
end
def gm(S:Nat->Prop)(w w':yk):Prop:=∀b,S b->w'.heap[b]? =w.heap[b]?
def NT{w w':yk}{b o:Nat}(h:w'.heap[b]? =w.heap[b]?):w'.cell? ⟨b,o,Gq⟩=w.cell? ⟨b,o,Gq⟩:=by
 simp only[World.cell?,h]
section
variable {ae:Nat->Nat}{m m':Mp}{S S':Nat->Prop}{w w':yk}
mutual
def mJ(hm:∀id p,m id=Gp p->m' id=Gp p)(hS:∀b,S b->S' b)(hw:gm S w w'):
  ∀(v:AV) (u:yh),af ae m S w v u->af ae m' S' w' v u
 | .int _ _,_,h | .bool _,_,h | .aw _ _,_,h | .dh _ _ _,_,h | .str _,_,h | .kN,_,h | .ah,_,h | .iE,_,h | .jF,_,h | .undef,_,h=>by
  simpa only[af] using h
 | .ptr id o,u,h=>by
  simp only[af] at h ⊢;obtain⟨p,h1,h2⟩:=h;exact⟨p,hm _ _ h1,h2⟩
 | .bC cs,u,h=>by
  simp only[af] at h ⊢;obtain⟨b,o,h1,h2,h3,h4⟩:=h;refine⟨b,o,h1,h2.imp id (hS b),h3,?_⟩;rcases h2 with rfl | h2
  .simp only [bU]
  .exact TC hm hS hw cs b o h2 h4
 | .ap ex n cs,u,h=>by
  simp only[af] at h ⊢;rcases h with ⟨b,o,c,h1,h2,h3,h4,h5,h6⟩ | h
  .refine .inl ⟨b,o,c,h1,h2,h3,h4.imp id (hS b),h5,?_⟩;rcases h4 with rfl | h4
   .simp only [bU]
   .exact TC hm hS hw cs b o h4 h6
  .exact .inr h
 | .cF _ _ _ _,u,h=>by simp only[af] at h
 | .aq id o n,u,h=>by
  simp only[af] at h ⊢;obtain⟨p,c,h1,h2⟩:=h;exact⟨p,c,hm _ _ h1,h2⟩
 | .fn (.f g) first cap,u,h=>by
  simp only[af] at h ⊢;obtain⟨fi,ca,h1,h2,h3⟩:=h;exact⟨fi,ca,h1,iN hm hS hw first _ h2,iN hm hS hw cap _ h3⟩
 | .fn (.y l) _ _,u,h=>by
  simp only[af] at h ⊢;obtain⟨p,h1,h2⟩:=h;exact⟨p,hm _ _ h1,h2⟩
 | .map id,u,h=>by
  simp only[af] at h ⊢;obtain⟨p,h1,h2⟩:=h;exact⟨p,hm _ _ h1,h2⟩
 | .jG ks vs,u,h=>by
  simp only[af] at h ⊢;obtain⟨b,es,clock,h1,h2,h3,h4,h5,h6,h7⟩:=h;exact⟨b,es,clock,h1,hS b h2,h3,h4,(hw b h2).trans h5,iN hm hS hw ks _ h6,iN hm hS hw vs _ h7⟩
 | .it id,u,h=>by
  simp only[af] at h ⊢;obtain⟨p,h1,h2⟩:=h;exact⟨p,hm _ _ h1,h2⟩
 | .agg cs,u,h=>by
  simp only[af] at h ⊢;obtain⟨xs,h1,h2⟩:=h;exact⟨xs,h1,iN hm hS hw cs _ h2⟩
 | .av cs,u,h=>by
  simp only[af] at h ⊢;obtain⟨xs,h1,h2⟩:=h;exact⟨xs,h1,iN hm hS hw cs _ h2⟩
def iN(hm:∀id p,m id=Gp p->m' id=Gp p)(hS:∀b,S b->S' b)(hw:gm S w w'):
  ∀(vs:List AV) (us:List yh),aA ae m S w vs us->aA ae m' S' w' vs us
 | [],us,h=>by simpa only[aA] using h
 | v::r,us,h=>by
  simp only[aA] at h ⊢;have⟨u,t,h1,h2,h3⟩:=h;exact⟨u,t,h1,mJ hm hS hw v u h2,iN hm hS hw r t h3⟩
def TC(hm:∀id p,m id=Gp p->m' id=Gp p)(hS:∀b,S b->S' b)(hw:gm S w w'):
  ∀(cs:List AV) (b o:Nat),S b->bU ae m S w cs b o->bU ae m' S' w' cs b o
 | [],_,_,_,_=>by simp only[bU]
 | c::cs,b,o,hb,h=>by
  simp only[bU] at h ⊢;have⟨⟨u,h1,h2⟩,h3⟩:=h;exact⟨⟨u,(NT (hw b hb)).trans h1,mJ hm hS hw c u h2⟩,TC hm hS hw cs b (o+1) hb h3⟩
end
end
end
section
open Go
structure Hint where
 n:Nat
 bq:tS->Option Nat
 live:Nat->List Nat
 out:Nat->Option (List Nat)
 mode:Nat->Md
 fz:Nat->List Nat
section
variable (P:xx)(H:Hint)
mutual
def ff:yh->AV
 | .int k n=>.int k n
 | .bool b=>.bool b
 | .float k b=>.aw k b
 | .complex k a b=>.dh k a b
 | .string s=>.str (s.data.toList.map xr)
 | .pointer Gq=>.kN
 | .slice Gq 0 0=>.ah
 | .map Gq=>.jF
 | .nilFunc=>.iE
 | .agg ⟨cs⟩=>.agg (GS cs)
 | .tuple ⟨cs⟩=>.av (GS cs)
 | _=>.undef
def GS:List yh->List AV
 | []=>[]
 | v::r=>ff v::GS r
end
def aK:xA->X
 | .tmp t=>.t t
 | .const v=>.c (ff v)
 | .global _=>.c .undef
 | .func f=>match H.bq f with | some g=>.c (.fn (.f g) [] []) | none=>.c .undef
def iX:List xA->List X
 | []=>[]
 | x::r=>aK H x::iX r
def cl(t:yA):Option Nat:=match P.info? t with | some i=>Gp i.size | none=>Gq
def AG(t:yA):Option Nat:=match P.info? t with | some i=>Gp i.bytes | none=>Gq
def mQ(t:yA):Option AV:=match P.info? t with | some i=>(match i.zero with | some v=>Gp (ff v) | none=>Gq) | none=>Gq
def dA(t:yA):Option Bool:=match P.underlying t with | some (.struct _) | some (.array _ _)=>Gp ydb | some _=>Gp ydc | none=>Gq
def bad:Op:=.call .pure (.c .undef) []
def partsOf(place:Nat->Option (Nat×Nat)):List (Nat×xA)->Option (List (Nat×Nat×X))
 | []=>Gp []
 | (i,x)::r=>
  match place i,partsOf place r with
  | some (o,s),Gp l=>Gp ((o,s,aK H x)::l)
  | _,_=>Gq
def ph(self:yA->Option (List Nat)):List ua->Nat->Option (List Nat)
 | [],_=>Gp []
 | f::r,o=>
  match self f.type,cl P f.type with
  | some ks,Gp s=>
   bif f.name != "_"&&yq f.offset o&&yq ks.length s&& !P.stoodInHeld f.type then
    (match ph self r (o+s) with | some l=>Gp (ks++l) | none=>Gq)
   else Gq
  | _,_=>Gq
def kinds:Nat->yA->Option (List Nat)
 | 0,_=>Gq
 | n+1,t=>
  match P.underlying t with
  | some .bool=>Gp [0]
  | some (.int _)=>Gp [1]
  | some .string=>Gp [2]
  | some (.struct fs)=>ph P (fun u=>kinds n u) fs.toList 0
  | some (.array k e)=>
   match kinds n e,cl P e with
   | some ks,Gp s=>bif yq ks.length s&& !P.stoodInHeld e then Gp (yz k ks).flatten else Gq
   | _,_=>Gq
  | _=>Gq
def BG(t:yA):Bool:=match P.underlying t with | some (.int _)=>ydb | _=>ydc
def keyOf(t:yA):Option Nat:=
 match P.underlying t with
 | some .bool=>Gp 0
 | some (.int _)=>Gp 1
 | some .string=>Gp 2
 | some (.struct fs)=>bif fs.toList.all (fun f=>BG P f.type)&& !P.stoodInHeld t then
   (match kinds P 20 t with | some ks=>(bif yq ks.length fs.size then Gp (fs.size+3) else Gq) | none=>Gq) else Gq
 | _=>Gq
def pE(ne:Bool)(t:yA)(a b:xA):Op:=
 match kinds P 20 t with
 | some ks=>bif P.stoodInHeld t||P.eqGuardType P.depth t then bad else .eq ne (.ag ks) (aK H a) (aK H b)
 | none=>bad
def og(ne:Bool)(op:wX)(t:yA)(a b:xA):Op:=
 match P.underlying t with
 | some (.int _) | some .string | some (.float _) | some (.complex _)=>.bin op (aK H a) (aK H b)
 | some .bool=>.eq ne .b (aK H a) (aK H b)
 | some (.slice _)=>.eq ne .sl (aK H a) (aK H b)
 | some (.func _ _ _)=>.eq ne .fn (aK H a) (aK H b)
 | some (.struct _) | some (.array _ _)=>pE P H ne t a b
 | _=>bad
def aP(k:Nat)(o:yU):Op:=
 let x (y:xA):X:=aK H y
 match o.op with
 | .move a | .assign a=>.rR (x a)
 | .pick c a b=>.pick (x c) (x a) (x b)
 | .alloc t=>match cl P t,mQ P t with | some s,Gp z=>.box s (.c z) | _,_=>bad
 | .box t v=>match cl P t with | some s=>.box s (x v) | none=>bad
 | .build t parts=>
  match P.underlying t,mQ P t with
  | some (.struct fs),Gp (.agg z)=>
   match fs.toList.mapM (fun f=>(P.info? f.type).map fun i=>(f.offset,i.size)) with
   | some pl=>(match partsOf H (fun i=>pl[i]?) parts.toList with | some ps=>.ER z ps | none=>bad)
   | none=>bad
  | some (.array _ e),Gp (.agg z)=>
   match cl P e with
   | some s=>(match partsOf H (fun i=>Gp (i*s,s)) parts.toList with | some ps=>.ER z ps | none=>bad)
   | none=>bad
  | _,_=>bad
 | .buildSlice t n parts=>
  match P.underlying t with
  | some (.slice e)=>
   match cl P e,mQ P e with
   | some s,Gp z=>
    bif yB (n*s) 16777216 then
     (match partsOf H (fun i=>Gp (i*s,s)) parts.toList with | some ps=>.kj n s (yz n (cellsOf z)).flatten ps | none=>bad)
    else bad
   | _,_=>bad
  | _=>bad
 | .load t a=>match cl P t,dA P t with | some s,Gp ag=>.ld s ag (x a) | _,_=>bad
 | .store t a v=>match cl P t with | some s=>.st s (x a) (x v) | none=>bad
 | .nilCheck a=>.LK (x a)
 | .binOp op t a b _=>
  match op with
  | .eql=>og P H ydc op t a b
  | .neq=>og P H ydb op t a b
  | _=>.bin op (x a) (x b)
 | .unOp op _ a=>.un op (x a)
 | .convert s d a=>
  match P.underlying s,P.underlying d with
  | some (.int _),Gp (.int k) | some (.float _),Gp (.int k)=>.cv (.toInt k) (x a)
  | some (.int _),Gp (.float k) | some (.float _),Gp (.float k)=>.cv (.toFlt k) (x a)
  | some .string,Gp .string=>.cv .str (x a)
  | _,_=>bad
 | .makeFunc (.func f) first cap=>match H.bq f with | some g=>.H8 (.f g) (iX H first.toList) (iX H cap.toList) | none=>bad
 | .makeMap t Gq=>match P.underlying t with | some (.map ke _)=>(match keyOf P ke with | some _=>.BY | none=>bad) | _=>bad
 | .makeSlice t l c=>
  match P.underlying t with
  | some (.slice e)=>(match cl P e,AG P e,mQ P e with | some s,Gp b,Gp z=>.p8 s b (cellsOf z) (x l) (x c) | _,_,_=>bad)
  | _=>bad
 | .slice t a lo hi Gq=>
  match P.underlying t with
  | some .string=>.rS .str (x a) (lo.map x) (hi.map x)
  | some (.slice e)=>(match cl P e with | some s=>.rS (.sl s) (x a) (lo.map x) (hi.map x) | none=>bad)
  | some (.array n e)=>(match cl P e with | some s=>.rS (.ar n s) (x a) (lo.map x) (hi.map x) | none=>bad)
  | _=>bad
 | .fieldAddr t a i=>
  match P.underlying t with
  | some (.struct fs)=>
   match fs[i]? with
   | some f=>(match cl P f.type with | some (_+1)=>.off f.offset (x a) | _=>bad)
   | none=>bad
  | _=>bad
 | .field t a i=>
  match P.underlying t with
  | some (.struct fs)=>
   match fs[i]? with
   | some f=>(match cl P f.type,dA P f.type with | some s,Gp ag=>.MQ f.offset s ag (x a) | _,_=>bad)
   | none=>bad
  | _=>bad
 | .indexAddr t a i=>
  match P.underlying t with
  | some (.slice e)=>(match cl P e with | some s=>.bk s (x a) (x i) | none=>bad)
  | some (.array n e)=>(match cl P e with | some s=>.H9 n s (x a) (x i) | none=>bad)
  | _=>bad
 | .index t a i=>
  match P.underlying t with
  | some .string=>.Ia (x a) (x i)
  | some (.array n e)=>(match cl P e,dA P e with | some s,Gp ag=>.Ib n s ag (x a) (x i) | _,_=>bad)
  | _=>bad
 | .lookup t a i ok=>
  match P.underlying t with
  | some (.map ke e)=>(match keyOf P ke,mQ P e with | some kk,Gp z=>.Sm kk z ok (x a) (x i) | _,_=>bad)
  | _=>bad
 | .mapUpdate t a i v | .insert t a i v=>
  match P.underlying t with
  | some (.map ke _)=>(match keyOf P ke with | some kk=>.rT kk (x a) (x i) (x v) | none=>bad)
  | _=>bad
 | .range t a=>match P.underlying t with | some .string=>.rU (x a) | _=>bad
 | .next it ydb=>.rV (x it)
 | .extract t i=>.ext i (x t)
 | .call c=>
  match c.callee with
  | .value f=>(match H.mode k with | .dyn=>.j0 [] (x f) (iX H c.args.toList) | md=>.call md (x f) (iX H c.args.toList))
  | .builtin b=>
   match b,c.args.toList,c.argTypes.toList with
   | .append,[s,a],[t,u]=>
    match P.underlying t,P.underlying u with
    | some (.slice e),Gp (.slice _) | some (.slice e),Gp .string=>
     (match cl P e,AG P e,mQ P e with | some sz,Gp by',Gp z=>(bif yq (cellsOf z).length sz then .di sz by' (x s) (x a) else bad) | _,_,_=>bad)
    | _,_=>bad
   | .len,[a],[t]=>
    match P.underlying t with
    | some (.array n _)=>.rR (.c (.int .i64 n))
    | some .string=>.len 0 (x a)
    | some (.slice _)=>.len 1 (x a)
    | some (.map _ _)=>.len 2 (x a)
    | _=>bad
   | .copy,[d,s],[t,_]=>
    match P.underlying t with
    | some (.slice e)=>(match cl P e with | some sz=>.rX sz (x d) (x s) | none=>bad)
    | _=>bad
   | .min,l,_=>.mn (iX H l)
   | .max,l,_=>.mx (iX H l)
   | .real,[a],_=>.cv .re (x a)
   | .imag,[a],_=>.cv .im (x a)
   | .complex,[a,b],_=>.MR (x a) (x b)
   | _,_,_=>bad
  | _=>bad
 | _=>bad
def VA(o:yU):Bool:=match o.op with | .call {callee:=.value _,..}=>ydb | _=>ydc
def Lq(d:Option Nat):Bool:=match d with | some i=>yL i H.n | none=>ydb
def Bw(n:Nat):List Nat->Bool
 | []=>ydb
 | i::r=>yL i n&&Bw n r
def Ep(ops:Array yU):List yU->Nat->List aS×Nat
 | [],k=>([],k)
 | o::r,k=>
  let g:=match o.guard with
   | none=>Gp Gq
   | some (j,b)=>match (ops[j]?).bind (·.dst) with | some t=>Gp (Gp (t,b)) | none=>Gq
  match Ep ops r (k+(bif VA o then 1 else 0)) with
  | (l,k')=>
   match g,Lq H o.dst with
   | some g,ydb=>(⟨o.dst,g,aP P H k o⟩::l,k')
   | _,_=>(⟨o.dst,Gq,bad⟩::l,k')
def CN(acc:List Nat):List Edge->Nat
 | []=>0
 | e::r=>bif Region.binds .any e then (2^e.on|||acc.getD e.on 0)|||CN acc r else CN acc r
def kM(acc:List Nat):List yU->List Nat
 | []=>acc
 | o::r=>kM (acc++[CN acc o.after.toList]) r
def n9:List yU->Nat->Bool
 | [],_=>ydb
 | o::r,i=>o.after.toList.all (fun e=> !Region.binds .any e||yL e.on i)&&n9 r (i+1)
def O7(ops:Array yU)(draw:Bool)(k:Nat):List aS×Nat:=
 match Ep P H ops ops.toList k with
 | (l,k')=>
  bif draw then
   (let ms:=kM [] ops.toList
    let l':=lK [] l ms
    bif n9 ops.toList 0&&qV [] l' ms then (l',k') else bif n9 ops.toList 0&&qV [] (Hk [] l') ms then (Hk [] l',k') else
    (let pm:=places l ms
    let zm:=CE ms pm pm pm
    let l2:=lK [] (C0 (EV l l) pm) zm
    bif n9 ops.toList 0&&(Kz ops.size pm (Ag pm ops.size)&&qV [] l2 zm) then (l2,k') else ([⟨Gq,Gq,bad⟩],k')))
  else (l,k')
def atY:vz->Bool
 | .loop _=>ydb
 | _=>ydc
def comp:vz->Nat->Nat->VC×Nat×Nat
 | .skip,l,k | .label _,l,k=>(.skip,l,k)
 | .region i ops d,l,k=>match O7 P H ops d k with | (r,k')=>((match H.fz i with | []=>.oO r | t::ts=>.seq (.fz (t::ts)) (.oO r)),l,k')
 | .seq a b,l,k=>match comp a l k with | (a',l1,k1)=>match comp b l1 k1 with | (b',l2,k2)=>(.seq a' b',l2,k2)
 | .cond c a b,l,k=>
  match comp a (l+1) k with
  | (a',l1,k1)=>
   match comp b l1 k1 with
   | (b',l2,k2)=>(match H.out l with | some o=>.seq (.cond (aK H c) a' b') (.kp o) | none=>.cond (aK H c) a' b',l2,k2)
 | .block id a,l,k=>
  match comp a l k with
  | (a',r)=>(match atY a,H.out l with | true,Gp o=>.seq (.eb id a') (.kp o) | _,_=>.eb id a',r)
 | .loop a,l,k=>match comp a (l+1) k with | (a',r)=>(.loop (H.live l) a',r)
 | .rangeFunc f ps as_ body,l,k=>
  match comp as_ l k with | (as',l1,k1)=>match comp body l1 k1 with | (b',l2,k2)=>(bif Bw H.n ps.toList then .rf (aK H f) ps.toList as' b' else .oO [⟨Gq,Gq,bad⟩],l2,k2)
 | .exit id,l,k=>(.exit id,l,k)
 | .scope a,l,k=>comp a l k
 | .ret,l,k=>(.ret,l,k)
 | .goto _,l,k | .refuse _,l,k=>(.oO [⟨Gq,Gq,bad⟩],l,k)
def qX:List ResultVar->Option (List RV)
 | []=>Gp []
 | .tmp t::r=>match qX r with | some l=>Gp (.t t::l) | none=>Gq
 | .cell a t::r=>match cl P t,dA P t,qX r with | some s,Gp ag,Gp l=>Gp (.cell a s ag::l) | _,_,_=>Gq
def GU(fn:Func):Option az:=
 match fn.body,qX P fn.results.toList with
 | some c,Gp rs=>bif yB H.n fn.ntmps then Gp ⟨rs,(comp P H c 0 0).1⟩ else Gq
 | _,_=>Gq
end
end
section
open Go
structure bz where
 P:xx
 aJ:Lib
 ae:Nat->Nat
 prog:aE
 hint:Nat->Hint
 w0:yk
def Dy(P:xx)(H:Hint)(v:VC)(c:vz):Prop:=∃l k,(comp P H c l k).1=v
def Da:Nat->LoopState
 | 0=>.ready
 | 1=>.busy
 | 2=>.done
 | _=>.exhausted
def Bq:sY->Option vz
 | .none=>Gq
 | .ret=>Gp .ret
 | .exit id=>Gp (.exit id)
section
variable (O:bz)(m:Mp)(S:Nat->Prop)(w:yk)
def bX(tm:Env)(tmps:Array yh):Prop:=∀i,af O.ae m S w (ak tm i) (tmps.getD i undef)
def fp(id:Nat):Obj->Prop
 | .cells rw pu ex sz cs=>∃p arr t,m id=Gp p/\w.heap[p.b]? =Gp (.cells arr t (0,0))/\p.z=sz/\cs.length<=p.e/\p.o+p.e<=arr.size/\
   (ex=ydb->cs.length=p.e)/\bU O.ae m S w cs p.b p.o/\(pu=ydb->aF cs=ydb)/\(rw=ydb->¬S p.b)/\(rw=ydc->S p.b)
 | .mp rw ks vs=>∃p es clock,m id=Gp p/\w.heap[p.b]? =Gp (.map es clock)/\aA O.ae m S w ks (es.toList.map (·.key))/\aA O.ae m S w vs (es.toList.map (·.val))/\
   (rw=ydb->¬S p.b)/\(rw=ydc->S p.b)
 | .si s pos=>∃p t,m id=Gp p/\w.heap[p.b]? =Gp (.stringIter t pos)/\t.data.toList.map xr=s/\¬S p.b
 | .lp tm ps as_ body st pe=>∃p l h,m id=Gp p/\w.heap[p.b]? =Gp (.loop l)/\¬S p.b/\l.state=Da st/\st<=2/\l.pending=Bq pe/\bX O m S w tm l.tmps/\
   l.params.toList=ps/\Dy O.P (O.hint h) as_ l.assign/\Dy O.P (O.hint h) body l.body/\(O.hint h).n<=l.tmps.size/\Bw (O.hint h).n ps=ydb
structure aT(hp:Hp)(ct:Nat):Prop where
 obj:∀id o p,ai hp id=Gp o->m id=Gp p->fp O m S w id o
 lt:∀id p,m id=Gp p->id<ct
 inj:∀i j oi oj pi pj,ai hp i=Gp oi->ai hp j=Gp oj->m i=Gp pi->m j=Gp pj->pi.b=pj.b->i=j
 slt:∀b,S b->b<w.heap.size
 blt:∀id p,m id=Gp p->p.b<w.heap.size
 low:∀id p,m id=Gp p->O.w0.heap.size<=p.b
 mS:∀b,b<O.w0.heap.size->w.heap[b]? =O.w0.heap[b]?
 gI:O.w0.heap.size<=w.heap.size
 aH:∀id o,ai hp id=Gp o->id<ct
end
def eB(m:Mp)(hp:Hp)(b:Nat):Prop:=∃id o p,ai hp id=Gp o/\m id=Gp p/\p.b=b
structure b8(m:Mp)(S:Nat->Prop)(w:yk)(hp:Hp)(m':Mp)(S':Nat->Prop)(w':yk)(an:Hp)(base:Nat):Prop where
 os:w'.os=w.os
 tape:w'.tape=w.tape
 output:w'.output=w.output
 size:w.heap.size<=w'.heap.size
 same:∀b,b<w.heap.size->¬eB m hp b->w'.heap[b]? =w.heap[b]?
 sub:∀b,S b->S' b
 still:∀b,S b->w'.heap[b]? =w.heap[b]?
 new:∀b,S' b->S b\/eB m hp b\/w.heap.size<=b
 own:∀b,eB m' an b->eB m hp b\/w.heap.size<=b
 old:∀id p,id<base->m id=Gp p->m' id=Gp p
 loops:∀(b:Nat) (r:uV),w.heap[b]? =Gp (.loop r)->∃r':uV,w'.heap[b]? =Gp (.loop r')
def b8.refl{m:Mp}{S:Nat->Prop}{w:yk}{hp:Hp}{base:Nat}:b8 m S w hp m S w hp base:=
 ⟨rfl,rfl,rfl,yp _,fun _ _ _=>rfl,fun _ h=>h,fun _ _=>rfl,fun _ h=>.inl h,fun _ h=>.inl h,fun _ _ _ h=>h,fun _ r h=>⟨r,h⟩⟩
def b8.trans{m m' MV:Mp}{S S' Dz:Nat->Prop}{w w' Sn:yk}{hp an LL:Hp}{base:Nat}(h:b8 m S w hp m' S' w' an base)(k:b8 m' S' w' an MV Dz Sn LL base):b8 m S w hp MV Dz Sn LL base where
 os:=k.os.trans h.os
 tape:=k.tape.trans h.tape
 output:=k.output.trans h.output
 size:=xo h.size k.size
 same b hb ho:=(k.same b (yG hb h.size) (fun jQ=>(h.own b jQ).elim ho (fun h1=>by omega))).trans (h.same b hb ho)
 sub b hb:=k.sub b (h.sub b hb)
 still b hb:=(k.still b (h.sub b hb)).trans (h.still b hb)
 new b hb:=by
  rcases k.new b hb with h1 | h1 | h1
  .exact h.new b h1
  .rcases h.own b h1 with h2 | h2
   .grind
   .grind
  .exact .inr (.inr (xo h.size h1))
 own b hb:=by
  rcases k.own b hb with h1 | h1
  .exact h.own b h1
  .exact .inr (xo h.size h1)
 old id p hid hp:=k.old id p hid (h.old id p hid hp)
 loops b r hb:=let ⟨r',h1⟩:=h.loops b r hb;k.loops b r' h1
end
section
open Go
section
variable {ae:Nat->Nat}{m:Mp}{S:Nat->Prop}{w:yk}
mutual
def O8:∀v:yh,af ae m S w (ff v) v
 | .int _ _ | .bool _ | .float _ _ | .complex _ _ _=>by simp only[ff,af]
 | .string s=>by simp only[ff,af];exact⟨s,rfl,rfl⟩
 | .pointer Gq=>by simp only[ff,af]
 | .pointer (Gp _)=>by simp only[ff,af]
 | .slice Gq 0 0=>by simp only[ff,af]
 | .slice Gq 0 (_+1)=>by simp only[ff,af]
 | .slice Gq (_+1) _=>by simp only[ff,af]
 | .slice (Gp _) _ _=>by simp only[ff,af]
 | .map Gq=>by simp only[ff,af]
 | .map (Gp _)=>by simp only[ff,af]
 | .nilFunc=>by simp only[ff,af]
 | .agg ⟨cs⟩=>by simp only[ff,af];exact⟨⟨cs⟩,rfl,Uu cs⟩
 | .tuple ⟨cs⟩=>by simp only[ff,af];exact⟨⟨cs⟩,rfl,Uu cs⟩
 | .chan _ | .func _ _ _ | .iface _ _ | .nilIface=>by simp only[ff,af]
def Uu:∀l:List yh,aA ae m S w (GS l) l
 | []=>by simp only[GS,aA]
 | v::r=>by simp only[GS,aA];exact⟨v,r,rfl,O8 v,Uu r⟩
end
end
def fo(O:bz)(H:Hint):Prop:=∀f g,H.bq f=Gp g->O.ae g=f
section
variable {O:bz}{H:Hint}{m:Mp}{S:Nat->Prop}{w:yk}{tm:Env}{a:Act}
def bY(hH:fo O H)(ht:bX O m S w tm a.tmps)(x:xA):af O.ae m S w (ay tm (aK H x)) (a.eval x):=by
 cases x with
 | tmp t=>exact ht t
 | const v=>simp only[aK,ay,Act.eval];exact O8 v
 | global g=>simp only[aK,ay,af]
 | func f=>
  simp only[aK,Act.eval]
  cases hr:H.bq f with
  | none=>simp only[ay,af]
  | some g=>simp only[ay,af,hH f g hr,aA];exact⟨#[],#[],rfl,rfl,rfl⟩
def Ez(hH:fo O H)(ht:bX O m S w tm a.tmps):∀l:List xA,aA O.ae m S w (dN tm (iX H l)) (l.map a.eval)
 | []=>by simp only[iX,dN,List.map_nil,aA]
 | x::r=>by simp only[iX,dN,xb,aA];exact⟨_,_,rfl,bY hH ht x,Ez hH ht r⟩
end
section
variable {O:bz}{m:Mp}{S:Nat->Prop}{w:yk}
def sH{ae:Nat->Nat}:∀(k:Nat) (cs:List AV) (b o:Nat),bU ae m S w cs b o->bU ae m S w (cs.drop k) b (o+k)
 | 0,cs,b,o,h=>by simpa using h
 | k+1,[],b,o,_=>by simp only[List.drop_nil,bU]
 | k+1,c::cs,b,o,h=>by
  have:=sH k cs b (o+1) h.2
  grind
def Ba{ae:Nat->Nat}:∀(k:Nat) (cs:List AV) (b o:Nat),bU ae m S w cs b o->bU ae m S w (cs.take k) b o
 | 0,cs,b,o,_=>by simp only[ybK,bU]
 | k+1,[],b,o,_=>by simp only[List.take_nil,bU]
 | k+1,c::cs,b,o,h=>by
  exact⟨h.1,Ba k cs b (o+1) h.2⟩
def zP{ae:Nat->Nat}:∀(cs:List AV) (b o:Nat),bU ae m S w cs b o->
  ∃us:List yh,aA ae m S w cs us/\us.length=cs.length/\∀j u,us[j]? =Gp u->w.cell? ⟨b,o+j,Gq⟩=Gp u
 | [],b,o,_=>⟨[],by simp only[aA],rfl,fun j u h=>by simp at h⟩
 | c::cs,b,o,h=>by
  obtain⟨⟨u,h1,h2⟩,h3⟩:=h;obtain⟨us,h4,h5,h6⟩:=zP cs b (o+1) h3;refine⟨u::us,by simp only[aA];exact⟨u,us,rfl,h2,h4⟩,by simp[h5],fun j v hv=>?_⟩
  cases j with
  | zero=>simp at hv;subst hv;simpa using h1
  | succ j=>simp at hv;have:=h6 j v hv;rw[show o+(j+1)=o+1+j by omega];exact this
def iz{ae:Nat->Nat}:∀(cs:List AV) (us:List yh),aA ae m S w cs us->us.length=cs.length
 | [],us,h=>by simp only[aA] at h;subst h;rfl
 | c::cs,us,h=>by
  obtain⟨u,r,rfl,_,h3⟩:=h;simp[iz cs r h3]
end
end
section
open Go
def oh(b o j:Nat):(⟨b,o,Gq⟩:uL).add j=⟨b,o+j,Gq⟩:=by
 unfold Addr.add;split<;>simp_all
section
variable {P:xx}{w:yk}
def alG(t:yA)(b o:Nat)(us:List yh)(ha:dA P t=Gp ydb)(hz:cl P t=Gp us.length)(h:∀j u,us[j]? =Gp u->w.cell? ⟨b,o+j,Gq⟩=Gp u):(loadVar t ⟨b,o,Gq⟩).run P w=.ok (.agg us.toArray) w:=by
 have hl:=run_loadCells_list (P:=P) w ⟨b,o,Gq⟩ us (fun j u hu=>by rw[oh];exact h j u hu)
 unfold cl at hz
 cases hi:P.info? t with
 | none=>simp[hi] at hz
 | some i=>
  unfold dA at ha
  cases hu:P.underlying t with
  | none=>simp[hu] at ha
  | some d=>cases d<;>simp_all[loadVar,isAgg,vA,typeInfo,underlying]
def alH(t:yA)(b o:Nat)(u:yh)(ha:dA P t=Gp ydc)(h:w.cell? ⟨b,o,Gq⟩=Gp u):(loadVar t ⟨b,o,Gq⟩).run P w=.ok u w:=by
 unfold dA at ha
 cases hu:P.underlying t with
 | none=>simp[hu] at ha
 | some d=>cases d<;>simp_all[loadVar,isAgg,underlying]
end
section
variable {O:bz}{m:Mp}{S:Nat->Prop}{w:yk}
def O9{t:yA}{sz:Nat}{ag:Bool}{cs:List AV}{b o:Nat}{v:AV}(hz:cl O.P t=Gp sz)(ha:dA O.P t=Gp ag)(hr:bU O.ae m S w cs b o)(hv:ie sz ag cs=Gp v):∃u,(loadVar t ⟨b,o,Gq⟩).run O.P w=.ok u w/\af O.ae m S w v u:=by
 cases ag with
 | true=>
  simp only[ie,yu] at hv
  cases hle:yB sz cs.length with
  | false=>simp only[hle,yP] at hv;cases hv
  | true=>
   simp only[hle,yu,yc] at hv;subst hv;obtain⟨us,h1,h2,h3⟩:=zP _ _ _ (Ba sz cs b o hr);have hlen:us.length=sz:=by
    simp_all
   refine⟨.agg us.toArray,alG t b o us ha (by rw[hlen];exact hz) h3,?_⟩
   simp only[af]
   grind
 | false=>
  simp only[ie,yP] at hv
  cases cs with
  | nil=>simp at hv
  | cons c cs=>
   simp only[yc] at hv;subst hv;obtain⟨⟨u,h1,h2⟩,_⟩:=hr;exact⟨u,alH t b o u ha h1,h2⟩
def adN{t:yA}{sz o:Nat}{ag:Bool}{cs:List AV}{xs:Array yh}{v:AV}(hz:cl O.P t=Gp sz)(ha:dA O.P t=Gp ag)(hr:aA O.ae m S w cs xs.toList)(hv:ie sz ag (cs.drop o)=Gp v):∃u,(part t xs o).run O.P w=.ok u w/\af O.ae m S w v u:=by
 have hd:∀(k:Nat) (cs:List AV) (us:List yh),aA O.ae m S w cs us->aA O.ae m S w (cs.drop k) (us.drop k):=by
  intro k
  induction k with
  | zero=>intro cs us h;simpa using h
  | succ k ih=>
   intro cs us h
   cases cs with
   | nil=>simp only[aA] at h;subst h;simp[aA]
   | cons c cs=>simp only[aA] at h;obtain⟨u,r,rfl,_,h3⟩:=h;simpa using ih cs r h3
 have fg:∀(k:Nat) (cs:List AV) (us:List yh),aA O.ae m S w cs us->aA O.ae m S w (cs.take k) (us.take k):=by
  intro k
  induction k with
  | zero=>intro cs us h;simp[aA]
  | succ k ih=>
   intro cs us h
   cases cs with
   | nil=>simp only[aA] at h;subst h;simp[aA]
   | cons c cs=>simp only[aA] at h;obtain⟨u,r,rfl,h2,h3⟩:=h;simp only[wG,aA];exact⟨u,_,rfl,h2,ih cs r h3⟩
 have ahi:(isAgg t).run O.P w=.ok ag w:=by
  unfold dA at ha
  cases hu:O.P.underlying t with
  | none=>simp[hu] at ha
  | some d=>cases d<;>simp_all[isAgg,underlying]
 have eO:(vA t).run O.P w=.ok sz w:=by
  unfold cl at hz
  cases hi:O.P.info? t with
  | none=>simp[hi] at hz
  | some i=>simp_all[vA,typeInfo]
 have bg:=hd o cs xs.toList hr
 cases ag with
 | true=>
  simp only[ie,yu] at hv
  cases hle:yB sz (cs.drop o).length with
  | false=>simp only[hle,yP] at hv;cases hv
  | true=>
   simp only[hle,yu,yc] at hv;subst hv;refine⟨.agg (xs.extract o (o+sz)),by simp[part,Sem.run_bind,ahi,eO],?_⟩;simp only[af]
   simp_all
 | false=>
  simp only[ie,yP] at hv
  cases hc:cs.drop o with
  | nil=>simp[hc] at hv
  | cons c r=>
   simp only[hc,yc] at hv;subst hv;rw[hc] at bg;simp only[aA] at bg;obtain⟨u,us,h1,h2,_⟩:=bg;have hx:xs[o]? =Gp u:=by
    have:xs.toList[o]? =Gp u:=by
     have:=congrArg (fun l=>l[0]?) h1
     simpa using this
    simpa using this
   exact⟨u,by simp[part,Sem.run_bind,ahi,hx],h2⟩
end
end
section
open Go
section
variable {v:AV}{k:xe}{b:Nat}
def nD(t:ByteArray):List Nat:=t.data.toList.map xr
def adO:∀a b:List UInt8,cK (a.map xr) (b.map xr)=(a==b)
 | [],[]=>rfl
 | [],_::_=>rfl
 | _::_,[]=>rfl
 | a::x,b::y=>by
  have h:yq a.toNat b.toNat=(a==b):=by
   rw[yam,ycV,tT];exact ybs
  simp only[xb,cK,adO x y,h,List.cons_beq_cons]
def adP:∀a b:List UInt8,Dv (a.map xr) (b.map xr)=Op.bytesLess a b
 | [],[]=>rfl
 | [],_::_=>rfl
 | _::_,[]=>rfl
 | a::x,b::y=>by
  have h:yq a.toNat b.toNat=(a==b):=by
   rw[yam,ycV,tT];exact ybs
  have h2:yL a.toNat b.toNat=decide (a<b):=by
   rw[yam];simp only[yL,ycW,vS,UInt8.lt_iff_toNat_lt]
   lia
  simp only[xb,Dv,Op.bytesLess,adP x y,h,h2]
def abA(s t:ByteArray):cK (nD s) (nD t)=(s.toList==t.toList):=by
 rw[nD,nD,adO,ByteArray.toList_eq,ByteArray.toList_eq]
def am4(s t:ByteArray):Dv (nD s) (nD t)=Op.bytesLess s.toList t.toList:=by
 rw[nD,nD,adP,ByteArray.toList_eq,ByteArray.toList_eq]
def abB(s:ByteArray):(nD s).length=s.size:=by
 rw[nD,List.length_map,Lib.size_eq]
section
variable {ae:Nat->Nat}{P:xx}{m:Mp}{S:Nat->Prop}{w:yk}{t:yA}
def aoP{op:wX}{x y:Int}(h:mP op k x y=Gp v):
  ∃u,(wh op t (.int k x) (.int k y)).run P w=.ok u w/\af ae m S w v u:=by
 cases op<;>simp only[mP,intCmp,yc] at h
 case quo=>
  by_cases hy:y=0
  .grind
  .simp only [hy,xz,yc] at h;subst h;exact⟨_,by simp[wh,Op.intDiv,hy];rfl,by simp[af]⟩
 case rem=>
  by_cases hy:y=0
  .grind
  .simp only [hy,xz,yc] at h;subst h;exact⟨_,by simp[wh,Op.intDiv,hy];rfl,by simp[af]⟩
 case shl=>cases h
 case shr=>cases h
 all_goals
  subst h;exact⟨_,by simp[wh,Op.intCmp];rfl,by simp[af]⟩
def aaS{op:wX}{k':xe}{x y:Int}(h:Eo op k x y=Gp v):
  ∃u,(wh op t (.int k x) (.int k' y)).run P w=.ok u w/\af ae m S w v u:=by
 unfold Eo at h;by_cases hy:y<0
 .grind
 .simp only [hy,xz] at h;cases op<;>simp only[yc] at h
  case shl=>subst h;exact⟨_,by simp[wh,Op.shift,hy];rfl,by simp[af]⟩
  case shr=>subst h;exact⟨_,by simp[wh,Op.shift,hy];rfl,by simp[af]⟩
  all_goals cases h
def aoQ{op:wX}{x y:ByteArray}(h:Lm op (nD x) (nD y)=Gp v):
  ∃u,(wh op t (.string x) (.string y)).run P w=.ok u w/\af ae m S w v u:=by
 cases op<;>simp only[Lm,abA,am4,abB,yc] at h
 case add=>
  cases hle:yB (x.size+y.size) 9223372036854775807 with
  | false=>rw[hle] at h;cases h
  | true=>
   rw[hle] at h;simp only[yu,yc] at h;subst h;have aF9:=yt hle;have azN:¬(((x.size+y.size:Nat):Int)>IntKind.i64.max):=by
    have:IntKind.i64.max=9223372036854775807:=by decide
    grind
   refine⟨.string (x++y),?_,?_⟩
   .simp only [wh,Op.stringOp,yr azN,Sem.run_pure]
   .simp only [af];exact⟨x++y,rfl,by simp[nD]⟩
 all_goals first
  | (cases h;done)
  | (subst h;exact⟨_,by simp[wh,Op.stringOp];rfl,by simp[af]⟩)
def aoR{op:wX}{k:wc}{x y:Nat}(h:P4 op k x y=Gp v):
  ∃u,(wh op t (.float k x) (.float k y)).run P w=.ok u w/\af ae m S w v u:=by
 cases op<;>simp only[P4,yc] at h
 case add=>
  cases hr:k.format.add x y with
  | none=>simp[hr] at h
  | some r=>simp only[hr,yc] at h;subst h;exact⟨.float k r,by simp[wh,Op.floatArith,hr],by simp[af]⟩
 case sub=>
  cases hr:k.format.sub x y with
  | none=>simp[hr] at h
  | some r=>simp only[hr,yc] at h;subst h;exact⟨.float k r,by simp[wh,Op.floatArith,hr],by simp[af]⟩
 case mul=>
  cases hr:k.format.mul x y with
  | none=>simp[hr] at h
  | some r=>simp only[hr,yc] at h;subst h;exact⟨.float k r,by simp[wh,Op.floatArith,hr],by simp[af]⟩
 case quo=>
  cases hr:k.format.div x y with
  | none=>simp[hr] at h
  | some r=>simp only[hr,yc] at h;subst h;exact⟨.float k r,by simp[wh,Op.floatArith,hr],by simp[af]⟩
 all_goals first
  | (cases h;done)
  | (subst h;exact⟨_,by simp[wh,Op.floatCmp];rfl,by simp[af]⟩)
def adQ(k:wc)(x y:Nat):(Op.Complex.cmp .eql k x y).run P w=.ok (k.format.order x y==Gp .eq) w:=by
 simp[Op.Complex.cmp,Op.floatCmp,asBool]
def z6{op:wX}{k:wc}{x y r:Nat}(h:nc op k x y=Gp r):(Op.Complex.arith op k x y).run P w=.ok r w:=by
 unfold nc at h
 split at h
 .simp [Op.Complex.arith,Op.floatArith,h]
 .simp [Op.Complex.arith,Op.floatArith,h]
 .simp [Op.Complex.arith,Op.floatArith,h]
 .cases h
def GV{s k:wc}{r:Nat}(h:Dw s k b=Gp r):(Op.Complex.conv s b k).run P w=.ok r w:=by
 unfold Dw at h;unfold Op.Complex.conv;by_cases hk:s=k
 .rw [yC hk] at h ⊢;cases h;rfl
 .rw [yr hk] at h ⊢
  cases hd:s.decode b with
  | nan _ _=>simp[hd] at h
  | infinity _=>simp[hd] at h
  | number sg m e=>
   simp only[hd] at h
   cases hi:(k.decode (k.encode (.number sg m e))).isInfinity with
   | true=>simp[hi] at h
   | false=>simp[hi] at h;subst h;simp[Conv.floatToFloat,hk,hd,hi]
def am5{k:wc}{a c d:Nat}(h:Vz k a b c d=Gp v):
  ∃u,(wh .mul t (.complex k a b) (.complex k c d)).run P w=.ok u w/\af ae m S w v u:=by
 unfold Vz at h
 split at h
 .rename_i a' b' c' d' h1 h2 h3 h4
  split at h
  .rename_i p q r s g1 g2 g3 g4
   split at h
   .rename_i e f k1 k2
    split at h
    .rename_i e' f' l1 l2;cases h;exact⟨.complex k e' f',by simp[wh,Op.complexOp,Op.Complex.product,Op.Complex.mul,Op.Complex.sub,Op.Complex.add,GV h1,GV h2,GV h3,GV h4,z6 g1,z6 g2,z6 g3,z6 g4,z6 k1,z6 k2,GV l1,GV l2],by simp[af]⟩
    .cases h
   .cases h
  .cases h
 .cases h
def aoS{op:wX}{k:wc}{a c d:Nat}(h:V7 op k a b c d=Gp v):
  ∃u,(wh op t (.complex k a b) (.complex k c d)).run P w=.ok u w/\af ae m S w v u:=by
 cases op<;>simp only[V7,yc,reduceCtorEq] at h
 case add=>
  cases h1:nc .add k a c with
  | none=>simp[h1] at h
  | some r=>
   cases h2:nc .add k b d with
   | none=>simp[h1,h2] at h
   | some i=>
    simp only[h1,h2,yc] at h;subst h;exact⟨.complex k r i,by simp[wh,Op.complexOp,z6 h1,z6 h2],by simp[af]⟩
 case sub=>
  cases h1:nc .sub k a c with
  | none=>simp[h1] at h
  | some r=>
   cases h2:nc .sub k b d with
   | none=>simp[h1,h2] at h
   | some i=>
    simp only[h1,h2,yc] at h;subst h;exact⟨.complex k r i,by simp[wh,Op.complexOp,z6 h1,z6 h2],by simp[af]⟩
 case mul=>exact am5 h
 case eql=>subst h;exact⟨_,by simp[wh,Op.complexOp,adQ];rfl,by simp[af]⟩
 case neq=>subst h;exact⟨_,by simp[wh,Op.complexOp,adQ];rfl,by simp[af]⟩
def aoT{op:wX}{vx vy:AV}{x y:yh}(hx:af ae m S w vx x)(hy:af ae m S w vy y)(h:VE.binOp op vx vy=Gp v):
  ∃u,(wh op t x y).run P w=.ok u w/\af ae m S w v u:=by
 unfold VE.binOp at h
 split at h
 .rename_i k a k' b;simp only[af] at hx hy;subst hx;subst hy
  split at h
  .exact aaS h
  .exact aaS h
  .by_cases hk:k=k'
   .subst hk;simp only[xP] at h;exact aoP h
   .simp [hk] at h
 .rename_i k a k' b;simp only[af] at hx hy;subst hx;subst hy;by_cases hk:k=k'
  .subst hk;simp only[xP] at h;exact aoR h
  .simp [hk] at h
 .rename_i a b;simp only[af] at hx hy;obtain⟨s,rfl,rfl⟩:=hx;obtain⟨s',rfl,rfl⟩:=hy;exact aoQ h
 .rename_i k a b k' c d;simp only[af] at hx hy;subst hx;subst hy;by_cases hk:k=k'
  .subst hk;simp only[xP] at h;exact aoS h
  .simp [hk] at h
 .cases h
end
end
end
section
open Go
section
variable {v vx:AV}{vr:Bool}{d:Nat}{x:yh}
section
variable {ae:Nat->Nat}{P:xx}{m:Mp}{S:Nat->Prop}{w:yk}{t:yA}
def amc{op:wX}{x y:xA}{a b:yh}(h:P.eqGuardType P.depth t=ydc\/∀xs ys,¬(a=.agg xs/\b=.agg ys))(hn:a≠.nilIface):
  (eqGuard op t x y a b).run P w=.ok () w:=by
 unfold eqGuard;cases op
 all_goals first
  | rfl
  | (
    cases a
    all_goals first
     | rfl
     | exact absurd rfl hn
     | (
      cases b
      all_goals first
       | rfl
       | (
         rcases h with h | h
         .simp [h]
         .exact absurd ⟨rfl,rfl⟩ (h _ _))))
def atZ{p q:Bool}(ht:P.underlying t=Gp .bool):(Op.equalIn (d+1) t (.bool p) (.bool q)).run P w=.ok (p==q) w:=by
 simp[Op.equalIn,underlying,ht]
def Wa{e:yA}(ht:P.underlying t=Gp (.slice e))(y:Option uL)(n c n' c':Nat):
  (Op.equalIn (d+1) t (.slice Gq n c) (.slice y n' c')).run P w=.ok y.isNone w:=by simp[Op.equalIn,underlying,ht]
def afG{e:yA}(ht:P.underlying t=Gp (.slice e))(x:uL)(n c n' c':Nat):
  (Op.equalIn (d+1) t (.slice (Gp x) n c) (.slice Gq n' c')).run P w=.ok ydc w:=by simp[Op.equalIn,underlying,ht]
def axY{ps rs:Array yA}(ht:P.underlying t=Gp (.func ps rs vr)):
  (Op.equalIn (d+1) t .nilFunc .nilFunc).run P w=.ok ydb w:=by simp[Op.equalIn,underlying,ht]
def afH{ps rs:Array yA}(ht:P.underlying t=Gp (.func ps rs vr))(f:Go.Fn)(a b:Array yh):
  (Op.equalIn (d+1) t .nilFunc (.func f a b)).run P w=.ok ydc w:=by simp[Op.equalIn,underlying,ht]
def afI{ps rs:Array yA}(ht:P.underlying t=Gp (.func ps rs vr))(f:Go.Fn)(a b:Array yh):
  (Op.equalIn (d+1) t (.func f a b) .nilFunc).run P w=.ok ydc w:=by simp[Op.equalIn,underlying,ht]
def Uv(x y:yh):Op.equal t x y=Op.equalIn (9999+1) t x y:=rfl
def arh{vy:AV}{y:yh}{r:Bool}{e:yA}(ht:P.underlying t=Gp (.slice e))(hx:af ae m S w vx x)(hy:af ae m S w vy y)(h:km .sl vx vy=Gp r):(Op.equal t x y).run P w=.ok r w:=by
 unfold km at h
 split at h<;>simp_all only [yc,reduceCtorEq]
 all_goals subst h
 .subst hx;subst hy;exact Wa ht _ _ _ _ _
 .rcases hy with ⟨b,o,c,rfl,_⟩ | ⟨_,rfl,_⟩<;>(subst hx;exact Wa ht _ _ _ _ _)
 .obtain ⟨p,c,_,rfl,_⟩:=hy;subst hx;exact Wa ht _ _ _ _ _
 .rcases hx with ⟨b,o,c,rfl,_⟩ | ⟨_,rfl,_⟩<;>(subst hy;exact afG ht _ _ _ _ _)
 .obtain ⟨p,c,_,rfl,_⟩:=hx;subst hy;exact afG ht _ _ _ _ _
def ari{vy:AV}{y:yh}{r:Bool}{ps rs:Array yA}(ht:P.underlying t=Gp (.func ps rs vr))(hx:af ae m S w vx x)(hy:af ae m S w vy y)(h:km .fn vx vy=Gp r):(Op.equal t x y).run P w=.ok r w:=by
 unfold km at h
 split at h<;>simp_all only [yc,reduceCtorEq]
 all_goals subst h
 .simp only [af] at hx hy;subst hx;subst hy;exact axY ht
 .rename_i f _ _
  cases f with
  | f g=>simp only[af] at hx hy;obtain⟨fi,ca,rfl,_⟩:=hy;subst hx;exact afH ht _ _ _
  | y l=>simp only[af] at hx hy;obtain⟨p,_,rfl⟩:=hy;subst hx;exact afH ht _ _ _
 .rename_i f _ _
  cases f with
  | f g=>simp only[af] at hx hy;obtain⟨fi,ca,rfl,_⟩:=hx;subst hy;exact afI ht _ _ _
  | y l=>simp only[af] at hx hy;obtain⟨p,_,rfl⟩:=hx;subst hy;exact afI ht _ _ _
def arj{op:ycH}(hx:af ae m S w vx x)(h:VE.unOp op vx=Gp v):∃u,(Op.unary op x).run P w=.ok u w/\af ae m S w v u:=by
 unfold VE.unOp at h
 split at h
 .rename_i k n;subst hx;simp only[yc] at h;subst h;exact⟨_,by simp[Op.unary,Op.intArith];rfl,by simp[af]⟩
 .rename_i k n;subst hx;simp only[mP,yc] at h;subst h;exact⟨_,by simp[Op.unary,Op.intBits];rfl,by simp[af]⟩
 .rename_i b;subst hx;simp only[yc] at h;subst h;exact⟨_,by simp[Op.unary];rfl,by simp[af]⟩
 .rename_i k b;subst hx;simp only[yc] at h;subst h;exact⟨_,by simp[Op.unary,Op.negFloat];rfl,by simp[af]⟩
 .cases h
def acD{s d:yA}{k:xe}(hd:P.underlying d=Gp (.int k))(hs:(∃k',P.underlying s=Gp (.int k'))\/∃k',P.underlying s=Gp (.float k'))(hx:af ae m S w vx x)(h:mu (.toInt k) vx=Gp v):∃u,(convert s d x).run P w=.ok u w/\af ae m S w v u:=by
 cases vx<;>simp only[mu,reduceCtorEq] at h
 case int k0 n=>
  simp only[af] at hx;subst hx;simp only[yc] at h;subst h;refine⟨.int k (k.wrap n),?_,by simp[af]⟩;rcases hs with ⟨k',h'⟩ | ⟨k',h'⟩<;>simp[convert,underlying,Conv.intToInt,hd,h']
 case aw sk b=>
  subst hx
  cases hi:(sk.decode b).toInt .zero with
  | none=>simp[hi] at h
  | some n=>
   simp only[hi] at h;by_cases hr:k.min<=n/\n<=k.max
   .simp only [hr,and_self,xP,yc] at h;subst h;refine⟨.int k n,?_,by simp[af]⟩;rcases hs with ⟨k',h'⟩ | ⟨k',h'⟩<;>simp[convert,underlying,Conv.floatToInt,hd,h',hi,hr]
   .grind
def acE{s d:yA}{k:wc}(hd:P.underlying d=Gp (.float k))(hs:(∃k',P.underlying s=Gp (.int k'))\/∃k',P.underlying s=Gp (.float k'))(hx:af ae m S w vx x)(h:mu (.toFlt k) vx=Gp v):∃u,(convert s d x).run P w=.ok u w/\af ae m S w v u:=by
 cases vx<;>simp only[mu,reduceCtorEq] at h
 case int k0 n=>
  simp only[af] at hx;subst hx;simp only[yc] at h;subst h;refine⟨.float k (k.nearest n),?_,by simp[af]⟩;rcases hs with ⟨k',h'⟩ | ⟨k',h'⟩<;>simp[convert,underlying,Conv.intToFloat,hd,h']
 case aw sk b=>
  simp only[af] at hx;subst hx;by_cases he:sk=k
  .subst he;simp only[xP,yc] at h;subst h;refine⟨.float sk b,?_,by simp[af]⟩;rcases hs with ⟨k',h'⟩ | ⟨k',h'⟩<;>simp[convert,underlying,Conv.floatToFloat,hd,h']
  .simp only [he,xz] at h
   cases Ap:sk.decode b with
   | nan _ _=>simp[Ap] at h
   | infinity _=>simp[Ap] at h
   | number sg mm ee=>
    simp only[Ap] at h
    cases WZ:(k.decode (k.encode (.number sg mm ee))).isInfinity with
    | true=>simp[WZ] at h
    | false=>
     simp only[WZ,yD,xz,yc] at h;subst h;refine⟨.float k (k.encode (.number sg mm ee)),?_,by simp[af]⟩;rcases hs with ⟨k',h'⟩ | ⟨k',h'⟩<;>simp[convert,underlying,Conv.floatToFloat,hd,h',he,Ap,WZ]
def aoU{s d:yA}(hd:P.underlying d=Gp .string)(hs:P.underlying s=Gp .string)(hx:af ae m S w vx x)(h:mu .str vx=Gp v):∃u,(convert s d x).run P w=.ok u w/\af ae m S w v u:=by
 cases vx<;>simp only[mu,reduceCtorEq] at h
 simp only[yc] at h;subst h;obtain⟨b,rfl,hb⟩:=hx;exact⟨.string b,by simp[convert,underlying,hs,hd],by simp only[af];exact⟨b,rfl,hb⟩⟩
end
end
end
section
open Go
section
variable {v vx:AV}{hp:Hp}{k:Nat}{P:xx}{x:yh}
def am6(h:dd v=Gp k):∃kd,v=.int kd (k:Int):=by
 cases v<;>simp only[dd,reduceCtorEq] at h
 rename_i kd n
 cases n with
 | ofNat j=>simp only[yc] at h;subst h;exact⟨kd,rfl⟩
 | negSucc j=>cases h
section
variable {O:bz}{H:Hint}{m:Mp}{S:Nat->Prop}{w:yk}{tm:Env}{a:Act}
def Bn{ae:Nat->Nat}(hx:af ae m S w v x)(h:dd v=Gp k):∃kd,x=.int kd (k:Int):=by
 obtain⟨kd,rfl⟩:=am6 h;simp only[af] at hx
 grind
def run_sliceBound{kd:xe}{y:Nat}{code:BoundsCode}(h:k<=y):(Instr.sliceBound (.int kd (k:Int)) y code).run P w=.ok k w:=by
 have:(0:Int)<=(k:Int)/\(k:Int)<=(y:Int):=by lia
 simp[Instr.sliceBound,asIntOf,this]
def TV{isSlice:Bool}{len cap l h:Nat}{lo hi:Option xA}(hH:fo O H)(ht:bX O m S w tm a.tmps)(hl:cU tm 0 (lo.map (aK H))=Gp l)(hh:cU tm len (hi.map (aK H))=Gp h)(h1:l<=h)(h2:h<=cap):
  (Instr.sliceBounds isSlice len cap (lo.map a.eval) (hi.map a.eval) Gq).run P w=.ok (l,h,cap) w:=by
 cases lo with
 | none=>
  simp only[uA,cU,yc] at hl;subst hl
  cases hi with
  | none=>
   simp only[uA,cU,yc] at hh;subst hh;simp[Instr.sliceBounds]
  | some y=>
   have⟨kd,e⟩:=Bn (bY hH ht y) hh;simp only[Instr.sliceBounds,uA,wO,e,Sem.run_bind,Sem.run_pure,Result.andThen_ok,run_sliceBound h2]
 | some x=>
  have⟨kd,e⟩:=Bn (bY hH ht x) hl
  cases hi with
  | none=>
   simp only[uA,cU,yc] at hh;subst hh;simp only[Instr.sliceBounds,uA,wO,e,Sem.run_bind,Sem.run_pure,Result.andThen_ok,run_sliceBound h1]
  | some y=>
   have⟨YG,e'⟩:=Bn (bY hH ht y) hh;simp only[Instr.sliceBounds,wO,e,e',Sem.run_bind,Sem.run_pure,Result.andThen_ok,run_sliceBound h2,run_sliceBound h1]
def am7{t:yA}{lo hi:Option xA}(hH:fo O H)(ht:bX O m S w tm a.tmps)(hu:O.P.underlying t=Gp .string)(hx:af O.ae m S w vx x)(h:fC hp .str vx tm (lo.map (aK H)) (hi.map (aK H))=Gp v):
  ∃u,(Instr.sliceAt t x (lo.map a.eval) (hi.map a.eval) Gq).run O.P w=.ok u w/\af O.ae m S w v u:=by
 cases vx<;>simp only[fC,reduceCtorEq] at h
 obtain⟨b,rfl,rfl⟩:=hx
 cases hl:cU tm 0 (lo.map (aK H)) with
 | none=>simp[hl] at h
 | some l=>
  simp only[hl] at h
  cases hh:cU tm (b.data.toList.map xr).length (hi.map (aK H)) with
  | none=>rw[hh] at h;cases h
  | some g=>
   rw[hh] at h;simp only at h
   cases hc:(yB l g&&yB g (b.data.toList.map xr).length) with
   | false=>rw[hc] at h;cases h
   | true=>
    rw[hc] at h;simp only[yu,yc] at h;subst h;simp only[ye] at hc;have h1:=yt hc.1;have h2:=yt hc.2;have hlen:(b.data.toList.map xr).length=b.size:=abB b;rw[hlen] at hh h2;refine⟨.string (b.extract l g),?_,?_⟩
    .simp only [Instr.sliceAt,Sem.run_bind,run_underlying hu,Result.andThen_ok,Instr.slice,tL,yD,xz,Sem.run_pure,
      TV (P:=O.P) (isSlice:=ydc) (len:=b.size) (cap:=b.size) hH ht hl hh h1 h2]
    .simp only [af];refine⟨_,rfl,?_⟩;rw[Lib.extract_data,List.map_take,List.map_drop,List.drop_take]
def aoV{t e:yA}{sz:Nat}{lo hi:Option xA}(hH:fo O H)(ht:bX O m S w tm a.tmps)(hu:O.P.underlying t=Gp (.slice e))(hz:cl O.P e=Gp sz){ct:Nat}(hh:aT O m S w hp ct)(hx:af O.ae m S w vx x)(h:fC hp (.sl sz) vx tm (lo.map (aK H)) (hi.map (aK H))=Gp v):
  ∃u,(Instr.sliceAt t x (lo.map a.eval) (hi.map a.eval) Gq).run O.P w=.ok u w/\af O.ae m S w v u:=by
 have eO:(vA e).run O.P w=.ok sz w:=by
  unfold cl at hz
  cases hi:O.P.info? e with
  | none=>simp[hi] at hz
  | some i=>simp_all[vA,typeInfo]
 have KA:∀(ad:Option uL) (n c l g:Nat),cU tm 0 (lo.map (aK H))=Gp l->cU tm n (hi.map (aK H))=Gp g->l<=g->g<=c->
   (Instr.sliceAt t (.slice ad n c) (lo.map a.eval) (hi.map a.eval) Gq).run O.P w=.ok (.slice (if c=l then ad else ad.map (·.add (l*sz))) (g-l) (c-l)) w:=by
  intro ad n c l g hl hg h1 h2
  simp only[Instr.sliceAt,Sem.run_bind,run_underlying hu,Result.andThen_ok,Instr.slice,Sem.run_pure,eO,
   TV (P:=O.P) (isSlice:=ydb) (len:=n) (cap:=c) hH ht hl hg h1 h2]
 cases vx<;>simp only[fC,reduceCtorEq] at h
 case ah=>
  simp only[af] at hx;subst hx
  cases hl:cU tm 0 (lo.map (aK H)) with
  | none=>simp[hl] at h
  | some l=>
   cases l with
   | succ l=>simp[hl] at h
   | zero=>
    simp only[hl] at h
    cases hh:cU tm 0 (hi.map (aK H)) with
    | none=>simp[hh] at h
    | some g=>
     cases g with
     | succ g=>simp[hh] at h
     | zero=>
      simp only[hh,yc] at h;subst h;exact⟨_,KA Gq 0 0 0 0 hl hh (yp _) (yp _),by simp[af]⟩
 case ap ex n cs=>
  simp only[af] at hx;rcases hx with ⟨b,o,c,rfl,MW,hex,hS,fX,BZ⟩ | ⟨ad,rfl,rfl,rfl⟩
  case inr=>
   cases hl:cU tm 0 (lo.map (aK H)) with
   | none=>simp[hl] at h
   | some l=>
    simp only[hl] at h
    cases hh:cU tm 0 (hi.map (aK H)) with
    | none=>simp[hh] at h
    | some g=>
     simp only[hh] at h
     cases hc:(yB l g&&yB g 0) with
     | false=>rw[hc] at h;cases h
     | true=>
      rw[hc] at h;simp only[yu,yc] at h;subst h;simp only[ye] at hc;have h1:=yt hc.1;have h2:=yt hc.2;have hg:g=0:=by lia
      subst hg;have lR:l=0:=by lia
      subst lR;refine⟨_,KA (Gp ad) 0 0 0 0 hl hh h1 h2,?_⟩;simp only[af];exact .inr ⟨ad,by simp,by simp,by simp[slice]⟩
  cases hl:cU tm 0 (lo.map (aK H)) with
  | none=>simp[hl] at h
  | some l=>
   simp only[hl] at h
   cases hh:cU tm n (hi.map (aK H)) with
   | none=>simp[hh] at h
   | some g=>
    simp only[hh] at h
    cases hc:(yB l g&&yB g n) with
    | false=>rw[hc] at h;cases h
    | true=>
     rw[hc] at h;simp only[yu,yc] at h;subst h;simp only[ye] at hc;have h1:=yt hc.1;have h2:=yt hc.2;refine⟨_,KA (Gp ⟨b,o,Gq⟩) n c l g hl hh h1 (by lia),?_⟩;have EX:aF (slice (l*sz) ((g-l)*sz) cs)=ydb:=by
      have pd:∀(k:Nat) (cs:List AV),aF cs=ydb->aF (cs.drop k)=ydb:=by
       intro k
       induction k with
       | zero=>intro cs h;simpa using h
       | succ k ih=>intro cs h;cases cs with
        | nil=>simpa using h
        | cons c cs=>simp only[aF,ye] at h;simpa using ih cs h.2
      have pt:∀(k:Nat) (cs:List AV),aF cs=ydb->aF (cs.take k)=ydb:=by
       intro k
       induction k with
       | zero=>intro cs h;simp[aF]
       | succ k ih=>intro cs h;cases cs with
        | nil=>simp[aF]
        | cons c cs=>simp only[aF,ye,wG] at h ⊢;exact⟨h.1,ih cs h.2⟩
      exact pt _ _ (pd _ _ fX)
     have ahj:(ex&&yq g n)=ydb->c-l=g-l:=by
      intro hq;simp only[ye] at hq
      have:=hex hq.1
      have:=yg hq.2
      lia
     simp only[af];by_cases fY:c=l
     .have h0:g-l=0:=by lia
      have B0:slice (l*sz) ((g-l)*sz) cs=[]:=by simp[slice,h0]
      rw[B0];exact .inl ⟨b,o,c-l,by simp[fY],by lia,ahj,.inl rfl,rfl,by simp[bU]⟩
     .refine .inl ⟨b,o+l*sz,c-l,by simp[fY,oh],by lia,ahj,?_,EX,?_⟩
      .rcases hS with rfl | hS
       .exact .inl (by simp[slice])
       .exact .inr hS
      .exact Ba _ _ _ _ (sH _ _ _ _ BZ)
 case aq id o n=>
  simp only[af] at hx;obtain⟨p,c,hm,rfl,MW,So⟩:=hx
  split at h
  case h_2=>cases h
  rename_i FN pu0 qd z0 lS EY;have⟨p',arr,t',ig,_,dj,_⟩:=hh.obj id _ _ EY hm;rw[hm] at ig;injection ig with ig
  subst ig
  cases hl:cU tm 0 (lo.map (aK H)) with
  | none=>simp[hl] at h
  | some l=>
   simp only[hl] at h
   cases hh:cU tm n (hi.map (aK H)) with
   | none=>simp[hh] at h
   | some g=>
    simp only[hh] at h
    cases hc:(yB l g&&yB g n&&yq z0 sz) with
    | false=>rw[hc] at h;cases h
    | true=>
     rw[hc] at h;simp only[yu] at h;simp only[ye] at hc;have h1:=yt hc.1.1;have h2:=yt hc.1.2;have hpz:p.z=sz:=dj.trans (yg hc.2)
     cases he:(yq l g&& !yq l 0) with
     | true=>
      rw[he] at h;simp only[yu,yc] at h;subst h;simp only[ye] at he;have DA:=yg he.1;refine⟨_,KA (Gp ⟨p.b,p.o+o,Gq⟩) n c l g hl hh h1 (by lia),?_⟩;simp only[af];by_cases fY:c=l
      .exact .inl ⟨p.b,p.o+o,c-l,by simp[fY];lia,by lia,by simp,by simp,by simp[aF],by simp[bU]⟩
      .exact .inl ⟨p.b,p.o+o+l*sz,c-l,by simp[fY,oh];lia,by lia,by simp,by simp,by simp[aF],by simp[bU]⟩
     | false=>
      rw[he] at h;simp only[yP,yc] at h;subst h;have fY:c=l->l=0:=by
       intro fY;have DA:l=g:=by lia
       cases lR:yq l 0 with
       | true=>exact yg lR
       | false=>rw[DA,wQ,<-DA,lR] at he;cases he
      refine⟨_,KA (Gp ⟨p.b,p.o+o,Gq⟩) n c l g hl hh h1 (by lia),?_⟩;simp only[af];refine⟨p,c-l,hm,?_,by lia,?_⟩
      .by_cases W0:c=l
       .have:=fY W0;subst this;subst W0;simp
       .simp [W0,oh,uP]
      .rw [hpz] at So ⊢
       have:c*sz=l*sz+(c-l)*sz:=by rw[<-xR];congr 1;lia
       lia
def aoW{t e:yA}{n sz:Nat}{lo hi:Option xA}(hH:fo O H)(ht:bX O m S w tm a.tmps)(hu:O.P.underlying t=Gp (.array n e))(hz:cl O.P e=Gp sz)(hx:af O.ae m S w vx x)(h:fC hp (.ar n sz) vx tm (lo.map (aK H)) (hi.map (aK H))=Gp v):
  ∃u,(Instr.sliceAt t x (lo.map a.eval) (hi.map a.eval) Gq).run O.P w=.ok u w/\af O.ae m S w v u:=by
 have eO:(vA e).run O.P w=.ok sz w:=by
  unfold cl at hz
  cases hi:O.P.info? e with
  | none=>simp[hi] at hz
  | some i=>simp_all[vA,typeInfo]
 cases vx<;>simp only[fC,reduceCtorEq] at h
 rename_i cs;simp only[af] at hx;obtain⟨b,o,rfl,hS,fX,BZ⟩:=hx
 cases hl:cU tm 0 (lo.map (aK H)) with
 | none=>simp[hl] at h
 | some l=>
  simp only[hl] at h
  cases hh:cU tm n (hi.map (aK H)) with
  | none=>simp[hh] at h
  | some g=>
   simp only[hh] at h
   cases hc:(yq l 0&&yq g n&&(yL 0 n&&yB (n*sz) cs.length)) with
   | false=>rw[hc] at h;cases h
   | true=>
    rw[hc] at h;simp only[yu,yc] at h;subst h;simp only[ye] at hc;have h1:=yg hc.1.1;have h2:=yg hc.1.2;have h3:0<n:=yt hc.2.1;subst h1 h2;have eI:¬g=0:=by omega
    refine⟨.slice (Gp ⟨b,o,Gq⟩) g g,?_,?_⟩
    .simp only [Instr.sliceAt,Sem.run_bind,run_underlying hu,Result.andThen_ok,Instr.sureAddr,Sem.run_pure,eO,
      TV (P:=O.P) (isSlice:=ydc) (len:=g) (cap:=g) hH ht hl hh (Nat.zero_le _) (yp _)]
     simp[oh]
    .have pt:∀(k:Nat) (cs:List AV),aF cs=ydb->aF (cs.take k)=ydb:=by
      intro k
      induction k with
      | zero=>intro cs h;simp[aF]
      | succ k ih=>intro cs h;cases cs with
       | nil=>simp[aF]
       | cons c cs=>simp only[aF,ye,wG] at h ⊢;exact⟨h.1,ih cs h.2⟩
     simp only[af];refine .inl ⟨b,o,g,rfl,yp _,fun _=>rfl,?_,pt _ _ fX,Ba _ _ _ _ BZ⟩;rcases hS with rfl | hS
     .exact .inl (by simp)
     .exact .inr hS
end
end
end
section
open Go
section
variable {v vi vx:AV}{ag:Bool}{cs:List AV}{k sz:Nat}{i x:yh}
def pg{P:xx}{w:yk}{t:yA}(hz:cl P t=Gp sz):(vA t).run P w=.ok sz w:=by
 unfold cl at hz
 cases hi:P.info? t with
 | none=>simp[hi] at hz
 | some i=>simp_all[vA,typeInfo]
section
variable {O:bz}{H:Hint}{m:Mp}{S:Nat->Prop}{w:yk}{tm:Env}{a:Act}{hp:Hp}{ct:Nat}
def Uw{id o n:Nat}{rw pu ex:Bool}{p:Pl}(hh:aT O m S w hp ct)(hg:ai hp id=Gp (.cells rw pu ex sz cs))(hm:m id=Gp p):
  bU O.ae m S w cs p.b p.o:=by
 have⟨p',arr,t',ig,_,_,_,_,_,hr,_⟩:=hh.obj id _ _ hg hm
 grind
def axZ{t:yA}(hh:aT O m S w hp ct)(hz:cl O.P t=Gp sz)(ha:dA O.P t=Gp ag)(hx:af O.ae m S w vx x)(h:gn hp sz ag vx=Gp v):∃u,(Instr.loadAt t x).run O.P w=.ok u w/\af O.ae m S w v u:=by
 cases vx<;>simp only[gn,reduceCtorEq] at h
 case ptr id o=>
  obtain⟨p,hm,rfl⟩:=hx
  split at h
  case h_2=>cases h
  rename_i FN pu0 qd z0 lS EY;have hr:=Uw (id:=id) (o:=0) (n:=0) hh EY hm;have⟨u,h1,h2⟩:=O9 hz ha (sH o lS p.b p.o hr) h;exact⟨u,by simp only[Instr.loadAt,Instr.sureAddr,Sem.run_bind,Sem.run_pure,Result.andThen_ok];exact h1,h2⟩
 case bC cs=>
  obtain⟨b,o,rfl,_,_,hr⟩:=hx;have⟨u,h1,h2⟩:=O9 hz ha hr h;exact⟨u,by simp only[Instr.loadAt,Instr.sureAddr,Sem.run_bind,Sem.run_pure,Result.andThen_ok];exact h1,h2⟩
def Bb:∀(k:Nat) (cs:List AV),aF cs=ydb->aF (cs.drop k)=ydb
 | 0,cs,h=>by simpa using h
 | k+1,[],h=>by simpa using h
 | k+1,c::cs,h=>by simp only[aF,ye] at h;simpa using Bb k cs h.2
def TW{b o:Nat}(h2:cs=[]\/S b)(h3:aF cs=ydb)(h4:bU O.ae m S w cs b o):af O.ae m S w (.bC (cs.drop k)) (.pointer (Gp ⟨b,o+k,Gq⟩)):=by
 refine⟨b,o+k,rfl,?_,Bb k cs h3,sH k cs b o h4⟩
 grind
def at0{t:yA}{fs:Array ua}{i:Nat}{f:ua}(hu:O.P.underlying t=Gp (.struct fs))(hf:fs[i]? =Gp f)(hz:cl O.P f.type=Gp (sz+1))(hx:af O.ae m S w vx x)(h:CY f.offset vx=Gp v):∃u,(Instr.fieldAt t x i).run O.P w=.ok u w/\af O.ae m S w v u:=by
 have afJ:∀(b o:Nat),(Instr.fieldAt t (.pointer (Gp ⟨b,o,Gq⟩)) i).run O.P w=.ok (.pointer (Gp ⟨b,o+f.offset,Gq⟩)) w:=by
  intro b o;simp only[Instr.fieldAt,Sem.run_bind,run_underlying hu,Result.andThen_ok,hf,Instr.sureAddr,Sem.run_pure,fieldPlace,pg hz,Nat.succ_ne_zero,xz,oh]
 cases vx<;>simp only[CY,reduceCtorEq] at h
 case ptr id o=>
  obtain⟨p,hm,rfl⟩:=hx;simp only[yc] at h;subst h;exact⟨_,afJ _ _,by simp only[af];exact⟨p,hm,by rw[uP]⟩⟩
 case bC cs=>
  obtain⟨b,o,rfl,h2,h3,h4⟩:=hx
  cases hc:yB f.offset cs.length with
  | false=>rw[hc] at h;cases h
  | true=>
   rw[hc] at h;simp only[yu,yc] at h;subst h;exact⟨_,afJ _ _,TW h2 h3 h4⟩
def at1{t:yA}{fs:Array ua}{i:Nat}{f:ua}(hu:O.P.underlying t=Gp (.struct fs))(hf:fs[i]? =Gp f)(hz:cl O.P f.type=Gp sz)(ha:dA O.P f.type=Gp ag)(hx:af O.ae m S w vx x)(h:P5 f.offset sz ag vx=Gp v):∃u,(Instr.field t x i).run O.P w=.ok u w/\af O.ae m S w v u:=by
 cases vx<;>simp only[P5,reduceCtorEq] at h
 obtain⟨xs,rfl,hr⟩:=hx;have⟨u,h1,h2⟩:=adN hz ha hr h;exact⟨u,by simp only[Instr.field,Sem.run_bind,run_underlying hu,Result.andThen_ok,hf,asAgg,Sem.run_pure];exact h1,h2⟩
def at2{t e:yA}(hu:O.P.underlying t=Gp (.slice e))(hz:cl O.P e=Gp sz)(hx:af O.ae m S w vx x)(hi:af O.ae m S w vi i)(hk:dd vi=Gp k)(h:gH sz k vx=Gp v):∃u,(Instr.indexAt t x i).run O.P w=.ok u w/\af O.ae m S w v u:=by
 obtain⟨kd,rfl⟩:=Bn hi hk;have Lr:∀(b o n c:Nat),k<n->(Instr.indexAt t (.slice (Gp ⟨b,o,Gq⟩) n c) (.int kd (k:Int))).run O.P w=.ok (.pointer (Gp ⟨b,o+k*sz,Gq⟩)) w:=by
  intro b o n c rZ;have hr:(0:Int)<=(k:Int)/\(k:Int)<(n:Int):=by lia
  simp[Instr.indexAt,asIntOf,run_underlying hu,pg hz,hr,oh]
  grind
 cases vx<;>simp only[gH,reduceCtorEq] at h
 case aq id o n=>
  obtain⟨p,c,hm,rfl,MW,So⟩:=hx
  cases hc:yL k n with
  | false=>rw[hc] at h;cases h
  | true=>
   rw[hc] at h;simp only[yu,yc] at h;subst h;have rZ:k<n:=by simp_all
   exact⟨_,Lr _ _ _ _ rZ,by simp only[af];exact⟨p,hm,by rw[uP]⟩⟩
 case ap ex n cs=>
  rcases hx with ⟨b,o,c,rfl,MW,hex,h2,h3,h4⟩ | ⟨a,rfl,rfl,rfl⟩
  case inr=>
   have:yL k 0=ydc:=by cases hq:yL k 0 with | false=>rfl | true=>simp only[yL,ycW] at hq;lia
   grind
  cases hc:yL k n with
  | false=>rw[hc] at h;cases h
  | true=>
   rw[hc] at h;simp only[yu,yc] at h;subst h;have rZ:k<n:=by simp_all
   exact⟨_,Lr _ _ _ _ rZ,TW h2 h3 h4⟩
def at3{t e:yA}{len:Nat}(hu:O.P.underlying t=Gp (.array len e))(hz:cl O.P e=Gp sz)(hx:af O.ae m S w vx x)(hi:af O.ae m S w vi i)(hk:dd vi=Gp k)(h:P6 len sz k vx=Gp v):∃u,(Instr.indexAt t x i).run O.P w=.ok u w/\af O.ae m S w v u:=by
 obtain⟨kd,rfl⟩:=Bn hi hk;have Lr:∀(b o:Nat),k<len->(Instr.indexAt t (.pointer (Gp ⟨b,o,Gq⟩)) (.int kd (k:Int))).run O.P w=.ok (.pointer (Gp ⟨b,o+k*sz,Gq⟩)) w:=by
  intro b o rZ;have hr:(0:Int)<=(k:Int)/\(k:Int)<(len:Int):=by lia
  simp[Instr.indexAt,asIntOf,run_underlying hu,pg hz,hr,oh,Instr.sureAddr]
  grind
 cases vx<;>simp only[P6,reduceCtorEq] at h
 case ptr id o=>
  obtain⟨p,hm,rfl⟩:=hx
  cases hc:yL k len with
  | false=>rw[hc] at h;cases h
  | true=>
   rw[hc] at h;simp only[yu,yc] at h;subst h;have rZ:k<len:=by simp_all
   exact⟨_,Lr _ _ rZ,by simp only[af];exact⟨p,hm,by rw[uP]⟩⟩
 case bC cs=>
  obtain⟨b,o,rfl,h2,h3,h4⟩:=hx
  cases hc:yL k len with
  | false=>rw[hc] at h;cases h
  | true=>
   rw[hc] at h;simp only[yu,yc] at h;subst h;have rZ:k<len:=by simp_all
   exact⟨_,Lr _ _ rZ,TW h2 h3 h4⟩
def at4{t e:yA}{len:Nat}(hu:O.P.underlying t=Gp (.array len e))(hz:cl O.P e=Gp sz)(ha:dA O.P e=Gp ag)(hx:af O.ae m S w vx x)(hi:af O.ae m S w vi i)(hk:dd vi=Gp k)(h:P7 len sz ag k vx=Gp v):
  ∃u,(Instr.index t x i).run O.P w=.ok u w/\af O.ae m S w v u:=by
 obtain⟨kd,rfl⟩:=Bn hi hk;cases vx<;>simp only[P7,reduceCtorEq] at h
 obtain⟨xs,rfl,hr⟩:=hx
 cases hc:yL k len with
 | false=>rw[hc] at h;cases h
 | true=>
  rw[hc] at h;have rZ:k<len:=by simp_all
  have⟨u,h1,h2⟩:=adN hz ha hr h;have bg:(0:Int)<=(k:Int)/\(k:Int)<(len:Int):=by lia
  exact⟨u,by simp[Instr.index,asIntOf,run_underlying hu,pg hz,bg,h1];intro hle;exact absurd hle (by lia),h2⟩
def at5{t:yA}(hu:O.P.underlying t=Gp .string)(hx:af O.ae m S w vx x)(hi:af O.ae m S w vi i)(hk:dd vi=Gp k)(h:oD k vx=Gp v):
  ∃u,(Instr.index t x i).run O.P w=.ok u w/\af O.ae m S w v u:=by
 obtain⟨kd,rfl⟩:=Bn hi hk;cases vx<;>simp only[oD,reduceCtorEq] at h
 obtain⟨b,rfl,rfl⟩:=hx
 cases hs:(b.data.toList.map xr)[k]? with
 | none=>rw[hs] at h;cases h
 | some q=>
  rw[hs] at h;simp only[yc] at h;subst h;rw[uW] at hs
  cases hb:b.data.toList[k]? with
  | none=>rw[hb] at hs;cases hs
  | some c=>
   rw[hb] at hs;simp only[wO,yc] at hs;subst hs;have bJ:b[k]? =Gp c:=by
    have aH:k<b.data.toList.length:=by
     grind
    have eO:k<b.size:=by simp_all
    rw[getElem?_pos b k eO];rw[xv aH] at hb;rw[<-hb];rfl
   refine⟨.int .u8 c.toNat,?_,by simp[af]⟩;simp[Instr.index,asIntOf,run_underlying hu,bJ]
end
end
end
section
open Go
section
variable {ae:Nat->Nat}{m:Mp}{S:Nat->Prop}{w:yk}
def TX:∀{v:AV} {u:yh},af ae m S w v u->cd (cellsOf v)=ydb->aA ae m S w (cellsOf v) u.cells.toList:=by
 intro v u h h1;cases v
 case undef=>simp[cellsOf,cd,db] at h1
 case cF=>simp[cellsOf,cd,db] at h1
 case fn f a b=>
  cases f with
  | f g=>have h':=h;obtain⟨fi,ca,rfl,_⟩:=h';exact⟨_,_,rfl,h,rfl⟩
  | y l=>have h':=h;obtain⟨p,_,rfl⟩:=h';exact⟨_,_,rfl,h,rfl⟩
 all_goals
  have h':=h;simp only[af] at h';simp only[cellsOf,Value.cells,aA]
  grind
def Eg(v:yh):aA ae m S w (cellsOf (ff v)) v.cells.toList:=by
 have h:=O8 (ae:=ae) (m:=m) (S:=S) (w:=w) v;cases v
 case agg xs=>
  obtain⟨xs,e,hr⟩:=h;injection e with e
  subst e;exact hr
 case pointer p=>cases p<;>(simp only[ff] at h ⊢;exact⟨_,_,rfl,h,rfl⟩)
 case map p=>cases p<;>(simp only[ff] at h ⊢;exact⟨_,_,rfl,h,rfl⟩)
 case slice p n c=>
  cases p
  .cases n
   .cases c<;>(simp only[ff] at h ⊢;exact⟨_,_,rfl,h,rfl⟩)
   .simp only [ff] at h ⊢;exact⟨_,_,rfl,h,rfl⟩
  .simp only [ff] at h ⊢;exact⟨_,_,rfl,h,rfl⟩
 all_goals (simp only[ff] at h ⊢;exact⟨_,_,rfl,h,rfl⟩)
def mH:∀{a b:List AV} {x y:List yh},aA ae m S w a x->aA ae m S w b y->aA ae m S w (a++b) (x++y)
 | [],b,x,y,h,k=>by simp only[aA] at h;subst h;simpa using k
 | c::a,b,x,y,h,k=>by
  obtain⟨u,r,rfl,h2,h3⟩:=h;exact⟨u,r++y,rfl,h2,mH h3 k⟩
def JY:∀(k:Nat) {cs:List AV} {us:List yh},aA ae m S w cs us->aA ae m S w (cs.drop k) (us.drop k)
 | 0,cs,us,h=>by simpa using h
 | k+1,[],us,h=>by simp only[aA] at h;subst h;simp[aA]
 | k+1,c::cs,us,h=>by simp only[aA] at h;obtain⟨u,r,rfl,_,h3⟩:=h;simpa using JY k h3
def Gy:∀(k:Nat) {cs:List AV} {us:List yh},aA ae m S w cs us->aA ae m S w (cs.take k) (us.take k)
 | 0,cs,us,h=>by simp[aA]
 | k+1,[],us,h=>by simp only[aA] at h;subst h;simp[aA]
 | k+1,c::cs,us,h=>by
  simp only[aA] at h;obtain⟨u,r,rfl,h2,h3⟩:=h;exact⟨u,_,rfl,h2,Gy k h3⟩
def Ux:∀{cs:List AV} {us:List yh} {i:Nat} {v:AV},aA ae m S w cs us->cs[i]? =Gp v->∃u,us[i]? =Gp u/\af ae m S w v u
 | [],us,i,v,_,h=>by simp at h
 | c::cs,us,0,v,h,e=>by
  simp only[aA] at h;obtain⟨u,r,rfl,h2,h3⟩:=h;simp at e;subst e;exact⟨u,rfl,h2⟩
 | c::cs,us,i+1,v,h,e=>by
  simp only[aA] at h;obtain⟨u,r,rfl,h2,h3⟩:=h;simpa using Ux h3 e
end
def abC(off:Nat):∀(new:List yh) (j:Nat) (cells:Array yh),off+j+new.length<=cells.size->
  ((new.zipIdx j).foldl (fun (cs:Array yh) (p:yh×Nat)=>cs.setIfInBounds (off+p.2) p.1) cells).toList=
   cells.toList.take (off+j)++new++cells.toList.drop (off+j+new.length)
 | [],j,cells,_=>by simp
 | v::r,j,cells,h=>by
  simp only[yF] at h;have ih:=abC off r (j+1) (cells.setIfInBounds (off+j) v) (by simp;omega);simp only[List.zipIdx_cons,List.foldl_cons];rw[ih];have aH:off+j<cells.toList.length:=by grind
  have h1:(cells.setIfInBounds (off+j) v).toList=cells.toList.set (off+j) v:=by simp
  rw[h1,show off+(j+1)=off+j+1 by omega];have h2:(cells.toList.set (off+j) v).take (off+j+1)=cells.toList.take (off+j)++[v]:=by
   rw[List.take_succ_eq_append_getElem (by simpa using aH)];simp[List.take_set_of_le]
  have h3:(cells.toList.set (off+j) v).drop (off+j+1+r.length)=cells.toList.drop (off+j+(r.length+1)):=by
   rw[List.drop_set_of_lt (by omega)];congr 1;omega
  grind
section
variable {O:bz}{H:Hint}{m:Mp}{S:Nat->Prop}{w:yk}{tm:Env}{a:Act}
def Pa(hH:fo O H)(ht:bX O m S w tm a.tmps){place:Nat->Option (Nat×Nat)}:∀(parts:List (Nat×xA)) (ps:List (Nat×Nat×X)) (zero cs:List AV) (cells:Array yh),
  partsOf H place parts=Gp ps->aA O.ae m S w zero cells.toList->fill tm zero ps=Gp cs->
  ∃out,Instr.fill place cells (parts.map fun p=>(p.1,a.eval p.2))=Gp out/\aA O.ae m S w cs out.toList
 | [],ps,zero,cs,cells,hp,hz,hf=>by
  simp only[partsOf,yc] at hp;subst hp;simp only[fill,yc] at hf;subst hf;exact⟨cells,rfl,hz⟩
 | (i,x)::r,ps,zero,cs,cells,hp,hz,hf=>by
  simp only[partsOf] at hp
  cases nR:place i with
  | none=>simp[nR] at hp
  | some q=>
   obtain⟨o,s⟩:=q;simp only[nR] at hp
   cases qg:partsOf H place r with
   | none=>simp[qg] at hp
   | some l=>
    simp only[qg,yc] at hp;subst hp;simp only[fill] at hf
    cases hc:(yq (cellsOf (ay tm (aK H x))).length s&&yB (o+s) zero.length&&cd (cellsOf (ay tm (aK H x)))) with
    | false=>rw[hc] at hf;cases hf
    | true=>
     rw[hc] at hf;simp only[ye] at hc;have hle:=yt hc.1.2;have hrx:=TX (bY hH ht x) hc.2;have qh:=iz _ _ hrx;have B1:=iz _ _ hz;have eO:(a.eval x).cells.size=s:=by simp_all
     have B2:cells.size=zero.length:=by omega
     have ax0:=abC o (a.eval x).cells.toList 0 cells (by simp;omega);have dj:aA O.ae m S w (over o (cellsOf (ay tm (aK H x))) zero)
       ((a.eval x).cells.zipIdx.foldl (fun (cs:Array yh) (p:yh×Nat)=>cs.setIfInBounds (o+p.2) p.1) cells).toList:=by
      rw[<-Array.foldl_toList,Array.toList_zipIdx,ax0];rw[show (a.eval x).cells.toList.length=(cellsOf (ay tm (aK H x))).length from qh];exact mH (mH (Gy o hz) hrx) (JY _ hz)
     obtain⟨out,h1,h2⟩:=Pa hH ht r l _ cs _ qg dj hf;simp only[xb,Instr.fill,nR,eO]
     grind
end
end
section
open Go
def TY(p q:ByteArray):(p==q)=cK (nD p) (nD q):=by
 have h:(p==q)=(p.data==q.data):=by cases p;rfl
 rw[h,abA,ByteArray.toList_eq,ByteArray.toList_eq]
 simp_all
def W1:tM->Bool
 | .bool | .int _ | .string=>ydb
 | _=>ydc
def fits(d:tM)(v:AV):Bool:=
 match d,v with
 | .int _,.int _ _ | .string,.str _ | .bool,.bool _=>ydb
 | _,_=>ydc
section
variable {O:bz}{ae:Nat->Nat}{m:Mp}{S:Nat->Prop}{w:yk}
def aoX{vk vk':AV}{k k':yh}{r:Bool}{d:tM}(hk:af ae m S w vk k)(AH:af ae m S w vk' k')(h:pN vk vk'=Gp r)(hd:fits d vk=ydb):Instr.sameNow d k k'=Gp r:=by
 unfold pN at h
 split at h
 .rename_i j x j' y;simp only[af] at hk AH;subst hk;subst AH;by_cases hj:j=j'
  .simp only [hj,xP,yc] at h;subst hj;cases d<;>simp[fits] at hd
   simpa[Instr.sameNow] using h
  .simp [hj] at h
 .simp only [af] at hk AH;obtain⟨s,rfl,rfl⟩:=hk;obtain⟨s',rfl,rfl⟩:=AH;simp only[yc] at h;cases d<;>simp[fits] at hd
  simp only[Instr.sameNow,TY];rw[<-h];rfl
 .simp only [af] at hk AH;subst hk;subst AH;simp only[yc] at h;cases d<;>simp[fits] at hd
  simp[Instr.sameNow,h]
 .cases d<;>simp[fits] at hd
 .cases h
def ak7{P:xx}{kt:yA}{d:tM}(hu:P.underlying kt=Gp d)(hd:W1 d=ydb)(b:Bool)(k:yh):(Instr.checkKey b 10000 kt k).run P w=.ok () w:=by
 have:∀n,(Instr.checkKey b (n+1) kt k).run P w=.ok () w:=by
  cases d<;>simp[W1] at hd<;>simp[Instr.checkKey,run_underlying hu]
 grind
end
end
section
open Go
def JL:∀(k1 k2:List Nat) (a b:List AV) (r:Bool),dc (k1++k2) a b=Gp r->
  ∃r1 r2,dc k1 (a.take k1.length) (b.take k1.length)=Gp r1/\dc k2 (a.drop k1.length) (b.drop k1.length)=Gp r2/\r=(r1&&r2)
 | [],k2,a,b,r,h=>⟨ydb,r,by simp[dc],by simpa using h,by simp⟩
 | k::k1,k2,[],b,r,h=>by
  simp only[yj] at h;unfold dc at h
  grind
 | k::k1,k2,x::a,[],r,h=>by
  unfold dc at h
  grind
 | k::k1,k2,x::a,y::b,r,h=>by
  have step:∀(q:Bool) (f:Bool->Bool),(match dc (k1++k2) a b with | some r=>Gp (f r) | none=>Gq)=Gp q->∃r0,dc (k1++k2) a b=Gp r0/\q=f r0:=by grind
  unfold dc at h
  split at h
  .grind
  .rename_i e1 e2 e3;obtain⟨rfl,rfl⟩:=e1;obtain⟨rfl,rfl⟩:=e2;obtain⟨rfl,rfl⟩:=e3;obtain⟨r0,h0,rfl⟩:=step r _ h;obtain⟨r1,r2,h1,h2,rfl⟩:=JL k1 k2 _ _ r0 h0;exact⟨_,r2,by simp only[yF,wG,dc,h1],by simpa using h2,(yat _ _ _).symm⟩
  .rename_i e1 e2 e3;obtain⟨rfl,rfl⟩:=e1;obtain⟨rfl,rfl⟩:=e2;obtain⟨rfl,rfl⟩:=e3
   split at h
   .rename_i hk;obtain⟨r0,h0,rfl⟩:=step r _ h;obtain⟨r1,r2,h1,h2,rfl⟩:=JL k1 k2 _ _ r0 h0;exact⟨_,r2,by simp only[yF,wG,dc,h1,hk,xP],by simpa using h2,(yat _ _ _).symm⟩
   .cases h
  .rename_i e1 e2 e3;obtain⟨rfl,rfl⟩:=e1;obtain⟨rfl,rfl⟩:=e2;obtain⟨rfl,rfl⟩:=e3;obtain⟨r0,h0,rfl⟩:=step r _ h;obtain⟨r1,r2,h1,h2,rfl⟩:=JL k1 k2 _ _ r0 h0;exact⟨_,r2,by simp only[yF,wG,dc,h1],by simpa using h2,(yat _ _ _).symm⟩
  .cases h
def aau:∀(ks:List Nat) (a b:List AV) (r:Bool),dc ks a b=Gp r->a.length=ks.length/\b.length=ks.length
 | [],a,b,r,h=>by
  unfold dc at h
  grind
 | k::ks,[],b,r,h=>by
  unfold dc at h
  grind
 | k::ks,x::a,[],r,h=>by
  unfold dc at h
  grind
 | k::ks,x::a,y::b,r,h=>by
  have:∃r0,dc ks a b=Gp r0:=by
   cases he:dc ks a b with
   | some r0=>exact⟨r0,rfl⟩
   | none=>unfold dc at h;split at h<;>simp_all
  have⟨r0,h0⟩:=this
  have:=aau ks a b r0 h0
  simp[this]
def Ic(P:xx)(t:yA)(x:yh)(xs:List yh):Prop:=(dA P t=Gp ydb/\x=.agg xs.toArray)\/(dA P t=Gp ydc/\xs=[x])
section
variable {P:xx}{ae:Nat->Nat}{m:Mp}{S:Nat->Prop}{w:yk}
def N8{t:yA}{ag:Bool}(ha:dA P t=Gp ag):(isAgg t).run P w=.ok ag w:=by
 unfold dA at ha
 cases hu:P.underlying t with
 | none=>simp[hu] at ha
 | some d=>cases d<;>simp_all[isAgg,underlying]
def aoY{t:yA}{s o:Nat}{xs:List yh}(hz:cl P t=Gp s)(ha:∃ag,dA P t=Gp ag)(h1:dA P t=Gp ydc->s=1)(hl:o+s<=xs.length):
  ∃u,(part t xs.toArray o).run P w=.ok u w/\Ic P t u ((xs.drop o).take s):=by
 have⟨ag,ha⟩:=ha
 cases ag with
 | true=>
  refine⟨.agg ((xs.drop o).take s).toArray,?_,.inl ⟨ha,rfl⟩⟩;simp[part,N8 ha,pg hz,List.extract_eq_take_drop]
 | false=>
  have hs:=h1 ha;subst hs;have aH:o<xs.length:=by lia
  refine⟨xs[o],?_,.inr ⟨ha,?_⟩⟩
  .simp [part,N8 ha,xv aH]
  .rw [List.drop_eq_getElem_cons aH,wG,ybK]
def abD{n:Nat}{t:yA}{ks:List Nat}(h:kinds P n t=Gp ks):∃ag,dA P t=Gp ag/\(ag=ydc->ks.length=1):=by
 cases n with
 | zero=>simp[kinds] at h
 | succ n=>
  unfold kinds at h;unfold dA
  split at h<;>simp_all
  all_goals (rw[<-h];rfl)
def Wb(P:xx)(ae:Nat->Nat)(m:Mp)(S:Nat->Prop)(w:yk)(n:Nat):Prop:=
 ∀(t:yA) (ks:List Nat),kinds P n t=Gp ks->P.stoodInHeld t=ydc->∀(d:Nat),n<=d->∀(xs ys:List yh) (cs dE:List AV) (r:Bool) (x y:yh),
  aA ae m S w cs xs->aA ae m S w dE ys->dc ks cs dE=Gp r->Ic P t x xs->Ic P t y ys->(Op.equalIn d t x y).run P w=.ok r w
def abE{n:Nat}(ih:Wb P ae m S w n){t:yA}{ks:List Nat}{s o d:Nat}(hk:kinds P n t=Gp ks)(aR:P.stoodInHeld t=ydc)(hz:cl P t=Gp s)(hs:ks.length=s)(hd:n<=d){xs ys:List yh}{cs dE:List AV}(h1:aA ae m S w cs xs)(h2:aA ae m S w dE ys){r:Bool}(he:dc ks ((cs.drop o).take s) ((dE.drop o).take s)=Gp r):
  ∃u u',(part t xs.toArray o).run P w=.ok u w/\(part t ys.toArray o).run P w=.ok u' w/\(Op.equalIn d t u u').run P w=.ok r w:=by
 have⟨ag,ha,h1s⟩:=abD hk;have⟨l1,l2⟩:=aau _ _ _ _ he;have q1:=iz _ _ h1;have q2:=iz _ _ h2;simp only[yQ,we] at l1 l2;have nf:dA P t=Gp ydc->s=1:=fun h=>by
  grind
 have qh:o+s<=xs.length\/s=0:=by lia
 have B1:o+s<=ys.length\/s=0:=by lia
 have get:∀(zs:List yh),(o+s<=zs.length\/s=0)->∃u,(part t zs.toArray o).run P w=.ok u w/\Ic P t u ((zs.drop o).take s):=by
  intro zs hl;rcases hl with hl | hl
  .exact aoY hz ⟨ag,ha⟩ nf hl
  .subst hl
   cases ag with
   | false=>have:=nf ha;lia
   | true=>
    refine⟨.agg ((zs.drop o).take 0).toArray,?_,.inl ⟨ha,rfl⟩⟩;simp[part,N8 ha,pg hz]
 have⟨u,p1,v1⟩:=get xs qh;have⟨u',p2,v2⟩:=get ys B1;exact⟨u,u',p1,p2,ih t ks hk aR d hd _ _ _ _ r u u' (Gy s (JY o h1)) (Gy s (JY o h2)) he v1 v2⟩
def aav{n:Nat}(ih:Wb P ae m S w n){d:Nat}(hd:n<=d){xs ys:List yh}{cs dE:List AV}(h1:aA ae m S w cs xs)(h2:aA ae m S w dE ys):
  ∀(fs:List ua) (o:Nat) (ks:List Nat) (r:Bool),ph P (fun u=>kinds P n u) fs o=Gp ks->dc ks (cs.drop o) (dE.drop o)=Gp r->(Op.eqFields d xs.toArray ys.toArray fs).run P w=.ok r w
 | [],o,ks,r,h,he=>by
  simp only[ph,yc] at h;unfold dc at he
  split at he<;>simp_all[Op.eqFields]
 | f::fs,o,ks,r,h,he=>by
  simp only[ph] at h
  cases hk:kinds P n f.type with
  | none=>simp[hk] at h
  | some kf=>
   cases hz:cl P f.type with
   | none=>simp[hk,hz] at h
   | some s=>
    simp only[hk,hz] at h
    cases hc:(f.name != "_"&&yq f.offset o&&yq kf.length s&& !P.stoodInHeld f.type) with
    | false=>rw[hc] at h;cases h
    | true=>
     rw[hc] at h;simp only[yu] at h;simp only[ye,bne_iff_ne,vR] at hc;have⟨⟨⟨hn,ho⟩,hl⟩,aR⟩:=hc;have ho:=yg ho;have hl:=yg hl
     cases hr:ph P (fun u=>kinds P n u) fs (o+s) with
     | none=>simp[hr] at h
     | some kr=>
      simp only[hr,yc] at h;subst h;obtain⟨r1,r2,e1,e2,rfl⟩:=JL _ _ _ _ _ he;rw[hl] at e1 e2;rw[vM,vM] at e2;have⟨u,u',p1,p2,p3⟩:=abE ih (o:=o) hk aR hz hl hd h1 h2 e1;have rest:=aav ih hd h1 h2 fs (o+s) kr r2 hr e2;subst ho;simp only[Op.eqFields]
      cases r1 with
      | true=>simp[hn,p1,p2,p3,rest]
      | false=>simp[hn,p1,p2,p3]
def aaT{n:Nat}(ih:Wb P ae m S w n){d:Nat}(hd:n<=d){xs ys:List yh}{cs dE:List AV}(h1:aA ae m S w cs xs)(h2:aA ae m S w dE ys){e:yA}{ks:List Nat}{s:Nat}(hk:kinds P n e=Gp ks)(aR:P.stoodInHeld e=ydc)(hz:cl P e=Gp s)(hl:ks.length=s):
  ∀(k j:Nat) (r:Bool),dc (yz k ks).flatten (cs.drop (j*s)) (dE.drop (j*s))=Gp r->(Op.eqItems d e s xs.toArray ys.toArray (List.range' j k)).run P w=.ok r w
 | 0,j,r,he=>by
  unfold dc at he
  split at he<;>simp_all[Op.eqItems]
 | k+1,j,r,he=>by
  obtain⟨r1,r2,e1,e2,rfl⟩:=JL _ _ _ _ _ he;rw[hl] at e1 e2;rw[vM,vM,show j*s+s=(j+1)*s by rw[xR,tZ]] at e2;have⟨u,u',p1,p2,p3⟩:=abE ih (o:=j*s) hk aR hz hl hd h1 h2 e1;have rest:=aaT ih hd h1 h2 hk aR hz hl k (j+1) r2 e2;rw[List.range'_succ];simp only[Op.eqItems]
  cases r1 with
  | true=>simp[p1,p2,p3,rest]
  | false=>simp[p1,p2,p3]
def PG:∀(n:Nat) (t:yA) (ks:List Nat),kinds P n t=Gp ks->P.stoodInHeld t=ydc->∀(d:Nat),n<=d->∀(xs ys:List yh) (cs dE:List AV) (r:Bool) (x y:yh),
  aA ae m S w cs xs->aA ae m S w dE ys->dc ks cs dE=Gp r->Ic P t x xs->Ic P t y ys->(Op.equalIn d t x y).run P w=.ok r w
 | 0,t,ks,h,_,_,_,_,_,_,_,_,_,_,_,_,_,_,_=>by simp[kinds] at h
 | n+1,t,ks,h,aR,0,hd,_,_,_,_,_,_,_,_,_,_,_,_=>by lia
 | n+1,t,ks,h,aR,d+1,hd,xs,ys,cs,dE,r,x,y,h1,h2,he,hx,hy=>by
  unfold kinds at h;have one:∀{k:Nat},ks=[k]->dA P t=Gp ydc->∃c c',cs=[c]/\dE=[c']/\af ae m S w c x/\af ae m S w c' y:=by
   intro k hk ha;rcases hx with ⟨hx,_⟩ | ⟨_,rfl⟩
   .grind
   rcases hy with ⟨hy,_⟩ | ⟨_,rfl⟩
   .grind
   have l1:=iz _ _ h1;have l2:=iz _ _ h2
   match cs,dE,l1,l2 with
   | [c],[c'],_,_=>
    simp only[aA] at h1 h2
    grind
  split at h
  .rename_i hu;simp only[yc] at h;have ha:dA P t=Gp ydc:=by simp[dA,hu]
   obtain⟨c,c',rfl,rfl,r1,r2⟩:=one h.symm ha;subst h;unfold dc at he
   split at he<;>simp_all[dc]
   subst he;simp only[af] at r1 r2;subst r1;subst r2;simp[Op.equalIn,run_underlying hu]
  .rename_i k0 hu;simp only[yc] at h;have ha:dA P t=Gp ydc:=by simp[dA,hu]
   obtain⟨c,c',rfl,rfl,r1,r2⟩:=one h.symm ha;subst h;unfold dc at he
   split at he<;>simp_all[dc]
   have⟨hk,he⟩:=he;subst he;simp only[af] at r1 r2;subst r1;subst r2;simp[Op.equalIn,run_underlying hu]
  .rename_i hu;simp only[yc] at h;have ha:dA P t=Gp ydc:=by simp[dA,hu]
   obtain⟨c,c',rfl,rfl,r1,r2⟩:=one h.symm ha;subst h;unfold dc at he
   split at he<;>simp_all[dc]
   subst he;simp only[af] at r1 r2;obtain⟨s,rfl,rfl⟩:=r1;obtain⟨s',rfl,rfl⟩:=r2;simp only[Op.equalIn,Sem.run_bind,run_underlying hu,Result.andThen_ok,Sem.run_pure,TY];rfl
  .rename_i fs hu;have ha:dA P t=Gp ydb:=by simp[dA,hu]
   rcases hx with ⟨_,rfl⟩ | ⟨hx,_⟩
   .rcases hy with ⟨_,rfl⟩ | ⟨hy,_⟩
    .have hf:P.fieldsOf t=fs:=by simp[Program.fieldsOf,hu]
     rw[run_equalIn_struct w d t _ _ (by rw[hf];exact hu) aR,hf]
     exact aav (PG n) (by lia) h1 h2 fs.toList 0 ks r h (by simpa using he)
    .rw [ha] at hy;cases hy
   .rw [ha] at hx;cases hx
  .rename_i k e hu;have ha:dA P t=Gp ydb:=by simp[dA,hu]
   rcases hx with ⟨_,rfl⟩ | ⟨hx,_⟩
   .rcases hy with ⟨_,rfl⟩ | ⟨hy,_⟩
    .cases hk:kinds P n e with
     | none=>simp[hk] at h
     | some ke=>
      cases hz:cl P e with
      | none=>simp[hk,hz] at h
      | some s=>
       simp only[hk,hz] at h
       cases hc:(yq ke.length s&& !P.stoodInHeld e) with
       | false=>rw[hc] at h;cases h
       | true=>
        rw[hc] at h;simp only[yu,yc] at h;subst h;simp only[ye,vR] at hc;have dj:=hz;unfold cl at dj
        cases hi:P.info? e with
        | none=>simp[hi] at dj
        | some i=>
         simp only[hi,yc] at dj;have B2:P.cellsOf e=s:=by simp[Program.cellsOf,hi,dj]
         rw[run_equalIn_array w d _ _ hu hi,B2,List.range_eq_range'];exact aaT (PG n) (by lia) h1 h2 hk hc.2 hz (yg hc.1) k 0 r (by simpa using he)
    .rw [ha] at hy;cases hy
   .rw [ha] at hx;cases hx
  .cases h
end
end
section
open Go
section
variable {vk:AV}{ks:List Nat}{kk:Nat}{P:xx}{k:yh}
inductive zn(E:yh->Bool->Prop):List wY->Nat->Option (Nat×yh)->Prop
 | nil {i:Nat}:zn E [] i Gq
 | hit {e:wY} {es:List wY} {i:Nat}:E e.key ydb->zn E (e::es) i (Gp (i,e.val))
 | Fa {e:wY} {es:List wY} {i:Nat} {f:Option (Nat×yh)}:E e.key ydc->zn E es (i+1) f->zn E (e::es) i f
def ark{d:tM}{es:List wY}{i:Nat}{f:Option (Nat×yh)}(h:zn (fun u b=>Instr.sameNow d k u=Gp b) es i f):Instr.findNow d k es i=Gp f:=by
 induction h with
 | nil=>rfl
 | hit h=>simp[Instr.findNow,h]
 | Fa h _ ih=>simp[Instr.findNow,h,ih]
def adR{w:yk}{kt:yA}{es:List wY}{i:Nat}{f:Option (Nat×yh)}(h:zn (fun u b=>(Op.equal kt k u).run P w=.ok b w) es i f):
  (Instr.findAsking kt k es i).run P w=.ok f w:=by
 induction h with
 | nil=>simp[Instr.findAsking]
 | hit h=>simp[Instr.findAsking,h]
 | Fa h _ ih=>simp[Instr.findAsking,h,ih]
section
variable {O:bz}{ae:Nat->Nat}{m:Mp}{S:Nat->Prop}{w:yk}
def Found(ae:Nat->Nat)(m:Mp)(S:Nat->Prop)(w:yk)(f:Option (Nat×yh)):Option AV->Prop
 | none=>f=Gq
 | some v=>∃j u,f=Gp (j,u)/\af ae m S w v u
def Uy{vk:AV}{E:yh->Bool->Prop}(hE:∀c u b,af ae m S w c u->pN vk c=Gp b->E u b):∀(ks vs:List AV) (es:List wY) (i:Nat) (r:Option AV),
  aA ae m S w ks (es.map (·.key))->aA ae m S w vs (es.map (·.val))->ET vk ks vs=Gp r->∃f,zn E es i f/\Found ae m S w f r
 | [],vs,es,i,r,h1,h2,h=>by
  simp only[aA,yaW] at h1;subst h1;simp only[ET,yc] at h;subst h;exact⟨Gq,.nil,rfl⟩
 | c::ks,[],es,i,r,h1,h2,h=>by simp only[ET] at h;cases h
 | c::ks,v::vs,es,i,r,h1,h2,h=>by
  cases es with
  | nil=>simp[aA] at h1
  | cons e es=>
   simp only[xb,aA,tW] at h1 h2;obtain⟨u,t,⟨rfl,rfl⟩,hc,oP⟩:=h1;obtain⟨u',t',⟨rfl,rfl⟩,hv,B3⟩:=h2;simp only[ET] at h
   cases AI:pN vk c with
   | none=>simp[AI] at h
   | some b=>
    have hs:=hE _ _ _ hc AI
    cases b with
    | true=>
     simp only[AI,yc] at h;subst h;exact⟨_,.hit hs,i,e.val,rfl,hv⟩
    | false=>
     simp only[AI] at h;obtain⟨f,h1,h2⟩:=Uy hE ks vs es (i+1) r oP B3 h;exact⟨f,.Fa hs h1,h2⟩
def Put(ae:Nat->Nat)(m:Mp)(S:Nat->Prop)(w:yk)(E:yh->Bool->Prop)(k x:yh)(es:List wY)(i:Nat)(lQ eH:List AV):Prop:=
 (zn E es i Gq/\aA ae m S w lQ (es.map (·.key)++[k])/\aA ae m S w eH (es.map (·.val)++[x]))\/
 ∃(j:Nat) (e0:wY) (c vk:AV),zn E es i (Gp (i+j,e0.val))/\es[j]? =Gp e0/\(af ae m S w vk k/\af ae m S w c e0.key/\pN vk c=Gp ydb)/\aA ae m S w lQ (es.map (·.key))/\aA ae m S w eH ((es.map (·.val)).set j x)
def adS{vk vx:AV}{k x:yh}{E:yh->Bool->Prop}(hE:∀c u b,af ae m S w c u->pN vk c=Gp b->E u b)(hk:af ae m S w vk k)(hx:af ae m S w vx x):∀(ks vs:List AV) (es:List wY) (i:Nat) (lQ eH:List AV),
  aA ae m S w ks (es.map (·.key))->aA ae m S w vs (es.map (·.val))->BF vk vx ks vs=Gp (lQ,eH)->Put ae m S w E k x es i lQ eH
 | [],[],es,i,lQ,eH,h1,h2,h=>by
  simp only[aA,yaW] at h1;subst h1;simp only[BF,yc,yo] at h;obtain⟨rfl,rfl⟩:=h;exact .inl ⟨.nil,by simp[aA,hk],by simp[aA,hx]⟩
 | [],_::_,es,i,lQ,eH,h1,h2,h=>by simp[BF] at h
 | _::_,[],es,i,lQ,eH,h1,h2,h=>by simp[BF] at h
 | c::ks,v::vs,es,i,lQ,eH,h1,h2,h=>by
  cases es with
  | nil=>simp[aA] at h1
  | cons e es=>
   simp only[xb,aA,tW] at h1 h2;obtain⟨u,t,⟨rfl,rfl⟩,hc,oP⟩:=h1;obtain⟨u',t',⟨rfl,rfl⟩,hv,B3⟩:=h2;simp only[BF] at h
   cases AI:pN vk c with
   | none=>simp[AI] at h
   | some b=>
    have hs:=hE _ _ _ hc AI
    cases b with
    | true=>
     simp only[AI,yc,yo] at h;obtain⟨rfl,rfl⟩:=h;refine .inr ⟨0,e,c,vk,.hit hs,rfl,⟨hk,hc,AI⟩,?_,?_⟩
     .simp only [xb,aA];exact⟨_,_,rfl,hc,oP⟩
     .simp only [xb,List.set_cons_zero,aA];exact⟨_,_,rfl,hx,B3⟩
    | false=>
     simp only[AI] at h
     cases hm:BF vk vx ks vs with
     | none=>simp[hm] at h
     | some q=>
      obtain⟨k1,v1⟩:=q;simp only[hm,yc,yo] at h;obtain⟨rfl,rfl⟩:=h;rcases adS hE hk hx ks vs es (i+1) k1 v1 oP B3 hm with ⟨g1,g2,g3⟩ | ⟨j,e0,c0,vk0,g1,g2,g3,g4,g5⟩
      .refine .inl ⟨.Fa hs g1,?_,?_⟩
       .simp only [xb,yj,aA];exact⟨_,_,rfl,hc,g2⟩
       .simp only [xb,yj,aA];exact⟨_,_,rfl,hv,g3⟩
      .refine .inr ⟨j+1,e0,c0,vk0,?_,by simpa using g2,g3,?_,?_⟩
       .rw [show i+(j+1)=i+1+j by omega];exact .Fa hs g1
       .simp only [xb,aA];exact⟨_,_,rfl,hc,g4⟩
       .simp only [xb,List.set_cons_succ,aA];exact⟨_,_,rfl,hv,g5⟩
def abF:∀(n:Nat) (a b:List AV) (x y:List yh),dc (yz n 1) a b=Gp ydb->aA ae m S w a x->aA ae m S w b y->x=y/\(x.zip x).all (fun (p,q)=>Instr.sameBits 9999 p q)=ydb
 | 0,a,b,x,y,h,hx,hy=>by
  match a,b with
  | [],[]=>simp only[aA] at hx hy;subst hx;subst hy;exact⟨rfl,rfl⟩
  | [],_::_=>simp[dc] at h
  | _::_,[]=>simp[dc] at h
  | _::_,_::_=>simp[dc] at h
 | n+1,a,b,x,y,h,hx,hy=>by
  rw[wP] at h;unfold dc at h
  split at h
  any_goals (cases h;done)
  .simp_all
  .simp_all
  .rename_i ks k p xs k' q ys oP;simp only[tW,tN] at oP;subst oP;by_cases hk:k=k'
   .subst hk;simp only[xP] at h
    cases hr:dc (yz n 1) xs ys with
    | none=>simp[hr] at h
    | some r=>
     simp only[hr,yc,ye,tT] at h;obtain⟨rfl,rfl⟩:=h;simp only[aA] at hx hy;obtain⟨u,us,rfl,e1,e2⟩:=hx;obtain⟨u',MS,rfl,e1',e2'⟩:=hy;simp only[af] at e1 e1';subst e1;subst e1';obtain⟨rfl,g⟩:=abF n xs ys us MS hr e2 e2';refine⟨rfl,?_⟩;simp only[List.zip_cons_cons,yah,g,Bool.and_true];simp[Instr.sameBits]
   .simp [hk] at h
  .simp_all
def aoZ{c:AV}{u:yh}(hk:af ae m S w vk k)(hc:af ae m S w c u)(h:pN vk c=Gp ydb):k=u/\Instr.sameBits 10000 k k=ydb:=by
 unfold pN at h
 split at h
 .rename_i j x j' y;simp only[af] at hk hc;subst hk;subst hc;by_cases hj:j=j'
  .simp only [hj,xP,yc,tT] at h;exact⟨by rw[hj,h],by simp[Instr.sameBits]⟩
  .simp [hj] at h
 .simp only [af] at hk hc;obtain⟨s,rfl,rfl⟩:=hk;obtain⟨s',rfl,rfl⟩:=hc;simp only[yc] at h;have h2:(s==s')=ydb:=by rw[TY];exact h
  have h3:(s.data==s'.data)=ydb:=by cases s;cases s';exact h2
  rw[tT] at h3;have e:s=s':=by cases s;cases s';simp only at h3;rw[h3]
  subst e;exact⟨rfl,by simp[Instr.sameBits,h2]⟩
 .simp only [af] at hk hc;subst hk;subst hc;simp only[yc,tT] at h;exact⟨by rw[h],by simp[Instr.sameBits]⟩
 .rename_i a b;simp only[af] at hk hc;obtain⟨xs,rfl,hx⟩:=hk;obtain⟨ys,rfl,hy⟩:=hc;obtain⟨e,g⟩:=abF _ _ _ _ _ h hx hy;have e':xs=ys:=by cases xs;cases ys;simp only at e;rw[e]
  subst e';refine⟨rfl,?_⟩;simp only[Instr.sameBits,tO,Bool.true_and];exact g
 .cases h
def aaU{kt:yA}(hk:keyOf P kt=Gp kk)(h:pD kk vk=ydb):
  (∃d,P.underlying kt=Gp d/\W1 d=ydb/\fits d vk=ydb)\/
  ∃fs ks cs,P.underlying kt=Gp (.struct fs)/\fs.toList.all (fun f=>BG P f.type)=ydb/\P.stoodInHeld kt=ydc/\kinds P 20 kt=Gp ks/\ks.length=fs.size/\vk=.agg cs/\cs.length=fs.size:=by
 unfold keyOf at hk
 split at hk
 .rename_i hu;simp only[yc] at hk;subst hk;refine .inl ⟨_,hu,rfl,?_⟩;cases vk<;>simp_all[pD,fits]
 .rename_i hu;simp only[yc] at hk;subst hk;refine .inl ⟨_,hu,rfl,?_⟩;cases vk<;>simp_all[pD,fits]
 .rename_i hu;simp only[yc] at hk;subst hk;refine .inl ⟨_,hu,rfl,?_⟩;cases vk<;>simp_all[pD,fits]
 .rename_i fs hu
  cases hc:(fs.toList.all (fun f=>BG P f.type)&& !P.stoodInHeld kt) with
  | false=>rw[hc] at hk;cases hk
  | true=>
   rw[hc] at hk;simp only[yu] at hk;simp only[ye,vR] at hc
   cases hs:kinds P 20 kt with
   | none=>simp[hs] at hk
   | some ks=>
    simp only[hs] at hk
    cases hl:yq ks.length fs.size with
    | false=>rw[hl] at hk;cases hk
    | true=>
     rw[hl] at hk;simp only[yu,yc] at hk;subst hk;cases vk<;>simp only[pD,yD] at h
     exact .inr ⟨fs,ks,_,hu,hc.1,hc.2,rfl,yg hl,rfl,yg h⟩
 .cases hk
def aai{P:xx}{n:Nat}:∀(fs:List ua) (o:Nat) (ks:List Nat),fs.all (fun f=>BG P f.type)=ydb->ph P (fun u=>kinds P n u) fs o=Gp ks->ks=yz fs.length 1
 | [],o,ks,_,h=>by simp only[ph,yc] at h;subst h;rfl
 | f::fs,o,ks,ha,h=>by
  simp only[yah,ye] at ha;simp only[ph] at h
  cases hk:kinds P n f.type with
  | none=>simp[hk] at h
  | some kf=>
   cases hz:cl P f.type with
   | none=>simp[hk,hz] at h
   | some s=>
    simp only[hk,hz] at h
    cases hc:(f.name != "_"&&yq f.offset o&&yq kf.length s&& !P.stoodInHeld f.type) with
    | false=>rw[hc] at h;cases h
    | true=>
     rw[hc] at h;simp only[yu] at h
     cases hr:ph P (fun u=>kinds P n u) fs (o+s) with
     | none=>simp[hr] at h
     | some kr=>
      simp only[hr,yc] at h;subst h;have hkf:kf=[1]:=by
       have hi:=ha.1;unfold BG at hi
       cases n with
       | zero=>simp[kinds] at hk
       | succ n=>
        unfold kinds at hk
        split at hi
        .rename_i hu;simp only[hu,yc] at hk;exact hk.symm
        .cases hi
      rw[hkf,aai fs (o+s) kr ha.2 hr];rfl
def amd{kt:yA}{fs:Array ua}(hu:P.underlying kt=Gp (.struct fs))(ha:fs.toList.all (fun f=>BG P f.type)=ydb)(hk:kinds P 20 kt=Gp ks):
  ks=yz fs.size 1:=by
 unfold kinds at hk;simp only[hu] at hk
 have:=aai (n:=19) fs.toList 0 ks ha hk
 simpa using this
def alI{b:Bool}{n:Nat}{t:yA}{k:xe}{u:yh}(hu:P.underlying t=Gp (.int k)):(Instr.checkKey b (n+1) t u).run P w=.ok () w:=by
 simp[Instr.checkKey,run_underlying hu]
def aaj{P:xx}{b:Bool}{q q':Nat}(hq:q=q'+1){cs:Array yh}:∀(fs:List ua) (o n:Nat) (ks:List Nat),fs.all (fun f=>BG P f.type)=ydb->ph P (fun u=>kinds P n u) fs o=Gp ks->o+ks.length<=cs.size->
  Sem.run P (forIn fs yar fun f _=>
      if f.name≠ "_" then do
       let x <-part f.type cs f.offset
       Instr.checkKey b q f.type x
       pure (yaS yar)
      else pure (yaS yar)) w=.ok yar w
 | [],o,n,ks,_,h,_=>by simp
 | f::fs,o,n,ks,ha,h,hl=>by
  simp only[yah,ye] at ha;simp only[ph] at h
  cases hk:kinds P n f.type with
  | none=>simp[hk] at h
  | some kf=>
   cases hz:cl P f.type with
   | none=>simp[hk,hz] at h
   | some s=>
    simp only[hk,hz] at h
    cases hc:(f.name != "_"&&yq f.offset o&&yq kf.length s&& !P.stoodInHeld f.type) with
    | false=>rw[hc] at h;cases h
    | true=>
     rw[hc] at h;simp only[yu] at h;simp only[ye,bne_iff_ne,vR] at hc;obtain⟨⟨⟨hn,ho⟩,hls⟩,aR⟩:=hc;have ho:=yg ho;have hls:=yg hls
     cases hr:ph P (fun u=>kinds P n u) fs (o+s) with
     | none=>simp[hr] at h
     | some kr=>
      simp only[hr,yc] at h;subst h;rw[yJ] at hl;have hi:=ha.1;unfold BG at hi
      split at hi
      .rename_i kd hu;obtain⟨ag,AJ,h1⟩:=abD hk;have ahk:dA P f.type=Gp ydc:=by simp[dA,hu]
       have h2:=AJ;rw[ahk] at h2;injection h2 with h2
       have aH:f.offset<cs.size:=by have:=h1 h2.symm;omega
       have hp:(part f.type cs f.offset).run P w=.ok cs[f.offset] w:=by
        simp[part,N8 ahk,Array.getElem?_eq_getElem aH]
       have gP:(Instr.checkKey b q f.type cs[f.offset]).run P w=.ok () w:=by
        rw[hq];exact alI hu
       have rest:=aaj (b:=b) hq (cs:=cs) fs (o+s) n kr ha.2 hr (by omega);rw[List.forIn_cons];simp only[hn,ne_eq,ycX,xP,Sem.run_bind,hp,gP,Result.andThen_ok,Sem.run_pure];simpa only[ne_eq] using rest
      .cases hi
def ale{b:Bool}{q q':Nat}(hq:q=q'+1){kt:yA}{fs:Array ua}{cs:Array yh}(hu:P.underlying kt=Gp (.struct fs))(ha:fs.toList.all (fun f=>BG P f.type)=ydb)(hk:kinds P 20 kt=Gp ks)(hl:ks.length<=cs.size):(Instr.checkKey b (q+1) kt (.agg cs)).run P w=.ok () w:=by
 unfold kinds at hk;simp only[hu] at hk;have h:=aaj (w:=w) (b:=b) hq (cs:=cs) fs.toList 0 19 ks ha hk (by omega);simp only[Instr.checkKey,Sem.run_bind,run_underlying hu,Result.andThen_ok,<-Array.forIn_toList];rw[h]
 simp
def aaw{kt:yA}(hk:keyOf P kt=Gp kk)(h:pD kk vk=ydb)(hr:af ae m S w vk k)(b:Bool):(Instr.checkKey b 10000 kt k).run P w=.ok () w:=by
 rcases aaU hk h with ⟨d,h1,h2,h3⟩ | ⟨fs,ks,cs,hu,ha,aR,oP,hl,rfl,fY⟩
 .exact ak7 h1 h2 b k
 .simp only [af] at hr;obtain⟨xs,rfl,hx⟩:=hr;have YH:=iz _ _ hx;rw[vE] at YH
  exact ale (q:=9999) (q':=9998) rfl hu ha oP (by omega)
def aaV{kt:yA}(hk:keyOf P kt=Gp kk)(h:pD kk vk=ydb)(hr:af ae m S w vk k):
  ∃E:yh->Bool->Prop,(∀c u b,af ae m S w c u->pN vk c=Gp b->E u b)/\∀es f,zn E es 0 f->(Instr.findKey kt k es).run P w=.ok f w:=by
 rcases aaU hk h with ⟨d,h1,h2,h3⟩ | ⟨fs,ks,cs,hu,ha,aR,oP,hl,rfl,fY⟩
 .refine ⟨fun u b=>Instr.sameNow d k u=Gp b,fun c u b hc he=>aoX hr hc he h3,fun es f hf=>?_⟩;simp[Instr.findKey,run_underlying h1,ark hf]
 .refine ⟨fun u b=>(Op.equal kt k u).run P w=.ok b w,fun c u b hc he=>?_,fun es f hf=>?_⟩
  .cases c<;>simp only[pN,reduceCtorEq] at he
   rename_i dE;simp only[af] at hr hc;obtain⟨xs,rfl,hx⟩:=hr;obtain⟨ys,rfl,hy⟩:=hc;rw[fY,<-amd hu ha oP] at he;have AJ:dA P kt=Gp ydb:=by simp[dA,hu]
   rw[Uv];exact PG 20 kt ks oP aR 10000 (by omega) _ _ _ _ b _ _ hx hy he (.inl ⟨AJ,by simp⟩) (.inl ⟨AJ,by simp⟩)
  .simp only [af] at hr;obtain⟨xs,rfl,hx⟩:=hr
   cases hf with
   | nil=>simp[Instr.findKey,run_underlying hu,Instr.findNow]
   | hit g=>simp[Instr.findKey,run_underlying hu,Instr.findNow,Instr.sameNow,adR (.hit g)]
   | Fa g g'=>simp[Instr.findKey,run_underlying hu,Instr.findNow,Instr.sameNow,adR (.Fa g g')]
def at6{t kt e:yA}{ok:Bool}{hp:Hp}{ct:Nat}{vx v:AV}{x zero:yh}(hh:aT O m S w hp ct)(hu:O.P.underlying t=Gp (.map kt e))(hk:keyOf O.P kt=Gp kk)(hdk:pD kk vk=ydb)(hz:(zeroValue e).run O.P w=.ok zero w)(hx:af O.ae m S w vx x)(Ie:af O.ae m S w vk k){z:AV}(YI:af O.ae m S w z zero){r:Option AV}(hr:CZ hp vk vx=Gp r)(hv:(match r with | some u=>(bif ok then AV.av [u,.bool ydb] else u) | none=>(bif ok then AV.av [z,.bool ydc] else z))=v):
  ∃u,(Instr.lookup t x k ok).run O.P w=.ok u w/\af O.ae m S w v u:=by
 have fin:∀(u:AV) (uu:yh) (b:Bool),af O.ae m S w u uu->af O.ae m S w (bif ok then AV.av [u,.bool b] else u) (if ok then .tuple #[uu,.bool b] else uu):=by
  intro u uu b h
  cases ok with
  | true=>simp only[yu,xP,af,aA];exact⟨_,rfl,_,_,rfl,h,_,_,rfl,rfl,rfl⟩
  | false=>simpa using h
 have gP:=fun b:Bool=>aaw (P:=O.P) (w:=w) hk hdk Ie b
 obtain⟨E,hE,hF⟩:=aaV (P:=O.P) hk hdk Ie;have body:∀(x':yh) (es:Array wY),((x'=.map Gq/\es=#[])\/∃b clock,x'=.map (Gp b)/\w.heap[b]? =Gp (.map es clock))->(∃f,zn E es.toList 0 f/\Found O.ae m S w f r)->
   ∃u,(Instr.lookup t x' k ok).run O.P w=.ok u w/\af O.ae m S w v u:=by
  rintro x' es hl ⟨f,hf,je⟩;have dX:=hF _ _ hf
  cases r with
  | none=>
   have DB:f=Gq:=je;subst DB;refine⟨if ok then .tuple #[zero,.bool ydc] else zero,?_,by rw[<-hv];exact fin z zero ydc YI⟩
   rcases hl with ⟨rfl,rfl⟩ | ⟨b,clock,rfl,hb⟩
   .have EZ:(Instr.findKey kt k []).run O.P w=.ok Gq w:=dX;simp[Instr.lookup,run_underlying hu,gP,EZ,hz]
   .simp [Instr.lookup,run_underlying hu,getObj,Sem.run,hb];rw[gP];simp[dX,hz]
  | some v'=>
   obtain⟨j,u,rfl,h2⟩:=je;refine⟨if ok then .tuple #[u,.bool ydb] else u,?_,by rw[<-hv];exact fin v' u ydb h2⟩
   rcases hl with ⟨rfl,rfl⟩ | ⟨b,clock,rfl,hb⟩
   .cases hf
   .simp [Instr.lookup,run_underlying hu,getObj,Sem.run,hb];rw[gP];simp[dX]
 cases vx<;>simp only[CZ,reduceCtorEq] at hr
 case jF=>
  simp only[yc] at hr;subst hr;simp only[af] at hx;subst hx;exact body _ #[] (.inl ⟨rfl,rfl⟩) ⟨Gq,.nil,rfl⟩
 case map id=>
  simp only[af] at hx;obtain⟨p,hm,rfl⟩:=hx
  split at hr
  case h_2=>cases hr
  rename_i FN ks vs EY;obtain⟨p',es,clock,ig,hb,h1,h2,_⟩:=hh.obj id _ _ EY hm;rw[hm] at ig;injection ig with ig;subst ig
  exact body _ es (.inr ⟨_,_,rfl,hb⟩) (Uy hE ks vs es.toList 0 r h1 h2 hr)
 case jG ks vs=>
  simp only[af] at hx;obtain⟨b,es,clock,rfl,_,_,_,hb,h1,h2⟩:=hx;exact body _ es (.inr ⟨_,_,rfl,hb⟩) (Uy hE ks vs es.toList 0 r h1 h2 hr)
end
end
end
section
open Go
def du{tm:Env}{hp:Hp}{v:AV}(h:bj tm hp bad=Gp v):False:=by simp[bad,bj] at h
section
variable {O:bz}{H:Hint}{m:Mp}{S:Nat->Prop}{w:yk}{tm:Env}{a:Act}{hp:Hp}{ct:Nat}
def arl{ae:Nat->Nat}{va vb v:AV}{x y:yh}(hx:af ae m S w va x)(hy:af ae m S w vb y)(h:VE.min2 va vb=Gp v):∃u,(Builtin.min2 x y).run O.P w=.ok u w/\af ae m S w v u:=by
 unfold VE.min2 at h
 split at h
 .simp only [af] at hx hy;subst hx;subst hy;simp only[yc] at h;subst h;exact⟨_,by simp only[Builtin.min2,Sem.run_pure];rfl,by simp only[af]⟩
 .rename_i k p k' q;subst hx;subst hy
  cases ho:k.format.order p q with
  | none=>simp[ho] at h
  | some c=>cases c<;>(simp only[ho,yc] at h;subst h;exact⟨_,by simp only[Builtin.min2,ho,Sem.run_pure];rfl,by simp only[af]⟩)
 .cases h
def arm{ae:Nat->Nat}{va vb v:AV}{x y:yh}(hx:af ae m S w va x)(hy:af ae m S w vb y)(h:VE.max2 va vb=Gp v):∃u,(Builtin.max2 x y).run O.P w=.ok u w/\af ae m S w v u:=by
 unfold VE.max2 at h
 split at h
 .simp only [af] at hx hy;subst hx;subst hy;simp only[yc] at h;subst h;exact⟨_,by simp only[Builtin.max2,Sem.run_pure];rfl,by simp only[af]⟩
 .rename_i k p k' q;subst hx;subst hy
  cases ho:k.format.order p q with
  | none=>simp[ho] at h
  | some c=>cases c<;>(simp only[ho,yc] at h;subst h;exact⟨_,by simp only[Builtin.max2,ho,Sem.run_pure];rfl,by simp only[af]⟩)
 .cases h
def U7{ae:Nat->Nat}{f:AV->AV->Option AV}{g:yh->yh->Sem yh}(hfg:∀va vb v x y,af ae m S w va x->af ae m S w vb y->f va vb=Gp v->∃u,(g x y).run O.P w=.ok u w/\af ae m S w v u):
  ∀(l:List AV) (us:List yh) (va v:AV) (x:yh),af ae m S w va x->aA ae m S w l us->CX f va l=Gp v->∃u,(us.foldlM g x).run O.P w=.ok u w/\af ae m S w v u
 | [],us,va,v,x,hx,hl,h=>by
  simp only[aA] at hl;simp only[CX,yc] at h
  simp_all
 | b::l,us,va,v,x,hx,hl,h=>by
  obtain⟨u,r,rfl,hu,hr⟩:=hl;simp only[CX] at h
  cases hf:f va b with
  | none=>simp[hf] at h
  | some c=>
   simp only[hf] at h;obtain⟨u1,h1,h2⟩:=hfg _ _ _ _ _ hx hu hf;obtain⟨u2,h3,h4⟩:=U7 hfg l r c v u1 h2 hr h
   simp_all
def VB{t:yA}{vx v:AV}{x:yh}{ty:yA}(hh:aT O m S w hp ct)(hx:af O.ae m S w vx x){k:Nat}(hu:(k=0/\O.P.underlying t=Gp .string)\/(k=1/\∃e,O.P.underlying t=Gp (.slice e))\/(k=2/\∃kt e,O.P.underlying t=Gp (.map kt e)))(h:jo hp k vx=Gp v):∃u,(Builtin.len_ #[t] ty #[x]).run O.P w=.ok u w/\af O.ae m S w v u:=by
 rcases hu with ⟨rfl,hu⟩ | ⟨rfl,e,hu⟩ | ⟨rfl,kt,e,hu⟩
 all_goals cases vx<;>simp only[jo,reduceCtorEq] at h
 case inl.str s=>
  simp only[af] at hx;obtain⟨b,rfl,rfl⟩:=hx;simp only[yc] at h;subst h;refine⟨_,by simp[Builtin.len_,run_underlying hu];rfl,?_⟩
  simp only[af,goInt]
  simp_all
 case inr.inl.ah=>
  simp only[af] at hx;subst hx;simp only[yc] at h;subst h;exact⟨_,by simp[Builtin.len_,run_underlying hu];rfl,by simp[af,goInt]⟩
 case inr.inl.ap ex n cs=>
  simp only[af] at hx;rcases hx with ⟨b,o,c,rfl,_⟩ | ⟨a,rfl,rfl,rfl⟩
  all_goals
   simp only[yc] at h;subst h;exact⟨_,by simp[Builtin.len_,run_underlying hu];rfl,by simp[af,goInt]⟩
 case inr.inl.aq id o n=>
  simp only[af] at hx;obtain⟨p,c,_,rfl,_⟩:=hx;simp only[yc] at h;subst h;exact⟨_,by simp[Builtin.len_,run_underlying hu];rfl,by simp[af,goInt]⟩
 case inr.inr.jF=>
  simp only[af] at hx;subst hx;simp only[yc] at h;subst h;exact⟨_,by simp[Builtin.len_,run_underlying hu];rfl,by simp[af,goInt]⟩
 case inr.inr.jG ks vs=>
  simp only[af] at hx;obtain⟨b,es,clock,rfl,_,_,_,hb,h1,_⟩:=hx;simp only[yc] at h;subst h;refine⟨_,by simp[Builtin.len_,run_underlying hu,getObj,Sem.run,hb];rfl,?_⟩
  have:=iz _ _ h1
  simp only[af,goInt];rw[<-this];simp
 case inr.inr.map id=>
  simp only[af] at hx;obtain⟨p,hm,rfl⟩:=hx
  split at h
  case h_2=>cases h
  rename_i FN ks vs EY;simp only[yc] at h;subst h;obtain⟨p',es,clock,ig,hb,h1,_⟩:=hh.obj id _ _ EY hm;rw[hm] at ig;injection ig with ig;subst ig
  refine⟨_,by simp[Builtin.len_,run_underlying hu,getObj,Sem.run,hb];rfl,?_⟩
  have:=iz _ _ h1
  simp only[af,goInt];rw[<-this];simp
end
end
section
open Go
section
variable {O:bz}{H:Hint}{m:Mp}{S:Nat->Prop}{w:yk}{tm:Env}{a:Act}{hp:Hp}{ct:Nat}
def GK{t:yA}{z:AV}(h:mQ O.P t=Gp z):∃v,(zeroValue t).run O.P w=.ok v w/\z=ff v:=by
 unfold mQ at h
 cases hi:O.P.info? t with
 | none=>simp[hi] at h
 | some i=>
  simp only[hi] at h
  cases hz:i.zero with
  | none=>simp[hz] at h
  | some v=>
   simp only[hz,yc] at h;exact⟨v,by simp[zeroValue,typeInfo,hi,hz],h.symm⟩
def Reads(O:bz)(m:Mp)(S:Nat->Prop)(w:yk)(a:Act)(o:yU)(v:AV):Prop:=
 ∃u,(execOp a.eval o).run O.P w=.ok (.value u) w/\af O.ae m S w v u
def kS{o:yU}{v:AV}{s:Sem yh}(he:execOp a.eval o=(do pure (.value (<-s)):Sem yaI))(h:∃u,s.run O.P w=.ok u w/\af O.ae m S w v u):Reads O m S w a o v:=by
 have⟨u,h1,h2⟩:=h;exact⟨u,by rw[he];simp[h1],h2⟩
def ao0{o:yU}{op:wX}{t ty:yA}{x y:xA}{k:Nat}{v:AV}(hH:fo O H)(ht:bX O m S w tm a.tmps)(ho:o.op=.binOp op t x y ty)(hv:bj tm hp (aP O.P H k o)=Gp v):Reads O m S w a o v:=by
 have rx:=bY hH ht x;have ry:=bY hH ht y;have guard:∀{u:yh},(∀xs ys,¬(a.eval x=.agg xs/\a.eval y=.agg ys))\/O.P.eqGuardType O.P.depth t=ydc->a.eval x≠.nilIface->(wh op t (a.eval x) (a.eval y)).run O.P w=.ok u w->
   (do eqGuard op t x y (a.eval x) (a.eval y);wh op t (a.eval x) (a.eval y):Sem yh).run O.P w=.ok u w:=by
  intro u h1 h2 h3
  simp only[Sem.run_bind,amc (P:=O.P) (w:=w) (t:=t) (op:=op) (x:=x) (y:=y) (h1.symm) h2,Result.andThen_ok,h3]
 have plain:bj tm hp (.bin op (aK H x) (aK H y))=Gp v->Reads O m S w a o v:=by
  intro hv;simp only[bj] at hv;obtain⟨u,h1,h2⟩:=aoT (P:=O.P) (t:=t) rx ry hv
  refine kS (s:=do eqGuard op t x y (a.eval x) (a.eval y);wh op t (a.eval x) (a.eval y)) (by simp only[execOp,ho]) ⟨u,guard (.inl ?_) ?_ h1,h2⟩
  .rintro xs ys ⟨e1,e2⟩;rw[e1] at rx;unfold VE.binOp at hv
   split at hv
   .rename_i h3 _;rw[h3] at rx;simp[af] at rx
   .rename_i h3 _;rw[h3] at rx;simp[af] at rx
   .rename_i h3 _;rw[h3] at rx;simp[af] at rx
   .rename_i h3 _;rw[h3] at rx;simp[af] at rx
   .cases hv
  .intro e1;rw[e1] at rx;unfold VE.binOp at hv
   split at hv
   .rename_i h3 _;rw[h3] at rx;simp[af] at rx
   .rename_i h3 _;rw[h3] at rx;simp[af] at rx
   .rename_i h3 _;rw[h3] at rx;simp[af] at rx
   .rename_i h3 _;rw[h3] at rx;simp[af] at rx
   .cases hv
 have other:∀(ne:Bool) (kd:VE.Sl),(op=.eql/\ne=ydc\/op=.neq/\ne=ydb)->(∀r,km kd (ay tm (aK H x)) (ay tm (aK H y))=Gp r->(Op.equal t (a.eval x) (a.eval y)).run O.P w=.ok r w/\
    ((∀xs ys,¬(a.eval x=.agg xs/\a.eval y=.agg ys))\/O.P.eqGuardType O.P.depth t=ydc)/\a.eval x≠.nilIface/\
    ∀q:Bool,(op=.eql->wh op t (a.eval x) (a.eval y)=(do pure (.bool (<-Op.equal t (a.eval x) (a.eval y)))))/\(op=.neq->wh op t (a.eval x) (a.eval y)=(do pure (.bool (!(<-Op.equal t (a.eval x) (a.eval y)))))))->
   bj tm hp (.eq ne kd (aK H x) (aK H y))=Gp v->Reads O m S w a o v:=by
  intro ne kd iI iY hv;simp only[bj] at hv
  cases he:km kd (ay tm (aK H x)) (ay tm (aK H y)) with
  | none=>simp[he] at hv
  | some r=>
   simp only[he,yc] at hv;subst hv;obtain⟨h1,h2,h3,h4⟩:=iY r he;obtain⟨h5,h6⟩:=h4 ydb
   refine kS (s:=do eqGuard op t x y (a.eval x) (a.eval y);wh op t (a.eval x) (a.eval y)) (by simp only[execOp,ho]) ⟨.bool (ne !=r),guard h2 h3 ?_,by simp[af]⟩
   rcases iI with ⟨rfl,rfl⟩ | ⟨rfl,rfl⟩
   .rw [h5 rfl];simp[h1]
   .rw [h6 rfl];simp[h1]
 have pB:O.P.underlying t=Gp .bool->∀r,km .b (ay tm (aK H x)) (ay tm (aK H y))=Gp r->∃p q,a.eval x=.bool p/\a.eval y=.bool q/\(Op.equal t (a.eval x) (a.eval y)).run O.P w=.ok r w:=by
  intro hu r he;cases hx:ay tm (aK H x)<;>cases hy:ay tm (aK H y)<;>rw[hx,hy] at he<;>simp only[km,reduceCtorEq] at he
  rw[hx] at rx;rw[hy] at ry;simp only[af] at rx ry;simp only[yc] at he;refine⟨_,_,rx,ry,?_⟩;rw[rx,ry,Uv,<-he];exact atZ hu
 have pS:∀e,O.P.underlying t=Gp (.slice e)->∀r,km .sl (ay tm (aK H x)) (ay tm (aK H y))=Gp r->∃p n c q n' c',a.eval x=.slice p n c/\a.eval y=.slice q n' c'/\(Op.equal t (a.eval x) (a.eval y)).run O.P w=.ok r w:=by
  intro e hu r he;have h1:=arh hu rx ry he;have sl:∀{v:AV} {u:yh},af O.ae m S w v u->(v=.ah\/(∃a b c,v=.ap a b c)\/∃a b c,v=.aq a b c)->∃p n c,u=.slice p n c:=by
   intro v u hr hv;rcases hv with rfl | ⟨_,_,_,rfl⟩ | ⟨_,_,_,rfl⟩
   .simp only [af] at hr;exact⟨_,_,_,hr⟩
   .simp only [af] at hr;rcases hr with ⟨b,o,c,hr,_⟩ | ⟨_,hr,_⟩<;>exact⟨_,_,_,hr⟩
   .simp only [af] at hr;obtain⟨b,c,_,hr,_⟩:=hr;exact⟨_,_,_,hr⟩
  have cW:(ay tm (aK H x)=.ah\/(∃a b c,ay tm (aK H x)=.ap a b c)\/∃a b c,ay tm (aK H x)=.aq a b c)/\
    (ay tm (aK H y)=.ah\/(∃a b c,ay tm (aK H y)=.ap a b c)\/∃a b c,ay tm (aK H y)=.aq a b c):=by
   cases hx:ay tm (aK H x)<;>cases hy:ay tm (aK H y)<;>rw[hx,hy] at he<;>simp[km] at he ⊢
  obtain⟨p,n,c,e1⟩:=sl rx cW.1;obtain⟨q,n',c',e2⟩:=sl ry cW.2;exact⟨p,n,c,q,n',c',e1,e2,h1⟩
 have pF:∀ps rs vr,O.P.underlying t=Gp (.func ps rs vr)->∀r,km .fn (ay tm (aK H x)) (ay tm (aK H y))=Gp r->
   ((a.eval x=.nilFunc\/∃f p q,a.eval x=.func f p q)/\(a.eval y=.nilFunc\/∃f p q,a.eval y=.func f p q))/\(Op.equal t (a.eval x) (a.eval y)).run O.P w=.ok r w:=by
  intro ps rs vr hu r he;have h1:=ari hu rx ry he;have sl:∀{v:AV} {u:yh},af O.ae m S w v u->(v=.iE\/(∃a b c,v=.fn a b c))->(u=.nilFunc\/∃f p q,u=.func f p q):=by
   intro v u hr hv;rcases hv with rfl | ⟨f,_,_,rfl⟩
   .simp only [af] at hr;exact .inl hr
   .cases f with
    | f g=>simp only[af] at hr;obtain⟨b,c,hr,_⟩:=hr;exact .inr ⟨_,_,_,hr⟩
    | y l=>simp only[af] at hr;obtain⟨b,_,hr⟩:=hr;exact .inr ⟨_,_,_,hr⟩
  have cW:(ay tm (aK H x)=.iE\/(∃a b c,ay tm (aK H x)=.fn a b c))/\(ay tm (aK H y)=.iE\/(∃a b c,ay tm (aK H y)=.fn a b c)):=by
   cases hx:ay tm (aK H x)<;>cases hy:ay tm (aK H y)<;>rw[hx,hy] at he<;>simp[km] at he ⊢
  exact⟨⟨sl rx cW.1,sl ry cW.2⟩,h1⟩
 have pA:∀ks,kinds O.P 20 t=Gp ks->dA O.P t=Gp ydb->O.P.stoodInHeld t=ydc->∀r,km (.ag ks) (ay tm (aK H x)) (ay tm (aK H y))=Gp r->∃p q,a.eval x=.agg p/\a.eval y=.agg q/\(Op.equal t (a.eval x) (a.eval y)).run O.P w=.ok r w:=by
  intro ks hk ha aR r he;cases hx:ay tm (aK H x)<;>cases hy:ay tm (aK H y)<;>rw[hx,hy] at he<;>simp only[km,reduceCtorEq] at he
  rw[hx] at rx;rw[hy] at ry;simp only[af] at rx ry;obtain⟨p,e1,h1⟩:=rx;obtain⟨q,e2,h2⟩:=ry;refine⟨p,q,e1,e2,?_⟩;rw[e1,e2,Uv];exact PG 20 t ks hk aR 10000 (by omega) _ _ _ _ r _ _ h1 h2 he (.inl ⟨ha,by simp⟩) (.inl ⟨ha,by simp⟩)
 have eqs:∀(ne:Bool),(op=.eql/\ne=ydc\/op=.neq/\ne=ydb)->bj tm hp (og O.P H ne op t x y)=Gp v->Reads O m S w a o v:=by
  intro ne iI hv;have agg:dA O.P t=Gp ydb->bj tm hp (pE O.P H ne t x y)=Gp v->Reads O m S w a o v:=by
   intro ha hv;unfold pE at hv
   cases hk:kinds O.P 20 t with
   | none=>rw[hk] at hv;exact (du hv).elim
   | some ks=>
    simp only[hk] at hv
    cases hc:(O.P.stoodInHeld t||O.P.eqGuardType O.P.depth t) with
    | true=>rw[hc] at hv;exact (du hv).elim
    | false=>
     rw[hc] at hv;simp only[yP] at hv;simp only[Bool.or_eq_false_iff] at hc;refine other ne (.ag ks) iI (fun r hr=>?_) hv;obtain⟨p,q,e1,e2,h1⟩:=pA ks hk ha hc.1 r hr;refine⟨h1,.inr hc.2,by rw[e1];simp,fun _=>?_⟩
     rw[e1,e2];exact⟨fun e=>by subst e;rfl,fun e=>by subst e;rfl⟩
  unfold og at hv
  split at hv
  .exact plain hv
  .exact plain hv
  .exact plain hv
  .exact plain hv
  .rename_i hu;refine other ne .b iI (fun r hr=>?_) hv;obtain⟨p,q,e1,e2,h1⟩:=pB hu r hr;refine⟨h1,.inl (by rw[e1];simp),by rw[e1];simp,fun _=>?_⟩
   rw[e1,e2];exact⟨fun e=>by subst e;rfl,fun e=>by subst e;rfl⟩
  .rename_i e hu;refine other ne .sl iI (fun r hr=>?_) hv;obtain⟨p,n,c,q,n',c',e1,e2,h1⟩:=pS e hu r hr;refine⟨h1,.inl (by rw[e1];simp),by rw[e1];simp,fun _=>?_⟩
   rw[e1,e2];exact⟨fun e=>by subst e;rfl,fun e=>by subst e;rfl⟩
  .rename_i ps rs vr hu;refine other ne .fn iI (fun r hr=>?_) hv;obtain⟨⟨e1,e2⟩,h1⟩:=pF ps rs vr hu r hr;refine⟨h1,.inl ?_,?_,fun _=>?_⟩
   .rcases e1 with e1 | ⟨_,_,_,e1⟩<;>rw[e1]<;>simp
   .rcases e1 with e1 | ⟨_,_,_,e1⟩<;>rw[e1]<;>simp
   .rcases e1 with e1 | ⟨_,_,_,e1⟩<;>rcases e2 with e2 | ⟨_,_,_,e2⟩<;>rw[e1,e2]<;>exact⟨fun e=>by subst e;rfl,fun e=>by subst e;rfl⟩
  .rename_i fs hu;exact agg (by simp[dA,hu]) hv
  .rename_i k0 e hu;exact agg (by simp[dA,hu]) hv
  .exact (du hv).elim
 cases op
 case eql=>exact eqs ydc (.inl ⟨rfl,rfl⟩) (by simpa only[aP,ho] using hv)
 case neq=>exact eqs ydb (.inr ⟨rfl,rfl⟩) (by simpa only[aP,ho] using hv)
 all_goals exact plain (by simpa only[aP,ho] using hv)
end
end
section
open Go
section
variable {O:bz}{H:Hint}{m:Mp}{S:Nat->Prop}{w:yk}{tm:Env}{a:Act}{hp:Hp}{ct:Nat}
def A8{o:yU}{b:Builtin}{args:Array xA}{ts:Array yA}(ho:o.op=.call {callee:=.builtin b,args:=args,argTypes:=ts}):
  ∃cs,(execOp a.eval o).run O.P w=(builtin b ts o.type cs (args.map a.eval)).run O.P w:=by
 exact⟨_,by simp only[execOp,ho,resolve,Sem.run_bind,Sem.run_pure,Result.andThen_ok,invoke];rfl⟩
def am8{o:yU}{c:Call}{k:Nat}{v:AV}(hH:fo O H)(ht:bX O m S w tm a.tmps)(hh:aT O m S w hp ct)(ho:o.op=.call c)(hv:bj tm hp (aP O.P H k o)=Gp v):Reads O m S w a o v:=by
 obtain⟨callee,args,ts⟩:=c;simp only[aP,ho] at hv
 split at hv
 .cases FO:H.mode k<;>simp[FO,bj] at hv
 .rename_i _ b
  split at hv
  .have key:∀{bb:Bool} {sz by':Nat} {x y:X},bj tm hp (bif bb then .di sz by' x y else bad)=Gp v->False:=by
    intro bb sz by' x y h
    cases bb
    .exact du h
    .simp [bj] at h
   split at hv
   .split at hv
    .exact (key hv).elim
    .exact (du hv).elim
   .split at hv
    .exact (key hv).elim
    .exact (du hv).elim
   .exact (du hv).elim
  .rename_i x t eN nh;obtain⟨al⟩:=args;obtain⟨tl⟩:=ts;simp only at eN nh;subst eN;subst nh;obtain⟨cs,dX⟩:=A8 (O:=O) (w:=w) (a:=a) ho;have fin:(∃u,(Builtin.len_ #[t] o.type #[a.eval x]).run O.P w=.ok u w/\af O.ae m S w v u)->Reads O m S w a o v:=by
    rintro⟨u,h1,h2⟩;refine⟨u,?_,h2⟩;rw[dX];simp[builtin,h1]
   split at hv
   .rename_i n e hu;simp only[bj,ay,yc] at hv;subst hv;exact fin ⟨_,by simp[Builtin.len_,run_underlying hu];rfl,by simp[af,goInt]⟩
   .rename_i hu;simp only[bj] at hv;exact fin (VB hh (bY hH ht x) (.inl ⟨rfl,hu⟩) hv)
   .rename_i e hu;simp only[bj] at hv;exact fin (VB hh (bY hH ht x) (.inr (.inl ⟨rfl,e,hu⟩)) hv)
   .rename_i kt e hu;simp only[bj] at hv;exact fin (VB hh (bY hH ht x) (.inr (.inr ⟨rfl,kt,e,hu⟩)) hv)
   .exact (du hv).elim
  .split at hv
   .split at hv
    .simp [bj] at hv
    .exact (du hv).elim
   .exact (du hv).elim
  .simp only [bj] at hv;obtain⟨cs,dX⟩:=A8 (O:=O) (w:=w) (a:=a) ho;have hl:=Ez hH ht args.toList
   cases hx:dN tm (iX H args.toList) with
   | nil=>simp[hx] at hv
   | cons c r=>
    simp only[hx] at hv;rw[hx] at hl;simp only[aA] at hl;obtain⟨u,us,h1,h2,h3⟩:=hl;obtain⟨q,h4,h5⟩:=U7 (O:=O) (g:=Builtin.min2) (fun va vb v x y hx hy h=>arl hx hy h) r us c v u h2 h3 hv;refine⟨q,?_,h5⟩;rw[dX];simp[builtin,Builtin.min_,h1,h4]
  .simp only [bj] at hv;obtain⟨cs,dX⟩:=A8 (O:=O) (w:=w) (a:=a) ho;have hl:=Ez hH ht args.toList
   cases hx:dN tm (iX H args.toList) with
   | nil=>simp[hx] at hv
   | cons c r=>
    simp only[hx] at hv;rw[hx] at hl;simp only[aA] at hl;obtain⟨u,us,h1,h2,h3⟩:=hl;obtain⟨q,h4,h5⟩:=U7 (O:=O) (g:=Builtin.max2) (fun va vb v x y hx hy h=>arm hx hy h) r us c v u h2 h3 hv;refine⟨q,?_,h5⟩;rw[dX];simp[builtin,Builtin.max_,h1,h4]
  .rename_i ts' x eN;obtain⟨al⟩:=args;simp only at eN;subst eN;obtain⟨cs,dX⟩:=A8 (O:=O) (w:=w) (a:=a) ho;simp only[bj] at hv;have rx:=bY hH ht x;cases hx:ay tm (aK H x)<;>rw[hx] at hv rx<;>simp only[mu,reduceCtorEq,yc] at hv
   rename_i k0 p0 q0;subst hv;simp only[af] at rx;have e1:(#[x]:Array xA).map a.eval=#[Value.complex k0 p0 q0]:=by simp[rx]
   have e2:Builtin.real_ ts o.type #[Value.complex k0 p0 q0]=pure (.float k0 p0):=rfl;exact⟨.float k0 p0,by rw[dX,e1];simp[builtin,e2],by simp[af]⟩
  .rename_i ts' x eN;obtain⟨al⟩:=args;simp only at eN;subst eN;obtain⟨cs,dX⟩:=A8 (O:=O) (w:=w) (a:=a) ho;simp only[bj] at hv;have rx:=bY hH ht x;cases hx:ay tm (aK H x)<;>rw[hx] at hv rx<;>simp only[mu,reduceCtorEq,yc] at hv
   rename_i k0 p0 q0;subst hv;simp only[af] at rx;have e1:(#[x]:Array xA).map a.eval=#[Value.complex k0 p0 q0]:=by simp[rx]
   have e2:Builtin.imag_ ts o.type #[Value.complex k0 p0 q0]=pure (.float k0 q0):=rfl;exact⟨.float k0 q0,by rw[dX,e1];simp[builtin,e2],by simp[af]⟩
  .rename_i ts' x y eN;obtain⟨al⟩:=args;simp only at eN;subst eN;obtain⟨cs,dX⟩:=A8 (O:=O) (w:=w) (a:=a) ho;simp only[bj] at hv;have rx:=bY hH ht x;have ry:=bY hH ht y;cases hx:ay tm (aK H x)<;>cases hy:ay tm (aK H y)<;>rw[hx] at hv rx<;>rw[hy] at hv ry<;>simp only[afF,reduceCtorEq] at hv
   rename_i k1 a1 k2 b1;simp only[af] at rx ry;by_cases hk:k1=k2
   .subst hk;simp only[xP,yc] at hv;subst hv;have e1:(#[x,y]:Array xA).map a.eval=#[Value.float k1 a1,Value.float k1 b1]:=by simp[rx,ry]
    have e2:Builtin.complex_ ts o.type #[Value.float k1 a1,Value.float k1 b1]=pure (.complex k1 a1 b1):=by
     show (if k1=k1 then _ else _)=_
     simp
    exact⟨.complex k1 a1 b1,by rw[dX,e1];simp[builtin,e2],by simp[af]⟩
   .simp [hk] at hv
  .exact (du hv).elim
 .exact (du hv).elim
def adT{o:yU}{k:Nat}{v:AV}(hH:fo O H)(ht:bX O m S w tm a.tmps)(hh:aT O m S w hp ct)(hv:bj tm hp (aP O.P H k o)=Gp v):Reads O m S w a o v:=by
 cases ho:o.op with
 | call c=>exact am8 hH ht hh ho hv
 | binOp op t x y ty=>exact ao0 hH ht ho hv
 | move x=>
  simp only[aP,ho,bj,yc] at hv;subst hv;exact⟨_,by simp only[execOp,ho,Sem.run_pure],bY hH ht x⟩
 | assign x=>
  simp only[aP,ho,bj,yc] at hv;subst hv;exact⟨_,by simp only[execOp,ho,Sem.run_pure],bY hH ht x⟩
 | pick c x y=>
  simp only[aP,ho,bj] at hv;have rc:=bY hH ht c;cases hc:ay tm (aK H c)<;>rw[hc] at hv<;>simp only[reduceCtorEq] at hv
  rename_i b;rw[hc] at rc;simp only[af] at rc;simp only[yc] at hv;subst hv
  cases b with
  | true=>exact⟨a.eval x,by simp[execOp,ho,rc,asBool],bY hH ht x⟩
  | false=>exact⟨a.eval y,by simp[execOp,ho,rc,asBool],bY hH ht y⟩
 | load t x=>
  simp only[aP,ho] at hv
  split at hv
  .rename_i s ag hz ha;simp only[bj] at hv;exact kS (by simp only[execOp,ho]) (axZ hh hz ha (bY hH ht x) hv)
  .exact (du hv).elim
 | fieldAddr t x i=>
  simp only[aP,ho] at hv
  split at hv
  .rename_i fs hu
   split at hv
   .rename_i f hf
    split at hv
    .rename_i s hz;simp only[bj] at hv;exact kS (by simp only[execOp,ho]) (at0 hu hf hz (bY hH ht x) hv)
    .exact (du hv).elim
   .exact (du hv).elim
  .exact (du hv).elim
 | field t x i=>
  simp only[aP,ho] at hv
  split at hv
  .rename_i fs hu
   split at hv
   .rename_i f hf
    split at hv
    .rename_i s ag hz ha;simp only[bj] at hv;exact kS (by simp only[execOp,ho]) (at1 hu hf hz ha (bY hH ht x) hv)
    .exact (du hv).elim
   .exact (du hv).elim
  .exact (du hv).elim
 | nilCheck x=>
  simp only[aP,ho,bj] at hv;have rx:=bY hH ht x;cases hx:ay tm (aK H x)<;>rw[hx] at hv rx<;>simp only[reduceCtorEq,yc] at hv
  .subst hv;have r':=rx;simp only[af] at r';obtain⟨p,_,e⟩:=r';exact⟨a.eval x,by simp only[execOp,ho,e,Sem.run_pure],rx⟩
  .subst hv;have r':=rx;simp only[af] at r';obtain⟨b,o',e,_⟩:=r';exact⟨a.eval x,by simp only[execOp,ho,e,Sem.run_pure],rx⟩
  .subst hv;rename_i f _ _
   cases f with
   | f g=>
    have r':=rx;simp only[af] at r';obtain⟨fi,ca,e,_⟩:=r';exact⟨a.eval x,by simp only[execOp,ho,e,Sem.run_pure],rx⟩
   | y l=>
    have r':=rx;simp only[af] at r';obtain⟨p,_,e⟩:=r';exact⟨a.eval x,by simp only[execOp,ho,e,Sem.run_pure],rx⟩
 | unOp op t x=>
  simp only[aP,ho,bj] at hv;exact kS (by simp only[execOp,ho]) (arj (bY hH ht x) hv)
 | convert s d x=>
  simp only[aP,ho] at hv
  split at hv
  .rename_i k1 k2 hs hd;simp only[bj] at hv;exact kS (by simp only[execOp,ho]) (acD hd (.inl ⟨_,hs⟩) (bY hH ht x) hv)
  .rename_i k1 k2 hs hd;simp only[bj] at hv;exact kS (by simp only[execOp,ho]) (acD hd (.inr ⟨_,hs⟩) (bY hH ht x) hv)
  .rename_i k1 k2 hs hd;simp only[bj] at hv;exact kS (by simp only[execOp,ho]) (acE hd (.inl ⟨_,hs⟩) (bY hH ht x) hv)
  .rename_i k1 k2 hs hd;simp only[bj] at hv;exact kS (by simp only[execOp,ho]) (acE hd (.inr ⟨_,hs⟩) (bY hH ht x) hv)
  .rename_i hs hd;simp only[bj] at hv;exact kS (by simp only[execOp,ho]) (aoU hd hs (bY hH ht x) hv)
  .exact (du hv).elim
 | makeFunc fn first cap=>
  cases fn with
  | func f=>
   simp only[aP,ho] at hv
   split at hv
   .rename_i g hg;simp only[bj,yc] at hv;subst hv;refine⟨.func (.func f) (first.map a.eval) (cap.map a.eval),by simp[execOp,ho,Instr.makeFunc],?_⟩;simp only[af];exact⟨_,_,by rw[hH f g hg],by simpa using Ez hH ht first.toList,by simpa using Ez hH ht cap.toList⟩
   .exact (du hv).elim
  | _=>simp only[aP,ho] at hv;exact (du hv).elim
 | slice t x lo hi mx=>
  cases mx with
  | some q=>simp only[aP,ho] at hv;exact (du hv).elim
  | none=>
   simp only[aP,ho] at hv
   split at hv
   .rename_i hu;simp only[bj] at hv;exact kS (by simp only[execOp,ho];rfl) (am7 hH ht hu (bY hH ht x) hv)
   .rename_i e hu
    split at hv
    .rename_i s hz;simp only[bj] at hv;exact kS (by simp only[execOp,ho];rfl) (aoV hH ht hu hz hh (bY hH ht x) hv)
    .exact (du hv).elim
   .rename_i n e hu
    split at hv
    .rename_i s hz;simp only[bj] at hv;exact kS (by simp only[execOp,ho];rfl) (aoW hH ht hu hz (bY hH ht x) hv)
    .exact (du hv).elim
   .exact (du hv).elim
 | indexAddr t x i=>
  simp only[aP,ho] at hv
  split at hv
  .rename_i e hu
   split at hv
   .rename_i s hz;simp only[bj] at hv
    cases hk:dd (ay tm (aK H i)) with
    | none=>simp[hk] at hv
    | some j=>
     simp only[hk] at hv;exact kS (by simp only[execOp,ho]) (at2 hu hz (bY hH ht x) (bY hH ht i) hk hv)
   .exact (du hv).elim
  .rename_i n e hu
   split at hv
   .rename_i s hz;simp only[bj] at hv
    cases hk:dd (ay tm (aK H i)) with
    | none=>simp[hk] at hv
    | some j=>
     simp only[hk] at hv;exact kS (by simp only[execOp,ho]) (at3 hu hz (bY hH ht x) (bY hH ht i) hk hv)
   .exact (du hv).elim
  .exact (du hv).elim
 | index t x i=>
  simp only[aP,ho] at hv
  split at hv
  .rename_i hu;simp only[bj] at hv
   cases hk:dd (ay tm (aK H i)) with
   | none=>simp[hk] at hv
   | some j=>
    simp only[hk] at hv;exact kS (by simp only[execOp,ho]) (at5 hu (bY hH ht x) (bY hH ht i) hk hv)
  .rename_i n e hu
   split at hv
   .rename_i s ag hz ha;simp only[bj] at hv
    cases hk:dd (ay tm (aK H i)) with
    | none=>simp[hk] at hv
    | some j=>
     simp only[hk] at hv;exact kS (by simp only[execOp,ho]) (at4 hu hz ha (bY hH ht x) (bY hH ht i) hk hv)
   .exact (du hv).elim
  .exact (du hv).elim
 | lookup t x i ok=>
  simp only[aP,ho] at hv
  split at hv
  .rename_i kt e hu
   split at hv
   .rename_i kk z zo hz;simp only[bj] at hv
    cases hf:pD kk (ay tm (aK H i)) with
    | false=>simp[hf] at hv
    | true=>
     simp only[hf,yu] at hv;obtain⟨zv,ni,rfl⟩:=GK (w:=w) hz
     cases hr:CZ hp (ay tm (aK H i)) (ay tm (aK H x)) with
     | none=>simp[hr] at hv
     | some r=>
      refine kS (by simp only[execOp,ho]) (at6 (ok:=ok) (r:=r) (z:=ff zv) hh hu zo hf ni (bY hH ht x) (bY hH ht i) (O8 zv) hr ?_);cases r<;>simpa[hr] using hv
   .exact (du hv).elim
  .exact (du hv).elim
 | extract x i=>
  simp only[aP,ho,bj] at hv;have rx:=bY hH ht x;cases hx:ay tm (aK H x)<;>rw[hx] at hv rx<;>simp only[reduceCtorEq] at hv
  simp only[af] at rx;obtain⟨xs,e,hr⟩:=rx;obtain⟨u,h1,h2⟩:=Ux hr hv;refine⟨u,?_,h2⟩;have FP:xs[i]? =Gp u:=by simpa using h1
  simp[execOp,ho,e,Instr.extract,FP]
 | build t parts=>
  simp only[aP,ho] at hv
  split at hv
  .rename_i fs z hu hz
   split at hv
   .rename_i pl azO;have nR:=run_places (P:=O.P) w fs.toList pl azO
    split at hv
    case h_2=>exact (du hv).elim
    rename_i ps ju;simp only[bj] at hv
    cases hf:fill tm z ps with
    | none=>simp[hf] at hv
    | some cs=>
     simp only[hf,yc] at hv;subst hv;obtain⟨zv,ni,lk⟩:=GK (w:=w) hz;have B4:aA O.ae m S w z zv.cells.toList:=by
      have:=Eg (ae:=O.ae) (m:=m) (S:=S) (w:=w) zv
      rw[<-lk] at this;exact this
     obtain⟨out,h1,h2⟩:=Pa hH ht (place:=fun i=>pl[i]?) parts.toList ps z cs zv.cells ju B4 hf;refine⟨.agg out,?_,by simp only[af];exact⟨out,rfl,h2⟩⟩
     have hm:(Array.mapM (fun f=>Functor.map (Prod.mk f.offset) (vA f.type)) fs:Sem (Array (Nat×Nat))).run O.P w=.ok pl.toArray w:=by
      rw[Array.mapM_eq_mapM_toList];simp[nR]
     simp[execOp,ho,Instr.build,ni,run_underlying hu,hm,h1]
   .exact (du hv).elim
  .rename_i n e z hu hz
   split at hv
   .rename_i s hs
    split at hv
    .rename_i ps ju;simp only[bj] at hv
     cases hf:fill tm z ps with
     | none=>simp[hf] at hv
     | some cs=>
      simp only[hf,yc] at hv;subst hv;obtain⟨zv,ni,lk⟩:=GK (w:=w) hz;have B4:aA O.ae m S w z zv.cells.toList:=by
       have:=Eg (ae:=O.ae) (m:=m) (S:=S) (w:=w) zv
       rw[<-lk] at this;exact this
      obtain⟨out,h1,h2⟩:=Pa hH ht (place:=fun i=>Gp (i*s,s)) parts.toList ps z cs zv.cells ju B4 hf;refine⟨.agg out,?_,by simp only[af];exact⟨out,rfl,h2⟩⟩
      simp[execOp,ho,Instr.build,ni,run_underlying hu,pg hs,h1]
    .exact (du hv).elim
   .exact (du hv).elim
  .exact (du hv).elim
 | alloc t=>simp only[aP,ho] at hv;split at hv<;>simp[bj,bad] at hv
 | box t x=>simp only[aP,ho] at hv;split at hv<;>simp[bj,bad] at hv
 | buildSlice t n parts=>
  simp only[aP,ho] at hv
  split at hv
  .split at hv
   .rename_i s z _ _
    cases hc:yB (n*s) 16777216 with
    | false=>rw[hc] at hv;exact (du hv).elim
    | true=>
     rw[hc] at hv;simp only[yu] at hv
     split at hv
     .simp [bj] at hv
     .exact (du hv).elim
   .exact (du hv).elim
  .exact (du hv).elim
 | makeMap t r=>
  cases r<;>simp only[aP,ho] at hv
  .repeat' split at hv
   all_goals simp[bj,bad] at hv
  .exact (du hv).elim
 | makeSlice t l c=>
  simp only[aP,ho] at hv
  repeat' split at hv
  all_goals simp[bj,bad] at hv
 | insert t x k y=>
  simp only[aP,ho] at hv
  repeat' split at hv
  all_goals simp[bj,bad] at hv
 | mapUpdate t x k y=>
  simp only[aP,ho] at hv
  repeat' split at hv
  all_goals simp[bj,bad] at hv
 | store t x y=>simp only[aP,ho] at hv;split at hv<;>simp[bj,bad] at hv
 | range t x=>simp only[aP,ho] at hv;split at hv<;>simp[bj,bad] at hv
 | next x b=>cases b<;>simp[aP,ho,bj,bad] at hv
 | _=>simp[aP,ho,bj,bad] at hv
end
end
section
open Go
def fJ(m:Mp)(id:Nat)(p:Pl):Mp:=fun i=>if i=id then Gp p else m i
def dL{m:Mp}{id:Nat}{p:Pl}:fJ m id p id=Gp p:=by simp[fJ]
def eE{m:Mp}{id i:Nat}{p:Pl}(h:i≠id):fJ m id p i=m i:=by simp[fJ,h]
section
variable {O:bz}{m:Mp}{S:Nat->Prop}{w:yk}{hp:Hp}{ct:Nat}
def dl(m m':Mp):Prop:=∀id p,m id=Gp p->m' id=Gp p
def dl.refl{m:Mp}:dl m m:=fun _ _ h=>h
def dl.trans{m m' MV:Mp}(h:dl m m')(k:dl m' MV):dl m MV:=fun id p hp=>k id p (h id p hp)
def jX{i:Nat}(h:m i=Gq){p:Pl}:dl m (fJ m i p):=by
 intro id q hq;rw[eE]
 .grind
 .grind
def Cs{tm:Env}{tmps:Array yh}{m':Mp}{S':Nat->Prop}{w':yk}(hm:∀id p,m id=Gp p->m' id=Gp p)(hS:∀b,S b->S' b)(hw:gm S w w')(h:bX O m S w tm tmps):bX O m' S' w' tm tmps:=fun i=>mJ hm hS hw _ _ (h i)
def alloc_old{o:yan}{b:Nat}(hb:b<w.heap.size):(w.alloc o).heap[b]? =w.heap[b]? :=RowKit.Below.heap_alloc w o b hb
def zR{m':Mp}{S':Nat->Prop}{w':yk}{id:Nat}{o:Obj}(hm:∀id p,m id=Gp p->m' id=Gp p)(hS:∀b,S b->S' b)(hw:gm S w w')(hb:∀p,m id=Gp p->w'.heap[p.b]? =w.heap[p.b]?)(hn:∀p,m id=Gp p->S' p.b->S p.b)(h:fp O m S w id o):fp O m' S' w' id o:=by
 have rowAt:∀(cs:List AV) (b k:Nat),w'.heap[b]? =w.heap[b]? ->bU O.ae m S w cs b k->bU O.ae m' S' w' cs b k:=by
  intro cs
  induction cs with
  | nil=>intro b k _ _;simp only[bU]
  | cons c cs ih=>
   intro b k AK hr;have⟨⟨u,h1,h2⟩,h3⟩:=hr;exact⟨⟨u,(NT AK).trans h1,mJ hm hS hw _ _ h2⟩,ih b (k+1) AK h3⟩
 cases o with
 | cells rw pu ex sz cs=>
  have⟨p,arr,t,h1,h2,h3,h4,h5,h6,h7,h8,h9,jf⟩:=h;exact⟨p,arr,t,hm _ _ h1,(hb p h1).trans h2,h3,h4,h5,h6,rowAt cs p.b p.o (hb p h1) h7,h8,fun hr hs=>h9 hr (hn p h1 hs),fun hr=>hS _ (jf hr)⟩
 | mp rw ks vs=>
  have⟨p,es,clock,h1,h2,h3,h4,h5,h6⟩:=h;exact⟨p,es,clock,hm _ _ h1,(hb p h1).trans h2,iN hm hS hw _ _ h3,iN hm hS hw _ _ h4,fun hr hs=>h5 hr (hn p h1 hs),fun hr=>hS _ (h6 hr)⟩
 | si s pos=>
  have⟨p,t,h1,h2,h3,h4⟩:=h;exact⟨p,t,hm _ _ h1,(hb p h1).trans h2,h3,fun hs=>h4 (hn p h1 hs)⟩
 | lp tm ps as_ body st pe=>
  have⟨p,l,hi,h1,h2,h3,h4,h5,h6,h7,h8⟩:=h;exact⟨p,l,hi,hm _ _ h1,(hb p h1).trans h2,fun hs=>h3 (hn p h1 hs),h4,h5,h6,Cs hm hS hw h7,h8⟩
def fG{id i:Nat}{o:Obj}:ai ((id,o)::hp) i=if id=i then Gp o else ai hp i:=by
 simp only[ai]
 simp_all
def JQ(hh:aT O m S w hp ct)(g:yan):gm S w (w.alloc g):=fun b hb=>alloc_old (hh.slt b hb)
def jR:Obj->Obj->Prop
 | .cells rw pu ex sz cs,o'=>∃bZ,o'=.cells bZ pu ex sz cs/\(bZ=ydb->rw=ydb)
 | .mp rw ks vs,o'=>∃bZ,o'=.mp bZ ks vs/\(bZ=ydb->rw=ydb)
 | .si s pos,o'=>o'=.si s pos
 | .lp tm ps as_ body st pe,o'=>o'=.lp tm ps as_ body st pe
def jR.refl:∀o,jR o o
 | .cells rw _ _ _ _=>⟨rw,rfl,fun h=>h⟩
 | .mp rw _ _=>⟨rw,rfl,fun h=>h⟩
 | .si _ _=>rfl
 | .lp _ _ _ _ _ _=>rfl
def jR.trans{a b c:Obj}(h:jR a b)(k:jR b c):jR a c:=by
 cases a with
 | cells rw pu ex sz cs=>
  obtain⟨r1,rfl,h1⟩:=h;obtain⟨r2,rfl,h2⟩:=k;exact⟨r2,rfl,fun h=>h1 (h2 h)⟩
 | mp rw ks vs=>
  obtain⟨r1,rfl,h1⟩:=h;obtain⟨r2,rfl,h2⟩:=k;exact⟨r2,rfl,fun h=>h1 (h2 h)⟩
 | si s pos=>simp only[jR] at h;subst h;exact k
 | lp tm ps as_ body st pe=>simp only[jR] at h;subst h;exact k
def cN(hp an:Hp):Prop:=∀id o,ai hp id=Gp o->∃o',ai an id=Gp o'/\jR o o'
def cN.refl{hp:Hp}:cN hp hp:=fun _ o h=>⟨o,h,jR.refl o⟩
def cN.trans{a b c:Hp}(h:cN a b)(k:cN b c):cN a c:=fun id o ho=>
 let ⟨o1,h1,l1⟩:=h id o ho
 let ⟨o2,h2,l2⟩:=k id o1 h1
 ⟨o2,h2,l1.trans l2⟩
def jC:Obj->Prop
 | .cells rw _ _ _ _=>rw=ydc
 | .mp rw _ _=>rw=ydc
 | _=>False
def adU{an:Hp}{aI:Nat}(hh:aT O m S w hp ct)(hl:cN hp an)(hd:∀id o p,ai an id=Gp o->m id=Gp p->∃o',ai hp id=Gp o')(ij:ct<=aI)(azP:∀id o,ai an id=Gp o->id<aI):
  ∃S',aT O m S' w an aI/\(∀b,S b->S' b)/\∀b,S' b->S b\/eB m hp b:=by
 refine⟨fun b=>S b\/∃id p o,m id=Gp p/\p.b=b/\ai an id=Gp o/\jC o,?_,fun b h=>.inl h,?_⟩
 .refine ⟨?_,fun id p h=>yG (hh.lt id p h) ij,?_,?_,hh.blt,hh.low,hh.mS,hh.gI,azP⟩
  .intro id o' p jQ hm;have⟨o,ho⟩:=hd id o' p jQ hm;have⟨YJ,h1,h2⟩:=hl id o ho;rw[jQ] at h1;injection h1 with h1
   subst h1;have h3:=hh.obj id o p ho hm;have hS:∀b,S b->(S b\/∃id p o,m id=Gp p/\p.b=b/\ai an id=Gp o/\jC o):=fun b h=>.inl h
   have jv:∀q,m id=Gp q->(∃id p o,m id=Gp p/\p.b=q.b/\ai an id=Gp o/\jC o)->jC o':=by
    rintro q hq ⟨j,pj,oj,MX,hj2,hj3,hj4⟩;have⟨MY,hj5⟩:=hd j oj pj hj3 MX
    have:=hh.inj id j o MY q pj ho hj5 hq MX hj2.symm
    grind
   have aR:gm S w w:=fun _ _=>rfl
   cases o with
   | cells rw pu ex sz cs=>
    obtain⟨bZ,rfl,oQ⟩:=h2;have⟨q,arr,t,h1,h2,h3,h4,h5,h6,h7,h8,h9,jf⟩:=h3;refine⟨q,arr,t,h1,h2,h3,h4,h5,h6,?_,h8,?_,?_⟩
    .clear h4 h6 h8;revert h7;generalize q.o=k
     induction cs generalizing k with
     | nil=>intro _;simp only[bU]
     | cons c cs ih=>
      intro hr;simp only[bU] at hr ⊢;have⟨⟨u,g1,g2⟩,g3⟩:=hr
      exact⟨⟨u,g1,mJ (fun _ _ h=>h) hS aR _ _ g2⟩,by
       have BZ:∀(cs:List AV) (b k:Nat),bU O.ae m S w cs b k->bU O.ae m (fun b=>S b\/∃id p o,m id=Gp p/\p.b=b/\ai an id=Gp o/\jC o) w cs b k:=by
        intro cs
        induction cs with
        | nil=>intro b k _;simp only[bU]
        | cons c cs ih=>
         intro b k hr;simp only[bU] at hr ⊢;have⟨⟨u,g1,g2⟩,g3⟩:=hr;exact⟨⟨u,g1,mJ (fun _ _ h=>h) hS aR _ _ g2⟩,ih b (k+1) g3⟩
       exact BZ _ _ _ g3⟩
    .rintro hr (hs | hs)
     .grind
     .have:=jv q h1 hs
      simp only[jC] at this
      grind
    .intro hr;exact .inr ⟨id,q,_,h1,rfl,jQ,hr⟩
   | mp rw ks vs=>
    obtain⟨bZ,rfl,oQ⟩:=h2;have⟨q,es,clock,h1,h2,h3,h4,h5,h6⟩:=h3;refine⟨q,es,clock,h1,h2,iN (fun _ _ h=>h) hS aR _ _ h3,iN (fun _ _ h=>h) hS aR _ _ h4,?_,?_⟩
    .rintro hr (hs | hs)
     .grind
     .have:=jv q h1 hs
      simp only[jC] at this
      grind
    .intro hr;exact .inr ⟨id,q,_,h1,rfl,jQ,hr⟩
   | si s pos=>
    simp only[jR] at h2;subst h2;refine zR (fun _ _ h=>h) hS aR (fun _ _=>rfl) (fun q hq hs=>?_) h3;rcases hs with hs | hs
    .grind
    .exact (jv q hq hs).elim
   | lp tm ps as_ body st pe=>
    simp only[jR] at h2;subst h2;refine zR (fun _ _ h=>h) hS aR (fun _ _=>rfl) (fun q hq hs=>?_) h3;rcases hs with hs | hs
    .grind
    .exact (jv q hq hs).elim
  .intro i j oi oj pi pj hi hj bN ik e;have⟨MZ,cZ⟩:=hd i oi pi hi bN;have⟨MY,YK⟩:=hd j oj pj hj ik;exact hh.inj i j MZ MY pi pj cZ YK bN ik e
  .rintro b (hb | ⟨id,p,o,h1,rfl,_,_⟩)
   .exact hh.slt b hb
   .exact hh.blt id p h1
 .rintro b (hb | ⟨id,p,o,h1,rfl,h3,_⟩)
  .exact .inl hb
  .have ⟨o',jQ⟩:=hd id o p h3 h1;exact .inr ⟨id,o',p,jQ,h1,rfl⟩
def Uz{i:Nat}(hh:aT O m S w hp ct)(hi:m i=Gq)(Ig:i<ct){g:yan}{p:Pl}(hb:p.b=w.heap.size)(hf:∀o,ai hp i=Gp o->(fp O (fJ m i p) S (w.alloc g) i o/\¬jC o)\/
   (jC o/\fp O (fJ m i p) (fun b=>S b\/b=w.heap.size) (w.alloc g) i o)):
  ∃S',aT O (fJ m i p) S' (w.alloc g) hp ct/\(∀b,S b->S' b)/\∀b,S' b->S b\/b=w.heap.size:=by
 have eO:(w.alloc g).heap.size=w.heap.size+1:=by simp
 have bh:O.w0.heap.size<=w.heap.size:=hh.gI;have gen:∀S':Nat->Prop,(∀b,S b->S' b)->(∀b,S' b->S b\/b=w.heap.size)->(∀o,ai hp i=Gp o->fp O (fJ m i p) S' (w.alloc g) i o)->aT O (fJ m i p) S' (w.alloc g) hp ct:=by
  intro S' h1 h2 h3;have M0:∀id q,m id=Gp q->¬q.b=w.heap.size:=fun id q hq=>by have:=hh.blt id q hq;lia
  refine⟨?_,?_,?_,?_,?_,?_,?_,?_,hh.aH⟩
  .intro id o q ho hm;by_cases hc:id=i
   .grind
   .rw [eE hc] at hm;refine zR (jX hi) h1 (JQ hh g) (fun q' bP=>alloc_old (hh.blt id q' bP)) (fun q' bP hs=>?_) (hh.obj id o q ho hm)
    grind
  .intro id q hm;by_cases hc:id=i
   .grind
   .rw [eE hc] at hm;exact hh.lt id q hm
  .intro a b oa ob pa pb ha bJ FQ BH e;by_cases ca:a=i
   .by_cases cb:b=i
    .grind
    .subst ca;rw[dL] at FQ;rw[eE cb] at BH
     grind
   .rw [eE ca] at FQ;by_cases cb:b=i
    .subst cb;rw[dL] at BH
     grind
    .rw [eE cb] at BH;exact hh.inj a b oa ob pa pb ha bJ FQ BH e
  .intro b hs;rcases h2 b hs with h | h
   .have:=hh.slt b h;lia
   .lia
  .intro id q hm;by_cases hc:id=i
   .subst hc;rw[dL] at hm
    grind
   .rw [eE hc] at hm
    have:=hh.blt id q hm
    lia
  .intro id q hm;by_cases hc:id=i
   .subst hc;rw[dL] at hm
    grind
   .rw [eE hc] at hm;exact hh.low id q hm
  .intro b AK;exact (alloc_old (by lia)).trans (hh.mS b AK)
  .lia
 cases ho:ai hp i with
 | none=>exact⟨S,gen S (fun _ h=>h) (fun _ h=>.inl h) (fun o h=>by rw[ho] at h;cases h),fun _ h=>h,fun _ h=>.inl h⟩
 | some o=>
  rcases hf o ho with ⟨h1,_⟩ | ⟨_,h1⟩
  .exact ⟨S,gen S (fun _ h=>h) (fun _ h=>.inl h) (fun o' h=>by rw[ho] at h;injection h with h;subst h;exact h1),fun _ h=>h,fun _ h=>.inl h⟩
  .exact ⟨_,gen (fun b=>S b\/b=w.heap.size) (fun _ h=>.inl h) (fun _ h=>h) (fun o' h=>by rw[ho] at h;injection h with h;subst h;exact h1),fun _ h=>.inl h,fun _ h=>h⟩
def Tt{id:Nat}{o o':Obj}{p:Pl}(hl:jR o o')(hm:m id=Gp p)(h:fp O m S w id o)(hn:¬jC o):
  (fp O m S w id o'/\¬jC o')\/(jC o'/\fp O m (fun b=>S b\/b=p.b) w id o'):=by
 have hS:∀b,S b->(S b\/b=p.b):=fun _ h=>.inl h
 have aR:gm S w w:=fun _ _=>rfl
 cases o with
 | cells rw pu ex sz cs=>
  obtain⟨bZ,rfl,oQ⟩:=hl
  cases bZ with
  | true=>
   grind
  | false=>
   refine .inr ⟨rfl,?_⟩;have⟨q,arr,t,h1,h2,h3,h4,h5,h6,h7,h8,h9,jf⟩:=h;rw[hm] at h1;injection h1 with h1
   subst h1;have BZ:∀(cs:List AV) (b k:Nat),bU O.ae m S w cs b k->bU O.ae m (fun b=>S b\/b=p.b) w cs b k:=by
    intro cs
    induction cs with
    | nil=>intro b k _;simp only[bU]
    | cons c cs ih=>
     intro b k hr;have⟨⟨u,g1,g2⟩,g3⟩:=hr;exact⟨⟨u,g1,mJ (fun _ _ h=>h) hS aR _ _ g2⟩,ih b (k+1) g3⟩
   exact⟨p,arr,t,hm,h2,h3,h4,h5,h6,BZ _ _ _ h7,h8,by simp,fun _=>.inr rfl⟩
 | mp rw ks vs=>
  obtain⟨bZ,rfl,oQ⟩:=hl
  cases bZ with
  | true=>
   grind
  | false=>
   refine .inr ⟨rfl,?_⟩;have⟨q,es,clock,h1,h2,h3,h4,h5,h6⟩:=h;rw[hm] at h1;injection h1 with h1
   subst h1;exact⟨p,es,clock,hm,h2,iN (fun _ _ h=>h) hS aR _ _ h3,iN (fun _ _ h=>h) hS aR _ _ h4,by simp,fun _=>.inr rfl⟩
 | si s pos=>simp only[jR] at hl;subst hl;exact .inl ⟨h,hn⟩
 | lp tm ps as_ body st pe=>simp only[jR] at hl;subst hl;exact .inl ⟨h,hn⟩
end
end
section
open Go
section
variable {v:AV}{arr:Array yh}{cs:List AV}{sz:Nat}{b:Obj}
section
variable {O:bz}{H:Hint}{m:Mp}{S:Nat->Prop}{w:yk}{tm:Env}{a:Act}{hp:Hp}{ct cq:Nat}
def Oq{ae:Nat->Nat}{b:Nat}{arr:Array yh}{t:yA}{fr:Nat×Nat}(hb:w.heap[b]? =Gp (.cells arr t fr)):∀(cs:List AV) (us:List yh) (o:Nat),
  aA ae m S w cs us->(∀(j:Nat) (u:yh),us[j]? =Gp u->arr[o+j]? =Gp u)->bU ae m S w cs b o
 | [],us,o,_,_=>by simp only[bU]
 | c::cs,us,o,h,hu=>by
  simp only[aA] at h;obtain⟨u,r,rfl,h2,h3⟩:=h;simp only[bU];refine⟨⟨u,?_,h2⟩,Oq hb cs r (o+1) h3 (fun j v hv=>?_)⟩
  .have:=hu 0 u (by simp)
   simpa[World.cell?,hb] using this
  .have:=hu (j+1) v (by simpa using hv)
   rw[show o+1+j=o+(j+1) by lia];exact this
def arn(hh:aT O m S w hp cq){i:Nat}{t:yA}{us:List yh}{pu ex:Bool}(hr:aA O.ae m S w cs us)(hu:∀(j:Nat) (u:yh),us[j]? =Gp u->arr[j]? =Gp u)(hl:cs.length<=arr.size)(hex:ex=ydb->cs.length=arr.size)(fX:pu=ydb->aF cs=ydb)(m':Mp)(hm:dl m m')(hi:m' i=Gp ⟨w.heap.size,0,arr.size,sz⟩):fp O m' S (w.alloc (.cells arr t)) i (.cells ydb pu ex sz cs):=by
 refine⟨⟨w.heap.size,0,arr.size,sz⟩,arr,t,hi,heap_alloc_new w _,rfl,hl,by simp,hex,?_,fX,?_,by simp⟩
 .exact Oq (heap_alloc_new w _) cs us 0 (iN hm (fun _ h=>h) (JQ hh _) _ _ hr) (by simpa using hu)
 .intro _ hS
  have:=hh.slt _ hS
  simp at this
def E0(O:bz)(m:Mp)(S:Nat->Prop)(w:yk)(a:Act)(ct:Nat)(o:yU)(v:AV)(b:Obj):Prop:=
 ∃u g p,(execOp a.eval o).run O.P w=.ok (.value u) (w.alloc g)/\p.b=w.heap.size/\¬jC b/\
  ∀m',dl m m'->m' ct=Gp p->fp O m' S (w.alloc g) ct b/\af O.ae m' S (w.alloc g) v u
def TZ{o:yU}{t:yA}{us:List yh}{pu ex:Bool}{u:yh}(hh:aT O m S w hp cq)(he:(execOp a.eval o).run O.P w=.ok (.value u) (w.alloc (.cells arr t)))(hr:aA O.ae m S w cs us)(hu:∀(j:Nat) (u:yh),us[j]? =Gp u->arr[j]? =Gp u)(hl:cs.length<=arr.size)(hex:ex=ydb->cs.length=arr.size)(fX:pu=ydb->aF cs=ydb)(hv:∀m':Mp,m' ct=Gp ⟨w.heap.size,0,arr.size,sz⟩->af O.ae m' S (w.alloc (.cells arr t)) v u):E0 O m S w a ct o v (.cells ydb pu ex sz cs):=
 ⟨u,_,⟨w.heap.size,0,arr.size,sz⟩,he,rfl,by simp[jC],fun m' hm hi=>⟨arn hh hr hu hl hex fX m' hm hi,hv m' hi⟩⟩
def acF{o:yU}{t:yA}{x:yh}{vx:AV}(hh:aT O m S w hp cq)(he:(execOp a.eval o).run O.P w=.ok (.value (.pointer (Gp ⟨w.heap.size,0,Gq⟩))) (w.alloc (.cells x.cells t)))(hx:aA O.ae m S w (cellsOf vx) x.cells.toList)(hv:(bif yq (cellsOf vx).length sz&&cd (cellsOf vx) then Gp (AV.ptr ct 0,Obj.cells ydb (aF (cellsOf vx)) ydb sz (cellsOf vx)) else Gq)=Gp (v,b)):E0 O m S w a ct o v b:=by
 cases hc:(yq (cellsOf vx).length sz&&cd (cellsOf vx)) with
 | false=>rw[hc] at hv;cases hv
 | true=>
  rw[hc] at hv;obtain⟨rfl,rfl⟩:=hv;have hlen:=iz _ _ hx;refine TZ hh he hx (fun j u hj=>by simpa using hj) (by rw[<-hlen];simp) (fun _=>by rw[<-hlen];simp) (fun h=>h) (fun m' hi=>?_)
  simp only[af];exact⟨_,hi,by simp⟩
def ao1{o:yU}{t:yA}{r:Option xA}(hh:aT O m S w hp cq)(ho:o.op=.makeMap t r)(hr:r=Gq):E0 O m S w a ct o (.map ct) (.mp ydb [] []):=by
 subst hr;refine⟨.map (Gp w.heap.size),.map #[] 0,⟨w.heap.size,0,0,0⟩,by simp[execOp,ho,Instr.makeMap],rfl,by simp[jC],fun m' _ hi=>⟨?_,?_⟩⟩
 .refine ⟨_,#[],0,hi,heap_alloc_new w _,by simp[aA],by simp[aA],?_,by simp⟩;intro _ hS
  have:=hh.slt _ hS
  simp at this
 .simp only [af];exact⟨_,hi,rfl⟩
def am9{o:yU}{t:yA}{x:xA}{s:List Nat}(hh:aT O m S w hp cq)(ho:o.op=.range t x)(hu:O.P.underlying t=Gp .string)(hx:af O.ae m S w (.str s) (a.eval x)):
  E0 O m S w a ct o (.it ct) (.si s 0):=by
 obtain⟨b,e,rfl⟩:=hx;refine⟨.pointer (Gp ⟨w.heap.size,0,Gq⟩),.stringIter b 0,⟨w.heap.size,0,0,0⟩,by simp[execOp,ho,Instr.range,run_underlying hu,e],rfl,by simp[jC],fun m' _ hi=>⟨?_,?_⟩⟩
 .refine ⟨_,b,hi,heap_alloc_new w _,rfl,?_⟩;intro hS
  have:=hh.slt _ hS
  simp at this
 .simp only [af];exact⟨_,hi,rfl⟩
end
def ana(zero:Array yh):(xY zero.size).map (fun j=>zero[j]!)=zero.toList:=by
 apply List.ext_getElem
 .simp
 .grind
def aaW(zero:Array yh):∀n:Nat,(xY (n*zero.size)).map (fun i=>zero[i%zero.size]!)=(yz n zero.toList).flatten
 | 0=>by simp
 | n+1=>by
  rw[xR,tZ,List.range_add,List.map_append,aaW zero n,List.replicate_succ',yaX]
  congr 1
  simp only[List.map_map,uB,List.flatten_nil,List.append_nil];rw[<-ana zero];apply List.map_congr_left;intro j hj;simp at hj;simp[Function.comp,xt n,Nat.mod_eq_of_lt hj]
def UA{ae:Nat->Nat}{m:Mp}{S:Nat->Prop}{w:yk}{cs:List AV}{us:List yh}(h:aA ae m S w cs us):∀n,aA ae m S w (yz n cs).flatten (yz n us).flatten
 | 0=>by simp[aA]
 | n+1=>by rw[wP,wP,uB,uB];exact mH h (UA h n)
section
variable {O:bz}{H:Hint}{m:Mp}{S:Nat->Prop}{w:yk}{tm:Env}{a:Act}{hp:Hp}{ct cq:Nat}
def abG(zero:Array yh)(n:Nat):(Array.map (fun i=>zero[i%zero.size]!) (tE (n*zero.size))).toList=(yz n zero.toList).flatten:=by
 rw[<-aaW zero n]
 simp
def acG(tm:Env):∀(ps:List (Nat×Nat×X)) (zero cs:List AV),fill tm zero ps=Gp cs->cs.length=zero.length
 | [],zero,cs,h=>by simp only[fill,yc] at h;rw[h]
 | (o,sz,x)::r,zero,cs,h=>by
  simp only[fill] at h
  cases hc:(yq (cellsOf (ay tm x)).length sz&&yB (o+sz) zero.length&&cd (cellsOf (ay tm x))) with
  | false=>rw[hc] at h;cases h
  | true=>
   rw[hc] at h;simp only[ye] at hc;have h1:=yg hc.1.1;have h2:=yt hc.1.2;rw[acG tm r _ _ h];simp only[over,yJ,yQ,we]
   lia
def OL{α:Type}(l:List α):∀n,(yz n l).flatten.length=n*l.length
 | 0=>by simp
 | n+1=>by simp[wP,OL l n,xR,Nat.add_comm]
def anb{o:yU}{t e:yA}{n s:Nat}{z:AV}{parts:Array (Nat×xA)}{ps:List (Nat×Nat×X)}(hH:fo O H)(ht:bX O m S w tm a.tmps)(hh:aT O m S w hp cq)(ho:o.op=.buildSlice t n parts)(hu:O.P.underlying t=Gp (.slice e))(hs:cl O.P e=Gp s)(hz:mQ O.P e=Gp z)(hn:n*s<=16777216)(ju:partsOf H (fun i=>Gp (i*s,s)) parts.toList=Gp ps)(hv:cI tm hp ct (.kj n s (yz n (cellsOf z)).flatten ps)=Gp (v,b)):E0 O m S w a ct o v b:=by
 simp only[cI] at hv
 cases hf:fill tm (yz n (cellsOf z)).flatten ps with
 | none=>simp[hf] at hv
 | some cs=>
  simp only[hf] at hv
  cases hc:yq cs.length (n*s) with
  | false=>rw[hc] at hv;cases hv
  | true=>
   rw[hc] at hv;simp only[yu,yc,yo] at hv;obtain⟨rfl,rfl⟩:=hv;have hlen:=yg hc;obtain⟨zv,ni,rfl⟩:=GK (w:=w) hz;have B4:aA O.ae m S w (cellsOf (ff zv)) zv.cells.toList:=Eg zv;have zp:=iz _ _ B4;have DC:=acG tm ps _ _ hf;rw[OL] at DC;have Ih:n*s=n*zv.cells.size:=by
    rw[<-hlen,DC,<-zp];simp
   have key:∃zr:Array yh,(n*s=0->zr=#[])/\(n*s≠0->zr=zv.cells)/\aA O.ae m S w (yz n (cellsOf (ff zv))).flatten ((tE (n*s)).map (fun x=>zr[x%zr.size]!)).toList:=by
    by_cases h0:n*s=0
    .refine ⟨#[],fun _=>rfl,fun h=>(h h0).elim,?_⟩
     have:(yz n (cellsOf (ff zv))).flatten=[]:=by
      apply yK;rw[OL,<-zp];simp only[vE]
      lia
     rw[this];simp[aA,h0]
    .refine ⟨zv.cells,fun h=>(h0 h).elim,fun _=>rfl,?_⟩;rw[Ih,abG];exact UA B4 n
   have⟨zr,qj,fZ,zq⟩:=key;have⟨out,h1,h2⟩:=Pa hH ht (place:=fun i=>Gp (i*s,s)) parts.toList ps _ cs _ ju zq hf;have B1:=iz _ _ h2
   refine TZ (arr:=out) (t:=e) (us:=out.toList) hh ?_ h2 (fun j u hj=>by simpa using hj) (by rw[<-B1];simp) (fun _=>by rw[<-B1];simp) (fun h=>h) (u:=.slice (Gp ⟨w.heap.size,0,Gq⟩) n n) ?_
   .have jS:¬(n*s>2^24):=by lia
    by_cases h0:n*s=0
    .have:=qj h0
     subst this;simp only[h0] at h1;simp[execOp,ho,Instr.buildSlice,run_underlying hu,pg hs,h0,newRow] at h1 ⊢;simp[h1]
    .have:=fZ h0
     subst this;simp[execOp,ho,Instr.buildSlice,run_underlying hu,pg hs,h0,jS,ni,newRow] at h1 ⊢;simp[h1]
   .intro m' hi;simp only[af];refine⟨_,n,hi,by simp,yp _,?_⟩;simp only[yd];rw[<-hlen,<-B1];simp
def Eh:∀{a b:List AV},aF a=ydb->aF b=ydb->aF (a++b)=ydb
 | [],_,_,h=>h
 | c::r,b,h,k=>by
  simp only[aF,ye] at h;simp only[yj,aF,ye];exact⟨h.1,Eh h.2 k⟩
def abH{z:List AV}(h:aF z=ydb):∀n,aF (yz n z).flatten=ydb
 | 0=>by simp[aF]
 | n+1=>by rw[wP,uB];exact Eh h (abH h n)
def ao2{o:yU}{t e:yA}{s by':Nat}{z:AV}{l c:xA}(hH:fo O H)(ht:bX O m S w tm a.tmps)(hh:aT O m S w hp cq)(ho:o.op=.makeSlice t l c)(hu:O.P.underlying t=Gp (.slice e))(hs:cl O.P e=Gp s)(hb:AG O.P e=Gp by')(hz:mQ O.P e=Gp z)(hv:cI tm hp ct (.p8 s by' (cellsOf z) (aK H l) (aK H c))=Gp (v,b)):E0 O m S w a ct o v b:=by
 simp only[cI] at hv
 cases hl:dd (ay tm (aK H l)) with
 | none=>simp[hl] at hv
 | some ln=>
  cases hc:dd (ay tm (aK H c)) with
  | none=>simp[hl,hc] at hv
  | some cn=>
   simp only[hl,hc] at hv
   cases hk:(yB ln cn&&(yB cn room&&(yB (cn*by') room&&(yq (cellsOf z).length s&&cd (cellsOf z))))) with
   | false=>rw[hk] at hv;cases hv
   | true=>
    rw[hk] at hv;simp only[yu,yc,yo] at hv;obtain⟨rfl,rfl⟩:=hv;simp only[ye] at hk;have h1:=yt hk.1;have h2:=yt hk.2.1;have h3:=yt hk.2.2.1;have h4:=yg hk.2.2.2.1;simp only[room] at h2 h3;have⟨kl,el⟩:=Bn (bY hH ht l) hl;have⟨kc,ec⟩:=Bn (bY hH ht c) hc;obtain⟨zv,ni,rfl⟩:=GK (w:=w) hz;have B4:aA O.ae m S w (cellsOf (ff zv)) zv.cells.toList:=Eg zv;have zp:=iz _ _ B4;have FR:zv.cells.size=s:=by rw[<-h4,<-zp];simp
    have wrapN:∀k:Nat,k<=1099511627776->IntKind.i64.wrap (k:Int)=k:=fun k hk=>IntWalk.i64_in _ (by lia)
    obtain⟨ti,zt,eO,YL⟩:∃ti,O.P.info? e=Gp ti/\ti.size=s/\ti.bytes=by':=by
     unfold cl at hs;unfold AG at hb
     cases hi:O.P.info? e with
     | none=>simp[hi] at hs
     | some ti=>simp only[hi,yc] at hs hb;exact⟨ti,rfl,hs,hb⟩
    have Fb:((tE (cn*s)).map (zv.cells[·%zv.cells.size]!)).toList=(yz ln zv.cells.toList).flatten++(yz (cn-ln) zv.cells.toList).flatten:=by
     rw[<-FR,abG,<-yaX,List.replicate_append_replicate]
     grind
    have fY:(yz ln (cellsOf (ff zv))).flatten.length=ln*s:=by rw[OL,h4]
    have hmul:ln*s<=cn*s:=yO _ h1
    refine TZ (arr:=(tE (cn*s)).map (zv.cells[·%zv.cells.size]!)) (t:=e) (us:=(yz ln zv.cells.toList).flatten) hh (u:=.slice (Gp ⟨w.heap.size,0,Gq⟩) ln cn) ?_
     (UA B4 ln) ?_ ?_ ?_ (fun h=>?_) ?_
    .have aGa:by'*cn<=1099511627776:=by rw[xt];exact h3
     have zu:((by'*cn:Nat):Int)<=1099511627776:=by lia
     rw[Int.natCast_mul] at zu;have hlc:(ln:Int)<=(cn:Int):=by lia
     have g1:¬(281474976710656<(by':Int)*(cn:Int)):=by lia
     have g2:¬(((ln:Int)<0)):=by lia
     have g3:¬(((cn:Int)<0)):=by lia
     have g4:¬((ln:Int)>(cn:Int)):=by lia
     by_cases h0:cn*s=0
     .simp [execOp,ho,Instr.makeSlice,run_underlying hu,el,ec,asInt,asIntOf,typeInfo,zt,YL,wrapN ln (by lia),wrapN cn h2,g1,g2,g3,g4,pg hs,h0,newRow,askRoom,roomBytes]
      grind
     .simp [execOp,ho,Instr.makeSlice,run_underlying hu,el,ec,asInt,asIntOf,typeInfo,zt,YL,wrapN ln (by lia),wrapN cn h2,g1,g2,g3,g4,pg hs,h0,newRow,askRoom,roomBytes,ni]
    .intro j u hj
     have:((tE (cn*s)).map (zv.cells[·%zv.cells.size]!)).toList[j]? =Gp u:=by
      grind
     grind
    .grind
    .simp_all
    .exact abH h ln
    .intro m' hi;simp only[af];refine⟨_,cn,hi,by simp,h1,?_⟩
     simp
def adV{o:yU}{k:Nat}(hH:fo O H)(ht:bX O m S w tm a.tmps)(hh:aT O m S w hp cq)(hv:cI tm hp ct (aP O.P H k o)=Gp (v,b)):E0 O m S w a ct o v b:=by
 cases ho:o.op with
 | call c=>
  have⟨callee,args,ts⟩:=c;simp only[aP,ho] at hv
  repeat' split at hv
  all_goals first
   | (simp[cI,bad] at hv;done)
   | (revert hv;generalize yq _ _=bb;intro hv;cases bb<;>simp[cI,bad] at hv)
 | alloc t=>
  simp only[aP,ho] at hv
  split at hv
  .rename_i s z hs hz;obtain⟨zv,ni,rfl⟩:=GK (w:=w) hz
   exact acF (x:=zv) (t:=t) hh (by simp[execOp,ho,Instr.alloc,ni,newVar,newRow]) (Eg zv) (by simpa only[cI,ay] using hv)
  .simp [cI,bad] at hv
 | box t x=>
  simp only[aP,ho] at hv
  split at hv
  .rename_i s hs;simp only[cI] at hv
   cases hc:(yq (cellsOf (ay tm (aK H x))).length s&&cd (cellsOf (ay tm (aK H x)))) with
   | false=>rw[hc] at hv;cases hv
   | true=>
    have h1:=hc;simp only[ye] at h1
    exact acF (x:=a.eval x) (t:=t) hh (by simp[execOp,ho,Instr.box,newVar,newRow]) (TX (bY hH ht x) h1.2) hv
  .simp [cI,bad] at hv
 | buildSlice t n parts=>
  simp only[aP,ho] at hv
  split at hv
  .rename_i e hu
   split at hv
   .rename_i s z hs hz
    cases hc:yB (n*s) 16777216 with
    | false=>rw[hc] at hv;simp[cI,bad] at hv
    | true=>
     rw[hc] at hv;simp only[yu] at hv
     split at hv
     .rename_i ps ju;exact anb hH ht hh ho hu hs hz (yt hc) ju hv
     .simp [cI,bad] at hv
   .simp [cI,bad] at hv
  .simp [cI,bad] at hv
 | makeSlice t l c=>
  simp only[aP,ho] at hv
  split at hv
  .rename_i e hu
   split at hv
   .rename_i s by' z hs hb hz
    exact ao2 hH ht hh ho hu hs hb hz hv
   .simp [cI,bad] at hv
  .simp [cI,bad] at hv
 | makeMap t r=>
  cases r with
  | some x=>simp[aP,ho,cI,bad] at hv
  | none=>
   simp only[aP,ho] at hv
   repeat' split at hv
   all_goals first
    | (simp[cI,bad] at hv;done)
    | (
      simp only[cI,yc,yo] at hv;obtain⟨rfl,rfl⟩:=hv
      exact ao1 hh ho rfl)
 | range t x=>
  simp only[aP,ho] at hv
  split at hv
  .rename_i hu;simp only[cI] at hv;have rx:=bY hH ht x;cases hx:ay tm (aK H x)<;>rw[hx] at hv rx<;>simp only[reduceCtorEq] at hv
   simp only[yc,yo] at hv;obtain⟨rfl,rfl⟩:=hv;exact am9 hh ho hu rx
  .simp [cI,bad] at hv
 | next x b=>cases b<;>simp[aP,ho,cI,bad] at hv
 | binOp op t x y ty=>
  cases op<;>simp only[aP,ho,og,pE] at hv
  case eql=>
        repeat' split at hv
        all_goals first
         | (simp[cI,bad] at hv;done)
         | (cases hb:(O.P.stoodInHeld t||O.P.eqGuardType O.P.depth t)<;>rw[hb] at hv<;>simp[cI,bad] at hv)
  case neq=>
        repeat' split at hv
        all_goals first
         | (simp[cI,bad] at hv;done)
         | (cases hb:(O.P.stoodInHeld t||O.P.eqGuardType O.P.depth t)<;>rw[hb] at hv<;>simp[cI,bad] at hv)
  all_goals simp[cI] at hv
 | _=>
  simp only[aP,ho] at hv
  (repeat' split at hv)
  all_goals first
   | contradiction
   | (simp[cI,bad] at hv;done)
end
end
end
section
open Go
section
variable {hp an:Hp}{cs vs eH:List AV}
def zS{id i:Nat}{o:Obj}:ai (aU hp id o) i=if id=i then (if (ai hp id).isSome then Gp o else Gq) else ai hp i:=by
 induction hp with
 | nil=>simp[aU,ai]
 | cons x r ih=>
  have⟨j,q⟩:=x;simp only[aU];by_cases hj:j=id
  .subst hj;simp only[wQ,yu,ai];by_cases hi:j=i
   .simp_all
   .have:yq j i=ydc:=by
     cases hq:yq j i with
     | false=>rfl
     | true=>exact absurd (yg hq) hi
    grind
  .have hb:yq j id=ydc:=by
    cases hq:yq j id with
    | false=>rfl
    | true=>exact absurd (yg hq) hj
   simp only[hb,yP];rw[show ai ((j,q)::aU r id o) i=bif yq j i then Gp q else ai (aU r id o) i from rfl,ih];by_cases hi:j=i
   .subst hi
    have:¬id=j:=fun h=>hj h.symm
    simp[wQ,this,ai]
   .have zu:yq j i=ydc:=by
     cases hq:yq j i with
     | false=>rfl
     | true=>exact absurd (yg hq) hi
    simp[zu,ai,hb]
def lG(hp an:Hp):Prop:=∀id,(ai an id).isSome=(ai hp id).isSome
def lG.refl:lG hp hp:=fun _=>rfl
def lG.trans{a b c:Hp}(h:lG a b)(k:lG b c):lG a c:=fun id=>(k id).trans (h id)
def U8{id:Nat}{o o':Obj}(h:ai hp id=Gp o)(hl:jR o o'):cN hp (aU hp id o')/\lG hp (aU hp id o'):=by
 constructor
 .intro i q hq;rw[zS];by_cases hi:id=i
  .grind
  .exact ⟨q,by simp[hi,hq],jR.refl q⟩
 .intro i;rw[zS]
  grind
def abI{H:Hp}{id:Nat}{pu ex:Bool}{sz:Nat}(hl:cN hp H)(h:ai hp id=Gp (.cells ydc pu ex sz cs)):ai H id=Gp (.cells ydc pu ex sz cs):=by
 obtain⟨o',h1,bZ,rfl,h2⟩:=hl id _ h
 cases bZ with
 | false=>exact h1
 | true=>exact absurd (h2 rfl) (by simp)
section
variable {O:bz}
def ax1(O:bz)(m:Mp)(S:Nat->Prop)(w:yk)(p:Pl)(ex:Bool)(sz:Nat)(cs:List AV):Prop:=
 p.z=sz/\cs.length<=p.e/\(ex=ydb->cs.length=p.e)/\S p.b/\aF cs=ydb/\bU O.ae m S w cs p.b p.o
def W2(O:bz)(an:Hp)(v v':AV):Prop:=∀H m S w ct,cN an H->aT O m S w H ct->(∀u,af O.ae m S w v u->af O.ae m S w v' u)/\aW v'=ydb
def ahl(O:bz)(an:Hp)(vs eH:List AV):Prop:=∀H m S w ct,cN an H->aT O m S w H ct->(∀us,aA O.ae m S w vs us->aA O.ae m S w eH us)/\aF eH=ydb
def azQ(O:bz)(an:Hp)(id:Nat)(ex:Bool)(sz:Nat)(cs:List AV):Prop:=∀H m S w ct,cN an H->aT O m S w H ct->∀p,m id=Gp p->ax1 O m S w p ex sz cs
def GF{ae:Nat->Nat}{m:Mp}{S:Nat->Prop}{w:yk}{b:Nat}:∀(cs:List AV) (us:List yh) (o:Nat),aA ae m S w cs us->
  (∀(j:Nat) (u:yh),us[j]? =Gp u->w.cell? ⟨b,o+j,Gq⟩=Gp u)->bU ae m S w cs b o
 | [],us,o,_,_=>by simp only[bU]
 | c::cs,us,o,h,hu=>by
  obtain⟨u,r,rfl,h2,h3⟩:=h;refine⟨⟨u,by simpa using hu 0 u (by simp),h2⟩,GF cs r (o+1) h3 (fun j v hv=>?_)⟩;rw[show o+1+j=o+(j+1) by lia]
  simp_all
def ax2{m:Mp}{S:Nat->Prop}{w:yk}{dE:List AV}(h:∀us,aA O.ae m S w cs us->aA O.ae m S w dE us){b o:Nat}(hr:bU O.ae m S w cs b o):bU O.ae m S w dE b o:=by
 have⟨us,h1,_,h3⟩:=zP cs b o hr;exact GF dE us o (h us h1) h3
def Cm:∀(k:Nat) {cs:List AV},aF cs=ydb->aF (cs.take k)=ydb
 | 0,_,_=>by simp[aF]
 | k+1,[],_=>by simp[aF]
 | k+1,c::cs,h=>by
  simp only[aF,ye,wG] at h ⊢;exact⟨h.1,Cm k h.2⟩
def ao3:∀{n:Nat} {hp:Hp},cB n hp vs=Gp (eH,an)->eH.length=vs.length:=by
 intro n
 induction n generalizing vs eH an with
 | zero=>intro hp h;simp[cB] at h
 | succ n ih=>
  intro hp h
  cases vs with
  | nil=>simp only[cB,yc,yo] at h;rw[<-h.1]
  | cons v r=>
   simp only[cB] at h
   cases h1:freeze n hp v with
   | none=>simp[h1] at h
   | some q=>
    have⟨v',aX⟩:=q;simp only[h1] at h
    cases h2:cB n aX r with
    | none=>simp[h2] at h
    | some q2=>
     grind
def aaX:∀n:Nat,
  (∀hp v v' an,freeze n hp v=Gp (v',an)->cN hp an/\lG hp an/\W2 O an v v')/\
  (∀hp id ex sz cs an,sJ n hp id=Gp (ex,sz,cs,an)->cN hp an/\lG hp an/\azQ O an id ex sz cs)/\
  (∀hp vs eH an,cB n hp vs=Gp (eH,an)->cN hp an/\lG hp an/\ahl O an vs eH):=by
 intro n
 induction n with
 | zero=>refine⟨?_,?_,?_⟩<;>intros<;>simp_all[freeze,sJ,cB]
 | succ n ih=>
  have⟨ihV,ihB,Ii⟩:=ih;refine⟨?_,?_,?_⟩
  .intro hp v v' an h;have plain:∀{v v':AV} {hp an:Hp},(bif aW v then Gp (v,hp) else Gq)=Gp (v',an)->cN hp an/\lG hp an/\W2 O an v v':=by
    intro v v' hp an h
    cases hc:aW v with
    | false=>rw[hc] at h;cases h
    | true=>
     rw[hc] at h;simp only[yu,yc,yo] at h;obtain⟨rfl,rfl⟩:=h;exact⟨cN.refl,lG.refl,fun _ _ _ _ _ _ _=>⟨fun _ h=>h,hc⟩⟩
   cases v<;>simp only[freeze] at h<;>first | exact plain h | skip
   case aq id o k=>
    cases hb:sJ n hp id with
    | none=>simp[hb] at h
    | some q=>
     have⟨ex,sz,cs,aX⟩:=q;simp only[hb] at h
     cases hc:yB (o+k*sz) cs.length with
     | false=>rw[hc] at h;cases h
     | true=>
      rw[hc] at h;simp only[yu,yc,yo] at h;obtain⟨rfl,rfl⟩:=h;have hle:=yt hc;have⟨h1,h2,h3⟩:=ihB _ _ _ _ _ _ hb;refine⟨h1,h2,fun H m S w ct hl hh=>⟨fun u hu=>?_,by simp only[aW]⟩⟩;simp only[af] at hu ⊢;obtain⟨p,c,hm,rfl,B5,So⟩:=hu;have⟨g1,g2,g3,g4,g5,g6⟩:=h3 H m S w ct hl hh p hm;refine .inl ⟨p.b,p.o+o,c,rfl,B5,?_,.inr g4,Cm _ (Bb _ _ g5),Ba _ _ _ _ (sH _ _ _ _ g6)⟩;intro hx;simp only[ye] at hx;have e1:=yg hx.2;have e2:0<sz:=by
       simp_all
      have e3:=g3 hx.1.1;rw[g1] at So
      have:c*sz=k*sz:=by lia
      exact Nat.eq_of_mul_eq_mul_right e2 this
   case ptr id o=>
    cases hb:sJ n hp id with
    | none=>simp[hb] at h
    | some q=>
     have⟨ex,sz,cs,aX⟩:=q;simp only[hb,yc,yo] at h;obtain⟨rfl,rfl⟩:=h;have⟨h1,h2,h3⟩:=ihB _ _ _ _ _ _ hb;refine⟨h1,h2,fun H m S w ct hl hh=>⟨fun u hu=>?_,by simp only[aW]⟩⟩;simp only[af] at hu ⊢;obtain⟨p,hm,rfl⟩:=hu;have⟨g1,g2,g3,g4,g5,g6⟩:=h3 H m S w ct hl hh p hm;exact⟨p.b,p.o+o,rfl,.inr g4,Bb _ _ g5,sH _ _ _ _ g6⟩
   case map id=>
    cases hg:ai hp id with
    | none=>simp[hg] at h
    | some ob=>
     cases ob<;>simp only[hg,reduceCtorEq] at h
     rename_i rw ks vs
     cases hc:(aF ks&&aF vs) with
     | false=>rw[hc] at h;cases h
     | true=>
      rw[hc] at h;simp only[yu,yc,yo] at h;obtain⟨rfl,rfl⟩:=h;simp only[ye] at hc;have⟨h1,h2⟩:=U8 hg (o':=.mp ydc ks vs) ⟨ydc,rfl,by simp⟩;refine⟨h1,h2,fun H m S w ct hl hh=>⟨fun u hu=>?_,by simp only[aW]⟩⟩;simp only[af] at hu ⊢;obtain⟨p,hm,rfl⟩:=hu;have hq:ai (aU hp id (.mp ydc ks vs)) id=Gp (.mp ydc ks vs):=by rw[zS];simp[hg]
      obtain⟨o',h3,bZ,rfl,h4⟩:=hl id _ hq;have oQ:bZ=ydc:=by cases bZ with | false=>rfl | true=>exact absurd (h4 rfl) (by simp)
      subst oQ;have⟨p',es,clock,g1,g2,g3,g4,g5,g6⟩:=hh.obj id _ _ h3 hm;rw[hm] at g1;injection g1 with g1
      subst g1;exact⟨p.b,es,clock,rfl,g6 rfl,hc.1,hc.2,g2,g3,g4⟩
   case fn f first cap=>
    cases f with
    | y l=>simp only[aW,yP,reduceCtorEq] at h
    | f g=>
     simp only at h
     cases h1:cB n hp first with
     | none=>simp[h1] at h
     | some q=>
      have⟨aeR,aX⟩:=q;simp only[h1] at h
      cases h2:cB n aX cap with
      | none=>simp[h2] at h
      | some q2=>
       have⟨QD,jP⟩:=q2;simp only[h2,yc,yo] at h;obtain⟨rfl,rfl⟩:=h;have⟨a1,a2,a3⟩:=Ii _ _ _ _ h1;have⟨b1,b2,b3⟩:=Ii _ _ _ _ h2;refine⟨a1.trans b1,a2.trans b2,fun H m S w ct hl hh=>?_⟩;have⟨c1,c2⟩:=a3 H m S w ct (b1.trans hl) hh;have⟨d1,d2⟩:=b3 H m S w ct hl hh;refine⟨fun u hu=>?_,by simp[aW,c2,d2]⟩;simp only[af] at hu ⊢;obtain⟨fi,ca,rfl,e1,e2⟩:=hu;exact⟨fi,ca,rfl,c1 _ e1,d1 _ e2⟩
   case agg cs=>
    cases h1:cB n hp cs with
    | none=>simp[h1] at h
    | some q=>
     have⟨dE,aX⟩:=q;simp only[h1,yc,yo] at h;obtain⟨rfl,rfl⟩:=h;have⟨a1,a2,a3⟩:=Ii _ _ _ _ h1;refine⟨a1,a2,fun H m S w ct hl hh=>?_⟩;have⟨c1,c2⟩:=a3 H m S w ct hl hh;refine⟨fun u hu=>?_,by simpa[aW] using c2⟩;simp only[af] at hu ⊢;obtain⟨xs,rfl,e1⟩:=hu;exact⟨xs,rfl,c1 _ e1⟩
   case av cs=>
    cases h1:cB n hp cs with
    | none=>simp[h1] at h
    | some q=>
     have⟨dE,aX⟩:=q;simp only[h1,yc,yo] at h;obtain⟨rfl,rfl⟩:=h;have⟨a1,a2,a3⟩:=Ii _ _ _ _ h1;refine⟨a1,a2,fun H m S w ct hl hh=>?_⟩;have⟨c1,c2⟩:=a3 H m S w ct hl hh;refine⟨fun u hu=>?_,by simpa[aW] using c2⟩;simp only[af] at hu ⊢;obtain⟨xs,rfl,e1⟩:=hu;exact⟨xs,rfl,c1 _ e1⟩
  .intro hp id ex sz dE an h;simp only[sJ] at h
   cases hg:ai hp id with
   | none=>simp[hg] at h
   | some ob=>
    cases ob<;>simp only[hg,reduceCtorEq] at h
    rename_i rw pu qd DD cs
    cases pu with
    | true=>
     simp only[yu,yc,yo] at h;obtain⟨rfl,rfl,rfl,rfl⟩:=h;have hq:cN hp (bif rw then aU hp id (.cells ydc ydb qd DD cs) else hp)/\lG hp (bif rw then aU hp id (.cells ydc ydb qd DD cs) else hp)/\ai (bif rw then aU hp id (.cells ydc ydb qd DD cs) else hp) id=Gp (.cells ydc ydb qd DD cs):=by
      cases rw with
      | true=>
       have⟨h1,h2⟩:=U8 hg (o':=.cells ydc ydb qd DD cs) ⟨ydc,rfl,by simp⟩;exact⟨h1,h2,by simp[zS,hg]⟩
      | false=>exact⟨cN.refl,lG.refl,hg⟩
     refine⟨hq.1,hq.2.1,fun H m S w ct hl hh p hm=>?_⟩;have⟨p',arr,t,g1,g2,g3,g4,g5,g6,g7,g8,g9,g10⟩:=hh.obj id _ _ (abI hl hq.2.2) hm;rw[hm] at g1;injection g1 with g1
     subst g1;exact⟨g3,g4,g6,g10 rfl,g8 rfl,g7⟩
    | false=>
     simp only[yP] at h
     cases h1:cB n hp cs with
     | none=>simp[h1] at h
     | some q=>
      have⟨AL,aX⟩:=q;simp only[h1,yc,yo] at h;obtain⟨rfl,rfl,rfl,rfl⟩:=h;have⟨a1,a2,a3⟩:=Ii _ _ _ _ h1;obtain⟨o1,jw,Ij,rfl,_⟩:=a1 id _ hg;have⟨b1,b2⟩:=U8 jw (o':=.cells ydc ydc qd DD cs) ⟨ydc,rfl,by simp⟩;refine⟨a1.trans b1,a2.trans b2,fun H m S w ct hl hh p hm=>?_⟩;have hq:ai (aU aX id (.cells ydc ydc qd DD cs)) id=Gp (.cells ydc ydc qd DD cs):=by simp[zS,jw]
      have⟨p',arr,t,g1,g2,g3,g4,g5,g6,g7,g8,g9,g10⟩:=hh.obj id _ _ (abI hl hq) hm;rw[hm] at g1;injection g1 with g1
      subst g1;have⟨c1,c2⟩:=a3 H m S w ct (b1.trans hl) hh;have hlen:=ao3 h1
      exact⟨g3,by lia,fun hx=>by have:=g6 hx;lia,g10 rfl,c2,ax2 c1 g7⟩
  .intro hp vs eH an h
   cases vs with
   | nil=>
    simp only[cB,yc,yo] at h;obtain⟨rfl,rfl⟩:=h;exact⟨cN.refl,lG.refl,fun _ _ _ _ _ _ _=>⟨fun _ h=>h,rfl⟩⟩
   | cons v r=>
    simp only[cB] at h
    cases h1:freeze n hp v with
    | none=>simp[h1] at h
    | some q=>
     have⟨v1,aX⟩:=q;simp only[h1] at h
     cases h2:cB n aX r with
     | none=>simp[h2] at h
     | some q2=>
      have⟨r1,jP⟩:=q2;simp only[h2,yc,yo] at h;obtain⟨rfl,rfl⟩:=h;have⟨a1,a2,a3⟩:=ihV _ _ _ _ h1;have⟨b1,b2,b3⟩:=Ii _ _ _ _ h2;refine⟨a1.trans b1,a2.trans b2,fun H m S w ct hl hh=>?_⟩;have⟨c1,c2⟩:=a3 H m S w ct (b1.trans hl) hh;have⟨d1,d2⟩:=b3 H m S w ct hl hh;refine⟨fun us hu=>?_,by simp[aF,c2,d2]⟩;simp only[aA] at hu ⊢;obtain⟨u,t,rfl,e1,e2⟩:=hu;exact⟨u,t,rfl,c1 _ e1,d1 _ e2⟩
def TD{n:Nat}(h:cB n hp vs=Gp (eH,an)):cN hp an/\lG hp an/\ahl O an vs eH:=(aaX n).2.2 _ _ _ _ h
def Ot{n:Nat}{v v':AV}(h:freeze n hp v=Gp (v',an)):cN hp an/\lG hp an/\W2 O an v v':=(aaX n).1 _ _ _ _ h
end
end
end
section
open Go
section
variable {v:AV}{an:Hp}{cs new:List AV}{aI o:Nat}
section
variable {O:bz}{H:Hint}{m:Mp}{S:Nat->Prop}{w:yk}{tm:Env}{a:Act}{hp:Hp}{ct:Nat}
structure One(w w':yk)(g:Nat):Prop where
 os:w'.os=w.os
 tape:w'.tape=w.tape
 output:w'.output=w.output
 size:w'.heap.size=w.heap.size
 other:∀b,b≠g->w'.heap[b]? =w.heap[b]?
def TE(w:yk)(g:Nat)(cs:Array yh):One w (w.setRow g cs) g:=
 ⟨rfl,rfl,rfl,by simp,fun b hb=>setRow_other w g b cs hb⟩
def KB{id:Nat}{o:Obj}{p:Pl}(h:ai hp id=Gp o)(hm:m id=Gp p):eB m hp p.b:=⟨id,o,p,h,hm,rfl⟩
def ao4{id:Nat}{o':Obj}{b:Nat}(h:eB m (aU hp id o') b):eB m hp b:=by
 have⟨i,o,p,h1,h2,h3⟩:=h;rw[zS] at h1;by_cases hi:id=i
 .subst hi
  cases hq:ai hp id with
  | none=>simp[hq] at h1
  | some q=>exact⟨id,q,p,hq,h2,h3⟩
 .simp only [hi,xz] at h1;exact⟨i,o,p,h1,h2,h3⟩
def J9(hh:aT O m S w hp ct){id:Nat}{o o':Obj}{p:Pl}{w':yk}(ho:ai hp id=Gp o)(hm:m id=Gp p)(hn:¬S p.b)(hw:One w w' p.b)(h':fp O m S w' id o')(hk:∀r:uV,w.heap[p.b]? =Gp (.loop r)->∃r':uV,w'.heap[p.b]? =Gp (.loop r')):
  aT O m S w' (aU hp id o') ct/\b8 m S w hp m S w' (aU hp id o') ct:=by
 have aR:gm S w w':=fun b hb=>hw.other b (fun e=>hn (e▸hb))
 refine⟨⟨?_,hh.lt,?_,?_,?_,hh.low,?_,?_,fun i q hq=>(by
  rw[zS] at hq;by_cases hc:id=i
  .subst hc;exact hh.aH _ _ ho
  .simp only [hc,xz] at hq;exact hh.aH _ _ hq)⟩,⟨hw.os,hw.tape,hw.output,by rw[hw.size];exact yp _,?_,fun _ h=>h,fun b hb=>aR b hb,fun b hb=>.inl hb,fun b hb=>.inl (ao4 hb),fun _ _ _ h=>h,fun b r hb=>?_⟩⟩
 rotate_right
 .by_cases hc:b=p.b
  .subst hc;exact hk r hb
  .exact ⟨r,(hw.other b hc).trans hb⟩
 .intro i q pi hi bN;rw[zS] at hi;by_cases hc:id=i
  .subst hc;simp only[xP,ho,Option.isSome_some] at hi;injection hi with hi
   subst hi;exact h'
  .simp only [hc,xz] at hi;refine zR (fun _ _ h=>h) (fun _ h=>h) aR (fun q' bP=>?_) (fun _ _ h=>h) (hh.obj i q pi hi bN);exact hw.other _ (fun e=>hc (hh.inj i id q o q' p hi ho bP hm e).symm)
 .intro i j oi oj pi pj hi hj bN ik e;have key:∀{i:Nat} {oi:Obj},ai (aU hp id o') i=Gp oi->∃MZ,ai hp i=Gp MZ:=by
   intro i oi hi;rw[zS] at hi;by_cases hc:id=i
   .subst hc;exact⟨o,ho⟩
   .simp only [hc,xz] at hi;exact⟨oi,hi⟩
  have⟨MZ,cZ⟩:=key hi;have⟨MY,YK⟩:=key hj;exact hh.inj i j MZ MY pi pj cZ YK bN ik e
 .intro b hb;rw[hw.size];exact hh.slt b hb
 .intro i q hq;rw[hw.size];exact hh.blt i q hq
 .intro b hb
  rw[hw.other b (fun e=>by have:=hh.low id p hm;lia)]
  exact hh.mS b hb
 .rw [hw.size];exact hh.gI
 .intro b _ hb;exact hw.other b (fun e=>hb (e▸KB ho hm))
def Bx(O:bz)(m:Mp)(S:Nat->Prop)(w:yk)(a:Act)(hp:Hp)(ct:Nat)(o:yU)(v:AV)(an:Hp)(aI:Nat):Prop:=
 ∃n u w' m' S',(execOp a.eval o).run O.P w=.ok n w'/\(n=.value u\/(n=.skip/\u=undef))/\aT O m' S' w' an aI/\af O.ae m' S' w' v u/\dl m m'/\b8 m S w hp m' S' w' an ct
def ao5{ae:Nat->Nat}{u:yh}(h:af ae m S w v u)(ho:db v=ydb):u.oneCell'=ydb:=by
 cases v with
 | fn f a b=>
  cases f with
  | f g=>simp only[af] at h;obtain⟨_,_,rfl,_⟩:=h;rfl
  | y l=>simp only[af] at h;obtain⟨_,_,rfl⟩:=h;rfl
 | int k n=>simp only[af] at h;subst h;rfl
 | bool b=>simp only[af] at h;subst h;rfl
 | aw k n=>simp only[af] at h;subst h;rfl
 | dh k n i=>simp only[af] at h;subst h;rfl
 | str s=>simp only[af] at h;obtain⟨_,rfl,_⟩:=h;rfl
 | kN=>simp only[af] at h;subst h;rfl
 | ptr i k=>simp only[af] at h;obtain⟨_,_,rfl⟩:=h;rfl
 | bC cs=>simp only[af] at h;obtain⟨_,_,rfl,_⟩:=h;rfl
 | ah=>simp only[af] at h;subst h;rfl
 | ap e n cs=>simp only[af] at h;rcases h with ⟨_,_,_,rfl,_⟩ | ⟨_,rfl,_,_⟩<;>rfl
 | cF _ _ _ _=>simp[db] at ho
 | aq i k n=>simp only[af] at h;obtain⟨_,_,_,rfl,_⟩:=h;rfl
 | iE=>simp only[af] at h;subst h;rfl
 | jF=>simp only[af] at h;subst h;rfl
 | map i=>simp only[af] at h;obtain⟨_,_,rfl⟩:=h;rfl
 | jG ks vs=>simp only[af] at h;obtain⟨_,_,_,rfl,_⟩:=h;rfl
 | it i=>simp only[af] at h;obtain⟨_,_,rfl⟩:=h;rfl
 | agg cs=>simp[db] at ho
 | av cs=>simp[db] at ho
 | undef=>simp[db] at ho
def Ou{ae:Nat->Nat}:∀{vs:List AV} {us:List yh},aA ae m S w vs us->cd vs=ydb->∀u∈us,u.oneCell'=ydb
 | [],us,h,_,u,hu=>by simp only[aA] at h;subst h;cases hu
 | v::r,us,h,ho,u,hu=>by
  obtain⟨u',t,rfl,h1,h2⟩:=h;simp only[cd,ye] at ho;rcases List.mem_cons.1 hu with rfl | hu
  .exact ao5 h1 ho.1
  .exact Ou h2 ho.2 u hu
def acH{arr:Array yh}{t:yA}{p:Pl}{vs:List yh}{S':Nat->Prop}{m':Mp}(hb:w.heap[p.b]? =Gp (.cells arr t (0,0)))(hr:bU O.ae m S w cs p.b p.o)(hv:aA O.ae m S w new vs)(hl:o+new.length<=cs.length)(hs:p.o+cs.length<=arr.size){w':yk}(hm:dl m m')(hS:∀b,S b->S' b)(aR:gm S w w')(hw:w'.heap[p.b]? =Gp (.cells (arr.toList.take (p.o+o)++vs++arr.toList.drop (p.o+o+vs.length)).toArray t (0,0))):bU O.ae m' S' w' (over o new cs) p.b p.o:=by
 have⟨us,h1,h2,h3⟩:=zP cs p.b p.o hr;have hvl:=iz _ _ hv;have h4:aA O.ae m S w (over o new cs) (us.take o++vs++us.drop (o+new.length)):=mH (mH (Gy o h1) hv) (JY _ h1);refine GF _ _ _ (iN hm hS aR _ _ h4) (fun j u hj=>?_);have E1:∀k u,us[k]? =Gp u->arr[p.o+k]? =Gp u:=by
  intro k u hk
  have:=h3 k u hk
  simpa[World.cell?,hb] using this
 simp only[World.cell?,hw,tL,yD,xz];rw[yaN];have e1:(arr.toList.take (p.o+o)).length=p.o+o:=by rw[yQ,vE];lia
 have e2:(us.take o).length=o:=by rw[yQ];lia
 by_cases c1:j<o
 .have g1:(us.take o++vs++us.drop (o+new.length))[j]? =us[j]? :=by
   rw[xD,wF (by lia),ta c1]
  rw[g1] at hj;rw[xD,wF (by lia),ta (by lia)];simpa using E1 j u hj
 .by_cases c2:j<o+vs.length
  .have g1:(us.take o++vs++us.drop (o+new.length))[j]? =vs[j-o]? :=by
    rw[xD,wu (by lia),e2,wF (by lia)]
   rw[g1] at hj;rw[xD,wu (by lia),e1,wF (by lia),show p.o+j-(p.o+o)=j-o by lia];exact hj
  .have g1:(us.take o++vs++us.drop (o+new.length))[j]? =us[j]? :=by
    rw[xD,wu (by lia),e2,wu (by lia),ybj]
    congr 1
    lia
   rw[g1] at hj;rw[xD,wu (by lia),e1,wu (by lia),ybj,show p.o+o+vs.length+(p.o+j-(p.o+o)-vs.length)=p.o+j by lia];simpa using E1 j u hj
def OM(hl:o+new.length<=cs.length):(over o new cs).length=cs.length:=by
 simp only[over,yJ,yQ,we];lia
def aaY(h:aF cs=ydb)(h':aF new=ydb):aF (over o new cs)=ydb:=
 Eh (Eh (Cm _ h) h') (Bb _ _ h)
def aro{o:yU}{t:yA}{x y:xA}{sz:Nat}(hH:fo O H)(ht:bX O m S w tm a.tmps)(hh:aT O m S w hp ct)(ho:o.op=.store t x y)(hz:cl O.P t=Gp sz)(hv:cu tm hp ct (.st sz (aK H x) (aK H y))=Gp (v,an,aI)):Bx O m S w a hp ct o v an aI:=by
 simp only[cu] at hv;have rx:=bY hH ht x;cases hx:ay tm (aK H x)<;>rw[hx] at hv rx<;>simp only[reduceCtorEq] at hv
 rename_i id k;simp only[af] at rx;have⟨p,hm,ex⟩:=rx
 split at hv
 case h_2=>cases hv
 rename_i pu Sp z cs hg
 cases hc:(yq (cellsOf (ay tm (aK H y))).length sz&&yB (k+sz) cs.length&&cd (cellsOf (ay tm (aK H y)))) with
 | false=>rw[hc] at hv;cases hv
 | true=>
  rw[hc] at hv;simp only[yu,yc,yo] at hv;obtain⟨rfl,rfl,rfl⟩:=hv;simp only[ye] at hc;have c1:=yg hc.1.1;have c2:=yt hc.1.2;have ry:=TX (bY hH ht y) hc.2;have hl:=iz _ _ ry;have⟨p',arr,t',g1,g2,g3,g4,g5,g6,g7,g8,g9,g10⟩:=hh.obj id _ _ hg hm;rw[hm] at g1;injection g1 with g1
  subst g1;have ia:=Ou ry hc.2;have dX:=run_storeCells_at O.P p.b (p.o+k) t' (a.eval y).cells.toList 0 arr w g2 (by rw[hl];lia) ia
  simp only[yX] at dX;have ax3:(a.eval y).cells.size=sz:=by simp_all
  have qt:fp O m S (w.setRow p.b (arr.toList.take (p.o+k)++(a.eval y).cells.toList++arr.toList.drop (p.o+k+(a.eval y).cells.toList.length)).toArray) id
    (.cells ydb (pu&&aF (cellsOf (ay tm (aK H y)))) Sp z (over k (cellsOf (ay tm (aK H y))) cs)):=by
   refine⟨p,_,t',hm,setRow_heap w p.b arr _ t' _ g2,g3,by rw[OM (by lia)];exact g4,?_,fun h=>by rw[OM (by lia)];exact g6 h,?_,?_,fun _=>g9 rfl,by simp⟩
   .grind
   .exact acH g2 g7 ry (by lia) (by lia) dl.refl (fun _ h=>h) (fun b hb=>setRow_other w p.b b _ (fun e=>g9 rfl (e▸hb))) (setRow_heap w p.b arr _ t' _ g2)
   .intro h;simp only[ye] at h;exact aaY (g8 h.1) h.2
  have⟨e1,e2⟩:=J9 hh hg hm (g9 rfl) (TE w p.b _) qt (fun r hr=>by rw[g2] at hr;cases hr);refine⟨.skip,undef,_,m,S,?_,.inr ⟨rfl,rfl⟩,e1,by simp[af,aA,undef],dl.refl,e2⟩;simp only[execOp,ho,Instr.storeAt,ex,Instr.sureAddr,Sem.run_bind,Sem.run_pure,Result.andThen_ok,storeVar,pg hz,ax3,ne_eq,ycY,xz];simp[dX]
def Gu(w:yk)(g:Nat)(o:yan):One w {w with heap:=w.heap.setIfInBounds g o} g:=
 ⟨rfl,rfl,rfl,by simp,fun b hb=>by simp[Array.getElem?_setIfInBounds_ne (fun e=>hb e.symm)]⟩
def N9{g:Nat}{o q:yan}(h:w.heap[g]? =Gp q):({w with heap:=w.heap.setIfInBounds g o}:yk).heap[g]? =Gp o:=by grind
def acI{o:yU}{t kt e:yA}{x k y:xA}{kk:Nat}(hH:fo O H)(ht:bX O m S w tm a.tmps)(hh:aT O m S w hp ct)(ho:o.op=.mapUpdate t x k y\/o.op=.insert t x k y)(hu:O.P.underlying t=Gp (.map kt e))(zo:VE.keyOf O.P kt=Gp kk)(hv:cu tm hp ct (.rT kk (aK H x) (aK H k) (aK H y))=Gp (v,an,aI)):Bx O m S w a hp ct o v an aI:=by
 simp only[cu] at hv;have rx:=bY hH ht x;cases hx:ay tm (aK H x)<;>rw[hx] at hv rx<;>simp only[reduceCtorEq] at hv
 rename_i id;simp only[af] at rx;obtain⟨p,hm,ex⟩:=rx
 split at hv
 case h_2=>cases hv
 rename_i ks vs hg
 cases hc:pD kk (ay tm (aK H k)) with
 | false=>simp[hc] at hv
 | true=>
  simp only[hc,Bool.not_true,yP] at hv
  cases aX:BF (ay tm (aK H k)) (ay tm (aK H y)) ks vs with
  | none=>simp[aX] at hv
  | some q=>
   obtain⟨lQ,eH⟩:=q;simp only[aX,yc,yo] at hv;obtain⟨rfl,rfl,rfl⟩:=hv;obtain⟨E,hE,hF⟩:=aaV (P:=O.P) zo hc (bY hH ht k);obtain⟨p',es,clock,g1,g2,g3,g4,g5,g6⟩:=hh.obj id _ _ hg hm;rw[hm] at g1;injection g1 with g1
   subst g1;have azR:=adS hE (bY hH ht k) (bY hH ht y) ks vs es.toList 0 lQ eH g3 g4 aX
   have fin:∀(FT:Array wY) (c':Nat),(Instr.mapUpdate t (a.eval x) (a.eval k) (a.eval y)).run O.P w=.ok () {w with heap:=w.heap.setIfInBounds p.b (.map FT c')}->
     aA O.ae m S w lQ (FT.toList.map (·.key))->aA O.ae m S w eH (FT.toList.map (·.val))->Bx O m S w a hp ct o (.av []) (aU hp id (.mp ydb lQ eH)) ct:=by
    intro FT c' dX h1 h2
    have aR:gm S w {w with heap:=w.heap.setIfInBounds p.b (.map FT c')}:=fun b hb=>(Gu w p.b _).other b (fun e=>g5 rfl (e▸hb))
    have qt:fp O m S {w with heap:=w.heap.setIfInBounds p.b (.map FT c')} id (.mp ydb lQ eH):=
     ⟨p,FT,c',hm,N9 g2,iN (fun _ _ h=>h) (fun _ h=>h) aR _ _ h1,iN (fun _ _ h=>h) (fun _ h=>h) aR _ _ h2,fun _=>g5 rfl,by simp⟩
    obtain⟨e1,e2⟩:=J9 hh hg hm (g5 rfl) (Gu w p.b _) qt (fun r hr=>by rw[g2] at hr;cases hr);refine⟨.skip,undef,_,m,S,?_,.inr ⟨rfl,rfl⟩,e1,by simp[af,aA,undef],dl.refl,e2⟩;rcases ho with ho | ho<;>simp[execOp,ho,dX]
   have gP:=aaw (P:=O.P) (w:=w) zo hc (bY hH ht k) ydc;rcases azR with ⟨h1,h2,h3⟩ | ⟨j,e0,vc,vk0,h1,h2,⟨q1,q2,h3⟩,h4,h5⟩
   .refine fin (es.push ⟨a.eval k,a.eval y,clock⟩) (clock+1) ?_ (by simpa using h2) (by simpa using h3);rw[ex];simp[Instr.mapUpdate,run_underlying hu,MapKept.run_getObj_map g2,gP,hF _ _ h1,MapKept.run_setObj_map _ g2]
   .have hj:es[j]? =Gp e0:=by simpa using h2
    simp only[yd] at h1;obtain⟨ahm,hsb⟩:=aoZ q1 q2 h3
    refine fin (es.modify j fun e=>{e with key:=a.eval k,val:=a.eval y}) clock ?_ ?_ ?_
    .rw [ex];simp[Instr.mapUpdate,run_underlying hu,MapKept.run_getObj_map g2,gP,hF _ _ h1,MapKept.run_setObj_map _ g2,hj,Instr.keyThatStays,hsb,ahm.symm]
    .have:(es.modify j fun e=>{e with key:=a.eval k,val:=a.eval y}).toList.map (·.key)=es.toList.map (·.key):=by
      apply ybm;intro n;simp only[uW,tn,yaJ];by_cases hn:j=n
      .subst hn;simp[hj,ahm]
      .simp [hn]
     rw[this];exact h4
    .have:(es.modify j fun e=>{e with key:=a.eval k,val:=a.eval y}).toList.map (·.val)=(es.toList.map (·.val)).set j (a.eval y):=by
      apply ybm;intro n;simp only[uW,tn,yaJ,List.getElem?_set];by_cases hn:j=n
      .subst hn
       have:=(xC.1 hj).1
       simp[this]
      .simp [hn]
     rw[this];exact h5
def arp(t:ByteArray)(i:Nat):(t.get! i).toNat=(t.data.toList.map xr).getD i 0:=by
 have:t.get! i=t.data[i]! :=by cases t;rfl
 rw[this];by_cases h:i<t.data.size
 .grind
 .simp only [Array.getElem!_eq_getD,Array.getD_eq_getD_getElem?,List.getD_eq_getElem?_getD,uW,tn];rw[Array.getElem?_eq_none (by lia)];rfl
def anc(t:ByteArray)(i:Nat):decodeL (t.data.toList.map xr) i=Utf8.decode t i:=by
 have eO:(t.data.toList.map xr).length=t.size:=by simp
 simp only[decodeL,Utf8.decode,arp,eO]
def ao6{o:yU}{x:xA}(hH:fo O H)(ht:bX O m S w tm a.tmps)(hh:aT O m S w hp ct)(ho:o.op=.next x ydb)(hv:cu tm hp ct (.rV (aK H x))=Gp (v,an,aI)):Bx O m S w a hp ct o v an aI:=by
 simp only[cu] at hv;have rx:=bY hH ht x;cases hx:ay tm (aK H x)<;>rw[hx] at hv rx<;>simp only[reduceCtorEq] at hv
 rename_i id;simp only[af] at rx;have⟨p,hm,ex⟩:=rx
 split at hv
 case h_2=>cases hv
 rename_i s pos hg;have⟨p',t,g1,g2,g3,g4⟩:=hh.obj id _ _ hg hm;rw[hm] at g1;injection g1 with g1
 subst g1;have ai:(getObj p.b).run O.P w=.ok (.stringIter t pos) w:=by simp[getObj,Sem.run,g2]
 have hlen:s.length=t.size:=by rw[<-g3];simp
 cases hc:yL pos s.length with
 | false=>
  rw[hc] at hv;simp only[yP,yc,yo] at hv;obtain⟨rfl,rfl,rfl⟩:=hv;have aH:¬pos<t.size:=by
   intro h
   have:yL pos s.length=ydb:=by simp[yL];lia
   grind
  refine⟨.value (.tuple #[.bool ydc]),.tuple #[.bool ydc],w,m,S,?_,.inl rfl,hh,by simp[af,aA],dl.refl,b8.refl⟩;simp[execOp,ho,ex,Instr.next,ai,aH]
 | true=>
  rw[hc] at hv;simp only[yu] at hv;have aH:pos<t.size:=by
   simp_all
  cases hdc:decodeL s pos with | mk c wd=>
  rw[hdc] at hv;simp only[yc,yo] at hv;obtain⟨rfl,rfl,rfl⟩:=hv;have hd:Utf8.decode t pos=(c,wd):=by rw[<-anc,g3,hdc]
  have qt:fp O m S {w with heap:=w.heap.setIfInBounds p.b (.stringIter t (pos+wd))} id (.si s (pos+wd)):=⟨p,t,hm,N9 g2,g3,g4⟩;have⟨e1,e2⟩:=J9 hh hg hm g4 (Gu w p.b _) qt (fun r hr=>by rw[g2] at hr;cases hr);refine⟨.value (.tuple #[.bool ydb,goInt pos,.int .i32 c]),_,_,m,S,?_,.inl rfl,e1,by simp[af,aA,goInt],dl.refl,e2⟩
  have aU:(setObj p.b (.stringIter t (pos+wd))).run O.P w=.ok () {w with heap:=w.heap.setIfInBounds p.b (.stringIter t (pos+wd))}:=by simp[setObj,Sem.run,g2]
  simp[execOp,ho,ex,Instr.next,ai,aH,hd,aU]
end
end
end
section
open Go
section
variable {cs:List AV}{n size:Nat}{P:xx}{x:yh}
def JZ{hp:Hp}{id i:Nat}:ai (cE hp id) i=if id=i then Gq else ai hp i:=by
 induction hp with
 | nil=>simp[cE,ai]
 | cons x r ih=>
  have⟨j,q⟩:=x;simp only[cE];by_cases hj:j=id
  .subst hj;simp only[wQ,yu,ih,ai];by_cases hi:j=i
   .grind
   .have:yq j i=ydc:=by
     cases hq:yq j i with
     | false=>rfl
     | true=>exact absurd (yg hq) hi
    grind
  .have hb:yq j id=ydc:=by
    cases hq:yq j id with
    | false=>rfl
    | true=>exact absurd (yg hq) hj
   simp only[hb,yP];rw[show ai ((j,q)::cE r id) i=bif yq j i then Gp q else ai (cE r id) i from rfl,ih];by_cases hi:j=i
   .subst hi
    have:¬id=j:=fun h=>hj h.symm
    simp[wQ,this,ai]
   .have zu:yq j i=ydc:=by
     cases hq:yq j i with
     | false=>rfl
     | true=>exact absurd (yg hq) hi
    simp[zu,ai]
section
variable {O:bz}{H:Hint}{m:Mp}{S:Nat->Prop}{w:yk}{tm:Env}{a:Act}{hp:Hp}{ct:Nat}
def Src(P:xx)(w:yk)(size n:Nat)(news:List yh)(x:yh):Prop:=
 (∀w',(Builtin.lenOf x).run P w'=.ok n w')/\news.length=n*size/\
 ∀w',w'.heap=w.heap->∀k,k<=n->(Builtin.firstCells size k x).run P w'=.ok (news.take (k*size)).toArray w'
def Gz{c:Nat}{b:uL}{news:List yh}(hl:news.length=n*size)(hc:∀j u,news[j]? =Gp u->w.cell? (b.add j)=Gp u):
  Src P w size n news (.slice (Gp b) n c):=by
 refine⟨fun w'=>by simp[Builtin.lenOf],hl,fun w' hw k hk=>?_⟩;have hle:k*size<=news.length:=by rw[hl];exact yO _ hk
 refine run_firstCells_some (P:=P) w' size k b n c (news.take (k*size)) (by rw[yQ];lia) (fun j v hv=>?_)
 rw[List.getElem?_take] at hv
 split at hv
 .have:=hc j v hv
  simpa[World.cell?,hw] using this
 .cases hv
def adW:Src P w size 0 [] (.slice Gq 0 0):=
 ⟨fun w'=>by simp[Builtin.lenOf],by simp,fun w' _ k hk=>by simp[Builtin.firstCells]⟩
def ame(s:ByteArray)(k:Nat):(s.extract 0 k).data.map (fun b=>Value.int .u8 b.toNat)=((s.data.toList.map fun b=>Value.int .u8 (b.toNat:Int)).take k).toArray:=by
 have:(s.extract 0 k).data=s.data.extract 0 k:=by simp
 grind
def arq{s:ByteArray}:Src P w 1 s.size (s.data.toList.map fun b=>Value.int .u8 (b.toNat:Int)) (.string s):=by
 refine⟨fun w'=>by simp[Builtin.lenOf],by simp,fun w' _ k hk=>?_⟩;simp only[Builtin.firstCells,Sem.run_pure,Nat.mul_one];rw[ame]
def aax{ae:Nat->Nat}:∀l:List UInt8,aA ae m S w (O6 (l.map xr)) (l.map fun b=>Value.int .u8 (b.toNat:Int))
 | []=>by simp[O6,aA]
 | b::r=>by
  exact⟨_,_,rfl,by simp[af],aax r⟩
def aaZ{vx:AV}(hh:aT O m S w hp ct)(hx:af O.ae m S w vx x)(h:nA hp size vx=Gp (n,cs)):
  ∃us,aA O.ae m S w cs us/\Src O.P w size n us x:=by
 cases vx<;>simp only[nA,reduceCtorEq] at h
 case ah=>
  obtain⟨rfl,rfl⟩:=h;subst hx;exact⟨[],by simp[aA],adW⟩
 case ap ex n' dE=>
  cases hc:yq dE.length (n'*size) with
  | false=>rw[hc] at h;cases h
  | true=>
   rw[hc] at h;obtain⟨rfl,rfl⟩:=h;have hl:=yg hc;rcases hx with ⟨b,o,c,rfl,h1,h2,h3,h4,h5⟩ | ⟨ad,rfl,rfl,rfl⟩
   .have ⟨us,g1,g2,g3⟩:=zP _ b o h5;exact⟨us,g1,Gz (by lia) (fun j u hj=>by rw[oh];exact g3 j u hj)⟩
   .exact ⟨[],by simp[aA],Gz (by simp) (fun j u hj=>by simp at hj)⟩
 case aq id o n'=>
  cases hg:ai hp id with
  | none=>simp[hg] at h
  | some ob=>
   cases ob<;>simp only[hg,reduceCtorEq] at h
   rename_i rw pu ex z dE
   cases hc:yB (o+n'*size) dE.length with
   | false=>rw[hc] at h;cases h
   | true=>
    rw[hc] at h;simp only[yu,yc,yo] at h;obtain⟨rfl,rfl⟩:=h;have hl:=yt hc;obtain⟨p,c,hm,rfl,h1,h2⟩:=hx;have hr:=Uw (o:=0) (n:=0) hh hg hm;have nS:=Ba (n'*size) _ _ _ (sH o _ _ _ hr);have⟨us,g1,g2,g3⟩:=zP _ p.b (p.o+o) nS;refine⟨us,g1,Gz ?_ (fun j u hj=>by rw[oh];exact g3 j u hj)⟩
    grind
def abJ{vx:AV}(hh:aT O m S w hp ct)(hx:af O.ae m S w vx x)(h:jD hp size vx=Gp (n,cs)):
  ∃us,aA O.ae m S w cs us/\Src O.P w size n us x:=by
 cases vx<;>try exact aaZ hh hx h
 simp only[jD] at h
 cases hc:yq size 1 with
 | false=>rw[hc] at h;cases h
 | true=>
  rw[hc] at h;obtain⟨rfl,rfl⟩:=h
  have:=yg hc
  subst this;obtain⟨t,rfl,rfl⟩:=hx;refine⟨_,aax _,?_⟩
  have:(List.map xr t.data.toList).length=t.size:=by simp
  rw[this];exact arq
def alt{t u ty e:yA}{i:ycZ}(ht:P.underlying t=Gp (.slice e))(hu:(∃e',P.underlying u=Gp (.slice e'))\/P.underlying u=Gp .string)(hi:P.info? e=Gp i){g o jI sZ:Nat}{M1:Array yh}{te:yA}(hg:w.heap[g]? =Gp (.cells M1 te (0,0))){news:List yh}(hs:Src P w i.size n news x)(h1:∀u∈news,u.oneCell'=ydb)(Hl:jI+n<=sZ)(W3:o+jI*i.size+news.length<=M1.size):
  (Builtin.append_ #[t,u] ty #[.slice (Gp ⟨g,o,Gq⟩) jI sZ,x]).run P w=
   .ok (.slice (Gp ⟨g,o,Gq⟩) (jI+n) sZ) (w.setRow g (M1.toList.take (o+jI*i.size)++news++M1.toList.drop (o+jI*i.size+news.length)).toArray):=by
 have⟨nf,B6,YM⟩:=hs;have hf:=YM w rfl n (yp _);rw[yE (by lia)] at hf;have aR:=run_storeCells_at P g (o+jI*i.size) te news 0 M1 w hg (by lia) h1;rcases hu with ⟨e',hd⟩ | hd<;>
  simp[Builtin.append_,run_underlying ht,run_underlying hd,vA,typeInfo,hi,nf,Hl,hf,oh,aR]
def NU{t u ty e:yA}{i:ycZ}{z:yh}(ht:P.underlying t=Gp (.slice e))(hu:(∃e',P.underlying u=Gp (.slice e'))\/P.underlying u=Gp .string)(hi:P.info? e=Gp i)(hz:i.zero=Gp z){s:yh}{base:Option uL}{jI sZ:Nat}(es:s=.slice base jI sZ){mT:List yh}(ho:Src P w i.size jI mT s){news:List yh}(hs:Src P w i.size n news x)(hg:sZ<jI+n)(h63:jI+n<=1099511627776)(YL:(jI+n)*i.bytes<=1099511627776):
  (Builtin.append_ #[t,u] ty #[s,x]).run P w=
   .ok (.slice (Gp ⟨w.heap.size,0,Gq⟩) (jI+n) (grownCap w (jI+n) sZ e))
    (w.drew.alloc (.cells ((mT++news).toArray++Builtin.zeroCells z.cells (grownCap w (jI+n) sZ e-(jI+n))) e)):=by
 have⟨nf,B6,YM⟩:=hs;have⟨ho1,M2,ho3⟩:=ho;have hf:=YM w.drew rfl n (yp _);rw[yE (by lia)] at hf;have hfo:=ho3 w.drew rfl jI (yp _);have hn:¬(jI+n<=sZ):=by lia
 have azS:¬(9223372036854775807<((jI:Int)+(n:Int))):=by lia
 have W3:=growslice_fits (need:=jI+n) (old:=sZ) (bytes:=i.bytes) hg (by lia);have azT:¬(281474976710656<Builtin.nextslicecap (jI+n) sZ*i.bytes):=by lia
 subst es;rcases hu with ⟨e',hd⟩ | hd
 all_goals
  simp[Builtin.append_,run_underlying ht,run_underlying hd,vA,typeInfo,zeroValue,hi,hz,nf,hn,azS,azT,Question.forced,hf,hfo,newRow,askRoom,grownCap]
  grind
def T8{e:yA}{z:yh}{sz need cap:Nat}{us:List yh}(hh:aT O m S w hp ct)(hr:aA O.ae m S w cs us)(hl:us.length=need*sz)(hz:z.cells.size=sz)(EX:Bool)(YN:EX=ydb->aF cs=ydb)(hc:need<=cap):
  let w':=w.drew.alloc (.cells (us.toArray++Builtin.zeroCells z.cells (cap-need)) e)
  let p:Pl:=⟨w.heap.size,0,cap*sz,sz⟩
  ∀m',dl m m'->m' ct=Gp p->fp O m' S w' ct (.cells ydb EX ydc sz cs):=by
 intro w' p m' hm hi;have aR:gm S w w':=fun b hb=>by
  have:=hh.slt b hb
  exact RowKit.Below.heap_alloc w.drew _ b (by simpa using this)
 have kv:w'.heap[w.heap.size]? =Gp (.cells (us.toArray++Builtin.zeroCells z.cells (cap-need)) e (0,0)):=heap_alloc_new w.drew _;have fY:=iz _ _ hr;refine⟨p,_,e,hi,kv,rfl,?_,?_,by simp,?_,YN,?_,by simp⟩
 .show cs.length<=cap*sz
  rw[<-fY,hl];exact yO _ hc
 .show 0+cap*sz<=_
  rw[Array.size_append,tp,size_zeroCells,hz,hl,<-xR]
  grind
 .refine Oq kv cs us 0 (iN hm (fun _ h=>h) aR _ _ hr) (fun j u hj=>?_)
  grind
 .intro _ hS
  have:=hh.slt _ hS
  grind
def alc(hh:aT O m S w hp ct)(g:yan):gm S w (w.drew.alloc g):=fun b hb=>by
 have:=hh.slt b hb
 exact RowKit.Below.heap_alloc w.drew _ b (by simpa using this)
def T9(hh:aT O m S w hp ct){hp0:Hp}{g:yan}{p:Pl}{o:Obj}(QE:∀i q,ai hp0 i=Gp q->ai hp i=Gp q)(hb:p.b=w.heap.size)(ho:∀m',dl m m'->m' ct=Gp p->fp O m' S (w.drew.alloc g) ct o):
  aT O (fJ m ct p) S (w.drew.alloc g) ((ct,o)::hp0) (ct+1)/\b8 m S w hp (fJ m ct p) S (w.drew.alloc g) ((ct,o)::hp0) ct:=by
 have hn:m ct=Gq:=by
  cases h:m ct with
  | none=>rfl
  | some q=>have:=hh.lt _ _ h;lia
 have hle:=jX hn (p:=p);have aR:=alc hh g;have hold:∀b,b<w.heap.size->(w.drew.alloc g).heap[b]? =w.heap[b]? :=fun b hb=>RowKit.Below.heap_alloc w.drew _ b (by simpa using hb)
 have eO:(w.drew.alloc g).heap.size=w.heap.size+1:=by simp
 have cG:∀i q,ai ((ct,o)::hp0) i=Gp q->i≠ct->ai hp i=Gp q:=fun i q h hi=>by
  rw[fG,yr (fun e=>hi e.symm)] at h
  grind
 refine⟨⟨?_,?_,?_,?_,?_,?_,?_,?_,fun i q hq=>(by
  by_cases hc:i=ct
  .lia
  .have:=hh.aH _ _ (cG i q hq hc);lia)⟩,⟨rfl,rfl,rfl,by lia,?_,fun _ h=>h,fun b hb=>aR b hb,fun b hb=>.inl hb,?_,fun i q _ h=>hle i q h,fun b r hb=>⟨r,(hold b (xC.1 hb).1).trans hb⟩⟩⟩
 .intro i q pi hi bN;by_cases hc:i=ct
  .subst hc;rw[fG] at hi;simp only[xP,yc] at hi;subst hi;exact ho _ hle dL
  .rw [eE hc] at bN;exact zR hle (fun _ h=>h) aR (fun q' bP=>hold _ (hh.blt i q' bP)) (fun _ _ h=>h) (hh.obj i q pi (cG i q hi hc) bN)
 .intro i q bN;by_cases hc:i=ct
  .lia
  .rw [eE hc] at bN;have:=hh.lt i q bN;lia
 .intro i j oi oj pi pj hi hj bN ik e;by_cases ci:i=ct
  .by_cases cj:j=ct
   .grind
   .subst ci;rw[dL] at bN;rw[eE cj] at ik;injection bN with bN
    subst bN
    have:=hh.blt j pj ik
    lia
  .rw [eE ci] at bN;by_cases cj:j=ct
   .subst cj;rw[dL] at ik;injection ik with ik
    subst ik
    have:=hh.blt i pi bN
    lia
   .rw [eE cj] at ik;exact hh.inj i j oi oj pi pj (cG i oi hi ci) (cG j oj hj cj) bN ik e
 .intro b hb;have:=hh.slt b hb;lia
 .intro i q bN;by_cases hc:i=ct
  .subst hc;rw[dL] at bN;injection bN with bN
   subst bN
   lia
  .rw [eE hc] at bN;have:=hh.blt i q bN;lia
 .intro i q bN;have h0:=hh.gI;by_cases hc:i=ct
  .subst hc;rw[dL] at bN;injection bN with bN
   subst bN
   lia
  .rw [eE hc] at bN;exact hh.low i q bN
 .intro b hb;have h0:=hh.gI;exact (hold b (by lia)).trans (hh.mS b hb)
 .have h0:=hh.gI;lia
 .intro b hb _;exact hold b hb
 .rintro b ⟨i,q,pi,h1,h2,h3⟩;by_cases hc:i=ct
  .subst hc;rw[dL] at h2;injection h2 with h2
   subst h2;exact .inr (by lia)
  .rw [eE hc] at h2;exact .inl ⟨i,q,pi,cG i q h1 hc,h2,h3⟩
def ane(hh:aT O m S w hp ct){id:Nat}{o o':Obj}{p p':Pl}{w':yk}(hg:ai hp id=Gp o)(hm:m id=Gp p)(hn:¬S p.b)(hw:One w w' p.b)(hk:∀r:uV,w.heap[p.b]? =Gp (.loop r)->∃r':uV,w'.heap[p.b]? =Gp (.loop r'))(hb:p'.b=p.b)(ho:∀m',dl m m'->m' ct=Gp p'->fp O m' S w' ct o'):
  aT O (fJ m ct p') S w' ((ct,o')::cE hp id) (ct+1)/\b8 m S w hp (fJ m ct p') S w' ((ct,o')::cE hp id) ct:=by
 have jS:m ct=Gq:=by
  cases h:m ct with
  | none=>rfl
  | some q=>have:=hh.lt _ _ h;lia
 have hle:=jX jS (p:=p');have aR:gm S w w':=fun b hb=>hw.other b (fun e=>hn (e▸hb))
 have cG:∀i q,ai ((ct,o')::cE hp id) i=Gp q->i≠ct->ai hp i=Gp q/\i≠id:=fun i q h hi=>by
  rw[fG,yr (fun e=>hi e.symm),JZ] at h
  grind
 have ahn:∀i q pi,ai hp i=Gp q->i≠id->m i=Gp pi->pi.b≠p.b:=fun i q pi h hi bN e=>hi (hh.inj i id q o pi p h hg bN hm e)
 refine⟨⟨?_,?_,?_,?_,?_,?_,?_,?_,fun i q hq=>(by
  by_cases hc:i=ct
  .lia
  .have:=hh.aH _ _ (cG i q hq hc).1;lia)⟩,⟨hw.os,hw.tape,hw.output,by rw[hw.size];exact yp _,?_,fun _ h=>h,fun b hb=>aR b hb,fun b hb=>.inl hb,?_,fun i q _ h=>hle i q h,fun b r hb=>(by
  by_cases hc:b=p.b
  .grind
  .exact ⟨r,(hw.other b hc).trans hb⟩)⟩⟩
 .intro i q pi hi bN;by_cases hc:i=ct
  .subst hc;rw[fG] at hi;simp only[xP,yc] at hi;subst hi;exact ho _ hle dL
  .rw [eE hc] at bN;have⟨h1,h2⟩:=cG i q hi hc;exact zR hle (fun _ h=>h) aR (fun q' bP=>hw.other _ (ahn i q q' h1 h2 bP)) (fun _ _ h=>h) (hh.obj i q pi h1 bN)
 .intro i q bN;by_cases hc:i=ct
  .lia
  .rw [eE hc] at bN;have:=hh.lt i q bN;lia
 .intro i j oi oj pi pj hi hj bN ik e;by_cases ci:i=ct
  .by_cases cj:j=ct
   .grind
   .subst ci;rw[dL] at bN;rw[eE cj] at ik
    grind
  .rw [eE ci] at bN;have⟨h1,h2⟩:=cG i oi hi ci;by_cases cj:j=ct
   .subst cj;rw[dL] at ik;injection ik with ik
    subst ik;exact (ahn i oi pi h1 h2 bN (by rw[e,hb])).elim
   .rw [eE cj] at ik;exact hh.inj i j oi oj pi pj h1 (cG j oj hj cj).1 bN ik e
 .intro b hb;rw[hw.size];exact hh.slt b hb
 .intro i q bN;rw[hw.size];by_cases hc:i=ct
  .subst hc;rw[dL] at bN;injection bN with bN
   subst bN;rw[hb];exact hh.blt id p hm
  .rw [eE hc] at bN;exact hh.blt i q bN
 .intro i q bN;by_cases hc:i=ct
  .subst hc;rw[dL] at bN;injection bN with bN
   subst bN;rw[hb];exact hh.low id p hm
  .rw [eE hc] at bN;exact hh.low i q bN
 .intro b hb
  rw[hw.other b (fun e=>by have:=hh.low id p hm;lia)]
  exact hh.mS b hb
 .rw [hw.size];exact hh.gI
 .intro b _ bJ;exact hw.other b (fun e=>bJ (e▸KB hg hm))
 .rintro b ⟨i,q,pi,h1,h2,h3⟩;by_cases hc:i=ct
  .subst hc;rw[dL] at h2;injection h2 with h2
   subst h2;exact .inl ⟨id,o,p,hg,hm,by rw[<-h3,hb]⟩
  .rw [eE hc] at h2;exact .inl ⟨i,q,pi,(cG i q h1 hc).1,h2,h3⟩
def adX{e:yA}{s by':Nat}{z:AV}(hs:cl P e=Gp s)(hb:AG P e=Gp by')(hz:mQ P e=Gp z):
  ∃ti zv,P.info? e=Gp ti/\ti.size=s/\ti.bytes=by'/\ti.zero=Gp zv/\z=ff zv:=by
 unfold cl at hs;unfold AG at hb;unfold mQ at hz
 cases hi:P.info? e with
 | none=>simp[hi] at hs
 | some ti=>
  simp only[hi,yc] at hs hb hz
  cases dj:ti.zero with
  | none=>simp[dj] at hz
  | some zv=>
   grind
def Ka{o:yU}{v:AV}{u:yh}{w':yk}{m':Mp}{S':Nat->Prop}{an:Hp}{aI:Nat}(h1:(execOp a.eval o).run O.P w=.ok (.value u) w')(h2:aT O m' S' w' an aI)(h3:af O.ae m' S' w' v u)(h4:dl m m')(h5:b8 m S w hp m' S' w' an ct):Bx O m S w a hp ct o v an aI:=⟨_,u,w',m',S',h1,.inl rfl,h2,h3,h4,h5⟩
def ao7{o:yU}{b':yA}{t u e:yA}{sz by':Nat}{z:AV}{x y:xA}{v:AV}{an:Hp}{aI:Nat}(hH:fo O H)(ht:bX O m S w tm a.tmps)(hh:aT O m S w hp ct)(dX:(execOp a.eval o).run O.P w=((do pure (.value (<-Builtin.append_ #[t,u] b' #[a.eval x,a.eval y])):Sem yaI)).run O.P w)(AM:O.P.underlying t=Gp (.slice e))(hu:(∃e',O.P.underlying u=Gp (.slice e'))\/O.P.underlying u=Gp .string)(hs:cl O.P e=Gp sz)(hb:AG O.P e=Gp by')(hz:mQ O.P e=Gp z)(zp:(cellsOf z).length=sz)(hv:cu tm hp ct (.di sz by' (aK H x) (aK H y))=Gp (v,an,aI)):Bx O m S w a hp ct o v an aI:=by
 simp only[cu] at hv;obtain⟨ti,zv,zt,rfl,rfl,M3,rfl⟩:=adX hs hb hz;have aM:∀u' w',(Builtin.append_ #[t,u] b' #[a.eval x,a.eval y]).run O.P w=.ok u' w'->(execOp a.eval o).run O.P w=.ok (.value u') w':=fun u' w' h=>by
  rw[dX,Sem.run_bind,h];rfl
 have Ah:m ct=Gq:=by
  cases h:m ct with
  | none=>rfl
  | some q=>have:=hh.lt _ _ h;lia
 have FR:zv.cells.size=ti.size:=by
  have:=iz _ _ (Eg (ae:=O.ae) (m:=m) (S:=S) (w:=w) zv)
  rw[<-zp,<-this];simp
 cases oG:jD hp ti.size (ay tm (aK H y)) with
 | none=>simp[oG] at hv
 | some q=>
  have⟨n,new⟩:=q;simp only[oG] at hv;have⟨news,lU,dF⟩:=abJ hh (bY hH ht y) oG;have M4:=iz _ _ lU;have rx:=bY hH ht x
  cases hx:ay tm (aK H x) with
  | ah=>
   rw[hx] at hv rx;simp only at hv;simp only[af] at rx
   cases h0:yq n 0 with
   | true=>
    rw[h0] at hv;simp only[yu,yc,yo] at hv;obtain⟨rfl,rfl,rfl⟩:=hv;have AN:=yg h0;subst AN;have Wc:news=[]:=yK (by rw[dF.2.1];simp)
    subst Wc;have hf:=dF.2.2 w rfl 0 (yp _);have lR:=dF.1 w;refine⟨.value (.slice Gq 0 0),.slice Gq 0 0,w,m,S,?_,.inl rfl,hh,by simp[af],dl.refl,b8.refl⟩;rw[dX,rx];rcases hu with ⟨e',hu⟩ | hu<;>
     simp[Builtin.append_,run_underlying AM,run_underlying hu,vA,typeInfo,zt,lR,hf]
   | false=>
    rw[h0] at hv;simp only[yP] at hv
    cases hc:(yB n room&&(yB (n*ti.bytes) room&&yL 0 ti.size)) with
    | false=>rw[hc] at hv;cases hv
    | true=>
     rw[hc] at hv;simp only[yu,yc,yo] at hv;obtain⟨rfl,rfl,rfl⟩:=hv;simp only[ye] at hc;have c1:=yt hc.1;have c2:=yt hc.2.1;simp only[room] at c1 c2;have AN:0<n:=by
      rcases xq n with h | h
      .subst h;simp at h0
      .exact h
     have hr:=NU (P:=O.P) (ty:=b') (w:=w) AM hu zt M3 (s:=.slice Gq 0 0) rfl (adW (P:=O.P) (size:=ti.size)) dF (by lia) (by lia) (by simpa using c2);simp only[yd,List.nil_append] at hr;have ll:=grownCap_ge w n 0 e;have kv:=T8 (e:=e) (z:=zv) (cap:=grownCap w n 0 e) hh lU (need:=n) (sz:=ti.size) dF.2.1 FR (aF new) (fun h=>h) ll;have⟨k1,k2⟩:=T9 hh (hp0:=hp) (p:=⟨w.heap.size,0,grownCap w n 0 e*ti.size,ti.size⟩) (fun _ _ h=>h) rfl kv;exact Ka (aM _ _ (by rw[rx];exact hr)) k1 (by simp only[af];exact⟨_,_,dL,rfl,ll,by simp⟩) (jX Ah) k2
  | ap ex k cs=>
   rw[hx] at hv rx
   cases ex with
   | false=>simp at hv
   | true=>
    simp only at hv;have rx0:=rx;simp only[af] at rx;have rx1:∃ad mT,a.eval x=.slice (Gp ad) k k/\aA O.ae m S w cs mT/\mT.length=cs.length/\(∀(j:Nat) (u:yh),mT[j]? =Gp u->w.cell? (ad.add j)=Gp u)/\aF cs=ydb:=by
     rcases rx with ⟨bb,oo,c,ex,h1,h2,h3,h4,h5⟩ | ⟨ad,ex,rfl,rfl⟩
     .have gP:c=k:=h2 (by trivial);subst gP;have⟨mT,g1,g2,g3⟩:=zP cs bb oo h5;exact⟨_,mT,ex,g1,g2,fun j u hj=>by rw[oh];exact g3 j u hj,h4⟩
     .exact ⟨ad,[],ex,by simp[aA],rfl,fun j u hj=>by simp at hj,rfl⟩
    have⟨ad,mT,ex,g1,g2,g3,h4⟩:=rx1
    cases h0:yq n 0 with
    | true=>
     rw[h0] at hv;simp only[yu,yc,yo] at hv;obtain⟨rfl,rfl,rfl⟩:=hv;have AN:=yg h0;subst AN;have Wc:news=[]:=yK (by rw[dF.2.1];simp)
     subst Wc;have hf:=dF.2.2 w rfl 0 (yp _);have lR:=dF.1 w;refine⟨.value (a.eval x),a.eval x,w,m,S,?_,.inl rfl,hh,rx0,dl.refl,b8.refl⟩;rw[dX,ex];rcases hu with ⟨e',hu⟩ | hu<;>
      simp[Builtin.append_,run_underlying AM,run_underlying hu,vA,typeInfo,zt,lR,hf,storeCells]
    | false=>
     rw[h0] at hv;simp only[yP] at hv
     cases hc:(yB (k+n) room&&(yB ((k+n)*ti.bytes) room&&(yq cs.length (k*ti.size)&&yL 0 ti.size))) with
     | false=>rw[hc] at hv;cases hv
     | true=>
      rw[hc] at hv;simp only[yu,yc,yo] at hv;obtain⟨rfl,rfl,rfl⟩:=hv;simp only[ye] at hc;have c1:=yt hc.1;have c2:=yt hc.2.1;have c3:=yg hc.2.2.1;simp only[room] at c1 c2;have AN:0<n:=by
       rcases xq n with h | h
       .subst h;simp at h0
       .exact h
      have M5:Src O.P w ti.size k mT (.slice (Gp ad) k k):=Gz (by lia) g3;have hr:=NU (P:=O.P) (ty:=b') (w:=w) AM hu zt M3 rfl M5 dF (by lia) c1 c2;have ll:=grownCap_ge w (k+n) k e;have kv:=T8 (e:=e) (z:=zv) (cap:=grownCap w (k+n) k e) hh (mH g1 lU) (need:=k+n) (sz:=ti.size) (by rw[yJ,g2,c3,dF.2.1,xR]) FR (aF cs&&aF new)
       (fun h=>by simp only[ye] at h;exact Eh h.1 h.2) ll
      have⟨k1,k2⟩:=T9 hh (hp0:=hp) (p:=⟨w.heap.size,0,grownCap w (k+n) k e*ti.size,ti.size⟩) (fun _ _ h=>h) rfl kv;exact Ka (aM _ _ (by rw[ex];exact hr)) k1 (by simp only[af];exact⟨_,_,dL,rfl,ll,by simp⟩) (jX Ah) k2
  | aq id o0 k=>
   rw[hx] at hv rx;simp only at hv;simp only[af] at rx;have⟨p,c,hm,ex,h1,h2⟩:=rx
   split at hv
   case h_2=>cases hv
   rename_i pu Sp zz cs hg
   cases hc:(yq zz ti.size&&(yB (k+n) room&&(yB ((k+n)*ti.bytes) room&&(yB (o0+k*ti.size) cs.length&&(yL 0 ti.size&&cd new))))) with
   | false=>rw[hc] at hv;cases hv
   | true=>
    rw[hc] at hv;simp only[yu,yc,yo] at hv;obtain⟨rfl,rfl,rfl⟩:=hv;simp only[ye] at hc;have c0:=yg hc.1;have c1:=yt hc.2.1;have c2:=yt hc.2.2.1;have c3:=yt hc.2.2.2.1;have c4:=hc.2.2.2.2.2;simp only[room] at c1 c2;have⟨p',arr,t',g1,g2,g3,g4,g5,g6,g7,g8,g9,g10⟩:=hh.obj id _ _ hg hm;rw[hm] at g1;injection g1 with g1
    subst g1;subst c0;rw[g3] at h2;have Ik:bU O.ae m S w (slice o0 (k*ti.size) cs) p.b (p.o+o0):=Ba _ _ _ _ (sH _ _ _ _ g7);have⟨mT,f1,f2,f3⟩:=zP _ _ _ Ik;have QF:(slice o0 (k*ti.size) cs).length=k*ti.size:=by simp only[slice,yQ,we];lia
    have nR:(pu&&aF new)=ydb->aF (slice o0 (k*ti.size) cs++new)=ydb:=fun h=>by
     simp only[ye] at h;exact Eh (Cm _ (Bb _ _ (g8 h.1))) h.2
    by_cases Hl:k+n<=c
    .have ia:=Ou lU c4;have W3:p.o+o0+k*ti.size+news.length<=arr.size:=by
      rw[dF.2.1]
      have:(k+n)*ti.size<=c*ti.size:=yO _ Hl
      rw[xR] at this
      lia
     have hr:=alt (P:=O.P) (ty:=b') (w:=w) AM hu zt g2 dF ia Hl W3;have ho:∀m',dl m m'->m' ct=Gp ⟨p.b,p.o+o0,c*ti.size,ti.size⟩->
       fp O m' S (w.setRow p.b (arr.toList.take (p.o+o0+k*ti.size)++news++arr.toList.drop (p.o+o0+k*ti.size+news.length)).toArray) ct
        (.cells ydb (pu&&aF new) ydc ti.size (slice o0 (k*ti.size) cs++new)):=by
      intro m' hle hi;have aR:gm S w (w.setRow p.b (arr.toList.take (p.o+o0+k*ti.size)++news++arr.toList.drop (p.o+o0+k*ti.size+news.length)).toArray):=fun b hb=>setRow_other w p.b b _ (fun e=>g9 rfl (e▸hb))
      refine⟨_,_,t',hi,setRow_heap w p.b arr _ t' _ g2,rfl,?_,?_,by simp,?_,nR,fun _=>g9 rfl,by simp⟩
      .show (slice o0 (k*ti.size) cs++new).length<=c*ti.size
       rw[yJ,QF,<-M4,dF.2.1,<-xR];exact yO _ Hl
      .show p.o+o0+c*ti.size<=_
       rw[tp,yJ,yJ,yQ,we,vE]
       lia
      .refine GF _ (mT++news) _ (mH (iN hle (fun _ h=>h) aR _ _ f1) (iN hle (fun _ h=>h) aR _ _ lU)) (fun j u hj=>?_);show World.cell? _ ⟨p.b,p.o+o0+j,Gq⟩=Gp u
       simp only[World.cell?,setRow_heap w p.b arr _ t' _ g2,tL,yD,xz];rw[yaN];have e1:(arr.toList.take (p.o+o0+k*ti.size)).length=p.o+o0+k*ti.size:=by rw[yQ,vE];lia
       by_cases MX:j<k*ti.size
       .rw [wF (by lia)] at hj;rw[xD,wF (by lia),ta (by lia)]
        have:=f3 j u hj
        simpa[World.cell?,g2] using this
       .rw [wu (by lia)] at hj;have hjl:=(List.getElem?_eq_some_iff.1 hj).1;rw[xD,wu (by lia),e1,wF (by lia),show p.o+o0+j-(p.o+o0+k*ti.size)=j-mT.length by lia];exact hj
     have⟨k1,k2⟩:=ane (p':=⟨p.b,p.o+o0,c*ti.size,ti.size⟩) hh hg hm (g9 rfl) (TE w p.b _) (fun r hr=>by rw[g2] at hr;cases hr) rfl ho;exact Ka (aM _ _ (by rw[ex];exact hr)) k1 (by simp only[af];exact⟨_,c,dL,rfl,Hl,by simp⟩) (jX Ah) k2
    .have M5:Src O.P w ti.size k mT (.slice (Gp ⟨p.b,p.o+o0,Gq⟩) k c):=Gz (by lia) (fun j u hj=>by rw[oh];exact f3 j u hj)
     have hr:=NU (P:=O.P) (ty:=b') (w:=w) AM hu zt M3 rfl M5 dF (by lia) c1 c2;have ll:=grownCap_ge w (k+n) c e;have kv:=T8 (e:=e) (z:=zv) (cap:=grownCap w (k+n) c e) hh (mH f1 lU) (need:=k+n) (sz:=ti.size) (by rw[yJ,f2,QF,dF.2.1,xR]) FR (pu&&aF new) nR ll;have⟨k1,k2⟩:=T9 hh (hp0:=cE hp id) (p:=⟨w.heap.size,0,grownCap w (k+n) c e*ti.size,ti.size⟩) (fun i q h=>by
      rw[JZ] at h;by_cases hi:id=i
      .simp [hi] at h
      .simpa only [hi,xz] using h) rfl kv
     exact Ka (aM _ _ (by rw[ex];exact hr)) k1 (by simp only[af];exact⟨_,_,dL,rfl,ll,by simp⟩) (jX Ah) k2
  | _=>rw[hx] at hv;simp at hv
end
end
end
section
open Go
section
variable {O:bz}{H:Hint}{m:Mp}{S:Nat->Prop}{w:yk}{tm:Env}{a:Act}{hp:Hp}{ct:Nat}
def alJ{n:Nat}{cs:List AV}(h:aF cs=ydb):aF (cs.take n)=ydb:=Cm n h
def aal:∀(n:Nat) {cs:List AV},cd cs=ydb->cd (cs.take n)=ydb
 | 0,_,_=>by simp[cd]
 | n+1,[],_=>by simp[cd]
 | n+1,c::cs,h=>by
  simp only[wG,cd,ye] at h ⊢;exact⟨h.1,aal n h.2⟩
def ao8{o:yU}{b':yA}{t u e:yA}{sz:Nat}{x y:xA}{v:AV}{an:Hp}{aI:Nat}(hH:fo O H)(ht:bX O m S w tm a.tmps)(hh:aT O m S w hp ct)(dX:(execOp a.eval o).run O.P w=((do pure (.value (<-Builtin.copy_ #[t,u] b' #[a.eval x,a.eval y])):Sem yaI)).run O.P w)(AM:O.P.underlying t=Gp (.slice e))(hs:cl O.P e=Gp sz)(hv:cu tm hp ct (.rX sz (aK H x) (aK H y))=Gp (v,an,aI)):Bx O m S w a hp ct o v an aI:=by
 simp only[cu] at hv
 cases oG:nA hp sz (ay tm (aK H y)) with
 | none=>simp[oG] at hv
 | some q=>
  have⟨n,new⟩:=q;simp only[oG] at hv;have⟨news,lU,dF⟩:=aaZ hh (bY hH ht y) oG;have M4:=iz _ _ lU;have rx:=bY hH ht x;cases hx:ay tm (aK H x)<;>rw[hx] at hv rx<;>simp only[reduceCtorEq] at hv
  rename_i id o0 k;simp only[af] at rx;have⟨p,c,hm,ex,h1,h2⟩:=rx
  split at hv
  case h_2=>cases hv
  rename_i pu Sp zz cs hg
  cases hc:(yq zz sz&&(yB (o0+k*sz) cs.length&&cd new)) with
  | false=>rw[hc] at hv;cases hv
  | true=>
   rw[hc] at hv;simp only[yu,yc,yo] at hv;obtain⟨rfl,rfl,rfl⟩:=hv;simp only[ye] at hc;have c0:=yg hc.1;have c1:=yt hc.2.1;subst c0;have⟨p',arr,t',g1,g2,g3,g4,g5,g6,g7,g8,g9,g10⟩:=hh.obj id _ _ hg hm;rw[hm] at g1;injection g1 with g1
   subst g1;have aho:min n k*zz<=k*zz:=yO _ (Nat.min_le_right _ _);have aF1:min n k*zz<=n*zz:=yO _ (ybM _ _);have rt:=Gy (min n k*zz) lU;have AO:(news.take (min n k*zz)).length=min n k*zz:=by rw[yQ,dF.2.1];lia
   have aGb:(new.take (min n k*zz)).length=min n k*zz:=by rw[yQ,<-M4,dF.2.1];lia
   have ia:=Ou rt (aal _ hc.2.2);have hf:=dF.2.2 w rfl (min n k) (ybM _ _);have aR:=run_storeCells_at O.P p.b (p.o+o0) t' (news.take (min n k*zz)) 0 arr w g2 (by rw[AO];lia) ia
   simp only[yX] at aR;have qt:fp O m S (w.setRow p.b (arr.toList.take (p.o+o0)++news.take (min n k*zz)++arr.toList.drop (p.o+o0+(news.take (min n k*zz)).length)).toArray) id
     (.cells ydb (pu&&aF new) Sp zz (over o0 (new.take (min n k*zz)) cs)):=by
    refine⟨p,_,t',hm,setRow_heap w p.b arr _ t' _ g2,g3,by rw[OM (by lia)];exact g4,?_,fun h=>by rw[OM (by lia)];exact g6 h,?_,?_,fun _=>g9 rfl,by simp⟩
    .rw [tp,yJ,yJ,yQ,we,vE,AO];lia
    .exact acH g2 g7 rt (by lia) (by lia) dl.refl (fun _ h=>h) (fun b hb=>setRow_other w p.b b _ (fun e=>g9 rfl (e▸hb))) (setRow_heap w p.b arr _ t' _ g2)
    .intro h;simp only[ye] at h;exact aaY (g8 h.1) (alJ h.2)
   have⟨e1,e2⟩:=J9 hh hg hm (g9 rfl) (TE w p.b _) qt (fun r hr=>by rw[g2] at hr;cases hr)
   refine Ka (u:=goInt ((min n k:Nat):Int)) (m':=m) (S':=S) ?_ e1 (by simp[af,goInt]) dl.refl e2;rw[dX,ex];simp[Builtin.copy_,run_underlying AM,dF.1 w,pg hs,show Nat.min n k=min n k from rfl,hf,aR]
def ars{o:yU}{k:Nat}{v:AV}{an:Hp}{aI:Nat}(hH:fo O H)(ht:bX O m S w tm a.tmps)(hh:aT O m S w hp ct)(hv:cu tm hp ct (aP O.P H k o)=Gp (v,an,aI)):Bx O m S w a hp ct o v an aI:=by
 have jq:∀{r:AV×Hp×Nat},cu tm hp ct bad=Gp r->False:=fun h=>by simp[bad,cu] at h
 cases ho:o.op with
 | call c=>
  obtain⟨callee,args,ts⟩:=c;simp only[aP,ho] at hv
  split at hv
  .cases FO:H.mode k<;>simp[FO,cu] at hv
  .rename_i _ b
   split at hv
   .rename_i x y t u eN nh;obtain⟨al⟩:=args;obtain⟨tl⟩:=ts;simp only at eN nh;subst eN;subst nh;obtain⟨cs,dX⟩:=A8 (O:=O) (w:=w) (a:=a) ho;have EZ:(execOp a.eval o).run O.P w=((do pure (.value (<-Builtin.append_ #[t,u] o.type #[a.eval x,a.eval y])):Sem yaI)).run O.P w:=by
     rw[dX];simp[builtin]
    have key:∀{z:AV} {sz by':Nat} {e:yA},O.P.underlying t=Gp (.slice e)->((∃e',O.P.underlying u=Gp (.slice e'))\/O.P.underlying u=Gp .string)->cl O.P e=Gp sz->AG O.P e=Gp by'->mQ O.P e=Gp z->
      cu tm hp ct (bif yq (cellsOf z).length sz then .di sz by' (aK H x) (aK H y) else bad)=Gp (v,an,aI)->Bx O m S w a hp ct o v an aI:=by
     intro z sz by' e h1 h2 h3 h4 h5 h
     cases hb:yq (cellsOf z).length sz with
     | false=>rw[hb] at h;exact (jq h).elim
     | true=>
      rw[hb] at h;exact ao7 hH ht hh EZ h1 h2 h3 h4 h5 (yg hb) h
    split at hv
    .rename_i e e' h1 h2
     split at hv
     .rename_i sz by' z h3 h4 h5
      exact key h1 (.inl ⟨_,h2⟩) h3 h4 h5 hv
     .exact (jq hv).elim
    .rename_i e h1 h2
     split at hv
     .rename_i sz by' z h3 h4 h5
      exact key h1 (.inr h2) h3 h4 h5 hv
     .exact (jq hv).elim
    .exact (jq hv).elim
   .repeat' split at hv
    all_goals simp[cu,bad] at hv
   .rename_i x y t u eN nh;obtain⟨al⟩:=args;obtain⟨tl⟩:=ts;simp only at eN nh;subst eN;subst nh;obtain⟨cs,dX⟩:=A8 (O:=O) (w:=w) (a:=a) ho;have EZ:(execOp a.eval o).run O.P w=((do pure (.value (<-Builtin.copy_ #[t,u] o.type #[a.eval x,a.eval y])):Sem yaI)).run O.P w:=by
     rw[dX];simp[builtin]
    split at hv
    .rename_i e h1
     split at hv
     .rename_i sz h3;exact ao8 hH ht hh EZ h1 h3 hv
     .exact (jq hv).elim
    .exact (jq hv).elim
   .simp [cu] at hv
   .simp [cu] at hv
   .simp [cu] at hv
   .simp [cu] at hv
   .simp [cu] at hv
   .exact (jq hv).elim
  .exact (jq hv).elim
 | store t x y=>
  simp only[aP,ho] at hv
  split at hv
  .rename_i s hs;exact aro hH ht hh ho hs hv
  .exact (jq hv).elim
 | mapUpdate t x k y=>
  simp only[aP,ho] at hv
  split at hv
  .rename_i kt e hu
   split at hv
   .rename_i kk zo;exact acI hH ht hh (.inl ho) hu zo hv
   .exact (jq hv).elim
  .exact (jq hv).elim
 | insert t x k y=>
  simp only[aP,ho] at hv
  split at hv
  .rename_i kt e hu
   split at hv
   .rename_i kk zo;exact acI hH ht hh (.inr ho) hu zo hv
   .exact (jq hv).elim
  .exact (jq hv).elim
 | next x b=>
  cases b with
  | false=>simp only[aP,ho] at hv;exact (jq hv).elim
  | true=>exact ao6 hH ht hh ho (by simpa only[aP,ho] using hv)
 | binOp op t x y ty=>
  cases op<;>simp only[aP,ho,og,pE] at hv
  case eql=>
        repeat' split at hv
        all_goals first
         | (simp[cu,bad] at hv;done)
         | (cases hb:(O.P.stoodInHeld t||O.P.eqGuardType O.P.depth t)<;>rw[hb] at hv<;>simp[cu,bad] at hv)
  case neq=>
        repeat' split at hv
        all_goals first
         | (simp[cu,bad] at hv;done)
         | (cases hb:(O.P.stoodInHeld t||O.P.eqGuardType O.P.depth t)<;>rw[hb] at hv<;>simp[cu,bad] at hv)
  all_goals simp[cu] at hv
 | buildSlice t n parts=>
  simp only[aP,ho] at hv
  repeat' split at hv
  all_goals first
   | (simp[cu,bad] at hv;done)
   | (
     revert hv;generalize yB _ _=bb;intro hv;cases bb<;>simp[cu,bad] at hv
     try (split at hv<;>simp[cu,bad] at hv))
 | makeMap t r=>
  cases r<;>simp only[aP,ho] at hv
  .repeat' split at hv
   all_goals simp[cu,bad] at hv
  .exact (jq hv).elim
 | _=>
  simp only[aP,ho] at hv
  (repeat' split at hv)
  all_goals first
   | contradiction
   | (simp[cu,bad] at hv;done)
end
end
section
variable {v x:AV}{hp:Hp}{o:Op}
section
variable {hp H:Hp}{tm tm':Env}
def adY(hl:cN hp H){id:Nat}{rw pu ex:Bool}{sz:Nat}{cs:List AV}(h:ai hp id=Gp (.cells rw pu ex sz cs)):∃bZ,ai H id=Gp (.cells bZ pu ex sz cs):=by
 obtain⟨o',h1,bZ,rfl,_⟩:=hl id _ h
 grind
def adZ(hl:cN hp H){id:Nat}{rw:Bool}{ks vs:List AV}(h:ai hp id=Gp (.mp rw ks vs)):∃bZ,ai H id=Gp (.mp bZ ks vs):=by
 obtain⟨o',h1,bZ,rfl,_⟩:=hl id _ h
 grind
def U9(hl:cN hp H){sz:Nat}{ag:Bool}(h:gn hp sz ag x=Gp v):gn H sz ag x=Gp v:=by
 cases x<;>simp only[gn,reduceCtorEq] at h ⊢
 .rename_i id o
  cases hg:ai hp id with
  | none=>simp[hg] at h
  | some ob=>
   cases ob<;>simp only[hg,reduceCtorEq] at h
   obtain⟨r,h1⟩:=adY hl hg
   grind
 .exact h
def ao9(hl:cN hp H){k:AV}{v:Option AV}(h:CZ hp k x=Gp v):CZ H k x=Gp v:=by
 cases x<;>simp only[CZ,reduceCtorEq] at h ⊢
 .grind
 .rename_i id
  cases hg:ai hp id with
  | none=>simp[hg] at h
  | some ob=>
   cases ob<;>simp only[hg,reduceCtorEq] at h
   obtain⟨r,h1⟩:=adZ hl hg
   grind
 .exact h
def apa(hl:cN hp H){k:Nat}(h:jo hp k x=Gp v):jo H k x=Gp v:=by
 unfold jo at h ⊢
 split at h
 all_goals first
  | exact h
  | cases h
  | skip
 rename_i id
 cases hg:ai hp id with
 | none=>simp[hg] at h
 | some ob=>
  cases ob<;>simp only[hg,reduceCtorEq] at h
  obtain⟨r,h1⟩:=adZ hl hg
  grind
def apb(hl:cN hp H){k:Cut}{lo hi:Option X}(h:fC hp k x tm lo hi=Gp v):fC H k x tm lo hi=Gp v:=by
 unfold fC at h ⊢
 split at h
 all_goals first
  | exact h
  | cases h
  | skip
 rename_i sz id o n
 cases hg:ai hp id with
 | none=>simp[hg] at h
 | some ob=>
  cases ob<;>simp only[hg,reduceCtorEq] at h
  obtain⟨r,h1⟩:=adY hl hg
  grind
def anf(hl:cN hp H)(h:bj tm hp o=Gp v):bj tm H o=Gp v:=by
 cases o<;>simp only[bj,reduceCtorEq] at h ⊢<;>first
  | exact h
  | exact U9 hl h
  | exact apa hl h
  | exact apb hl h
  | skip
 rename_i kk zero ok m k
 cases hk:pD kk (ay tm k) with
 | false=>rw[hk] at h;cases h
 | true=>
  rw[hk] at h
  cases hr:CZ hp (ay tm k) (ay tm m) with
  | none=>simp[hr] at h
  | some r=>rw[ao9 hl hr];simpa only[hr] using h
def ang(hk:bl o=0)(hp H:Hp):bj tm hp o=bj tm H o:=by
 cases o with
 | rS k x lo hi=>
  cases k with
  | str=>simp only[bj,fC];cases ay tm x<;>rfl
  | sl sz=>simp[bl] at hk
  | ar n sz=>simp[bl] at hk
 | len k x=>
  match k,hk with
  | 0,_=>simp only[bj];unfold jo;split<;>simp_all
  | 1,_=>simp only[bj];unfold jo;split<;>simp_all
  | k+2,hk=>simp[bl] at hk
 | call md f xs=>cases md<;>simp[bl] at hk
 | _=>first
  | rfl
  | simp[bl] at hk
end
section
variable {tm tm':Env}
def dM{x:X}(h:∀t,t∈j8 x->ak tm' t=ak tm t):ay tm' x=ay tm x:=by
 cases x with
 | t i=>exact h i (by simp[j8])
 | c v=>rfl
def Ej:∀{xs:List X},(∀t,t∈Bp xs->ak tm' t=ak tm t)->dN tm' xs=dN tm xs
 | [],_=>rfl
 | x::r,h=>by
  simp only[dN]
  rw[dM (x:=x) (fun t ht=>h t (by simp[Bp,ht])),Ej (fun t ht=>h t (by simp[Bp,ht]))]
def Ov:∀{ps:List (Nat×Nat×X)} {z:List AV},(∀t,t∈Lo ps->ak tm' t=ak tm t)->fill tm' z ps=fill tm z ps
 | [],_,_=>rfl
 | (o,s,x)::r,z,h=>by
  simp only[fill]
  rw[dM (x:=x) (fun t ht=>h t (by simp[Lo,ht]))]
  rw[Ov (ps:=r) (fun t ht=>h t (by simp[Lo,ht]))]
def aa0{d:Nat}{x:Option X}(h:∀t,t∈Ln x->ak tm' t=ak tm t):cU tm' d x=cU tm d x:=by
 cases x with
 | none=>rfl
 | some x=>simp only[cU];rw[dM h]
def amf{k:Cut}{lo hi:Option X}(h1:∀t,t∈Ln lo->ak tm' t=ak tm t)(h2:∀t,t∈Ln hi->ak tm' t=ak tm t):
  fC hp k x tm' lo hi=fC hp k x tm lo hi:=by
 unfold fC;simp only[aa0 h1,aa0 h2]
def alK(h:∀t,t∈kT o->ak tm' t=ak tm t):bj tm' hp o=bj tm hp o:=by
 cases o<;>simp only[kT,xF] at h<;>simp only[bj]
 case pick c a b=>rw[dM (x:=c) fun t ht=>h t (.inl ht),dM (x:=a) fun t ht=>h t (.inr (.inl ht)),dM (x:=b) fun t ht=>h t (.inr (.inr ht))]
 case ER z ps=>rw[Ov h]
 case p9 n s z ps=>rw[Ov h]
 case H8 f a b=>rw[Ej (xs:=a) fun t ht=>h t (.inl ht),Ej (xs:=b) fun t ht=>h t (.inr ht)]
 case rS k x lo hi=>rw[dM (x:=x) fun t ht=>h t (.inl ht),amf (fun t ht=>h t (.inr (.inl ht))) (fun t ht=>h t (.inr (.inr ht)))]
 case mn xs=>rw[Ej h]
 case mx xs=>rw[Ej h]
 case bin op x y=>rw[dM (x:=x) fun t ht=>h t (.inl ht),dM (x:=y) fun t ht=>h t (.inr ht)]
 case MR x y=>rw[dM (x:=x) fun t ht=>h t (.inl ht),dM (x:=y) fun t ht=>h t (.inr ht)]
 case eq n k x y=>rw[dM (x:=x) fun t ht=>h t (.inl ht),dM (x:=y) fun t ht=>h t (.inr ht)]
 case bk s x y=>rw[dM (x:=x) fun t ht=>h t (.inl ht),dM (x:=y) fun t ht=>h t (.inr ht)]
 case H9 l s x y=>rw[dM (x:=x) fun t ht=>h t (.inl ht),dM (x:=y) fun t ht=>h t (.inr ht)]
 case Ia x y=>rw[dM (x:=x) fun t ht=>h t (.inl ht),dM (x:=y) fun t ht=>h t (.inr ht)]
 case Ib l s g x y=>rw[dM (x:=x) fun t ht=>h t (.inl ht),dM (x:=y) fun t ht=>h t (.inr ht)]
 case Sm kk z ok x y=>rw[dM (x:=x) fun t ht=>h t (.inl ht),dM (x:=y) fun t ht=>h t (.inr ht)]
 all_goals first
  | rfl
  | (rename_i x;rw[dM (x:=x) h])
def JN{an:Hp}{ct:Nat}(h:∀t,t∈kT o->ak tm' t=ak tm t):cI tm' an ct o=cI tm hp ct o:=by
 cases o<;>simp only[kT,xF] at h<;>simp only[cI]
 case box s x=>rw[dM (x:=x) h]
 case kj n s z ps=>rw[Ov h]
 case p8 s b z x y=>rw[dM (x:=x) fun t ht=>h t (.inl ht),dM (x:=y) fun t ht=>h t (.inr ht)]
 case rU x=>rw[dM (x:=x) h]
def Ei{ct:Nat}(h:∀t,t∈kT o->ak tm' t=ak tm t):cu tm' hp ct o=cu tm hp ct o:=by
 cases o<;>simp only[kT,xF] at h<;>simp only[cu]
 case st s x y=>rw[dM (x:=x) fun t ht=>h t (.inl ht),dM (x:=y) fun t ht=>h t (.inr ht)]
 case rT kk c a b=>rw[dM (x:=c) fun t ht=>h t (.inl ht),dM (x:=a) fun t ht=>h t (.inr (.inl ht)),dM (x:=b) fun t ht=>h t (.inr (.inr ht))]
 case rV x=>rw[dM (x:=x) h]
 case di s b x y=>rw[dM (x:=x) fun t ht=>h t (.inl ht),dM (x:=y) fun t ht=>h t (.inr ht)]
 case rX s x y=>rw[dM (x:=x) fun t ht=>h t (.inl ht),dM (x:=y) fun t ht=>h t (.inr ht)]
end
end
section
open Go
section
variable {r:AV}{bs:List Nat}{lo:Nat}{ae:Nat->Nat}{u:yh}
structure Calm(w w':yk):Prop where
 os:w'.os=w.os
 tape:w'.tape=w.tape
 output:w'.output=w.output
 size:w.heap.size<=w'.heap.size
 same:∀b,b<w.heap.size->w'.heap[b]? =w.heap[b]?
def Calm.refl{w:yk}:Calm w w:=⟨rfl,rfl,rfl,yp _,fun _ _=>rfl⟩
def C1(O:bz)(w:yk):Prop:=(∀b,b<O.w0.heap.size->w.heap[b]? =O.w0.heap[b]?)/\O.w0.heap.size<=w.heap.size
def fh:Mp:=fun _=>Gq
def jJ(ae:Nat->Nat)(S:Nat->Prop)(w:yk)(lo:Nat):AV->yh->List Nat->Prop
 | .cF ex sz n cs,u,bs=>∃b o c arr t,bs=[b]/\u=.slice (Gp ⟨b,o,Gq⟩) n c/\n<=c/\(ex=ydb->c=n)/\lo<=b/\¬S b/\w.heap[b]? =Gp (.cells arr t (0,0))/\cs.length=n*sz/\
   o+c*sz<=arr.size/\bU ae fh S w cs b o/\aF cs=ydb
 | r,u,bs=>bs=[]/\af ae fh S w r u/\aW r=ydb
def mv(ae:Nat->Nat)(S:Nat->Prop)(w:yk)(lo:Nat):List AV->List yh->List Nat->Prop
 | [],us,bs=>us=[]/\bs=[]
 | v::r,us,bs=>∃u t b1 b2,us=u::t/\bs=b1++b2/\jJ ae S w lo v u b1/\mv ae S w lo r t b2
def pP(ae:Nat->Nat)(S:Nat->Prop)(w:yk)(lo:Nat)(r:AV)(u:yh):Prop:=
 match r with
 | .av vs=>∃(us:Array yh) (bs:List Nat),u=.tuple us/\mv ae S w lo vs us.toList bs/\bs.Nodup
 | r=>∃bs,jJ ae S w lo r u bs
def CF(P:xx)(f:tS)(args:Array yh)(w:yk)(R:yaU->yk->Prop):Prop:=
 ((callFunc f args).run P w=.ok (.enter f args) w/\CallsIn Fence.wide 0 P f args w R)\/∃u w',(callFunc f args).run P w=.ok (.value u) w'/\R (.returned u) w'
def acJ(O:bz)(w:yk)(S:Nat->Prop)(r:AV)(e:yaU)(w':yk):Prop:=
 ∃u S',e=.returned u/\Calm w w'/\(∀b,S b->S' b)/\(∀b,S' b->S b\/w.heap.size<=b)/\(∀b,S' b->b<w'.heap.size)/\pP O.ae S' w' w.heap.size r u
def eG(O:bz)(n:Nat)(au:List AV)(r:AV):Prop:=
 ∀(w:yk) (S:Nat->Prop) (args:Array yh),C1 O w->(∀b,S b->b<w.heap.size)->aA O.ae fh S w au args.toList->aF au=ydb->
  CF O.P (O.ae n) args w (acJ O w S r)
def Bh(O:bz)(m:Mp)(S:Nat->Prop)(w:yk)(hp:Hp)(ct:Nat)(v:AV)(an:Hp)(aI:Nat)(e:yaU)(w':yk):Prop:=
 ∃u m' S',e=.returned u/\aT O m' S' w' an aI/\ct<=aI/\af O.ae m' S' w' v u/\b8 m S w hp m' S' w' an ct
def C2(O:bz)(n:Nat)(hp:Hp)(ct:Nat)(au:List AV)(v:AV)(an:Hp)(aI:Nat):Prop:=
 ∀(m:Mp) (S:Nat->Prop) (w:yk) (args:Array yh),aT O m S w hp ct->aA O.ae m S w au args.toList->CF O.P (O.ae n) args w (Bh O m S w hp ct v an aI)
section
variable {ae:Nat->Nat}{m m':Mp}{S S':Nat->Prop}{w w':yk}
mutual
def sL(hS:∀b,S b->S' b)(hw:gm S w w'):∀(v:AV) (u:yh),aW v=ydb->af ae m S w v u->af ae m' S' w' v u
 | .int _ _,_,_,h | .bool _,_,_,h | .aw _ _,_,_,h | .dh _ _ _,_,_,h | .str _,_,_,h | .kN,_,_,h | .ah,_,_,h | .iE,_,_,h | .jF,_,_,h | .undef,_,_,h=>by
  simpa only[af] using h
 | .ptr id o,u,hp,h=>by simp[aW] at hp
 | .bC cs,u,hp,h=>by
  simp only[af] at h ⊢;obtain⟨b,o,h1,h2,h3,h4⟩:=h;refine⟨b,o,h1,h2.imp id (hS b),h3,?_⟩;rcases h2 with rfl | h2
  .simp only [bU]
  .exact TF hS hw cs b o h3 h2 h4
 | .ap ex n cs,u,hp,h=>by
  simp only[af] at h ⊢;rcases h with ⟨b,o,c,h1,h2,h3,h4,h5,h6⟩ | h
  .refine .inl ⟨b,o,c,h1,h2,h3,h4.imp id (hS b),h5,?_⟩;rcases h4 with rfl | h4
   .simp only [bU]
   .exact TF hS hw cs b o h5 h4 h6
  .exact .inr h
 | .cF _ _ _ _,u,hp,h=>by simp[aW] at hp
 | .aq id o n,u,hp,h=>by simp[aW] at hp
 | .fn (.f g) first cap,u,hp,h=>by
  simp only[af] at h ⊢;simp only[aW,ye] at hp;obtain⟨fi,ca,h1,h2,h3⟩:=h;exact⟨fi,ca,h1,Bf hS hw first _ hp.1 h2,Bf hS hw cap _ hp.2 h3⟩
 | .fn (.y l) _ _,u,hp,h=>by simp[aW] at hp
 | .map id,u,hp,h=>by simp[aW] at hp
 | .jG ks vs,u,hp,h=>by
  simp only[af] at h ⊢;obtain⟨b,es,clock,h1,h2,h3,h4,h5,h6,h7⟩:=h;exact⟨b,es,clock,h1,hS b h2,h3,h4,(hw b h2).trans h5,Bf hS hw ks _ h3 h6,Bf hS hw vs _ h4 h7⟩
 | .it id,u,hp,h=>by simp[aW] at hp
 | .agg cs,u,hp,h=>by
  simp only[af] at h ⊢;simp only[aW] at hp;obtain⟨xs,h1,h2⟩:=h;exact⟨xs,h1,Bf hS hw cs _ hp h2⟩
 | .av cs,u,hp,h=>by
  simp only[af] at h ⊢;simp only[aW] at hp;obtain⟨xs,h1,h2⟩:=h;exact⟨xs,h1,Bf hS hw cs _ hp h2⟩
def Bf(hS:∀b,S b->S' b)(hw:gm S w w'):∀(vs:List AV) (us:List yh),aF vs=ydb->aA ae m S w vs us->aA ae m' S' w' vs us
 | [],us,_,h=>by simpa only[aA] using h
 | v::r,us,hp,h=>by
  simp only[aA] at h ⊢;simp only[aF,ye] at hp;have⟨u,t,h1,h2,h3⟩:=h;exact⟨u,t,h1,sL hS hw v u hp.1 h2,Bf hS hw r t hp.2 h3⟩
def TF(hS:∀b,S b->S' b)(hw:gm S w w'):∀(cs:List AV) (b o:Nat),aF cs=ydb->S b->bU ae m S w cs b o->bU ae m' S' w' cs b o
 | [],_,_,_,_,_=>by simp only[bU]
 | c::cs,b,o,hp,hb,h=>by
  simp only[bU] at h ⊢;simp only[aF,ye] at hp;have⟨⟨u,h1,h2⟩,h3⟩:=h;exact⟨⟨u,(NT (hw b hb)).trans h1,sL hS hw c u hp.1 h2⟩,TF hS hw cs b (o+1) hp.2 hb h3⟩
end
def Cn(hS:∀b,S b->S' b)(hw:gm S w w'):∀(cs:List AV) (b o:Nat),aF cs=ydb->w'.heap[b]? =w.heap[b]? ->bU ae m S w cs b o->bU ae m' S' w' cs b o
 | [],_,_,_,_,_=>by simp only[bU]
 | c::cs,b,o,hp,hb,h=>by
  simp only[aF,ye] at hp;have⟨⟨u,h1,h2⟩,h3⟩:=h;exact⟨⟨u,(NT hb).trans h1,sL hS hw c u hp.1 h2⟩,Cn hS hw cs b (o+1) hp.2 hb h3⟩
end
section
variable {O:bz}{m:Mp}{S S':Nat->Prop}{w w':yk}{hp:Hp}{ct:Nat}
def anh(hh:aT O m S w hp ct)(hw:Calm w w'):gm S w w':=fun b hb=>hw.same b (hh.slt b hb)
def Ct(hh:aT O m S w hp ct)(hw:Calm w w')(hS:∀b,S b->S' b)(hn:∀b,S' b->S b\/w.heap.size<=b)(hl:∀b,S' b->b<w'.heap.size):aT O m S' w' hp ct where
 obj id o p ho hm:=zR (fun _ _ h=>h) hS (anh hh hw) (fun q hq=>hw.same _ (hh.blt id q hq)) (fun q hq hs=>(hn _ hs).resolve_right (by have:=hh.blt id q hq;lia)) (hh.obj id o p ho hm)
 lt:=hh.lt
 inj:=hh.inj
 slt:=hl
 blt id p h:=yG (hh.blt id p h) hw.size
 low:=hh.low
 mS b hb:=(hw.same b (yG hb hh.gI)).trans (hh.mS b hb)
 gI:=xo hh.gI hw.size
 aH:=hh.aH
def Bj{base:Nat}(hh:aT O m S w hp ct)(hw:Calm w w')(hS:∀b,S b->S' b)(hn:∀b,S' b->S b\/w.heap.size<=b):b8 m S w hp m S' w' hp base where
 os:=hw.os
 tape:=hw.tape
 output:=hw.output
 size:=hw.size
 same b hb _:=hw.same b hb
 sub:=hS
 still b hb:=hw.same b (hh.slt b hb)
 new b hb:=(hn b hb).imp id .inr
 own b hb:=.inl hb
 old _ _ _ h:=h
 loops b r hb:=⟨r,(hw.same b (xC.1 hb).1).trans hb⟩
def apc{i:Nat}(hh:aT O m S w hp ct)(hi:m i=Gq)(Ig:i<ct){p:Pl}(hb:p.b<w.heap.size)(bh:O.w0.heap.size<=p.b)(Ih:¬S p.b)(qu:∀j q,m j=Gp q->q.b≠p.b)(hf:∀o,ai hp i=Gp o->(fp O (fJ m i p) S w i o/\¬jC o)\/(jC o/\fp O (fJ m i p) (fun b=>S b\/b=p.b) w i o)):
  ∃S',aT O (fJ m i p) S' w hp ct/\(∀b,S b->S' b)/\∀b,S' b->S b\/b=p.b:=by
 have aR:gm S w w:=fun _ _=>rfl
 have gen:∀S':Nat->Prop,(∀b,S b->S' b)->(∀b,S' b->S b\/b=p.b)->(∀o,ai hp i=Gp o->fp O (fJ m i p) S' w i o)->aT O (fJ m i p) S' w hp ct:=by
  intro S' h1 h2 h3;refine⟨?_,?_,?_,?_,?_,?_,hh.mS,hh.gI,hh.aH⟩
  .intro id o q ho hm;by_cases hc:id=i
   .grind
   .rw [eE hc] at hm;refine zR (jX hi) h1 aR (fun _ _=>rfl) (fun q' bP hs=>?_) (hh.obj id o q ho hm)
    grind
  .intro id q hm;by_cases hc:id=i
   .grind
   .rw [eE hc] at hm;exact hh.lt id q hm
  .intro a b oa ob pa pb ha bJ FQ BH e;by_cases ca:a=i
   .by_cases cb:b=i
    .grind
    .subst ca;rw[dL] at FQ;rw[eE cb] at BH
     grind
   .rw [eE ca] at FQ;by_cases cb:b=i
    .subst cb;rw[dL] at BH
     grind
    .rw [eE cb] at BH;exact hh.inj a b oa ob pa pb ha bJ FQ BH e
  .intro b hs;rcases h2 b hs with h | h
   .exact hh.slt b h
   .grind
  .intro id q hm;by_cases hc:id=i
   .subst hc;rw[dL] at hm
    grind
   .rw [eE hc] at hm;exact hh.blt id q hm
  .intro id q hm;by_cases hc:id=i
   .subst hc;rw[dL] at hm
    grind
   .rw [eE hc] at hm;exact hh.low id q hm
 cases ho:ai hp i with
 | none=>exact⟨S,gen S (fun _ h=>h) (fun _ h=>.inl h) (fun o h=>by rw[ho] at h;cases h),fun _ h=>h,fun _ h=>.inl h⟩
 | some o=>
  rcases hf o ho with ⟨h1,_⟩ | ⟨_,h1⟩
  .exact ⟨S,gen S (fun _ h=>h) (fun _ h=>.inl h) (fun o' h=>by rw[ho] at h;injection h with h;subst h;exact h1),fun _ h=>h,fun _ h=>.inl h⟩
  .exact ⟨_,gen (fun b=>S b\/b=p.b) (fun _ h=>.inl h) (fun _ h=>h) (fun o' h=>by rw[ho] at h;injection h with h;subst h;exact h1),fun _ h=>.inl h,fun _ h=>h⟩
def abK(h:jJ ae S w lo r u bs)(m:Mp)(hS:∀b,S b->S' b)(hbs:∀b,b∈bs->S' b):af ae m S' w (bI r) u:=by
 have aR:gm S w w:=fun _ _=>rfl
 cases r with
 | cF ex sz n cs=>
  obtain⟨b,o,c,arr,t,rfl,rfl,h1,h2,h3,h4,h5,h6,h7,h8,h9⟩:=h;exact .inl ⟨b,o,c,rfl,h1,h2,.inr (hbs b (by simp)),h9,Cn hS aR cs b o h9 rfl h8⟩
 | _=>simp only[jJ] at h;exact sL hS aR _ _ h.2.2 h.2.1
def abL{ae:Nat->Nat}{lo:Nat}(m:Mp)(hS:∀b,S b->S' b):∀{vs:List AV} {us:List yh} {bs:List Nat},mv ae S w lo vs us bs->(∀b,b∈bs->S' b)->aA ae m S' w (ES vs) us
 | [],us,bs,h,_=>by simp only[mv] at h;exact h.1
 | v::r,us,bs,h,hb=>by
  obtain⟨u,t,b1,b2,rfl,rfl,h1,h2⟩:=h;exact⟨u,t,rfl,abK h1 m hS (fun b bJ=>hb b (by simp[bJ])),abL m hS h2 (fun b bJ=>hb b (by simp[bJ]))⟩
def Va(h:jJ ae S w lo r u bs):∀b,b∈bs->lo<=b/\b<w.heap.size:=by
 intro b hb
 cases r with
 | cF ex sz n cs=>
  simp only[jJ] at h
  grind
 | _=>simp only[jJ] at h;rw[h.1] at hb;cases hb
def Vb{ae:Nat->Nat}{lo:Nat}:∀{vs:List AV} {us:List yh} {bs:List Nat},mv ae S w lo vs us bs->∀b,b∈bs->lo<=b/\b<w.heap.size
 | [],us,bs,h,b,hb=>by simp only[mv] at h;rw[h.2] at hb;cases hb
 | v::r,us,bs,h,b,hb=>by
  obtain⟨u,t,b1,b2,rfl,rfl,h1,h2⟩:=h;rcases xF.1 hb with hb | hb
  .exact Va h1 b hb
  .exact Vb h2 b hb
def abM(h:pP ae S w lo r u)(m:Mp):∃S',(∀b,S b->S' b)/\(∀b,S' b->S b\/(lo<=b/\b<w.heap.size))/\af ae m S' w (shut r) u:=by
 have one:∀(r:AV) (bs:List Nat),shut r=bI r->jJ ae S w lo r u bs->∃S',(∀b,S b->S' b)/\(∀b,S' b->S b\/(lo<=b/\b<w.heap.size))/\af ae m S' w (shut r) u:=by
  intro r bs hs h;refine⟨fun b=>S b\/b∈bs,fun _ h=>.inl h,fun b hb=>hb.imp (fun x=>x) (fun hb=>Va h b hb),?_⟩;rw[hs];exact abK h m (fun _ h=>.inl h) (fun _ h=>.inr h)
 cases r with
 | av vs=>
  obtain⟨us,bs,rfl,h1,h2⟩:=h;refine⟨fun b=>S b\/b∈bs,fun _ h=>.inl h,fun b hb=>hb.imp (fun x=>x) (fun hb=>Vb h1 b hb),?_⟩;exact⟨us,rfl,abL m (fun _ h=>.inl h) h1 (fun _ h=>.inr h)⟩
 | _=>
  have⟨bs,h⟩:=h;exact one _ bs rfl h
end
end
end
section
open Go
section
variable {r:AV}{hp:Hp}{ct:Nat}
section
variable {O:bz}{m:Mp}{S:Nat->Prop}{w:yk}{H:Hp}{cH:Nat}
def Pb:ct<=(fI hp ct r).2.2:=by
 cases r<;>simp only[fI]<;>lia
def Pc:∀{vs:List AV} {hp:Hp} {ct:Nat},ct<=(lf hp ct vs).2.2
 | [],hp,ct=>by simp[lf]
 | v::r,hp,ct=>by
  simp only[lf];have h1:=Pb (hp:=hp) (ct:=ct) (r:=v);have h2:=Pc (vs:=r) (hp:=(fI hp ct v).2.1) (ct:=(fI hp ct v).2.2)
  lia
def Vc(hf:∀id o,ai hp id=Gp o->id<ct):∀id o,ai hp id=Gp o->ai (fI hp ct r).2.1 id=Gp o:=by
 intro id o h;cases r<;>simp only[fI]<;>try exact h
 rw[fG,yr (by have:=hf id o h;lia)]
 exact h
def ad0{lo:Nat}{u:yh}{bs:List Nat}(hh:aT O m S w H cH)(hl:cN (fI hp ct r).2.1 H)(ij:(fI hp ct r).2.2<=cH)(hn:∀id,ct<=id->id<(fI hp ct r).2.2->m id=Gq)(hr:jJ O.ae S w lo r u bs)(bh:O.w0.heap.size<=lo)(qu:∀j q,m j=Gp q->q.b∉bs):
  ∃m' S',aT O m' S' w H cH/\dl m m'/\(∀id p,m' id=Gp p->m id=Gp p\/(ct<=id/\id<(fI hp ct r).2.2/\p.b∈bs))/\af O.ae m' S' w (fI hp ct r).1 u/\(∀b,S b->S' b)/\(∀b,S' b->S b\/b∈bs):=by
 have aR:gm S w w:=fun _ _=>rfl
 cases r with
 | cF ex sz n cs=>
  simp only[fI] at hl ij hn;obtain⟨b,o,c,arr,t,rfl,rfl,h1,h2,h3,h4,h5,h6,h7,h8,h9⟩:=hr;have bN:m ct=Gq:=hn ct (yp _) (Nat.lt_succ_self _);have azU:b<w.heap.size:=(xC.1 h5).1;have qt:fp O (fJ m ct ⟨b,o,c*sz,sz⟩) S w ct (.cells ydb ydb ex sz cs):=by
   refine⟨_,arr,t,dL,h5,rfl,?_,h7,fun hx=>?_,Cn (fun _ h=>h) aR cs b o h9 rfl h8,fun _=>h9,fun _=>h4,by simp⟩
   .show cs.length<=c*sz
    rw[h6];exact yO _ h1
   .grind
  have⟨S',k1,k2,k3⟩:=apc (p:=⟨b,o,c*sz,sz⟩) hh bN (by lia) azU (by show _<=b;lia) h4 (fun j q hq e=>qu j q hq (by rw[e];simp)) (fun o' jQ=>by
   have⟨YJ,g1,g2⟩:=hl ct (.cells ydb ydb ex sz cs) (by rw[fG];simp)
   rw[jQ] at g1;injection g1 with g1
   subst g1
   exact Tt (p:=⟨b,o,c*sz,sz⟩) g2 dL qt (by simp[jC]))
  refine⟨_,S',k1,jX bN,fun id p an=>?_,?_,k2,fun b' bJ=>(k3 b' bJ).imp (fun h=>h) (fun h=>by rw[h];simp)⟩
  .by_cases hc:id=ct
   .subst hc;rw[dL] at an;injection an with an
    subst an;exact .inr ⟨yp _,by simp[fI],by simp⟩
   .rw [eE hc] at an;exact .inl an
  .simp only [fI,af];exact⟨_,c,dL,by simp,h1,by simp⟩
 | _=>
  exact⟨m,S,hh,dl.refl,fun _ _ h=>.inl h,sL (fun _ h=>h) aR _ _ hr.2.2 hr.2.1,fun _ h=>h,fun _ h=>.inl h⟩
def Kl(hf:∀id o,ai hp id=Gp o->id<ct):∀id o,ai (fI hp ct r).2.1 id=Gp o->id<(fI hp ct r).2.2:=by
 intro id o h;cases r<;>simp only[fI] at h ⊢<;>try exact hf id o h
 rw[fG] at h
 grind
def Pd:∀{vs:List AV} {hp:Hp} {ct:Nat},(∀id o,ai hp id=Gp o->id<ct)->∀id o,ai hp id=Gp o->ai (lf hp ct vs).2.1 id=Gp o
 | [],hp,ct,_,id,o,h=>by simpa[lf] using h
 | v::r,hp,ct,hf,id,o,h=>by
  exact Pd (Kl hf) id o (Vc hf id o h)
def ad1{lo:Nat}(bh:O.w0.heap.size<=lo):∀{vs:List AV} {us:List yh} {bs:List Nat} {hp:Hp} {ct:Nat} {m:Mp} {S:Nat->Prop},aT O m S w H cH->cN (lf hp ct vs).2.1 H->(lf hp ct vs).2.2<=cH->
  (∀id o,ai hp id=Gp o->id<ct)->(∀id,ct<=id->id<(lf hp ct vs).2.2->m id=Gq)->
  mv O.ae S w lo vs us bs->bs.Nodup->(∀j q,m j=Gp q->q.b∉bs)->
  ∃m' S',aT O m' S' w H cH/\dl m m'/\(∀id p,m' id=Gp p->m id=Gp p\/(ct<=id/\id<(lf hp ct vs).2.2/\p.b∈bs))/\aA O.ae m' S' w (lf hp ct vs).1 us/\(∀b,S b->S' b)/\(∀b,S' b->S b\/b∈bs)
 | [],us,bs,hp,ct,m,S,hh,hl,ij,hf,hn,hr,mz,qu=>by
  simp only[mv] at hr;exact⟨m,S,hh,dl.refl,fun _ _ h=>.inl h,by simp only[lf,aA];exact hr.1,fun _ h=>h,fun _ h=>.inl h⟩
 | v::r,us,bs,hp,ct,m,S,hh,hl,ij,hf,hn,hr,mz,qu=>by
  simp only[mv] at hr;obtain⟨u,t,b1,b2,rfl,rfl,h1,h2⟩:=hr;simp only[lf] at hl ij hn ⊢;have eJ:=Pb (hp:=hp) (ct:=ct) (r:=v);have AP:=Pc (vs:=r) (hp:=(fI hp ct v).2.1) (ct:=(fI hp ct v).2.2);rw[List.nodup_append] at mz;have⟨m1,S1,k1,k2,k3,k4,k5,k6⟩:=ad0 (hp:=hp) (ct:=ct) (lo:=lo) hh ((fun id o h=>hl id o (Pd (Kl hf) id o h))) (by lia) (fun id g1 g2=>hn id g1 (by lia)) h1 bh
   (fun j q hq hb=>qu j q hq (by simp[hb]))
  have h2':mv O.ae S1 w lo r t b2:=by
   clear k4;have W4:∀b,S1 b->S b\/b∈b1:=k6;have hd:∀b,b∈b2->b∉b1:=fun b hb ej=>mz.2.2 b ej b hb rfl
   have one:∀{v:AV} {u:yh} {bb:List Nat},(∀b,b∈bb->b∉b1)->jJ O.ae S w lo v u bb->jJ O.ae S1 w lo v u bb:=by
    intro v u bb AK h
    cases v with
    | cF ex sz n cs=>
     simp only[jJ] at h ⊢;obtain⟨b,o,c,arr,tt,rfl,rfl,g1,g2,g3,g4,g5,g6,g7,g8,g9⟩:=h;exact⟨b,o,c,arr,tt,rfl,rfl,g1,g2,g3,fun hs=>(W4 b hs).elim g4 (AK b (by simp)),g5,g6,g7,Cn k5 (fun _ _=>rfl) cs b o g9 rfl g8,g9⟩
    | _=>simp only[jJ] at h ⊢;exact⟨h.1,sL k5 (fun _ _=>rfl) _ _ h.2.2 h.2.1,h.2.2⟩
   clear k1 k2 k3 hl ij hn qu mz;revert hd h2;generalize b2=bb
   induction r generalizing t bb with
   | nil=>intro h2 hd;simpa only[mv] using h2
   | cons v' r ih=>
    intro h2 hd;simp only[mv] at h2 ⊢;obtain⟨u',t',c1,c2,rfl,rfl,g1,g2⟩:=h2
    exact⟨u',t',c1,c2,rfl,rfl,one (fun b hb=>hd b (by simp[hb])) g1,ih _ (by
     have:=Pc (vs:=r) (hp:=(fI hp ct v).2.1) (ct:=(fI hp ct v).2.2)
     exact this) _ g2 (fun b hb=>hd b (by simp[hb]))⟩
  have⟨m2,S2,g1,g2,g3,g4,g5,g6⟩:=ad1 bh (vs:=r) (us:=t) (bs:=b2) (m:=m1) (S:=S1) k1 hl ij (Kl hf) (fun id q1 q2=>by
   cases hq:m1 id with
   | none=>rfl
   | some p=>
    rcases k3 id p hq with h | ⟨_,h,_⟩
    .rw [hn id (by lia) q2] at h;cases h
    .lia) h2' mz.2.1 (fun j q hq hb=>by
     rcases k3 j q hq with h | ⟨_,_,h⟩
     .exact qu j q h (by simp[hb])
     .exact mz.2.2 q.b h q.b hb rfl)
  refine⟨m2,S2,g1,k2.trans g2,fun id p an=>?_,?_,fun b hb=>g5 b (k5 b hb),fun b hb=>?_⟩
  .rcases g3 id p an with h | ⟨a1,a2,a3⟩
   .rcases k3 id p h with h | ⟨a1,a2,a3⟩
    .exact .inl h
    .exact .inr ⟨a1,by lia,by simp[a3]⟩
   .exact .inr ⟨by lia,a2,by simp[a3]⟩
  .simp only [aA];exact⟨u,t,rfl,mJ g2 g5 (fun _ _=>rfl) _ _ k4,g4⟩
  .rcases g6 b hb with h | h
   .exact (k6 b h).imp (fun h=>h) (fun h=>by simp[h])
   .exact .inr (by simp[h])
def at7{lo:Nat}{u:yh}(hh:aT O m S w H cH)(hl:cN (own hp ct r).2.1 H)(ij:(own hp ct r).2.2<=cH)(hf:∀id o,ai hp id=Gp o->id<ct)(hn:∀id,ct<=id->id<(own hp ct r).2.2->m id=Gq)(hr:pP O.ae S w lo r u)(bh:O.w0.heap.size<=lo)(M0:∀j q,m j=Gp q->q.b<lo):
  ∃m' S',aT O m' S' w H cH/\dl m m'/\(∀id p,m' id=Gp p->m id=Gp p\/(ct<=id/\id<(own hp ct r).2.2/\lo<=p.b))/\af O.ae m' S' w (own hp ct r).1 u/\(∀b,S b->S' b)/\(∀b,S' b->S b\/lo<=b):=by
 have one:∀(r:AV) (bs:List Nat),own hp ct r=fI hp ct r->jJ O.ae S w lo r u bs->cN (own hp ct r).2.1 H->(own hp ct r).2.2<=cH->(∀id,ct<=id->id<(own hp ct r).2.2->m id=Gq)->
   ∃m' S',aT O m' S' w H cH/\dl m m'/\(∀id p,m' id=Gp p->m id=Gp p\/(ct<=id/\id<(own hp ct r).2.2/\lo<=p.b))/\af O.ae m' S' w (own hp ct r).1 u/\(∀b,S b->S' b)/\(∀b,S' b->S b\/lo<=b):=by
  intro r bs he hr hl ij hn;rw[he] at hl ij hn ⊢;have Fc:=Va hr;have⟨m',S',k1,k2,k3,k4,k5,k6⟩:=ad0 hh hl ij hn hr bh (fun j q hq hb=>by have:=M0 j q hq;have:=(Fc _ hb).1;lia)
  exact⟨m',S',k1,k2,fun id p h=>(k3 id p h).imp (fun h=>h) (fun h=>⟨h.1,h.2.1,(Fc _ h.2.2).1⟩),k4,k5,fun b hb=>(k6 b hb).imp (fun h=>h) (fun h=>(Fc _ h).1)⟩
 cases r with
 | av vs=>
  simp only[own] at hl ij hn ⊢;simp only[pP] at hr;obtain⟨us,bs,rfl,h1,h2⟩:=hr;have Fc:=Vb h1;have⟨m',S',k1,k2,k3,k4,k5,k6⟩:=ad1 bh hh hl ij hf hn h1 h2 (fun j q hq hb=>by have:=M0 j q hq;have:=(Fc _ hb).1;lia)
  exact⟨m',S',k1,k2,fun id p h=>(k3 id p h).imp (fun h=>h) (fun h=>⟨h.1,h.2.1,(Fc _ h.2.2).1⟩),by simp only[af];exact⟨us,rfl,k4⟩,k5,fun b hb=>(k6 b hb).imp (fun h=>h) (fun h=>(Fc _ h).1)⟩
 | _=>
  simp only[pP] at hr;have⟨bs,hr⟩:=hr;exact one _ bs rfl hr hl ij hn
end
end
end
end VE
