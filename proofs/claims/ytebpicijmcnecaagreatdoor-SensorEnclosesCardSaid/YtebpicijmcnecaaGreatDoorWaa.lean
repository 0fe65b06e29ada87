import GoSem.Core.Code
import GoSem.Core.Float
import GoSem.Core.Utf8
import Derived.CallsIn
import Derived.Laws.World
import GoSem.Op.Equal
import GoSem.Core.Region
import Derived.Below
import Derived.Laws.AppendOwn
import Derived.Laws.Rows
import Derived.WalkKit
import Derived.Laws.CopyRow
import Derived.Laws.Cells
import Derived.Laws.Strings
import Derived.Lib.Strings
import Derived.WideLaws
import Derived.Maps.Keyed
import Derived.ChangeKeysEq
import Derived.Laws.Tables
import Derived.IntWalk
import Derived.Laws.CopyOwn
set_option linter.all false
set_option maxRecDepth 100000
open Array renaming getElem?_eq_some_iff->xE,getElem?_modify->ybg,getElem?_toList->tE,length_toList->vG,range->tU
open BitVec renaming ofInt->wz
open Bool renaming and_assoc->yaQ,and_eq_true->ye,eq_iff_iff->yaI,false_eq_true->yD,not_eq_true'->vW
open ForInStep renaming yield->ybo
open Go renaming Addr->uR,BinOp->wY,Code->vA,Ending->ybq,Field->uk,FloatKind->wm,IntKind->xg,Loop->td,MapEntry->wZ,Next->ybf,Obj->yaJ,Oper->yV,Operand->xB,Program->xy,TypeDesc->yaf,TypeId->yA,TypeInfo->ydl,UnOp->ycU,Value->yh,World->yk,binOp->xX,sizeOf->vB
open Go.Utf8 renaming runeError->uT,valid->ybJ
open List renaming all_cons->yaB,append_assoc->xK,cons_append->yB,drop_drop->vQ,eq_nil_of_length_eq_zero->yQ,ext_getElem?->ybE,flatten_append->ybs,flatten_cons->uH,getElem?_append_left->wH,getElem?_append_right->wu,getElem?_drop->ybB,getElem?_eq_getElem->xb,getElem?_map->tf,getElem?_take_of_lt->tp,getElem?_toArray->ybi,length_append->yJ,length_cons->yv,length_drop->xU,length_take->yR,map_cons->xe,map_eq_nil_iff->ybr,mem_append->wD,range->xo,replicate->yE,replicate_succ->wP,size_toArray->tF,take_of_length_le->yK,take_succ_cons->wF,take_zero->ybm
open List.cons renaming injEq->vX
open Nat renaming add_assoc->tY,add_mul->xY,add_zero->yZ,beq->yo,beq_eq->ydi,beq_refl->wQ,ble->yC,ble_eq->ydj,blt->yM,eq_of_beq_eq_true->yf,eq_zero_or_pos->xx,le_of_ble_eq_true->yt,le_refl->yx,le_trans->xu,lt_of_lt_of_le->yG,min_le_left->ycc,mul_comm->xA,mul_le_mul_right->yT,one_mul->yaU,testBit->vH,zero_add->yd
open Option renaming isSome_none->yae,map_none->uG,map_some->wO
open Option.some renaming injEq->yc
open PUnit renaming unit->yaN
open Prod.mk renaming injEq->ym
open UInt8 renaming toNat->xn,toNat_inj->ybK
open Option renaming some->F5,none->F6
open Bool renaming true->ydo,false->ydp
def vU:=@and_true
def yan:=@beq_iff_eq
def yah:=@beq_self_eq_true
def yO:=@cond_false
def yu:=@cond_true
def yaj:=@decide_eq_decide
def yY:=@decide_eq_false
def xf:=@decide_eq_true
def vZ:=@decide_eq_true_eq
def yP:=@decide_false
def yN:=@decide_true
def ycK:=@false_or
def xz:=@if_false
def yp:=@if_neg
def yz:=@if_pos
def xJ:=@if_true
def ycs:=@ne_eq
def ydk:=@not_false_eq_true
def tV:=@not_true_eq_false
def yag:=@true_and
namespace VE
section
open Go (IntKind FloatKind BinOp UnOp)
inductive Fr where
 | f (n:Nat)
 | y (l:Nat)
 deriving DecidableEq,Inhabited
inductive AV where
 | int (k:xg) (n:Int)
 | bool (b:Bool)
 | ao (k:wm) (bits:Nat)
 | df (k:wm) (re im:Nat)
 | str (s:List Nat)
 | kL
 | ptr (id off:Nat)
 | bt (cells:List AV)
 | af
 | ap (ex:Bool) (n:Nat) (cells:List AV)
 | cM (ex:Bool) (sz n:Nat) (cells:List AV)
 | ay (id off n:Nat)
 | fn (f:Fr) (first cap:List AV)
 | ir
 | jw
 | map (id:Nat)
 | jx (ks vs:List AV)
 | it (id:Nat)
 | agg (cells:List AV)
 | aw (vs:List AV)
 | undef
 deriving Inhabited
inductive X where
 | t (i:Nat)
 | c (v:AV)
 deriving Inhabited
inductive Conv where
 | toInt (k:xg)
 | toFlt (k:wm)
 | str
 | re
 | im
 deriving Inhabited
inductive Md where
 | pure | own | heap | dyn
 deriving Inhabited
inductive Cut where
 | str
 | sl (sz:Nat)
 | ar (len sz:Nat)
 deriving Inhabited
inductive Q7 where
 | b | sl | fn | ag (ks:List Nat)
 deriving Inhabited
inductive Op where
 | zk (x:X)
 | pick (c a b:X)
 | box (sz:Nat) (x:X)
 | Ah (zero:List AV) (parts:List (Nat×Nat×X))
 | iv (n sz:Nat) (zero:List AV) (parts:List (Nat×Nat×X))
 | ld (sz:Nat) (ag:Bool) (x:X)
 | st (sz:Nat) (x v:X)
 | Lb (x:X)
 | bin (op:wY) (x y:X)
 | eq (ne:Bool) (k:Q7) (x y:X)
 | un (op:ycU) (x:X)
 | cv (k:Conv) (x:X)
 | HK (f:Fr) (first cap:List X)
 | BT
 | qF (sz bytes:Nat) (zero:List AV) (len cap:X)
 | rV (k:Cut) (x:X) (lo hi:Option X)
 | off (k:Nat) (x:X)
 | Mh (o sz:Nat) (ag:Bool) (x:X)
 | bj (sz:Nat) (x i:X)
 | nh (len sz:Nat) (x i:X)
 | HL (x i:X)
 | HM (len sz:Nat) (ag:Bool) (x i:X)
 | Q8 (kk:Nat) (zero:AV) (ok:Bool) (m k:X)
 | rW (kk:Nat) (m k v:X)
 | rX (x:X)
 | rY (x:X)
 | ext (i:Nat) (x:X)
 | call (m:Md) (f:X) (xs:List X)
 | jQ (rs:List (Nat×Bool×Nat)) (f:X) (xs:List X)
 | lM (rs:List (Nat×Bool×Nat)) (sz:Nat) (x v:X)
 | lO (rs:List (Nat×Bool×Nat)) (sz bytes:Nat) (s x:X)
 | cQ (sz bytes:Nat) (s x:X)
 | rZ (sz bytes:Nat) (s x:X)
 | r5 (sz:Nat) (d s:X)
 | len (k:Nat) (x:X)
 | mn (xs:List X)
 | mx (xs:List X)
 | Mi (x y:X)
 | ni (n sz:Nat) (zero:List AV) (parts:List (Nat×Nat×X))
 deriving Inhabited
structure aS where
 dst:Option Nat
 guard:Option (Nat×Bool)
 op:Op
 deriving Inhabited
inductive VC where
 | skip
 | kQ (ops:List aS)
 | seq (a b:VC)
 | cond (x:X) (a b:VC)
 | dE (id:Nat) (a:VC)
 | kp (live:List Nat)
 | fz (ts:List Nat)
 | loop (live:List Nat) (a:VC)
 | rf (f:X) (ps:List Nat) (assign body:VC)
 | exit (id:Nat)
 | ret
 deriving Inhabited
inductive RV where
 | t (i:Nat)
 | cell (i sz:Nat) (ag:Bool)
 deriving Inhabited
structure aD where
 dX:List RV
 body:VC
 deriving Inhabited
inductive sZ where
 | none | ret | exit (id:Nat)
 deriving Inhabited,DecidableEq
abbrev Env:=List (Nat×AV)
inductive Obj where
 | cells (rw pu ex:Bool) (sz:Nat) (cs:List AV)
 | mp (rw:Bool) (ks vs:List AV)
 | si (s:List Nat) (pos:Nat)
 | lp (tm:Env) (ps:List Nat) (assign body:VC) (state:Nat) (pending:sZ)
 deriving Inhabited
abbrev Hp:=List (Nat×Obj)
structure St where
 tm:Env
 hp:Hp
 ct:Nat
 base:Nat
 deriving Inhabited
inductive Ex where
 | normal
 | ret
 | exit (id:Nat)
 deriving Inhabited,DecidableEq
def aj:Env->Nat->AV
 | [],_=>.undef
 | (j,v)::r,i=>bif yo j i then v else aj r i
def ak:Hp->Nat->Option Obj
 | [],_=>F6
 | (j,o)::r,i=>bif yo j i then F5 o else ak r i
def aU:Hp->Nat->Obj->Hp
 | [],_,_=>[]
 | (j,o)::r,i,u=>bif yo j i then (j,u)::r else (j,o)::aU r i u
def c7:Hp->Nat->Hp
 | [],_=>[]
 | (j,o)::r,i=>bif yo j i then c7 r i else (j,o)::c7 r i
mutual
def aV:AV->Bool
 | .ptr _ _ | .ay _ _ _ | .map _ | .it _ | .cM _ _ _ _=>ydp
 | .fn (.y _) _ _=>ydp
 | .fn (.f _) first cap=>aE first&&aE cap
 | .agg cs=>aE cs
 | .aw vs=>aE vs
 | _=>ydo
def aE:List AV->Bool
 | []=>ydo
 | v::r=>aV v&&aE r
end
def cellsOf:AV->List AV
 | .agg cs=>cs
 | v=>[v]
def db:AV->Bool
 | .agg _ | .aw _ | .undef | .cM _ _ _ _=>ydp
 | _=>ydo
def bP:List AV->Bool
 | []=>ydo
 | v::r=>db v&&bP r
def ax(tm:Env):X->AV
 | .t i=>aj tm i
 | .c v=>v
def dK(tm:Env):List X->List AV
 | []=>[]
 | x::r=>ax tm x::dK tm r
def slice(o n:Nat)(cs:List AV):List AV:=(cs.drop o).take n
def over(o:Nat)(new cs:List AV):List AV:=cs.take o++new++cs.drop (o+new.length)
mutual
def freeze:Nat->Hp->AV->Option (AV×Hp)
 | 0,_,_=>F6
 | n+1,hp,v=>
  match v with
  | .ay id o k=>
   match sO n hp id with
   | some (ex,sz,cs,an)=>
    bif yC (o+k*sz) cs.length then
     F5 (.ap (ex&&yM 0 sz&&yo (o+k*sz) cs.length) k (slice o (k*sz) cs),an)
    else F6
   | none=>F6
  | .ptr id o=>
   match sO n hp id with
   | some (_,_,cs,an)=>F5 (.bt (cs.drop o),an)
   | none=>F6
  | .map id=>
   match ak hp id with
   | some (.mp _ ks vs)=>bif aE ks&&aE vs then F5 (.jx ks vs,aU hp id (.mp ydp ks vs)) else F6
   | _=>F6
  | .fn (.f g) first cap=>
   match cB n hp first with
   | some (adR,aY)=>
    match cB n aY cap with
    | some (PO,jE)=>F5 (.fn (.f g) adR PO,jE)
    | none=>F6
   | none=>F6
  | .agg cs=>match cB n hp cs with | some (dF,an)=>F5 (.agg dF,an) | none=>F6
  | .aw cs=>match cB n hp cs with | some (dF,an)=>F5 (.aw dF,an) | none=>F6
  | v=>bif aV v then F5 (v,hp) else F6
def sO:Nat->Hp->Nat->Option (Bool×Nat×List AV×Hp)
 | 0,_,_=>F6
 | n+1,hp,id=>
  match ak hp id with
  | some (.cells rw pu ex sz cs)=>
   bif pu then F5 (ex,sz,cs,bif rw then aU hp id (.cells ydp ydo ex sz cs) else hp)
   else match cB n hp cs with
    | some (dF,an)=>F5 (ex,sz,dF,aU an id (.cells ydp ydp ex sz cs))
    | none=>F6
  | _=>F6
def cB:Nat->Hp->List AV->Option (List AV×Hp)
 | 0,_,_=>F6
 | _+1,hp,[]=>F5 ([],hp)
 | n+1,hp,v::r=>
  match freeze n hp v with
  | some (v',aY)=>
   match cB n aY r with
   | some (r',jE)=>F5 (v'::r',jE)
   | none=>F6
  | none=>F6
end
def pX(n:Nat)(hp:Hp)(v:AV):Option (AV×Hp):=
 match v with
 | .ay id o k=>
  match ak hp id with
  | some (.cells ydo ydo ex sz cs)=>
   bif yC (o+k*sz) cs.length then
    F5 (.cM (ex&&yM 0 sz&&yo (o+k*sz) cs.length) sz k (slice o (k*sz) cs),c7 hp id)
   else F6
  | _=>freeze n hp v
 | _=>freeze n hp v
def Kb:List AV->Option (List Nat)
 | []=>F5 []
 | .ay id _ _::r=>match Kb r with | some l=>bif l.any (yo id) then F6 else F5 (id::l) | none=>F6
 | v::r=>bif aV v then Kb r else F6
def Cv(n:Nat):Hp->List AV->Option (List AV×Hp)
 | hp,[]=>F5 ([],hp)
 | hp,v::r=>
  match pX n hp v with
  | some (v',aY)=>match Cv n aY r with | some (r',jE)=>F5 (v'::r',jE) | none=>F6
  | none=>F6
def deep:Nat:=1000
def result(hp:Hp)(v:AV):Option AV:=
 match v with
 | .aw vs=>
  match Kb vs with
  | some _=>match Cv deep hp vs with | some (eF,_)=>F5 (.aw eF) | none=>F6
  | none=>match freeze deep hp v with | some (v',_)=>F5 v' | none=>F6
 | v=>match pX deep hp v with | some (v',_)=>F5 v' | none=>F6
def bJ:AV->AV
 | .cM ex _ n cs=>.ap ex n cs
 | v=>v
def EM:List AV->List AV
 | []=>[]
 | v::r=>bJ v::EM r
def shut:AV->AV
 | .cM ex _ n cs=>.ap ex n cs
 | .aw vs=>.aw (EM vs)
 | v=>v
def fK(hp:Hp)(ct:Nat):AV->AV×Hp×Nat
 | .cM ex sz n cs=>(.ay ct 0 n,(ct,.cells ydo ydo ex sz cs)::hp,ct+1)
 | v=>(v,hp,ct)
def lj:Hp->Nat->List AV->List AV×Hp×Nat
 | hp,ct,[]=>([],hp,ct)
 | hp,ct,v::r=>((fK hp ct v).1::(lj (fK hp ct v).2.1 (fK hp ct v).2.2 r).1,(lj (fK hp ct v).2.1 (fK hp ct v).2.2 r).2)
def own(hp:Hp)(ct:Nat):AV->AV×Hp×Nat
 | .aw vs=>(.aw (lj hp ct vs).1,(lj hp ct vs).2)
 | v=>fK hp ct v
mutual
def refs:AV->List Nat
 | .ptr id _=>[id]
 | .ay id _ _=>[id]
 | .map id=>[id]
 | .it id=>[id]
 | .fn (.f _) first cap=>gG first++gG cap
 | .fn (.y l) _ _=>[l]
 | .agg cs=>gG cs
 | .aw cs=>gG cs
 | _=>[]
def gG:List AV->List Nat
 | []=>[]
 | v::r=>refs v++gG r
end
def fj:Env->List Nat
 | []=>[]
 | (_,v)::r=>refs v++fj r
def jR:Obj->List Nat
 | .cells _ pu _ _ cs=>bif pu then [] else gG cs
 | .mp _ ks vs=>gG ks++gG vs
 | .si _ _=>[]
 | .lp tm _ _ _ _ _=>fj tm
mutual
def br(f:Nat->Option Nat):AV->AV
 | .ptr id o=>match f id with | some j=>.ptr j o | none=>.undef
 | .ay id o n=>match f id with | some j=>.ay j o n | none=>.undef
 | .map id=>match f id with | some j=>.map j | none=>.undef
 | .it id=>match f id with | some j=>.it j | none=>.undef
 | .fn (.f g) first cap=>.fn (.f g) (dP f first) (dP f cap)
 | .fn (.y l) first cap=>match f l with | some j=>.fn (.y j) (dP f first) (dP f cap) | none=>.undef
 | .agg cs=>.agg (dP f cs)
 | .aw cs=>.aw (dP f cs)
 | v=>v
def dP(f:Nat->Option Nat):List AV->List AV
 | []=>[]
 | v::r=>br f v::dP f r
end
def gn(f:Nat->Option Nat):Env->Env
 | []=>[]
 | (i,v)::r=>(i,br f v)::gn f r
def jh(f:Nat->Option Nat):Obj->Obj
 | .cells rw pu ex sz cs=>.cells rw pu ex sz (bif pu then cs else dP f cs)
 | .mp rw ks vs=>.mp rw (dP f ks) (dP f vs)
 | .si s pos=>.si s pos
 | .lp tm ps as_ body st pe=>.lp (gn f tm) ps as_ body st pe
def cd(tm:Env):List Nat->Env
 | []=>[]
 | i::r=>(i,aj tm i)::cd tm r
def jy(i:Nat):List Nat->Bool
 | []=>ydp
 | j::r=>bif yo j i then ydo else jy i r
def reach(hp:Hp)(base:Nat):Nat->List Nat->List Nat->List Nat
 | 0,_,seen=>seen
 | _+1,[],seen=>seen
 | n+1,id::cT,seen=>
  bif yM id base||jy id seen then reach hp base n cT seen
  else match ak hp id with
   | some o=>reach hp base n (jR o++cT) (seen++[id])
   | none=>reach hp base n cT seen
def dO(base:Nat):Hp->List Nat
 | []=>[]
 | (id,o)::r=>bif yM id base then jR o++dO base r else dO base r
def iw(i:Nat):List Nat->Nat->Option Nat
 | [],_=>F6
 | j::r,k=>bif yo j i then F5 k else iw i r (k+1)
def ij(base:Nat)(seen:List Nat)(id:Nat):Option Nat:=bif yM id base then F5 id else iw id seen base
def gj(base:Nat)(f:Nat->Option Nat):Hp->Hp
 | []=>[]
 | (id,o)::r=>bif yM id base then (id,jh f o)::gj base f r else gj base f r
def eY(hp:Hp)(f:Nat->Option Nat):List Nat->Nat->Hp->Hp
 | [],_,acc=>acc
 | id::r,k,acc=>match ak hp id with | some o=>eY hp f r (k+1) ((k,jh f o)::acc) | none=>eY hp f r (k+1) acc
def bE(live:List Nat)(s:St):St:=
 let tm:=cd s.tm live
 let seen:=reach s.hp s.base 100000 (fj tm++dO s.base s.hp) []
 let f:=ij s.base seen
 {tm:=gn f tm,hp:=eY s.hp f seen s.base (gj s.base f s.hp),ct:=s.base+seen.length,base:=s.base}
def mr(hp:Hp)(sz:Nat):AV->Option (Nat×List AV)
 | .af=>F5 (0,[])
 | .ap _ n cs=>bif yo cs.length (n*sz) then F5 (n,cs) else F6
 | .ay id o n=>
  match ak hp id with
  | some (.cells _ _ _ _ cs)=>bif yC (o+n*sz) cs.length then F5 (n,slice o (n*sz) cs) else F6
  | _=>F6
 | _=>F6
def Oo:List Nat->List AV
 | []=>[]
 | b::r=>.int .u8 b::Oo r
def Dj:List Nat->List Nat->Bool
 | _,[]=>ydp
 | [],_::_=>ydo
 | a::x,b::y=>yM a b||(yo a b&&Dj x y)
def c6:List Nat->List Nat->Bool
 | [],[]=>ydo
 | a::x,b::y=>yo a b&&c6 x y
 | _,_=>ydp
def dc:List Nat->List AV->List AV->Option Bool
 | [],[],[]=>F5 ydo
 | 0::ks,.bool a::x,.bool b::y=>match dc ks x y with | some r=>F5 ((a==b)&&r) | none=>F6
 | 1::ks,.int k a::x,.int k' b::y=>if k=k' then (match dc ks x y with | some r=>F5 ((a==b)&&r) | none=>F6) else F6
 | 2::ks,.str a::x,.str b::y=>match dc ks x y with | some r=>F5 (c6 a b&&r) | none=>F6
 | _,_,_=>F6
def kO:Q7->AV->AV->Option Bool
 | .b,.bool a,.bool b=>F5 (a==b)
 | .sl,.af,.af=>F5 ydo
 | .sl,.af,.ap _ _ _=>F5 ydp
 | .sl,.af,.ay _ _ _=>F5 ydp
 | .sl,.ap _ _ _,.af=>F5 ydp
 | .sl,.ay _ _ _,.af=>F5 ydp
 | .fn,.ir,.ir=>F5 ydo
 | .fn,.ir,.fn _ _ _=>F5 ydp
 | .fn,.fn _ _ _,.ir=>F5 ydp
 | .ag ks,.agg a,.agg b=>dc ks a b
 | _,_,_=>F6
def intCmp(op:wY)(x y:Int):Option Bool:=
 match op with
 | .eql=>F5 (x==y)
 | .neq=>F5 (x !=y)
 | .lss=>F5 (decide (x<y))
 | .leq=>F5 (decide (x<=y))
 | .gtr=>F5 (decide (x>y))
 | .geq=>F5 (decide (x>=y))
 | _=>F6
def mT(op:wY)(k:xg)(x y:Int):Option AV:=
 match op with
 | .add=>F5 (.int k (k.wrap (x+y)))
 | .sub=>F5 (.int k (k.wrap (x-y)))
 | .mul=>F5 (.int k (k.wrap (x*y)))
 | .quo=>if y=0 then F6 else F5 (.int k (k.wrap (x.tdiv y)))
 | .rem=>if y=0 then F6 else F5 (.int k (x.tmod y))
 | .and=>F5 (.int k (k.wrap (wz k.bits x&&&wz k.bits y).toNat))
 | .or=>F5 (.int k (k.wrap (wz k.bits x|||wz k.bits y).toNat))
 | .xor=>F5 (.int k (k.wrap (wz k.bits x^^^wz k.bits y).toNat))
 | .andNot=>F5 (.int k (k.wrap (wz k.bits x&&&~~~(wz k.bits y)).toNat))
 | .shl | .shr=>F6
 | op=>match intCmp op x y with | some b=>F5 (.bool b) | none=>F6
def Ej(op:wY)(k:xg)(x y:Int):Option AV:=
 if y<0 then F6 else
 match op with
 | .shl=>F5 (.int k (k.wrap (x*2^(min y.toNat k.bits))))
 | .shr=>F5 (.int k (x.fdiv (2^(min y.toNat k.bits))))
 | _=>F6
def KQ(op:wY)(x y:List Nat):Option AV:=
 match op with
 | .add=>bif yC (x.length+y.length) 9223372036854775807 then F5 (.str (x++y)) else F6
 | .eql=>F5 (.bool (c6 x y))
 | .neq=>F5 (.bool (!c6 x y))
 | .lss=>F5 (.bool (Dj x y))
 | .leq=>F5 (.bool (Dj x y||c6 x y))
 | .gtr=>F5 (.bool (!(Dj x y||c6 x y)))
 | .geq=>F5 (.bool (!Dj x y))
 | _=>F6
def GX(op:wY)(k:wm)(x y:Nat):Option AV:=
 let c:=k.format.order x y
 let ar (r:Option Nat):Option AV:=match r with | some b=>F5 (.ao k b) | none=>F6
 match op with
 | .add=>ar (k.format.add x y)
 | .sub=>ar (k.format.sub x y)
 | .mul=>ar (k.format.mul x y)
 | .quo=>ar (k.format.div x y)
 | .eql=>F5 (.bool (c==F5 .eq))
 | .neq=>F5 (.bool (c !=F5 .eq))
 | .lss=>F5 (.bool (c==F5 .lt))
 | .leq=>F5 (.bool (c==F5 .lt||c==F5 .eq))
 | .gtr=>F5 (.bool (c==F5 .gt))
 | .geq=>F5 (.bool (c==F5 .gt||c==F5 .eq))
 | _=>F6
def Dk(s k:wm)(b:Nat):Option Nat:=
 if s=k then F5 b else
 match s.decode b with
 | .number sg m e=>if (k.decode (k.encode (.number sg m e))).isInfinity then F6 else F5 (k.encode (.number sg m e))
 | _=>F6
def nj(op:wY)(k:wm)(x y:Nat):Option Nat:=
 match op with
 | .add=>k.format.add x y
 | .sub=>k.format.sub x y
 | .mul=>k.format.mul x y
 | _=>F6
def UG(k:wm)(a b c d:Nat):Option AV:=
 match Dk k .f64 a,Dk k .f64 b,Dk k .f64 c,Dk k .f64 d with
 | some a,F5 b,F5 c,F5 d=>
  match nj .mul .f64 a c,nj .mul .f64 b d,nj .mul .f64 a d,nj .mul .f64 b c with
  | some p,F5 q,F5 r,F5 s=>
   match nj .sub .f64 p q,nj .add .f64 r s with
   | some e,F5 f=>match Dk .f64 k e,Dk .f64 k f with | some e,F5 f=>F5 (.df k e f) | _,_=>F6
   | _,_=>F6
  | _,_,_,_=>F6
 | _,_,_,_=>F6
def U9(op:wY)(k:wm)(a b c d:Nat):Option AV:=
 match op with
 | .eql=>F5 (.bool (k.format.order a c==F5 .eq&&k.format.order b d==F5 .eq))
 | .neq=>F5 (.bool (!(k.format.order a c==F5 .eq&&k.format.order b d==F5 .eq)))
 | .add=>match nj .add k a c,nj .add k b d with | some r,F5 i=>F5 (.df k r i) | _,_=>F6
 | .sub=>match nj .sub k a c,nj .sub k b d with | some r,F5 i=>F5 (.df k r i) | _,_=>F6
 | .mul=>UG k a b c d
 | _=>F6
def aeH(x y:AV):Option AV:=
 match x,y with
 | .ao k a,.ao k' b=>if k=k' then F5 (.df k a b) else F6
 | _,_=>F6
def binOp(op:wY)(x y:AV):Option AV:=
 match x,y with
 | .int k a,.int k' b=>
  match op with
  | .shl | .shr=>Ej op k a b
  | _=>if k=k' then mT op k a b else F6
 | .ao k a,.ao k' b=>if k=k' then GX op k a b else F6
 | .str a,.str b=>KQ op a b
 | .df k a b,.df k' c d=>if k=k' then U9 op k a b c d else F6
 | _,_=>F6
def unOp(op:ycU)(x:AV):Option AV:=
 match op,x with
 | .neg,.int k n=>F5 (.int k (k.wrap (0-n)))
 | .xor,.int k n=>mT .xor k (if k.signed then -1 else k.max) n
 | .not,.bool b=>F5 (.bool !b)
 | .neg,.ao k b=>F5 (.ao k (b^^^2^(k.format.exponentBits+k.format.fractionBits)))
 | _,_=>F6
def jW(c:Conv)(x:AV):Option AV:=
 match c,x with
 | .toInt k,.int _ n=>F5 (.int k (k.wrap n))
 | .toFlt k,.int _ n=>F5 (.ao k (k.nearest n))
 | .toInt k,.ao s b=>
  match (s.decode b).toInt .zero with
  | some n=>if k.min<=n/\n<=k.max then F5 (.int k n) else F6
  | none=>F6
 | .toFlt k,.ao s b=>
  if s=k then F5 (.ao k b) else
  match s.decode b with
  | .number sg m e=>if (k.decode (k.encode (.number sg m e))).isInfinity then F6 else F5 (.ao k (k.encode (.number sg m e)))
  | _=>F6
 | .str,.str s=>F5 (.str s)
 | .re,.df k a _=>F5 (.ao k a)
 | .im,.df k _ b=>F5 (.ao k b)
 | _,_=>F6
def fU(sz:Nat)(ag:Bool)(cs:List AV):Option AV:=
 bif ag then (bif yC sz cs.length then F5 (.agg (cs.take sz)) else F6)
 else match cs with | v::_=>F5 v | []=>F6
def dt(x:AV):Option Nat:=
 match x with
 | .int _ n=>match n with | .ofNat k=>F5 k | .negSucc _=>F6
 | _=>F6
def cX(tm:Env)(d:Nat):Option X->Option Nat
 | none=>F5 d
 | some x=>dt (ax tm x)
def fI(hp:Hp)(k:Cut)(x:AV)(tm:Env)(lo hi:Option X):Option AV:=
 match k,x with
 | .str,.str s=>
  match cX tm 0 lo,cX tm s.length hi with
  | some l,F5 h=>bif yC l h&&yC h s.length then F5 (.str ((s.take h).drop l)) else F6
  | _,_=>F6
 | .sl _,.af=>
  match cX tm 0 lo,cX tm 0 hi with
  | some 0,F5 0=>F5 .af
  | _,_=>F6
 | .sl sz,.ap ex n cs=>
  match cX tm 0 lo,cX tm n hi with
  | some l,F5 h=>bif yC l h&&yC h n then F5 (.ap (ex&&yo h n) (h-l) (slice (l*sz) ((h-l)*sz) cs)) else F6
  | _,_=>F6
 | .sl sz,.ay id o n=>
  match ak hp id with
  | some (.cells _ _ _ z _)=>
   match cX tm 0 lo,cX tm n hi with
   | some l,F5 h=>
    bif yC l h&&yC h n&&yo z sz then
     bif yo l h&& !yo l 0 then F5 (.ap ydp 0 []) else F5 (.ay id (o+l*sz) (h-l))
    else F6
   | _,_=>F6
  | _=>F6
 | .ar n s,.bt cs=>
  match cX tm 0 lo,cX tm n hi with
  | some l,F5 h=>bif yo l 0&&yo h n&&(yM 0 n&&yC (n*s) cs.length) then F5 (.ap ydo n (cs.take (n*s))) else F6
  | _,_=>F6
 | _,_=>F6
def fill(tm:Env):List AV->List (Nat×Nat×X)->Option (List AV)
 | cs,[]=>F5 cs
 | cs,(o,sz,x)::r=>
  let new:=cellsOf (ax tm x)
  bif yo new.length sz&&yC (o+sz) cs.length&&bP new then fill tm (over o new cs) r else F6
def qd:AV->AV->Option Bool
 | .int k a,.int k' b=>if k=k' then F5 (a==b) else F6
 | .str a,.str b=>F5 (c6 a b)
 | .bool a,.bool b=>F5 (a==b)
 | .agg a,.agg b=>dc (yE a.length 1) a b
 | _,_=>F6
def pT:Nat->AV->Bool
 | 0,.bool _=>ydo
 | 1,.int _ _=>ydo
 | 2,.str _=>ydo
 | n+3,.agg cs=>yo cs.length n
 | _,_=>ydp
def EN(k:AV):List AV->List AV->Option (Option AV)
 | [],_=>F5 F6
 | k'::ks,v::vs=>match qd k k' with | some ydo=>F5 (F5 v) | some ydp=>EN k ks vs | none=>F6
 | _::_,[]=>F6
def BA(k v:AV):List AV->List AV->Option (List AV×List AV)
 | [],[]=>F5 ([k],[v])
 | k'::ks,u::us=>
  match qd k k' with
  | some ydo=>F5 (k'::ks,v::us)
  | some ydp=>match BA k v ks us with | some (lP,Mj)=>F5 (k'::lP,u::Mj) | none=>F6
  | none=>F6
 | _,_=>F6
def min2:AV->AV->Option AV
 | .int k x,.int _ y=>F5 (.int k (if y<x then y else x))
 | .ao k x,.ao _ y=>
  match k.format.order x y with
  | none=>F6
  | some .lt=>F5 (.ao k x)
  | some .gt=>F5 (.ao k y)
  | some .eq=>F5 (.ao k (if (k.decode x).neg then x else y))
 | _,_=>F6
def max2:AV->AV->Option AV
 | .int k x,.int _ y=>F5 (.int k (if y>x then y else x))
 | .ao k x,.ao _ y=>
  match k.format.order x y with
  | none=>F6
  | some .lt=>F5 (.ao k y)
  | some .gt=>F5 (.ao k x)
  | some .eq=>F5 (.ao k (if (k.decode x).neg then y else x))
 | _,_=>F6
def CP(f:AV->AV->Option AV):AV->List AV->Option AV
 | a,[]=>F5 a
 | a,b::r=>match f a b with | some c=>CP f c r | none=>F6
def room:Nat:=1099511627776
abbrev gL:=Option (AV×Hp×Nat)
def gU(hp:Hp)(sz:Nat)(ag:Bool):AV->Option AV
 | .ptr id o=>match ak hp id with | some (.cells _ _ _ _ cs)=>fU sz ag (cs.drop o) | _=>F6
 | .bt cs=>fU sz ag cs
 | _=>F6
def CQ(k:Nat):AV->Option AV
 | .ptr id o=>F5 (.ptr id (o+k))
 | .bt cs=>bif yC k cs.length then F5 (.bt (cs.drop k)) else F6
 | _=>F6
def Pg(o sz:Nat)(ag:Bool):AV->Option AV
 | .agg cs=>fU sz ag (cs.drop o)
 | _=>F6
def ik(sz i:Nat):AV->Option AV
 | .ay id o n=>bif yM i n then F5 (.ptr id (o+i*sz)) else F6
 | .ap _ n cs=>bif yM i n then F5 (.bt (cs.drop (i*sz))) else F6
 | _=>F6
def rG(len sz i:Nat):AV->Option AV
 | .ptr id o=>bif yM i len then F5 (.ptr id (o+i*sz)) else F6
 | .bt cs=>bif yM i len then F5 (.bt (cs.drop (i*sz))) else F6
 | _=>F6
def oP(i:Nat):AV->Option AV
 | .str s=>match s[i]? with | some b=>F5 (.int .u8 b) | none=>F6
 | _=>F6
def Ph(len sz:Nat)(ag:Bool)(i:Nat):AV->Option AV
 | .agg cs=>bif yM i len then fU sz ag (cs.drop (i*sz)) else F6
 | _=>F6
def CR(hp:Hp)(k:AV):AV->Option (Option AV)
 | .jw=>F5 F6
 | .map id=>match ak hp id with | some (.mp _ ks vs)=>EN k ks vs | _=>F6
 | .jx ks vs=>EN k ks vs
 | _=>F6
def iM(hp:Hp):Nat->AV->Option AV
 | 0,.str s=>F5 (.int .i64 s.length)
 | 1,.af=>F5 (.int .i64 0)
 | 1,.ap _ n _=>F5 (.int .i64 n)
 | 1,.ay _ _ n=>F5 (.int .i64 n)
 | 2,.jw=>F5 (.int .i64 0)
 | 2,.jx ks _=>F5 (.int .i64 ks.length)
 | 2,.map id=>match ak hp id with | some (.mp _ ks _)=>F5 (.int .i64 ks.length) | _=>F6
 | _,_=>F6
def bh(tm:Env)(hp:Hp):Op->Option AV
 | .zk x=>F5 (ax tm x)
 | .pick c a b=>match ax tm c with | .bool t=>F5 (bif t then ax tm a else ax tm b) | _=>F6
 | .Ah zero parts=>match fill tm zero parts with | some cs=>F5 (.agg cs) | none=>F6
 | .ld sz ag x=>gU hp sz ag (ax tm x)
 | .Lb x=>
  match ax tm x with
  | .ptr id o=>F5 (.ptr id o)
  | .bt cs=>F5 (.bt cs)
  | .fn f a b=>F5 (.fn f a b)
  | _=>F6
 | .bin op x y=>binOp op (ax tm x) (ax tm y)
 | .eq ne k x y=>match kO k (ax tm x) (ax tm y) with | some r=>F5 (.bool (ne !=r)) | none=>F6
 | .un op x=>unOp op (ax tm x)
 | .cv k x=>jW k (ax tm x)
 | .Mi x y=>aeH (ax tm x) (ax tm y)
 | .ni n sz zero parts=>
  match fill tm zero parts with
  | some cs=>bif yo cs.length (n*sz)&&(yM 0 sz&&aE cs) then F5 (.ap ydo n cs) else F6
  | none=>F6
 | .HK f first cap=>F5 (.fn f (dK tm first) (dK tm cap))
 | .rV k x lo hi=>fI hp k (ax tm x) tm lo hi
 | .off k x=>CQ k (ax tm x)
 | .Mh o sz ag x=>Pg o sz ag (ax tm x)
 | .bj sz x i=>match dt (ax tm i) with | some j=>ik sz j (ax tm x) | none=>F6
 | .nh len sz x i=>match dt (ax tm i) with | some j=>rG len sz j (ax tm x) | none=>F6
 | .HL x i=>match dt (ax tm i) with | some j=>oP j (ax tm x) | none=>F6
 | .HM len sz ag x i=>match dt (ax tm i) with | some j=>Ph len sz ag j (ax tm x) | none=>F6
 | .Q8 kk zero ok m k=>
  bif pT kk (ax tm k) then
   match CR hp (ax tm k) (ax tm m) with
   | some (F5 v)=>F5 (bif ok then .aw [v,.bool ydo] else v)
   | some F6=>F5 (bif ok then .aw [zero,.bool ydp] else zero)
   | none=>F6
  else F6
 | .ext i x=>match ax tm x with | .aw vs=>vs[i]? | _=>F6
 | .len k x=>iM hp k (ax tm x)
 | .mn xs=>match dK tm xs with | a::r=>CP min2 a r | []=>F6
 | .mx xs=>match dK tm xs with | a::r=>CP max2 a r | []=>F6
 | _=>F6
def cG(tm:Env)(hp:Hp)(ct:Nat):Op->Option (AV×Obj)
 | .box sz x=>
  let cs:=cellsOf (ax tm x)
  bif yo cs.length sz&&bP cs then F5 (.ptr ct 0,.cells ydo (aE cs) ydo sz cs) else F6
 | .iv n sz zero parts=>
  match fill tm zero parts with
  | some cs=>bif yo cs.length (n*sz) then F5 (.ay ct 0 n,.cells ydo (aE cs) ydo sz cs) else F6
  | none=>F6
 | .qF sz bytes zero len cap=>
  match dt (ax tm len),dt (ax tm cap) with
  | some l,F5 c=>
   bif yC l c&&(yC c room&&(yC (c*bytes) room&&(yo zero.length sz&&bP zero))) then
    F5 (.ay ct 0 l,.cells ydo (aE zero) (yo l c) sz (yE l zero).flatten)
   else F6
  | _,_=>F6
 | .BT=>F5 (.map ct,.mp ydo [] [])
 | .rX x=>match ax tm x with | .str s=>F5 (.it ct,.si s 0) | _=>F6
 | _=>F6
def decodeL(s:List Nat)(i:Nat):Nat×Nat:=
 let at' (k:Nat):Nat:=s.getD (i+k) 0
 let cont (k:Nat):Bool:=decide (i+k<s.length)&&at' k/64==2
 let b0:=at' 0
 if b0<0x80 then (b0,1)
 else if b0/32==6&&cont 1 then
  let c:=(b0%32)*64+at' 1%64
  if c>=0x80 then (c,2) else (uT,1)
 else if b0/16==14&&cont 1&&cont 2 then
  let c:=(b0%16)*4096+(at' 1%64)*64+at' 2%64
  if c>=0x800&&ybJ c then (c,3) else (uT,1)
 else if b0/8==30&&cont 1&&cont 2&&cont 3 then
  let c:=(b0%8)*262144+(at' 1%64)*4096+(at' 2%64)*64+at' 3%64
  if c>=0x10000&&ybJ c then (c,4) else (uT,1)
 else (uT,1)
def jr(hp:Hp)(sz:Nat):AV->Option (Nat×List AV)
 | .str b=>bif yo sz 1 then F5 (b.length,Oo b) else F6
 | v=>mr hp sz v
def Ai(hp:Hp)(ct sz bytes:Nat)(s:AV)(src:Option (Nat×List AV)):Option (AV×Obj):=
 match src with
 | none=>F6
 | some (m,new)=>
  match s with
  | .ay id o n=>
   match ak hp id with
   | some (.cells _ pu ydo z cs)=>
    bif yo z sz&&(yM 0 m&&(yC (n+m) room&&(yC ((n+m)*bytes) room&&(yo (o+n*sz) cs.length&&yM 0 sz)))) then
     F5 (.ay ct 0 (n+m),.cells ydo (pu&&aE new) ydp sz (slice o (n*sz) cs++new))
    else F6
   | _=>F6
  | _=>F6
def cx(tm:Env)(hp:Hp)(ct:Nat):Op->gL
 | .st sz x v=>
  let new:=cellsOf (ax tm v)
  match ax tm x with
  | .ptr id o=>
   match ak hp id with
   | some (.cells ydo pu ex z cs)=>
    bif yo new.length sz&&yC (o+sz) cs.length&&bP new then
     F5 (.aw [],aU hp id (.cells ydo (pu&&aE new) ex z (over o new cs)),ct)
    else F6
   | _=>F6
  | _=>F6
 | .rW kk m k v=>
  match ax tm m with
  | .map id=>
   match ak hp id with
   | some (.mp ydo ks vs)=>bif !pT kk (ax tm k) then F6 else match BA (ax tm k) (ax tm v) ks vs with | some (lP,eF)=>F5 (.aw [],aU hp id (.mp ydo lP eF),ct) | none=>F6
   | _=>F6
  | _=>F6
 | .rY x=>
  match ax tm x with
  | .it id=>
   match ak hp id with
   | some (.si s pos)=>
    bif yM pos s.length then
     match decodeL s pos with
     | (c,wd)=>F5 (.aw [.bool ydo,.int .i64 pos,.int .i32 c],aU hp id (.si s (pos+wd)),ct)
    else F5 (.aw [.bool ydp],hp,ct)
   | _=>F6
  | _=>F6
 | .cQ sz bytes s x=>
  match jr hp sz (ax tm x) with
  | none=>F6
  | some (m,new)=>
   match ax tm s with
   | .af=>
    bif yo m 0 then F5 (.af,hp,ct)
    else bif yC m room&&(yC (m*bytes) room&&yM 0 sz) then F5 (.ay ct 0 m,(ct,.cells ydo (aE new) ydp sz new)::hp,ct+1) else F6
   | .ap ydo n cs=>
    bif yo m 0 then F5 (.ap ydo n cs,hp,ct)
    else bif yC (n+m) room&&(yC ((n+m)*bytes) room&&(yo cs.length (n*sz)&&yM 0 sz)) then F5 (.ay ct 0 (n+m),(ct,.cells ydo (aE cs&&aE new) ydp sz (cs++new))::hp,ct+1) else F6
   | .ay id o n=>
    match ak hp id with
    | some (.cells ydo pu _ z cs)=>
     bif yo z sz&&(yC (n+m) room&&(yC ((n+m)*bytes) room&&(yC (o+n*sz) cs.length&&(yM 0 sz&&bP new)))) then
      F5 (.ay ct 0 (n+m),(ct,.cells ydo (pu&&aE new) ydp sz (slice o (n*sz) cs++new))::c7 hp id,ct+1)
     else F6
    | _=>F6
   | _=>F6
 | .r5 sz d s=>
  match mr hp sz (ax tm s),ax tm d with
  | some (m,new),.ay id o n=>
   match ak hp id with
   | some (.cells ydo pu ex z cs)=>
    bif yo z sz&&(yC (o+n*sz) cs.length&&bP new) then
     F5 (.int .i64 (min m n:Nat),aU hp id (.cells ydo (pu&&aE new) ex z (over o (new.take (min m n*sz)) cs)),ct)
    else F6
   | _=>F6
  | _,_=>F6
 | _=>F6
def jS:X->List Nat | .t i=>[i] | .c _=>[]
def Bl:List X->List Nat
 | []=>[]
 | x::r=>jS x++Bl r
def KR:Option X->List Nat | some x=>jS x | none=>[]
def KS:List (Nat×Nat×X)->List Nat
 | []=>[]
 | (_,_,x)::r=>jS x++KS r
def kW:Op->List Nat
 | .zk x | .box _ x | .ld _ _ x | .Lb x | .un _ x | .cv _ x | .off _ x | .Mh _ _ _ x | .rX x | .rY x | .ext _ x | .len _ x=>jS x
 | .pick a b c | .rW _ a b c=>jS a++(jS b++jS c)
 | .Ah _ ps | .iv _ _ _ ps | .ni _ _ _ ps=>KS ps
 | .st _ a b | .bin _ a b | .Mi a b | .eq _ _ a b | .bj _ a b | .nh _ _ a b | .HL a b | .HM _ _ _ a b | .Q8 _ _ _ a b | .cQ _ _ a b | .rZ _ _ a b | .r5 _ a b=>jS a++jS b
 | .HK _ a b=>Bl a++Bl b
 | .BT=>[]
 | .qF _ _ _ a b=>jS a++jS b
 | .rV _ x a b=>jS x++(KR a++KR b)
 | .call _ f xs=>jS f++Bl xs
 | .jQ _ f xs=>jS f++Bl xs
 | .lM _ _ a b=>jS a++jS b
 | .lO _ _ _ a b=>jS a++jS b
 | .mn xs | .mx xs=>Bl xs
def bl:Op->Nat
 | .zk _ | .pick _ _ _ | .Ah _ _ | .Lb _ | .bin _ _ _ | .eq _ _ _ _ | .un _ _ | .cv _ _ | .HK _ _ _ | .off _ _ | .Mh _ _ _ _ | .bj _ _ _ | .nh _ _ _ _ | .HL _ _ | .HM _ _ _ _ _ | .ext _ _ | .mn _ | .mx _ | .Mi _ _ | .ni _ _ _ _=>0
 | .rV .str _ _ _ | .len 0 _ | .len 1 _=>0
 | .st _ _ _ | .rW _ _ _ _ | .rY _ | .cQ _ _ _ _ | .r5 _ _ _ | .jQ _ _ _ | .lM _ _ _ _ | .lO _ _ _ _ _ | .call .heap _ _ | .call .dyn _ _=>2
 | _=>1
def Va:Option (Nat×Bool)->List Nat | some (t,_)=>[t] | none=>[]
def Et(o:aS):List Nat:=Va o.guard++kW o.op
def G4(d:Option Nat)(l:List Nat):Bool:=match d with | some i=>jy i l | none=>ydp
def Vb(d e:Option Nat):Bool:=match d,e with | some i,F5 j=>yo i j | _,_=>ydp
def N4(a b:aS):Bool:=G4 a.dst (Et b)||G4 b.dst (Et a)||Vb a.dst b.dst
def EZ(sz:Nat)(ag:Bool)(t:Nat):List (Nat×Bool×Nat)->Bool
 | []=>ydp
 | (s,g,u)::r=>(yo s sz&&(g==ag&&yo u t))||EZ sz ag t r
def EO(t:Nat):List aS->Bool
 | []=>ydo
 | o::r=> !G4 o.dst [t]&&EO t r
def JT(a b:aS)(r:List aS):Bool:=
 match a.guard,a.op,b.op with
 | none,.ld sz ag (.t t),.jQ rs _ _=>EZ sz ag t rs&&EO t (a::r)
 | none,.ld sz ag (.t t),.lM rs _ _ _=>EZ sz ag t rs&&EO t (a::r)
 | none,.ld sz ag (.t t),.lO rs _ _ _ _=>EZ sz ag t rs&&EO t (a::r)
 | _,_,_=>ydp
def Jy(a b:aS):Bool:=
 match bl a.op,bl b.op with
 | 1,2 | 2,1 | 2,2=>ydo
 | _,_=>ydp
def N5(m:Nat)(b:aS):List aS->Nat->Bool
 | [],_=>ydo
 | a::r,i=>(vH m i|| !(N4 a b||(Jy a b&& !JT a b r)))&&N5 m b r (i+1)
def rq(done:List aS):List aS->List Nat->Bool
 | [],_=>ydo
 | b::r,m::ms=>N5 m b done 0&&rq (done++[b]) r ms
 | _::_,[]=>ydp
def JU(m:Nat):List aS->Nat->List (Nat×Bool×Nat)
 | [],_=>[]
 | a::r,i=>
  match vH m i,a with
  | false,⟨_,F6,.ld sz ag (.t t)⟩=>(sz,ag,t)::JU m r (i+1)
  | _,_=>JU m r (i+1)
def stOp(rs:List (Nat×Bool×Nat))(sz:Nat)(x v:X):Op:=match rs with | []=>.st sz x v | rs=>.lM rs sz x v
def age(rs:List (Nat×Bool×Nat))(sz b:Nat)(x v:X):Op:=match rs with | []=>.cQ sz b x v | rs=>.lO rs sz b x v
def lJ(done:List aS):List aS->List Nat->List aS
 | ⟨d,g,.jQ _ f xs⟩::r,m::ms=>let o:aS:=⟨d,g,.jQ (JU m done 0) f xs⟩;o::lJ (done++[o]) r ms
 | ⟨d,g,.st sz x v⟩::r,m::ms=>let o:aS:=⟨d,g,stOp (JU m done 0) sz x v⟩;o::lJ (done++[o]) r ms
 | ⟨d,g,.cQ sz b x v⟩::r,m::ms=>let o:aS:=⟨d,g,age (JU m done 0) sz b x v⟩;o::lJ (done++[o]) r ms
 | o::r,_::ms=>o::lJ (done++[o]) r ms
 | l,_=>l
def adS(done:List aS):X->Bool
 | .t i=>done.any fun o=>match o.dst,o.op with | some j,.iv _ _ _ _=>yo i j | _,_=>ydp
 | _=>ydp
def GY(done:List aS):List aS->List aS
 | []=>[]
 | o::r=>(match o.op with | .cQ sz b x v=>bif adS done x then ⟨o.dst,o.guard,.rZ sz b x v⟩ else o | _=>o)::GY (done++[o]) r
def OQ(d:Option Nat):List aS->Bool
 | []=>ydp
 | ⟨_,_,.cQ _ _ _ (.t i)⟩::r=>Vb d (F5 i)||OQ d r
 | _::r=>OQ d r
def EP(all:List aS):List aS->List aS
 | []=>[]
 | o::r=>(match o.op with | .iv n sz z ps=>bif OQ o.dst all then ⟨o.dst,o.guard,.ni n sz z ps⟩ else o | _=>o)::EP all r
def waits(m:Nat):List aS->Nat->Bool
 | [],_=>ydp
 | o::r,i=>(vH m i&&yo (bl o.op) 2)||waits m r (i+1)
def early(all:List aS):List aS->List Nat->Nat->List Nat
 | o::r,m::ms,i=>bif !yo (bl o.op) 2&& !waits m all 0 then i::early all r ms (i+1) else early all r ms (i+1)
 | _,_,_=>[]
def late(all:List aS):List aS->List Nat->Nat->List Nat
 | o::r,m::ms,i=>bif !yo (bl o.op) 2&& !waits m all 0 then late all r ms (i+1) else i::late all r ms (i+1)
 | _,_,_=>[]
def places(l:List aS)(ms:List Nat):List Nat:=early l l ms 0++late l l ms 0
def Gs(m:Nat):List Nat->Nat->Nat
 | [],_=>0
 | x::r,i=>(bif vH m x then 2^i else 0)|||Gs m r (i+1)
def CS(l:List aS):List Nat->List aS
 | []=>[]
 | x::r=>match l[x]? with | some o=>o::CS l r | none=>CS l r
def Cw(ms pm all:List Nat):List Nat->List Nat
 | []=>[]
 | x::r=>Gs (ms.getD x 0) pm 0::Cw ms pm all r
def Kc(n:Nat)(pm inv:List Nat):Bool:=
 yo pm.length n&&(xo n).all fun i=>yM (pm.getD i i) n&&(yM (inv.getD i i) n&&(yo (inv.getD (pm.getD i i) i) i&&yo (pm.getD (inv.getD i i) i) i))
def Aj(pm:List Nat)(n:Nat):List Nat:=(xo n).map fun x=>(iw x pm 0).getD x
abbrev aF:=Nat->Option aD
structure Lib where
 pure:Nat->Option (List AV->Option AV)
 heap:Nat->Option (Hp->Nat->List AV->gL)
abbrev cu:=VC->St->Option (Ex×St)
def fG:Nat->List AV->Env
 | _,[]=>[]
 | i,v::r=>(i,v)::fG (i+1) r
def results1(s:St):RV->Option AV
 | .t i=>F5 (aj s.tm i)
 | .cell i sz ag=>
  match aj s.tm i with
  | .ptr id o=>match ak s.hp id with | some (.cells _ _ _ _ cs)=>fU sz ag (cs.drop o) | _=>F6
  | .bt cs=>fU sz ag cs
  | _=>F6
def mM(s:St):List RV->Option (List AV)
 | []=>F5 []
 | r::rest=>match results1 s r,mM s rest with | some v,F5 vs=>F5 (v::vs) | _,_=>F6
def jo(s:St)(rs:List RV):Option AV:=
 match mM s rs with
 | some [v]=>F5 v
 | some vs=>F5 (.aw vs)
 | none=>F6
def bW(P:aF)(L:Lib)(self:cu)(n:Nat)(aq:List AV):Option AV:=
 match L.pure n with
 | some sp=>sp aq
 | none=>
  match P n with
  | none=>F6
  | some F=>
   match self F.body ⟨fG 0 aq,[],0,0⟩ with
   | some (.normal,s) | some (.ret,s)=>match jo s F.dX with | some v=>result s.hp v | none=>F6
   | _=>F6
def OR:Ex->sZ
 | .normal=>.none
 | .ret=>.ret
 | .exit id=>.exit id
def rD:Env->List Nat->List AV->Option Env
 | tm,[],[]=>F5 tm
 | tm,p::ps,v::vs=>rD ((p,v)::tm) ps vs
 | _,_,_=>F6
def js(P:aF)(L:Lib)(self:cu)(hp:Hp)(ct:Nat)(n:Nat)(aq:List AV):gL:=
 match L.heap n with
 | some sp=>sp hp ct aq
 | none=>
  match P n with
  | none=>F6
  | some F=>
   match self F.body ⟨fG 0 aq,hp,ct,ct⟩ with
   | some (.normal,s) | some (.ret,s)=>match jo s F.dX with | some v=>F5 (v,s.hp,s.ct) | none=>F6
   | _=>F6
def ie(self:cu)(hp:Hp)(ct:Nat)(l:Nat)(xs:List AV):gL:=
 match ak hp l with
 | some (.lp tm ps as_ body 0 _)=>
  match rD tm ps xs with
  | none=>F6
  | some tm'=>
   match self as_ ⟨tm',hp,ct,ct⟩ with
   | some (.normal,s1)=>
    match ak s1.hp l with
    | some (.lp gM qG Dl EQ 0 oc)=>
     match self body ⟨s1.tm,aU s1.hp l (.lp gM qG Dl EQ 1 oc),s1.ct,s1.ct⟩ with
     | some (ex,s2)=>
      match ak s2.hp l with
      | some (.lp lQ zm Mk KT 1 _)=>
       match ex with
       | .normal=>F5 (.bool ydo,aU s2.hp l (.lp lQ zm Mk KT 0 .none),s2.ct)
       | ex=>F5 (.bool ydp,aU s2.hp l (.lp lQ zm Mk KT 2 (OR ex)),s2.ct)
      | _=>F6
     | none=>F6
    | _=>F6
   | _=>F6
 | _=>F6
def eR(P:aF)(L:Lib)(self:cu)(hp:Hp)(ct:Nat)(m:Md)(fv:AV)(xs:List AV):gL:=
 match fv with
 | .fn (.f n) first cap=>
  match m with
  | .pure=>
   match cB deep hp (first++(xs++cap)) with
   | some (aq,aY)=>match bW P L self n aq with | some r=>F5 (shut r,aY,ct) | none=>F6
   | none=>F6
  | .own=>
   match cB deep hp (first++(xs++cap)) with
   | some (aq,aY)=>match bW P L self n aq with | some r=>F5 (own aY ct r) | none=>F6
   | none=>F6
  | .heap=>js P L self hp ct n (first++(xs++cap))
  | .dyn=>
   bif aE (first++(xs++cap)) then
    match bW P L self n (first++(xs++cap)) with | some r=>F5 (shut r,hp,ct) | none=>F6
   else js P L self hp ct n (first++(xs++cap))
 | .fn (.y l) _ _=>
  match m with
  | .heap | .dyn=>ie self hp ct l xs
  | _=>F6
 | _=>F6
def VP:AV->AV->Bool
 | .int k a,.int k' b=>decide (k=k')&&a==b
 | .bool a,.bool b=>a==b
 | .str a,.str b=>c6 a b
 | .af,.af=>ydo
 | .kL,.kL=>ydo
 | .ptr i o,.ptr j p=>yo i j&&yo o p
 | .ay i o n,.ay j p m=>yo i j&&(yo o p&&yo n m)
 | .map i,.map j=>yo i j
 | _,_=>ydp
def pU(tm:Env)(hp an:Hp):List (Nat×Bool×Nat)->Bool
 | []=>ydo
 | (sz,ag,x)::r=>
  match gU hp sz ag (aj tm x),gU an sz ag (aj tm x) with
  | some a,F5 b=>VP a b&&pU tm hp an r
  | _,_=>ydp
def jN(tm:Env)(id:Nat):List (Nat×Bool×Nat)->Bool
 | []=>ydo
 | (_,_,x)::r=>(match aj tm x with | .ptr j _=> !yo j id | .bt _=>ydo | _=>ydp)&&jN tm id r
def Aq(tm:Env)(s:AV)(rs:List (Nat×Bool×Nat)):Bool:=
 match s with
 | .ay id _ _=>jN tm id rs
 | .af | .ap _ _ _=>ydo
 | _=>ydp
def aX(P:aF)(L:Lib)(self:cu)(tm:Env)(hp:Hp)(ct:Nat)(o:Op):gL:=
 match o with
 | .call m f xs=>eR P L self hp ct m (ax tm f) (dK tm xs)
 | .jQ rs f xs=>
  match eR P L self hp ct .dyn (ax tm f) (dK tm xs) with
  | some (v,an,aH)=>bif pU tm hp an rs then F5 (v,an,aH) else F6
  | none=>F6
 | .lM rs sz x v=>
  match ax tm x with
  | .ptr id _=>bif jN tm id rs then cx tm hp ct (.st sz x v) else F6
  | _=>F6
 | .rZ sz b x v=>
  match Ai hp ct sz b (ax tm x) (jr hp sz (ax tm v)) with
  | some (v,b)=>F5 (v,(ct,b)::hp,ct+1)
  | none=>F6
 | .lO rs sz b x v=>
  match cx tm hp ct (.cQ sz b x v) with
  | some (v,an,aH)=>bif Aq tm (ax tm x) rs||pU tm hp an rs then F5 (v,an,aH) else F6
  | none=>F6
 | .st .. | .rW .. | .rY .. | .cQ .. | .r5 .. =>cx tm hp ct o
 | .box .. | .iv .. | .qF .. | .BT | .rX .. =>match cG tm hp ct o with | some (v,b)=>F5 (v,(ct,b)::hp,ct+1) | none=>F6
 | o=>match bh tm hp o with | some v=>F5 (v,hp,ct) | none=>F6
def put(d:Option Nat)(v:AV)(tm:Env):Env:=
 match d with
 | some i=>(i,v)::tm
 | none=>tm
def de(P:aF)(L:Lib)(self:cu):List aS->St->Option St
 | [],s=>F5 s
 | ⟨d,g,o⟩::r,s=>
  let want:=match g with | none=>F5 ydo | some (t,b)=>match aj s.tm t with | .bool c=>F5 (c==b) | .aw []=>F5 ydp | _=>F6
  match want with
  | some ydo=>
   match aX P L self s.tm s.hp s.ct o with
   | some (v,hp,ct)=>de P L self r {s with tm:=put d v s.tm,hp:=hp,ct:=ct}
   | none=>F6
  | some ydp=>de P L self r {s with tm:=put d (.aw []) s.tm}
  | none=>F6
def rH:List Nat->St->Option St
 | [],s=>F5 s
 | t::r,s=>
  match freeze deep s.hp (aj s.tm t) with
  | some (v,hp)=>rH r {s with tm:=(t,v)::s.tm,hp:=hp}
  | none=>F6
def bz(P:aF)(L:Lib)(self:cu):VC->St->Option (Ex×St)
 | .skip,s=>F5 (.normal,s)
 | .kQ ops,s=>match de P L self ops s with | some s'=>F5 (.normal,s') | none=>F6
 | .seq a b,s=>
  match bz P L self a s with
  | some (.normal,s1)=>bz P L self b s1
  | r=>r
 | .cond x a b,s=>
  match ax s.tm x with
  | .bool t=>bif t then bz P L self a s else bz P L self b s
  | _=>F6
 | .dE id a,s=>
  match bz P L self a s with
  | some (.exit j,s1)=>bif yo j id then F5 (.normal,s1) else F5 (.exit j,s1)
  | r=>r
 | .kp live,s=>F5 (.normal,bE live s)
 | .fz ts,s=>match rH ts s with | some s'=>F5 (.normal,s') | none=>F6
 | .loop live a,s=>
  match bz P L self a (bE live s) with
  | some (.normal,s1)=>self (.loop live a) s1
  | r=>r
 | .rf f ps as_ body,s=>
  match ax s.tm f with
  | .fn (.f n) first cap=>
   match L.heap n with
   | some _=>F6
   | none=>
    match js P L self ((s.ct,.lp s.tm ps as_ body 0 .none)::s.hp) (s.ct+1) n (first++(.fn (.y s.ct) [] []::cap)) with
    | some (_,hp,ct)=>
     match ak hp s.ct with
     | some (.lp _ _ _ _ st pe)=>
      bif yo st 1 then F6 else
      match pe with
      | .none=>F5 (.normal,{s with hp:=c7 hp s.ct,ct:=ct})
      | .ret=>F5 (.ret,{s with hp:=c7 hp s.ct,ct:=ct})
      | .exit id=>F5 (.exit id,{s with hp:=c7 hp s.ct,ct:=ct})
     | _=>F6
    | none=>F6
  | _=>F6
 | .exit id,s=>F5 (.exit id,s)
 | .ret,s=>F5 (.ret,s)
def ev(P:aF)(L:Lib)(n:Nat):cu:=Nat.rec (fun _ _=>F6) (fun _ ih=>bz P L ih) n
def Xq(P:aF)(L:Lib)(n:Nat)(f:Nat)(aq:List AV):Option AV:=bW P L (ev P L n) f aq
end
section
open Go
structure Pl where
 b:Nat
 o:Nat
 e:Nat
 z:Nat
abbrev Mp:=Nat->Option Pl
section
variable (ab:Nat->Nat)(m:Mp)(S:Nat->Prop)(w:yk)
mutual
def ae:AV->yh->Prop
 | .int k n,v=>v=.int k n
 | .bool b,v=>v=.bool b
 | .ao k b,v=>v=.float k b
 | .df k a b,v=>v=.complex k a b
 | .str s,v=>∃t:ByteArray,v=.string t/\t.data.toList.map xn=s
 | .kL,v=>v=.pointer F6
 | .ptr id o,v=>∃p,m id=F5 p/\v=.pointer (F5 ⟨p.b,p.o+o,F6⟩)
 | .bt cs,v=>∃b o,v=.pointer (F5 ⟨b,o,F6⟩)/\(cs=[]\/S b)/\aE cs=ydo/\bR cs b o
 | .af,v=>v=.slice F6 0 0
 | .ap ex n cs,v=>(∃b o c,v=.slice (F5 ⟨b,o,F6⟩) n c/\n<=c/\(ex=ydo->c=n)/\(cs=[]\/S b)/\aE cs=ydo/\bR cs b o)\/(∃a,v=.slice (F5 a) 0 0/\n=0/\cs=[])
 | .cM _ _ _ _,_=>False
 | .ay id o n,v=>∃p c,m id=F5 p/\v=.slice (F5 ⟨p.b,p.o+o,F6⟩) n c/\n<=c/\o+c*p.z=p.e
 | .fn (.f g) first cap,v=>∃fi ca:Array yh,v=.func (.func (ab g)) fi ca/\aB first fi.toList/\aB cap ca.toList
 | .fn (.y l) _ _,v=>∃p,m l=F5 p/\v=.func (.yield p.b) #[] #[]
 | .ir,v=>v=.nilFunc
 | .jw,v=>v=.map F6
 | .map id,v=>∃p,m id=F5 p/\v=.map (F5 p.b)
 | .jx ks vs,v=>∃b es clock,v=.map (F5 b)/\S b/\aE ks=ydo/\aE vs=ydo/\w.heap[b]? =F5 (.map es clock)/\
   aB ks (es.toList.map (·.key))/\aB vs (es.toList.map (·.val))
 | .it id,v=>∃p,m id=F5 p/\v=.pointer (F5 ⟨p.b,0,F6⟩)
 | .agg cs,v=>∃xs:Array yh,v=.agg xs/\aB cs xs.toList
 | .aw cs,v=>∃xs:Array yh,v=.tuple xs/\aB cs xs.toList
 | .undef,_=>True
def aB:List AV->List yh->Prop
 | [],us=>us=[]
 | c::cs,us=>∃u r,us=u::r/\ae c u/\aB cs r
def bR:List AV->Nat->Nat->Prop
 | [],_,_=>True
 | c::cs,b,o=>(∃u,w.cell? ⟨b,o,F6⟩=F5 u/\ae c u)/\bR cs b (o+1)
end
end
def gh(S:Nat->Prop)(w w':yk):Prop:=∀b,S b->w'.heap[b]? =w.heap[b]?
def Np{w w':yk}{b o:Nat}(h:w'.heap[b]? =w.heap[b]?):w'.cell? ⟨b,o,F6⟩=w.cell? ⟨b,o,F6⟩:=by
 simp only[World.cell?,h]
section
variable {ab:Nat->Nat}{m m':Mp}{S S':Nat->Prop}{w w':yk}
mutual
def mN(hm:∀id p,m id=F5 p->m' id=F5 p)(hS:∀b,S b->S' b)(hw:gh S w w'):
  ∀(v:AV) (u:yh),ae ab m S w v u->ae ab m' S' w' v u
 | .int _ _,_,h | .bool _,_,h | .ao _ _,_,h | .df _ _ _,_,h | .str _,_,h | .kL,_,h | .af,_,h | .ir,_,h | .jw,_,h | .undef,_,h=>by
  simpa only[ae] using h
 | .ptr id o,u,h=>by
  simp only[ae] at h ⊢;obtain⟨p,h1,h2⟩:=h;exact⟨p,hm _ _ h1,h2⟩
 | .bt cs,u,h=>by
  simp only[ae] at h ⊢;obtain⟨b,o,h1,h2,h3,h4⟩:=h;refine⟨b,o,h1,h2.imp id (hS b),h3,?_⟩;rcases h2 with rfl | h2
  .simp only [bR]
  .exact SK hm hS hw cs b o h2 h4
 | .ap ex n cs,u,h=>by
  simp only[ae] at h ⊢;rcases h with ⟨b,o,c,h1,h2,h3,h4,h5,h6⟩ | h
  .refine .inl ⟨b,o,c,h1,h2,h3,h4.imp id (hS b),h5,?_⟩;rcases h4 with rfl | h4
   .simp only [bR]
   .exact SK hm hS hw cs b o h4 h6
  .exact .inr h
 | .cM _ _ _ _,u,h=>by simp only[ae] at h
 | .ay id o n,u,h=>by
  simp only[ae] at h ⊢;obtain⟨p,c,h1,h2⟩:=h;exact⟨p,c,hm _ _ h1,h2⟩
 | .fn (.f g) first cap,u,h=>by
  simp only[ae] at h ⊢;obtain⟨fi,ca,h1,h2,h3⟩:=h;exact⟨fi,ca,h1,iJ hm hS hw first _ h2,iJ hm hS hw cap _ h3⟩
 | .fn (.y l) _ _,u,h=>by
  simp only[ae] at h ⊢;obtain⟨p,h1,h2⟩:=h;exact⟨p,hm _ _ h1,h2⟩
 | .map id,u,h=>by
  simp only[ae] at h ⊢;obtain⟨p,h1,h2⟩:=h;exact⟨p,hm _ _ h1,h2⟩
 | .jx ks vs,u,h=>by
  simp only[ae] at h ⊢;obtain⟨b,es,clock,h1,h2,h3,h4,h5,h6,h7⟩:=h;exact⟨b,es,clock,h1,hS b h2,h3,h4,(hw b h2).trans h5,iJ hm hS hw ks _ h6,iJ hm hS hw vs _ h7⟩
 | .it id,u,h=>by
  simp only[ae] at h ⊢;obtain⟨p,h1,h2⟩:=h;exact⟨p,hm _ _ h1,h2⟩
 | .agg cs,u,h=>by
  simp only[ae] at h ⊢;obtain⟨xs,h1,h2⟩:=h;exact⟨xs,h1,iJ hm hS hw cs _ h2⟩
 | .aw cs,u,h=>by
  simp only[ae] at h ⊢;obtain⟨xs,h1,h2⟩:=h;exact⟨xs,h1,iJ hm hS hw cs _ h2⟩
def iJ(hm:∀id p,m id=F5 p->m' id=F5 p)(hS:∀b,S b->S' b)(hw:gh S w w'):
  ∀(vs:List AV) (us:List yh),aB ab m S w vs us->aB ab m' S' w' vs us
 | [],us,h=>by simpa only[aB] using h
 | v::r,us,h=>by
  simp only[aB] at h ⊢;have⟨u,t,h1,h2,h3⟩:=h;exact⟨u,t,h1,mN hm hS hw v u h2,iJ hm hS hw r t h3⟩
def SK(hm:∀id p,m id=F5 p->m' id=F5 p)(hS:∀b,S b->S' b)(hw:gh S w w'):
  ∀(cs:List AV) (b o:Nat),S b->bR ab m S w cs b o->bR ab m' S' w' cs b o
 | [],_,_,_,_=>by simp only[bR]
 | c::cs,b,o,hb,h=>by
  simp only[bR] at h ⊢;have⟨⟨u,h1,h2⟩,h3⟩:=h;exact⟨⟨u,(Np (hw b hb)).trans h1,mN hm hS hw c u h2⟩,SK hm hS hw cs b (o+1) hb h3⟩
end
end
end
section
open Go
structure Hint where
 n:Nat
 br:FuncId->Option Nat
 live:Nat->List Nat
 out:Nat->Option (List Nat)
 mode:Nat->Md
 fz:Nat->List Nat
section
variable (P:xy)(H:Hint)
mutual
def eZ:yh->AV
 | .int k n=>.int k n
 | .bool b=>.bool b
 | .float k b=>.ao k b
 | .complex k a b=>.df k a b
 | .string s=>.str (s.data.toList.map xn)
 | .pointer F6=>.kL
 | .slice F6 0 0=>.af
 | .map F6=>.jw
 | .nilFunc=>.ir
 | .agg ⟨cs⟩=>.agg (Gt cs)
 | .tuple ⟨cs⟩=>.aw (Gt cs)
 | _=>.undef
def Gt:List yh->List AV
 | []=>[]
 | v::r=>eZ v::Gt r
end
def aJ:xB->X
 | .tmp t=>.t t
 | .const v=>.c (eZ v)
 | .global _=>.c .undef
 | .func f=>match H.br f with | some g=>.c (.fn (.f g) [] []) | none=>.c .undef
def iQ:List xB->List X
 | []=>[]
 | x::r=>aJ H x::iQ r
def cy(t:yA):Option Nat:=match P.info? t with | some i=>F5 i.size | none=>F6
def AF(t:yA):Option Nat:=match P.info? t with | some i=>F5 i.bytes | none=>F6
def mU(t:yA):Option AV:=match P.info? t with | some i=>(match i.zero with | some v=>F5 (eZ v) | none=>F6) | none=>F6
def dB(t:yA):Option Bool:=match P.underlying t with | some (.struct _) | some (.array _ _)=>F5 ydo | some _=>F5 ydp | none=>F6
def bad:Op:=.call .pure (.c .undef) []
def partsOf(place:Nat->Option (Nat×Nat)):List (Nat×xB)->Option (List (Nat×Nat×X))
 | []=>F5 []
 | (i,x)::r=>
  match place i,partsOf place r with
  | some (o,s),F5 l=>F5 ((o,s,aJ H x)::l)
  | _,_=>F6
def pN(self:yA->Option (List Nat)):List uk->Nat->Option (List Nat)
 | [],_=>F5 []
 | f::r,o=>
  match self f.type,cy P f.type with
  | some ks,F5 s=>
   bif f.name != "_"&&yo f.offset o&&yo ks.length s&& !P.stoodInHeld f.type then
    (match pN self r (o+s) with | some l=>F5 (ks++l) | none=>F6)
   else F6
  | _,_=>F6
def kinds:Nat->yA->Option (List Nat)
 | 0,_=>F6
 | n+1,t=>
  match P.underlying t with
  | some .bool=>F5 [0]
  | some (.int _)=>F5 [1]
  | some .string=>F5 [2]
  | some (.struct fs)=>pN P (fun u=>kinds n u) fs.toList 0
  | some (.array k e)=>
   match kinds n e,cy P e with
   | some ks,F5 s=>bif yo ks.length s&& !P.stoodInHeld e then F5 (yE k ks).flatten else F6
   | _,_=>F6
  | _=>F6
def BB(t:yA):Bool:=match P.underlying t with | some (.int _)=>ydo | _=>ydp
def keyOf(t:yA):Option Nat:=
 match P.underlying t with
 | some .bool=>F5 0
 | some (.int _)=>F5 1
 | some .string=>F5 2
 | some (.struct fs)=>bif fs.toList.all (fun f=>BB P f.type)&& !P.stoodInHeld t then
   (match kinds P 20 t with | some ks=>(bif yo ks.length fs.size then F5 (fs.size+3) else F6) | none=>F6) else F6
 | _=>F6
def pV(ne:Bool)(t:yA)(a b:xB):Op:=
 match kinds P 20 t with
 | some ks=>bif P.stoodInHeld t||P.eqGuardType P.depth t then bad else .eq ne (.ag ks) (aJ H a) (aJ H b)
 | none=>bad
def oG(ne:Bool)(op:wY)(t:yA)(a b:xB):Op:=
 match P.underlying t with
 | some (.int _) | some .string | some (.float _) | some (.complex _)=>.bin op (aJ H a) (aJ H b)
 | some .bool=>.eq ne .b (aJ H a) (aJ H b)
 | some (.slice _)=>.eq ne .sl (aJ H a) (aJ H b)
 | some (.func _ _ _)=>.eq ne .fn (aJ H a) (aJ H b)
 | some (.struct _) | some (.array _ _)=>pV P H ne t a b
 | _=>bad
def aQ(k:Nat)(o:yV):Op:=
 let x (y:xB):X:=aJ H y
 match o.op with
 | .move a | .assign a=>.zk (x a)
 | .pick c a b=>.pick (x c) (x a) (x b)
 | .alloc t=>match cy P t,mU P t with | some s,F5 z=>.box s (.c z) | _,_=>bad
 | .box t v=>match cy P t with | some s=>.box s (x v) | none=>bad
 | .build t parts=>
  match P.underlying t,mU P t with
  | some (.struct fs),F5 (.agg z)=>
   match fs.toList.mapM (fun f=>(P.info? f.type).map fun i=>(f.offset,i.size)) with
   | some pl=>(match partsOf H (fun i=>pl[i]?) parts.toList with | some ps=>.Ah z ps | none=>bad)
   | none=>bad
  | some (.array _ e),F5 (.agg z)=>
   match cy P e with
   | some s=>(match partsOf H (fun i=>F5 (i*s,s)) parts.toList with | some ps=>.Ah z ps | none=>bad)
   | none=>bad
  | _,_=>bad
 | .buildSlice t n parts=>
  match P.underlying t with
  | some (.slice e)=>
   match cy P e,mU P e with
   | some s,F5 z=>
    bif yC (n*s) 16777216 then
     (match partsOf H (fun i=>F5 (i*s,s)) parts.toList with | some ps=>.iv n s (yE n (cellsOf z)).flatten ps | none=>bad)
    else bad
   | _,_=>bad
  | _=>bad
 | .load t a=>match cy P t,dB P t with | some s,F5 ag=>.ld s ag (x a) | _,_=>bad
 | .store t a v=>match cy P t with | some s=>.st s (x a) (x v) | none=>bad
 | .nilCheck a=>.Lb (x a)
 | .binOp op t a b _=>
  match op with
  | .eql=>oG P H ydp op t a b
  | .neq=>oG P H ydo op t a b
  | _=>.bin op (x a) (x b)
 | .unOp op _ a=>.un op (x a)
 | .convert s d a=>
  match P.underlying s,P.underlying d with
  | some (.int _),F5 (.int k) | some (.float _),F5 (.int k)=>.cv (.toInt k) (x a)
  | some (.int _),F5 (.float k) | some (.float _),F5 (.float k)=>.cv (.toFlt k) (x a)
  | some .string,F5 .string=>.cv .str (x a)
  | _,_=>bad
 | .makeFunc (.func f) first cap=>match H.br f with | some g=>.HK (.f g) (iQ H first.toList) (iQ H cap.toList) | none=>bad
 | .makeMap t F6=>match P.underlying t with | some (.map ke _)=>(match keyOf P ke with | some _=>.BT | none=>bad) | _=>bad
 | .makeSlice t l c=>
  match P.underlying t with
  | some (.slice e)=>(match cy P e,AF P e,mU P e with | some s,F5 b,F5 z=>.qF s b (cellsOf z) (x l) (x c) | _,_,_=>bad)
  | _=>bad
 | .slice t a lo hi F6=>
  match P.underlying t with
  | some .string=>.rV .str (x a) (lo.map x) (hi.map x)
  | some (.slice e)=>(match cy P e with | some s=>.rV (.sl s) (x a) (lo.map x) (hi.map x) | none=>bad)
  | some (.array n e)=>(match cy P e with | some s=>.rV (.ar n s) (x a) (lo.map x) (hi.map x) | none=>bad)
  | _=>bad
 | .fieldAddr t a i=>
  match P.underlying t with
  | some (.struct fs)=>
   match fs[i]? with
   | some f=>(match cy P f.type with | some (_+1)=>.off f.offset (x a) | _=>bad)
   | none=>bad
  | _=>bad
 | .field t a i=>
  match P.underlying t with
  | some (.struct fs)=>
   match fs[i]? with
   | some f=>(match cy P f.type,dB P f.type with | some s,F5 ag=>.Mh f.offset s ag (x a) | _,_=>bad)
   | none=>bad
  | _=>bad
 | .indexAddr t a i=>
  match P.underlying t with
  | some (.slice e)=>(match cy P e with | some s=>.bj s (x a) (x i) | none=>bad)
  | some (.array n e)=>(match cy P e with | some s=>.nh n s (x a) (x i) | none=>bad)
  | _=>bad
 | .index t a i=>
  match P.underlying t with
  | some .string=>.HL (x a) (x i)
  | some (.array n e)=>(match cy P e,dB P e with | some s,F5 ag=>.HM n s ag (x a) (x i) | _,_=>bad)
  | _=>bad
 | .lookup t a i ok=>
  match P.underlying t with
  | some (.map ke e)=>(match keyOf P ke,mU P e with | some kk,F5 z=>.Q8 kk z ok (x a) (x i) | _,_=>bad)
  | _=>bad
 | .mapUpdate t a i v | .insert t a i v=>
  match P.underlying t with
  | some (.map ke _)=>(match keyOf P ke with | some kk=>.rW kk (x a) (x i) (x v) | none=>bad)
  | _=>bad
 | .range t a=>match P.underlying t with | some .string=>.rX (x a) | _=>bad
 | .next it ydo=>.rY (x it)
 | .extract t i=>.ext i (x t)
 | .call c=>
  match c.callee with
  | .value f=>(match H.mode k with | .dyn=>.jQ [] (x f) (iQ H c.args.toList) | md=>.call md (x f) (iQ H c.args.toList))
  | .builtin b=>
   match b,c.args.toList,c.argTypes.toList with
   | .append,[s,a],[t,u]=>
    match P.underlying t,P.underlying u with
    | some (.slice e),F5 (.slice _) | some (.slice e),F5 .string=>
     (match cy P e,AF P e,mU P e with | some sz,F5 by',F5 z=>(bif yo (cellsOf z).length sz then .cQ sz by' (x s) (x a) else bad) | _,_,_=>bad)
    | _,_=>bad
   | .len,[a],[t]=>
    match P.underlying t with
    | some (.array n _)=>.zk (.c (.int .i64 n))
    | some .string=>.len 0 (x a)
    | some (.slice _)=>.len 1 (x a)
    | some (.map _ _)=>.len 2 (x a)
    | _=>bad
   | .copy,[d,s],[t,_]=>
    match P.underlying t with
    | some (.slice e)=>(match cy P e with | some sz=>.r5 sz (x d) (x s) | none=>bad)
    | _=>bad
   | .min,l,_=>.mn (iQ H l)
   | .max,l,_=>.mx (iQ H l)
   | .real,[a],_=>.cv .re (x a)
   | .imag,[a],_=>.cv .im (x a)
   | .complex,[a,b],_=>.Mi (x a) (x b)
   | _,_,_=>bad
  | _=>bad
 | _=>bad
def UH(o:yV):Bool:=match o.op with | .call {callee:=.value _,..}=>ydo | _=>ydp
def KU(d:Option Nat):Bool:=match d with | some i=>yM i H.n | none=>ydo
def Bs(n:Nat):List Nat->Bool
 | []=>ydo
 | i::r=>yM i n&&Bs n r
def Ek(ops:Array yV):List yV->Nat->List aS×Nat
 | [],k=>([],k)
 | o::r,k=>
  let g:=match o.guard with
   | none=>F5 F6
   | some (j,b)=>match (ops[j]?).bind (·.dst) with | some t=>F5 (F5 (t,b)) | none=>F6
  match Ek ops r (k+(bif UH o then 1 else 0)) with
  | (l,k')=>
   match g,KU H o.dst with
   | some g,ydo=>(⟨o.dst,g,aQ P H k o⟩::l,k')
   | _,_=>(⟨o.dst,F6,bad⟩::l,k')
def CB(acc:List Nat):List Edge->Nat
 | []=>0
 | e::r=>bif Region.binds .any e then (2^e.on|||acc.getD e.on 0)|||CB acc r else CB acc r
def kK(acc:List Nat):List yV->List Nat
 | []=>acc
 | o::r=>kK (acc++[CB acc o.after.toList]) r
def oC:List yV->Nat->Bool
 | [],_=>ydo
 | o::r,i=>o.after.toList.all (fun e=> !Region.binds .any e||yM e.on i)&&oC r (i+1)
def Oq(ops:Array yV)(draw:Bool)(k:Nat):List aS×Nat:=
 match Ek P H ops ops.toList k with
 | (l,k')=>
  bif draw then
   (let ms:=kK [] ops.toList
    let l':=lJ [] l ms
    bif oC ops.toList 0&&rq [] l' ms then (l',k') else bif oC ops.toList 0&&rq [] (GY [] l') ms then (GY [] l',k') else
    (let pm:=places l ms
    let zn:=Cw ms pm pm pm
    let l2:=lJ [] (CS (EP l l) pm) zn
    bif oC ops.toList 0&&(Kc ops.size pm (Aj pm ops.size)&&rq [] l2 zn) then (l2,k') else ([⟨F6,F6,bad⟩],k')))
  else (l,k')
def asQ:vA->Bool
 | .loop _=>ydo
 | _=>ydp
def comp:vA->Nat->Nat->VC×Nat×Nat
 | .skip,l,k | .label _,l,k=>(.skip,l,k)
 | .region i ops d,l,k=>match Oq P H ops d k with | (r,k')=>((match H.fz i with | []=>.kQ r | t::ts=>.seq (.fz (t::ts)) (.kQ r)),l,k')
 | .seq a b,l,k=>match comp a l k with | (a',l1,k1)=>match comp b l1 k1 with | (b',l2,k2)=>(.seq a' b',l2,k2)
 | .cond c a b,l,k=>
  match comp a (l+1) k with
  | (a',l1,k1)=>
   match comp b l1 k1 with
   | (b',l2,k2)=>(match H.out l with | some o=>.seq (.cond (aJ H c) a' b') (.kp o) | none=>.cond (aJ H c) a' b',l2,k2)
 | .block id a,l,k=>
  match comp a l k with
  | (a',r)=>(match asQ a,H.out l with | true,F5 o=>.seq (.dE id a') (.kp o) | _,_=>.dE id a',r)
 | .loop a,l,k=>match comp a (l+1) k with | (a',r)=>(.loop (H.live l) a',r)
 | .rangeFunc f ps as_ body,l,k=>
  match comp as_ l k with | (as',l1,k1)=>match comp body l1 k1 with | (b',l2,k2)=>(bif Bs H.n ps.toList then .rf (aJ H f) ps.toList as' b' else .kQ [⟨F6,F6,bad⟩],l2,k2)
 | .exit id,l,k=>(.exit id,l,k)
 | .scope a,l,k=>comp a l k
 | .ret,l,k=>(.ret,l,k)
 | .goto _,l,k | .refuse _,l,k=>(.kQ [⟨F6,F6,bad⟩],l,k)
def ru:List ResultVar->Option (List RV)
 | []=>F5 []
 | .tmp t::r=>match ru r with | some l=>F5 (.t t::l) | none=>F6
 | .cell a t::r=>match cy P t,dB P t,ru r with | some s,F5 ag,F5 l=>F5 (.cell a s ag::l) | _,_,_=>F6
def Gu(fn:Func):Option aD:=
 match fn.body,ru P fn.results.toList with
 | some c,F5 rs=>bif yC H.n fn.ntmps then F5 ⟨rs,(comp P H c 0 0).1⟩ else F6
 | _,_=>F6
end
end
section
open Go
structure bq where
 P:xy
 aI:Lib
 ab:Nat->Nat
 prog:aF
 hint:Nat->Hint
 w0:yk
def Dm(P:xy)(H:Hint)(v:VC)(c:vA):Prop:=∃l k,(comp P H c l k).1=v
def C2:Nat->LoopState
 | 0=>.ready
 | 1=>.busy
 | 2=>.done
 | _=>.exhausted
def Bm:sZ->Option vA
 | .none=>F6
 | .ret=>F5 .ret
 | .exit id=>F5 (.exit id)
section
variable (O:bq)(m:Mp)(S:Nat->Prop)(w:yk)
def bT(tm:Env)(tmps:Array yh):Prop:=∀i,ae O.ab m S w (aj tm i) (tmps.getD i undef)
def fk(id:Nat):Obj->Prop
 | .cells rw pu ex sz cs=>∃p arr t,m id=F5 p/\w.heap[p.b]? =F5 (.cells arr t (0,0))/\p.z=sz/\cs.length<=p.e/\p.o+p.e<=arr.size/\
   (ex=ydo->cs.length=p.e)/\bR O.ab m S w cs p.b p.o/\(pu=ydo->aE cs=ydo)/\(rw=ydo->¬S p.b)/\(rw=ydp->S p.b)
 | .mp rw ks vs=>∃p es clock,m id=F5 p/\w.heap[p.b]? =F5 (.map es clock)/\aB O.ab m S w ks (es.toList.map (·.key))/\aB O.ab m S w vs (es.toList.map (·.val))/\
   (rw=ydo->¬S p.b)/\(rw=ydp->S p.b)
 | .si s pos=>∃p t,m id=F5 p/\w.heap[p.b]? =F5 (.stringIter t pos)/\t.data.toList.map xn=s/\¬S p.b
 | .lp tm ps as_ body st pe=>∃p l h,m id=F5 p/\w.heap[p.b]? =F5 (.loop l)/\¬S p.b/\l.state=C2 st/\st<=2/\l.pending=Bm pe/\bT O m S w tm l.tmps/\
   l.params.toList=ps/\Dm O.P (O.hint h) as_ l.assign/\Dm O.P (O.hint h) body l.body/\(O.hint h).n<=l.tmps.size/\Bs (O.hint h).n ps=ydo
structure aT(hp:Hp)(ct:Nat):Prop where
 obj:∀id o p,ak hp id=F5 o->m id=F5 p->fk O m S w id o
 lt:∀id p,m id=F5 p->id<ct
 inj:∀i j oi oj pi pj,ak hp i=F5 oi->ak hp j=F5 oj->m i=F5 pi->m j=F5 pj->pi.b=pj.b->i=j
 slt:∀b,S b->b<w.heap.size
 blt:∀id p,m id=F5 p->p.b<w.heap.size
 low:∀id p,m id=F5 p->O.w0.heap.size<=p.b
 mW:∀b,b<O.w0.heap.size->w.heap[b]? =O.w0.heap[b]?
 gH:O.w0.heap.size<=w.heap.size
 aM:∀id o,ak hp id=F5 o->id<ct
end
def er(m:Mp)(hp:Hp)(b:Nat):Prop:=∃id o p,ak hp id=F5 o/\m id=F5 p/\p.b=b
structure cg(m:Mp)(S:Nat->Prop)(w:yk)(hp:Hp)(m':Mp)(S':Nat->Prop)(w':yk)(an:Hp)(base:Nat):Prop where
 os:w'.os=w.os
 tape:w'.tape=w.tape
 output:w'.output=w.output
 size:w.heap.size<=w'.heap.size
 same:∀b,b<w.heap.size->¬er m hp b->w'.heap[b]? =w.heap[b]?
 sub:∀b,S b->S' b
 still:∀b,S b->w'.heap[b]? =w.heap[b]?
 new:∀b,S' b->S b\/er m hp b\/w.heap.size<=b
 own:∀b,er m' an b->er m hp b\/w.heap.size<=b
 old:∀id p,id<base->m id=F5 p->m' id=F5 p
 loops:∀(b:Nat) (r:td),w.heap[b]? =F5 (.loop r)->∃r':td,w'.heap[b]? =F5 (.loop r')
def cg.refl{m:Mp}{S:Nat->Prop}{w:yk}{hp:Hp}{base:Nat}:cg m S w hp m S w hp base:=
 ⟨rfl,rfl,rfl,yx _,fun _ _ _=>rfl,fun _ h=>h,fun _ _=>rfl,fun _ h=>.inl h,fun _ h=>.inl h,fun _ _ _ h=>h,fun _ r h=>⟨r,h⟩⟩
def cg.trans{m m' Ml:Mp}{S S' Dn:Nat->Prop}{w w' Q9:yk}{hp an Lc:Hp}{base:Nat}(h:cg m S w hp m' S' w' an base)(k:cg m' S' w' an Ml Dn Q9 Lc base):cg m S w hp Ml Dn Q9 Lc base where
 os:=k.os.trans h.os
 tape:=k.tape.trans h.tape
 output:=k.output.trans h.output
 size:=xu h.size k.size
 same b hb ho:=(k.same b (yG hb h.size) (fun jF=>(h.own b jF).elim ho (fun h1=>by omega))).trans (h.same b hb ho)
 sub b hb:=k.sub b (h.sub b hb)
 still b hb:=(k.still b (h.sub b hb)).trans (h.still b hb)
 new b hb:=by
  rcases k.new b hb with h1 | h1 | h1
  .exact h.new b h1
  .rcases h.own b h1 with h2 | h2
   .grind
   .grind
  .exact .inr (.inr (xu h.size h1))
 own b hb:=by
  rcases k.own b hb with h1 | h1
  .exact h.own b h1
  .exact .inr (xu h.size h1)
 old id p hid hp:=k.old id p hid (h.old id p hid hp)
 loops b r hb:=let ⟨r',h1⟩:=h.loops b r hb;k.loops b r' h1
end
section
open Go
section
variable {ab:Nat->Nat}{m:Mp}{S:Nat->Prop}{w:yk}
mutual
def Ot:∀v:yh,ae ab m S w (eZ v) v
 | .int _ _ | .bool _ | .float _ _ | .complex _ _ _=>by simp only[eZ,ae]
 | .string s=>by simp only[eZ,ae];exact⟨s,rfl,rfl⟩
 | .pointer F6=>by simp only[eZ,ae]
 | .pointer (F5 _)=>by simp only[eZ,ae]
 | .slice F6 0 0=>by simp only[eZ,ae]
 | .slice F6 0 (_+1)=>by simp only[eZ,ae]
 | .slice F6 (_+1) _=>by simp only[eZ,ae]
 | .slice (F5 _) _ _=>by simp only[eZ,ae]
 | .map F6=>by simp only[eZ,ae]
 | .map (F5 _)=>by simp only[eZ,ae]
 | .nilFunc=>by simp only[eZ,ae]
 | .agg ⟨cs⟩=>by simp only[eZ,ae];exact⟨⟨cs⟩,rfl,Tz cs⟩
 | .tuple ⟨cs⟩=>by simp only[eZ,ae];exact⟨⟨cs⟩,rfl,Tz cs⟩
 | .chan _ | .func _ _ _ | .iface _ _ | .nilIface=>by simp only[eZ,ae]
def Tz:∀l:List yh,aB ab m S w (Gt l) l
 | []=>by simp only[Gt,aB]
 | v::r=>by simp only[Gt,aB];exact⟨v,r,rfl,Ot v,Tz r⟩
end
end
def fh(O:bq)(H:Hint):Prop:=∀f g,H.br f=F5 g->O.ab g=f
section
variable {O:bq}{H:Hint}{m:Mp}{S:Nat->Prop}{w:yk}{tm:Env}{a:Act}
def bX(hH:fh O H)(ht:bT O m S w tm a.tmps)(x:xB):ae O.ab m S w (ax tm (aJ H x)) (a.eval x):=by
 cases x with
 | tmp t=>exact ht t
 | const v=>simp only[aJ,ax,Act.eval];exact Ot v
 | global g=>simp only[aJ,ax,ae]
 | func f=>
  simp only[aJ,Act.eval]
  cases hr:H.br f with
  | none=>simp only[ax,ae]
  | some g=>simp only[ax,ae,hH f g hr,aB];exact⟨#[],#[],rfl,rfl,rfl⟩
def Eu(hH:fh O H)(ht:bT O m S w tm a.tmps):∀l:List xB,aB O.ab m S w (dK tm (iQ H l)) (l.map a.eval)
 | []=>by simp only[iQ,dK,List.map_nil,aB]
 | x::r=>by simp only[iQ,dK,xe,aB];exact⟨_,_,rfl,bX hH ht x,Eu hH ht r⟩
end
section
variable {O:bq}{m:Mp}{S:Nat->Prop}{w:yk}
def sN{ab:Nat->Nat}:∀(k:Nat) (cs:List AV) (b o:Nat),bR ab m S w cs b o->bR ab m S w (cs.drop k) b (o+k)
 | 0,cs,b,o,h=>by simpa using h
 | k+1,[],b,o,_=>by simp only[List.drop_nil,bR]
 | k+1,c::cs,b,o,h=>by
  have:=sN k cs b (o+1) h.2
  grind
def A5{ab:Nat->Nat}:∀(k:Nat) (cs:List AV) (b o:Nat),bR ab m S w cs b o->bR ab m S w (cs.take k) b o
 | 0,cs,b,o,_=>by simp only[ybm,bR]
 | k+1,[],b,o,_=>by simp only[List.take_nil,bR]
 | k+1,c::cs,b,o,h=>by
  exact⟨h.1,A5 k cs b (o+1) h.2⟩
def zR{ab:Nat->Nat}:∀(cs:List AV) (b o:Nat),bR ab m S w cs b o->
  ∃us:List yh,aB ab m S w cs us/\us.length=cs.length/\∀j u,us[j]? =F5 u->w.cell? ⟨b,o+j,F6⟩=F5 u
 | [],b,o,_=>⟨[],by simp only[aB],rfl,fun j u h=>by simp at h⟩
 | c::cs,b,o,h=>by
  obtain⟨⟨u,h1,h2⟩,h3⟩:=h;obtain⟨us,h4,h5,h6⟩:=zR cs b (o+1) h3;refine⟨u::us,by simp only[aB];exact⟨u,us,rfl,h2,h4⟩,by simp[h5],fun j v hv=>?_⟩
  cases j with
  | zero=>simp at hv;subst hv;simpa using h1
  | succ j=>simp at hv;have:=h6 j v hv;rw[show o+(j+1)=o+1+j by omega];exact this
def ic{ab:Nat->Nat}:∀(cs:List AV) (us:List yh),aB ab m S w cs us->us.length=cs.length
 | [],us,h=>by simp only[aB] at h;subst h;rfl
 | c::cs,us,h=>by
  obtain⟨u,r,rfl,_,h3⟩:=h;simp[ic cs r h3]
end
end
section
open Go
def oH(b o j:Nat):(⟨b,o,F6⟩:uR).add j=⟨b,o+j,F6⟩:=by
 unfold Addr.add;split<;>simp_all
section
variable {P:xy}{w:yk}
def akE(t:yA)(b o:Nat)(us:List yh)(ha:dB P t=F5 ydo)(hz:cy P t=F5 us.length)(h:∀j u,us[j]? =F5 u->w.cell? ⟨b,o+j,F6⟩=F5 u):(loadVar t ⟨b,o,F6⟩).run P w=.ok (.agg us.toArray) w:=by
 have hl:=run_loadCells_list (P:=P) w ⟨b,o,F6⟩ us (fun j u hu=>by rw[oH];exact h j u hu)
 unfold cy at hz
 cases hi:P.info? t with
 | none=>simp[hi] at hz
 | some i=>
  unfold dB at ha
  cases hu:P.underlying t with
  | none=>simp[hu] at ha
  | some d=>cases d<;>simp_all[loadVar,isAgg,vB,typeInfo,underlying]
def akF(t:yA)(b o:Nat)(u:yh)(ha:dB P t=F5 ydp)(h:w.cell? ⟨b,o,F6⟩=F5 u):(loadVar t ⟨b,o,F6⟩).run P w=.ok u w:=by
 unfold dB at ha
 cases hu:P.underlying t with
 | none=>simp[hu] at ha
 | some d=>cases d<;>simp_all[loadVar,isAgg,underlying]
end
section
variable {O:bq}{m:Mp}{S:Nat->Prop}{w:yk}
def Ou{t:yA}{sz:Nat}{ag:Bool}{cs:List AV}{b o:Nat}{v:AV}(hz:cy O.P t=F5 sz)(ha:dB O.P t=F5 ag)(hr:bR O.ab m S w cs b o)(hv:fU sz ag cs=F5 v):∃u,(loadVar t ⟨b,o,F6⟩).run O.P w=.ok u w/\ae O.ab m S w v u:=by
 cases ag with
 | true=>
  simp only[fU,yu] at hv
  cases hle:yC sz cs.length with
  | false=>simp only[hle,yO] at hv;cases hv
  | true=>
   simp only[hle,yu,yc] at hv;subst hv;obtain⟨us,h1,h2,h3⟩:=zR _ _ _ (A5 sz cs b o hr);have hlen:us.length=sz:=by
    simp_all
   refine⟨.agg us.toArray,akE t b o us ha (by rw[hlen];exact hz) h3,?_⟩
   simp only[ae]
   grind
 | false=>
  simp only[fU,yO] at hv
  cases cs with
  | nil=>simp at hv
  | cons c cs=>
   simp only[yc] at hv;subst hv;obtain⟨⟨u,h1,h2⟩,_⟩:=hr;exact⟨u,akF t b o u ha h1,h2⟩
def acG{t:yA}{sz o:Nat}{ag:Bool}{cs:List AV}{xs:Array yh}{v:AV}(hz:cy O.P t=F5 sz)(ha:dB O.P t=F5 ag)(hr:aB O.ab m S w cs xs.toList)(hv:fU sz ag (cs.drop o)=F5 v):∃u,(part t xs o).run O.P w=.ok u w/\ae O.ab m S w v u:=by
 have hd:∀(k:Nat) (cs:List AV) (us:List yh),aB O.ab m S w cs us->aB O.ab m S w (cs.drop k) (us.drop k):=by
  intro k
  induction k with
  | zero=>intro cs us h;simpa using h
  | succ k ih=>
   intro cs us h
   cases cs with
   | nil=>simp only[aB] at h;subst h;simp[aB]
   | cons c cs=>simp only[aB] at h;obtain⟨u,r,rfl,_,h3⟩:=h;simpa using ih cs r h3
 have fa:∀(k:Nat) (cs:List AV) (us:List yh),aB O.ab m S w cs us->aB O.ab m S w (cs.take k) (us.take k):=by
  intro k
  induction k with
  | zero=>intro cs us h;simp[aB]
  | succ k ih=>
   intro cs us h
   cases cs with
   | nil=>simp only[aB] at h;subst h;simp[aB]
   | cons c cs=>simp only[aB] at h;obtain⟨u,r,rfl,h2,h3⟩:=h;simp only[wF,aB];exact⟨u,_,rfl,h2,ih cs r h3⟩
 have agf:(isAgg t).run O.P w=.ok ag w:=by
  unfold dB at ha
  cases hu:O.P.underlying t with
  | none=>simp[hu] at ha
  | some d=>cases d<;>simp_all[isAgg,underlying]
 have eJ:(vB t).run O.P w=.ok sz w:=by
  unfold cy at hz
  cases hi:O.P.info? t with
  | none=>simp[hi] at hz
  | some i=>simp_all[vB,typeInfo]
 have bB:=hd o cs xs.toList hr
 cases ag with
 | true=>
  simp only[fU,yu] at hv
  cases hle:yC sz (cs.drop o).length with
  | false=>simp only[hle,yO] at hv;cases hv
  | true=>
   simp only[hle,yu,yc] at hv;subst hv;refine⟨.agg (xs.extract o (o+sz)),by simp[part,Sem.run_bind,agf,eJ],?_⟩;simp only[ae]
   simp_all
 | false=>
  simp only[fU,yO] at hv
  cases hc:cs.drop o with
  | nil=>simp[hc] at hv
  | cons c r=>
   simp only[hc,yc] at hv;subst hv;rw[hc] at bB;simp only[aB] at bB;obtain⟨u,us,h1,h2,_⟩:=bB;have hx:xs[o]? =F5 u:=by
    have:xs.toList[o]? =F5 u:=by
     have:=congrArg (fun l=>l[0]?) h1
     simpa using this
    simpa using this
   exact⟨u,by simp[part,Sem.run_bind,agf,hx],h2⟩
end
end
section
open Go
section
variable {v:AV}{k:xg}{b:Nat}
def nL(t:ByteArray):List Nat:=t.data.toList.map xn
def acH:∀a b:List UInt8,c6 (a.map xn) (b.map xn)=(a==b)
 | [],[]=>rfl
 | [],_::_=>rfl
 | _::_,[]=>rfl
 | a::x,b::y=>by
  have h:yo a.toNat b.toNat=(a==b):=by
   rw[yaI,ydi,yan];exact ybK
  simp only[xe,c6,acH x y,h,List.cons_beq_cons]
def acI:∀a b:List UInt8,Dj (a.map xn) (b.map xn)=Op.bytesLess a b
 | [],[]=>rfl
 | [],_::_=>rfl
 | _::_,[]=>rfl
 | a::x,b::y=>by
  have h:yo a.toNat b.toNat=(a==b):=by
   rw[yaI,ydi,yan];exact ybK
  have h2:yM a.toNat b.toNat=decide (a<b):=by
   rw[yaI];simp only[yM,ydj,vZ,UInt8.lt_iff_toNat_lt]
   lia
  simp only[xe,Dj,Op.bytesLess,acI x y,h,h2]
def aam(s t:ByteArray):c6 (nL s) (nL t)=(s.toList==t.toList):=by
 rw[nL,nL,acH,ByteArray.toList_eq,ByteArray.toList_eq]
def al0(s t:ByteArray):Dj (nL s) (nL t)=Op.bytesLess s.toList t.toList:=by
 rw[nL,nL,acI,ByteArray.toList_eq,ByteArray.toList_eq]
def aan(s:ByteArray):(nL s).length=s.size:=by
 rw[nL,List.length_map,Lib.size_eq]
section
variable {ab:Nat->Nat}{P:xy}{m:Mp}{S:Nat->Prop}{w:yk}{t:yA}
def anI{op:wY}{x y:Int}(h:mT op k x y=F5 v):
  ∃u,(xX op t (.int k x) (.int k y)).run P w=.ok u w/\ae ab m S w v u:=by
 cases op<;>simp only[mT,intCmp,yc] at h
 case quo=>
  by_cases hy:y=0
  .grind
  .simp only [hy,xz,yc] at h;subst h;exact⟨_,by simp[xX,Op.intDiv,hy];rfl,by simp[ae]⟩
 case rem=>
  by_cases hy:y=0
  .grind
  .simp only [hy,xz,yc] at h;subst h;exact⟨_,by simp[xX,Op.intDiv,hy];rfl,by simp[ae]⟩
 case shl=>cases h
 case shr=>cases h
 all_goals
  subst h;exact⟨_,by simp[xX,Op.intCmp];rfl,by simp[ae]⟩
def ZG{op:wY}{k':xg}{x y:Int}(h:Ej op k x y=F5 v):
  ∃u,(xX op t (.int k x) (.int k' y)).run P w=.ok u w/\ae ab m S w v u:=by
 unfold Ej at h;by_cases hy:y<0
 .grind
 .simp only [hy,xz] at h;cases op<;>simp only[yc] at h
  case shl=>subst h;exact⟨_,by simp[xX,Op.shift,hy];rfl,by simp[ae]⟩
  case shr=>subst h;exact⟨_,by simp[xX,Op.shift,hy];rfl,by simp[ae]⟩
  all_goals cases h
def anJ{op:wY}{x y:ByteArray}(h:KQ op (nL x) (nL y)=F5 v):
  ∃u,(xX op t (.string x) (.string y)).run P w=.ok u w/\ae ab m S w v u:=by
 cases op<;>simp only[KQ,aam,al0,aan,yc] at h
 case add=>
  cases hle:yC (x.size+y.size) 9223372036854775807 with
  | false=>rw[hle] at h;cases h
  | true=>
   rw[hle] at h;simp only[yu,yc] at h;subst h;have aFs:=yt hle;have ayS:¬(((x.size+y.size:Nat):Int)>IntKind.i64.max):=by
    have:IntKind.i64.max=9223372036854775807:=by decide
    grind
   refine⟨.string (x++y),?_,?_⟩
   .simp only [xX,Op.stringOp,yp ayS,Sem.run_pure]
   .simp only [ae];exact⟨x++y,rfl,by simp[nL]⟩
 all_goals first
  | (cases h;done)
  | (subst h;exact⟨_,by simp[xX,Op.stringOp];rfl,by simp[ae]⟩)
def anK{op:wY}{k:wm}{x y:Nat}(h:GX op k x y=F5 v):
  ∃u,(xX op t (.float k x) (.float k y)).run P w=.ok u w/\ae ab m S w v u:=by
 cases op<;>simp only[GX,yc] at h
 case add=>
  cases hr:k.format.add x y with
  | none=>simp[hr] at h
  | some r=>simp only[hr,yc] at h;subst h;exact⟨.float k r,by simp[xX,Op.floatArith,hr],by simp[ae]⟩
 case sub=>
  cases hr:k.format.sub x y with
  | none=>simp[hr] at h
  | some r=>simp only[hr,yc] at h;subst h;exact⟨.float k r,by simp[xX,Op.floatArith,hr],by simp[ae]⟩
 case mul=>
  cases hr:k.format.mul x y with
  | none=>simp[hr] at h
  | some r=>simp only[hr,yc] at h;subst h;exact⟨.float k r,by simp[xX,Op.floatArith,hr],by simp[ae]⟩
 case quo=>
  cases hr:k.format.div x y with
  | none=>simp[hr] at h
  | some r=>simp only[hr,yc] at h;subst h;exact⟨.float k r,by simp[xX,Op.floatArith,hr],by simp[ae]⟩
 all_goals first
  | (cases h;done)
  | (subst h;exact⟨_,by simp[xX,Op.floatCmp];rfl,by simp[ae]⟩)
def acJ(k:wm)(x y:Nat):(Op.Complex.cmp .eql k x y).run P w=.ok (k.format.order x y==F5 .eq) w:=by
 simp[Op.Complex.cmp,Op.floatCmp,asBool]
def z8{op:wY}{k:wm}{x y r:Nat}(h:nj op k x y=F5 r):(Op.Complex.arith op k x y).run P w=.ok r w:=by
 unfold nj at h
 split at h
 .simp [Op.Complex.arith,Op.floatArith,h]
 .simp [Op.Complex.arith,Op.floatArith,h]
 .simp [Op.Complex.arith,Op.floatArith,h]
 .cases h
def Gw{s k:wm}{r:Nat}(h:Dk s k b=F5 r):(Op.Complex.conv s b k).run P w=.ok r w:=by
 unfold Dk at h;unfold Op.Complex.conv;by_cases hk:s=k
 .rw [yz hk] at h ⊢;cases h;rfl
 .rw [yp hk] at h ⊢
  cases hd:s.decode b with
  | nan _ _=>simp[hd] at h
  | infinity _=>simp[hd] at h
  | number sg m e=>
   simp only[hd] at h
   cases hi:(k.decode (k.encode (.number sg m e))).isInfinity with
   | true=>simp[hi] at h
   | false=>simp[hi] at h;subst h;simp[Conv.floatToFloat,hk,hd,hi]
def al1{k:wm}{a c d:Nat}(h:UG k a b c d=F5 v):
  ∃u,(xX .mul t (.complex k a b) (.complex k c d)).run P w=.ok u w/\ae ab m S w v u:=by
 unfold UG at h
 split at h
 .rename_i a' b' c' d' h1 h2 h3 h4
  split at h
  .rename_i p q r s g1 g2 g3 g4
   split at h
   .rename_i e f k1 k2
    split at h
    .rename_i e' f' l1 l2;cases h;exact⟨.complex k e' f',by simp[xX,Op.complexOp,Op.Complex.product,Op.Complex.mul,Op.Complex.sub,Op.Complex.add,Gw h1,Gw h2,Gw h3,Gw h4,z8 g1,z8 g2,z8 g3,z8 g4,z8 k1,z8 k2,Gw l1,Gw l2],by simp[ae]⟩
    .cases h
   .cases h
  .cases h
 .cases h
def anL{op:wY}{k:wm}{a c d:Nat}(h:U9 op k a b c d=F5 v):
  ∃u,(xX op t (.complex k a b) (.complex k c d)).run P w=.ok u w/\ae ab m S w v u:=by
 cases op<;>simp only[U9,yc,reduceCtorEq] at h
 case add=>
  cases h1:nj .add k a c with
  | none=>simp[h1] at h
  | some r=>
   cases h2:nj .add k b d with
   | none=>simp[h1,h2] at h
   | some i=>
    simp only[h1,h2,yc] at h;subst h;exact⟨.complex k r i,by simp[xX,Op.complexOp,z8 h1,z8 h2],by simp[ae]⟩
 case sub=>
  cases h1:nj .sub k a c with
  | none=>simp[h1] at h
  | some r=>
   cases h2:nj .sub k b d with
   | none=>simp[h1,h2] at h
   | some i=>
    simp only[h1,h2,yc] at h;subst h;exact⟨.complex k r i,by simp[xX,Op.complexOp,z8 h1,z8 h2],by simp[ae]⟩
 case mul=>exact al1 h
 case eql=>subst h;exact⟨_,by simp[xX,Op.complexOp,acJ];rfl,by simp[ae]⟩
 case neq=>subst h;exact⟨_,by simp[xX,Op.complexOp,acJ];rfl,by simp[ae]⟩
def anM{op:wY}{vx vy:AV}{x y:yh}(hx:ae ab m S w vx x)(hy:ae ab m S w vy y)(h:VE.binOp op vx vy=F5 v):
  ∃u,(xX op t x y).run P w=.ok u w/\ae ab m S w v u:=by
 unfold VE.binOp at h
 split at h
 .rename_i k a k' b;simp only[ae] at hx hy;subst hx;subst hy
  split at h
  .exact ZG h
  .exact ZG h
  .by_cases hk:k=k'
   .subst hk;simp only[xJ] at h;exact anI h
   .simp [hk] at h
 .rename_i k a k' b;simp only[ae] at hx hy;subst hx;subst hy;by_cases hk:k=k'
  .subst hk;simp only[xJ] at h;exact anK h
  .simp [hk] at h
 .rename_i a b;simp only[ae] at hx hy;obtain⟨s,rfl,rfl⟩:=hx;obtain⟨s',rfl,rfl⟩:=hy;exact anJ h
 .rename_i k a b k' c d;simp only[ae] at hx hy;subst hx;subst hy;by_cases hk:k=k'
  .subst hk;simp only[xJ] at h;exact anL h
  .simp [hk] at h
 .cases h
end
end
end
section
open Go
section
variable {v vx:AV}{vr:Bool}{d:Nat}{x:yh}
section
variable {ab:Nat->Nat}{P:xy}{m:Mp}{S:Nat->Prop}{w:yk}{t:yA}
def alb{op:wY}{x y:xB}{a b:yh}(h:P.eqGuardType P.depth t=ydp\/∀xs ys,¬(a=.agg xs/\b=.agg ys))(hn:a≠.nilIface):
  (eqGuard op t x y a b).run P w=.ok () w:=by
 unfold eqGuard;cases op
 all_goals first
  | rfl
  | (
    cases a
    all_goals first
     | rfl
     | exact absurd rfl hn
     | (
      cases b
      all_goals first
       | rfl
       | (
         rcases h with h | h
         .simp [h]
         .exact absurd ⟨rfl,rfl⟩ (h _ _))))
def asR{p q:Bool}(ht:P.underlying t=F5 .bool):(Op.equalIn (d+1) t (.bool p) (.bool q)).run P w=.ok (p==q) w:=by
 simp[Op.equalIn,underlying,ht]
def Vc{e:yA}(ht:P.underlying t=F5 (.slice e))(y:Option uR)(n c n' c':Nat):
  (Op.equalIn (d+1) t (.slice F6 n c) (.slice y n' c')).run P w=.ok y.isNone w:=by simp[Op.equalIn,underlying,ht]
def aeI{e:yA}(ht:P.underlying t=F5 (.slice e))(x:uR)(n c n' c':Nat):
  (Op.equalIn (d+1) t (.slice (F5 x) n c) (.slice F6 n' c')).run P w=.ok ydp w:=by simp[Op.equalIn,underlying,ht]
def awU{ps rs:Array yA}(ht:P.underlying t=F5 (.func ps rs vr)):
  (Op.equalIn (d+1) t .nilFunc .nilFunc).run P w=.ok ydo w:=by simp[Op.equalIn,underlying,ht]
def aeJ{ps rs:Array yA}(ht:P.underlying t=F5 (.func ps rs vr))(f:Go.Fn)(a b:Array yh):
  (Op.equalIn (d+1) t .nilFunc (.func f a b)).run P w=.ok ydp w:=by simp[Op.equalIn,underlying,ht]
def aeK{ps rs:Array yA}(ht:P.underlying t=F5 (.func ps rs vr))(f:Go.Fn)(a b:Array yh):
  (Op.equalIn (d+1) t (.func f a b) .nilFunc).run P w=.ok ydp w:=by simp[Op.equalIn,underlying,ht]
def TA(x y:yh):Op.equal t x y=Op.equalIn (9999+1) t x y:=rfl
def ap9{vy:AV}{y:yh}{r:Bool}{e:yA}(ht:P.underlying t=F5 (.slice e))(hx:ae ab m S w vx x)(hy:ae ab m S w vy y)(h:kO .sl vx vy=F5 r):(Op.equal t x y).run P w=.ok r w:=by
 unfold kO at h
 split at h<;>simp_all only [yc,reduceCtorEq]
 all_goals subst h
 .subst hx;subst hy;exact Vc ht _ _ _ _ _
 .rcases hy with ⟨b,o,c,rfl,_⟩ | ⟨_,rfl,_⟩<;>(subst hx;exact Vc ht _ _ _ _ _)
 .obtain ⟨p,c,_,rfl,_⟩:=hy;subst hx;exact Vc ht _ _ _ _ _
 .rcases hx with ⟨b,o,c,rfl,_⟩ | ⟨_,rfl,_⟩<;>(subst hy;exact aeI ht _ _ _ _ _)
 .obtain ⟨p,c,_,rfl,_⟩:=hx;subst hy;exact aeI ht _ _ _ _ _
def aqa{vy:AV}{y:yh}{r:Bool}{ps rs:Array yA}(ht:P.underlying t=F5 (.func ps rs vr))(hx:ae ab m S w vx x)(hy:ae ab m S w vy y)(h:kO .fn vx vy=F5 r):(Op.equal t x y).run P w=.ok r w:=by
 unfold kO at h
 split at h<;>simp_all only [yc,reduceCtorEq]
 all_goals subst h
 .simp only [ae] at hx hy;subst hx;subst hy;exact awU ht
 .rename_i f _ _
  cases f with
  | f g=>simp only[ae] at hx hy;obtain⟨fi,ca,rfl,_⟩:=hy;subst hx;exact aeJ ht _ _ _
  | y l=>simp only[ae] at hx hy;obtain⟨p,_,rfl⟩:=hy;subst hx;exact aeJ ht _ _ _
 .rename_i f _ _
  cases f with
  | f g=>simp only[ae] at hx hy;obtain⟨fi,ca,rfl,_⟩:=hx;subst hy;exact aeK ht _ _ _
  | y l=>simp only[ae] at hx hy;obtain⟨p,_,rfl⟩:=hx;subst hy;exact aeK ht _ _ _
def aqb{op:ycU}(hx:ae ab m S w vx x)(h:VE.unOp op vx=F5 v):∃u,(Op.unary op x).run P w=.ok u w/\ae ab m S w v u:=by
 unfold VE.unOp at h
 split at h
 .rename_i k n;subst hx;simp only[yc] at h;subst h;exact⟨_,by simp[Op.unary,Op.intArith];rfl,by simp[ae]⟩
 .rename_i k n;subst hx;simp only[mT,yc] at h;subst h;exact⟨_,by simp[Op.unary,Op.intBits];rfl,by simp[ae]⟩
 .rename_i b;subst hx;simp only[yc] at h;subst h;exact⟨_,by simp[Op.unary];rfl,by simp[ae]⟩
 .rename_i k b;subst hx;simp only[yc] at h;subst h;exact⟨_,by simp[Op.unary,Op.negFloat];rfl,by simp[ae]⟩
 .cases h
def abm{s d:yA}{k:xg}(hd:P.underlying d=F5 (.int k))(hs:(∃k',P.underlying s=F5 (.int k'))\/∃k',P.underlying s=F5 (.float k'))(hx:ae ab m S w vx x)(h:jW (.toInt k) vx=F5 v):∃u,(convert s d x).run P w=.ok u w/\ae ab m S w v u:=by
 cases vx<;>simp only[jW,reduceCtorEq] at h
 case int k0 n=>
  simp only[ae] at hx;subst hx;simp only[yc] at h;subst h;refine⟨.int k (k.wrap n),?_,by simp[ae]⟩;rcases hs with ⟨k',h'⟩ | ⟨k',h'⟩<;>simp[convert,underlying,Conv.intToInt,hd,h']
 case ao sk b=>
  subst hx
  cases hi:(sk.decode b).toInt .zero with
  | none=>simp[hi] at h
  | some n=>
   simp only[hi] at h;by_cases hr:k.min<=n/\n<=k.max
   .simp only [hr,and_self,xJ,yc] at h;subst h;refine⟨.int k n,?_,by simp[ae]⟩;rcases hs with ⟨k',h'⟩ | ⟨k',h'⟩<;>simp[convert,underlying,Conv.floatToInt,hd,h',hi,hr]
   .grind
def abn{s d:yA}{k:wm}(hd:P.underlying d=F5 (.float k))(hs:(∃k',P.underlying s=F5 (.int k'))\/∃k',P.underlying s=F5 (.float k'))(hx:ae ab m S w vx x)(h:jW (.toFlt k) vx=F5 v):∃u,(convert s d x).run P w=.ok u w/\ae ab m S w v u:=by
 cases vx<;>simp only[jW,reduceCtorEq] at h
 case int k0 n=>
  simp only[ae] at hx;subst hx;simp only[yc] at h;subst h;refine⟨.float k (k.nearest n),?_,by simp[ae]⟩;rcases hs with ⟨k',h'⟩ | ⟨k',h'⟩<;>simp[convert,underlying,Conv.intToFloat,hd,h']
 case ao sk b=>
  simp only[ae] at hx;subst hx;by_cases he:sk=k
  .subst he;simp only[xJ,yc] at h;subst h;refine⟨.float sk b,?_,by simp[ae]⟩;rcases hs with ⟨k',h'⟩ | ⟨k',h'⟩<;>simp[convert,underlying,Conv.floatToFloat,hd,h']
  .simp only [he,xz] at h
   cases Ar:sk.decode b with
   | nan _ _=>simp[Ar] at h
   | infinity _=>simp[Ar] at h
   | number sg mm ee=>
    simp only[Ar] at h
    cases VQ:(k.decode (k.encode (.number sg mm ee))).isInfinity with
    | true=>simp[VQ] at h
    | false=>
     simp only[VQ,yD,xz,yc] at h;subst h;refine⟨.float k (k.encode (.number sg mm ee)),?_,by simp[ae]⟩;rcases hs with ⟨k',h'⟩ | ⟨k',h'⟩<;>simp[convert,underlying,Conv.floatToFloat,hd,h',he,Ar,VQ]
def anN{s d:yA}(hd:P.underlying d=F5 .string)(hs:P.underlying s=F5 .string)(hx:ae ab m S w vx x)(h:jW .str vx=F5 v):∃u,(convert s d x).run P w=.ok u w/\ae ab m S w v u:=by
 cases vx<;>simp only[jW,reduceCtorEq] at h
 simp only[yc] at h;subst h;obtain⟨b,rfl,hb⟩:=hx;exact⟨.string b,by simp[convert,underlying,hs,hd],by simp only[ae];exact⟨b,rfl,hb⟩⟩
end
end
end
section
open Go
section
variable {v vx:AV}{hp:Hp}{k:Nat}{P:xy}{x:yh}
def al2(h:dt v=F5 k):∃kd,v=.int kd (k:Int):=by
 cases v<;>simp only[dt,reduceCtorEq] at h
 rename_i kd n
 cases n with
 | ofNat j=>simp only[yc] at h;subst h;exact⟨kd,rfl⟩
 | negSucc j=>cases h
section
variable {O:bq}{H:Hint}{m:Mp}{S:Nat->Prop}{w:yk}{tm:Env}{a:Act}
def Bj{ab:Nat->Nat}(hx:ae ab m S w v x)(h:dt v=F5 k):∃kd,x=.int kd (k:Int):=by
 obtain⟨kd,rfl⟩:=al2 h;simp only[ae] at hx
 grind
def run_sliceBound{kd:xg}{y:Nat}{code:BoundsCode}(h:k<=y):(Instr.sliceBound (.int kd (k:Int)) y code).run P w=.ok k w:=by
 have:(0:Int)<=(k:Int)/\(k:Int)<=(y:Int):=by lia
 simp[Instr.sliceBound,asIntOf,this]
def S7{isSlice:Bool}{len cap l h:Nat}{lo hi:Option xB}(hH:fh O H)(ht:bT O m S w tm a.tmps)(hl:cX tm 0 (lo.map (aJ H))=F5 l)(hh:cX tm len (hi.map (aJ H))=F5 h)(h1:l<=h)(h2:h<=cap):
  (Instr.sliceBounds isSlice len cap (lo.map a.eval) (hi.map a.eval) F6).run P w=.ok (l,h,cap) w:=by
 cases lo with
 | none=>
  simp only[uG,cX,yc] at hl;subst hl
  cases hi with
  | none=>
   simp only[uG,cX,yc] at hh;subst hh;simp[Instr.sliceBounds]
  | some y=>
   have⟨kd,e⟩:=Bj (bX hH ht y) hh;simp only[Instr.sliceBounds,uG,wO,e,Sem.run_bind,Sem.run_pure,Result.andThen_ok,run_sliceBound h2]
 | some x=>
  have⟨kd,e⟩:=Bj (bX hH ht x) hl
  cases hi with
  | none=>
   simp only[uG,cX,yc] at hh;subst hh;simp only[Instr.sliceBounds,uG,wO,e,Sem.run_bind,Sem.run_pure,Result.andThen_ok,run_sliceBound h1]
  | some y=>
   have⟨Xr,e'⟩:=Bj (bX hH ht y) hh;simp only[Instr.sliceBounds,wO,e,e',Sem.run_bind,Sem.run_pure,Result.andThen_ok,run_sliceBound h2,run_sliceBound h1]
def al3{t:yA}{lo hi:Option xB}(hH:fh O H)(ht:bT O m S w tm a.tmps)(hu:O.P.underlying t=F5 .string)(hx:ae O.ab m S w vx x)(h:fI hp .str vx tm (lo.map (aJ H)) (hi.map (aJ H))=F5 v):
  ∃u,(Instr.sliceAt t x (lo.map a.eval) (hi.map a.eval) F6).run O.P w=.ok u w/\ae O.ab m S w v u:=by
 cases vx<;>simp only[fI,reduceCtorEq] at h
 obtain⟨b,rfl,rfl⟩:=hx
 cases hl:cX tm 0 (lo.map (aJ H)) with
 | none=>simp[hl] at h
 | some l=>
  simp only[hl] at h
  cases hh:cX tm (b.data.toList.map xn).length (hi.map (aJ H)) with
  | none=>rw[hh] at h;cases h
  | some g=>
   rw[hh] at h;simp only at h
   cases hc:(yC l g&&yC g (b.data.toList.map xn).length) with
   | false=>rw[hc] at h;cases h
   | true=>
    rw[hc] at h;simp only[yu,yc] at h;subst h;simp only[ye] at hc;have h1:=yt hc.1;have h2:=yt hc.2;have hlen:(b.data.toList.map xn).length=b.size:=aan b;rw[hlen] at hh h2;refine⟨.string (b.extract l g),?_,?_⟩
    .simp only [Instr.sliceAt,Sem.run_bind,run_underlying hu,Result.andThen_ok,Instr.slice,yae,yD,xz,Sem.run_pure,
      S7 (P:=O.P) (isSlice:=ydp) (len:=b.size) (cap:=b.size) hH ht hl hh h1 h2]
    .simp only [ae];refine⟨_,rfl,?_⟩;rw[Lib.extract_data,List.map_take,List.map_drop,List.drop_take]
def anO{t e:yA}{sz:Nat}{lo hi:Option xB}(hH:fh O H)(ht:bT O m S w tm a.tmps)(hu:O.P.underlying t=F5 (.slice e))(hz:cy O.P e=F5 sz){ct:Nat}(hh:aT O m S w hp ct)(hx:ae O.ab m S w vx x)(h:fI hp (.sl sz) vx tm (lo.map (aJ H)) (hi.map (aJ H))=F5 v):
  ∃u,(Instr.sliceAt t x (lo.map a.eval) (hi.map a.eval) F6).run O.P w=.ok u w/\ae O.ab m S w v u:=by
 have eJ:(vB e).run O.P w=.ok sz w:=by
  unfold cy at hz
  cases hi:O.P.info? e with
  | none=>simp[hi] at hz
  | some i=>simp_all[vB,typeInfo]
 have Kd:∀(ad:Option uR) (n c l g:Nat),cX tm 0 (lo.map (aJ H))=F5 l->cX tm n (hi.map (aJ H))=F5 g->l<=g->g<=c->
   (Instr.sliceAt t (.slice ad n c) (lo.map a.eval) (hi.map a.eval) F6).run O.P w=.ok (.slice (if c=l then ad else ad.map (·.add (l*sz))) (g-l) (c-l)) w:=by
  intro ad n c l g hl hg h1 h2
  simp only[Instr.sliceAt,Sem.run_bind,run_underlying hu,Result.andThen_ok,Instr.slice,Sem.run_pure,eJ,
   S7 (P:=O.P) (isSlice:=ydo) (len:=n) (cap:=c) hH ht hl hg h1 h2]
 cases vx<;>simp only[fI,reduceCtorEq] at h
 case af=>
  simp only[ae] at hx;subst hx
  cases hl:cX tm 0 (lo.map (aJ H)) with
  | none=>simp[hl] at h
  | some l=>
   cases l with
   | succ l=>simp[hl] at h
   | zero=>
    simp only[hl] at h
    cases hh:cX tm 0 (hi.map (aJ H)) with
    | none=>simp[hh] at h
    | some g=>
     cases g with
     | succ g=>simp[hh] at h
     | zero=>
      simp only[hh,yc] at h;subst h;exact⟨_,Kd F6 0 0 0 0 hl hh (yx _) (yx _),by simp[ae]⟩
 case ap ex n cs=>
  simp only[ae] at hx;rcases hx with ⟨b,o,c,rfl,Mm,hex,hS,iT,BU⟩ | ⟨ad,rfl,rfl,rfl⟩
  case inr=>
   cases hl:cX tm 0 (lo.map (aJ H)) with
   | none=>simp[hl] at h
   | some l=>
    simp only[hl] at h
    cases hh:cX tm 0 (hi.map (aJ H)) with
    | none=>simp[hh] at h
    | some g=>
     simp only[hh] at h
     cases hc:(yC l g&&yC g 0) with
     | false=>rw[hc] at h;cases h
     | true=>
      rw[hc] at h;simp only[yu,yc] at h;subst h;simp only[ye] at hc;have h1:=yt hc.1;have h2:=yt hc.2;have hg:g=0:=by lia
      subst hg;have lR:l=0:=by lia
      subst lR;refine⟨_,Kd (F5 ad) 0 0 0 0 hl hh h1 h2,?_⟩;simp only[ae];exact .inr ⟨ad,by simp,by simp,by simp[slice]⟩
  cases hl:cX tm 0 (lo.map (aJ H)) with
  | none=>simp[hl] at h
  | some l=>
   simp only[hl] at h
   cases hh:cX tm n (hi.map (aJ H)) with
   | none=>simp[hh] at h
   | some g=>
    simp only[hh] at h
    cases hc:(yC l g&&yC g n) with
    | false=>rw[hc] at h;cases h
    | true=>
     rw[hc] at h;simp only[yu,yc] at h;subst h;simp only[ye] at hc;have h1:=yt hc.1;have h2:=yt hc.2;refine⟨_,Kd (F5 ⟨b,o,F6⟩) n c l g hl hh h1 (by lia),?_⟩;have ER:aE (slice (l*sz) ((g-l)*sz) cs)=ydo:=by
      have pd:∀(k:Nat) (cs:List AV),aE cs=ydo->aE (cs.drop k)=ydo:=by
       intro k
       induction k with
       | zero=>intro cs h;simpa using h
       | succ k ih=>intro cs h;cases cs with
        | nil=>simpa using h
        | cons c cs=>simp only[aE,ye] at h;simpa using ih cs h.2
      have pt:∀(k:Nat) (cs:List AV),aE cs=ydo->aE (cs.take k)=ydo:=by
       intro k
       induction k with
       | zero=>intro cs h;simp[aE]
       | succ k ih=>intro cs h;cases cs with
        | nil=>simp[aE]
        | cons c cs=>simp only[aE,ye,wF] at h ⊢;exact⟨h.1,ih cs h.2⟩
      exact pt _ _ (pd _ _ iT)
     have agh:(ex&&yo g n)=ydo->c-l=g-l:=by
      intro hq;simp only[ye] at hq
      have:=hex hq.1
      have:=yf hq.2
      lia
     simp only[ae];by_cases fe:c=l
     .have h0:g-l=0:=by lia
      have qH:slice (l*sz) ((g-l)*sz) cs=[]:=by simp[slice,h0]
      rw[qH];exact .inl ⟨b,o,c-l,by simp[fe],by lia,agh,.inl rfl,rfl,by simp[bR]⟩
     .refine .inl ⟨b,o+l*sz,c-l,by simp[fe,oH],by lia,agh,?_,ER,?_⟩
      .rcases hS with rfl | hS
       .exact .inl (by simp[slice])
       .exact .inr hS
      .exact A5 _ _ _ _ (sN _ _ _ _ BU)
 case ay id o n=>
  simp only[ae] at hx;obtain⟨p,c,hm,rfl,Mm,Ra⟩:=hx
  split at h
  case h_2=>cases h
  rename_i Xs pu0 AG z0 cs0 ES;have⟨p',arr,t',jG,_,dw,_⟩:=hh.obj id _ _ ES hm;rw[hm] at jG;injection jG with jG
  subst jG
  cases hl:cX tm 0 (lo.map (aJ H)) with
  | none=>simp[hl] at h
  | some l=>
   simp only[hl] at h
   cases hh:cX tm n (hi.map (aJ H)) with
   | none=>simp[hh] at h
   | some g=>
    simp only[hh] at h
    cases hc:(yC l g&&yC g n&&yo z0 sz) with
    | false=>rw[hc] at h;cases h
    | true=>
     rw[hc] at h;simp only[yu] at h;simp only[ye] at hc;have h1:=yt hc.1.1;have h2:=yt hc.1.2;have hpz:p.z=sz:=dw.trans (yf hc.2)
     cases he:(yo l g&& !yo l 0) with
     | true=>
      rw[he] at h;simp only[yu,yc] at h;subst h;simp only[ye] at he;have Dp:=yf he.1;refine⟨_,Kd (F5 ⟨p.b,p.o+o,F6⟩) n c l g hl hh h1 (by lia),?_⟩;simp only[ae];by_cases fe:c=l
      .exact .inl ⟨p.b,p.o+o,c-l,by simp[fe];lia,by lia,by simp,by simp,by simp[aE],by simp[bR]⟩
      .exact .inl ⟨p.b,p.o+o+l*sz,c-l,by simp[fe,oH];lia,by lia,by simp,by simp,by simp[aE],by simp[bR]⟩
     | false=>
      rw[he] at h;simp only[yO,yc] at h;subst h;have fe:c=l->l=0:=by
       intro fe;have Dp:l=g:=by lia
       cases lR:yo l 0 with
       | true=>exact yf lR
       | false=>rw[Dp,wQ,<-Dp,lR] at he;cases he
      refine⟨_,Kd (F5 ⟨p.b,p.o+o,F6⟩) n c l g hl hh h1 (by lia),?_⟩;simp only[ae];refine⟨p,c-l,hm,?_,by lia,?_⟩
      .by_cases VR:c=l
       .have:=fe VR;subst this;subst VR;simp
       .simp [VR,oH,tY]
      .rw [hpz] at Ra ⊢
       have:c*sz=l*sz+(c-l)*sz:=by rw[<-xY];congr 1;lia
       lia
def anP{t e:yA}{n sz:Nat}{lo hi:Option xB}(hH:fh O H)(ht:bT O m S w tm a.tmps)(hu:O.P.underlying t=F5 (.array n e))(hz:cy O.P e=F5 sz)(hx:ae O.ab m S w vx x)(h:fI hp (.ar n sz) vx tm (lo.map (aJ H)) (hi.map (aJ H))=F5 v):
  ∃u,(Instr.sliceAt t x (lo.map a.eval) (hi.map a.eval) F6).run O.P w=.ok u w/\ae O.ab m S w v u:=by
 have eJ:(vB e).run O.P w=.ok sz w:=by
  unfold cy at hz
  cases hi:O.P.info? e with
  | none=>simp[hi] at hz
  | some i=>simp_all[vB,typeInfo]
 cases vx<;>simp only[fI,reduceCtorEq] at h
 rename_i cs;simp only[ae] at hx;obtain⟨b,o,rfl,hS,iT,BU⟩:=hx
 cases hl:cX tm 0 (lo.map (aJ H)) with
 | none=>simp[hl] at h
 | some l=>
  simp only[hl] at h
  cases hh:cX tm n (hi.map (aJ H)) with
  | none=>simp[hh] at h
  | some g=>
   simp only[hh] at h
   cases hc:(yo l 0&&yo g n&&(yM 0 n&&yC (n*sz) cs.length)) with
   | false=>rw[hc] at h;cases h
   | true=>
    rw[hc] at h;simp only[yu,yc] at h;subst h;simp only[ye] at hc;have h1:=yf hc.1.1;have h2:=yf hc.1.2;have h3:0<n:=yt hc.2.1;subst h1 h2;have eK:¬g=0:=by omega
    refine⟨.slice (F5 ⟨b,o,F6⟩) g g,?_,?_⟩
    .simp only [Instr.sliceAt,Sem.run_bind,run_underlying hu,Result.andThen_ok,Instr.sureAddr,Sem.run_pure,eJ,
      S7 (P:=O.P) (isSlice:=ydp) (len:=g) (cap:=g) hH ht hl hh (Nat.zero_le _) (yx _)]
     simp[oH]
    .have pt:∀(k:Nat) (cs:List AV),aE cs=ydo->aE (cs.take k)=ydo:=by
      intro k
      induction k with
      | zero=>intro cs h;simp[aE]
      | succ k ih=>intro cs h;cases cs with
       | nil=>simp[aE]
       | cons c cs=>simp only[aE,ye,wF] at h ⊢;exact⟨h.1,ih cs h.2⟩
     simp only[ae];refine .inl ⟨b,o,g,rfl,yx _,fun _=>rfl,?_,pt _ _ iT,A5 _ _ _ _ BU⟩;rcases hS with rfl | hS
     .exact .inl (by simp)
     .exact .inr hS
end
end
end
section
open Go
section
variable {v vi vx:AV}{ag:Bool}{cs:List AV}{k sz:Nat}{i x:yh}
def pM{P:xy}{w:yk}{t:yA}(hz:cy P t=F5 sz):(vB t).run P w=.ok sz w:=by
 unfold cy at hz
 cases hi:P.info? t with
 | none=>simp[hi] at hz
 | some i=>simp_all[vB,typeInfo]
section
variable {O:bq}{H:Hint}{m:Mp}{S:Nat->Prop}{w:yk}{tm:Env}{a:Act}{hp:Hp}{ct:Nat}
def TB{id o n:Nat}{rw pu ex:Bool}{p:Pl}(hh:aT O m S w hp ct)(hg:ak hp id=F5 (.cells rw pu ex sz cs))(hm:m id=F5 p):
  bR O.ab m S w cs p.b p.o:=by
 have⟨p',arr,t',jG,_,_,_,_,_,hr,_⟩:=hh.obj id _ _ hg hm
 grind
def awV{t:yA}(hh:aT O m S w hp ct)(hz:cy O.P t=F5 sz)(ha:dB O.P t=F5 ag)(hx:ae O.ab m S w vx x)(h:gU hp sz ag vx=F5 v):∃u,(Instr.loadAt t x).run O.P w=.ok u w/\ae O.ab m S w v u:=by
 cases vx<;>simp only[gU,reduceCtorEq] at h
 case ptr id o=>
  obtain⟨p,hm,rfl⟩:=hx
  split at h
  case h_2=>cases h
  rename_i Xs pu0 AG z0 cs0 ES;have hr:=TB (id:=id) (o:=0) (n:=0) hh ES hm;have⟨u,h1,h2⟩:=Ou hz ha (sN o cs0 p.b p.o hr) h;exact⟨u,by simp only[Instr.loadAt,Instr.sureAddr,Sem.run_bind,Sem.run_pure,Result.andThen_ok];exact h1,h2⟩
 case bt cs=>
  obtain⟨b,o,rfl,_,_,hr⟩:=hx;have⟨u,h1,h2⟩:=Ou hz ha hr h;exact⟨u,by simp only[Instr.loadAt,Instr.sureAddr,Sem.run_bind,Sem.run_pure,Result.andThen_ok];exact h1,h2⟩
def A6:∀(k:Nat) (cs:List AV),aE cs=ydo->aE (cs.drop k)=ydo
 | 0,cs,h=>by simpa using h
 | k+1,[],h=>by simpa using h
 | k+1,c::cs,h=>by simp only[aE,ye] at h;simpa using A6 k cs h.2
def S8{b o:Nat}(h2:cs=[]\/S b)(h3:aE cs=ydo)(h4:bR O.ab m S w cs b o):ae O.ab m S w (.bt (cs.drop k)) (.pointer (F5 ⟨b,o+k,F6⟩)):=by
 refine⟨b,o+k,rfl,?_,A6 k cs h3,sN k cs b o h4⟩
 grind
def asS{t:yA}{fs:Array uk}{i:Nat}{f:uk}(hu:O.P.underlying t=F5 (.struct fs))(hf:fs[i]? =F5 f)(hz:cy O.P f.type=F5 (sz+1))(hx:ae O.ab m S w vx x)(h:CQ f.offset vx=F5 v):∃u,(Instr.fieldAt t x i).run O.P w=.ok u w/\ae O.ab m S w v u:=by
 have aeL:∀(b o:Nat),(Instr.fieldAt t (.pointer (F5 ⟨b,o,F6⟩)) i).run O.P w=.ok (.pointer (F5 ⟨b,o+f.offset,F6⟩)) w:=by
  intro b o;simp only[Instr.fieldAt,Sem.run_bind,run_underlying hu,Result.andThen_ok,hf,Instr.sureAddr,Sem.run_pure,fieldPlace,pM hz,Nat.succ_ne_zero,xz,oH]
 cases vx<;>simp only[CQ,reduceCtorEq] at h
 case ptr id o=>
  obtain⟨p,hm,rfl⟩:=hx;simp only[yc] at h;subst h;exact⟨_,aeL _ _,by simp only[ae];exact⟨p,hm,by rw[tY]⟩⟩
 case bt cs=>
  obtain⟨b,o,rfl,h2,h3,h4⟩:=hx
  cases hc:yC f.offset cs.length with
  | false=>rw[hc] at h;cases h
  | true=>
   rw[hc] at h;simp only[yu,yc] at h;subst h;exact⟨_,aeL _ _,S8 h2 h3 h4⟩
def asT{t:yA}{fs:Array uk}{i:Nat}{f:uk}(hu:O.P.underlying t=F5 (.struct fs))(hf:fs[i]? =F5 f)(hz:cy O.P f.type=F5 sz)(ha:dB O.P f.type=F5 ag)(hx:ae O.ab m S w vx x)(h:Pg f.offset sz ag vx=F5 v):∃u,(Instr.field t x i).run O.P w=.ok u w/\ae O.ab m S w v u:=by
 cases vx<;>simp only[Pg,reduceCtorEq] at h
 obtain⟨xs,rfl,hr⟩:=hx;have⟨u,h1,h2⟩:=acG hz ha hr h;exact⟨u,by simp only[Instr.field,Sem.run_bind,run_underlying hu,Result.andThen_ok,hf,asAgg,Sem.run_pure];exact h1,h2⟩
def asU{t e:yA}(hu:O.P.underlying t=F5 (.slice e))(hz:cy O.P e=F5 sz)(hx:ae O.ab m S w vx x)(hi:ae O.ab m S w vi i)(hk:dt vi=F5 k)(h:ik sz k vx=F5 v):∃u,(Instr.indexAt t x i).run O.P w=.ok u w/\ae O.ab m S w v u:=by
 obtain⟨kd,rfl⟩:=Bj hi hk;have KV:∀(b o n c:Nat),k<n->(Instr.indexAt t (.slice (F5 ⟨b,o,F6⟩) n c) (.int kd (k:Int))).run O.P w=.ok (.pointer (F5 ⟨b,o+k*sz,F6⟩)) w:=by
  intro b o n c pg;have hr:(0:Int)<=(k:Int)/\(k:Int)<(n:Int):=by lia
  simp[Instr.indexAt,asIntOf,run_underlying hu,pM hz,hr,oH]
  grind
 cases vx<;>simp only[ik,reduceCtorEq] at h
 case ay id o n=>
  obtain⟨p,c,hm,rfl,Mm,Ra⟩:=hx
  cases hc:yM k n with
  | false=>rw[hc] at h;cases h
  | true=>
   rw[hc] at h;simp only[yu,yc] at h;subst h;have pg:k<n:=by simp_all
   exact⟨_,KV _ _ _ _ pg,by simp only[ae];exact⟨p,hm,by rw[tY]⟩⟩
 case ap ex n cs=>
  rcases hx with ⟨b,o,c,rfl,Mm,hex,h2,h3,h4⟩ | ⟨a,rfl,rfl,rfl⟩
  case inr=>
   have:yM k 0=ydp:=by cases hq:yM k 0 with | false=>rfl | true=>simp only[yM,ydj] at hq;lia
   grind
  cases hc:yM k n with
  | false=>rw[hc] at h;cases h
  | true=>
   rw[hc] at h;simp only[yu,yc] at h;subst h;have pg:k<n:=by simp_all
   exact⟨_,KV _ _ _ _ pg,S8 h2 h3 h4⟩
def asV{t e:yA}{len:Nat}(hu:O.P.underlying t=F5 (.array len e))(hz:cy O.P e=F5 sz)(hx:ae O.ab m S w vx x)(hi:ae O.ab m S w vi i)(hk:dt vi=F5 k)(h:rG len sz k vx=F5 v):∃u,(Instr.indexAt t x i).run O.P w=.ok u w/\ae O.ab m S w v u:=by
 obtain⟨kd,rfl⟩:=Bj hi hk;have KV:∀(b o:Nat),k<len->(Instr.indexAt t (.pointer (F5 ⟨b,o,F6⟩)) (.int kd (k:Int))).run O.P w=.ok (.pointer (F5 ⟨b,o+k*sz,F6⟩)) w:=by
  intro b o pg;have hr:(0:Int)<=(k:Int)/\(k:Int)<(len:Int):=by lia
  simp[Instr.indexAt,asIntOf,run_underlying hu,pM hz,hr,oH,Instr.sureAddr]
  grind
 cases vx<;>simp only[rG,reduceCtorEq] at h
 case ptr id o=>
  obtain⟨p,hm,rfl⟩:=hx
  cases hc:yM k len with
  | false=>rw[hc] at h;cases h
  | true=>
   rw[hc] at h;simp only[yu,yc] at h;subst h;have pg:k<len:=by simp_all
   exact⟨_,KV _ _ pg,by simp only[ae];exact⟨p,hm,by rw[tY]⟩⟩
 case bt cs=>
  obtain⟨b,o,rfl,h2,h3,h4⟩:=hx
  cases hc:yM k len with
  | false=>rw[hc] at h;cases h
  | true=>
   rw[hc] at h;simp only[yu,yc] at h;subst h;have pg:k<len:=by simp_all
   exact⟨_,KV _ _ pg,S8 h2 h3 h4⟩
def asW{t e:yA}{len:Nat}(hu:O.P.underlying t=F5 (.array len e))(hz:cy O.P e=F5 sz)(ha:dB O.P e=F5 ag)(hx:ae O.ab m S w vx x)(hi:ae O.ab m S w vi i)(hk:dt vi=F5 k)(h:Ph len sz ag k vx=F5 v):
  ∃u,(Instr.index t x i).run O.P w=.ok u w/\ae O.ab m S w v u:=by
 obtain⟨kd,rfl⟩:=Bj hi hk;cases vx<;>simp only[Ph,reduceCtorEq] at h
 obtain⟨xs,rfl,hr⟩:=hx
 cases hc:yM k len with
 | false=>rw[hc] at h;cases h
 | true=>
  rw[hc] at h;have pg:k<len:=by simp_all
  have⟨u,h1,h2⟩:=acG hz ha hr h;have bB:(0:Int)<=(k:Int)/\(k:Int)<(len:Int):=by lia
  exact⟨u,by simp[Instr.index,asIntOf,run_underlying hu,pM hz,bB,h1];intro hle;exact absurd hle (by lia),h2⟩
def asX{t:yA}(hu:O.P.underlying t=F5 .string)(hx:ae O.ab m S w vx x)(hi:ae O.ab m S w vi i)(hk:dt vi=F5 k)(h:oP k vx=F5 v):
  ∃u,(Instr.index t x i).run O.P w=.ok u w/\ae O.ab m S w v u:=by
 obtain⟨kd,rfl⟩:=Bj hi hk;cases vx<;>simp only[oP,reduceCtorEq] at h
 obtain⟨b,rfl,rfl⟩:=hx
 cases hs:(b.data.toList.map xn)[k]? with
 | none=>rw[hs] at h;cases h
 | some q=>
  rw[hs] at h;simp only[yc] at h;subst h;rw[tf] at hs
  cases hb:b.data.toList[k]? with
  | none=>rw[hb] at hs;cases hs
  | some c=>
   rw[hb] at hs;simp only[wO,yc] at hs;subst hs;have bI:b[k]? =F5 c:=by
    have aM:k<b.data.toList.length:=by
     grind
    have eJ:k<b.size:=by simp_all
    rw[getElem?_pos b k eJ];rw[xb aM] at hb;rw[<-hb];rfl
   refine⟨.int .u8 c.toNat,?_,by simp[ae]⟩;simp[Instr.index,asIntOf,run_underlying hu,bI]
end
end
end
section
open Go
section
variable {ab:Nat->Nat}{m:Mp}{S:Nat->Prop}{w:yk}
def S9:∀{v:AV} {u:yh},ae ab m S w v u->bP (cellsOf v)=ydo->aB ab m S w (cellsOf v) u.cells.toList:=by
 intro v u h h1;cases v
 case undef=>simp[cellsOf,bP,db] at h1
 case cM=>simp[cellsOf,bP,db] at h1
 case fn f a b=>
  cases f with
  | f g=>have h':=h;obtain⟨fi,ca,rfl,_⟩:=h';exact⟨_,_,rfl,h,rfl⟩
  | y l=>have h':=h;obtain⟨p,_,rfl⟩:=h';exact⟨_,_,rfl,h,rfl⟩
 all_goals
  have h':=h;simp only[ae] at h';simp only[cellsOf,Value.cells,aB]
  grind
def Eb(v:yh):aB ab m S w (cellsOf (eZ v)) v.cells.toList:=by
 have h:=Ot (ab:=ab) (m:=m) (S:=S) (w:=w) v;cases v
 case agg xs=>
  obtain⟨xs,e,hr⟩:=h;injection e with e
  subst e;exact hr
 case pointer p=>cases p<;>(simp only[eZ] at h ⊢;exact⟨_,_,rfl,h,rfl⟩)
 case map p=>cases p<;>(simp only[eZ] at h ⊢;exact⟨_,_,rfl,h,rfl⟩)
 case slice p n c=>
  cases p
  .cases n
   .cases c<;>(simp only[eZ] at h ⊢;exact⟨_,_,rfl,h,rfl⟩)
   .simp only [eZ] at h ⊢;exact⟨_,_,rfl,h,rfl⟩
  .simp only [eZ] at h ⊢;exact⟨_,_,rfl,h,rfl⟩
 all_goals (simp only[eZ] at h ⊢;exact⟨_,_,rfl,h,rfl⟩)
def mL:∀{a b:List AV} {x y:List yh},aB ab m S w a x->aB ab m S w b y->aB ab m S w (a++b) (x++y)
 | [],b,x,y,h,k=>by simp only[aB] at h;subst h;simpa using k
 | c::a,b,x,y,h,k=>by
  obtain⟨u,r,rfl,h2,h3⟩:=h;exact⟨u,r++y,rfl,h2,mL h3 k⟩
def Jz:∀(k:Nat) {cs:List AV} {us:List yh},aB ab m S w cs us->aB ab m S w (cs.drop k) (us.drop k)
 | 0,cs,us,h=>by simpa using h
 | k+1,[],us,h=>by simp only[aB] at h;subst h;simp[aB]
 | k+1,c::cs,us,h=>by simp only[aB] at h;obtain⟨u,r,rfl,_,h3⟩:=h;simpa using Jz k h3
def Gb:∀(k:Nat) {cs:List AV} {us:List yh},aB ab m S w cs us->aB ab m S w (cs.take k) (us.take k)
 | 0,cs,us,h=>by simp[aB]
 | k+1,[],us,h=>by simp only[aB] at h;subst h;simp[aB]
 | k+1,c::cs,us,h=>by
  simp only[aB] at h;obtain⟨u,r,rfl,h2,h3⟩:=h;exact⟨u,_,rfl,h2,Gb k h3⟩
def TC:∀{cs:List AV} {us:List yh} {i:Nat} {v:AV},aB ab m S w cs us->cs[i]? =F5 v->∃u,us[i]? =F5 u/\ae ab m S w v u
 | [],us,i,v,_,h=>by simp at h
 | c::cs,us,0,v,h,e=>by
  simp only[aB] at h;obtain⟨u,r,rfl,h2,h3⟩:=h;simp at e;subst e;exact⟨u,rfl,h2⟩
 | c::cs,us,i+1,v,h,e=>by
  simp only[aB] at h;obtain⟨u,r,rfl,h2,h3⟩:=h;simpa using TC h3 e
end
def aao(off:Nat):∀(new:List yh) (j:Nat) (cells:Array yh),off+j+new.length<=cells.size->
  ((new.zipIdx j).foldl (fun (cs:Array yh) (p:yh×Nat)=>cs.setIfInBounds (off+p.2) p.1) cells).toList=
   cells.toList.take (off+j)++new++cells.toList.drop (off+j+new.length)
 | [],j,cells,_=>by simp
 | v::r,j,cells,h=>by
  simp only[yv] at h;have ih:=aao off r (j+1) (cells.setIfInBounds (off+j) v) (by simp;omega);simp only[List.zipIdx_cons,List.foldl_cons];rw[ih];have aM:off+j<cells.toList.length:=by grind
  have h1:(cells.setIfInBounds (off+j) v).toList=cells.toList.set (off+j) v:=by simp
  rw[h1,show off+(j+1)=off+j+1 by omega];have h2:(cells.toList.set (off+j) v).take (off+j+1)=cells.toList.take (off+j)++[v]:=by
   rw[List.take_succ_eq_append_getElem (by simpa using aM)];simp[List.take_set_of_le]
  have h3:(cells.toList.set (off+j) v).drop (off+j+1+r.length)=cells.toList.drop (off+j+(r.length+1)):=by
   rw[List.drop_set_of_lt (by omega)];congr 1;omega
  grind
section
variable {O:bq}{H:Hint}{m:Mp}{S:Nat->Prop}{w:yk}{tm:Env}{a:Act}
def Ov(hH:fh O H)(ht:bT O m S w tm a.tmps){place:Nat->Option (Nat×Nat)}:∀(parts:List (Nat×xB)) (ps:List (Nat×Nat×X)) (zero cs:List AV) (cells:Array yh),
  partsOf H place parts=F5 ps->aB O.ab m S w zero cells.toList->fill tm zero ps=F5 cs->
  ∃out,Instr.fill place cells (parts.map fun p=>(p.1,a.eval p.2))=F5 out/\aB O.ab m S w cs out.toList
 | [],ps,zero,cs,cells,hp,hz,hf=>by
  simp only[partsOf,yc] at hp;subst hp;simp only[fill,yc] at hf;subst hf;exact⟨cells,rfl,hz⟩
 | (i,x)::r,ps,zero,cs,cells,hp,hz,hf=>by
  simp only[partsOf] at hp
  cases j8:place i with
  | none=>simp[j8] at hp
  | some q=>
   obtain⟨o,s⟩:=q;simp only[j8] at hp
   cases qI:partsOf H place r with
   | none=>simp[qI] at hp
   | some l=>
    simp only[qI,yc] at hp;subst hp;simp only[fill] at hf
    cases hc:(yo (cellsOf (ax tm (aJ H x))).length s&&yC (o+s) zero.length&&bP (cellsOf (ax tm (aJ H x)))) with
    | false=>rw[hc] at hf;cases hf
    | true=>
     rw[hc] at hf;simp only[ye] at hc;have hle:=yt hc.1.2;have hrx:=S9 (bX hH ht x) hc.2;have qJ:=ic _ _ hrx;have ph:=ic _ _ hz;have eJ:(a.eval x).cells.size=s:=by simp_all
     have Dq:cells.size=zero.length:=by omega
     have awW:=aao o (a.eval x).cells.toList 0 cells (by simp;omega);have dw:aB O.ab m S w (over o (cellsOf (ax tm (aJ H x))) zero)
       ((a.eval x).cells.zipIdx.foldl (fun (cs:Array yh) (p:yh×Nat)=>cs.setIfInBounds (o+p.2) p.1) cells).toList:=by
      rw[<-Array.foldl_toList,Array.toList_zipIdx,awW];rw[show (a.eval x).cells.toList.length=(cellsOf (ax tm (aJ H x))).length from qJ];exact mL (mL (Gb o hz) hrx) (Jz _ hz)
     obtain⟨out,h1,h2⟩:=Ov hH ht r l _ cs _ qI dw hf;simp only[xe,Instr.fill,j8,eJ]
     grind
end
end
section
open Go
def Ta(p q:ByteArray):(p==q)=c6 (nL p) (nL q):=by
 have h:(p==q)=(p.data==q.data):=by cases p;rfl
 rw[h,aam,ByteArray.toList_eq,ByteArray.toList_eq]
 simp_all
def VS:yaf->Bool
 | .bool | .int _ | .string=>ydo
 | _=>ydp
def fits(d:yaf)(v:AV):Bool:=
 match d,v with
 | .int _,.int _ _ | .string,.str _ | .bool,.bool _=>ydo
 | _,_=>ydp
section
variable {O:bq}{ab:Nat->Nat}{m:Mp}{S:Nat->Prop}{w:yk}
def anQ{vk vk':AV}{k k':yh}{r:Bool}{d:yaf}(hk:ae ab m S w vk k)(BV:ae ab m S w vk' k')(h:qd vk vk'=F5 r)(hd:fits d vk=ydo):Instr.sameNow d k k'=F5 r:=by
 unfold qd at h
 split at h
 .rename_i j x j' y;simp only[ae] at hk BV;subst hk;subst BV;by_cases hj:j=j'
  .simp only [hj,xJ,yc] at h;subst hj;cases d<;>simp[fits] at hd
   simpa[Instr.sameNow] using h
  .simp [hj] at h
 .simp only [ae] at hk BV;obtain⟨s,rfl,rfl⟩:=hk;obtain⟨s',rfl,rfl⟩:=BV;simp only[yc] at h;cases d<;>simp[fits] at hd
  simp only[Instr.sameNow,Ta];rw[<-h];rfl
 .simp only [ae] at hk BV;subst hk;subst BV;simp only[yc] at h;cases d<;>simp[fits] at hd
  simp[Instr.sameNow,h]
 .cases d<;>simp[fits] at hd
 .cases h
def aj6{P:xy}{kt:yA}{d:yaf}(hu:P.underlying kt=F5 d)(hd:VS d=ydo)(b:Bool)(k:yh):(Instr.checkKey b 10000 kt k).run P w=.ok () w:=by
 have:∀n,(Instr.checkKey b (n+1) kt k).run P w=.ok () w:=by
  cases d<;>simp[VS] at hd<;>simp[Instr.checkKey,run_underlying hu]
 grind
end
end
section
open Go
def Jl:∀(k1 k2:List Nat) (a b:List AV) (r:Bool),dc (k1++k2) a b=F5 r->
  ∃r1 r2,dc k1 (a.take k1.length) (b.take k1.length)=F5 r1/\dc k2 (a.drop k1.length) (b.drop k1.length)=F5 r2/\r=(r1&&r2)
 | [],k2,a,b,r,h=>⟨ydo,r,by simp[dc],by simpa using h,by simp⟩
 | k::k1,k2,[],b,r,h=>by
  simp only[yB] at h;unfold dc at h
  grind
 | k::k1,k2,x::a,[],r,h=>by
  unfold dc at h
  grind
 | k::k1,k2,x::a,y::b,r,h=>by
  have step:∀(q:Bool) (f:Bool->Bool),(match dc (k1++k2) a b with | some r=>F5 (f r) | none=>F6)=F5 q->∃r0,dc (k1++k2) a b=F5 r0/\q=f r0:=by grind
  unfold dc at h
  split at h
  .grind
  .rename_i e1 e2 e3;obtain⟨rfl,rfl⟩:=e1;obtain⟨rfl,rfl⟩:=e2;obtain⟨rfl,rfl⟩:=e3;obtain⟨r0,h0,rfl⟩:=step r _ h;obtain⟨r1,r2,h1,h2,rfl⟩:=Jl k1 k2 _ _ r0 h0;exact⟨_,r2,by simp only[yv,wF,dc,h1],by simpa using h2,(yaQ _ _ _).symm⟩
  .rename_i e1 e2 e3;obtain⟨rfl,rfl⟩:=e1;obtain⟨rfl,rfl⟩:=e2;obtain⟨rfl,rfl⟩:=e3
   split at h
   .rename_i hk;obtain⟨r0,h0,rfl⟩:=step r _ h;obtain⟨r1,r2,h1,h2,rfl⟩:=Jl k1 k2 _ _ r0 h0;exact⟨_,r2,by simp only[yv,wF,dc,h1,hk,xJ],by simpa using h2,(yaQ _ _ _).symm⟩
   .cases h
  .rename_i e1 e2 e3;obtain⟨rfl,rfl⟩:=e1;obtain⟨rfl,rfl⟩:=e2;obtain⟨rfl,rfl⟩:=e3;obtain⟨r0,h0,rfl⟩:=step r _ h;obtain⟨r1,r2,h1,h2,rfl⟩:=Jl k1 k2 _ _ r0 h0;exact⟨_,r2,by simp only[yv,wF,dc,h1],by simpa using h2,(yaQ _ _ _).symm⟩
  .cases h
def Zh:∀(ks:List Nat) (a b:List AV) (r:Bool),dc ks a b=F5 r->a.length=ks.length/\b.length=ks.length
 | [],a,b,r,h=>by
  unfold dc at h
  grind
 | k::ks,[],b,r,h=>by
  unfold dc at h
  grind
 | k::ks,x::a,[],r,h=>by
  unfold dc at h
  grind
 | k::ks,x::a,y::b,r,h=>by
  have:∃r0,dc ks a b=F5 r0:=by
   cases he:dc ks a b with
   | some r0=>exact⟨r0,rfl⟩
   | none=>unfold dc at h;split at h<;>simp_all
  have⟨r0,h0⟩:=this
  have:=Zh ks a b r0 h0
  simp[this]
def HN(P:xy)(t:yA)(x:yh)(xs:List yh):Prop:=(dB P t=F5 ydo/\x=.agg xs.toArray)\/(dB P t=F5 ydp/\xs=[x])
section
variable {P:xy}{ab:Nat->Nat}{m:Mp}{S:Nat->Prop}{w:yk}
def Nx{t:yA}{ag:Bool}(ha:dB P t=F5 ag):(isAgg t).run P w=.ok ag w:=by
 unfold dB at ha
 cases hu:P.underlying t with
 | none=>simp[hu] at ha
 | some d=>cases d<;>simp_all[isAgg,underlying]
def anR{t:yA}{s o:Nat}{xs:List yh}(hz:cy P t=F5 s)(ha:∃ag,dB P t=F5 ag)(h1:dB P t=F5 ydp->s=1)(hl:o+s<=xs.length):
  ∃u,(part t xs.toArray o).run P w=.ok u w/\HN P t u ((xs.drop o).take s):=by
 have⟨ag,ha⟩:=ha
 cases ag with
 | true=>
  refine⟨.agg ((xs.drop o).take s).toArray,?_,.inl ⟨ha,rfl⟩⟩;simp[part,Nx ha,pM hz,List.extract_eq_take_drop]
 | false=>
  have hs:=h1 ha;subst hs;have aM:o<xs.length:=by lia
  refine⟨xs[o],?_,.inr ⟨ha,?_⟩⟩
  .simp [part,Nx ha,xb aM]
  .rw [List.drop_eq_getElem_cons aM,wF,ybm]
def aap{n:Nat}{t:yA}{ks:List Nat}(h:kinds P n t=F5 ks):∃ag,dB P t=F5 ag/\(ag=ydp->ks.length=1):=by
 cases n with
 | zero=>simp[kinds] at h
 | succ n=>
  unfold kinds at h;unfold dB
  split at h<;>simp_all
  all_goals (rw[<-h];rfl)
def Vd(P:xy)(ab:Nat->Nat)(m:Mp)(S:Nat->Prop)(w:yk)(n:Nat):Prop:=
 ∀(t:yA) (ks:List Nat),kinds P n t=F5 ks->P.stoodInHeld t=ydp->∀(d:Nat),n<=d->∀(xs ys:List yh) (cs dF:List AV) (r:Bool) (x y:yh),
  aB ab m S w cs xs->aB ab m S w dF ys->dc ks cs dF=F5 r->HN P t x xs->HN P t y ys->(Op.equalIn d t x y).run P w=.ok r w
def aaq{n:Nat}(ih:Vd P ab m S w n){t:yA}{ks:List Nat}{s o d:Nat}(hk:kinds P n t=F5 ks)(aR:P.stoodInHeld t=ydp)(hz:cy P t=F5 s)(hs:ks.length=s)(hd:n<=d){xs ys:List yh}{cs dF:List AV}(h1:aB ab m S w cs xs)(h2:aB ab m S w dF ys){r:Bool}(he:dc ks ((cs.drop o).take s) ((dF.drop o).take s)=F5 r):
  ∃u u',(part t xs.toArray o).run P w=.ok u w/\(part t ys.toArray o).run P w=.ok u' w/\(Op.equalIn d t u u').run P w=.ok r w:=by
 have⟨ag,ha,h1s⟩:=aap hk;have⟨l1,l2⟩:=Zh _ _ _ _ he;have q1:=ic _ _ h1;have q2:=ic _ _ h2;simp only[yR,xU] at l1 l2;have pk:dB P t=F5 ydp->s=1:=fun h=>by
  grind
 have qJ:o+s<=xs.length\/s=0:=by lia
 have ph:o+s<=ys.length\/s=0:=by lia
 have get:∀(zs:List yh),(o+s<=zs.length\/s=0)->∃u,(part t zs.toArray o).run P w=.ok u w/\HN P t u ((zs.drop o).take s):=by
  intro zs hl;rcases hl with hl | hl
  .exact anR hz ⟨ag,ha⟩ pk hl
  .subst hl
   cases ag with
   | false=>have:=pk ha;lia
   | true=>
    refine⟨.agg ((zs.drop o).take 0).toArray,?_,.inl ⟨ha,rfl⟩⟩;simp[part,Nx ha,pM hz]
 have⟨u,p1,v1⟩:=get xs qJ;have⟨u',p2,v2⟩:=get ys ph;exact⟨u,u',p1,p2,ih t ks hk aR d hd _ _ _ _ r u u' (Gb s (Jz o h1)) (Gb s (Jz o h2)) he v1 v2⟩
def Zi{n:Nat}(ih:Vd P ab m S w n){d:Nat}(hd:n<=d){xs ys:List yh}{cs dF:List AV}(h1:aB ab m S w cs xs)(h2:aB ab m S w dF ys):
  ∀(fs:List uk) (o:Nat) (ks:List Nat) (r:Bool),pN P (fun u=>kinds P n u) fs o=F5 ks->dc ks (cs.drop o) (dF.drop o)=F5 r->(Op.eqFields d xs.toArray ys.toArray fs).run P w=.ok r w
 | [],o,ks,r,h,he=>by
  simp only[pN,yc] at h;unfold dc at he
  split at he<;>simp_all[Op.eqFields]
 | f::fs,o,ks,r,h,he=>by
  simp only[pN] at h
  cases hk:kinds P n f.type with
  | none=>simp[hk] at h
  | some kf=>
   cases hz:cy P f.type with
   | none=>simp[hk,hz] at h
   | some s=>
    simp only[hk,hz] at h
    cases hc:(f.name != "_"&&yo f.offset o&&yo kf.length s&& !P.stoodInHeld f.type) with
    | false=>rw[hc] at h;cases h
    | true=>
     rw[hc] at h;simp only[yu] at h;simp only[ye,bne_iff_ne,vW] at hc;have⟨⟨⟨hn,ho⟩,hl⟩,aR⟩:=hc;have ho:=yf ho;have hl:=yf hl
     cases hr:pN P (fun u=>kinds P n u) fs (o+s) with
     | none=>simp[hr] at h
     | some kr=>
      simp only[hr,yc] at h;subst h;obtain⟨r1,r2,e1,e2,rfl⟩:=Jl _ _ _ _ _ he;rw[hl] at e1 e2;rw[vQ,vQ] at e2;have⟨u,u',p1,p2,p3⟩:=aaq ih (o:=o) hk aR hz hl hd h1 h2 e1;have rest:=Zi ih hd h1 h2 fs (o+s) kr r2 hr e2;subst ho;simp only[Op.eqFields]
      cases r1 with
      | true=>simp[hn,p1,p2,p3,rest]
      | false=>simp[hn,p1,p2,p3]
def ZH{n:Nat}(ih:Vd P ab m S w n){d:Nat}(hd:n<=d){xs ys:List yh}{cs dF:List AV}(h1:aB ab m S w cs xs)(h2:aB ab m S w dF ys){e:yA}{ks:List Nat}{s:Nat}(hk:kinds P n e=F5 ks)(aR:P.stoodInHeld e=ydp)(hz:cy P e=F5 s)(hl:ks.length=s):
  ∀(k j:Nat) (r:Bool),dc (yE k ks).flatten (cs.drop (j*s)) (dF.drop (j*s))=F5 r->(Op.eqItems d e s xs.toArray ys.toArray (List.range' j k)).run P w=.ok r w
 | 0,j,r,he=>by
  unfold dc at he
  split at he<;>simp_all[Op.eqItems]
 | k+1,j,r,he=>by
  obtain⟨r1,r2,e1,e2,rfl⟩:=Jl _ _ _ _ _ he;rw[hl] at e1 e2;rw[vQ,vQ,show j*s+s=(j+1)*s by rw[xY,yaU]] at e2;have⟨u,u',p1,p2,p3⟩:=aaq ih (o:=j*s) hk aR hz hl hd h1 h2 e1;have rest:=ZH ih hd h1 h2 hk aR hz hl k (j+1) r2 e2;rw[List.range'_succ];simp only[Op.eqItems]
  cases r1 with
  | true=>simp[p1,p2,p3,rest]
  | false=>simp[p1,p2,p3]
def OS:∀(n:Nat) (t:yA) (ks:List Nat),kinds P n t=F5 ks->P.stoodInHeld t=ydp->∀(d:Nat),n<=d->∀(xs ys:List yh) (cs dF:List AV) (r:Bool) (x y:yh),
  aB ab m S w cs xs->aB ab m S w dF ys->dc ks cs dF=F5 r->HN P t x xs->HN P t y ys->(Op.equalIn d t x y).run P w=.ok r w
 | 0,t,ks,h,_,_,_,_,_,_,_,_,_,_,_,_,_,_,_=>by simp[kinds] at h
 | n+1,t,ks,h,aR,0,hd,_,_,_,_,_,_,_,_,_,_,_,_=>by lia
 | n+1,t,ks,h,aR,d+1,hd,xs,ys,cs,dF,r,x,y,h1,h2,he,hx,hy=>by
  unfold kinds at h;have one:∀{k:Nat},ks=[k]->dB P t=F5 ydp->∃c c',cs=[c]/\dF=[c']/\ae ab m S w c x/\ae ab m S w c' y:=by
   intro k hk ha;rcases hx with ⟨hx,_⟩ | ⟨_,rfl⟩
   .grind
   rcases hy with ⟨hy,_⟩ | ⟨_,rfl⟩
   .grind
   have l1:=ic _ _ h1;have l2:=ic _ _ h2
   match cs,dF,l1,l2 with
   | [c],[c'],_,_=>
    simp only[aB] at h1 h2
    grind
  split at h
  .rename_i hu;simp only[yc] at h;have ha:dB P t=F5 ydp:=by simp[dB,hu]
   obtain⟨c,c',rfl,rfl,r1,r2⟩:=one h.symm ha;subst h;unfold dc at he
   split at he<;>simp_all[dc]
   subst he;simp only[ae] at r1 r2;subst r1;subst r2;simp[Op.equalIn,run_underlying hu]
  .rename_i k0 hu;simp only[yc] at h;have ha:dB P t=F5 ydp:=by simp[dB,hu]
   obtain⟨c,c',rfl,rfl,r1,r2⟩:=one h.symm ha;subst h;unfold dc at he
   split at he<;>simp_all[dc]
   have⟨hk,he⟩:=he;subst he;simp only[ae] at r1 r2;subst r1;subst r2;simp[Op.equalIn,run_underlying hu]
  .rename_i hu;simp only[yc] at h;have ha:dB P t=F5 ydp:=by simp[dB,hu]
   obtain⟨c,c',rfl,rfl,r1,r2⟩:=one h.symm ha;subst h;unfold dc at he
   split at he<;>simp_all[dc]
   subst he;simp only[ae] at r1 r2;obtain⟨s,rfl,rfl⟩:=r1;obtain⟨s',rfl,rfl⟩:=r2;simp only[Op.equalIn,Sem.run_bind,run_underlying hu,Result.andThen_ok,Sem.run_pure,Ta];rfl
  .rename_i fs hu;have ha:dB P t=F5 ydo:=by simp[dB,hu]
   rcases hx with ⟨_,rfl⟩ | ⟨hx,_⟩
   .rcases hy with ⟨_,rfl⟩ | ⟨hy,_⟩
    .have hf:P.fieldsOf t=fs:=by simp[Program.fieldsOf,hu]
     rw[run_equalIn_struct w d t _ _ (by rw[hf];exact hu) aR,hf]
     exact Zi (OS n) (by lia) h1 h2 fs.toList 0 ks r h (by simpa using he)
    .rw [ha] at hy;cases hy
   .rw [ha] at hx;cases hx
  .rename_i k e hu;have ha:dB P t=F5 ydo:=by simp[dB,hu]
   rcases hx with ⟨_,rfl⟩ | ⟨hx,_⟩
   .rcases hy with ⟨_,rfl⟩ | ⟨hy,_⟩
    .cases hk:kinds P n e with
     | none=>simp[hk] at h
     | some ke=>
      cases hz:cy P e with
      | none=>simp[hk,hz] at h
      | some s=>
       simp only[hk,hz] at h
       cases hc:(yo ke.length s&& !P.stoodInHeld e) with
       | false=>rw[hc] at h;cases h
       | true=>
        rw[hc] at h;simp only[yu,yc] at h;subst h;simp only[ye,vW] at hc;have dw:=hz;unfold cy at dw
        cases hi:P.info? e with
        | none=>simp[hi] at dw
        | some i=>
         simp only[hi,yc] at dw;have Dq:P.cellsOf e=s:=by simp[Program.cellsOf,hi,dw]
         rw[run_equalIn_array w d _ _ hu hi,Dq,List.range_eq_range'];exact ZH (OS n) (by lia) h1 h2 hk hc.2 hz (yf hc.1) k 0 r (by simpa using he)
    .rw [ha] at hy;cases hy
   .rw [ha] at hx;cases hx
  .cases h
end
end
section
open Go
section
variable {vk:AV}{ks:List Nat}{kk:Nat}{P:xy}{k:yh}
inductive zo(E:yh->Bool->Prop):List wZ->Nat->Option (Nat×yh)->Prop
 | nil {i:Nat}:zo E [] i F6
 | hit {e:wZ} {es:List wZ} {i:Nat}:E e.key ydo->zo E (e::es) i (F5 (i,e.val))
 | E0 {e:wZ} {es:List wZ} {i:Nat} {f:Option (Nat×yh)}:E e.key ydp->zo E es (i+1) f->zo E (e::es) i f
def aqc{d:yaf}{es:List wZ}{i:Nat}{f:Option (Nat×yh)}(h:zo (fun u b=>Instr.sameNow d k u=F5 b) es i f):Instr.findNow d k es i=F5 f:=by
 induction h with
 | nil=>rfl
 | hit h=>simp[Instr.findNow,h]
 | E0 h _ ih=>simp[Instr.findNow,h,ih]
def acK{w:yk}{kt:yA}{es:List wZ}{i:Nat}{f:Option (Nat×yh)}(h:zo (fun u b=>(Op.equal kt k u).run P w=.ok b w) es i f):
  (Instr.findAsking kt k es i).run P w=.ok f w:=by
 induction h with
 | nil=>simp[Instr.findAsking]
 | hit h=>simp[Instr.findAsking,h]
 | E0 h _ ih=>simp[Instr.findAsking,h,ih]
section
variable {O:bq}{ab:Nat->Nat}{m:Mp}{S:Nat->Prop}{w:yk}
def Found(ab:Nat->Nat)(m:Mp)(S:Nat->Prop)(w:yk)(f:Option (Nat×yh)):Option AV->Prop
 | none=>f=F6
 | some v=>∃j u,f=F5 (j,u)/\ae ab m S w v u
def TD{vk:AV}{E:yh->Bool->Prop}(hE:∀c u b,ae ab m S w c u->qd vk c=F5 b->E u b):∀(ks vs:List AV) (es:List wZ) (i:Nat) (r:Option AV),
  aB ab m S w ks (es.map (·.key))->aB ab m S w vs (es.map (·.val))->EN vk ks vs=F5 r->∃f,zo E es i f/\Found ab m S w f r
 | [],vs,es,i,r,h1,h2,h=>by
  simp only[aB,ybr] at h1;subst h1;simp only[EN,yc] at h;subst h;exact⟨F6,.nil,rfl⟩
 | c::ks,[],es,i,r,h1,h2,h=>by simp only[EN] at h;cases h
 | c::ks,v::vs,es,i,r,h1,h2,h=>by
  cases es with
  | nil=>simp[aB] at h1
  | cons e es=>
   simp only[xe,aB,vX] at h1 h2;obtain⟨u,t,⟨rfl,rfl⟩,hc,pn⟩:=h1;obtain⟨u',t',⟨rfl,rfl⟩,hv,BW⟩:=h2;simp only[EN] at h
   cases AH:qd vk c with
   | none=>simp[AH] at h
   | some b=>
    have hs:=hE _ _ _ hc AH
    cases b with
    | true=>
     simp only[AH,yc] at h;subst h;exact⟨_,.hit hs,i,e.val,rfl,hv⟩
    | false=>
     simp only[AH] at h;obtain⟨f,h1,h2⟩:=TD hE ks vs es (i+1) r pn BW h;exact⟨f,.E0 hs h1,h2⟩
def Put(ab:Nat->Nat)(m:Mp)(S:Nat->Prop)(w:yk)(E:yh->Bool->Prop)(k x:yh)(es:List wZ)(i:Nat)(lP eF:List AV):Prop:=
 (zo E es i F6/\aB ab m S w lP (es.map (·.key)++[k])/\aB ab m S w eF (es.map (·.val)++[x]))\/
 ∃(j:Nat) (e0:wZ) (c vk:AV),zo E es i (F5 (i+j,e0.val))/\es[j]? =F5 e0/\(ae ab m S w vk k/\ae ab m S w c e0.key/\qd vk c=F5 ydo)/\aB ab m S w lP (es.map (·.key))/\aB ab m S w eF ((es.map (·.val)).set j x)
def acL{vk vx:AV}{k x:yh}{E:yh->Bool->Prop}(hE:∀c u b,ae ab m S w c u->qd vk c=F5 b->E u b)(hk:ae ab m S w vk k)(hx:ae ab m S w vx x):∀(ks vs:List AV) (es:List wZ) (i:Nat) (lP eF:List AV),
  aB ab m S w ks (es.map (·.key))->aB ab m S w vs (es.map (·.val))->BA vk vx ks vs=F5 (lP,eF)->Put ab m S w E k x es i lP eF
 | [],[],es,i,lP,eF,h1,h2,h=>by
  simp only[aB,ybr] at h1;subst h1;simp only[BA,yc,ym] at h;obtain⟨rfl,rfl⟩:=h;exact .inl ⟨.nil,by simp[aB,hk],by simp[aB,hx]⟩
 | [],_::_,es,i,lP,eF,h1,h2,h=>by simp[BA] at h
 | _::_,[],es,i,lP,eF,h1,h2,h=>by simp[BA] at h
 | c::ks,v::vs,es,i,lP,eF,h1,h2,h=>by
  cases es with
  | nil=>simp[aB] at h1
  | cons e es=>
   simp only[xe,aB,vX] at h1 h2;obtain⟨u,t,⟨rfl,rfl⟩,hc,pn⟩:=h1;obtain⟨u',t',⟨rfl,rfl⟩,hv,BW⟩:=h2;simp only[BA] at h
   cases AH:qd vk c with
   | none=>simp[AH] at h
   | some b=>
    have hs:=hE _ _ _ hc AH
    cases b with
    | true=>
     simp only[AH,yc,ym] at h;obtain⟨rfl,rfl⟩:=h;refine .inr ⟨0,e,c,vk,.hit hs,rfl,⟨hk,hc,AH⟩,?_,?_⟩
     .simp only [xe,aB];exact⟨_,_,rfl,hc,pn⟩
     .simp only [xe,List.set_cons_zero,aB];exact⟨_,_,rfl,hx,BW⟩
    | false=>
     simp only[AH] at h
     cases hm:BA vk vx ks vs with
     | none=>simp[hm] at h
     | some q=>
      obtain⟨k1,v1⟩:=q;simp only[hm,yc,ym] at h;obtain⟨rfl,rfl⟩:=h;rcases acL hE hk hx ks vs es (i+1) k1 v1 pn BW hm with ⟨g1,g2,g3⟩ | ⟨j,e0,c0,vk0,g1,g2,g3,g4,g5⟩
      .refine .inl ⟨.E0 hs g1,?_,?_⟩
       .simp only [xe,yB,aB];exact⟨_,_,rfl,hc,g2⟩
       .simp only [xe,yB,aB];exact⟨_,_,rfl,hv,g3⟩
      .refine .inr ⟨j+1,e0,c0,vk0,?_,by simpa using g2,g3,?_,?_⟩
       .rw [show i+(j+1)=i+1+j by omega];exact .E0 hs g1
       .simp only [xe,aB];exact⟨_,_,rfl,hc,g4⟩
       .simp only [xe,List.set_cons_succ,aB];exact⟨_,_,rfl,hv,g5⟩
def aar:∀(n:Nat) (a b:List AV) (x y:List yh),dc (yE n 1) a b=F5 ydo->aB ab m S w a x->aB ab m S w b y->x=y/\(x.zip x).all (fun (p,q)=>Instr.sameBits 9999 p q)=ydo
 | 0,a,b,x,y,h,hx,hy=>by
  match a,b with
  | [],[]=>simp only[aB] at hx hy;subst hx;subst hy;exact⟨rfl,rfl⟩
  | [],_::_=>simp[dc] at h
  | _::_,[]=>simp[dc] at h
  | _::_,_::_=>simp[dc] at h
 | n+1,a,b,x,y,h,hx,hy=>by
  rw[wP] at h;unfold dc at h
  split at h
  any_goals (cases h;done)
  .simp_all
  .simp_all
  .rename_i ks k p xs k' q ys pn;simp only[vX,yag] at pn;subst pn;by_cases hk:k=k'
   .subst hk;simp only[xJ] at h
    cases hr:dc (yE n 1) xs ys with
    | none=>simp[hr] at h
    | some r=>
     simp only[hr,yc,ye,yan] at h;obtain⟨rfl,rfl⟩:=h;simp only[aB] at hx hy;obtain⟨u,us,rfl,e1,e2⟩:=hx;obtain⟨u',Mj,rfl,e1',e2'⟩:=hy;simp only[ae] at e1 e1';subst e1;subst e1';obtain⟨rfl,g⟩:=aar n xs ys us Mj hr e2 e2';refine⟨rfl,?_⟩;simp only[List.zip_cons_cons,yaB,g,Bool.and_true];simp[Instr.sameBits]
   .simp [hk] at h
  .simp_all
def anS{c:AV}{u:yh}(hk:ae ab m S w vk k)(hc:ae ab m S w c u)(h:qd vk c=F5 ydo):k=u/\Instr.sameBits 10000 k k=ydo:=by
 unfold qd at h
 split at h
 .rename_i j x j' y;simp only[ae] at hk hc;subst hk;subst hc;by_cases hj:j=j'
  .simp only [hj,xJ,yc,yan] at h;exact⟨by rw[hj,h],by simp[Instr.sameBits]⟩
  .simp [hj] at h
 .simp only [ae] at hk hc;obtain⟨s,rfl,rfl⟩:=hk;obtain⟨s',rfl,rfl⟩:=hc;simp only[yc] at h;have h2:(s==s')=ydo:=by rw[Ta];exact h
  have h3:(s.data==s'.data)=ydo:=by cases s;cases s';exact h2
  rw[yan] at h3;have e:s=s':=by cases s;cases s';simp only at h3;rw[h3]
  subst e;exact⟨rfl,by simp[Instr.sameBits,h2]⟩
 .simp only [ae] at hk hc;subst hk;subst hc;simp only[yc,yan] at h;exact⟨by rw[h],by simp[Instr.sameBits]⟩
 .rename_i a b;simp only[ae] at hk hc;obtain⟨xs,rfl,hx⟩:=hk;obtain⟨ys,rfl,hy⟩:=hc;obtain⟨e,g⟩:=aar _ _ _ _ _ h hx hy;have e':xs=ys:=by cases xs;cases ys;simp only at e;rw[e]
  subst e';refine⟨rfl,?_⟩;simp only[Instr.sameBits,yah,Bool.true_and];exact g
 .cases h
def ZI{kt:yA}(hk:keyOf P kt=F5 kk)(h:pT kk vk=ydo):
  (∃d,P.underlying kt=F5 d/\VS d=ydo/\fits d vk=ydo)\/
  ∃fs ks cs,P.underlying kt=F5 (.struct fs)/\fs.toList.all (fun f=>BB P f.type)=ydo/\P.stoodInHeld kt=ydp/\kinds P 20 kt=F5 ks/\ks.length=fs.size/\vk=.agg cs/\cs.length=fs.size:=by
 unfold keyOf at hk
 split at hk
 .rename_i hu;simp only[yc] at hk;subst hk;refine .inl ⟨_,hu,rfl,?_⟩;cases vk<;>simp_all[pT,fits]
 .rename_i hu;simp only[yc] at hk;subst hk;refine .inl ⟨_,hu,rfl,?_⟩;cases vk<;>simp_all[pT,fits]
 .rename_i hu;simp only[yc] at hk;subst hk;refine .inl ⟨_,hu,rfl,?_⟩;cases vk<;>simp_all[pT,fits]
 .rename_i fs hu
  cases hc:(fs.toList.all (fun f=>BB P f.type)&& !P.stoodInHeld kt) with
  | false=>rw[hc] at hk;cases hk
  | true=>
   rw[hc] at hk;simp only[yu] at hk;simp only[ye,vW] at hc
   cases hs:kinds P 20 kt with
   | none=>simp[hs] at hk
   | some ks=>
    simp only[hs] at hk
    cases hl:yo ks.length fs.size with
    | false=>rw[hl] at hk;cases hk
    | true=>
     rw[hl] at hk;simp only[yu,yc] at hk;subst hk;cases vk<;>simp only[pT,yD] at h
     exact .inr ⟨fs,ks,_,hu,hc.1,hc.2,rfl,yf hl,rfl,yf h⟩
 .cases hk
def Y6{P:xy}{n:Nat}:∀(fs:List uk) (o:Nat) (ks:List Nat),fs.all (fun f=>BB P f.type)=ydo->pN P (fun u=>kinds P n u) fs o=F5 ks->ks=yE fs.length 1
 | [],o,ks,_,h=>by simp only[pN,yc] at h;subst h;rfl
 | f::fs,o,ks,ha,h=>by
  simp only[yaB,ye] at ha;simp only[pN] at h
  cases hk:kinds P n f.type with
  | none=>simp[hk] at h
  | some kf=>
   cases hz:cy P f.type with
   | none=>simp[hk,hz] at h
   | some s=>
    simp only[hk,hz] at h
    cases hc:(f.name != "_"&&yo f.offset o&&yo kf.length s&& !P.stoodInHeld f.type) with
    | false=>rw[hc] at h;cases h
    | true=>
     rw[hc] at h;simp only[yu] at h
     cases hr:pN P (fun u=>kinds P n u) fs (o+s) with
     | none=>simp[hr] at h
     | some kr=>
      simp only[hr,yc] at h;subst h;have hkf:kf=[1]:=by
       have hi:=ha.1;unfold BB at hi
       cases n with
       | zero=>simp[kinds] at hk
       | succ n=>
        unfold kinds at hk
        split at hi
        .rename_i hu;simp only[hu,yc] at hk;exact hk.symm
        .cases hi
      rw[hkf,Y6 fs (o+s) kr ha.2 hr];rfl
def alc{kt:yA}{fs:Array uk}(hu:P.underlying kt=F5 (.struct fs))(ha:fs.toList.all (fun f=>BB P f.type)=ydo)(hk:kinds P 20 kt=F5 ks):
  ks=yE fs.size 1:=by
 unfold kinds at hk;simp only[hu] at hk
 have:=Y6 (n:=19) fs.toList 0 ks ha hk
 simpa using this
def akG{b:Bool}{n:Nat}{t:yA}{k:xg}{u:yh}(hu:P.underlying t=F5 (.int k)):(Instr.checkKey b (n+1) t u).run P w=.ok () w:=by
 simp[Instr.checkKey,run_underlying hu]
def Y7{P:xy}{b:Bool}{q q':Nat}(hq:q=q'+1){cs:Array yh}:∀(fs:List uk) (o n:Nat) (ks:List Nat),fs.all (fun f=>BB P f.type)=ydo->pN P (fun u=>kinds P n u) fs o=F5 ks->o+ks.length<=cs.size->
  Sem.run P (forIn fs yaN fun f _=>
      if f.name≠ "_" then do
       let x <-part f.type cs f.offset
       Instr.checkKey b q f.type x
       pure (ybo yaN)
      else pure (ybo yaN)) w=.ok yaN w
 | [],o,n,ks,_,h,_=>by simp
 | f::fs,o,n,ks,ha,h,hl=>by
  simp only[yaB,ye] at ha;simp only[pN] at h
  cases hk:kinds P n f.type with
  | none=>simp[hk] at h
  | some kf=>
   cases hz:cy P f.type with
   | none=>simp[hk,hz] at h
   | some s=>
    simp only[hk,hz] at h
    cases hc:(f.name != "_"&&yo f.offset o&&yo kf.length s&& !P.stoodInHeld f.type) with
    | false=>rw[hc] at h;cases h
    | true=>
     rw[hc] at h;simp only[yu] at h;simp only[ye,bne_iff_ne,vW] at hc;obtain⟨⟨⟨hn,ho⟩,hls⟩,aR⟩:=hc;have ho:=yf ho;have hls:=yf hls
     cases hr:pN P (fun u=>kinds P n u) fs (o+s) with
     | none=>simp[hr] at h
     | some kr=>
      simp only[hr,yc] at h;subst h;rw[yJ] at hl;have hi:=ha.1;unfold BB at hi
      split at hi
      .rename_i kd hu;obtain⟨ag,AI,h1⟩:=aap hk;have agi:dB P f.type=F5 ydp:=by simp[dB,hu]
       have h2:=AI;rw[agi] at h2;injection h2 with h2
       have aM:f.offset<cs.size:=by have:=h1 h2.symm;omega
       have hp:(part f.type cs f.offset).run P w=.ok cs[f.offset] w:=by
        simp[part,Nx agi,Array.getElem?_eq_getElem aM]
       have dh:(Instr.checkKey b q f.type cs[f.offset]).run P w=.ok () w:=by
        rw[hq];exact akG hu
       have rest:=Y7 (b:=b) hq (cs:=cs) fs (o+s) n kr ha.2 hr (by omega);rw[List.forIn_cons];simp only[hn,ycs,ydk,xJ,Sem.run_bind,hp,dh,Result.andThen_ok,Sem.run_pure];simpa only[ycs] using rest
      .cases hi
def akf{b:Bool}{q q':Nat}(hq:q=q'+1){kt:yA}{fs:Array uk}{cs:Array yh}(hu:P.underlying kt=F5 (.struct fs))(ha:fs.toList.all (fun f=>BB P f.type)=ydo)(hk:kinds P 20 kt=F5 ks)(hl:ks.length<=cs.size):(Instr.checkKey b (q+1) kt (.agg cs)).run P w=.ok () w:=by
 unfold kinds at hk;simp only[hu] at hk;have h:=Y7 (w:=w) (b:=b) hq (cs:=cs) fs.toList 0 19 ks ha hk (by omega);simp only[Instr.checkKey,Sem.run_bind,run_underlying hu,Result.andThen_ok,<-Array.forIn_toList];rw[h]
 simp
def Zj{kt:yA}(hk:keyOf P kt=F5 kk)(h:pT kk vk=ydo)(hr:ae ab m S w vk k)(b:Bool):(Instr.checkKey b 10000 kt k).run P w=.ok () w:=by
 rcases ZI hk h with ⟨d,h1,h2,h3⟩ | ⟨fs,ks,cs,hu,ha,aR,pn,hl,rfl,fe⟩
 .exact aj6 h1 h2 b k
 .simp only [ae] at hr;obtain⟨xs,rfl,hx⟩:=hr;have Xt:=ic _ _ hx;rw[vG] at Xt
  exact akf (q:=9999) (q':=9998) rfl hu ha pn (by omega)
def ZJ{kt:yA}(hk:keyOf P kt=F5 kk)(h:pT kk vk=ydo)(hr:ae ab m S w vk k):
  ∃E:yh->Bool->Prop,(∀c u b,ae ab m S w c u->qd vk c=F5 b->E u b)/\∀es f,zo E es 0 f->(Instr.findKey kt k es).run P w=.ok f w:=by
 rcases ZI hk h with ⟨d,h1,h2,h3⟩ | ⟨fs,ks,cs,hu,ha,aR,pn,hl,rfl,fe⟩
 .refine ⟨fun u b=>Instr.sameNow d k u=F5 b,fun c u b hc he=>anQ hr hc he h3,fun es f hf=>?_⟩;simp[Instr.findKey,run_underlying h1,aqc hf]
 .refine ⟨fun u b=>(Op.equal kt k u).run P w=.ok b w,fun c u b hc he=>?_,fun es f hf=>?_⟩
  .cases c<;>simp only[qd,reduceCtorEq] at he
   rename_i dF;simp only[ae] at hr hc;obtain⟨xs,rfl,hx⟩:=hr;obtain⟨ys,rfl,hy⟩:=hc;rw[fe,<-alc hu ha pn] at he;have AI:dB P kt=F5 ydo:=by simp[dB,hu]
   rw[TA];exact OS 20 kt ks pn aR 10000 (by omega) _ _ _ _ b _ _ hx hy he (.inl ⟨AI,by simp⟩) (.inl ⟨AI,by simp⟩)
  .simp only [ae] at hr;obtain⟨xs,rfl,hx⟩:=hr
   cases hf with
   | nil=>simp[Instr.findKey,run_underlying hu,Instr.findNow]
   | hit g=>simp[Instr.findKey,run_underlying hu,Instr.findNow,Instr.sameNow,acK (.hit g)]
   | E0 g g'=>simp[Instr.findKey,run_underlying hu,Instr.findNow,Instr.sameNow,acK (.E0 g g')]
def asY{t kt e:yA}{ok:Bool}{hp:Hp}{ct:Nat}{vx v:AV}{x zero:yh}(hh:aT O m S w hp ct)(hu:O.P.underlying t=F5 (.map kt e))(hk:keyOf O.P kt=F5 kk)(hdk:pT kk vk=ydo)(hz:(zeroValue e).run O.P w=.ok zero w)(hx:ae O.ab m S w vx x)(hkr:ae O.ab m S w vk k){z:AV}(Xu:ae O.ab m S w z zero){r:Option AV}(hr:CR hp vk vx=F5 r)(hv:(match r with | some u=>(bif ok then AV.aw [u,.bool ydo] else u) | none=>(bif ok then AV.aw [z,.bool ydp] else z))=v):
  ∃u,(Instr.lookup t x k ok).run O.P w=.ok u w/\ae O.ab m S w v u:=by
 have fin:∀(u:AV) (uu:yh) (b:Bool),ae O.ab m S w u uu->ae O.ab m S w (bif ok then AV.aw [u,.bool b] else u) (if ok then .tuple #[uu,.bool b] else uu):=by
  intro u uu b h
  cases ok with
  | true=>simp only[yu,xJ,ae,aB];exact⟨_,rfl,_,_,rfl,h,_,_,rfl,rfl,rfl⟩
  | false=>simpa using h
 have dh:=fun b:Bool=>Zj (P:=O.P) (w:=w) hk hdk hkr b
 obtain⟨E,hE,hF⟩:=ZJ (P:=O.P) hk hdk hkr;have body:∀(x':yh) (es:Array wZ),((x'=.map F6/\es=#[])\/∃b clock,x'=.map (F5 b)/\w.heap[b]? =F5 (.map es clock))->(∃f,zo E es.toList 0 f/\Found O.ab m S w f r)->
   ∃u,(Instr.lookup t x' k ok).run O.P w=.ok u w/\ae O.ab m S w v u:=by
  rintro x' es hl ⟨f,hf,iU⟩;have dV:=hF _ _ hf
  cases r with
  | none=>
   have jH:f=F6:=iU;subst jH;refine⟨if ok then .tuple #[zero,.bool ydp] else zero,?_,by rw[<-hv];exact fin z zero ydp Xu⟩
   rcases hl with ⟨rfl,rfl⟩ | ⟨b,clock,rfl,hb⟩
   .have ET:(Instr.findKey kt k []).run O.P w=.ok F6 w:=dV;simp[Instr.lookup,run_underlying hu,dh,ET,hz]
   .simp [Instr.lookup,run_underlying hu,getObj,Sem.run,hb];rw[dh];simp[dV,hz]
  | some v'=>
   obtain⟨j,u,rfl,h2⟩:=iU;refine⟨if ok then .tuple #[u,.bool ydo] else u,?_,by rw[<-hv];exact fin v' u ydo h2⟩
   rcases hl with ⟨rfl,rfl⟩ | ⟨b,clock,rfl,hb⟩
   .cases hf
   .simp [Instr.lookup,run_underlying hu,getObj,Sem.run,hb];rw[dh];simp[dV]
 cases vx<;>simp only[CR,reduceCtorEq] at hr
 case jw=>
  simp only[yc] at hr;subst hr;simp only[ae] at hx;subst hx;exact body _ #[] (.inl ⟨rfl,rfl⟩) ⟨F6,.nil,rfl⟩
 case map id=>
  simp only[ae] at hx;obtain⟨p,hm,rfl⟩:=hx
  split at hr
  case h_2=>cases hr
  rename_i Xs ks vs ES;obtain⟨p',es,clock,jG,hb,h1,h2,_⟩:=hh.obj id _ _ ES hm;rw[hm] at jG;injection jG with jG;subst jG
  exact body _ es (.inr ⟨_,_,rfl,hb⟩) (TD hE ks vs es.toList 0 r h1 h2 hr)
 case jx ks vs=>
  simp only[ae] at hx;obtain⟨b,es,clock,rfl,_,_,_,hb,h1,h2⟩:=hx;exact body _ es (.inr ⟨_,_,rfl,hb⟩) (TD hE ks vs es.toList 0 r h1 h2 hr)
end
end
end
section
open Go
def dA{tm:Env}{hp:Hp}{v:AV}(h:bh tm hp bad=F5 v):False:=by simp[bad,bh] at h
section
variable {O:bq}{H:Hint}{m:Mp}{S:Nat->Prop}{w:yk}{tm:Env}{a:Act}{hp:Hp}{ct:Nat}
def aqd{ab:Nat->Nat}{va vb v:AV}{x y:yh}(hx:ae ab m S w va x)(hy:ae ab m S w vb y)(h:VE.min2 va vb=F5 v):∃u,(Builtin.min2 x y).run O.P w=.ok u w/\ae ab m S w v u:=by
 unfold VE.min2 at h
 split at h
 .simp only [ae] at hx hy;subst hx;subst hy;simp only[yc] at h;subst h;exact⟨_,by simp only[Builtin.min2,Sem.run_pure];rfl,by simp only[ae]⟩
 .rename_i k p k' q;subst hx;subst hy
  cases ho:k.format.order p q with
  | none=>simp[ho] at h
  | some c=>cases c<;>(simp only[ho,yc] at h;subst h;exact⟨_,by simp only[Builtin.min2,ho,Sem.run_pure];rfl,by simp only[ae]⟩)
 .cases h
def aqe{ab:Nat->Nat}{va vb v:AV}{x y:yh}(hx:ae ab m S w va x)(hy:ae ab m S w vb y)(h:VE.max2 va vb=F5 v):∃u,(Builtin.max2 x y).run O.P w=.ok u w/\ae ab m S w v u:=by
 unfold VE.max2 at h
 split at h
 .simp only [ae] at hx hy;subst hx;subst hy;simp only[yc] at h;subst h;exact⟨_,by simp only[Builtin.max2,Sem.run_pure];rfl,by simp only[ae]⟩
 .rename_i k p k' q;subst hx;subst hy
  cases ho:k.format.order p q with
  | none=>simp[ho] at h
  | some c=>cases c<;>(simp only[ho,yc] at h;subst h;exact⟨_,by simp only[Builtin.max2,ho,Sem.run_pure];rfl,by simp only[ae]⟩)
 .cases h
def Uh{ab:Nat->Nat}{f:AV->AV->Option AV}{g:yh->yh->Sem yh}(hfg:∀va vb v x y,ae ab m S w va x->ae ab m S w vb y->f va vb=F5 v->∃u,(g x y).run O.P w=.ok u w/\ae ab m S w v u):
  ∀(l:List AV) (us:List yh) (va v:AV) (x:yh),ae ab m S w va x->aB ab m S w l us->CP f va l=F5 v->∃u,(us.foldlM g x).run O.P w=.ok u w/\ae ab m S w v u
 | [],us,va,v,x,hx,hl,h=>by
  simp only[aB] at hl;simp only[CP,yc] at h
  simp_all
 | b::l,us,va,v,x,hx,hl,h=>by
  obtain⟨u,r,rfl,hu,hr⟩:=hl;simp only[CP] at h
  cases hf:f va b with
  | none=>simp[hf] at h
  | some c=>
   simp only[hf] at h;obtain⟨u1,h1,h2⟩:=hfg _ _ _ _ _ hx hu hf;obtain⟨u2,h3,h4⟩:=Uh hfg l r c v u1 h2 hr h
   simp_all
def UI{t:yA}{vx v:AV}{x:yh}{ty:yA}(hh:aT O m S w hp ct)(hx:ae O.ab m S w vx x){k:Nat}(hu:(k=0/\O.P.underlying t=F5 .string)\/(k=1/\∃e,O.P.underlying t=F5 (.slice e))\/(k=2/\∃kt e,O.P.underlying t=F5 (.map kt e)))(h:iM hp k vx=F5 v):∃u,(Builtin.len_ #[t] ty #[x]).run O.P w=.ok u w/\ae O.ab m S w v u:=by
 rcases hu with ⟨rfl,hu⟩ | ⟨rfl,e,hu⟩ | ⟨rfl,kt,e,hu⟩
 all_goals cases vx<;>simp only[iM,reduceCtorEq] at h
 case inl.str s=>
  simp only[ae] at hx;obtain⟨b,rfl,rfl⟩:=hx;simp only[yc] at h;subst h;refine⟨_,by simp[Builtin.len_,run_underlying hu];rfl,?_⟩
  simp only[ae,goInt]
  simp_all
 case inr.inl.af=>
  simp only[ae] at hx;subst hx;simp only[yc] at h;subst h;exact⟨_,by simp[Builtin.len_,run_underlying hu];rfl,by simp[ae,goInt]⟩
 case inr.inl.ap ex n cs=>
  simp only[ae] at hx;rcases hx with ⟨b,o,c,rfl,_⟩ | ⟨a,rfl,rfl,rfl⟩
  all_goals
   simp only[yc] at h;subst h;exact⟨_,by simp[Builtin.len_,run_underlying hu];rfl,by simp[ae,goInt]⟩
 case inr.inl.ay id o n=>
  simp only[ae] at hx;obtain⟨p,c,_,rfl,_⟩:=hx;simp only[yc] at h;subst h;exact⟨_,by simp[Builtin.len_,run_underlying hu];rfl,by simp[ae,goInt]⟩
 case inr.inr.jw=>
  simp only[ae] at hx;subst hx;simp only[yc] at h;subst h;exact⟨_,by simp[Builtin.len_,run_underlying hu];rfl,by simp[ae,goInt]⟩
 case inr.inr.jx ks vs=>
  simp only[ae] at hx;obtain⟨b,es,clock,rfl,_,_,_,hb,h1,_⟩:=hx;simp only[yc] at h;subst h;refine⟨_,by simp[Builtin.len_,run_underlying hu,getObj,Sem.run,hb];rfl,?_⟩
  have:=ic _ _ h1
  simp only[ae,goInt];rw[<-this];simp
 case inr.inr.map id=>
  simp only[ae] at hx;obtain⟨p,hm,rfl⟩:=hx
  split at h
  case h_2=>cases h
  rename_i Xs ks vs ES;simp only[yc] at h;subst h;obtain⟨p',es,clock,jG,hb,h1,_⟩:=hh.obj id _ _ ES hm;rw[hm] at jG;injection jG with jG;subst jG
  refine⟨_,by simp[Builtin.len_,run_underlying hu,getObj,Sem.run,hb];rfl,?_⟩
  have:=ic _ _ h1
  simp only[ae,goInt];rw[<-this];simp
end
end
section
open Go
section
variable {O:bq}{H:Hint}{m:Mp}{S:Nat->Prop}{w:yk}{tm:Env}{a:Act}{hp:Hp}{ct:Nat}
def Gl{t:yA}{z:AV}(h:mU O.P t=F5 z):∃v,(zeroValue t).run O.P w=.ok v w/\z=eZ v:=by
 unfold mU at h
 cases hi:O.P.info? t with
 | none=>simp[hi] at h
 | some i=>
  simp only[hi] at h
  cases hz:i.zero with
  | none=>simp[hz] at h
  | some v=>
   simp only[hz,yc] at h;exact⟨v,by simp[zeroValue,typeInfo,hi,hz],h.symm⟩
def Reads(O:bq)(m:Mp)(S:Nat->Prop)(w:yk)(a:Act)(o:yV)(v:AV):Prop:=
 ∃u,(execOp a.eval o).run O.P w=.ok (.value u) w/\ae O.ab m S w v u
def kV{o:yV}{v:AV}{s:Sem yh}(he:execOp a.eval o=(do pure (.value (<-s)):Sem ybf))(h:∃u,s.run O.P w=.ok u w/\ae O.ab m S w v u):Reads O m S w a o v:=by
 have⟨u,h1,h2⟩:=h;exact⟨u,by rw[he];simp[h1],h2⟩
def anT{o:yV}{op:wY}{t ty:yA}{x y:xB}{k:Nat}{v:AV}(hH:fh O H)(ht:bT O m S w tm a.tmps)(ho:o.op=.binOp op t x y ty)(hv:bh tm hp (aQ O.P H k o)=F5 v):Reads O m S w a o v:=by
 have rx:=bX hH ht x;have ry:=bX hH ht y;have guard:∀{u:yh},(∀xs ys,¬(a.eval x=.agg xs/\a.eval y=.agg ys))\/O.P.eqGuardType O.P.depth t=ydp->a.eval x≠.nilIface->(xX op t (a.eval x) (a.eval y)).run O.P w=.ok u w->
   (do eqGuard op t x y (a.eval x) (a.eval y);xX op t (a.eval x) (a.eval y):Sem yh).run O.P w=.ok u w:=by
  intro u h1 h2 h3
  simp only[Sem.run_bind,alb (P:=O.P) (w:=w) (t:=t) (op:=op) (x:=x) (y:=y) (h1.symm) h2,Result.andThen_ok,h3]
 have plain:bh tm hp (.bin op (aJ H x) (aJ H y))=F5 v->Reads O m S w a o v:=by
  intro hv;simp only[bh] at hv;obtain⟨u,h1,h2⟩:=anM (P:=O.P) (t:=t) rx ry hv
  refine kV (s:=do eqGuard op t x y (a.eval x) (a.eval y);xX op t (a.eval x) (a.eval y)) (by simp only[execOp,ho]) ⟨u,guard (.inl ?_) ?_ h1,h2⟩
  .rintro xs ys ⟨e1,e2⟩;rw[e1] at rx;unfold VE.binOp at hv
   split at hv
   .rename_i h3 _;rw[h3] at rx;simp[ae] at rx
   .rename_i h3 _;rw[h3] at rx;simp[ae] at rx
   .rename_i h3 _;rw[h3] at rx;simp[ae] at rx
   .rename_i h3 _;rw[h3] at rx;simp[ae] at rx
   .cases hv
  .intro e1;rw[e1] at rx;unfold VE.binOp at hv
   split at hv
   .rename_i h3 _;rw[h3] at rx;simp[ae] at rx
   .rename_i h3 _;rw[h3] at rx;simp[ae] at rx
   .rename_i h3 _;rw[h3] at rx;simp[ae] at rx
   .rename_i h3 _;rw[h3] at rx;simp[ae] at rx
   .cases hv
 have other:∀(ne:Bool) (kd:VE.Q7),(op=.eql/\ne=ydp\/op=.neq/\ne=ydo)->(∀r,kO kd (ax tm (aJ H x)) (ax tm (aJ H y))=F5 r->(Op.equal t (a.eval x) (a.eval y)).run O.P w=.ok r w/\
    ((∀xs ys,¬(a.eval x=.agg xs/\a.eval y=.agg ys))\/O.P.eqGuardType O.P.depth t=ydp)/\a.eval x≠.nilIface/\
    ∀q:Bool,(op=.eql->xX op t (a.eval x) (a.eval y)=(do pure (.bool (<-Op.equal t (a.eval x) (a.eval y)))))/\(op=.neq->xX op t (a.eval x) (a.eval y)=(do pure (.bool (!(<-Op.equal t (a.eval x) (a.eval y)))))))->
   bh tm hp (.eq ne kd (aJ H x) (aJ H y))=F5 v->Reads O m S w a o v:=by
  intro ne kd iA kP hv;simp only[bh] at hv
  cases he:kO kd (ax tm (aJ H x)) (ax tm (aJ H y)) with
  | none=>simp[he] at hv
  | some r=>
   simp only[he,yc] at hv;subst hv;obtain⟨h1,h2,h3,h4⟩:=kP r he;obtain⟨h5,h6⟩:=h4 ydo
   refine kV (s:=do eqGuard op t x y (a.eval x) (a.eval y);xX op t (a.eval x) (a.eval y)) (by simp only[execOp,ho]) ⟨.bool (ne !=r),guard h2 h3 ?_,by simp[ae]⟩
   rcases iA with ⟨rfl,rfl⟩ | ⟨rfl,rfl⟩
   .rw [h5 rfl];simp[h1]
   .rw [h6 rfl];simp[h1]
 have pB:O.P.underlying t=F5 .bool->∀r,kO .b (ax tm (aJ H x)) (ax tm (aJ H y))=F5 r->∃p q,a.eval x=.bool p/\a.eval y=.bool q/\(Op.equal t (a.eval x) (a.eval y)).run O.P w=.ok r w:=by
  intro hu r he;cases hx:ax tm (aJ H x)<;>cases hy:ax tm (aJ H y)<;>rw[hx,hy] at he<;>simp only[kO,reduceCtorEq] at he
  rw[hx] at rx;rw[hy] at ry;simp only[ae] at rx ry;simp only[yc] at he;refine⟨_,_,rx,ry,?_⟩;rw[rx,ry,TA,<-he];exact asR hu
 have pS:∀e,O.P.underlying t=F5 (.slice e)->∀r,kO .sl (ax tm (aJ H x)) (ax tm (aJ H y))=F5 r->∃p n c q n' c',a.eval x=.slice p n c/\a.eval y=.slice q n' c'/\(Op.equal t (a.eval x) (a.eval y)).run O.P w=.ok r w:=by
  intro e hu r he;have h1:=ap9 hu rx ry he;have sl:∀{v:AV} {u:yh},ae O.ab m S w v u->(v=.af\/(∃a b c,v=.ap a b c)\/∃a b c,v=.ay a b c)->∃p n c,u=.slice p n c:=by
   intro v u hr hv;rcases hv with rfl | ⟨_,_,_,rfl⟩ | ⟨_,_,_,rfl⟩
   .simp only [ae] at hr;exact⟨_,_,_,hr⟩
   .simp only [ae] at hr;rcases hr with ⟨b,o,c,hr,_⟩ | ⟨_,hr,_⟩<;>exact⟨_,_,_,hr⟩
   .simp only [ae] at hr;obtain⟨b,c,_,hr,_⟩:=hr;exact⟨_,_,_,hr⟩
  have dM:(ax tm (aJ H x)=.af\/(∃a b c,ax tm (aJ H x)=.ap a b c)\/∃a b c,ax tm (aJ H x)=.ay a b c)/\
    (ax tm (aJ H y)=.af\/(∃a b c,ax tm (aJ H y)=.ap a b c)\/∃a b c,ax tm (aJ H y)=.ay a b c):=by
   cases hx:ax tm (aJ H x)<;>cases hy:ax tm (aJ H y)<;>rw[hx,hy] at he<;>simp[kO] at he ⊢
  obtain⟨p,n,c,e1⟩:=sl rx dM.1;obtain⟨q,n',c',e2⟩:=sl ry dM.2;exact⟨p,n,c,q,n',c',e1,e2,h1⟩
 have pF:∀ps rs vr,O.P.underlying t=F5 (.func ps rs vr)->∀r,kO .fn (ax tm (aJ H x)) (ax tm (aJ H y))=F5 r->
   ((a.eval x=.nilFunc\/∃f p q,a.eval x=.func f p q)/\(a.eval y=.nilFunc\/∃f p q,a.eval y=.func f p q))/\(Op.equal t (a.eval x) (a.eval y)).run O.P w=.ok r w:=by
  intro ps rs vr hu r he;have h1:=aqa hu rx ry he;have sl:∀{v:AV} {u:yh},ae O.ab m S w v u->(v=.ir\/(∃a b c,v=.fn a b c))->(u=.nilFunc\/∃f p q,u=.func f p q):=by
   intro v u hr hv;rcases hv with rfl | ⟨f,_,_,rfl⟩
   .simp only [ae] at hr;exact .inl hr
   .cases f with
    | f g=>simp only[ae] at hr;obtain⟨b,c,hr,_⟩:=hr;exact .inr ⟨_,_,_,hr⟩
    | y l=>simp only[ae] at hr;obtain⟨b,_,hr⟩:=hr;exact .inr ⟨_,_,_,hr⟩
  have dM:(ax tm (aJ H x)=.ir\/(∃a b c,ax tm (aJ H x)=.fn a b c))/\(ax tm (aJ H y)=.ir\/(∃a b c,ax tm (aJ H y)=.fn a b c)):=by
   cases hx:ax tm (aJ H x)<;>cases hy:ax tm (aJ H y)<;>rw[hx,hy] at he<;>simp[kO] at he ⊢
  exact⟨⟨sl rx dM.1,sl ry dM.2⟩,h1⟩
 have pA:∀ks,kinds O.P 20 t=F5 ks->dB O.P t=F5 ydo->O.P.stoodInHeld t=ydp->∀r,kO (.ag ks) (ax tm (aJ H x)) (ax tm (aJ H y))=F5 r->∃p q,a.eval x=.agg p/\a.eval y=.agg q/\(Op.equal t (a.eval x) (a.eval y)).run O.P w=.ok r w:=by
  intro ks hk ha aR r he;cases hx:ax tm (aJ H x)<;>cases hy:ax tm (aJ H y)<;>rw[hx,hy] at he<;>simp only[kO,reduceCtorEq] at he
  rw[hx] at rx;rw[hy] at ry;simp only[ae] at rx ry;obtain⟨p,e1,h1⟩:=rx;obtain⟨q,e2,h2⟩:=ry;refine⟨p,q,e1,e2,?_⟩;rw[e1,e2,TA];exact OS 20 t ks hk aR 10000 (by omega) _ _ _ _ r _ _ h1 h2 he (.inl ⟨ha,by simp⟩) (.inl ⟨ha,by simp⟩)
 have eqs:∀(ne:Bool),(op=.eql/\ne=ydp\/op=.neq/\ne=ydo)->bh tm hp (oG O.P H ne op t x y)=F5 v->Reads O m S w a o v:=by
  intro ne iA hv;have agg:dB O.P t=F5 ydo->bh tm hp (pV O.P H ne t x y)=F5 v->Reads O m S w a o v:=by
   intro ha hv;unfold pV at hv
   cases hk:kinds O.P 20 t with
   | none=>rw[hk] at hv;exact (dA hv).elim
   | some ks=>
    simp only[hk] at hv
    cases hc:(O.P.stoodInHeld t||O.P.eqGuardType O.P.depth t) with
    | true=>rw[hc] at hv;exact (dA hv).elim
    | false=>
     rw[hc] at hv;simp only[yO] at hv;simp only[Bool.or_eq_false_iff] at hc;refine other ne (.ag ks) iA (fun r hr=>?_) hv;obtain⟨p,q,e1,e2,h1⟩:=pA ks hk ha hc.1 r hr;refine⟨h1,.inr hc.2,by rw[e1];simp,fun _=>?_⟩
     rw[e1,e2];exact⟨fun e=>by subst e;rfl,fun e=>by subst e;rfl⟩
  unfold oG at hv
  split at hv
  .exact plain hv
  .exact plain hv
  .exact plain hv
  .exact plain hv
  .rename_i hu;refine other ne .b iA (fun r hr=>?_) hv;obtain⟨p,q,e1,e2,h1⟩:=pB hu r hr;refine⟨h1,.inl (by rw[e1];simp),by rw[e1];simp,fun _=>?_⟩
   rw[e1,e2];exact⟨fun e=>by subst e;rfl,fun e=>by subst e;rfl⟩
  .rename_i e hu;refine other ne .sl iA (fun r hr=>?_) hv;obtain⟨p,n,c,q,n',c',e1,e2,h1⟩:=pS e hu r hr;refine⟨h1,.inl (by rw[e1];simp),by rw[e1];simp,fun _=>?_⟩
   rw[e1,e2];exact⟨fun e=>by subst e;rfl,fun e=>by subst e;rfl⟩
  .rename_i ps rs vr hu;refine other ne .fn iA (fun r hr=>?_) hv;obtain⟨⟨e1,e2⟩,h1⟩:=pF ps rs vr hu r hr;refine⟨h1,.inl ?_,?_,fun _=>?_⟩
   .rcases e1 with e1 | ⟨_,_,_,e1⟩<;>rw[e1]<;>simp
   .rcases e1 with e1 | ⟨_,_,_,e1⟩<;>rw[e1]<;>simp
   .rcases e1 with e1 | ⟨_,_,_,e1⟩<;>rcases e2 with e2 | ⟨_,_,_,e2⟩<;>rw[e1,e2]<;>exact⟨fun e=>by subst e;rfl,fun e=>by subst e;rfl⟩
  .rename_i fs hu;exact agg (by simp[dB,hu]) hv
  .rename_i k0 e hu;exact agg (by simp[dB,hu]) hv
  .exact (dA hv).elim
 cases op
 case eql=>exact eqs ydp (.inl ⟨rfl,rfl⟩) (by simpa only[aQ,ho] using hv)
 case neq=>exact eqs ydo (.inr ⟨rfl,rfl⟩) (by simpa only[aQ,ho] using hv)
 all_goals exact plain (by simpa only[aQ,ho] using hv)
end
end
section
open Go
section
variable {O:bq}{H:Hint}{m:Mp}{S:Nat->Prop}{w:yk}{tm:Env}{a:Act}{hp:Hp}{ct:Nat}
def A4{o:yV}{b:Builtin}{args:Array xB}{ts:Array yA}(ho:o.op=.call {callee:=.builtin b,args:=args,argTypes:=ts}):
  ∃cs,(execOp a.eval o).run O.P w=(builtin b ts o.type cs (args.map a.eval)).run O.P w:=by
 exact⟨_,by simp only[execOp,ho,resolve,Sem.run_bind,Sem.run_pure,Result.andThen_ok,invoke];rfl⟩
def al4{o:yV}{c:Call}{k:Nat}{v:AV}(hH:fh O H)(ht:bT O m S w tm a.tmps)(hh:aT O m S w hp ct)(ho:o.op=.call c)(hv:bh tm hp (aQ O.P H k o)=F5 v):Reads O m S w a o v:=by
 obtain⟨callee,args,ts⟩:=c;simp only[aQ,ho] at hv
 split at hv
 .cases Fv:H.mode k<;>simp[Fv,bh] at hv
 .rename_i _ b
  split at hv
  .have key:∀{bb:Bool} {sz by':Nat} {x y:X},bh tm hp (bif bb then .cQ sz by' x y else bad)=F5 v->False:=by
    intro bb sz by' x y h
    cases bb
    .exact dA h
    .simp [bh] at h
   split at hv
   .split at hv
    .exact (key hv).elim
    .exact (dA hv).elim
   .split at hv
    .exact (key hv).elim
    .exact (dA hv).elim
   .exact (dA hv).elim
  .rename_i x t eI nk;obtain⟨al⟩:=args;obtain⟨tl⟩:=ts;simp only at eI nk;subst eI;subst nk;obtain⟨cs,dV⟩:=A4 (O:=O) (w:=w) (a:=a) ho;have fin:(∃u,(Builtin.len_ #[t] o.type #[a.eval x]).run O.P w=.ok u w/\ae O.ab m S w v u)->Reads O m S w a o v:=by
    rintro⟨u,h1,h2⟩;refine⟨u,?_,h2⟩;rw[dV];simp[builtin,h1]
   split at hv
   .rename_i n e hu;simp only[bh,ax,yc] at hv;subst hv;exact fin ⟨_,by simp[Builtin.len_,run_underlying hu];rfl,by simp[ae,goInt]⟩
   .rename_i hu;simp only[bh] at hv;exact fin (UI hh (bX hH ht x) (.inl ⟨rfl,hu⟩) hv)
   .rename_i e hu;simp only[bh] at hv;exact fin (UI hh (bX hH ht x) (.inr (.inl ⟨rfl,e,hu⟩)) hv)
   .rename_i kt e hu;simp only[bh] at hv;exact fin (UI hh (bX hH ht x) (.inr (.inr ⟨rfl,kt,e,hu⟩)) hv)
   .exact (dA hv).elim
  .split at hv
   .split at hv
    .simp [bh] at hv
    .exact (dA hv).elim
   .exact (dA hv).elim
  .simp only [bh] at hv;obtain⟨cs,dV⟩:=A4 (O:=O) (w:=w) (a:=a) ho;have hl:=Eu hH ht args.toList
   cases hx:dK tm (iQ H args.toList) with
   | nil=>simp[hx] at hv
   | cons c r=>
    simp only[hx] at hv;rw[hx] at hl;simp only[aB] at hl;obtain⟨u,us,h1,h2,h3⟩:=hl;obtain⟨q,h4,h5⟩:=Uh (O:=O) (g:=Builtin.min2) (fun va vb v x y hx hy h=>aqd hx hy h) r us c v u h2 h3 hv;refine⟨q,?_,h5⟩;rw[dV];simp[builtin,Builtin.min_,h1,h4]
  .simp only [bh] at hv;obtain⟨cs,dV⟩:=A4 (O:=O) (w:=w) (a:=a) ho;have hl:=Eu hH ht args.toList
   cases hx:dK tm (iQ H args.toList) with
   | nil=>simp[hx] at hv
   | cons c r=>
    simp only[hx] at hv;rw[hx] at hl;simp only[aB] at hl;obtain⟨u,us,h1,h2,h3⟩:=hl;obtain⟨q,h4,h5⟩:=Uh (O:=O) (g:=Builtin.max2) (fun va vb v x y hx hy h=>aqe hx hy h) r us c v u h2 h3 hv;refine⟨q,?_,h5⟩;rw[dV];simp[builtin,Builtin.max_,h1,h4]
  .rename_i ts' x eI;obtain⟨al⟩:=args;simp only at eI;subst eI;obtain⟨cs,dV⟩:=A4 (O:=O) (w:=w) (a:=a) ho;simp only[bh] at hv;have rx:=bX hH ht x;cases hx:ax tm (aJ H x)<;>rw[hx] at hv rx<;>simp only[jW,reduceCtorEq,yc] at hv
   rename_i k0 p0 q0;subst hv;simp only[ae] at rx;have e1:(#[x]:Array xB).map a.eval=#[Value.complex k0 p0 q0]:=by simp[rx]
   have e2:Builtin.real_ ts o.type #[Value.complex k0 p0 q0]=pure (.float k0 p0):=rfl;exact⟨.float k0 p0,by rw[dV,e1];simp[builtin,e2],by simp[ae]⟩
  .rename_i ts' x eI;obtain⟨al⟩:=args;simp only at eI;subst eI;obtain⟨cs,dV⟩:=A4 (O:=O) (w:=w) (a:=a) ho;simp only[bh] at hv;have rx:=bX hH ht x;cases hx:ax tm (aJ H x)<;>rw[hx] at hv rx<;>simp only[jW,reduceCtorEq,yc] at hv
   rename_i k0 p0 q0;subst hv;simp only[ae] at rx;have e1:(#[x]:Array xB).map a.eval=#[Value.complex k0 p0 q0]:=by simp[rx]
   have e2:Builtin.imag_ ts o.type #[Value.complex k0 p0 q0]=pure (.float k0 q0):=rfl;exact⟨.float k0 q0,by rw[dV,e1];simp[builtin,e2],by simp[ae]⟩
  .rename_i ts' x y eI;obtain⟨al⟩:=args;simp only at eI;subst eI;obtain⟨cs,dV⟩:=A4 (O:=O) (w:=w) (a:=a) ho;simp only[bh] at hv;have rx:=bX hH ht x;have ry:=bX hH ht y;cases hx:ax tm (aJ H x)<;>cases hy:ax tm (aJ H y)<;>rw[hx] at hv rx<;>rw[hy] at hv ry<;>simp only[aeH,reduceCtorEq] at hv
   rename_i k1 a1 k2 b1;simp only[ae] at rx ry;by_cases hk:k1=k2
   .subst hk;simp only[xJ,yc] at hv;subst hv;have e1:(#[x,y]:Array xB).map a.eval=#[Value.float k1 a1,Value.float k1 b1]:=by simp[rx,ry]
    have e2:Builtin.complex_ ts o.type #[Value.float k1 a1,Value.float k1 b1]=pure (.complex k1 a1 b1):=by
     show (if k1=k1 then _ else _)=_
     simp
    exact⟨.complex k1 a1 b1,by rw[dV,e1];simp[builtin,e2],by simp[ae]⟩
   .simp [hk] at hv
  .exact (dA hv).elim
 .exact (dA hv).elim
def acM{o:yV}{k:Nat}{v:AV}(hH:fh O H)(ht:bT O m S w tm a.tmps)(hh:aT O m S w hp ct)(hv:bh tm hp (aQ O.P H k o)=F5 v):Reads O m S w a o v:=by
 cases ho:o.op with
 | call c=>exact al4 hH ht hh ho hv
 | binOp op t x y ty=>exact anT hH ht ho hv
 | move x=>
  simp only[aQ,ho,bh,yc] at hv;subst hv;exact⟨_,by simp only[execOp,ho,Sem.run_pure],bX hH ht x⟩
 | assign x=>
  simp only[aQ,ho,bh,yc] at hv;subst hv;exact⟨_,by simp only[execOp,ho,Sem.run_pure],bX hH ht x⟩
 | pick c x y=>
  simp only[aQ,ho,bh] at hv;have rc:=bX hH ht c;cases hc:ax tm (aJ H c)<;>rw[hc] at hv<;>simp only[reduceCtorEq] at hv
  rename_i b;rw[hc] at rc;simp only[ae] at rc;simp only[yc] at hv;subst hv
  cases b with
  | true=>exact⟨a.eval x,by simp[execOp,ho,rc,asBool],bX hH ht x⟩
  | false=>exact⟨a.eval y,by simp[execOp,ho,rc,asBool],bX hH ht y⟩
 | load t x=>
  simp only[aQ,ho] at hv
  split at hv
  .rename_i s ag hz ha;simp only[bh] at hv;exact kV (by simp only[execOp,ho]) (awV hh hz ha (bX hH ht x) hv)
  .exact (dA hv).elim
 | fieldAddr t x i=>
  simp only[aQ,ho] at hv
  split at hv
  .rename_i fs hu
   split at hv
   .rename_i f hf
    split at hv
    .rename_i s hz;simp only[bh] at hv;exact kV (by simp only[execOp,ho]) (asS hu hf hz (bX hH ht x) hv)
    .exact (dA hv).elim
   .exact (dA hv).elim
  .exact (dA hv).elim
 | field t x i=>
  simp only[aQ,ho] at hv
  split at hv
  .rename_i fs hu
   split at hv
   .rename_i f hf
    split at hv
    .rename_i s ag hz ha;simp only[bh] at hv;exact kV (by simp only[execOp,ho]) (asT hu hf hz ha (bX hH ht x) hv)
    .exact (dA hv).elim
   .exact (dA hv).elim
  .exact (dA hv).elim
 | nilCheck x=>
  simp only[aQ,ho,bh] at hv;have rx:=bX hH ht x;cases hx:ax tm (aJ H x)<;>rw[hx] at hv rx<;>simp only[reduceCtorEq,yc] at hv
  .subst hv;have r':=rx;simp only[ae] at r';obtain⟨p,_,e⟩:=r';exact⟨a.eval x,by simp only[execOp,ho,e,Sem.run_pure],rx⟩
  .subst hv;have r':=rx;simp only[ae] at r';obtain⟨b,o',e,_⟩:=r';exact⟨a.eval x,by simp only[execOp,ho,e,Sem.run_pure],rx⟩
  .subst hv;rename_i f _ _
   cases f with
   | f g=>
    have r':=rx;simp only[ae] at r';obtain⟨fi,ca,e,_⟩:=r';exact⟨a.eval x,by simp only[execOp,ho,e,Sem.run_pure],rx⟩
   | y l=>
    have r':=rx;simp only[ae] at r';obtain⟨p,_,e⟩:=r';exact⟨a.eval x,by simp only[execOp,ho,e,Sem.run_pure],rx⟩
 | unOp op t x=>
  simp only[aQ,ho,bh] at hv;exact kV (by simp only[execOp,ho]) (aqb (bX hH ht x) hv)
 | convert s d x=>
  simp only[aQ,ho] at hv
  split at hv
  .rename_i k1 k2 hs hd;simp only[bh] at hv;exact kV (by simp only[execOp,ho]) (abm hd (.inl ⟨_,hs⟩) (bX hH ht x) hv)
  .rename_i k1 k2 hs hd;simp only[bh] at hv;exact kV (by simp only[execOp,ho]) (abm hd (.inr ⟨_,hs⟩) (bX hH ht x) hv)
  .rename_i k1 k2 hs hd;simp only[bh] at hv;exact kV (by simp only[execOp,ho]) (abn hd (.inl ⟨_,hs⟩) (bX hH ht x) hv)
  .rename_i k1 k2 hs hd;simp only[bh] at hv;exact kV (by simp only[execOp,ho]) (abn hd (.inr ⟨_,hs⟩) (bX hH ht x) hv)
  .rename_i hs hd;simp only[bh] at hv;exact kV (by simp only[execOp,ho]) (anN hd hs (bX hH ht x) hv)
  .exact (dA hv).elim
 | makeFunc fn first cap=>
  cases fn with
  | func f=>
   simp only[aQ,ho] at hv
   split at hv
   .rename_i g hg;simp only[bh,yc] at hv;subst hv;refine⟨.func (.func f) (first.map a.eval) (cap.map a.eval),by simp[execOp,ho,Instr.makeFunc],?_⟩;simp only[ae];exact⟨_,_,by rw[hH f g hg],by simpa using Eu hH ht first.toList,by simpa using Eu hH ht cap.toList⟩
   .exact (dA hv).elim
  | _=>simp only[aQ,ho] at hv;exact (dA hv).elim
 | slice t x lo hi mx=>
  cases mx with
  | some q=>simp only[aQ,ho] at hv;exact (dA hv).elim
  | none=>
   simp only[aQ,ho] at hv
   split at hv
   .rename_i hu;simp only[bh] at hv;exact kV (by simp only[execOp,ho];rfl) (al3 hH ht hu (bX hH ht x) hv)
   .rename_i e hu
    split at hv
    .rename_i s hz;simp only[bh] at hv;exact kV (by simp only[execOp,ho];rfl) (anO hH ht hu hz hh (bX hH ht x) hv)
    .exact (dA hv).elim
   .rename_i n e hu
    split at hv
    .rename_i s hz;simp only[bh] at hv;exact kV (by simp only[execOp,ho];rfl) (anP hH ht hu hz (bX hH ht x) hv)
    .exact (dA hv).elim
   .exact (dA hv).elim
 | indexAddr t x i=>
  simp only[aQ,ho] at hv
  split at hv
  .rename_i e hu
   split at hv
   .rename_i s hz;simp only[bh] at hv
    cases hk:dt (ax tm (aJ H i)) with
    | none=>simp[hk] at hv
    | some j=>
     simp only[hk] at hv;exact kV (by simp only[execOp,ho]) (asU hu hz (bX hH ht x) (bX hH ht i) hk hv)
   .exact (dA hv).elim
  .rename_i n e hu
   split at hv
   .rename_i s hz;simp only[bh] at hv
    cases hk:dt (ax tm (aJ H i)) with
    | none=>simp[hk] at hv
    | some j=>
     simp only[hk] at hv;exact kV (by simp only[execOp,ho]) (asV hu hz (bX hH ht x) (bX hH ht i) hk hv)
   .exact (dA hv).elim
  .exact (dA hv).elim
 | index t x i=>
  simp only[aQ,ho] at hv
  split at hv
  .rename_i hu;simp only[bh] at hv
   cases hk:dt (ax tm (aJ H i)) with
   | none=>simp[hk] at hv
   | some j=>
    simp only[hk] at hv;exact kV (by simp only[execOp,ho]) (asX hu (bX hH ht x) (bX hH ht i) hk hv)
  .rename_i n e hu
   split at hv
   .rename_i s ag hz ha;simp only[bh] at hv
    cases hk:dt (ax tm (aJ H i)) with
    | none=>simp[hk] at hv
    | some j=>
     simp only[hk] at hv;exact kV (by simp only[execOp,ho]) (asW hu hz ha (bX hH ht x) (bX hH ht i) hk hv)
   .exact (dA hv).elim
  .exact (dA hv).elim
 | lookup t x i ok=>
  simp only[aQ,ho] at hv
  split at hv
  .rename_i kt e hu
   split at hv
   .rename_i kk z zp hz;simp only[bh] at hv
    cases hf:pT kk (ax tm (aJ H i)) with
    | false=>simp[hf] at hv
    | true=>
     simp only[hf,yu] at hv;obtain⟨zv,kR,rfl⟩:=Gl (w:=w) hz
     cases hr:CR hp (ax tm (aJ H i)) (ax tm (aJ H x)) with
     | none=>simp[hr] at hv
     | some r=>
      refine kV (by simp only[execOp,ho]) (asY (ok:=ok) (r:=r) (z:=eZ zv) hh hu zp hf kR (bX hH ht x) (bX hH ht i) (Ot zv) hr ?_);cases r<;>simpa[hr] using hv
   .exact (dA hv).elim
  .exact (dA hv).elim
 | extract x i=>
  simp only[aQ,ho,bh] at hv;have rx:=bX hH ht x;cases hx:ax tm (aJ H x)<;>rw[hx] at hv rx<;>simp only[reduceCtorEq] at hv
  simp only[ae] at rx;obtain⟨xs,e,hr⟩:=rx;obtain⟨u,h1,h2⟩:=TC hr hv;refine⟨u,?_,h2⟩;have Xv:xs[i]? =F5 u:=by simpa using h1
  simp[execOp,ho,e,Instr.extract,Xv]
 | build t parts=>
  simp only[aQ,ho] at hv
  split at hv
  .rename_i fs z hu hz
   split at hv
   .rename_i pl ayT;have j8:=run_places (P:=O.P) w fs.toList pl ayT
    split at hv
    case h_2=>exact (dA hv).elim
    rename_i ps jk;simp only[bh] at hv
    cases hf:fill tm z ps with
    | none=>simp[hf] at hv
    | some cs=>
     simp only[hf,yc] at hv;subst hv;obtain⟨zv,kR,iV⟩:=Gl (w:=w) hz;have BX:aB O.ab m S w z zv.cells.toList:=by
      have:=Eb (ab:=O.ab) (m:=m) (S:=S) (w:=w) zv
      rw[<-iV] at this;exact this
     obtain⟨out,h1,h2⟩:=Ov hH ht (place:=fun i=>pl[i]?) parts.toList ps z cs zv.cells jk BX hf;refine⟨.agg out,?_,by simp only[ae];exact⟨out,rfl,h2⟩⟩
     have hm:(Array.mapM (fun f=>Functor.map (Prod.mk f.offset) (vB f.type)) fs:Sem (Array (Nat×Nat))).run O.P w=.ok pl.toArray w:=by
      rw[Array.mapM_eq_mapM_toList];simp[j8]
     simp[execOp,ho,Instr.build,kR,run_underlying hu,hm,h1]
   .exact (dA hv).elim
  .rename_i n e z hu hz
   split at hv
   .rename_i s hs
    split at hv
    .rename_i ps jk;simp only[bh] at hv
     cases hf:fill tm z ps with
     | none=>simp[hf] at hv
     | some cs=>
      simp only[hf,yc] at hv;subst hv;obtain⟨zv,kR,iV⟩:=Gl (w:=w) hz;have BX:aB O.ab m S w z zv.cells.toList:=by
       have:=Eb (ab:=O.ab) (m:=m) (S:=S) (w:=w) zv
       rw[<-iV] at this;exact this
      obtain⟨out,h1,h2⟩:=Ov hH ht (place:=fun i=>F5 (i*s,s)) parts.toList ps z cs zv.cells jk BX hf;refine⟨.agg out,?_,by simp only[ae];exact⟨out,rfl,h2⟩⟩
      simp[execOp,ho,Instr.build,kR,run_underlying hu,pM hs,h1]
    .exact (dA hv).elim
   .exact (dA hv).elim
  .exact (dA hv).elim
 | alloc t=>simp only[aQ,ho] at hv;split at hv<;>simp[bh,bad] at hv
 | box t x=>simp only[aQ,ho] at hv;split at hv<;>simp[bh,bad] at hv
 | buildSlice t n parts=>
  simp only[aQ,ho] at hv
  split at hv
  .split at hv
   .rename_i s z _ _
    cases hc:yC (n*s) 16777216 with
    | false=>rw[hc] at hv;exact (dA hv).elim
    | true=>
     rw[hc] at hv;simp only[yu] at hv
     split at hv
     .simp [bh] at hv
     .exact (dA hv).elim
   .exact (dA hv).elim
  .exact (dA hv).elim
 | makeMap t r=>
  cases r<;>simp only[aQ,ho] at hv
  .repeat' split at hv
   all_goals simp[bh,bad] at hv
  .exact (dA hv).elim
 | makeSlice t l c=>
  simp only[aQ,ho] at hv
  repeat' split at hv
  all_goals simp[bh,bad] at hv
 | insert t x k y=>
  simp only[aQ,ho] at hv
  repeat' split at hv
  all_goals simp[bh,bad] at hv
 | mapUpdate t x k y=>
  simp only[aQ,ho] at hv
  repeat' split at hv
  all_goals simp[bh,bad] at hv
 | store t x y=>simp only[aQ,ho] at hv;split at hv<;>simp[bh,bad] at hv
 | range t x=>simp only[aQ,ho] at hv;split at hv<;>simp[bh,bad] at hv
 | next x b=>cases b<;>simp[aQ,ho,bh,bad] at hv
 | _=>simp[aQ,ho,bh,bad] at hv
end
end
section
open Go
def fL(m:Mp)(id:Nat)(p:Pl):Mp:=fun i=>if i=id then F5 p else m i
def dI{m:Mp}{id:Nat}{p:Pl}:fL m id p id=F5 p:=by simp[fL]
def eB{m:Mp}{id i:Nat}{p:Pl}(h:i≠id):fL m id p i=m i:=by simp[fL,h]
section
variable {O:bq}{m:Mp}{S:Nat->Prop}{w:yk}{hp:Hp}{ct:Nat}
def di(m m':Mp):Prop:=∀id p,m id=F5 p->m' id=F5 p
def di.refl{m:Mp}:di m m:=fun _ _ h=>h
def di.trans{m m' Ml:Mp}(h:di m m')(k:di m' Ml):di m Ml:=fun id p hp=>k id p (h id p hp)
def jM{i:Nat}(h:m i=F6){p:Pl}:di m (fL m i p):=by
 intro id q hq;rw[eB]
 .grind
 .grind
def Cn{tm:Env}{tmps:Array yh}{m':Mp}{S':Nat->Prop}{w':yk}(hm:∀id p,m id=F5 p->m' id=F5 p)(hS:∀b,S b->S' b)(hw:gh S w w')(h:bT O m S w tm tmps):bT O m' S' w' tm tmps:=fun i=>mN hm hS hw _ _ (h i)
def alloc_old{o:yaJ}{b:Nat}(hb:b<w.heap.size):(w.alloc o).heap[b]? =w.heap[b]? :=RowKit.Below.heap_alloc w o b hb
def zT{m':Mp}{S':Nat->Prop}{w':yk}{id:Nat}{o:Obj}(hm:∀id p,m id=F5 p->m' id=F5 p)(hS:∀b,S b->S' b)(hw:gh S w w')(hb:∀p,m id=F5 p->w'.heap[p.b]? =w.heap[p.b]?)(hn:∀p,m id=F5 p->S' p.b->S p.b)(h:fk O m S w id o):fk O m' S' w' id o:=by
 have rowAt:∀(cs:List AV) (b k:Nat),w'.heap[b]? =w.heap[b]? ->bR O.ab m S w cs b k->bR O.ab m' S' w' cs b k:=by
  intro cs
  induction cs with
  | nil=>intro b k _ _;simp only[bR]
  | cons c cs ih=>
   intro b k AJ hr;have⟨⟨u,h1,h2⟩,h3⟩:=hr;exact⟨⟨u,(Np AJ).trans h1,mN hm hS hw _ _ h2⟩,ih b (k+1) AJ h3⟩
 cases o with
 | cells rw pu ex sz cs=>
  have⟨p,arr,t,h1,h2,h3,h4,h5,h6,h7,h8,h9,iW⟩:=h;exact⟨p,arr,t,hm _ _ h1,(hb p h1).trans h2,h3,h4,h5,h6,rowAt cs p.b p.o (hb p h1) h7,h8,fun hr hs=>h9 hr (hn p h1 hs),fun hr=>hS _ (iW hr)⟩
 | mp rw ks vs=>
  have⟨p,es,clock,h1,h2,h3,h4,h5,h6⟩:=h;exact⟨p,es,clock,hm _ _ h1,(hb p h1).trans h2,iJ hm hS hw _ _ h3,iJ hm hS hw _ _ h4,fun hr hs=>h5 hr (hn p h1 hs),fun hr=>hS _ (h6 hr)⟩
 | si s pos=>
  have⟨p,t,h1,h2,h3,h4⟩:=h;exact⟨p,t,hm _ _ h1,(hb p h1).trans h2,h3,fun hs=>h4 (hn p h1 hs)⟩
 | lp tm ps as_ body st pe=>
  have⟨p,l,hi,h1,h2,h3,h4,h5,h6,h7,h8⟩:=h;exact⟨p,l,hi,hm _ _ h1,(hb p h1).trans h2,fun hs=>h3 (hn p h1 hs),h4,h5,h6,Cn hm hS hw h7,h8⟩
def fF{id i:Nat}{o:Obj}:ak ((id,o)::hp) i=if id=i then F5 o else ak hp i:=by
 simp only[ak]
 simp_all
def Jt(hh:aT O m S w hp ct)(g:yaJ):gh S w (w.alloc g):=fun b hb=>alloc_old (hh.slt b hb)
def jI:Obj->Obj->Prop
 | .cells rw pu ex sz cs,o'=>∃dG,o'=.cells dG pu ex sz cs/\(dG=ydo->rw=ydo)
 | .mp rw ks vs,o'=>∃dG,o'=.mp dG ks vs/\(dG=ydo->rw=ydo)
 | .si s pos,o'=>o'=.si s pos
 | .lp tm ps as_ body st pe,o'=>o'=.lp tm ps as_ body st pe
def jI.refl:∀o,jI o o
 | .cells rw _ _ _ _=>⟨rw,rfl,fun h=>h⟩
 | .mp rw _ _=>⟨rw,rfl,fun h=>h⟩
 | .si _ _=>rfl
 | .lp _ _ _ _ _ _=>rfl
def jI.trans{a b c:Obj}(h:jI a b)(k:jI b c):jI a c:=by
 cases a with
 | cells rw pu ex sz cs=>
  obtain⟨r1,rfl,h1⟩:=h;obtain⟨r2,rfl,h2⟩:=k;exact⟨r2,rfl,fun h=>h1 (h2 h)⟩
 | mp rw ks vs=>
  obtain⟨r1,rfl,h1⟩:=h;obtain⟨r2,rfl,h2⟩:=k;exact⟨r2,rfl,fun h=>h1 (h2 h)⟩
 | si s pos=>simp only[jI] at h;subst h;exact k
 | lp tm ps as_ body st pe=>simp only[jI] at h;subst h;exact k
def cR(hp an:Hp):Prop:=∀id o,ak hp id=F5 o->∃o',ak an id=F5 o'/\jI o o'
def cR.refl{hp:Hp}:cR hp hp:=fun _ o h=>⟨o,h,jI.refl o⟩
def cR.trans{a b c:Hp}(h:cR a b)(k:cR b c):cR a c:=fun id o ho=>
 let ⟨o1,h1,l1⟩:=h id o ho
 let ⟨o2,h2,l2⟩:=k id o1 h1
 ⟨o2,h2,l1.trans l2⟩
def jq:Obj->Prop
 | .cells rw _ _ _ _=>rw=ydp
 | .mp rw _ _=>rw=ydp
 | _=>False
def acN{an:Hp}{aH:Nat}(hh:aT O m S w hp ct)(hl:cR hp an)(hd:∀id o p,ak an id=F5 o->m id=F5 p->∃o',ak hp id=F5 o')(fw:ct<=aH)(ayU:∀id o,ak an id=F5 o->id<aH):
  ∃S',aT O m S' w an aH/\(∀b,S b->S' b)/\∀b,S' b->S b\/er m hp b:=by
 refine⟨fun b=>S b\/∃id p o,m id=F5 p/\p.b=b/\ak an id=F5 o/\jq o,?_,fun b h=>.inl h,?_⟩
 .refine ⟨?_,fun id p h=>yG (hh.lt id p h) fw,?_,?_,hh.blt,hh.low,hh.mW,hh.gH,ayU⟩
  .intro id o' p jF hm;have⟨o,ho⟩:=hd id o' p jF hm;have⟨Xw,h1,h2⟩:=hl id o ho;rw[jF] at h1;injection h1 with h1
   subst h1;have h3:=hh.obj id o p ho hm;have hS:∀b,S b->(S b\/∃id p o,m id=F5 p/\p.b=b/\ak an id=F5 o/\jq o):=fun b h=>.inl h
   have iB:∀q,m id=F5 q->(∃id p o,m id=F5 p/\p.b=q.b/\ak an id=F5 o/\jq o)->jq o':=by
    rintro q hq ⟨j,pj,oj,Rc,hj2,hj3,hj4⟩;have⟨Mn,hj5⟩:=hd j oj pj hj3 Rc
    have:=hh.inj id j o Mn q pj ho hj5 hq Rc hj2.symm
    grind
   have aR:gh S w w:=fun _ _=>rfl
   cases o with
   | cells rw pu ex sz cs=>
    obtain⟨dG,rfl,zq⟩:=h2;have⟨q,arr,t,h1,h2,h3,h4,h5,h6,h7,h8,h9,iW⟩:=h3;refine⟨q,arr,t,h1,h2,h3,h4,h5,h6,?_,h8,?_,?_⟩
    .clear h4 h6 h8;revert h7;generalize q.o=k
     induction cs generalizing k with
     | nil=>intro _;simp only[bR]
     | cons c cs ih=>
      intro hr;simp only[bR] at hr ⊢;have⟨⟨u,g1,g2⟩,g3⟩:=hr
      exact⟨⟨u,g1,mN (fun _ _ h=>h) hS aR _ _ g2⟩,by
       have BU:∀(cs:List AV) (b k:Nat),bR O.ab m S w cs b k->bR O.ab m (fun b=>S b\/∃id p o,m id=F5 p/\p.b=b/\ak an id=F5 o/\jq o) w cs b k:=by
        intro cs
        induction cs with
        | nil=>intro b k _;simp only[bR]
        | cons c cs ih=>
         intro b k hr;simp only[bR] at hr ⊢;have⟨⟨u,g1,g2⟩,g3⟩:=hr;exact⟨⟨u,g1,mN (fun _ _ h=>h) hS aR _ _ g2⟩,ih b (k+1) g3⟩
       exact BU _ _ _ g3⟩
    .rintro hr (hs | hs)
     .grind
     .have:=iB q h1 hs
      simp only[jq] at this
      grind
    .intro hr;exact .inr ⟨id,q,_,h1,rfl,jF,hr⟩
   | mp rw ks vs=>
    obtain⟨dG,rfl,zq⟩:=h2;have⟨q,es,clock,h1,h2,h3,h4,h5,h6⟩:=h3;refine⟨q,es,clock,h1,h2,iJ (fun _ _ h=>h) hS aR _ _ h3,iJ (fun _ _ h=>h) hS aR _ _ h4,?_,?_⟩
    .rintro hr (hs | hs)
     .grind
     .have:=iB q h1 hs
      simp only[jq] at this
      grind
    .intro hr;exact .inr ⟨id,q,_,h1,rfl,jF,hr⟩
   | si s pos=>
    simp only[jI] at h2;subst h2;refine zT (fun _ _ h=>h) hS aR (fun _ _=>rfl) (fun q hq hs=>?_) h3;rcases hs with hs | hs
    .grind
    .exact (iB q hq hs).elim
   | lp tm ps as_ body st pe=>
    simp only[jI] at h2;subst h2;refine zT (fun _ _ h=>h) hS aR (fun _ _=>rfl) (fun q hq hs=>?_) h3;rcases hs with hs | hs
    .grind
    .exact (iB q hq hs).elim
  .intro i j oi oj pi pj hi hj bG gX e;have⟨Mq,c9⟩:=hd i oi pi hi bG;have⟨Mn,Xx⟩:=hd j oj pj hj gX;exact hh.inj i j Mq Mn pi pj c9 Xx bG gX e
  .rintro b (hb | ⟨id,p,o,h1,rfl,_,_⟩)
   .exact hh.slt b hb
   .exact hh.blt id p h1
 .rintro b (hb | ⟨id,p,o,h1,rfl,h3,_⟩)
  .exact .inl hb
  .have ⟨o',jF⟩:=hd id o p h3 h1;exact .inr ⟨id,o',p,jF,h1,rfl⟩
def TE{i:Nat}(hh:aT O m S w hp ct)(hi:m i=F6)(HO:i<ct){g:yaJ}{p:Pl}(hb:p.b=w.heap.size)(hf:∀o,ak hp i=F5 o->(fk O (fL m i p) S (w.alloc g) i o/\¬jq o)\/
   (jq o/\fk O (fL m i p) (fun b=>S b\/b=w.heap.size) (w.alloc g) i o)):
  ∃S',aT O (fL m i p) S' (w.alloc g) hp ct/\(∀b,S b->S' b)/\∀b,S' b->S b\/b=w.heap.size:=by
 have eJ:(w.alloc g).heap.size=w.heap.size+1:=by simp
 have aZ:O.w0.heap.size<=w.heap.size:=hh.gH;have gen:∀S':Nat->Prop,(∀b,S b->S' b)->(∀b,S' b->S b\/b=w.heap.size)->(∀o,ak hp i=F5 o->fk O (fL m i p) S' (w.alloc g) i o)->aT O (fL m i p) S' (w.alloc g) hp ct:=by
  intro S' h1 h2 h3;have Mr:∀id q,m id=F5 q->¬q.b=w.heap.size:=fun id q hq=>by have:=hh.blt id q hq;lia
  refine⟨?_,?_,?_,?_,?_,?_,?_,?_,hh.aM⟩
  .intro id o q ho hm;by_cases hc:id=i
   .grind
   .rw [eB hc] at hm;refine zT (jM hi) h1 (Jt hh g) (fun q' bL=>alloc_old (hh.blt id q' bL)) (fun q' bL hs=>?_) (hh.obj id o q ho hm)
    grind
  .intro id q hm;by_cases hc:id=i
   .grind
   .rw [eB hc] at hm;exact hh.lt id q hm
  .intro a b oa ob pa pb ha bI Fw BC e;by_cases ca:a=i
   .by_cases cb:b=i
    .grind
    .subst ca;rw[dI] at Fw;rw[eB cb] at BC
     grind
   .rw [eB ca] at Fw;by_cases cb:b=i
    .subst cb;rw[dI] at BC
     grind
    .rw [eB cb] at BC;exact hh.inj a b oa ob pa pb ha bI Fw BC e
  .intro b hs;rcases h2 b hs with h | h
   .have:=hh.slt b h;lia
   .lia
  .intro id q hm;by_cases hc:id=i
   .subst hc;rw[dI] at hm
    grind
   .rw [eB hc] at hm
    have:=hh.blt id q hm
    lia
  .intro id q hm;by_cases hc:id=i
   .subst hc;rw[dI] at hm
    grind
   .rw [eB hc] at hm;exact hh.low id q hm
  .intro b AJ;exact (alloc_old (by lia)).trans (hh.mW b AJ)
  .lia
 cases ho:ak hp i with
 | none=>exact⟨S,gen S (fun _ h=>h) (fun _ h=>.inl h) (fun o h=>by rw[ho] at h;cases h),fun _ h=>h,fun _ h=>.inl h⟩
 | some o=>
  rcases hf o ho with ⟨h1,_⟩ | ⟨_,h1⟩
  .exact ⟨S,gen S (fun _ h=>h) (fun _ h=>.inl h) (fun o' h=>by rw[ho] at h;injection h with h;subst h;exact h1),fun _ h=>h,fun _ h=>.inl h⟩
  .exact ⟨_,gen (fun b=>S b\/b=w.heap.size) (fun _ h=>.inl h) (fun _ h=>h) (fun o' h=>by rw[ho] at h;injection h with h;subst h;exact h1),fun _ h=>.inl h,fun _ h=>h⟩
def Sz{id:Nat}{o o':Obj}{p:Pl}(hl:jI o o')(hm:m id=F5 p)(h:fk O m S w id o)(hn:¬jq o):
  (fk O m S w id o'/\¬jq o')\/(jq o'/\fk O m (fun b=>S b\/b=p.b) w id o'):=by
 have hS:∀b,S b->(S b\/b=p.b):=fun _ h=>.inl h
 have aR:gh S w w:=fun _ _=>rfl
 cases o with
 | cells rw pu ex sz cs=>
  obtain⟨dG,rfl,zq⟩:=hl
  cases dG with
  | true=>
   grind
  | false=>
   refine .inr ⟨rfl,?_⟩;have⟨q,arr,t,h1,h2,h3,h4,h5,h6,h7,h8,h9,iW⟩:=h;rw[hm] at h1;injection h1 with h1
   subst h1;have BU:∀(cs:List AV) (b k:Nat),bR O.ab m S w cs b k->bR O.ab m (fun b=>S b\/b=p.b) w cs b k:=by
    intro cs
    induction cs with
    | nil=>intro b k _;simp only[bR]
    | cons c cs ih=>
     intro b k hr;have⟨⟨u,g1,g2⟩,g3⟩:=hr;exact⟨⟨u,g1,mN (fun _ _ h=>h) hS aR _ _ g2⟩,ih b (k+1) g3⟩
   exact⟨p,arr,t,hm,h2,h3,h4,h5,h6,BU _ _ _ h7,h8,by simp,fun _=>.inr rfl⟩
 | mp rw ks vs=>
  obtain⟨dG,rfl,zq⟩:=hl
  cases dG with
  | true=>
   grind
  | false=>
   refine .inr ⟨rfl,?_⟩;have⟨q,es,clock,h1,h2,h3,h4,h5,h6⟩:=h;rw[hm] at h1;injection h1 with h1
   subst h1;exact⟨p,es,clock,hm,h2,iJ (fun _ _ h=>h) hS aR _ _ h3,iJ (fun _ _ h=>h) hS aR _ _ h4,by simp,fun _=>.inr rfl⟩
 | si s pos=>simp only[jI] at hl;subst hl;exact .inl ⟨h,hn⟩
 | lp tm ps as_ body st pe=>simp only[jI] at hl;subst hl;exact .inl ⟨h,hn⟩
end
end
section
open Go
section
variable {v:AV}{arr:Array yh}{cs:List AV}{sz:Nat}{b:Obj}
section
variable {O:bq}{H:Hint}{m:Mp}{S:Nat->Prop}{w:yk}{tm:Env}{a:Act}{hp:Hp}{ct cq:Nat}
def NO{ab:Nat->Nat}{b:Nat}{arr:Array yh}{t:yA}{fr:Nat×Nat}(hb:w.heap[b]? =F5 (.cells arr t fr)):∀(cs:List AV) (us:List yh) (o:Nat),
  aB ab m S w cs us->(∀(j:Nat) (u:yh),us[j]? =F5 u->arr[o+j]? =F5 u)->bR ab m S w cs b o
 | [],us,o,_,_=>by simp only[bR]
 | c::cs,us,o,h,hu=>by
  simp only[aB] at h;obtain⟨u,r,rfl,h2,h3⟩:=h;simp only[bR];refine⟨⟨u,?_,h2⟩,NO hb cs r (o+1) h3 (fun j v hv=>?_)⟩
  .have:=hu 0 u (by simp)
   simpa[World.cell?,hb] using this
  .have:=hu (j+1) v (by simpa using hv)
   rw[show o+1+j=o+(j+1) by lia];exact this
def aqf(hh:aT O m S w hp cq){i:Nat}{t:yA}{us:List yh}{pu ex:Bool}(hr:aB O.ab m S w cs us)(hu:∀(j:Nat) (u:yh),us[j]? =F5 u->arr[j]? =F5 u)(hl:cs.length<=arr.size)(hex:ex=ydo->cs.length=arr.size)(iT:pu=ydo->aE cs=ydo)(m':Mp)(hm:di m m')(hi:m' i=F5 ⟨w.heap.size,0,arr.size,sz⟩):fk O m' S (w.alloc (.cells arr t)) i (.cells ydo pu ex sz cs):=by
 refine⟨⟨w.heap.size,0,arr.size,sz⟩,arr,t,hi,heap_alloc_new w _,rfl,hl,by simp,hex,?_,iT,?_,by simp⟩
 .exact NO (heap_alloc_new w _) cs us 0 (iJ hm (fun _ h=>h) (Jt hh _) _ _ hr) (by simpa using hu)
 .intro _ hS
  have:=hh.slt _ hS
  simp at this
def EU(O:bq)(m:Mp)(S:Nat->Prop)(w:yk)(a:Act)(ct:Nat)(o:yV)(v:AV)(b:Obj):Prop:=
 ∃u g p,(execOp a.eval o).run O.P w=.ok (.value u) (w.alloc g)/\p.b=w.heap.size/\¬jq b/\
  ∀m',di m m'->m' ct=F5 p->fk O m' S (w.alloc g) ct b/\ae O.ab m' S (w.alloc g) v u
def Tb{o:yV}{t:yA}{us:List yh}{pu ex:Bool}{u:yh}(hh:aT O m S w hp cq)(he:(execOp a.eval o).run O.P w=.ok (.value u) (w.alloc (.cells arr t)))(hr:aB O.ab m S w cs us)(hu:∀(j:Nat) (u:yh),us[j]? =F5 u->arr[j]? =F5 u)(hl:cs.length<=arr.size)(hex:ex=ydo->cs.length=arr.size)(iT:pu=ydo->aE cs=ydo)(hv:∀m':Mp,m' ct=F5 ⟨w.heap.size,0,arr.size,sz⟩->ae O.ab m' S (w.alloc (.cells arr t)) v u):EU O m S w a ct o v (.cells ydo pu ex sz cs):=
 ⟨u,_,⟨w.heap.size,0,arr.size,sz⟩,he,rfl,by simp[jq],fun m' hm hi=>⟨aqf hh hr hu hl hex iT m' hm hi,hv m' hi⟩⟩
def abo{o:yV}{t:yA}{x:yh}{vx:AV}(hh:aT O m S w hp cq)(he:(execOp a.eval o).run O.P w=.ok (.value (.pointer (F5 ⟨w.heap.size,0,F6⟩))) (w.alloc (.cells x.cells t)))(hx:aB O.ab m S w (cellsOf vx) x.cells.toList)(hv:(bif yo (cellsOf vx).length sz&&bP (cellsOf vx) then F5 (AV.ptr ct 0,Obj.cells ydo (aE (cellsOf vx)) ydo sz (cellsOf vx)) else F6)=F5 (v,b)):EU O m S w a ct o v b:=by
 cases hc:(yo (cellsOf vx).length sz&&bP (cellsOf vx)) with
 | false=>rw[hc] at hv;cases hv
 | true=>
  rw[hc] at hv;obtain⟨rfl,rfl⟩:=hv;have hlen:=ic _ _ hx;refine Tb hh he hx (fun j u hj=>by simpa using hj) (by rw[<-hlen];simp) (fun _=>by rw[<-hlen];simp) (fun h=>h) (fun m' hi=>?_)
  simp only[ae];exact⟨_,hi,by simp⟩
def anU{o:yV}{t:yA}{r:Option xB}(hh:aT O m S w hp cq)(ho:o.op=.makeMap t r)(hr:r=F6):EU O m S w a ct o (.map ct) (.mp ydo [] []):=by
 subst hr;refine⟨.map (F5 w.heap.size),.map #[] 0,⟨w.heap.size,0,0,0⟩,by simp[execOp,ho,Instr.makeMap],rfl,by simp[jq],fun m' _ hi=>⟨?_,?_⟩⟩
 .refine ⟨_,#[],0,hi,heap_alloc_new w _,by simp[aB],by simp[aB],?_,by simp⟩;intro _ hS
  have:=hh.slt _ hS
  simp at this
 .simp only [ae];exact⟨_,hi,rfl⟩
def al5{o:yV}{t:yA}{x:xB}{s:List Nat}(hh:aT O m S w hp cq)(ho:o.op=.range t x)(hu:O.P.underlying t=F5 .string)(hx:ae O.ab m S w (.str s) (a.eval x)):
  EU O m S w a ct o (.it ct) (.si s 0):=by
 obtain⟨b,e,rfl⟩:=hx;refine⟨.pointer (F5 ⟨w.heap.size,0,F6⟩),.stringIter b 0,⟨w.heap.size,0,0,0⟩,by simp[execOp,ho,Instr.range,run_underlying hu,e],rfl,by simp[jq],fun m' _ hi=>⟨?_,?_⟩⟩
 .refine ⟨_,b,hi,heap_alloc_new w _,rfl,?_⟩;intro hS
  have:=hh.slt _ hS
  simp at this
 .simp only [ae];exact⟨_,hi,rfl⟩
end
def al6(zero:Array yh):(xo zero.size).map (fun j=>zero[j]!)=zero.toList:=by
 apply List.ext_getElem
 .simp
 .grind
def ZK(zero:Array yh):∀n:Nat,(xo (n*zero.size)).map (fun i=>zero[i%zero.size]!)=(yE n zero.toList).flatten
 | 0=>by simp
 | n+1=>by
  rw[xY,yaU,List.range_add,List.map_append,ZK zero n,List.replicate_succ',ybs]
  congr 1
  simp only[List.map_map,uH,List.flatten_nil,List.append_nil];rw[<-al6 zero];apply List.map_congr_left;intro j hj;simp at hj;simp[Function.comp,xA n,Nat.mod_eq_of_lt hj]
def TF{ab:Nat->Nat}{m:Mp}{S:Nat->Prop}{w:yk}{cs:List AV}{us:List yh}(h:aB ab m S w cs us):∀n,aB ab m S w (yE n cs).flatten (yE n us).flatten
 | 0=>by simp[aB]
 | n+1=>by rw[wP,wP,uH,uH];exact mL h (TF h n)
section
variable {O:bq}{H:Hint}{m:Mp}{S:Nat->Prop}{w:yk}{tm:Env}{a:Act}{hp:Hp}{ct cq:Nat}
def aas(zero:Array yh)(n:Nat):(Array.map (fun i=>zero[i%zero.size]!) (tU (n*zero.size))).toList=(yE n zero.toList).flatten:=by
 rw[<-ZK zero n]
 simp
def abp(tm:Env):∀(ps:List (Nat×Nat×X)) (zero cs:List AV),fill tm zero ps=F5 cs->cs.length=zero.length
 | [],zero,cs,h=>by simp only[fill,yc] at h;rw[h]
 | (o,sz,x)::r,zero,cs,h=>by
  simp only[fill] at h
  cases hc:(yo (cellsOf (ax tm x)).length sz&&yC (o+sz) zero.length&&bP (cellsOf (ax tm x))) with
  | false=>rw[hc] at h;cases h
  | true=>
   rw[hc] at h;simp only[ye] at hc;have h1:=yf hc.1.1;have h2:=yt hc.1.2;rw[abp tm r _ _ h];simp only[over,yJ,yR,xU]
   lia
def N6{α:Type}(l:List α):∀n,(yE n l).flatten.length=n*l.length
 | 0=>by simp
 | n+1=>by simp[wP,N6 l n,xY,Nat.add_comm]
def al7{o:yV}{t e:yA}{n s:Nat}{z:AV}{parts:Array (Nat×xB)}{ps:List (Nat×Nat×X)}(hH:fh O H)(ht:bT O m S w tm a.tmps)(hh:aT O m S w hp cq)(ho:o.op=.buildSlice t n parts)(hu:O.P.underlying t=F5 (.slice e))(hs:cy O.P e=F5 s)(hz:mU O.P e=F5 z)(hn:n*s<=16777216)(jk:partsOf H (fun i=>F5 (i*s,s)) parts.toList=F5 ps)(hv:cG tm hp ct (.iv n s (yE n (cellsOf z)).flatten ps)=F5 (v,b)):EU O m S w a ct o v b:=by
 simp only[cG] at hv
 cases hf:fill tm (yE n (cellsOf z)).flatten ps with
 | none=>simp[hf] at hv
 | some cs=>
  simp only[hf] at hv
  cases hc:yo cs.length (n*s) with
  | false=>rw[hc] at hv;cases hv
  | true=>
   rw[hc] at hv;simp only[yu,yc,ym] at hv;obtain⟨rfl,rfl⟩:=hv;have hlen:=yf hc;obtain⟨zv,kR,rfl⟩:=Gl (w:=w) hz;have BX:aB O.ab m S w (cellsOf (eZ zv)) zv.cells.toList:=Eb zv;have zt:=ic _ _ BX;have qK:=abp tm ps _ _ hf;rw[N6] at qK;have HP:n*s=n*zv.cells.size:=by
    rw[<-hlen,qK,<-zt];simp
   have key:∃zr:Array yh,(n*s=0->zr=#[])/\(n*s≠0->zr=zv.cells)/\aB O.ab m S w (yE n (cellsOf (eZ zv))).flatten ((tU (n*s)).map (fun x=>zr[x%zr.size]!)).toList:=by
    by_cases h0:n*s=0
    .refine ⟨#[],fun _=>rfl,fun h=>(h h0).elim,?_⟩
     have:(yE n (cellsOf (eZ zv))).flatten=[]:=by
      apply yQ;rw[N6,<-zt];simp only[vG]
      lia
     rw[this];simp[aB,h0]
    .refine ⟨zv.cells,fun h=>(h0 h).elim,fun _=>rfl,?_⟩;rw[HP,aas];exact TF BX n
   have⟨zr,Dr,lk,qM⟩:=key;have⟨out,h1,h2⟩:=Ov hH ht (place:=fun i=>F5 (i*s,s)) parts.toList ps _ cs _ jk qM hf;have ph:=ic _ _ h2
   refine Tb (arr:=out) (t:=e) (us:=out.toList) hh ?_ h2 (fun j u hj=>by simpa using hj) (by rw[<-ph];simp) (fun _=>by rw[<-ph];simp) (fun h=>h) (u:=.slice (F5 ⟨w.heap.size,0,F6⟩) n n) ?_
   .have lS:¬(n*s>2^24):=by lia
    by_cases h0:n*s=0
    .have:=Dr h0
     subst this;simp only[h0] at h1;simp[execOp,ho,Instr.buildSlice,run_underlying hu,pM hs,h0,newRow] at h1 ⊢;simp[h1]
    .have:=lk h0
     subst this;simp[execOp,ho,Instr.buildSlice,run_underlying hu,pM hs,h0,lS,kR,newRow] at h1 ⊢;simp[h1]
   .intro m' hi;simp only[ae];refine⟨_,n,hi,by simp,yx _,?_⟩;simp only[yd];rw[<-hlen,<-ph];simp
def Ec:∀{a b:List AV},aE a=ydo->aE b=ydo->aE (a++b)=ydo
 | [],_,_,h=>h
 | c::r,b,h,k=>by
  simp only[aE,ye] at h;simp only[yB,aE,ye];exact⟨h.1,Ec h.2 k⟩
def aat{z:List AV}(h:aE z=ydo):∀n,aE (yE n z).flatten=ydo
 | 0=>by simp[aE]
 | n+1=>by rw[wP,uH];exact Ec h (aat h n)
def anV{o:yV}{t e:yA}{s by':Nat}{z:AV}{l c:xB}(hH:fh O H)(ht:bT O m S w tm a.tmps)(hh:aT O m S w hp cq)(ho:o.op=.makeSlice t l c)(hu:O.P.underlying t=F5 (.slice e))(hs:cy O.P e=F5 s)(hb:AF O.P e=F5 by')(hz:mU O.P e=F5 z)(hv:cG tm hp ct (.qF s by' (cellsOf z) (aJ H l) (aJ H c))=F5 (v,b)):EU O m S w a ct o v b:=by
 simp only[cG] at hv
 cases hl:dt (ax tm (aJ H l)) with
 | none=>simp[hl] at hv
 | some ln=>
  cases hc:dt (ax tm (aJ H c)) with
  | none=>simp[hl,hc] at hv
  | some cn=>
   simp only[hl,hc] at hv
   cases hk:(yC ln cn&&(yC cn room&&(yC (cn*by') room&&(yo (cellsOf z).length s&&bP (cellsOf z))))) with
   | false=>rw[hk] at hv;cases hv
   | true=>
    rw[hk] at hv;simp only[yu,yc,ym] at hv;obtain⟨rfl,rfl⟩:=hv;simp only[ye] at hk;have h1:=yt hk.1;have h2:=yt hk.2.1;have h3:=yt hk.2.2.1;have h4:=yf hk.2.2.2.1;simp only[room] at h2 h3;have⟨kl,el⟩:=Bj (bX hH ht l) hl;have⟨kc,ec⟩:=Bj (bX hH ht c) hc;obtain⟨zv,kR,rfl⟩:=Gl (w:=w) hz;have BX:aB O.ab m S w (cellsOf (eZ zv)) zv.cells.toList:=Eb zv;have zt:=ic _ _ BX;have Fy:zv.cells.size=s:=by rw[<-h4,<-zt];simp
    have wrapN:∀k:Nat,k<=1099511627776->IntKind.i64.wrap (k:Int)=k:=fun k hk=>IntWalk.i64_in _ (by lia)
    obtain⟨ti,zu,eJ,Xy⟩:∃ti,O.P.info? e=F5 ti/\ti.size=s/\ti.bytes=by':=by
     unfold cy at hs;unfold AF at hb
     cases hi:O.P.info? e with
     | none=>simp[hi] at hs
     | some ti=>simp only[hi,yc] at hs hb;exact⟨ti,rfl,hs,hb⟩
    have E1:((tU (cn*s)).map (zv.cells[·%zv.cells.size]!)).toList=(yE ln zv.cells.toList).flatten++(yE (cn-ln) zv.cells.toList).flatten:=by
     rw[<-Fy,aas,<-ybs,List.replicate_append_replicate]
     grind
    have fe:(yE ln (cellsOf (eZ zv))).flatten.length=ln*s:=by rw[N6,h4]
    have hmul:ln*s<=cn*s:=yT _ h1
    refine Tb (arr:=(tU (cn*s)).map (zv.cells[·%zv.cells.size]!)) (t:=e) (us:=(yE ln zv.cells.toList).flatten) hh (u:=.slice (F5 ⟨w.heap.size,0,F6⟩) ln cn) ?_
     (TF BX ln) ?_ ?_ ?_ (fun h=>?_) ?_
    .have aFt:by'*cn<=1099511627776:=by rw[xA];exact h3
     have zx:((by'*cn:Nat):Int)<=1099511627776:=by lia
     rw[Int.natCast_mul] at zx;have hlc:(ln:Int)<=(cn:Int):=by lia
     have g1:¬(281474976710656<(by':Int)*(cn:Int)):=by lia
     have g2:¬(((ln:Int)<0)):=by lia
     have g3:¬(((cn:Int)<0)):=by lia
     have g4:¬((ln:Int)>(cn:Int)):=by lia
     by_cases h0:cn*s=0
     .simp [execOp,ho,Instr.makeSlice,run_underlying hu,el,ec,asInt,asIntOf,typeInfo,zu,Xy,wrapN ln (by lia),wrapN cn h2,g1,g2,g3,g4,pM hs,h0,newRow,askRoom,roomBytes]
      grind
     .simp [execOp,ho,Instr.makeSlice,run_underlying hu,el,ec,asInt,asIntOf,typeInfo,zu,Xy,wrapN ln (by lia),wrapN cn h2,g1,g2,g3,g4,pM hs,h0,newRow,askRoom,roomBytes,kR]
    .intro j u hj
     have:((tU (cn*s)).map (zv.cells[·%zv.cells.size]!)).toList[j]? =F5 u:=by
      grind
     grind
    .grind
    .simp_all
    .exact aat h ln
    .intro m' hi;simp only[ae];refine⟨_,cn,hi,by simp,h1,?_⟩
     simp
def acO{o:yV}{k:Nat}(hH:fh O H)(ht:bT O m S w tm a.tmps)(hh:aT O m S w hp cq)(hv:cG tm hp ct (aQ O.P H k o)=F5 (v,b)):EU O m S w a ct o v b:=by
 cases ho:o.op with
 | call c=>
  have⟨callee,args,ts⟩:=c;simp only[aQ,ho] at hv
  repeat' split at hv
  all_goals first
   | (simp[cG,bad] at hv;done)
   | (revert hv;generalize yo _ _=bb;intro hv;cases bb<;>simp[cG,bad] at hv)
 | alloc t=>
  simp only[aQ,ho] at hv
  split at hv
  .rename_i s z hs hz;obtain⟨zv,kR,rfl⟩:=Gl (w:=w) hz
   exact abo (x:=zv) (t:=t) hh (by simp[execOp,ho,Instr.alloc,kR,newVar,newRow]) (Eb zv) (by simpa only[cG,ax] using hv)
  .simp [cG,bad] at hv
 | box t x=>
  simp only[aQ,ho] at hv
  split at hv
  .rename_i s hs;simp only[cG] at hv
   cases hc:(yo (cellsOf (ax tm (aJ H x))).length s&&bP (cellsOf (ax tm (aJ H x)))) with
   | false=>rw[hc] at hv;cases hv
   | true=>
    have h1:=hc;simp only[ye] at h1
    exact abo (x:=a.eval x) (t:=t) hh (by simp[execOp,ho,Instr.box,newVar,newRow]) (S9 (bX hH ht x) h1.2) hv
  .simp [cG,bad] at hv
 | buildSlice t n parts=>
  simp only[aQ,ho] at hv
  split at hv
  .rename_i e hu
   split at hv
   .rename_i s z hs hz
    cases hc:yC (n*s) 16777216 with
    | false=>rw[hc] at hv;simp[cG,bad] at hv
    | true=>
     rw[hc] at hv;simp only[yu] at hv
     split at hv
     .rename_i ps jk;exact al7 hH ht hh ho hu hs hz (yt hc) jk hv
     .simp [cG,bad] at hv
   .simp [cG,bad] at hv
  .simp [cG,bad] at hv
 | makeSlice t l c=>
  simp only[aQ,ho] at hv
  split at hv
  .rename_i e hu
   split at hv
   .rename_i s by' z hs hb hz
    exact anV hH ht hh ho hu hs hb hz hv
   .simp [cG,bad] at hv
  .simp [cG,bad] at hv
 | makeMap t r=>
  cases r with
  | some x=>simp[aQ,ho,cG,bad] at hv
  | none=>
   simp only[aQ,ho] at hv
   repeat' split at hv
   all_goals first
    | (simp[cG,bad] at hv;done)
    | (
      simp only[cG,yc,ym] at hv;obtain⟨rfl,rfl⟩:=hv
      exact anU hh ho rfl)
 | range t x=>
  simp only[aQ,ho] at hv
  split at hv
  .rename_i hu;simp only[cG] at hv;have rx:=bX hH ht x;cases hx:ax tm (aJ H x)<;>rw[hx] at hv rx<;>simp only[reduceCtorEq] at hv
   simp only[yc,ym] at hv;obtain⟨rfl,rfl⟩:=hv;exact al5 hh ho hu rx
  .simp [cG,bad] at hv
 | next x b=>cases b<;>simp[aQ,ho,cG,bad] at hv
 | binOp op t x y ty=>
  cases op<;>simp only[aQ,ho,oG,pV] at hv
  case eql=>
        repeat' split at hv
        all_goals first
         | (simp[cG,bad] at hv;done)
         | (cases hb:(O.P.stoodInHeld t||O.P.eqGuardType O.P.depth t)<;>rw[hb] at hv<;>simp[cG,bad] at hv)
  case neq=>
        repeat' split at hv
        all_goals first
         | (simp[cG,bad] at hv;done)
         | (cases hb:(O.P.stoodInHeld t||O.P.eqGuardType O.P.depth t)<;>rw[hb] at hv<;>simp[cG,bad] at hv)
  all_goals simp[cG] at hv
 | _=>
  simp only[aQ,ho] at hv
  (repeat' split at hv)
  all_goals first
   | contradiction
   | (simp[cG,bad] at hv;done)
end
end
end
section
open Go
section
variable {hp an:Hp}{cs vs eF:List AV}
def zU{id i:Nat}{o:Obj}:ak (aU hp id o) i=if id=i then (if (ak hp id).isSome then F5 o else F6) else ak hp i:=by
 induction hp with
 | nil=>simp[aU,ak]
 | cons x r ih=>
  have⟨j,q⟩:=x;simp only[aU];by_cases hj:j=id
  .subst hj;simp only[wQ,yu,ak];by_cases hi:j=i
   .simp_all
   .have:yo j i=ydp:=by
     cases hq:yo j i with
     | false=>rfl
     | true=>exact absurd (yf hq) hi
    grind
  .have hb:yo j id=ydp:=by
    cases hq:yo j id with
    | false=>rfl
    | true=>exact absurd (yf hq) hj
   simp only[hb,yO];rw[show ak ((j,q)::aU r id o) i=bif yo j i then F5 q else ak (aU r id o) i from rfl,ih];by_cases hi:j=i
   .subst hi
    have:¬id=j:=fun h=>hj h.symm
    simp[wQ,this,ak]
   .have zx:yo j i=ydp:=by
     cases hq:yo j i with
     | false=>rfl
     | true=>exact absurd (yf hq) hi
    simp[zx,ak,hb]
def lE(hp an:Hp):Prop:=∀id,(ak an id).isSome=(ak hp id).isSome
def lE.refl:lE hp hp:=fun _=>rfl
def lE.trans{a b c:Hp}(h:lE a b)(k:lE b c):lE a c:=fun id=>(k id).trans (h id)
def Ui{id:Nat}{o o':Obj}(h:ak hp id=F5 o)(hl:jI o o'):cR hp (aU hp id o')/\lE hp (aU hp id o'):=by
 constructor
 .intro i q hq;rw[zU];by_cases hi:id=i
  .grind
  .exact ⟨q,by simp[hi,hq],jI.refl q⟩
 .intro i;rw[zU]
  grind
def aau{H:Hp}{id:Nat}{pu ex:Bool}{sz:Nat}(hl:cR hp H)(h:ak hp id=F5 (.cells ydp pu ex sz cs)):ak H id=F5 (.cells ydp pu ex sz cs):=by
 obtain⟨o',h1,dG,rfl,h2⟩:=hl id _ h
 cases dG with
 | false=>exact h1
 | true=>exact absurd (h2 rfl) (by simp)
section
variable {O:bq}
def awX(O:bq)(m:Mp)(S:Nat->Prop)(w:yk)(p:Pl)(ex:Bool)(sz:Nat)(cs:List AV):Prop:=
 p.z=sz/\cs.length<=p.e/\(ex=ydo->cs.length=p.e)/\S p.b/\aE cs=ydo/\bR O.ab m S w cs p.b p.o
def VT(O:bq)(an:Hp)(v v':AV):Prop:=∀H m S w ct,cR an H->aT O m S w H ct->(∀u,ae O.ab m S w v u->ae O.ab m S w v' u)/\aV v'=ydo
def agj(O:bq)(an:Hp)(vs eF:List AV):Prop:=∀H m S w ct,cR an H->aT O m S w H ct->(∀us,aB O.ab m S w vs us->aB O.ab m S w eF us)/\aE eF=ydo
def ayV(O:bq)(an:Hp)(id:Nat)(ex:Bool)(sz:Nat)(cs:List AV):Prop:=∀H m S w ct,cR an H->aT O m S w H ct->∀p,m id=F5 p->awX O m S w p ex sz cs
def Gf{ab:Nat->Nat}{m:Mp}{S:Nat->Prop}{w:yk}{b:Nat}:∀(cs:List AV) (us:List yh) (o:Nat),aB ab m S w cs us->
  (∀(j:Nat) (u:yh),us[j]? =F5 u->w.cell? ⟨b,o+j,F6⟩=F5 u)->bR ab m S w cs b o
 | [],us,o,_,_=>by simp only[bR]
 | c::cs,us,o,h,hu=>by
  obtain⟨u,r,rfl,h2,h3⟩:=h;refine⟨⟨u,by simpa using hu 0 u (by simp),h2⟩,Gf cs r (o+1) h3 (fun j v hv=>?_)⟩;rw[show o+1+j=o+(j+1) by lia]
  simp_all
def awY{m:Mp}{S:Nat->Prop}{w:yk}{dF:List AV}(h:∀us,aB O.ab m S w cs us->aB O.ab m S w dF us){b o:Nat}(hr:bR O.ab m S w cs b o):bR O.ab m S w dF b o:=by
 have⟨us,h1,_,h3⟩:=zR cs b o hr;exact Gf dF us o (h us h1) h3
def Ch:∀(k:Nat) {cs:List AV},aE cs=ydo->aE (cs.take k)=ydo
 | 0,_,_=>by simp[aE]
 | k+1,[],_=>by simp[aE]
 | k+1,c::cs,h=>by
  simp only[aE,ye,wF] at h ⊢;exact⟨h.1,Ch k h.2⟩
def anW:∀{n:Nat} {hp:Hp},cB n hp vs=F5 (eF,an)->eF.length=vs.length:=by
 intro n
 induction n generalizing vs eF an with
 | zero=>intro hp h;simp[cB] at h
 | succ n ih=>
  intro hp h
  cases vs with
  | nil=>simp only[cB,yc,ym] at h;rw[<-h.1]
  | cons v r=>
   simp only[cB] at h
   cases h1:freeze n hp v with
   | none=>simp[h1] at h
   | some q=>
    have⟨v',aY⟩:=q;simp only[h1] at h
    cases h2:cB n aY r with
    | none=>simp[h2] at h
    | some q2=>
     grind
def ZL:∀n:Nat,
  (∀hp v v' an,freeze n hp v=F5 (v',an)->cR hp an/\lE hp an/\VT O an v v')/\
  (∀hp id ex sz cs an,sO n hp id=F5 (ex,sz,cs,an)->cR hp an/\lE hp an/\ayV O an id ex sz cs)/\
  (∀hp vs eF an,cB n hp vs=F5 (eF,an)->cR hp an/\lE hp an/\agj O an vs eF):=by
 intro n
 induction n with
 | zero=>refine⟨?_,?_,?_⟩<;>intros<;>simp_all[freeze,sO,cB]
 | succ n ih=>
  have⟨ihV,ihB,HQ⟩:=ih;refine⟨?_,?_,?_⟩
  .intro hp v v' an h;have plain:∀{v v':AV} {hp an:Hp},(bif aV v then F5 (v,hp) else F6)=F5 (v',an)->cR hp an/\lE hp an/\VT O an v v':=by
    intro v v' hp an h
    cases hc:aV v with
    | false=>rw[hc] at h;cases h
    | true=>
     rw[hc] at h;simp only[yu,yc,ym] at h;obtain⟨rfl,rfl⟩:=h;exact⟨cR.refl,lE.refl,fun _ _ _ _ _ _ _=>⟨fun _ h=>h,hc⟩⟩
   cases v<;>simp only[freeze] at h<;>first | exact plain h | skip
   case ay id o k=>
    cases hb:sO n hp id with
    | none=>simp[hb] at h
    | some q=>
     have⟨ex,sz,cs,aY⟩:=q;simp only[hb] at h
     cases hc:yC (o+k*sz) cs.length with
     | false=>rw[hc] at h;cases h
     | true=>
      rw[hc] at h;simp only[yu,yc,ym] at h;obtain⟨rfl,rfl⟩:=h;have hle:=yt hc;have⟨h1,h2,h3⟩:=ihB _ _ _ _ _ _ hb;refine⟨h1,h2,fun H m S w ct hl hh=>⟨fun u hu=>?_,by simp only[aV]⟩⟩;simp only[ae] at hu ⊢;obtain⟨p,c,hm,rfl,BY,Ra⟩:=hu;have⟨g1,g2,g3,g4,g5,g6⟩:=h3 H m S w ct hl hh p hm;refine .inl ⟨p.b,p.o+o,c,rfl,BY,?_,.inr g4,Ch _ (A6 _ _ g5),A5 _ _ _ _ (sN _ _ _ _ g6)⟩;intro hx;simp only[ye] at hx;have e1:=yf hx.2;have e2:0<sz:=by
       simp_all
      have e3:=g3 hx.1.1;rw[g1] at Ra
      have:c*sz=k*sz:=by lia
      exact Nat.eq_of_mul_eq_mul_right e2 this
   case ptr id o=>
    cases hb:sO n hp id with
    | none=>simp[hb] at h
    | some q=>
     have⟨ex,sz,cs,aY⟩:=q;simp only[hb,yc,ym] at h;obtain⟨rfl,rfl⟩:=h;have⟨h1,h2,h3⟩:=ihB _ _ _ _ _ _ hb;refine⟨h1,h2,fun H m S w ct hl hh=>⟨fun u hu=>?_,by simp only[aV]⟩⟩;simp only[ae] at hu ⊢;obtain⟨p,hm,rfl⟩:=hu;have⟨g1,g2,g3,g4,g5,g6⟩:=h3 H m S w ct hl hh p hm;exact⟨p.b,p.o+o,rfl,.inr g4,A6 _ _ g5,sN _ _ _ _ g6⟩
   case map id=>
    cases hg:ak hp id with
    | none=>simp[hg] at h
    | some ob=>
     cases ob<;>simp only[hg,reduceCtorEq] at h
     rename_i rw ks vs
     cases hc:(aE ks&&aE vs) with
     | false=>rw[hc] at h;cases h
     | true=>
      rw[hc] at h;simp only[yu,yc,ym] at h;obtain⟨rfl,rfl⟩:=h;simp only[ye] at hc;have⟨h1,h2⟩:=Ui hg (o':=.mp ydp ks vs) ⟨ydp,rfl,by simp⟩;refine⟨h1,h2,fun H m S w ct hl hh=>⟨fun u hu=>?_,by simp only[aV]⟩⟩;simp only[ae] at hu ⊢;obtain⟨p,hm,rfl⟩:=hu;have hq:ak (aU hp id (.mp ydp ks vs)) id=F5 (.mp ydp ks vs):=by rw[zU];simp[hg]
      obtain⟨o',h3,dG,rfl,h4⟩:=hl id _ hq;have zq:dG=ydp:=by cases dG with | false=>rfl | true=>exact absurd (h4 rfl) (by simp)
      subst zq;have⟨p',es,clock,g1,g2,g3,g4,g5,g6⟩:=hh.obj id _ _ h3 hm;rw[hm] at g1;injection g1 with g1
      subst g1;exact⟨p.b,es,clock,rfl,g6 rfl,hc.1,hc.2,g2,g3,g4⟩
   case fn f first cap=>
    cases f with
    | y l=>simp only[aV,yO,reduceCtorEq] at h
    | f g=>
     simp only at h
     cases h1:cB n hp first with
     | none=>simp[h1] at h
     | some q=>
      have⟨adR,aY⟩:=q;simp only[h1] at h
      cases h2:cB n aY cap with
      | none=>simp[h2] at h
      | some q2=>
       have⟨PO,jE⟩:=q2;simp only[h2,yc,ym] at h;obtain⟨rfl,rfl⟩:=h;have⟨a1,a2,a3⟩:=HQ _ _ _ _ h1;have⟨b1,b2,b3⟩:=HQ _ _ _ _ h2;refine⟨a1.trans b1,a2.trans b2,fun H m S w ct hl hh=>?_⟩;have⟨c1,c2⟩:=a3 H m S w ct (b1.trans hl) hh;have⟨d1,d2⟩:=b3 H m S w ct hl hh;refine⟨fun u hu=>?_,by simp[aV,c2,d2]⟩;simp only[ae] at hu ⊢;obtain⟨fi,ca,rfl,e1,e2⟩:=hu;exact⟨fi,ca,rfl,c1 _ e1,d1 _ e2⟩
   case agg cs=>
    cases h1:cB n hp cs with
    | none=>simp[h1] at h
    | some q=>
     have⟨dF,aY⟩:=q;simp only[h1,yc,ym] at h;obtain⟨rfl,rfl⟩:=h;have⟨a1,a2,a3⟩:=HQ _ _ _ _ h1;refine⟨a1,a2,fun H m S w ct hl hh=>?_⟩;have⟨c1,c2⟩:=a3 H m S w ct hl hh;refine⟨fun u hu=>?_,by simpa[aV] using c2⟩;simp only[ae] at hu ⊢;obtain⟨xs,rfl,e1⟩:=hu;exact⟨xs,rfl,c1 _ e1⟩
   case aw cs=>
    cases h1:cB n hp cs with
    | none=>simp[h1] at h
    | some q=>
     have⟨dF,aY⟩:=q;simp only[h1,yc,ym] at h;obtain⟨rfl,rfl⟩:=h;have⟨a1,a2,a3⟩:=HQ _ _ _ _ h1;refine⟨a1,a2,fun H m S w ct hl hh=>?_⟩;have⟨c1,c2⟩:=a3 H m S w ct hl hh;refine⟨fun u hu=>?_,by simpa[aV] using c2⟩;simp only[ae] at hu ⊢;obtain⟨xs,rfl,e1⟩:=hu;exact⟨xs,rfl,c1 _ e1⟩
  .intro hp id ex sz dF an h;simp only[sO] at h
   cases hg:ak hp id with
   | none=>simp[hg] at h
   | some ob=>
    cases ob<;>simp only[hg,reduceCtorEq] at h
    rename_i rw pu AG Ds cs
    cases pu with
    | true=>
     simp only[yu,yc,ym] at h;obtain⟨rfl,rfl,rfl,rfl⟩:=h;have hq:cR hp (bif rw then aU hp id (.cells ydp ydo AG Ds cs) else hp)/\lE hp (bif rw then aU hp id (.cells ydp ydo AG Ds cs) else hp)/\ak (bif rw then aU hp id (.cells ydp ydo AG Ds cs) else hp) id=F5 (.cells ydp ydo AG Ds cs):=by
      cases rw with
      | true=>
       have⟨h1,h2⟩:=Ui hg (o':=.cells ydp ydo AG Ds cs) ⟨ydp,rfl,by simp⟩;exact⟨h1,h2,by simp[zU,hg]⟩
      | false=>exact⟨cR.refl,lE.refl,hg⟩
     refine⟨hq.1,hq.2.1,fun H m S w ct hl hh p hm=>?_⟩;have⟨p',arr,t,g1,g2,g3,g4,g5,g6,g7,g8,g9,g10⟩:=hh.obj id _ _ (aau hl hq.2.2) hm;rw[hm] at g1;injection g1 with g1
     subst g1;exact⟨g3,g4,g6,g10 rfl,g8 rfl,g7⟩
    | false=>
     simp only[yO] at h
     cases h1:cB n hp cs with
     | none=>simp[h1] at h
     | some q=>
      have⟨AK,aY⟩:=q;simp only[h1,yc,ym] at h;obtain⟨rfl,rfl,rfl,rfl⟩:=h;have⟨a1,a2,a3⟩:=HQ _ _ _ _ h1;obtain⟨o1,jl,rw1,rfl,_⟩:=a1 id _ hg;have⟨b1,b2⟩:=Ui jl (o':=.cells ydp ydp AG Ds cs) ⟨ydp,rfl,by simp⟩;refine⟨a1.trans b1,a2.trans b2,fun H m S w ct hl hh p hm=>?_⟩;have hq:ak (aU aY id (.cells ydp ydp AG Ds cs)) id=F5 (.cells ydp ydp AG Ds cs):=by simp[zU,jl]
      have⟨p',arr,t,g1,g2,g3,g4,g5,g6,g7,g8,g9,g10⟩:=hh.obj id _ _ (aau hl hq) hm;rw[hm] at g1;injection g1 with g1
      subst g1;have⟨c1,c2⟩:=a3 H m S w ct (b1.trans hl) hh;have hlen:=anW h1
      exact⟨g3,by lia,fun hx=>by have:=g6 hx;lia,g10 rfl,c2,awY c1 g7⟩
  .intro hp vs eF an h
   cases vs with
   | nil=>
    simp only[cB,yc,ym] at h;obtain⟨rfl,rfl⟩:=h;exact⟨cR.refl,lE.refl,fun _ _ _ _ _ _ _=>⟨fun _ h=>h,rfl⟩⟩
   | cons v r=>
    simp only[cB] at h
    cases h1:freeze n hp v with
    | none=>simp[h1] at h
    | some q=>
     have⟨v1,aY⟩:=q;simp only[h1] at h
     cases h2:cB n aY r with
     | none=>simp[h2] at h
     | some q2=>
      have⟨r1,jE⟩:=q2;simp only[h2,yc,ym] at h;obtain⟨rfl,rfl⟩:=h;have⟨a1,a2,a3⟩:=ihV _ _ _ _ h1;have⟨b1,b2,b3⟩:=HQ _ _ _ _ h2;refine⟨a1.trans b1,a2.trans b2,fun H m S w ct hl hh=>?_⟩;have⟨c1,c2⟩:=a3 H m S w ct (b1.trans hl) hh;have⟨d1,d2⟩:=b3 H m S w ct hl hh;refine⟨fun us hu=>?_,by simp[aE,c2,d2]⟩;simp only[aB] at hu ⊢;obtain⟨u,t,rfl,e1,e2⟩:=hu;exact⟨u,t,rfl,c1 _ e1,d1 _ e2⟩
def SL{n:Nat}(h:cB n hp vs=F5 (eF,an)):cR hp an/\lE hp an/\agj O an vs eF:=(ZL n).2.2 _ _ _ _ h
def Tc{n:Nat}{v v':AV}(h:freeze n hp v=F5 (v',an)):cR hp an/\lE hp an/\VT O an v v':=(ZL n).1 _ _ _ _ h
end
end
end
section
open Go
section
variable {v:AV}{an:Hp}{cs new:List AV}{aH o:Nat}
section
variable {O:bq}{H:Hint}{m:Mp}{S:Nat->Prop}{w:yk}{tm:Env}{a:Act}{hp:Hp}{ct:Nat}
structure One(w w':yk)(g:Nat):Prop where
 os:w'.os=w.os
 tape:w'.tape=w.tape
 output:w'.output=w.output
 size:w'.heap.size=w.heap.size
 other:∀b,b≠g->w'.heap[b]? =w.heap[b]?
def SM(w:yk)(g:Nat)(cs:Array yh):One w (w.setRow g cs) g:=
 ⟨rfl,rfl,rfl,by simp,fun b hb=>setRow_other w g b cs hb⟩
def Ke{id:Nat}{o:Obj}{p:Pl}(h:ak hp id=F5 o)(hm:m id=F5 p):er m hp p.b:=⟨id,o,p,h,hm,rfl⟩
def anX{id:Nat}{o':Obj}{b:Nat}(h:er m (aU hp id o') b):er m hp b:=by
 have⟨i,o,p,h1,h2,h3⟩:=h;rw[zU] at h1;by_cases hi:id=i
 .subst hi
  cases hq:ak hp id with
  | none=>simp[hq] at h1
  | some q=>exact⟨id,q,p,hq,h2,h3⟩
 .simp only [hi,xz] at h1;exact⟨i,o,p,h1,h2,h3⟩
def JI(hh:aT O m S w hp ct){id:Nat}{o o':Obj}{p:Pl}{w':yk}(ho:ak hp id=F5 o)(hm:m id=F5 p)(hn:¬S p.b)(hw:One w w' p.b)(h':fk O m S w' id o')(hk:∀r:td,w.heap[p.b]? =F5 (.loop r)->∃r':td,w'.heap[p.b]? =F5 (.loop r')):
  aT O m S w' (aU hp id o') ct/\cg m S w hp m S w' (aU hp id o') ct:=by
 have aR:gh S w w':=fun b hb=>hw.other b (fun e=>hn (e▸hb))
 refine⟨⟨?_,hh.lt,?_,?_,?_,hh.low,?_,?_,fun i q hq=>(by
  rw[zU] at hq;by_cases hc:id=i
  .subst hc;exact hh.aM _ _ ho
  .simp only [hc,xz] at hq;exact hh.aM _ _ hq)⟩,⟨hw.os,hw.tape,hw.output,by rw[hw.size];exact yx _,?_,fun _ h=>h,fun b hb=>aR b hb,fun b hb=>.inl hb,fun b hb=>.inl (anX hb),fun _ _ _ h=>h,fun b r hb=>?_⟩⟩
 rotate_right
 .by_cases hc:b=p.b
  .subst hc;exact hk r hb
  .exact ⟨r,(hw.other b hc).trans hb⟩
 .intro i q pi hi bG;rw[zU] at hi;by_cases hc:id=i
  .subst hc;simp only[xJ,ho,Option.isSome_some] at hi;injection hi with hi
   subst hi;exact h'
  .simp only [hc,xz] at hi;refine zT (fun _ _ h=>h) (fun _ h=>h) aR (fun q' bL=>?_) (fun _ _ h=>h) (hh.obj i q pi hi bG);exact hw.other _ (fun e=>hc (hh.inj i id q o q' p hi ho bL hm e).symm)
 .intro i j oi oj pi pj hi hj bG gX e;have key:∀{i:Nat} {oi:Obj},ak (aU hp id o') i=F5 oi->∃Mq,ak hp i=F5 Mq:=by
   intro i oi hi;rw[zU] at hi;by_cases hc:id=i
   .subst hc;exact⟨o,ho⟩
   .simp only [hc,xz] at hi;exact⟨oi,hi⟩
  have⟨Mq,c9⟩:=key hi;have⟨Mn,Xx⟩:=key hj;exact hh.inj i j Mq Mn pi pj c9 Xx bG gX e
 .intro b hb;rw[hw.size];exact hh.slt b hb
 .intro i q hq;rw[hw.size];exact hh.blt i q hq
 .intro b hb
  rw[hw.other b (fun e=>by have:=hh.low id p hm;lia)]
  exact hh.mW b hb
 .rw [hw.size];exact hh.gH
 .intro b _ hb;exact hw.other b (fun e=>hb (e▸Ke ho hm))
def Bu(O:bq)(m:Mp)(S:Nat->Prop)(w:yk)(a:Act)(hp:Hp)(ct:Nat)(o:yV)(v:AV)(an:Hp)(aH:Nat):Prop:=
 ∃n u w' m' S',(execOp a.eval o).run O.P w=.ok n w'/\(n=.value u\/(n=.skip/\u=undef))/\aT O m' S' w' an aH/\ae O.ab m' S' w' v u/\di m m'/\cg m S w hp m' S' w' an ct
def anY{ab:Nat->Nat}{u:yh}(h:ae ab m S w v u)(ho:db v=ydo):u.oneCell'=ydo:=by
 cases v with
 | fn f a b=>
  cases f with
  | f g=>simp only[ae] at h;obtain⟨_,_,rfl,_⟩:=h;rfl
  | y l=>simp only[ae] at h;obtain⟨_,_,rfl⟩:=h;rfl
 | int k n=>simp only[ae] at h;subst h;rfl
 | bool b=>simp only[ae] at h;subst h;rfl
 | ao k n=>simp only[ae] at h;subst h;rfl
 | df k n i=>simp only[ae] at h;subst h;rfl
 | str s=>simp only[ae] at h;obtain⟨_,rfl,_⟩:=h;rfl
 | kL=>simp only[ae] at h;subst h;rfl
 | ptr i k=>simp only[ae] at h;obtain⟨_,_,rfl⟩:=h;rfl
 | bt cs=>simp only[ae] at h;obtain⟨_,_,rfl,_⟩:=h;rfl
 | af=>simp only[ae] at h;subst h;rfl
 | ap e n cs=>simp only[ae] at h;rcases h with ⟨_,_,_,rfl,_⟩ | ⟨_,rfl,_,_⟩<;>rfl
 | cM _ _ _ _=>simp[db] at ho
 | ay i k n=>simp only[ae] at h;obtain⟨_,_,_,rfl,_⟩:=h;rfl
 | ir=>simp only[ae] at h;subst h;rfl
 | jw=>simp only[ae] at h;subst h;rfl
 | map i=>simp only[ae] at h;obtain⟨_,_,rfl⟩:=h;rfl
 | jx ks vs=>simp only[ae] at h;obtain⟨_,_,_,rfl,_⟩:=h;rfl
 | it i=>simp only[ae] at h;obtain⟨_,_,rfl⟩:=h;rfl
 | agg cs=>simp[db] at ho
 | aw cs=>simp[db] at ho
 | undef=>simp[db] at ho
def NP{ab:Nat->Nat}:∀{vs:List AV} {us:List yh},aB ab m S w vs us->bP vs=ydo->∀u∈us,u.oneCell'=ydo
 | [],us,h,_,u,hu=>by simp only[aB] at h;subst h;cases hu
 | v::r,us,h,ho,u,hu=>by
  obtain⟨u',t,rfl,h1,h2⟩:=h;simp only[bP,ye] at ho;rcases List.mem_cons.1 hu with rfl | hu
  .exact anY h1 ho.1
  .exact NP h2 ho.2 u hu
def abq{arr:Array yh}{t:yA}{p:Pl}{vs:List yh}{S':Nat->Prop}{m':Mp}(hb:w.heap[p.b]? =F5 (.cells arr t (0,0)))(hr:bR O.ab m S w cs p.b p.o)(hv:aB O.ab m S w new vs)(hl:o+new.length<=cs.length)(hs:p.o+cs.length<=arr.size){w':yk}(hm:di m m')(hS:∀b,S b->S' b)(aR:gh S w w')(hw:w'.heap[p.b]? =F5 (.cells (arr.toList.take (p.o+o)++vs++arr.toList.drop (p.o+o+vs.length)).toArray t (0,0))):bR O.ab m' S' w' (over o new cs) p.b p.o:=by
 have⟨us,h1,h2,h3⟩:=zR cs p.b p.o hr;have nl:=ic _ _ hv;have h4:aB O.ab m S w (over o new cs) (us.take o++vs++us.drop (o+new.length)):=mL (mL (Gb o h1) hv) (Jz _ h1);refine Gf _ _ _ (iJ hm hS aR _ _ h4) (fun j u hj=>?_);have EV:∀k u,us[k]? =F5 u->arr[p.o+k]? =F5 u:=by
  intro k u hk
  have:=h3 k u hk
  simpa[World.cell?,hb] using this
 simp only[World.cell?,hw,yae,yD,xz];rw[ybi];have e1:(arr.toList.take (p.o+o)).length=p.o+o:=by rw[yR,vG];lia
 have e2:(us.take o).length=o:=by rw[yR];lia
 by_cases c1:j<o
 .have g1:(us.take o++vs++us.drop (o+new.length))[j]? =us[j]? :=by
   rw[xK,wH (by lia),tp c1]
  rw[g1] at hj;rw[xK,wH (by lia),tp (by lia)];simpa using EV j u hj
 .by_cases c2:j<o+vs.length
  .have g1:(us.take o++vs++us.drop (o+new.length))[j]? =vs[j-o]? :=by
    rw[xK,wu (by lia),e2,wH (by lia)]
   rw[g1] at hj;rw[xK,wu (by lia),e1,wH (by lia),show p.o+j-(p.o+o)=j-o by lia];exact hj
  .have g1:(us.take o++vs++us.drop (o+new.length))[j]? =us[j]? :=by
    rw[xK,wu (by lia),e2,wu (by lia),ybB]
    congr 1
    lia
   rw[g1] at hj;rw[xK,wu (by lia),e1,wu (by lia),ybB,show p.o+o+vs.length+(p.o+j-(p.o+o)-vs.length)=p.o+j by lia];simpa using EV j u hj
def N7(hl:o+new.length<=cs.length):(over o new cs).length=cs.length:=by
 simp only[over,yJ,yR,xU];lia
def ZM(h:aE cs=ydo)(h':aE new=ydo):aE (over o new cs)=ydo:=
 Ec (Ec (Ch _ h) h') (A6 _ _ h)
def aqg{o:yV}{t:yA}{x y:xB}{sz:Nat}(hH:fh O H)(ht:bT O m S w tm a.tmps)(hh:aT O m S w hp ct)(ho:o.op=.store t x y)(hz:cy O.P t=F5 sz)(hv:cx tm hp ct (.st sz (aJ H x) (aJ H y))=F5 (v,an,aH)):Bu O m S w a hp ct o v an aH:=by
 simp only[cx] at hv;have rx:=bX hH ht x;cases hx:ax tm (aJ H x)<;>rw[hx] at hv rx<;>simp only[reduceCtorEq] at hv
 rename_i id k;simp only[ae] at rx;have⟨p,hm,ex⟩:=rx
 split at hv
 case h_2=>cases hv
 rename_i pu Re z cs hg
 cases hc:(yo (cellsOf (ax tm (aJ H y))).length sz&&yC (k+sz) cs.length&&bP (cellsOf (ax tm (aJ H y)))) with
 | false=>rw[hc] at hv;cases hv
 | true=>
  rw[hc] at hv;simp only[yu,yc,ym] at hv;obtain⟨rfl,rfl,rfl⟩:=hv;simp only[ye] at hc;have c1:=yf hc.1.1;have c2:=yt hc.1.2;have ry:=S9 (bX hH ht y) hc.2;have hl:=ic _ _ ry;have⟨p',arr,t',g1,g2,g3,g4,g5,g6,g7,g8,g9,g10⟩:=hh.obj id _ _ hg hm;rw[hm] at g1;injection g1 with g1
  subst g1;have gV:=NP ry hc.2;have dV:=run_storeCells_at O.P p.b (p.o+k) t' (a.eval y).cells.toList 0 arr w g2 (by rw[hl];lia) gV
  simp only[yZ] at dV;have awZ:(a.eval y).cells.size=sz:=by simp_all
  have qO:fk O m S (w.setRow p.b (arr.toList.take (p.o+k)++(a.eval y).cells.toList++arr.toList.drop (p.o+k+(a.eval y).cells.toList.length)).toArray) id
    (.cells ydo (pu&&aE (cellsOf (ax tm (aJ H y)))) Re z (over k (cellsOf (ax tm (aJ H y))) cs)):=by
   refine⟨p,_,t',hm,setRow_heap w p.b arr _ t' _ g2,g3,by rw[N7 (by lia)];exact g4,?_,fun h=>by rw[N7 (by lia)];exact g6 h,?_,?_,fun _=>g9 rfl,by simp⟩
   .grind
   .exact abq g2 g7 ry (by lia) (by lia) di.refl (fun _ h=>h) (fun b hb=>setRow_other w p.b b _ (fun e=>g9 rfl (e▸hb))) (setRow_heap w p.b arr _ t' _ g2)
   .intro h;simp only[ye] at h;exact ZM (g8 h.1) h.2
  have⟨e1,e2⟩:=JI hh hg hm (g9 rfl) (SM w p.b _) qO (fun r hr=>by rw[g2] at hr;cases hr);refine⟨.skip,undef,_,m,S,?_,.inr ⟨rfl,rfl⟩,e1,by simp[ae,aB,undef],di.refl,e2⟩;simp only[execOp,ho,Instr.storeAt,ex,Instr.sureAddr,Sem.run_bind,Sem.run_pure,Result.andThen_ok,storeVar,pM hz,awZ,ycs,tV,xz];simp[dV]
def F8(w:yk)(g:Nat)(o:yaJ):One w {w with heap:=w.heap.setIfInBounds g o} g:=
 ⟨rfl,rfl,rfl,by simp,fun b hb=>by simp[Array.getElem?_setIfInBounds_ne (fun e=>hb e.symm)]⟩
def Ny{g:Nat}{o q:yaJ}(h:w.heap[g]? =F5 q):({w with heap:=w.heap.setIfInBounds g o}:yk).heap[g]? =F5 o:=by grind
def abr{o:yV}{t kt e:yA}{x k y:xB}{kk:Nat}(hH:fh O H)(ht:bT O m S w tm a.tmps)(hh:aT O m S w hp ct)(ho:o.op=.mapUpdate t x k y\/o.op=.insert t x k y)(hu:O.P.underlying t=F5 (.map kt e))(zp:VE.keyOf O.P kt=F5 kk)(hv:cx tm hp ct (.rW kk (aJ H x) (aJ H k) (aJ H y))=F5 (v,an,aH)):Bu O m S w a hp ct o v an aH:=by
 simp only[cx] at hv;have rx:=bX hH ht x;cases hx:ax tm (aJ H x)<;>rw[hx] at hv rx<;>simp only[reduceCtorEq] at hv
 rename_i id;simp only[ae] at rx;obtain⟨p,hm,ex⟩:=rx
 split at hv
 case h_2=>cases hv
 rename_i ks vs hg
 cases hc:pT kk (ax tm (aJ H k)) with
 | false=>simp[hc] at hv
 | true=>
  simp only[hc,Bool.not_true,yO] at hv
  cases aY:BA (ax tm (aJ H k)) (ax tm (aJ H y)) ks vs with
  | none=>simp[aY] at hv
  | some q=>
   obtain⟨lP,eF⟩:=q;simp only[aY,yc,ym] at hv;obtain⟨rfl,rfl,rfl⟩:=hv;obtain⟨E,hE,hF⟩:=ZJ (P:=O.P) zp hc (bX hH ht k);obtain⟨p',es,clock,g1,g2,g3,g4,g5,g6⟩:=hh.obj id _ _ hg hm;rw[hm] at g1;injection g1 with g1
   subst g1;have ayW:=acL hE (bX hH ht k) (bX hH ht y) ks vs es.toList 0 lP eF g3 g4 aY
   have fin:∀(Fz:Array wZ) (c':Nat),(Instr.mapUpdate t (a.eval x) (a.eval k) (a.eval y)).run O.P w=.ok () {w with heap:=w.heap.setIfInBounds p.b (.map Fz c')}->
     aB O.ab m S w lP (Fz.toList.map (·.key))->aB O.ab m S w eF (Fz.toList.map (·.val))->Bu O m S w a hp ct o (.aw []) (aU hp id (.mp ydo lP eF)) ct:=by
    intro Fz c' dV h1 h2
    have aR:gh S w {w with heap:=w.heap.setIfInBounds p.b (.map Fz c')}:=fun b hb=>(F8 w p.b _).other b (fun e=>g5 rfl (e▸hb))
    have qO:fk O m S {w with heap:=w.heap.setIfInBounds p.b (.map Fz c')} id (.mp ydo lP eF):=
     ⟨p,Fz,c',hm,Ny g2,iJ (fun _ _ h=>h) (fun _ h=>h) aR _ _ h1,iJ (fun _ _ h=>h) (fun _ h=>h) aR _ _ h2,fun _=>g5 rfl,by simp⟩
    obtain⟨e1,e2⟩:=JI hh hg hm (g5 rfl) (F8 w p.b _) qO (fun r hr=>by rw[g2] at hr;cases hr);refine⟨.skip,undef,_,m,S,?_,.inr ⟨rfl,rfl⟩,e1,by simp[ae,aB,undef],di.refl,e2⟩;rcases ho with ho | ho<;>simp[execOp,ho,dV]
   have dh:=Zj (P:=O.P) (w:=w) zp hc (bX hH ht k) ydp;rcases ayW with ⟨h1,h2,h3⟩ | ⟨j,e0,vc,vk0,h1,h2,⟨q1,q2,h3⟩,h4,h5⟩
   .refine fin (es.push ⟨a.eval k,a.eval y,clock⟩) (clock+1) ?_ (by simpa using h2) (by simpa using h3);rw[ex];simp[Instr.mapUpdate,run_underlying hu,MapKept.run_getObj_map g2,dh,hF _ _ h1,MapKept.run_setObj_map _ g2]
   .have hj:es[j]? =F5 e0:=by simpa using h2
    simp only[yd] at h1;obtain⟨agk,hsb⟩:=anS q1 q2 h3
    refine fin (es.modify j fun e=>{e with key:=a.eval k,val:=a.eval y}) clock ?_ ?_ ?_
    .rw [ex];simp[Instr.mapUpdate,run_underlying hu,MapKept.run_getObj_map g2,dh,hF _ _ h1,MapKept.run_setObj_map _ g2,hj,Instr.keyThatStays,hsb,agk.symm]
    .have:(es.modify j fun e=>{e with key:=a.eval k,val:=a.eval y}).toList.map (·.key)=es.toList.map (·.key):=by
      apply ybE;intro n;simp only[tf,tE,ybg];by_cases hn:j=n
      .subst hn;simp[hj,agk]
      .simp [hn]
     rw[this];exact h4
    .have:(es.modify j fun e=>{e with key:=a.eval k,val:=a.eval y}).toList.map (·.val)=(es.toList.map (·.val)).set j (a.eval y):=by
      apply ybE;intro n;simp only[tf,tE,ybg,List.getElem?_set];by_cases hn:j=n
      .subst hn
       have:=(xE.1 hj).1
       simp[this]
      .simp [hn]
     rw[this];exact h5
def aqh(t:ByteArray)(i:Nat):(t.get! i).toNat=(t.data.toList.map xn).getD i 0:=by
 have:t.get! i=t.data[i]! :=by cases t;rfl
 rw[this];by_cases h:i<t.data.size
 .grind
 .simp only [Array.getElem!_eq_getD,Array.getD_eq_getD_getElem?,List.getD_eq_getElem?_getD,tf,tE];rw[Array.getElem?_eq_none (by lia)];rfl
def al8(t:ByteArray)(i:Nat):decodeL (t.data.toList.map xn) i=Utf8.decode t i:=by
 have eJ:(t.data.toList.map xn).length=t.size:=by simp
 simp only[decodeL,Utf8.decode,aqh,eJ]
def anZ{o:yV}{x:xB}(hH:fh O H)(ht:bT O m S w tm a.tmps)(hh:aT O m S w hp ct)(ho:o.op=.next x ydo)(hv:cx tm hp ct (.rY (aJ H x))=F5 (v,an,aH)):Bu O m S w a hp ct o v an aH:=by
 simp only[cx] at hv;have rx:=bX hH ht x;cases hx:ax tm (aJ H x)<;>rw[hx] at hv rx<;>simp only[reduceCtorEq] at hv
 rename_i id;simp only[ae] at rx;have⟨p,hm,ex⟩:=rx
 split at hv
 case h_2=>cases hv
 rename_i s pos hg;have⟨p',t,g1,g2,g3,g4⟩:=hh.obj id _ _ hg hm;rw[hm] at g1;injection g1 with g1
 subst g1;have ak:(getObj p.b).run O.P w=.ok (.stringIter t pos) w:=by simp[getObj,Sem.run,g2]
 have hlen:s.length=t.size:=by rw[<-g3];simp
 cases hc:yM pos s.length with
 | false=>
  rw[hc] at hv;simp only[yO,yc,ym] at hv;obtain⟨rfl,rfl,rfl⟩:=hv;have aM:¬pos<t.size:=by
   intro h
   have:yM pos s.length=ydo:=by simp[yM];lia
   grind
  refine⟨.value (.tuple #[.bool ydp]),.tuple #[.bool ydp],w,m,S,?_,.inl rfl,hh,by simp[ae,aB],di.refl,cg.refl⟩;simp[execOp,ho,ex,Instr.next,ak,aM]
 | true=>
  rw[hc] at hv;simp only[yu] at hv;have aM:pos<t.size:=by
   simp_all
  cases hdc:decodeL s pos with | mk c wd=>
  rw[hdc] at hv;simp only[yc,ym] at hv;obtain⟨rfl,rfl,rfl⟩:=hv;have hd:Utf8.decode t pos=(c,wd):=by rw[<-al8,g3,hdc]
  have qO:fk O m S {w with heap:=w.heap.setIfInBounds p.b (.stringIter t (pos+wd))} id (.si s (pos+wd)):=⟨p,t,hm,Ny g2,g3,g4⟩;have⟨e1,e2⟩:=JI hh hg hm g4 (F8 w p.b _) qO (fun r hr=>by rw[g2] at hr;cases hr);refine⟨.value (.tuple #[.bool ydo,goInt pos,.int .i32 c]),_,_,m,S,?_,.inl rfl,e1,by simp[ae,aB,goInt],di.refl,e2⟩
  have aU:(setObj p.b (.stringIter t (pos+wd))).run O.P w=.ok () {w with heap:=w.heap.setIfInBounds p.b (.stringIter t (pos+wd))}:=by simp[setObj,Sem.run,g2]
  simp[execOp,ho,ex,Instr.next,ak,aM,hd,aU]
end
end
end
section
open Go
section
variable {cs:List AV}{n size:Nat}{P:xy}{x:yh}
def JA{hp:Hp}{id i:Nat}:ak (c7 hp id) i=if id=i then F6 else ak hp i:=by
 induction hp with
 | nil=>simp[c7,ak]
 | cons x r ih=>
  have⟨j,q⟩:=x;simp only[c7];by_cases hj:j=id
  .subst hj;simp only[wQ,yu,ih,ak];by_cases hi:j=i
   .grind
   .have:yo j i=ydp:=by
     cases hq:yo j i with
     | false=>rfl
     | true=>exact absurd (yf hq) hi
    grind
  .have hb:yo j id=ydp:=by
    cases hq:yo j id with
    | false=>rfl
    | true=>exact absurd (yf hq) hj
   simp only[hb,yO];rw[show ak ((j,q)::c7 r id) i=bif yo j i then F5 q else ak (c7 r id) i from rfl,ih];by_cases hi:j=i
   .subst hi
    have:¬id=j:=fun h=>hj h.symm
    simp[wQ,this,ak]
   .have zx:yo j i=ydp:=by
     cases hq:yo j i with
     | false=>rfl
     | true=>exact absurd (yf hq) hi
    simp[zx,ak]
section
variable {O:bq}{H:Hint}{m:Mp}{S:Nat->Prop}{w:yk}{tm:Env}{a:Act}{hp:Hp}{ct:Nat}
def Src(P:xy)(w:yk)(size n:Nat)(news:List yh)(x:yh):Prop:=
 (∀w',(Builtin.lenOf x).run P w'=.ok n w')/\news.length=n*size/\
 ∀w',w'.heap=w.heap->∀k,k<=n->(Builtin.firstCells size k x).run P w'=.ok (news.take (k*size)).toArray w'
def Gc{c:Nat}{b:uR}{news:List yh}(hl:news.length=n*size)(hc:∀j u,news[j]? =F5 u->w.cell? (b.add j)=F5 u):
  Src P w size n news (.slice (F5 b) n c):=by
 refine⟨fun w'=>by simp[Builtin.lenOf],hl,fun w' hw k hk=>?_⟩;have hle:k*size<=news.length:=by rw[hl];exact yT _ hk
 refine run_firstCells_some (P:=P) w' size k b n c (news.take (k*size)) (by rw[yR];lia) (fun j v hv=>?_)
 rw[List.getElem?_take] at hv
 split at hv
 .have:=hc j v hv
  simpa[World.cell?,hw] using this
 .cases hv
def acP:Src P w size 0 [] (.slice F6 0 0):=
 ⟨fun w'=>by simp[Builtin.lenOf],by simp,fun w' _ k hk=>by simp[Builtin.firstCells]⟩
def ald(s:ByteArray)(k:Nat):(s.extract 0 k).data.map (fun b=>Value.int .u8 b.toNat)=((s.data.toList.map fun b=>Value.int .u8 (b.toNat:Int)).take k).toArray:=by
 have:(s.extract 0 k).data=s.data.extract 0 k:=by simp
 grind
def aqi{s:ByteArray}:Src P w 1 s.size (s.data.toList.map fun b=>Value.int .u8 (b.toNat:Int)) (.string s):=by
 refine⟨fun w'=>by simp[Builtin.lenOf],by simp,fun w' _ k hk=>?_⟩;simp only[Builtin.firstCells,Sem.run_pure,Nat.mul_one];rw[ald]
def Zk{ab:Nat->Nat}:∀l:List UInt8,aB ab m S w (Oo (l.map xn)) (l.map fun b=>Value.int .u8 (b.toNat:Int))
 | []=>by simp[Oo,aB]
 | b::r=>by
  exact⟨_,_,rfl,by simp[ae],Zk r⟩
def ZN{vx:AV}(hh:aT O m S w hp ct)(hx:ae O.ab m S w vx x)(h:mr hp size vx=F5 (n,cs)):
  ∃us,aB O.ab m S w cs us/\Src O.P w size n us x:=by
 cases vx<;>simp only[mr,reduceCtorEq] at h
 case af=>
  obtain⟨rfl,rfl⟩:=h;subst hx;exact⟨[],by simp[aB],acP⟩
 case ap ex n' dF=>
  cases hc:yo dF.length (n'*size) with
  | false=>rw[hc] at h;cases h
  | true=>
   rw[hc] at h;obtain⟨rfl,rfl⟩:=h;have hl:=yf hc;rcases hx with ⟨b,o,c,rfl,h1,h2,h3,h4,h5⟩ | ⟨ad,rfl,rfl,rfl⟩
   .have ⟨us,g1,g2,g3⟩:=zR _ b o h5;exact⟨us,g1,Gc (by lia) (fun j u hj=>by rw[oH];exact g3 j u hj)⟩
   .exact ⟨[],by simp[aB],Gc (by simp) (fun j u hj=>by simp at hj)⟩
 case ay id o n'=>
  cases hg:ak hp id with
  | none=>simp[hg] at h
  | some ob=>
   cases ob<;>simp only[hg,reduceCtorEq] at h
   rename_i rw pu ex z dF
   cases hc:yC (o+n'*size) dF.length with
   | false=>rw[hc] at h;cases h
   | true=>
    rw[hc] at h;simp only[yu,yc,ym] at h;obtain⟨rfl,rfl⟩:=h;have hl:=yt hc;obtain⟨p,c,hm,rfl,h1,h2⟩:=hx;have hr:=TB (o:=0) (n:=0) hh hg hm;have od:=A5 (n'*size) _ _ _ (sN o _ _ _ hr);have⟨us,g1,g2,g3⟩:=zR _ p.b (p.o+o) od;refine⟨us,g1,Gc ?_ (fun j u hj=>by rw[oH];exact g3 j u hj)⟩
    grind
def aav{vx:AV}(hh:aT O m S w hp ct)(hx:ae O.ab m S w vx x)(h:jr hp size vx=F5 (n,cs)):
  ∃us,aB O.ab m S w cs us/\Src O.P w size n us x:=by
 cases vx<;>try exact ZN hh hx h
 simp only[jr] at h
 cases hc:yo size 1 with
 | false=>rw[hc] at h;cases h
 | true=>
  rw[hc] at h;obtain⟨rfl,rfl⟩:=h
  have:=yf hc
  subst this;obtain⟨t,rfl,rfl⟩:=hx;refine⟨_,Zk _,?_⟩
  have:(List.map xn t.data.toList).length=t.size:=by simp
  rw[this];exact aqi
def akr{t u ty e:yA}{i:ydl}(ht:P.underlying t=F5 (.slice e))(hu:(∃e',P.underlying u=F5 (.slice e'))\/P.underlying u=F5 .string)(hi:P.info? e=F5 i){g o jz za:Nat}{Mt:Array yh}{te:yA}(hg:w.heap[g]? =F5 (.cells Mt te (0,0))){news:List yh}(hs:Src P w i.size n news x)(h1:∀u∈news,u.oneCell'=ydo)(GZ:jz+n<=za)(VU:o+jz*i.size+news.length<=Mt.size):
  (Builtin.append_ #[t,u] ty #[.slice (F5 ⟨g,o,F6⟩) jz za,x]).run P w=
   .ok (.slice (F5 ⟨g,o,F6⟩) (jz+n) za) (w.setRow g (Mt.toList.take (o+jz*i.size)++news++Mt.toList.drop (o+jz*i.size+news.length)).toArray):=by
 have⟨pk,po,Xz⟩:=hs;have hf:=Xz w rfl n (yx _);rw[yK (by lia)] at hf;have aR:=run_storeCells_at P g (o+jz*i.size) te news 0 Mt w hg (by lia) h1;rcases hu with ⟨e',hd⟩ | hd<;>
  simp[Builtin.append_,run_underlying ht,run_underlying hd,vB,typeInfo,hi,pk,GZ,hf,oH,aR]
def Nq{t u ty e:yA}{i:ydl}{z:yh}(ht:P.underlying t=F5 (.slice e))(hu:(∃e',P.underlying u=F5 (.slice e'))\/P.underlying u=F5 .string)(hi:P.info? e=F5 i)(hz:i.zero=F5 z){s:yh}{base:Option uR}{jz za:Nat}(es:s=.slice base jz za){mX:List yh}(ho:Src P w i.size jz mX s){news:List yh}(hs:Src P w i.size n news x)(hg:za<jz+n)(h63:jz+n<=1099511627776)(Xy:(jz+n)*i.bytes<=1099511627776):
  (Builtin.append_ #[t,u] ty #[s,x]).run P w=
   .ok (.slice (F5 ⟨w.heap.size,0,F6⟩) (jz+n) (grownCap w (jz+n) za e))
    (w.drew.alloc (.cells ((mX++news).toArray++Builtin.zeroCells z.cells (grownCap w (jz+n) za e-(jz+n))) e)):=by
 have⟨pk,po,Xz⟩:=hs;have⟨ho1,XA,ho3⟩:=ho;have hf:=Xz w.drew rfl n (yx _);rw[yK (by lia)] at hf;have hfo:=ho3 w.drew rfl jz (yx _);have hn:¬(jz+n<=za):=by lia
 have ayX:¬(9223372036854775807<((jz:Int)+(n:Int))):=by lia
 have VU:=growslice_fits (need:=jz+n) (old:=za) (bytes:=i.bytes) hg (by lia);have ayY:¬(281474976710656<Builtin.nextslicecap (jz+n) za*i.bytes):=by lia
 subst es;rcases hu with ⟨e',hd⟩ | hd
 all_goals
  simp[Builtin.append_,run_underlying ht,run_underlying hd,vB,typeInfo,zeroValue,hi,hz,pk,hn,ayX,ayY,Question.forced,hf,hfo,newRow,askRoom,grownCap]
  grind
def Td{e:yA}{z:yh}{sz need cap:Nat}{us:List yh}(hh:aT O m S w hp ct)(hr:aB O.ab m S w cs us)(hl:us.length=need*sz)(hz:z.cells.size=sz)(ER:Bool)(Mu:ER=ydo->aE cs=ydo)(hc:need<=cap):
  let w':=w.drew.alloc (.cells (us.toArray++Builtin.zeroCells z.cells (cap-need)) e)
  let p:Pl:=⟨w.heap.size,0,cap*sz,sz⟩
  ∀m',di m m'->m' ct=F5 p->fk O m' S w' ct (.cells ydo ER ydp sz cs):=by
 intro w' p m' hm hi;have aR:gh S w w':=fun b hb=>by
  have:=hh.slt b hb
  exact RowKit.Below.heap_alloc w.drew _ b (by simpa using this)
 have jX:w'.heap[w.heap.size]? =F5 (.cells (us.toArray++Builtin.zeroCells z.cells (cap-need)) e (0,0)):=heap_alloc_new w.drew _;have fe:=ic _ _ hr;refine⟨p,_,e,hi,jX,rfl,?_,?_,by simp,?_,Mu,?_,by simp⟩
 .show cs.length<=cap*sz
  rw[<-fe,hl];exact yT _ hc
 .show 0+cap*sz<=_
  rw[Array.size_append,tF,size_zeroCells,hz,hl,<-xY]
  grind
 .refine NO jX cs us 0 (iJ hm (fun _ h=>h) aR _ _ hr) (fun j u hj=>?_)
  grind
 .intro _ hS
  have:=hh.slt _ hS
  grind
def akc(hh:aT O m S w hp ct)(g:yaJ):gh S w (w.drew.alloc g):=fun b hb=>by
 have:=hh.slt b hb
 exact RowKit.Below.heap_alloc w.drew _ b (by simpa using this)
def Tf(hh:aT O m S w hp ct){hp0:Hp}{g:yaJ}{p:Pl}{o:Obj}(PP:∀i q,ak hp0 i=F5 q->ak hp i=F5 q)(hb:p.b=w.heap.size)(ho:∀m',di m m'->m' ct=F5 p->fk O m' S (w.drew.alloc g) ct o):
  aT O (fL m ct p) S (w.drew.alloc g) ((ct,o)::hp0) (ct+1)/\cg m S w hp (fL m ct p) S (w.drew.alloc g) ((ct,o)::hp0) ct:=by
 have hn:m ct=F6:=by
  cases h:m ct with
  | none=>rfl
  | some q=>have:=hh.lt _ _ h;lia
 have hle:=jM hn (p:=p);have aR:=akc hh g;have hold:∀b,b<w.heap.size->(w.drew.alloc g).heap[b]? =w.heap[b]? :=fun b hb=>RowKit.Below.heap_alloc w.drew _ b (by simpa using hb)
 have eJ:(w.drew.alloc g).heap.size=w.heap.size+1:=by simp
 have bZ:∀i q,ak ((ct,o)::hp0) i=F5 q->i≠ct->ak hp i=F5 q:=fun i q h hi=>by
  rw[fF,yp (fun e=>hi e.symm)] at h
  grind
 refine⟨⟨?_,?_,?_,?_,?_,?_,?_,?_,fun i q hq=>(by
  by_cases hc:i=ct
  .lia
  .have:=hh.aM _ _ (bZ i q hq hc);lia)⟩,⟨rfl,rfl,rfl,by lia,?_,fun _ h=>h,fun b hb=>aR b hb,fun b hb=>.inl hb,?_,fun i q _ h=>hle i q h,fun b r hb=>⟨r,(hold b (xE.1 hb).1).trans hb⟩⟩⟩
 .intro i q pi hi bG;by_cases hc:i=ct
  .subst hc;rw[fF] at hi;simp only[xJ,yc] at hi;subst hi;exact ho _ hle dI
  .rw [eB hc] at bG;exact zT hle (fun _ h=>h) aR (fun q' bL=>hold _ (hh.blt i q' bL)) (fun _ _ h=>h) (hh.obj i q pi (bZ i q hi hc) bG)
 .intro i q bG;by_cases hc:i=ct
  .lia
  .rw [eB hc] at bG;have:=hh.lt i q bG;lia
 .intro i j oi oj pi pj hi hj bG gX e;by_cases ci:i=ct
  .by_cases cj:j=ct
   .grind
   .subst ci;rw[dI] at bG;rw[eB cj] at gX;injection bG with bG
    subst bG
    have:=hh.blt j pj gX
    lia
  .rw [eB ci] at bG;by_cases cj:j=ct
   .subst cj;rw[dI] at gX;injection gX with gX
    subst gX
    have:=hh.blt i pi bG
    lia
   .rw [eB cj] at gX;exact hh.inj i j oi oj pi pj (bZ i oi hi ci) (bZ j oj hj cj) bG gX e
 .intro b hb;have:=hh.slt b hb;lia
 .intro i q bG;by_cases hc:i=ct
  .subst hc;rw[dI] at bG;injection bG with bG
   subst bG
   lia
  .rw [eB hc] at bG;have:=hh.blt i q bG;lia
 .intro i q bG;have h0:=hh.gH;by_cases hc:i=ct
  .subst hc;rw[dI] at bG;injection bG with bG
   subst bG
   lia
  .rw [eB hc] at bG;exact hh.low i q bG
 .intro b hb;have h0:=hh.gH;exact (hold b (by lia)).trans (hh.mW b hb)
 .have h0:=hh.gH;lia
 .intro b hb _;exact hold b hb
 .rintro b ⟨i,q,pi,h1,h2,h3⟩;by_cases hc:i=ct
  .subst hc;rw[dI] at h2;injection h2 with h2
   subst h2;exact .inr (by lia)
  .rw [eB hc] at h2;exact .inl ⟨i,q,pi,bZ i q h1 hc,h2,h3⟩
def al9(hh:aT O m S w hp ct){id:Nat}{o o':Obj}{p p':Pl}{w':yk}(hg:ak hp id=F5 o)(hm:m id=F5 p)(hn:¬S p.b)(hw:One w w' p.b)(hk:∀r:td,w.heap[p.b]? =F5 (.loop r)->∃r':td,w'.heap[p.b]? =F5 (.loop r'))(hb:p'.b=p.b)(ho:∀m',di m m'->m' ct=F5 p'->fk O m' S w' ct o'):
  aT O (fL m ct p') S w' ((ct,o')::c7 hp id) (ct+1)/\cg m S w hp (fL m ct p') S w' ((ct,o')::c7 hp id) ct:=by
 have lS:m ct=F6:=by
  cases h:m ct with
  | none=>rfl
  | some q=>have:=hh.lt _ _ h;lia
 have hle:=jM lS (p:=p');have aR:gh S w w':=fun b hb=>hw.other b (fun e=>hn (e▸hb))
 have bZ:∀i q,ak ((ct,o')::c7 hp id) i=F5 q->i≠ct->ak hp i=F5 q/\i≠id:=fun i q h hi=>by
  rw[fF,yp (fun e=>hi e.symm),JA] at h
  grind
 have agl:∀i q pi,ak hp i=F5 q->i≠id->m i=F5 pi->pi.b≠p.b:=fun i q pi h hi bG e=>hi (hh.inj i id q o pi p h hg bG hm e)
 refine⟨⟨?_,?_,?_,?_,?_,?_,?_,?_,fun i q hq=>(by
  by_cases hc:i=ct
  .lia
  .have:=hh.aM _ _ (bZ i q hq hc).1;lia)⟩,⟨hw.os,hw.tape,hw.output,by rw[hw.size];exact yx _,?_,fun _ h=>h,fun b hb=>aR b hb,fun b hb=>.inl hb,?_,fun i q _ h=>hle i q h,fun b r hb=>(by
  by_cases hc:b=p.b
  .grind
  .exact ⟨r,(hw.other b hc).trans hb⟩)⟩⟩
 .intro i q pi hi bG;by_cases hc:i=ct
  .subst hc;rw[fF] at hi;simp only[xJ,yc] at hi;subst hi;exact ho _ hle dI
  .rw [eB hc] at bG;have⟨h1,h2⟩:=bZ i q hi hc;exact zT hle (fun _ h=>h) aR (fun q' bL=>hw.other _ (agl i q q' h1 h2 bL)) (fun _ _ h=>h) (hh.obj i q pi h1 bG)
 .intro i q bG;by_cases hc:i=ct
  .lia
  .rw [eB hc] at bG;have:=hh.lt i q bG;lia
 .intro i j oi oj pi pj hi hj bG gX e;by_cases ci:i=ct
  .by_cases cj:j=ct
   .grind
   .subst ci;rw[dI] at bG;rw[eB cj] at gX
    grind
  .rw [eB ci] at bG;have⟨h1,h2⟩:=bZ i oi hi ci;by_cases cj:j=ct
   .subst cj;rw[dI] at gX;injection gX with gX
    subst gX;exact (agl i oi pi h1 h2 bG (by rw[e,hb])).elim
   .rw [eB cj] at gX;exact hh.inj i j oi oj pi pj h1 (bZ j oj hj cj).1 bG gX e
 .intro b hb;rw[hw.size];exact hh.slt b hb
 .intro i q bG;rw[hw.size];by_cases hc:i=ct
  .subst hc;rw[dI] at bG;injection bG with bG
   subst bG;rw[hb];exact hh.blt id p hm
  .rw [eB hc] at bG;exact hh.blt i q bG
 .intro i q bG;by_cases hc:i=ct
  .subst hc;rw[dI] at bG;injection bG with bG
   subst bG;rw[hb];exact hh.low id p hm
  .rw [eB hc] at bG;exact hh.low i q bG
 .intro b hb
  rw[hw.other b (fun e=>by have:=hh.low id p hm;lia)]
  exact hh.mW b hb
 .rw [hw.size];exact hh.gH
 .intro b _ bI;exact hw.other b (fun e=>bI (e▸Ke hg hm))
 .rintro b ⟨i,q,pi,h1,h2,h3⟩;by_cases hc:i=ct
  .subst hc;rw[dI] at h2;injection h2 with h2
   subst h2;exact .inl ⟨id,o,p,hg,hm,by rw[<-h3,hb]⟩
  .rw [eB hc] at h2;exact .inl ⟨i,q,pi,(bZ i q h1 hc).1,h2,h3⟩
def acQ{e:yA}{s by':Nat}{z:AV}(hs:cy P e=F5 s)(hb:AF P e=F5 by')(hz:mU P e=F5 z):
  ∃ti zv,P.info? e=F5 ti/\ti.size=s/\ti.bytes=by'/\ti.zero=F5 zv/\z=eZ zv:=by
 unfold cy at hs;unfold AF at hb;unfold mU at hz
 cases hi:P.info? e with
 | none=>simp[hi] at hs
 | some ti=>
  simp only[hi,yc] at hs hb hz
  cases dw:ti.zero with
  | none=>simp[dw] at hz
  | some zv=>
   grind
def JJ{o:yV}{v:AV}{u:yh}{w':yk}{m':Mp}{S':Nat->Prop}{an:Hp}{aH:Nat}(h1:(execOp a.eval o).run O.P w=.ok (.value u) w')(h2:aT O m' S' w' an aH)(h3:ae O.ab m' S' w' v u)(h4:di m m')(h5:cg m S w hp m' S' w' an ct):Bu O m S w a hp ct o v an aH:=⟨_,u,w',m',S',h1,.inl rfl,h2,h3,h4,h5⟩
def an0{o:yV}{b':yA}{t u e:yA}{sz by':Nat}{z:AV}{x y:xB}{v:AV}{an:Hp}{aH:Nat}(hH:fh O H)(ht:bT O m S w tm a.tmps)(hh:aT O m S w hp ct)(dV:(execOp a.eval o).run O.P w=((do pure (.value (<-Builtin.append_ #[t,u] b' #[a.eval x,a.eval y])):Sem ybf)).run O.P w)(AL:O.P.underlying t=F5 (.slice e))(hu:(∃e',O.P.underlying u=F5 (.slice e'))\/O.P.underlying u=F5 .string)(hs:cy O.P e=F5 sz)(hb:AF O.P e=F5 by')(hz:mU O.P e=F5 z)(zt:(cellsOf z).length=sz)(hv:cx tm hp ct (.cQ sz by' (aJ H x) (aJ H y))=F5 (v,an,aH)):Bu O m S w a hp ct o v an aH:=by
 simp only[cx] at hv;obtain⟨ti,zv,zu,rfl,rfl,Mv,rfl⟩:=acQ hs hb hz;have aP:∀u' w',(Builtin.append_ #[t,u] b' #[a.eval x,a.eval y]).run O.P w=.ok u' w'->(execOp a.eval o).run O.P w=.ok (.value u') w':=fun u' w' h=>by
  rw[dV,Sem.run_bind,h];rfl
 have Ak:m ct=F6:=by
  cases h:m ct with
  | none=>rfl
  | some q=>have:=hh.lt _ _ h;lia
 have Fy:zv.cells.size=ti.size:=by
  have:=ic _ _ (Eb (ab:=O.ab) (m:=m) (S:=S) (w:=w) zv)
  rw[<-zt,<-this];simp
 cases oT:jr hp ti.size (ax tm (aJ H y)) with
 | none=>simp[oT] at hv
 | some q=>
  have⟨n,new⟩:=q;simp only[oT] at hv;have⟨news,lU,cE⟩:=aav hh (bX hH ht y) oT;have Mw:=ic _ _ lU;have rx:=bX hH ht x
  cases hx:ax tm (aJ H x) with
  | af=>
   rw[hx] at hv rx;simp only at hv;simp only[ae] at rx
   cases h0:yo n 0 with
   | true=>
    rw[h0] at hv;simp only[yu,yc,ym] at hv;obtain⟨rfl,rfl,rfl⟩:=hv;have zy:=yf h0;subst zy;have Ve:news=[]:=yQ (by rw[cE.2.1];simp)
    subst Ve;have hf:=cE.2.2 w rfl 0 (yx _);have lR:=cE.1 w;refine⟨.value (.slice F6 0 0),.slice F6 0 0,w,m,S,?_,.inl rfl,hh,by simp[ae],di.refl,cg.refl⟩;rw[dV,rx];rcases hu with ⟨e',hu⟩ | hu<;>
     simp[Builtin.append_,run_underlying AL,run_underlying hu,vB,typeInfo,zu,lR,hf]
   | false=>
    rw[h0] at hv;simp only[yO] at hv
    cases hc:(yC n room&&(yC (n*ti.bytes) room&&yM 0 ti.size)) with
    | false=>rw[hc] at hv;cases hv
    | true=>
     rw[hc] at hv;simp only[yu,yc,ym] at hv;obtain⟨rfl,rfl,rfl⟩:=hv;simp only[ye] at hc;have c1:=yt hc.1;have c2:=yt hc.2.1;simp only[room] at c1 c2;have zy:0<n:=by
      rcases xx n with h | h
      .subst h;simp at h0
      .exact h
     have hr:=Nq (P:=O.P) (ty:=b') (w:=w) AL hu zu Mv (s:=.slice F6 0 0) rfl (acP (P:=O.P) (size:=ti.size)) cE (by lia) (by lia) (by simpa using c2);simp only[yd,List.nil_append] at hr;have j9:=grownCap_ge w n 0 e;have jX:=Td (e:=e) (z:=zv) (cap:=grownCap w n 0 e) hh lU (need:=n) (sz:=ti.size) cE.2.1 Fy (aE new) (fun h=>h) j9;have⟨k1,k2⟩:=Tf hh (hp0:=hp) (p:=⟨w.heap.size,0,grownCap w n 0 e*ti.size,ti.size⟩) (fun _ _ h=>h) rfl jX;exact JJ (aP _ _ (by rw[rx];exact hr)) k1 (by simp only[ae];exact⟨_,_,dI,rfl,j9,by simp⟩) (jM Ak) k2
  | ap ex k cs=>
   rw[hx] at hv rx
   cases ex with
   | false=>simp at hv
   | true=>
    simp only at hv;have rx0:=rx;simp only[ae] at rx;have rx1:∃ad mX,a.eval x=.slice (F5 ad) k k/\aB O.ab m S w cs mX/\mX.length=cs.length/\(∀(j:Nat) (u:yh),mX[j]? =F5 u->w.cell? (ad.add j)=F5 u)/\aE cs=ydo:=by
     rcases rx with ⟨bb,oo,c,ex,h1,h2,h3,h4,h5⟩ | ⟨ad,ex,rfl,rfl⟩
     .have dh:c=k:=h2 (by trivial);subst dh;have⟨mX,g1,g2,g3⟩:=zR cs bb oo h5;exact⟨_,mX,ex,g1,g2,fun j u hj=>by rw[oH];exact g3 j u hj,h4⟩
     .exact ⟨ad,[],ex,by simp[aB],rfl,fun j u hj=>by simp at hj,rfl⟩
    have⟨ad,mX,ex,g1,g2,g3,h4⟩:=rx1
    cases h0:yo n 0 with
    | true=>
     rw[h0] at hv;simp only[yu,yc,ym] at hv;obtain⟨rfl,rfl,rfl⟩:=hv;have zy:=yf h0;subst zy;have Ve:news=[]:=yQ (by rw[cE.2.1];simp)
     subst Ve;have hf:=cE.2.2 w rfl 0 (yx _);have lR:=cE.1 w;refine⟨.value (a.eval x),a.eval x,w,m,S,?_,.inl rfl,hh,rx0,di.refl,cg.refl⟩;rw[dV,ex];rcases hu with ⟨e',hu⟩ | hu<;>
      simp[Builtin.append_,run_underlying AL,run_underlying hu,vB,typeInfo,zu,lR,hf,storeCells]
    | false=>
     rw[h0] at hv;simp only[yO] at hv
     cases hc:(yC (k+n) room&&(yC ((k+n)*ti.bytes) room&&(yo cs.length (k*ti.size)&&yM 0 ti.size))) with
     | false=>rw[hc] at hv;cases hv
     | true=>
      rw[hc] at hv;simp only[yu,yc,ym] at hv;obtain⟨rfl,rfl,rfl⟩:=hv;simp only[ye] at hc;have c1:=yt hc.1;have c2:=yt hc.2.1;have c3:=yf hc.2.2.1;simp only[room] at c1 c2;have zy:0<n:=by
       rcases xx n with h | h
       .subst h;simp at h0
       .exact h
      have Mx:Src O.P w ti.size k mX (.slice (F5 ad) k k):=Gc (by lia) g3;have hr:=Nq (P:=O.P) (ty:=b') (w:=w) AL hu zu Mv rfl Mx cE (by lia) c1 c2;have j9:=grownCap_ge w (k+n) k e;have jX:=Td (e:=e) (z:=zv) (cap:=grownCap w (k+n) k e) hh (mL g1 lU) (need:=k+n) (sz:=ti.size) (by rw[yJ,g2,c3,cE.2.1,xY]) Fy (aE cs&&aE new)
       (fun h=>by simp only[ye] at h;exact Ec h.1 h.2) j9
      have⟨k1,k2⟩:=Tf hh (hp0:=hp) (p:=⟨w.heap.size,0,grownCap w (k+n) k e*ti.size,ti.size⟩) (fun _ _ h=>h) rfl jX;exact JJ (aP _ _ (by rw[ex];exact hr)) k1 (by simp only[ae];exact⟨_,_,dI,rfl,j9,by simp⟩) (jM Ak) k2
  | ay id o0 k=>
   rw[hx] at hv rx;simp only at hv;simp only[ae] at rx;have⟨p,c,hm,ex,h1,h2⟩:=rx
   split at hv
   case h_2=>cases hv
   rename_i pu Re zz cs hg
   cases hc:(yo zz ti.size&&(yC (k+n) room&&(yC ((k+n)*ti.bytes) room&&(yC (o0+k*ti.size) cs.length&&(yM 0 ti.size&&bP new))))) with
   | false=>rw[hc] at hv;cases hv
   | true=>
    rw[hc] at hv;simp only[yu,yc,ym] at hv;obtain⟨rfl,rfl,rfl⟩:=hv;simp only[ye] at hc;have c0:=yf hc.1;have c1:=yt hc.2.1;have c2:=yt hc.2.2.1;have c3:=yt hc.2.2.2.1;have c4:=hc.2.2.2.2.2;simp only[room] at c1 c2;have⟨p',arr,t',g1,g2,g3,g4,g5,g6,g7,g8,g9,g10⟩:=hh.obj id _ _ hg hm;rw[hm] at g1;injection g1 with g1
    subst g1;subst c0;rw[g3] at h2;have Dt:bR O.ab m S w (slice o0 (k*ti.size) cs) p.b (p.o+o0):=A5 _ _ _ _ (sN _ _ _ _ g7);have⟨mX,f1,f2,f3⟩:=zR _ _ _ Dt;have PQ:(slice o0 (k*ti.size) cs).length=k*ti.size:=by simp only[slice,yR,xU];lia
    have j8:(pu&&aE new)=ydo->aE (slice o0 (k*ti.size) cs++new)=ydo:=fun h=>by
     simp only[ye] at h;exact Ec (Ch _ (A6 _ _ (g8 h.1))) h.2
    by_cases GZ:k+n<=c
    .have gV:=NP lU c4;have VU:p.o+o0+k*ti.size+news.length<=arr.size:=by
      rw[cE.2.1]
      have:(k+n)*ti.size<=c*ti.size:=yT _ GZ
      rw[xY] at this
      lia
     have hr:=akr (P:=O.P) (ty:=b') (w:=w) AL hu zu g2 cE gV GZ VU;have ho:∀m',di m m'->m' ct=F5 ⟨p.b,p.o+o0,c*ti.size,ti.size⟩->
       fk O m' S (w.setRow p.b (arr.toList.take (p.o+o0+k*ti.size)++news++arr.toList.drop (p.o+o0+k*ti.size+news.length)).toArray) ct
        (.cells ydo (pu&&aE new) ydp ti.size (slice o0 (k*ti.size) cs++new)):=by
      intro m' hle hi;have aR:gh S w (w.setRow p.b (arr.toList.take (p.o+o0+k*ti.size)++news++arr.toList.drop (p.o+o0+k*ti.size+news.length)).toArray):=fun b hb=>setRow_other w p.b b _ (fun e=>g9 rfl (e▸hb))
      refine⟨_,_,t',hi,setRow_heap w p.b arr _ t' _ g2,rfl,?_,?_,by simp,?_,j8,fun _=>g9 rfl,by simp⟩
      .show (slice o0 (k*ti.size) cs++new).length<=c*ti.size
       rw[yJ,PQ,<-Mw,cE.2.1,<-xY];exact yT _ GZ
      .show p.o+o0+c*ti.size<=_
       rw[tF,yJ,yJ,yR,xU,vG]
       lia
      .refine Gf _ (mX++news) _ (mL (iJ hle (fun _ h=>h) aR _ _ f1) (iJ hle (fun _ h=>h) aR _ _ lU)) (fun j u hj=>?_);show World.cell? _ ⟨p.b,p.o+o0+j,F6⟩=F5 u
       simp only[World.cell?,setRow_heap w p.b arr _ t' _ g2,yae,yD,xz];rw[ybi];have e1:(arr.toList.take (p.o+o0+k*ti.size)).length=p.o+o0+k*ti.size:=by rw[yR,vG];lia
       by_cases Rc:j<k*ti.size
       .rw [wH (by lia)] at hj;rw[xK,wH (by lia),tp (by lia)]
        have:=f3 j u hj
        simpa[World.cell?,g2] using this
       .rw [wu (by lia)] at hj;have hjl:=(List.getElem?_eq_some_iff.1 hj).1;rw[xK,wu (by lia),e1,wH (by lia),show p.o+o0+j-(p.o+o0+k*ti.size)=j-mX.length by lia];exact hj
     have⟨k1,k2⟩:=al9 (p':=⟨p.b,p.o+o0,c*ti.size,ti.size⟩) hh hg hm (g9 rfl) (SM w p.b _) (fun r hr=>by rw[g2] at hr;cases hr) rfl ho;exact JJ (aP _ _ (by rw[ex];exact hr)) k1 (by simp only[ae];exact⟨_,c,dI,rfl,GZ,by simp⟩) (jM Ak) k2
    .have Mx:Src O.P w ti.size k mX (.slice (F5 ⟨p.b,p.o+o0,F6⟩) k c):=Gc (by lia) (fun j u hj=>by rw[oH];exact f3 j u hj)
     have hr:=Nq (P:=O.P) (ty:=b') (w:=w) AL hu zu Mv rfl Mx cE (by lia) c1 c2;have j9:=grownCap_ge w (k+n) c e;have jX:=Td (e:=e) (z:=zv) (cap:=grownCap w (k+n) c e) hh (mL f1 lU) (need:=k+n) (sz:=ti.size) (by rw[yJ,f2,PQ,cE.2.1,xY]) Fy (pu&&aE new) j8 j9;have⟨k1,k2⟩:=Tf hh (hp0:=c7 hp id) (p:=⟨w.heap.size,0,grownCap w (k+n) c e*ti.size,ti.size⟩) (fun i q h=>by
      rw[JA] at h;by_cases hi:id=i
      .simp [hi] at h
      .simpa only [hi,xz] using h) rfl jX
     exact JJ (aP _ _ (by rw[ex];exact hr)) k1 (by simp only[ae];exact⟨_,_,dI,rfl,j9,by simp⟩) (jM Ak) k2
  | _=>rw[hx] at hv;simp at hv
end
end
end
section
open Go
section
variable {O:bq}{H:Hint}{m:Mp}{S:Nat->Prop}{w:yk}{tm:Env}{a:Act}{hp:Hp}{ct:Nat}
def akH{n:Nat}{cs:List AV}(h:aE cs=ydo):aE (cs.take n)=ydo:=Ch n h
def Y9:∀(n:Nat) {cs:List AV},bP cs=ydo->bP (cs.take n)=ydo
 | 0,_,_=>by simp[bP]
 | n+1,[],_=>by simp[bP]
 | n+1,c::cs,h=>by
  simp only[wF,bP,ye] at h ⊢;exact⟨h.1,Y9 n h.2⟩
def an1{o:yV}{b':yA}{t u e:yA}{sz:Nat}{x y:xB}{v:AV}{an:Hp}{aH:Nat}(hH:fh O H)(ht:bT O m S w tm a.tmps)(hh:aT O m S w hp ct)(dV:(execOp a.eval o).run O.P w=((do pure (.value (<-Builtin.copy_ #[t,u] b' #[a.eval x,a.eval y])):Sem ybf)).run O.P w)(AL:O.P.underlying t=F5 (.slice e))(hs:cy O.P e=F5 sz)(hv:cx tm hp ct (.r5 sz (aJ H x) (aJ H y))=F5 (v,an,aH)):Bu O m S w a hp ct o v an aH:=by
 simp only[cx] at hv
 cases oT:mr hp sz (ax tm (aJ H y)) with
 | none=>simp[oT] at hv
 | some q=>
  have⟨n,new⟩:=q;simp only[oT] at hv;have⟨news,lU,cE⟩:=ZN hh (bX hH ht y) oT;have Mw:=ic _ _ lU;have rx:=bX hH ht x;cases hx:ax tm (aJ H x)<;>rw[hx] at hv rx<;>simp only[reduceCtorEq] at hv
  rename_i id o0 k;simp only[ae] at rx;have⟨p,c,hm,ex,h1,h2⟩:=rx
  split at hv
  case h_2=>cases hv
  rename_i pu Re zz cs hg
  cases hc:(yo zz sz&&(yC (o0+k*sz) cs.length&&bP new)) with
  | false=>rw[hc] at hv;cases hv
  | true=>
   rw[hc] at hv;simp only[yu,yc,ym] at hv;obtain⟨rfl,rfl,rfl⟩:=hv;simp only[ye] at hc;have c0:=yf hc.1;have c1:=yt hc.2.1;subst c0;have⟨p',arr,t',g1,g2,g3,g4,g5,g6,g7,g8,g9,g10⟩:=hh.obj id _ _ hg hm;rw[hm] at g1;injection g1 with g1
   subst g1;have agm:min n k*zz<=k*zz:=yT _ (Nat.min_le_right _ _);have aFi:min n k*zz<=n*zz:=yT _ (ycc _ _);have rt:=Gb (min n k*zz) lU;have AM:(news.take (min n k*zz)).length=min n k*zz:=by rw[yR,cE.2.1];lia
   have aFu:(new.take (min n k*zz)).length=min n k*zz:=by rw[yR,<-Mw,cE.2.1];lia
   have gV:=NP rt (Y9 _ hc.2.2);have hf:=cE.2.2 w rfl (min n k) (ycc _ _);have aR:=run_storeCells_at O.P p.b (p.o+o0) t' (news.take (min n k*zz)) 0 arr w g2 (by rw[AM];lia) gV
   simp only[yZ] at aR;have qO:fk O m S (w.setRow p.b (arr.toList.take (p.o+o0)++news.take (min n k*zz)++arr.toList.drop (p.o+o0+(news.take (min n k*zz)).length)).toArray) id
     (.cells ydo (pu&&aE new) Re zz (over o0 (new.take (min n k*zz)) cs)):=by
    refine⟨p,_,t',hm,setRow_heap w p.b arr _ t' _ g2,g3,by rw[N7 (by lia)];exact g4,?_,fun h=>by rw[N7 (by lia)];exact g6 h,?_,?_,fun _=>g9 rfl,by simp⟩
    .rw [tF,yJ,yJ,yR,xU,vG,AM];lia
    .exact abq g2 g7 rt (by lia) (by lia) di.refl (fun _ h=>h) (fun b hb=>setRow_other w p.b b _ (fun e=>g9 rfl (e▸hb))) (setRow_heap w p.b arr _ t' _ g2)
    .intro h;simp only[ye] at h;exact ZM (g8 h.1) (akH h.2)
   have⟨e1,e2⟩:=JI hh hg hm (g9 rfl) (SM w p.b _) qO (fun r hr=>by rw[g2] at hr;cases hr)
   refine JJ (u:=goInt ((min n k:Nat):Int)) (m':=m) (S':=S) ?_ e1 (by simp[ae,goInt]) di.refl e2;rw[dV,ex];simp[Builtin.copy_,run_underlying AL,cE.1 w,pM hs,show Nat.min n k=min n k from rfl,hf,aR]
def aqj{o:yV}{k:Nat}{v:AV}{an:Hp}{aH:Nat}(hH:fh O H)(ht:bT O m S w tm a.tmps)(hh:aT O m S w hp ct)(hv:cx tm hp ct (aQ O.P H k o)=F5 (v,an,aH)):Bu O m S w a hp ct o v an aH:=by
 have ji:∀{r:AV×Hp×Nat},cx tm hp ct bad=F5 r->False:=fun h=>by simp[bad,cx] at h
 cases ho:o.op with
 | call c=>
  obtain⟨callee,args,ts⟩:=c;simp only[aQ,ho] at hv
  split at hv
  .cases Fv:H.mode k<;>simp[Fv,cx] at hv
  .rename_i _ b
   split at hv
   .rename_i x y t u eI nk;obtain⟨al⟩:=args;obtain⟨tl⟩:=ts;simp only at eI nk;subst eI;subst nk;obtain⟨cs,dV⟩:=A4 (O:=O) (w:=w) (a:=a) ho;have ET:(execOp a.eval o).run O.P w=((do pure (.value (<-Builtin.append_ #[t,u] o.type #[a.eval x,a.eval y])):Sem ybf)).run O.P w:=by
     rw[dV];simp[builtin]
    have key:∀{z:AV} {sz by':Nat} {e:yA},O.P.underlying t=F5 (.slice e)->((∃e',O.P.underlying u=F5 (.slice e'))\/O.P.underlying u=F5 .string)->cy O.P e=F5 sz->AF O.P e=F5 by'->mU O.P e=F5 z->
      cx tm hp ct (bif yo (cellsOf z).length sz then .cQ sz by' (aJ H x) (aJ H y) else bad)=F5 (v,an,aH)->Bu O m S w a hp ct o v an aH:=by
     intro z sz by' e h1 h2 h3 h4 h5 h
     cases hb:yo (cellsOf z).length sz with
     | false=>rw[hb] at h;exact (ji h).elim
     | true=>
      rw[hb] at h;exact an0 hH ht hh ET h1 h2 h3 h4 h5 (yf hb) h
    split at hv
    .rename_i e e' h1 h2
     split at hv
     .rename_i sz by' z h3 h4 h5
      exact key h1 (.inl ⟨_,h2⟩) h3 h4 h5 hv
     .exact (ji hv).elim
    .rename_i e h1 h2
     split at hv
     .rename_i sz by' z h3 h4 h5
      exact key h1 (.inr h2) h3 h4 h5 hv
     .exact (ji hv).elim
    .exact (ji hv).elim
   .repeat' split at hv
    all_goals simp[cx,bad] at hv
   .rename_i x y t u eI nk;obtain⟨al⟩:=args;obtain⟨tl⟩:=ts;simp only at eI nk;subst eI;subst nk;obtain⟨cs,dV⟩:=A4 (O:=O) (w:=w) (a:=a) ho;have ET:(execOp a.eval o).run O.P w=((do pure (.value (<-Builtin.copy_ #[t,u] o.type #[a.eval x,a.eval y])):Sem ybf)).run O.P w:=by
     rw[dV];simp[builtin]
    split at hv
    .rename_i e h1
     split at hv
     .rename_i sz h3;exact an1 hH ht hh ET h1 h3 hv
     .exact (ji hv).elim
    .exact (ji hv).elim
   .simp [cx] at hv
   .simp [cx] at hv
   .simp [cx] at hv
   .simp [cx] at hv
   .simp [cx] at hv
   .exact (ji hv).elim
  .exact (ji hv).elim
 | store t x y=>
  simp only[aQ,ho] at hv
  split at hv
  .rename_i s hs;exact aqg hH ht hh ho hs hv
  .exact (ji hv).elim
 | mapUpdate t x k y=>
  simp only[aQ,ho] at hv
  split at hv
  .rename_i kt e hu
   split at hv
   .rename_i kk zp;exact abr hH ht hh (.inl ho) hu zp hv
   .exact (ji hv).elim
  .exact (ji hv).elim
 | insert t x k y=>
  simp only[aQ,ho] at hv
  split at hv
  .rename_i kt e hu
   split at hv
   .rename_i kk zp;exact abr hH ht hh (.inr ho) hu zp hv
   .exact (ji hv).elim
  .exact (ji hv).elim
 | next x b=>
  cases b with
  | false=>simp only[aQ,ho] at hv;exact (ji hv).elim
  | true=>exact anZ hH ht hh ho (by simpa only[aQ,ho] using hv)
 | binOp op t x y ty=>
  cases op<;>simp only[aQ,ho,oG,pV] at hv
  case eql=>
        repeat' split at hv
        all_goals first
         | (simp[cx,bad] at hv;done)
         | (cases hb:(O.P.stoodInHeld t||O.P.eqGuardType O.P.depth t)<;>rw[hb] at hv<;>simp[cx,bad] at hv)
  case neq=>
        repeat' split at hv
        all_goals first
         | (simp[cx,bad] at hv;done)
         | (cases hb:(O.P.stoodInHeld t||O.P.eqGuardType O.P.depth t)<;>rw[hb] at hv<;>simp[cx,bad] at hv)
  all_goals simp[cx] at hv
 | buildSlice t n parts=>
  simp only[aQ,ho] at hv
  repeat' split at hv
  all_goals first
   | (simp[cx,bad] at hv;done)
   | (
     revert hv;generalize yC _ _=bb;intro hv;cases bb<;>simp[cx,bad] at hv
     try (split at hv<;>simp[cx,bad] at hv))
 | makeMap t r=>
  cases r<;>simp only[aQ,ho] at hv
  .repeat' split at hv
   all_goals simp[cx,bad] at hv
  .exact (ji hv).elim
 | _=>
  simp only[aQ,ho] at hv
  (repeat' split at hv)
  all_goals first
   | contradiction
   | (simp[cx,bad] at hv;done)
end
end
section
variable {v x:AV}{hp:Hp}{o:Op}
section
variable {hp H:Hp}{tm tm':Env}
def acR(hl:cR hp H){id:Nat}{rw pu ex:Bool}{sz:Nat}{cs:List AV}(h:ak hp id=F5 (.cells rw pu ex sz cs)):∃dG,ak H id=F5 (.cells dG pu ex sz cs):=by
 obtain⟨o',h1,dG,rfl,_⟩:=hl id _ h
 grind
def acS(hl:cR hp H){id:Nat}{rw:Bool}{ks vs:List AV}(h:ak hp id=F5 (.mp rw ks vs)):∃dG,ak H id=F5 (.mp dG ks vs):=by
 obtain⟨o',h1,dG,rfl,_⟩:=hl id _ h
 grind
def Uj(hl:cR hp H){sz:Nat}{ag:Bool}(h:gU hp sz ag x=F5 v):gU H sz ag x=F5 v:=by
 cases x<;>simp only[gU,reduceCtorEq] at h ⊢
 .rename_i id o
  cases hg:ak hp id with
  | none=>simp[hg] at h
  | some ob=>
   cases ob<;>simp only[hg,reduceCtorEq] at h
   obtain⟨r,h1⟩:=acR hl hg
   grind
 .exact h
def an2(hl:cR hp H){k:AV}{v:Option AV}(h:CR hp k x=F5 v):CR H k x=F5 v:=by
 cases x<;>simp only[CR,reduceCtorEq] at h ⊢
 .grind
 .rename_i id
  cases hg:ak hp id with
  | none=>simp[hg] at h
  | some ob=>
   cases ob<;>simp only[hg,reduceCtorEq] at h
   obtain⟨r,h1⟩:=acS hl hg
   grind
 .exact h
def an3(hl:cR hp H){k:Nat}(h:iM hp k x=F5 v):iM H k x=F5 v:=by
 unfold iM at h ⊢
 split at h
 all_goals first
  | exact h
  | cases h
  | skip
 rename_i id
 cases hg:ak hp id with
 | none=>simp[hg] at h
 | some ob=>
  cases ob<;>simp only[hg,reduceCtorEq] at h
  obtain⟨r,h1⟩:=acS hl hg
  grind
def an4(hl:cR hp H){k:Cut}{lo hi:Option X}(h:fI hp k x tm lo hi=F5 v):fI H k x tm lo hi=F5 v:=by
 unfold fI at h ⊢
 split at h
 all_goals first
  | exact h
  | cases h
  | skip
 rename_i sz id o n
 cases hg:ak hp id with
 | none=>simp[hg] at h
 | some ob=>
  cases ob<;>simp only[hg,reduceCtorEq] at h
  obtain⟨r,h1⟩:=acR hl hg
  grind
def ama(hl:cR hp H)(h:bh tm hp o=F5 v):bh tm H o=F5 v:=by
 cases o<;>simp only[bh,reduceCtorEq] at h ⊢<;>first
  | exact h
  | exact Uj hl h
  | exact an3 hl h
  | exact an4 hl h
  | skip
 rename_i kk zero ok m k
 cases hk:pT kk (ax tm k) with
 | false=>rw[hk] at h;cases h
 | true=>
  rw[hk] at h
  cases hr:CR hp (ax tm k) (ax tm m) with
  | none=>simp[hr] at h
  | some r=>rw[an2 hl hr];simpa only[hr] using h
def amb(hk:bl o=0)(hp H:Hp):bh tm hp o=bh tm H o:=by
 cases o with
 | rV k x lo hi=>
  cases k with
  | str=>simp only[bh,fI];cases ax tm x<;>rfl
  | sl sz=>simp[bl] at hk
  | ar n sz=>simp[bl] at hk
 | len k x=>
  match k,hk with
  | 0,_=>simp only[bh];unfold iM;split<;>simp_all
  | 1,_=>simp only[bh];unfold iM;split<;>simp_all
  | k+2,hk=>simp[bl] at hk
 | call md f xs=>cases md<;>simp[bl] at hk
 | _=>first
  | rfl
  | simp[bl] at hk
end
section
variable {tm tm':Env}
def dJ{x:X}(h:∀t,t∈jS x->aj tm' t=aj tm t):ax tm' x=ax tm x:=by
 cases x with
 | t i=>exact h i (by simp[jS])
 | c v=>rfl
def Ee:∀{xs:List X},(∀t,t∈Bl xs->aj tm' t=aj tm t)->dK tm' xs=dK tm xs
 | [],_=>rfl
 | x::r,h=>by
  simp only[dK]
  rw[dJ (x:=x) (fun t ht=>h t (by simp[Bl,ht])),Ee (fun t ht=>h t (by simp[Bl,ht]))]
def NQ:∀{ps:List (Nat×Nat×X)} {z:List AV},(∀t,t∈KS ps->aj tm' t=aj tm t)->fill tm' z ps=fill tm z ps
 | [],_,_=>rfl
 | (o,s,x)::r,z,h=>by
  simp only[fill]
  rw[dJ (x:=x) (fun t ht=>h t (by simp[KS,ht]))]
  rw[NQ (ps:=r) (fun t ht=>h t (by simp[KS,ht]))]
def ZO{d:Nat}{x:Option X}(h:∀t,t∈KR x->aj tm' t=aj tm t):cX tm' d x=cX tm d x:=by
 cases x with
 | none=>rfl
 | some x=>simp only[cX];rw[dJ h]
def ale{k:Cut}{lo hi:Option X}(h1:∀t,t∈KR lo->aj tm' t=aj tm t)(h2:∀t,t∈KR hi->aj tm' t=aj tm t):
  fI hp k x tm' lo hi=fI hp k x tm lo hi:=by
 unfold fI;simp only[ZO h1,ZO h2]
def akI(h:∀t,t∈kW o->aj tm' t=aj tm t):bh tm' hp o=bh tm hp o:=by
 cases o<;>simp only[kW,wD] at h<;>simp only[bh]
 case pick c a b=>rw[dJ (x:=c) fun t ht=>h t (.inl ht),dJ (x:=a) fun t ht=>h t (.inr (.inl ht)),dJ (x:=b) fun t ht=>h t (.inr (.inr ht))]
 case Ah z ps=>rw[NQ h]
 case ni n s z ps=>rw[NQ h]
 case HK f a b=>rw[Ee (xs:=a) fun t ht=>h t (.inl ht),Ee (xs:=b) fun t ht=>h t (.inr ht)]
 case rV k x lo hi=>rw[dJ (x:=x) fun t ht=>h t (.inl ht),ale (fun t ht=>h t (.inr (.inl ht))) (fun t ht=>h t (.inr (.inr ht)))]
 case mn xs=>rw[Ee h]
 case mx xs=>rw[Ee h]
 case bin op x y=>rw[dJ (x:=x) fun t ht=>h t (.inl ht),dJ (x:=y) fun t ht=>h t (.inr ht)]
 case Mi x y=>rw[dJ (x:=x) fun t ht=>h t (.inl ht),dJ (x:=y) fun t ht=>h t (.inr ht)]
 case eq n k x y=>rw[dJ (x:=x) fun t ht=>h t (.inl ht),dJ (x:=y) fun t ht=>h t (.inr ht)]
 case bj s x y=>rw[dJ (x:=x) fun t ht=>h t (.inl ht),dJ (x:=y) fun t ht=>h t (.inr ht)]
 case nh l s x y=>rw[dJ (x:=x) fun t ht=>h t (.inl ht),dJ (x:=y) fun t ht=>h t (.inr ht)]
 case HL x y=>rw[dJ (x:=x) fun t ht=>h t (.inl ht),dJ (x:=y) fun t ht=>h t (.inr ht)]
 case HM l s g x y=>rw[dJ (x:=x) fun t ht=>h t (.inl ht),dJ (x:=y) fun t ht=>h t (.inr ht)]
 case Q8 kk z ok x y=>rw[dJ (x:=x) fun t ht=>h t (.inl ht),dJ (x:=y) fun t ht=>h t (.inr ht)]
 all_goals first
  | rfl
  | (rename_i x;rw[dJ (x:=x) h])
def Jo{an:Hp}{ct:Nat}(h:∀t,t∈kW o->aj tm' t=aj tm t):cG tm' an ct o=cG tm hp ct o:=by
 cases o<;>simp only[kW,wD] at h<;>simp only[cG]
 case box s x=>rw[dJ (x:=x) h]
 case iv n s z ps=>rw[NQ h]
 case qF s b z x y=>rw[dJ (x:=x) fun t ht=>h t (.inl ht),dJ (x:=y) fun t ht=>h t (.inr ht)]
 case rX x=>rw[dJ (x:=x) h]
def Ed{ct:Nat}(h:∀t,t∈kW o->aj tm' t=aj tm t):cx tm' hp ct o=cx tm hp ct o:=by
 cases o<;>simp only[kW,wD] at h<;>simp only[cx]
 case st s x y=>rw[dJ (x:=x) fun t ht=>h t (.inl ht),dJ (x:=y) fun t ht=>h t (.inr ht)]
 case rW kk c a b=>rw[dJ (x:=c) fun t ht=>h t (.inl ht),dJ (x:=a) fun t ht=>h t (.inr (.inl ht)),dJ (x:=b) fun t ht=>h t (.inr (.inr ht))]
 case rY x=>rw[dJ (x:=x) h]
 case cQ s b x y=>rw[dJ (x:=x) fun t ht=>h t (.inl ht),dJ (x:=y) fun t ht=>h t (.inr ht)]
 case r5 s x y=>rw[dJ (x:=x) fun t ht=>h t (.inl ht),dJ (x:=y) fun t ht=>h t (.inr ht)]
end
end
section
open Go
section
variable {r:AV}{bs:List Nat}{lo:Nat}{ab:Nat->Nat}{u:yh}
structure Calm(w w':yk):Prop where
 os:w'.os=w.os
 tape:w'.tape=w.tape
 output:w'.output=w.output
 size:w.heap.size<=w'.heap.size
 same:∀b,b<w.heap.size->w'.heap[b]? =w.heap[b]?
def Calm.refl{w:yk}:Calm w w:=⟨rfl,rfl,rfl,yx _,fun _ _=>rfl⟩
def CT(O:bq)(w:yk):Prop:=(∀b,b<O.w0.heap.size->w.heap[b]? =O.w0.heap[b]?)/\O.w0.heap.size<=w.heap.size
def ff:Mp:=fun _=>F6
def jA(ab:Nat->Nat)(S:Nat->Prop)(w:yk)(lo:Nat):AV->yh->List Nat->Prop
 | .cM ex sz n cs,u,bs=>∃b o c arr t,bs=[b]/\u=.slice (F5 ⟨b,o,F6⟩) n c/\n<=c/\(ex=ydo->c=n)/\lo<=b/\¬S b/\w.heap[b]? =F5 (.cells arr t (0,0))/\cs.length=n*sz/\
   o+c*sz<=arr.size/\bR ab ff S w cs b o/\aE cs=ydo
 | r,u,bs=>bs=[]/\ae ab ff S w r u/\aV r=ydo
def mz(ab:Nat->Nat)(S:Nat->Prop)(w:yk)(lo:Nat):List AV->List yh->List Nat->Prop
 | [],us,bs=>us=[]/\bs=[]
 | v::r,us,bs=>∃u t b1 b2,us=u::t/\bs=b1++b2/\jA ab S w lo v u b1/\mz ab S w lo r t b2
def qh(ab:Nat->Nat)(S:Nat->Prop)(w:yk)(lo:Nat)(r:AV)(u:yh):Prop:=
 match r with
 | .aw vs=>∃(us:Array yh) (bs:List Nat),u=.tuple us/\mz ab S w lo vs us.toList bs/\bs.Nodup
 | r=>∃bs,jA ab S w lo r u bs
def Cx(P:xy)(f:FuncId)(args:Array yh)(w:yk)(R:ybq->yk->Prop):Prop:=
 ((callFunc f args).run P w=.ok (.enter f args) w/\CallsIn Fence.wide 0 P f args w R)\/∃u w',(callFunc f args).run P w=.ok (.value u) w'/\R (.returned u) w'
def abt(O:bq)(w:yk)(S:Nat->Prop)(r:AV)(e:ybq)(w':yk):Prop:=
 ∃u S',e=.returned u/\Calm w w'/\(∀b,S b->S' b)/\(∀b,S' b->S b\/w.heap.size<=b)/\(∀b,S' b->b<w'.heap.size)/\qh O.ab S' w' w.heap.size r u
def eD(O:bq)(n:Nat)(aq:List AV)(r:AV):Prop:=
 ∀(w:yk) (S:Nat->Prop) (args:Array yh),CT O w->(∀b,S b->b<w.heap.size)->aB O.ab ff S w aq args.toList->aE aq=ydo->
  Cx O.P (O.ab n) args w (abt O w S r)
def Bb(O:bq)(m:Mp)(S:Nat->Prop)(w:yk)(hp:Hp)(ct:Nat)(v:AV)(an:Hp)(aH:Nat)(e:ybq)(w':yk):Prop:=
 ∃u m' S',e=.returned u/\aT O m' S' w' an aH/\ct<=aH/\ae O.ab m' S' w' v u/\cg m S w hp m' S' w' an ct
def CU(O:bq)(n:Nat)(hp:Hp)(ct:Nat)(aq:List AV)(v:AV)(an:Hp)(aH:Nat):Prop:=
 ∀(m:Mp) (S:Nat->Prop) (w:yk) (args:Array yh),aT O m S w hp ct->aB O.ab m S w aq args.toList->Cx O.P (O.ab n) args w (Bb O m S w hp ct v an aH)
section
variable {ab:Nat->Nat}{m m':Mp}{S S':Nat->Prop}{w w':yk}
mutual
def sR(hS:∀b,S b->S' b)(hw:gh S w w'):∀(v:AV) (u:yh),aV v=ydo->ae ab m S w v u->ae ab m' S' w' v u
 | .int _ _,_,_,h | .bool _,_,_,h | .ao _ _,_,_,h | .df _ _ _,_,_,h | .str _,_,_,h | .kL,_,_,h | .af,_,_,h | .ir,_,_,h | .jw,_,_,h | .undef,_,_,h=>by
  simpa only[ae] using h
 | .ptr id o,u,hp,h=>by simp[aV] at hp
 | .bt cs,u,hp,h=>by
  simp only[ae] at h ⊢;obtain⟨b,o,h1,h2,h3,h4⟩:=h;refine⟨b,o,h1,h2.imp id (hS b),h3,?_⟩;rcases h2 with rfl | h2
  .simp only [bR]
  .exact SN hS hw cs b o h3 h2 h4
 | .ap ex n cs,u,hp,h=>by
  simp only[ae] at h ⊢;rcases h with ⟨b,o,c,h1,h2,h3,h4,h5,h6⟩ | h
  .refine .inl ⟨b,o,c,h1,h2,h3,h4.imp id (hS b),h5,?_⟩;rcases h4 with rfl | h4
   .simp only [bR]
   .exact SN hS hw cs b o h5 h4 h6
  .exact .inr h
 | .cM _ _ _ _,u,hp,h=>by simp[aV] at hp
 | .ay id o n,u,hp,h=>by simp[aV] at hp
 | .fn (.f g) first cap,u,hp,h=>by
  simp only[ae] at h ⊢;simp only[aV,ye] at hp;obtain⟨fi,ca,h1,h2,h3⟩:=h;exact⟨fi,ca,h1,A7 hS hw first _ hp.1 h2,A7 hS hw cap _ hp.2 h3⟩
 | .fn (.y l) _ _,u,hp,h=>by simp[aV] at hp
 | .map id,u,hp,h=>by simp[aV] at hp
 | .jx ks vs,u,hp,h=>by
  simp only[ae] at h ⊢;obtain⟨b,es,clock,h1,h2,h3,h4,h5,h6,h7⟩:=h;exact⟨b,es,clock,h1,hS b h2,h3,h4,(hw b h2).trans h5,A7 hS hw ks _ h3 h6,A7 hS hw vs _ h4 h7⟩
 | .it id,u,hp,h=>by simp[aV] at hp
 | .agg cs,u,hp,h=>by
  simp only[ae] at h ⊢;simp only[aV] at hp;obtain⟨xs,h1,h2⟩:=h;exact⟨xs,h1,A7 hS hw cs _ hp h2⟩
 | .aw cs,u,hp,h=>by
  simp only[ae] at h ⊢;simp only[aV] at hp;obtain⟨xs,h1,h2⟩:=h;exact⟨xs,h1,A7 hS hw cs _ hp h2⟩
def A7(hS:∀b,S b->S' b)(hw:gh S w w'):∀(vs:List AV) (us:List yh),aE vs=ydo->aB ab m S w vs us->aB ab m' S' w' vs us
 | [],us,_,h=>by simpa only[aB] using h
 | v::r,us,hp,h=>by
  simp only[aB] at h ⊢;simp only[aE,ye] at hp;have⟨u,t,h1,h2,h3⟩:=h;exact⟨u,t,h1,sR hS hw v u hp.1 h2,A7 hS hw r t hp.2 h3⟩
def SN(hS:∀b,S b->S' b)(hw:gh S w w'):∀(cs:List AV) (b o:Nat),aE cs=ydo->S b->bR ab m S w cs b o->bR ab m' S' w' cs b o
 | [],_,_,_,_,_=>by simp only[bR]
 | c::cs,b,o,hp,hb,h=>by
  simp only[bR] at h ⊢;simp only[aE,ye] at hp;have⟨⟨u,h1,h2⟩,h3⟩:=h;exact⟨⟨u,(Np (hw b hb)).trans h1,sR hS hw c u hp.1 h2⟩,SN hS hw cs b (o+1) hp.2 hb h3⟩
end
def Ci(hS:∀b,S b->S' b)(hw:gh S w w'):∀(cs:List AV) (b o:Nat),aE cs=ydo->w'.heap[b]? =w.heap[b]? ->bR ab m S w cs b o->bR ab m' S' w' cs b o
 | [],_,_,_,_,_=>by simp only[bR]
 | c::cs,b,o,hp,hb,h=>by
  simp only[aE,ye] at hp;have⟨⟨u,h1,h2⟩,h3⟩:=h;exact⟨⟨u,(Np hb).trans h1,sR hS hw c u hp.1 h2⟩,Ci hS hw cs b (o+1) hp.2 hb h3⟩
end
section
variable {O:bq}{m:Mp}{S S':Nat->Prop}{w w':yk}{hp:Hp}{ct:Nat}
def amc(hh:aT O m S w hp ct)(hw:Calm w w'):gh S w w':=fun b hb=>hw.same b (hh.slt b hb)
def Co(hh:aT O m S w hp ct)(hw:Calm w w')(hS:∀b,S b->S' b)(hn:∀b,S' b->S b\/w.heap.size<=b)(hl:∀b,S' b->b<w'.heap.size):aT O m S' w' hp ct where
 obj id o p ho hm:=zT (fun _ _ h=>h) hS (amc hh hw) (fun q hq=>hw.same _ (hh.blt id q hq)) (fun q hq hs=>(hn _ hs).resolve_right (by have:=hh.blt id q hq;lia)) (hh.obj id o p ho hm)
 lt:=hh.lt
 inj:=hh.inj
 slt:=hl
 blt id p h:=yG (hh.blt id p h) hw.size
 low:=hh.low
 mW b hb:=(hw.same b (yG hb hh.gH)).trans (hh.mW b hb)
 gH:=xu hh.gH hw.size
 aM:=hh.aM
def Be{base:Nat}(hh:aT O m S w hp ct)(hw:Calm w w')(hS:∀b,S b->S' b)(hn:∀b,S' b->S b\/w.heap.size<=b):cg m S w hp m S' w' hp base where
 os:=hw.os
 tape:=hw.tape
 output:=hw.output
 size:=hw.size
 same b hb _:=hw.same b hb
 sub:=hS
 still b hb:=hw.same b (hh.slt b hb)
 new b hb:=(hn b hb).imp id .inr
 own b hb:=.inl hb
 old _ _ _ h:=h
 loops b r hb:=⟨r,(hw.same b (xE.1 hb).1).trans hb⟩
def an5{i:Nat}(hh:aT O m S w hp ct)(hi:m i=F6)(HO:i<ct){p:Pl}(hb:p.b<w.heap.size)(aZ:O.w0.heap.size<=p.b)(HP:¬S p.b)(qP:∀j q,m j=F5 q->q.b≠p.b)(hf:∀o,ak hp i=F5 o->(fk O (fL m i p) S w i o/\¬jq o)\/(jq o/\fk O (fL m i p) (fun b=>S b\/b=p.b) w i o)):
  ∃S',aT O (fL m i p) S' w hp ct/\(∀b,S b->S' b)/\∀b,S' b->S b\/b=p.b:=by
 have aR:gh S w w:=fun _ _=>rfl
 have gen:∀S':Nat->Prop,(∀b,S b->S' b)->(∀b,S' b->S b\/b=p.b)->(∀o,ak hp i=F5 o->fk O (fL m i p) S' w i o)->aT O (fL m i p) S' w hp ct:=by
  intro S' h1 h2 h3;refine⟨?_,?_,?_,?_,?_,?_,hh.mW,hh.gH,hh.aM⟩
  .intro id o q ho hm;by_cases hc:id=i
   .grind
   .rw [eB hc] at hm;refine zT (jM hi) h1 aR (fun _ _=>rfl) (fun q' bL hs=>?_) (hh.obj id o q ho hm)
    grind
  .intro id q hm;by_cases hc:id=i
   .grind
   .rw [eB hc] at hm;exact hh.lt id q hm
  .intro a b oa ob pa pb ha bI Fw BC e;by_cases ca:a=i
   .by_cases cb:b=i
    .grind
    .subst ca;rw[dI] at Fw;rw[eB cb] at BC
     grind
   .rw [eB ca] at Fw;by_cases cb:b=i
    .subst cb;rw[dI] at BC
     grind
    .rw [eB cb] at BC;exact hh.inj a b oa ob pa pb ha bI Fw BC e
  .intro b hs;rcases h2 b hs with h | h
   .exact hh.slt b h
   .grind
  .intro id q hm;by_cases hc:id=i
   .subst hc;rw[dI] at hm
    grind
   .rw [eB hc] at hm;exact hh.blt id q hm
  .intro id q hm;by_cases hc:id=i
   .subst hc;rw[dI] at hm
    grind
   .rw [eB hc] at hm;exact hh.low id q hm
 cases ho:ak hp i with
 | none=>exact⟨S,gen S (fun _ h=>h) (fun _ h=>.inl h) (fun o h=>by rw[ho] at h;cases h),fun _ h=>h,fun _ h=>.inl h⟩
 | some o=>
  rcases hf o ho with ⟨h1,_⟩ | ⟨_,h1⟩
  .exact ⟨S,gen S (fun _ h=>h) (fun _ h=>.inl h) (fun o' h=>by rw[ho] at h;injection h with h;subst h;exact h1),fun _ h=>h,fun _ h=>.inl h⟩
  .exact ⟨_,gen (fun b=>S b\/b=p.b) (fun _ h=>.inl h) (fun _ h=>h) (fun o' h=>by rw[ho] at h;injection h with h;subst h;exact h1),fun _ h=>.inl h,fun _ h=>h⟩
def aaw(h:jA ab S w lo r u bs)(m:Mp)(hS:∀b,S b->S' b)(hbs:∀b,b∈bs->S' b):ae ab m S' w (bJ r) u:=by
 have aR:gh S w w:=fun _ _=>rfl
 cases r with
 | cM ex sz n cs=>
  obtain⟨b,o,c,arr,t,rfl,rfl,h1,h2,h3,h4,h5,h6,h7,h8,h9⟩:=h;exact .inl ⟨b,o,c,rfl,h1,h2,.inr (hbs b (by simp)),h9,Ci hS aR cs b o h9 rfl h8⟩
 | _=>simp only[jA] at h;exact sR hS aR _ _ h.2.2 h.2.1
def aax{ab:Nat->Nat}{lo:Nat}(m:Mp)(hS:∀b,S b->S' b):∀{vs:List AV} {us:List yh} {bs:List Nat},mz ab S w lo vs us bs->(∀b,b∈bs->S' b)->aB ab m S' w (EM vs) us
 | [],us,bs,h,_=>by simp only[mz] at h;exact h.1
 | v::r,us,bs,h,hb=>by
  obtain⟨u,t,b1,b2,rfl,rfl,h1,h2⟩:=h;exact⟨u,t,rfl,aaw h1 m hS (fun b bI=>hb b (by simp[bI])),aax m hS h2 (fun b bI=>hb b (by simp[bI]))⟩
def Uk(h:jA ab S w lo r u bs):∀b,b∈bs->lo<=b/\b<w.heap.size:=by
 intro b hb
 cases r with
 | cM ex sz n cs=>
  simp only[jA] at h
  grind
 | _=>simp only[jA] at h;rw[h.1] at hb;cases hb
def Ul{ab:Nat->Nat}{lo:Nat}:∀{vs:List AV} {us:List yh} {bs:List Nat},mz ab S w lo vs us bs->∀b,b∈bs->lo<=b/\b<w.heap.size
 | [],us,bs,h,b,hb=>by simp only[mz] at h;rw[h.2] at hb;cases hb
 | v::r,us,bs,h,b,hb=>by
  obtain⟨u,t,b1,b2,rfl,rfl,h1,h2⟩:=h;rcases wD.1 hb with hb | hb
  .exact Uk h1 b hb
  .exact Ul h2 b hb
def aay(h:qh ab S w lo r u)(m:Mp):∃S',(∀b,S b->S' b)/\(∀b,S' b->S b\/(lo<=b/\b<w.heap.size))/\ae ab m S' w (shut r) u:=by
 have one:∀(r:AV) (bs:List Nat),shut r=bJ r->jA ab S w lo r u bs->∃S',(∀b,S b->S' b)/\(∀b,S' b->S b\/(lo<=b/\b<w.heap.size))/\ae ab m S' w (shut r) u:=by
  intro r bs hs h;refine⟨fun b=>S b\/b∈bs,fun _ h=>.inl h,fun b hb=>hb.imp (fun x=>x) (fun hb=>Uk h b hb),?_⟩;rw[hs];exact aaw h m (fun _ h=>.inl h) (fun _ h=>.inr h)
 cases r with
 | aw vs=>
  obtain⟨us,bs,rfl,h1,h2⟩:=h;refine⟨fun b=>S b\/b∈bs,fun _ h=>.inl h,fun b hb=>hb.imp (fun x=>x) (fun hb=>Ul h1 b hb),?_⟩;exact⟨us,rfl,aax m (fun _ h=>.inl h) h1 (fun _ h=>.inr h)⟩
 | _=>
  have⟨bs,h⟩:=h;exact one _ bs rfl h
end
end
end
section
open Go
section
variable {r:AV}{hp:Hp}{ct:Nat}
section
variable {O:bq}{m:Mp}{S:Nat->Prop}{w:yk}{H:Hp}{cH:Nat}
def Ow:ct<=(fK hp ct r).2.2:=by
 cases r<;>simp only[fK]<;>lia
def Ox:∀{vs:List AV} {hp:Hp} {ct:Nat},ct<=(lj hp ct vs).2.2
 | [],hp,ct=>by simp[lj]
 | v::r,hp,ct=>by
  simp only[lj];have h1:=Ow (hp:=hp) (ct:=ct) (r:=v);have h2:=Ox (vs:=r) (hp:=(fK hp ct v).2.1) (ct:=(fK hp ct v).2.2)
  lia
def Um(hf:∀id o,ak hp id=F5 o->id<ct):∀id o,ak hp id=F5 o->ak (fK hp ct r).2.1 id=F5 o:=by
 intro id o h;cases r<;>simp only[fK]<;>try exact h
 rw[fF,yp (by have:=hf id o h;lia)]
 exact h
def acT{lo:Nat}{u:yh}{bs:List Nat}(hh:aT O m S w H cH)(hl:cR (fK hp ct r).2.1 H)(fw:(fK hp ct r).2.2<=cH)(hn:∀id,ct<=id->id<(fK hp ct r).2.2->m id=F6)(hr:jA O.ab S w lo r u bs)(aZ:O.w0.heap.size<=lo)(qP:∀j q,m j=F5 q->q.b∉bs):
  ∃m' S',aT O m' S' w H cH/\di m m'/\(∀id p,m' id=F5 p->m id=F5 p\/(ct<=id/\id<(fK hp ct r).2.2/\p.b∈bs))/\ae O.ab m' S' w (fK hp ct r).1 u/\(∀b,S b->S' b)/\(∀b,S' b->S b\/b∈bs):=by
 have aR:gh S w w:=fun _ _=>rfl
 cases r with
 | cM ex sz n cs=>
  simp only[fK] at hl fw hn;obtain⟨b,o,c,arr,t,rfl,rfl,h1,h2,h3,h4,h5,h6,h7,h8,h9⟩:=hr;have bG:m ct=F6:=hn ct (yx _) (Nat.lt_succ_self _);have ayZ:b<w.heap.size:=(xE.1 h5).1;have qO:fk O (fL m ct ⟨b,o,c*sz,sz⟩) S w ct (.cells ydo ydo ex sz cs):=by
   refine⟨_,arr,t,dI,h5,rfl,?_,h7,fun hx=>?_,Ci (fun _ h=>h) aR cs b o h9 rfl h8,fun _=>h9,fun _=>h4,by simp⟩
   .show cs.length<=c*sz
    rw[h6];exact yT _ h1
   .grind
  have⟨S',k1,k2,k3⟩:=an5 (p:=⟨b,o,c*sz,sz⟩) hh bG (by lia) ayZ (by show _<=b;lia) h4 (fun j q hq e=>qP j q hq (by rw[e];simp)) (fun o' jF=>by
   have⟨Xw,g1,g2⟩:=hl ct (.cells ydo ydo ex sz cs) (by rw[fF];simp)
   rw[jF] at g1;injection g1 with g1
   subst g1
   exact Sz (p:=⟨b,o,c*sz,sz⟩) g2 dI qO (by simp[jq]))
  refine⟨_,S',k1,jM bG,fun id p an=>?_,?_,k2,fun b' bI=>(k3 b' bI).imp (fun h=>h) (fun h=>by rw[h];simp)⟩
  .by_cases hc:id=ct
   .subst hc;rw[dI] at an;injection an with an
    subst an;exact .inr ⟨yx _,by simp[fK],by simp⟩
   .rw [eB hc] at an;exact .inl an
  .simp only [fK,ae];exact⟨_,c,dI,by simp,h1,by simp⟩
 | _=>
  exact⟨m,S,hh,di.refl,fun _ _ h=>.inl h,sR (fun _ h=>h) aR _ _ hr.2.2 hr.2.1,fun _ h=>h,fun _ h=>.inl h⟩
def JV(hf:∀id o,ak hp id=F5 o->id<ct):∀id o,ak (fK hp ct r).2.1 id=F5 o->id<(fK hp ct r).2.2:=by
 intro id o h;cases r<;>simp only[fK] at h ⊢<;>try exact hf id o h
 rw[fF] at h
 grind
def Oy:∀{vs:List AV} {hp:Hp} {ct:Nat},(∀id o,ak hp id=F5 o->id<ct)->∀id o,ak hp id=F5 o->ak (lj hp ct vs).2.1 id=F5 o
 | [],hp,ct,_,id,o,h=>by simpa[lj] using h
 | v::r,hp,ct,hf,id,o,h=>by
  exact Oy (JV hf) id o (Um hf id o h)
def acU{lo:Nat}(aZ:O.w0.heap.size<=lo):∀{vs:List AV} {us:List yh} {bs:List Nat} {hp:Hp} {ct:Nat} {m:Mp} {S:Nat->Prop},aT O m S w H cH->cR (lj hp ct vs).2.1 H->(lj hp ct vs).2.2<=cH->
  (∀id o,ak hp id=F5 o->id<ct)->(∀id,ct<=id->id<(lj hp ct vs).2.2->m id=F6)->
  mz O.ab S w lo vs us bs->bs.Nodup->(∀j q,m j=F5 q->q.b∉bs)->
  ∃m' S',aT O m' S' w H cH/\di m m'/\(∀id p,m' id=F5 p->m id=F5 p\/(ct<=id/\id<(lj hp ct vs).2.2/\p.b∈bs))/\aB O.ab m' S' w (lj hp ct vs).1 us/\(∀b,S b->S' b)/\(∀b,S' b->S b\/b∈bs)
 | [],us,bs,hp,ct,m,S,hh,hl,fw,hf,hn,hr,mC,qP=>by
  simp only[mz] at hr;exact⟨m,S,hh,di.refl,fun _ _ h=>.inl h,by simp only[lj,aB];exact hr.1,fun _ h=>h,fun _ h=>.inl h⟩
 | v::r,us,bs,hp,ct,m,S,hh,hl,fw,hf,hn,hr,mC,qP=>by
  simp only[mz] at hr;obtain⟨u,t,b1,b2,rfl,rfl,h1,h2⟩:=hr;simp only[lj] at hl fw hn ⊢;have eQ:=Ow (hp:=hp) (ct:=ct) (r:=v);have Du:=Ox (vs:=r) (hp:=(fK hp ct v).2.1) (ct:=(fK hp ct v).2.2);rw[List.nodup_append] at mC;have⟨m1,S1,k1,k2,k3,k4,k5,k6⟩:=acT (hp:=hp) (ct:=ct) (lo:=lo) hh ((fun id o h=>hl id o (Oy (JV hf) id o h))) (by lia) (fun id g1 g2=>hn id g1 (by lia)) h1 aZ
   (fun j q hq hb=>qP j q hq (by simp[hb]))
  have h2':mz O.ab S1 w lo r t b2:=by
   clear k4;have VV:∀b,S1 b->S b\/b∈b1:=k6;have hd:∀b,b∈b2->b∉b1:=fun b hb fV=>mC.2.2 b fV b hb rfl
   have one:∀{v:AV} {u:yh} {bb:List Nat},(∀b,b∈bb->b∉b1)->jA O.ab S w lo v u bb->jA O.ab S1 w lo v u bb:=by
    intro v u bb AJ h
    cases v with
    | cM ex sz n cs=>
     simp only[jA] at h ⊢;obtain⟨b,o,c,arr,tt,rfl,rfl,g1,g2,g3,g4,g5,g6,g7,g8,g9⟩:=h;exact⟨b,o,c,arr,tt,rfl,rfl,g1,g2,g3,fun hs=>(VV b hs).elim g4 (AJ b (by simp)),g5,g6,g7,Ci k5 (fun _ _=>rfl) cs b o g9 rfl g8,g9⟩
    | _=>simp only[jA] at h ⊢;exact⟨h.1,sR k5 (fun _ _=>rfl) _ _ h.2.2 h.2.1,h.2.2⟩
   clear k1 k2 k3 hl fw hn qP mC;revert hd h2;generalize b2=bb
   induction r generalizing t bb with
   | nil=>intro h2 hd;simpa only[mz] using h2
   | cons v' r ih=>
    intro h2 hd;simp only[mz] at h2 ⊢;obtain⟨u',t',c1,c2,rfl,rfl,g1,g2⟩:=h2
    exact⟨u',t',c1,c2,rfl,rfl,one (fun b hb=>hd b (by simp[hb])) g1,ih _ (by
     have:=Ox (vs:=r) (hp:=(fK hp ct v).2.1) (ct:=(fK hp ct v).2.2)
     exact this) _ g2 (fun b hb=>hd b (by simp[hb]))⟩
  have⟨m2,S2,g1,g2,g3,g4,g5,g6⟩:=acU aZ (vs:=r) (us:=t) (bs:=b2) (m:=m1) (S:=S1) k1 hl fw (JV hf) (fun id q1 q2=>by
   cases hq:m1 id with
   | none=>rfl
   | some p=>
    rcases k3 id p hq with h | ⟨_,h,_⟩
    .rw [hn id (by lia) q2] at h;cases h
    .lia) h2' mC.2.1 (fun j q hq hb=>by
     rcases k3 j q hq with h | ⟨_,_,h⟩
     .exact qP j q h (by simp[hb])
     .exact mC.2.2 q.b h q.b hb rfl)
  refine⟨m2,S2,g1,k2.trans g2,fun id p an=>?_,?_,fun b hb=>g5 b (k5 b hb),fun b hb=>?_⟩
  .rcases g3 id p an with h | ⟨a1,a2,a3⟩
   .rcases k3 id p h with h | ⟨a1,a2,a3⟩
    .exact .inl h
    .exact .inr ⟨a1,by lia,by simp[a3]⟩
   .exact .inr ⟨by lia,a2,by simp[a3]⟩
  .simp only [aB];exact⟨u,t,rfl,mN g2 g5 (fun _ _=>rfl) _ _ k4,g4⟩
  .rcases g6 b hb with h | h
   .exact (k6 b h).imp (fun h=>h) (fun h=>by simp[h])
   .exact .inr (by simp[h])
def asZ{lo:Nat}{u:yh}(hh:aT O m S w H cH)(hl:cR (own hp ct r).2.1 H)(fw:(own hp ct r).2.2<=cH)(hf:∀id o,ak hp id=F5 o->id<ct)(hn:∀id,ct<=id->id<(own hp ct r).2.2->m id=F6)(hr:qh O.ab S w lo r u)(aZ:O.w0.heap.size<=lo)(Mr:∀j q,m j=F5 q->q.b<lo):
  ∃m' S',aT O m' S' w H cH/\di m m'/\(∀id p,m' id=F5 p->m id=F5 p\/(ct<=id/\id<(own hp ct r).2.2/\lo<=p.b))/\ae O.ab m' S' w (own hp ct r).1 u/\(∀b,S b->S' b)/\(∀b,S' b->S b\/lo<=b):=by
 have one:∀(r:AV) (bs:List Nat),own hp ct r=fK hp ct r->jA O.ab S w lo r u bs->cR (own hp ct r).2.1 H->(own hp ct r).2.2<=cH->(∀id,ct<=id->id<(own hp ct r).2.2->m id=F6)->
   ∃m' S',aT O m' S' w H cH/\di m m'/\(∀id p,m' id=F5 p->m id=F5 p\/(ct<=id/\id<(own hp ct r).2.2/\lo<=p.b))/\ae O.ab m' S' w (own hp ct r).1 u/\(∀b,S b->S' b)/\(∀b,S' b->S b\/lo<=b):=by
  intro r bs he hr hl fw hn;rw[he] at hl fw hn ⊢;have E2:=Uk hr;have⟨m',S',k1,k2,k3,k4,k5,k6⟩:=acT hh hl fw hn hr aZ (fun j q hq hb=>by have:=Mr j q hq;have:=(E2 _ hb).1;lia)
  exact⟨m',S',k1,k2,fun id p h=>(k3 id p h).imp (fun h=>h) (fun h=>⟨h.1,h.2.1,(E2 _ h.2.2).1⟩),k4,k5,fun b hb=>(k6 b hb).imp (fun h=>h) (fun h=>(E2 _ h).1)⟩
 cases r with
 | aw vs=>
  simp only[own] at hl fw hn ⊢;simp only[qh] at hr;obtain⟨us,bs,rfl,h1,h2⟩:=hr;have E2:=Ul h1;have⟨m',S',k1,k2,k3,k4,k5,k6⟩:=acU aZ hh hl fw hf hn h1 h2 (fun j q hq hb=>by have:=Mr j q hq;have:=(E2 _ hb).1;lia)
  exact⟨m',S',k1,k2,fun id p h=>(k3 id p h).imp (fun h=>h) (fun h=>⟨h.1,h.2.1,(E2 _ h.2.2).1⟩),by simp only[ae];exact⟨us,rfl,k4⟩,k5,fun b hb=>(k6 b hb).imp (fun h=>h) (fun h=>(E2 _ h).1)⟩
 | _=>
  simp only[qh] at hr;have⟨bs,hr⟩:=hr;exact one _ bs rfl hr hl fw hn
end
end
end
end VE
