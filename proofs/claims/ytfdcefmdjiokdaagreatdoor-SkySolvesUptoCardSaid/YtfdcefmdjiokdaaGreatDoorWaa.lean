import GoSem.Core.Code
import GoSem.Core.Float
import GoSem.Core.Utf8
import Derived.CallsIn
import Derived.Laws.World
import GoSem.Op.Equal
import GoSem.Core.Region
import Derived.Below
import Derived.Laws.AppendOwn
import Derived.Laws.Rows
import Derived.WalkKit
import Derived.Laws.CopyRow
import Derived.Laws.Cells
import Derived.Laws.Strings
import Derived.Lib.Strings
import Derived.WideLaws
import Derived.Maps.Keyed
import Derived.ChangeKeysEq
import Derived.Laws.Tables
import Derived.IntWalk
import Derived.Laws.CopyOwn
import Derived.RangeFuncLeaves
set_option linter.all false
set_option maxRecDepth 100000
open Array renaming getElem?_eq_some_iff->xT,length_toList->vZ,range->tA
open BitVec renaming ofInt->wC
open Bool renaming and_assoc->yao,and_eq_true->yj,eq_iff_iff->yad,false_eq_true->yH,not_eq_true'->tn
open Go renaming Addr->uM,BinOp->vL,Call->yaG,Code->vG,Ending->yag,Field->tE,FloatKind->uJ,FuncId->tL,IntKind->xh,Loop->uW,MapEntry->tc,Next->yau,Obj->yaf,Oper->xk,Operand->xN,Program->xM,RoundIn->yby,TypeDesc->vM,TypeId->yL,TypeInfo->ycL,UnOp->ycy,Value->yr,World->yt,binOp->wT,sizeOf->vU
open Go.Utf8 renaming runeError->uN,valid->ybw
open List renaming append_assoc->xu,cons_append->xC,drop_drop->vP,eq_nil_of_length_eq_zero->yu,ext_getElem?->ybl,flatten_append->vD,flatten_cons->wq,getElem?_append_left->wQ,getElem?_append_right->wB,getElem?_drop->ybc,getElem?_eq_getElem->xz,getElem?_map->ybj,getElem?_take_of_lt->ta,getElem?_toArray->yaL,length_append->yE,length_cons->yB,length_drop->xZ,length_take->yJ,map_cons->yS,map_eq_nil_iff->yaS,mem_append->wm,range->wO,replicate->ye,replicate_succ->wG,size_toArray->tO,take_of_length_le->yq,take_succ_cons->wS,take_zero->vC
open Nat renaming add_assoc->tM,add_mul->xU,add_zero->xg,beq->yG,beq_eq->ycJ,beq_refl->vd,ble->yO,ble_eq->ycK,blt->yU,eq_of_beq_eq_true->yz,eq_of_mul_eq_mul_right->yav,eq_zero_or_pos->xE,le_of_ble_eq_true->yF,le_refl->ym,le_trans->xB,lt_of_lt_of_le->yT,min_le_left->ybK,mul_comm->xY,mul_le_mul_right->yR,one_mul->ybX,testBit->tz,zero_add->yd
open Option renaming isSome_none->tJ,map_none->uG,map_some->vn
open Option.some renaming injEq->yc
open Prod.mk renaming injEq->yD
open UInt8 renaming toNat->xp,toNat_inj->ybx
open Option renaming some->Ix,none->Iy
open Bool renaming true->ycO,false->ycP
def vv:=@and_true
def yaJ:=@beq_self_eq_true
def y5:=@cond_false
def yN:=@cond_true
def xn:=@decide_eq_false
def vT:=@decide_eq_false_iff_not
def xG:=@decide_eq_true
def wN:=@decide_eq_true_eq
def yp:=@decide_false
def yo:=@decide_true
def ycp:=@false_or
def xr:=@if_false
def yx:=@if_neg
def yK:=@if_pos
def xL:=@if_true
def ybY:=@ne_eq
def yaC:=@not_false_eq_true
def tB:=@not_true_eq_false
def tZ:=@true_and
namespace VE
variable{ex rw:Bool}{x:Int}{bs ks:List Nat}{AN base bc by' cap ct d jZ kk sz:Nat}{S S':Nat->Prop}
section
open Go (IntKind FloatKind BinOp UnOp)
inductive Fr where
 | f (n:Nat)
 | y (l:Nat)
 deriving DecidableEq,Inhabited
inductive AV where
 | int (k:xh) (n:Int)
 | bool (b:Bool)
 | dP (k:uJ) (bits:Nat)
 | str (s:List Nat)
 | oY
 | ptr (id off:Nat)
 | aQ (cells:List AV)
 | ae
 | aF (ex:Bool) (n:Nat) (cells:List AV)
 | bR (ex:Bool) (sz n:Nat) (cells:List AV)
 | av (id off n:Nat)
 | fn (f:Fr) (first cap:List AV)
 | kZ
 | nD
 | map (id:Nat)
 | nE (ks vs:List AV)
 | it (id:Nat)
 | agg (cells:List AV)
 | ax (vs:List AV)
 | undef
 deriving Inhabited
inductive X where
 | t (i:Nat)
 | c (v:AV)
 deriving Inhabited
inductive Conv where
 | toInt (k:xh)
 | toFlt (k:uJ)
 | str
 deriving Inhabited
inductive Md where
 | pure | own | heap | dyn
 deriving Inhabited
inductive Cut where
 | str
 | sl (sz:Nat)
 | ar (len sz:Nat)
 deriving Inhabited
inductive VF where
 | b | sl | fn | ag (ks:List Nat)
 deriving Inhabited
inductive Op where
 | A0 (x:X)
 | pick (c a b:X)
 | box (sz:Nat) (x:X)
 | EA (zero:List AV) (parts:List (Nat×Nat×X))
 | sD (n sz:Nat) (zero:List AV) (parts:List (Nat×Nat×X))
 | ld (sz:Nat) (ag:Bool) (x:X)
 | st (sz:Nat) (x v:X)
 | Oz (x:X)
 | bin (op:vL) (x y:X)
 | eq (ne:Bool) (k:VF) (x y:X)
 | un (op:ycy) (x:X)
 | cv (k:Conv) (x:X)
 | KC (f:Fr) (first cap:List X)
 | Du
 | sM (sz bytes:Nat) (zero:List AV) (len cap:X)
 | Aa (k:Cut) (x:X) (lo hi:Option X)
 | off (k:Nat) (x:X)
 | PF (o sz:Nat) (ag:Bool) (x:X)
 | aT (sz:Nat) (x i:X)
 | KD (len sz:Nat) (x i:X)
 | KE (x i:X)
 | Dv (len sz:Nat) (ag:Bool) (x i:X)
 | PG (kk:Nat) (zero:AV) (ok:Bool) (m k:X)
 | sN (kk:Nat) (m k v:X)
 | Ab (x:X)
 | Ac (x:X)
 | ext (i:Nat) (x:X)
 | call (m:Md) (f:X) (xs:List X)
 | lY (rs:List (Nat×Bool×Nat)) (f:X) (xs:List X)
 | oA (rs:List (Nat×Bool×Nat)) (sz:Nat) (x v:X)
 | kD (sz bytes:Nat) (s x:X)
 | rK (sz:Nat) (d s:X)
 | len (k:Nat) (x:X)
 | mn (xs:List X)
 | mx (xs:List X)
 deriving Inhabited
structure bk where
 dst:Option Nat
 guard:Option (Nat×Bool)
 op:Op
 deriving Inhabited
inductive VC where
 | skip
 | oB (ops:List bk)
 | seq (a b:VC)
 | cond (x:X) (a b:VC)
 | jj (id:Nat) (a:VC)
 | kp (live:List Nat)
 | fz (ts:List Nat)
 | loop (live:List Nat) (a:VC)
 | rf (f:X) (ps:List Nat) (assign body:VC)
 | exit (id:Nat)
 | ret
 deriving Inhabited
inductive RV where
 | t (i:Nat)
 | cell (i sz:Nat) (ag:Bool)
 deriving Inhabited
structure aw where
 eG:List RV
 body:VC
 deriving Inhabited
inductive C9 where
 | none | ret | exit (id:Nat)
 deriving Inhabited,DecidableEq
abbrev Env:=List (Nat×AV)
inductive Obj where
 | cells (rw pu ex:Bool) (sz:Nat) (cs:List AV)
 | mp (rw:Bool) (ks vs:List AV)
 | si (s:List Nat) (pos:Nat)
 | lp (tm:Env) (ps:List Nat) (assign body:VC) (state:Nat) (pending:C9)
 deriving Inhabited
abbrev Hp:=List (Nat×Obj)
structure St where
 tm:Env
 hp:Hp
 ct:Nat
 base:Nat
 deriving Inhabited
inductive Ex where
 | normal
 | ret
 | exit (id:Nat)
 deriving Inhabited,DecidableEq
def ab:Env->Nat->AV
 | [],_=>.undef
 | (j,v)::r,i=>bif yG j i then v else ab r i
def au:Hp->Nat->Option Obj
 | [],_=>Iy
 | (j,o)::r,i=>bif yG j i then Ix o else au r i
def aV:Hp->Nat->Obj->Hp
 | [],_,_=>[]
 | (j,o)::r,i,u=>bif yG j i then (j,u)::r else (j,o)::aV r i u
def eJ:Hp->Nat->Hp
 | [],_=>[]
 | (j,o)::r,i=>bif yG j i then eJ r i else (j,o)::eJ r i
mutual
def aP:AV->Bool
 | .ptr _ _ | .av _ _ _ | .map _ | .it _ | .bR _ _ _ _=>ycP
 | .fn (.y _) _ _=>ycP
 | .fn (.f _) first cap=>aD first&&aD cap
 | .agg cs=>aD cs
 | .ax vs=>aD vs
 | _=>ycO
def aD:List AV->Bool
 | []=>ycO
 | v::r=>aP v&&aD r
end
def cellsOf:AV->List AV
 | .agg cs=>cs
 | v=>[v]
def bF:AV->Bool
 | .agg _ | .ax _ | .undef | .bR _ _ _ _=>ycP
 | _=>ycO
def bP:List AV->Bool
 | []=>ycO
 | v::r=>bF v&&bP r
def aC(tm:Env):X->AV
 | .t i=>ab tm i
 | .c v=>v
def dU(tm:Env):List X->List AV
 | []=>[]
 | x::r=>aC tm x::dU tm r
def slice(o n:Nat)(cs:List AV):List AV:=(cs.drop o).take n
def over(o:Nat)(new cs:List AV):List AV:=cs.take o++new++cs.drop (o+new.length)
mutual
def freeze:Nat->Hp->AV->Option (AV×Hp)
 | 0,_,_=>Iy
 | n+1,hp,v=>
  match v with
  | .av id o k=>
   match Au n hp id with
   | some (ex,sz,cs,aq)=>
    bif yO (o+k*sz) cs.length then
     Ix (.aF (ex&&yU 0 sz&&yG (o+k*sz) cs.length) k (slice o (k*sz) cs),aq)
    else Iy
   | none=>Iy
  | .ptr id o=>
   match Au n hp id with
   | some (_,_,cs,aq)=>Ix (.aQ (cs.drop o),aq)
   | none=>Iy
  | .map id=>
   match au hp id with
   | some (.mp _ ks vs)=>bif aD ks&&aD vs then Ix (.nE ks vs,aV hp id (.mp ycP ks vs)) else Iy
   | _=>Iy
  | .fn (.f g) first cap=>
   match cm n hp first with
   | some (ajl,bm)=>
    match cm n bm cap with
    | some (Ug,ff)=>Ix (.fn (.f g) ajl Ug,ff)
    | none=>Iy
   | none=>Iy
  | .agg cs=>match cm n hp cs with | some (ej,aq)=>Ix (.agg ej,aq) | none=>Iy
  | .ax cs=>match cm n hp cs with | some (ej,aq)=>Ix (.ax ej,aq) | none=>Iy
  | v=>bif aP v then Ix (v,hp) else Iy
def Au:Nat->Hp->Nat->Option (Bool×Nat×List AV×Hp)
 | 0,_,_=>Iy
 | n+1,hp,id=>
  match au hp id with
  | some (.cells rw pu ex sz cs)=>
   bif pu then Ix (ex,sz,cs,bif rw then aV hp id (.cells ycP ycO ex sz cs) else hp)
   else match cm n hp cs with
    | some (ej,aq)=>Ix (ex,sz,ej,aV aq id (.cells ycP ycP ex sz cs))
    | none=>Iy
  | _=>Iy
def cm:Nat->Hp->List AV->Option (List AV×Hp)
 | 0,_,_=>Iy
 | _+1,hp,[]=>Ix ([],hp)
 | n+1,hp,v::r=>
  match freeze n hp v with
  | some (v',bm)=>
   match cm n bm r with
   | some (r',ff)=>Ix (v'::r',ff)
   | none=>Iy
  | none=>Iy
end
def AE(n:Nat)(hp:Hp)(v:AV):Option (AV×Hp):=
 match v with
 | .av id o k=>
  match au hp id with
  | some (.cells ycO ycO ex sz cs)=>
   bif yO (o+k*sz) cs.length then
    Ix (.bR (ex&&yU 0 sz&&yG (o+k*sz) cs.length) sz k (slice o (k*sz) cs),eJ hp id)
   else Iy
  | _=>freeze n hp v
 | _=>freeze n hp v
def I6:List AV->Option (List Nat)
 | []=>Ix []
 | .av id _ _::r=>match I6 r with | some l=>bif l.any (yG id) then Iy else Ix (id::l) | none=>Iy
 | v::r=>bif aP v then I6 r else Iy
def CG(n:Nat):Hp->List AV->Option (List AV×Hp)
 | hp,[]=>Ix ([],hp)
 | hp,v::r=>
  match AE n hp v with
  | some (v',bm)=>match CG n bm r with | some (r',ff)=>Ix (v'::r',ff) | none=>Iy
  | none=>Iy
def deep:Nat:=1000
def result(hp:Hp)(v:AV):Option AV:=
 match v with
 | .ax vs=>
  match I6 vs with
  | some _=>match CG deep hp vs with | some (eM,_)=>Ix (.ax eM) | none=>Iy
  | none=>match freeze deep hp v with | some (v',_)=>Ix v' | none=>Iy
 | v=>match AE deep hp v with | some (v',_)=>Ix v' | none=>Iy
def cd:AV->AV
 | .bR ex _ n cs=>.aF ex n cs
 | v=>v
def G0:List AV->List AV
 | []=>[]
 | v::r=>cd v::G0 r
def shut:AV->AV
 | .bR ex _ n cs=>.aF ex n cs
 | .ax vs=>.ax (G0 vs)
 | v=>v
def gS(hp:Hp)(ct:Nat):AV->AV×Hp×Nat
 | .bR ex sz n cs=>(.av ct 0 n,(ct,.cells ycO ycO ex sz cs)::hp,ct+1)
 | v=>(v,hp,ct)
def mL:Hp->Nat->List AV->List AV×Hp×Nat
 | hp,ct,[]=>([],hp,ct)
 | hp,ct,v::r=>((gS hp ct v).1::(mL (gS hp ct v).2.1 (gS hp ct v).2.2 r).1,(mL (gS hp ct v).2.1 (gS hp ct v).2.2 r).2)
def own(hp:Hp)(ct:Nat):AV->AV×Hp×Nat
 | .ax vs=>(.ax (mL hp ct vs).1,(mL hp ct vs).2)
 | v=>gS hp ct v
mutual
def refs:AV->List Nat
 | .ptr id _=>[id]
 | .av id _ _=>[id]
 | .map id=>[id]
 | .it id=>[id]
 | .fn (.f _) first cap=>iF first++iF cap
 | .fn (.y l) _ _=>[l]
 | .agg cs=>iF cs
 | .ax cs=>iF cs
 | _=>[]
def iF:List AV->List Nat
 | []=>[]
 | v::r=>refs v++iF r
end
def gY:Env->List Nat
 | []=>[]
 | (_,v)::r=>refs v++gY r
def lZ:Obj->List Nat
 | .cells _ pu _ _ cs=>bif pu then [] else iF cs
 | .mp _ ks vs=>iF ks++iF vs
 | .si _ _=>[]
 | .lp tm _ _ _ _ _=>gY tm
mutual
def cg(f:Nat->Option Nat):AV->AV
 | .ptr id o=>match f id with | some j=>.ptr j o | none=>.undef
 | .av id o n=>match f id with | some j=>.av j o n | none=>.undef
 | .map id=>match f id with | some j=>.map j | none=>.undef
 | .it id=>match f id with | some j=>.it j | none=>.undef
 | .fn (.f g) first cap=>.fn (.f g) (fo f first) (fo f cap)
 | .fn (.y l) first cap=>match f l with | some j=>.fn (.y j) (fo f first) (fo f cap) | none=>.undef
 | .agg cs=>.agg (fo f cs)
 | .ax cs=>.ax (fo f cs)
 | v=>v
def fo(f:Nat->Option Nat):List AV->List AV
 | []=>[]
 | v::r=>cg f v::fo f r
end
def je(f:Nat->Option Nat):Env->Env
 | []=>[]
 | (i,v)::r=>(i,cg f v)::je f r
def jY(f:Nat->Option Nat):Obj->Obj
 | .cells rw pu ex sz cs=>.cells rw pu ex sz (bif pu then cs else fo f cs)
 | .mp rw ks vs=>.mp rw (fo f ks) (fo f vs)
 | .si s pos=>.si s pos
 | .lp tm ps cX body st pe=>.lp (je f tm) ps cX body st pe
def cT(tm:Env):List Nat->Env
 | []=>[]
 | i::r=>(i,ab tm i)::cT tm r
def me(i:Nat):List Nat->Bool
 | []=>ycP
 | j::r=>bif yG j i then ycO else me i r
def reach(hp:Hp)(base:Nat):Nat->List Nat->List Nat->List Nat
 | 0,_,seen=>seen
 | _+1,[],seen=>seen
 | n+1,id::iq,seen=>
  bif yU id base||me id seen then reach hp base n iq seen
  else match au hp id with
   | some o=>reach hp base n (lZ o++iq) (seen++[id])
   | none=>reach hp base n iq seen
def lK(base:Nat):Hp->List Nat
 | []=>[]
 | (id,o)::r=>bif yU id base then lZ o++lK base r else lK base r
def fG(i:Nat):List Nat->Nat->Option Nat
 | [],_=>Iy
 | j::r,k=>bif yG j i then Ix k else fG i r (k+1)
def nZ(base:Nat)(seen:List Nat)(id:Nat):Option Nat:=bif yU id base then Ix id else fG id seen base
def p9(base:Nat)(f:Nat->Option Nat):Hp->Hp
 | []=>[]
 | (id,o)::r=>bif yU id base then (id,jY f o)::p9 base f r else p9 base f r
def js(hp:Hp)(f:Nat->Option Nat):List Nat->Nat->Hp->Hp
 | [],_,acc=>acc
 | id::r,k,acc=>match au hp id with | some o=>js hp f r (k+1) ((k,jY f o)::acc) | none=>js hp f r (k+1) acc
def bW(live:List Nat)(s:St):St:=
 let tm:=cT s.tm live
 let seen:=reach s.hp s.base 100000 (gY tm++lK s.base s.hp) []
 let f:=nZ s.base seen
 {tm:=je f tm,hp:=js s.hp f seen s.base (p9 s.base f s.hp),ct:=s.base+seen.length,base:=s.base}
def nT(hp:Hp)(sz:Nat):AV->Option (Nat×List AV)
 | .ae=>Ix (0,[])
 | .aF _ n cs=>bif yG cs.length (n*sz) then Ix (n,cs) else Iy
 | .av id o n=>
  match au hp id with
  | some (.cells _ _ _ _ cs)=>bif yO (o+n*sz) cs.length then Ix (n,slice o (n*sz) cs) else Iy
  | _=>Iy
 | _=>Iy
def Sn:List Nat->List AV
 | []=>[]
 | b::r=>.int .u8 b::Sn r
def Fo:List Nat->List Nat->Bool
 | _,[]=>ycP
 | [],_::_=>ycO
 | a::x,b::y=>yU a b||(yG a b&&Fo x y)
def cU:List Nat->List Nat->Bool
 | [],[]=>ycO
 | a::x,b::y=>yG a b&&cU x y
 | _,_=>ycP
def eU:List Nat->List AV->List AV->Option Bool
 | [],[],[]=>Ix ycO
 | 0::ks,.bool a::x,.bool b::y=>match eU ks x y with | some r=>Ix ((a==b)&&r) | none=>Iy
 | 1::ks,.int k a::x,.int k' b::y=>if k=k' then (match eU ks x y with | some r=>Ix ((a==b)&&r) | none=>Iy) else Iy
 | 2::ks,.str a::x,.str b::y=>match eU ks x y with | some r=>Ix (cU a b&&r) | none=>Iy
 | _,_,_=>Iy
def mf:VF->AV->AV->Option Bool
 | .b,.bool a,.bool b=>Ix (a==b)
 | .sl,.ae,.ae=>Ix ycO
 | .sl,.ae,.aF _ _ _=>Ix ycP
 | .sl,.ae,.av _ _ _=>Ix ycP
 | .sl,.aF _ _ _,.ae=>Ix ycP
 | .sl,.av _ _ _,.ae=>Ix ycP
 | .fn,.kZ,.kZ=>Ix ycO
 | .fn,.kZ,.fn _ _ _=>Ix ycP
 | .fn,.fn _ _ _,.kZ=>Ix ycP
 | .ag ks,.agg a,.agg b=>eU ks a b
 | _,_,_=>Iy
def intCmp(op:vL)(x y:Int):Option Bool:=
 match op with
 | .eql=>Ix (x==y)
 | .neq=>Ix (x !=y)
 | .lss=>Ix (decide (x<y))
 | .leq=>Ix (decide (x<=y))
 | .gtr=>Ix (decide (x>y))
 | .geq=>Ix (decide (x>=y))
 | _=>Iy
def oU(op:vL)(k:xh)(x y:Int):Option AV:=
 match op with
 | .add=>Ix (.int k (k.wrap (x+y)))
 | .sub=>Ix (.int k (k.wrap (x-y)))
 | .mul=>Ix (.int k (k.wrap (x*y)))
 | .quo=>if y=0 then Iy else Ix (.int k (k.wrap (x.tdiv y)))
 | .rem=>if y=0 then Iy else Ix (.int k (x.tmod y))
 | .and=>Ix (.int k (k.wrap (wC k.bits x&&&wC k.bits y).toNat))
 | .or=>Ix (.int k (k.wrap (wC k.bits x|||wC k.bits y).toNat))
 | .xor=>Ix (.int k (k.wrap (wC k.bits x^^^wC k.bits y).toNat))
 | .andNot=>Ix (.int k (k.wrap (wC k.bits x&&&~~~(wC k.bits y)).toNat))
 | .shl | .shr=>Iy
 | op=>match intCmp op x y with | some b=>Ix (.bool b) | none=>Iy
def Gl(op:vL)(k:xh)(x y:Int):Option AV:=
 if y<0 then Iy else
 match op with
 | .shl=>Ix (.int k (k.wrap (x*2^(min y.toNat k.bits))))
 | .shr=>Ix (.int k (x.fdiv (2^(min y.toNat k.bits))))
 | _=>Iy
def N6(op:vL)(x y:List Nat):Option AV:=
 match op with
 | .add=>bif yO (x.length+y.length) 9223372036854775807 then Ix (.str (x++y)) else Iy
 | .eql=>Ix (.bool (cU x y))
 | .neq=>Ix (.bool (!cU x y))
 | .lss=>Ix (.bool (Fo x y))
 | .leq=>Ix (.bool (Fo x y||cU x y))
 | .gtr=>Ix (.bool (!(Fo x y||cU x y)))
 | .geq=>Ix (.bool (!Fo x y))
 | _=>Iy
def ZT(op:vL)(k:uJ)(x y:Nat):Option AV:=
 let c:=k.format.order x y
 let ar (r:Option Nat):Option AV:=match r with | some b=>Ix (.dP k b) | none=>Iy
 match op with
 | .add=>ar (k.format.add x y)
 | .sub=>ar (k.format.sub x y)
 | .mul=>ar (k.format.mul x y)
 | .quo=>ar (k.format.div x y)
 | .eql=>Ix (.bool (c==Ix .eq))
 | .neq=>Ix (.bool (c !=Ix .eq))
 | .lss=>Ix (.bool (c==Ix .lt))
 | .leq=>Ix (.bool (c==Ix .lt||c==Ix .eq))
 | .gtr=>Ix (.bool (c==Ix .gt))
 | .geq=>Ix (.bool (c==Ix .gt||c==Ix .eq))
 | _=>Iy
def binOp(op:vL)(x y:AV):Option AV:=
 match x,y with
 | .int k a,.int k' b=>
  match op with
  | .shl | .shr=>Gl op k a b
  | _=>if k=k' then oU op k a b else Iy
 | .dP k a,.dP k' b=>if k=k' then ZT op k a b else Iy
 | .str a,.str b=>N6 op a b
 | _,_=>Iy
def unOp(op:ycy)(x:AV):Option AV:=
 match op,x with
 | .neg,.int k n=>Ix (.int k (k.wrap (0-n)))
 | .xor,.int k n=>oU .xor k (if k.signed then -1 else k.max) n
 | .not,.bool b=>Ix (.bool !b)
 | .neg,.dP k b=>Ix (.dP k (b^^^2^(k.format.exponentBits+k.format.fractionBits)))
 | _,_=>Iy
def zR(c:Conv)(x:AV):Option AV:=
 match c,x with
 | .toInt k,.int _ n=>Ix (.int k (k.wrap n))
 | .toFlt k,.int _ n=>Ix (.dP k (k.nearest n))
 | .toInt k,.dP s b=>
  match (s.decode b).toInt .zero with
  | some n=>if k.min<=n/\n<=k.max then Ix (.int k n) else Iy
  | none=>Iy
 | .toFlt k,.dP s b=>
  if s=k then Ix (.dP k b) else
  match s.decode b with
  | .number sg m e=>if (k.decode (k.encode (.number sg m e))).isInfinity then Iy else Ix (.dP k (k.encode (.number sg m e)))
  | _=>Iy
 | .str,.str s=>Ix (.str s)
 | _,_=>Iy
def gJ(sz:Nat)(ag:Bool)(cs:List AV):Option AV:=
 bif ag then (bif yO sz cs.length then Ix (.agg (cs.take sz)) else Iy)
 else match cs with | v::_=>Ix v | []=>Iy
def dM(x:AV):Option Nat:=
 match x with
 | .int _ n=>match n with | .ofNat k=>Ix k | .negSucc _=>Iy
 | _=>Iy
def cS(tm:Env)(d:Nat):Option X->Option Nat
 | none=>Ix d
 | some x=>dM (aC tm x)
def gI(hp:Hp)(k:Cut)(x:AV)(tm:Env)(lo hi:Option X):Option AV:=
 match k,x with
 | .str,.str s=>
  match cS tm 0 lo,cS tm s.length hi with
  | some l,Ix h=>bif yO l h&&yO h s.length then Ix (.str ((s.take h).drop l)) else Iy
  | _,_=>Iy
 | .sl _,.ae=>
  match cS tm 0 lo,cS tm 0 hi with
  | some 0,Ix 0=>Ix .ae
  | _,_=>Iy
 | .sl sz,.aF ex n cs=>
  match cS tm 0 lo,cS tm n hi with
  | some l,Ix h=>bif yO l h&&yO h n then Ix (.aF (ex&&yG h n) (h-l) (slice (l*sz) ((h-l)*sz) cs)) else Iy
  | _,_=>Iy
 | .sl sz,.av id o n=>
  match au hp id with
  | some (.cells _ _ _ z _)=>
   match cS tm 0 lo,cS tm n hi with
   | some l,Ix h=>
    bif yO l h&&yO h n&&yG z sz then
     bif yG l h&& !yG l 0 then Ix (.aF ycP 0 []) else Ix (.av id (o+l*sz) (h-l))
    else Iy
   | _,_=>Iy
  | _=>Iy
 | _,_=>Iy
def fill(tm:Env):List AV->List (Nat×Nat×X)->Option (List AV)
 | cs,[]=>Ix cs
 | cs,(o,sz,x)::r=>
  let new:=cellsOf (aC tm x)
  bif yG new.length sz&&yO (o+sz) cs.length&&bP new then fill tm (over o new cs) r else Iy
def BL:AV->AV->Option Bool
 | .int k a,.int k' b=>if k=k' then Ix (a==b) else Iy
 | .str a,.str b=>Ix (cU a b)
 | .bool a,.bool b=>Ix (a==b)
 | _,_=>Iy
def AA:Nat->AV->Bool
 | 0,.bool _=>ycO
 | 1,.int _ _=>ycO
 | 2,.str _=>ycO
 | _,_=>ycP
def BM(k:AV):List AV->List AV->Option (Option AV)
 | [],_=>Ix Iy
 | k'::ks,v::vs=>match BL k k' with | some ycO=>Ix (Ix v) | some ycP=>BM k ks vs | none=>Iy
 | _::_,[]=>Iy
def AM(k v:AV):List AV->List AV->Option (List AV×List AV)
 | [],[]=>Ix ([k],[v])
 | k'::ks,u::us=>
  match BL k k' with
  | some ycO=>Ix (k'::ks,v::us)
  | some ycP=>match AM k v ks us with | some (kE,PH)=>Ix (k'::kE,u::PH) | none=>Iy
  | none=>Iy
 | _,_=>Iy
def min2:AV->AV->Option AV
 | .int k x,.int _ y=>Ix (.int k (if y<x then y else x))
 | .dP k x,.dP _ y=>
  match k.format.order x y with
  | none=>Iy
  | some .lt=>Ix (.dP k x)
  | some .gt=>Ix (.dP k y)
  | some .eq=>Ix (.dP k (if (k.decode x).neg then x else y))
 | _,_=>Iy
def max2:AV->AV->Option AV
 | .int k x,.int _ y=>Ix (.int k (if y>x then y else x))
 | .dP k x,.dP _ y=>
  match k.format.order x y with
  | none=>Iy
  | some .lt=>Ix (.dP k y)
  | some .gt=>Ix (.dP k x)
  | some .eq=>Ix (.dP k (if (k.decode x).neg then y else x))
 | _,_=>Iy
def EB(f:AV->AV->Option AV):AV->List AV->Option AV
 | a,[]=>Ix a
 | a,b::r=>match f a b with | some c=>EB f c r | none=>Iy
def room:Nat:=1099511627776
abbrev iS:=Option (AV×Hp×Nat)
def jx(hp:Hp)(sz:Nat)(ag:Bool):AV->Option AV
 | .ptr id o=>match au hp id with | some (.cells _ _ _ _ cs)=>gJ sz ag (cs.drop o) | _=>Iy
 | .aQ cs=>gJ sz ag cs
 | _=>Iy
def JB(k:Nat):AV->Option AV
 | .ptr id o=>Ix (.ptr id (o+k))
 | .aQ cs=>bif yO k cs.length then Ix (.aQ (cs.drop k)) else Iy
 | _=>Iy
def Tk(o sz:Nat)(ag:Bool):AV->Option AV
 | .agg cs=>gJ sz ag (cs.drop o)
 | _=>Iy
def iZ(sz i:Nat):AV->Option AV
 | .av id o n=>bif yU i n then Ix (.ptr id (o+i*sz)) else Iy
 | .aF _ n cs=>bif yU i n then Ix (.aQ (cs.drop (i*sz))) else Iy
 | _=>Iy
def Tl(len sz i:Nat):AV->Option AV
 | .ptr id o=>bif yU i len then Ix (.ptr id (o+i*sz)) else Iy
 | .aQ cs=>bif yU i len then Ix (.aQ (cs.drop (i*sz))) else Iy
 | _=>Iy
def rm(i:Nat):AV->Option AV
 | .str s=>match s[i]? with | some b=>Ix (.int .u8 b) | none=>Iy
 | _=>Iy
def N7(len sz:Nat)(ag:Bool)(i:Nat):AV->Option AV
 | .agg cs=>bif yU i len then gJ sz ag (cs.drop (i*sz)) else Iy
 | _=>Iy
def oc(hp:Hp)(k:AV):AV->Option (Option AV)
 | .nD=>Ix Iy
 | .map id=>match au hp id with | some (.mp _ ks vs)=>BM k ks vs | _=>Iy
 | .nE ks vs=>BM k ks vs
 | _=>Iy
def fu(hp:Hp):Nat->AV->Option AV
 | 0,.str s=>Ix (.int .i64 s.length)
 | 1,.ae=>Ix (.int .i64 0)
 | 1,.aF _ n _=>Ix (.int .i64 n)
 | 1,.av _ _ n=>Ix (.int .i64 n)
 | 2,.nD=>Ix (.int .i64 0)
 | 2,.nE ks _=>Ix (.int .i64 ks.length)
 | 2,.map id=>match au hp id with | some (.mp _ ks _)=>Ix (.int .i64 ks.length) | _=>Iy
 | _,_=>Iy
def bB(tm:Env)(hp:Hp):Op->Option AV
 | .A0 x=>Ix (aC tm x)
 | .pick c a b=>match aC tm c with | .bool t=>Ix (bif t then aC tm a else aC tm b) | _=>Iy
 | .EA zero parts=>match fill tm zero parts with | some cs=>Ix (.agg cs) | none=>Iy
 | .ld sz ag x=>jx hp sz ag (aC tm x)
 | .Oz x=>
  match aC tm x with
  | .ptr id o=>Ix (.ptr id o)
  | .aQ cs=>Ix (.aQ cs)
  | .fn f a b=>Ix (.fn f a b)
  | _=>Iy
 | .bin op x y=>binOp op (aC tm x) (aC tm y)
 | .eq ne k x y=>match mf k (aC tm x) (aC tm y) with | some r=>Ix (.bool (ne !=r)) | none=>Iy
 | .un op x=>unOp op (aC tm x)
 | .cv k x=>zR k (aC tm x)
 | .KC f first cap=>Ix (.fn f (dU tm first) (dU tm cap))
 | .Aa k x lo hi=>gI hp k (aC tm x) tm lo hi
 | .off k x=>JB k (aC tm x)
 | .PF o sz ag x=>Tk o sz ag (aC tm x)
 | .aT sz x i=>match dM (aC tm i) with | some j=>iZ sz j (aC tm x) | none=>Iy
 | .KD len sz x i=>match dM (aC tm i) with | some j=>Tl len sz j (aC tm x) | none=>Iy
 | .KE x i=>match dM (aC tm i) with | some j=>rm j (aC tm x) | none=>Iy
 | .Dv len sz ag x i=>match dM (aC tm i) with | some j=>N7 len sz ag j (aC tm x) | none=>Iy
 | .PG kk zero ok m k=>
  bif AA kk (aC tm k) then
   match oc hp (aC tm k) (aC tm m) with
   | some (Ix v)=>Ix (bif ok then .ax [v,.bool ycO] else v)
   | some Iy=>Ix (bif ok then .ax [zero,.bool ycP] else zero)
   | none=>Iy
  else Iy
 | .ext i x=>match aC tm x with | .ax vs=>vs[i]? | _=>Iy
 | .len k x=>fu hp k (aC tm x)
 | .mn xs=>match dU tm xs with | a::r=>EB min2 a r | []=>Iy
 | .mx xs=>match dU tm xs with | a::r=>EB max2 a r | []=>Iy
 | _=>Iy
def dh(tm:Env)(hp:Hp)(ct:Nat):Op->Option (AV×Obj)
 | .box sz x=>
  let cs:=cellsOf (aC tm x)
  bif yG cs.length sz&&bP cs then Ix (.ptr ct 0,.cells ycO (aD cs) ycO sz cs) else Iy
 | .sD n sz zero parts=>
  match fill tm zero parts with
  | some cs=>bif yG cs.length (n*sz) then Ix (.av ct 0 n,.cells ycO (aD cs) ycO sz cs) else Iy
  | none=>Iy
 | .sM sz bytes zero len cap=>
  match dM (aC tm len),dM (aC tm cap) with
  | some l,Ix c=>
   bif yO l c&&(yO c room&&(yO (c*bytes) room&&(yG zero.length sz&&bP zero))) then
    Ix (.av ct 0 l,.cells ycO (aD zero) (yG l c) sz (ye l zero).flatten)
   else Iy
  | _,_=>Iy
 | .Du=>Ix (.map ct,.mp ycO [] [])
 | .Ab x=>match aC tm x with | .str s=>Ix (.it ct,.si s 0) | _=>Iy
 | _=>Iy
def decodeL(s:List Nat)(i:Nat):Nat×Nat:=
 let at' (k:Nat):Nat:=s.getD (i+k) 0
 let cont (k:Nat):Bool:=decide (i+k<s.length)&&at' k/64==2
 let b0:=at' 0
 if b0<0x80 then (b0,1)
 else if b0/32==6&&cont 1 then
  let c:=(b0%32)*64+at' 1%64
  if c>=0x80 then (c,2) else (uN,1)
 else if b0/16==14&&cont 1&&cont 2 then
  let c:=(b0%16)*4096+(at' 1%64)*64+at' 2%64
  if c>=0x800&&ybw c then (c,3) else (uN,1)
 else if b0/8==30&&cont 1&&cont 2&&cont 3 then
  let c:=(b0%8)*262144+(at' 1%64)*4096+(at' 2%64)*64+at' 3%64
  if c>=0x10000&&ybw c then (c,4) else (uN,1)
 else (uN,1)
def Bz(hp:Hp)(sz:Nat):AV->Option (Nat×List AV)
 | .str b=>bif yG sz 1 then Ix (b.length,Sn b) else Iy
 | v=>nT hp sz v
def du(tm:Env)(hp:Hp)(ct:Nat):Op->iS
 | .st sz x v=>
  let new:=cellsOf (aC tm v)
  match aC tm x with
  | .ptr id o=>
   match au hp id with
   | some (.cells ycO pu ex z cs)=>
    bif yG new.length sz&&yO (o+sz) cs.length&&bP new then
     Ix (.ax [],aV hp id (.cells ycO (pu&&aD new) ex z (over o new cs)),ct)
    else Iy
   | _=>Iy
  | _=>Iy
 | .sN kk m k v=>
  match aC tm m with
  | .map id=>
   match au hp id with
   | some (.mp ycO ks vs)=>bif !AA kk (aC tm k) then Iy else match AM (aC tm k) (aC tm v) ks vs with | some (kE,eM)=>Ix (.ax [],aV hp id (.mp ycO kE eM),ct) | none=>Iy
   | _=>Iy
  | _=>Iy
 | .Ac x=>
  match aC tm x with
  | .it id=>
   match au hp id with
   | some (.si s pos)=>
    bif yU pos s.length then
     match decodeL s pos with
     | (c,wd)=>Ix (.ax [.bool ycO,.int .i64 pos,.int .i32 c],aV hp id (.si s (pos+wd)),ct)
    else Ix (.ax [.bool ycP],hp,ct)
   | _=>Iy
  | _=>Iy
 | .kD sz bytes s x=>
  match Bz hp sz (aC tm x) with
  | none=>Iy
  | some (m,new)=>
   match aC tm s with
   | .ae=>
    bif yG m 0 then Ix (.ae,hp,ct)
    else bif yO m room&&(yO (m*bytes) room&&yU 0 sz) then Ix (.av ct 0 m,(ct,.cells ycO (aD new) ycP sz new)::hp,ct+1) else Iy
   | .aF ycO n cs=>
    bif yG m 0 then Ix (.aF ycO n cs,hp,ct)
    else bif yO (n+m) room&&(yO ((n+m)*bytes) room&&(yG cs.length (n*sz)&&yU 0 sz)) then Ix (.av ct 0 (n+m),(ct,.cells ycO (aD cs&&aD new) ycP sz (cs++new))::hp,ct+1) else Iy
   | .av id o n=>
    match au hp id with
    | some (.cells ycO pu _ z cs)=>
     bif yG z sz&&(yO (n+m) room&&(yO ((n+m)*bytes) room&&(yO (o+n*sz) cs.length&&(yU 0 sz&&bP new)))) then
      Ix (.av ct 0 (n+m),(ct,.cells ycO (pu&&aD new) ycP sz (slice o (n*sz) cs++new))::eJ hp id,ct+1)
     else Iy
    | _=>Iy
   | _=>Iy
 | .rK sz d s=>
  match nT hp sz (aC tm s),aC tm d with
  | some (m,new),.av id o n=>
   match au hp id with
   | some (.cells ycO pu ex z cs)=>
    bif yG z sz&&(yO (o+n*sz) cs.length&&bP new) then
     Ix (.int .i64 (min m n:Nat),aV hp id (.cells ycO (pu&&aD new) ex z (over o (new.take (min m n*sz)) cs)),ct)
    else Iy
   | _=>Iy
  | _,_=>Iy
 | _=>Iy
def mG:X->List Nat | .t i=>[i] | .c _=>[]
def CQ:List X->List Nat
 | []=>[]
 | x::r=>mG x++CQ r
def N8:Option X->List Nat | some x=>mG x | none=>[]
def N9:List (Nat×Nat×X)->List Nat
 | []=>[]
 | (_,_,x)::r=>mG x++N9 r
def nX:Op->List Nat
 | .A0 x | .box _ x | .ld _ _ x | .Oz x | .un _ x | .cv _ x | .off _ x | .PF _ _ _ x | .Ab x | .Ac x | .ext _ x | .len _ x=>mG x
 | .pick a b c | .sN _ a b c=>mG a++(mG b++mG c)
 | .EA _ ps | .sD _ _ _ ps=>N9 ps
 | .st _ a b | .bin _ a b | .eq _ _ a b | .aT _ a b | .KD _ _ a b | .KE a b | .Dv _ _ _ a b | .PG _ _ _ a b | .kD _ _ a b | .rK _ a b=>mG a++mG b
 | .KC _ a b=>CQ a++CQ b
 | .Du=>[]
 | .sM _ _ _ a b=>mG a++mG b
 | .Aa _ x a b=>mG x++(N8 a++N8 b)
 | .call _ f xs=>mG f++CQ xs
 | .lY _ f xs=>mG f++CQ xs
 | .oA _ _ a b=>mG a++mG b
 | .mn xs | .mx xs=>CQ xs
def bG:Op->Nat
 | .A0 _ | .pick _ _ _ | .EA _ _ | .Oz _ | .bin _ _ _ | .eq _ _ _ _ | .un _ _ | .cv _ _ | .KC _ _ _ | .off _ _ | .PF _ _ _ _ | .aT _ _ _ | .KD _ _ _ _ | .KE _ _ | .Dv _ _ _ _ _ | .ext _ _ | .mn _ | .mx _=>0
 | .Aa .str _ _ _ | .len 0 _ | .len 1 _=>0
 | .st _ _ _ | .sN _ _ _ _ | .Ac _ | .kD _ _ _ _ | .rK _ _ _ | .lY _ _ _ | .oA _ _ _ _ | .call .heap _ _ | .call .dyn _ _=>2
 | _=>1
def ZU:Option (Nat×Bool)->List Nat | some (t,_)=>[t] | none=>[]
def Gv(o:bk):List Nat:=ZU o.guard++nX o.op
def JS(d:Option Nat)(l:List Nat):Bool:=match d with | some i=>me i l | none=>ycP
def aj4(d e:Option Nat):Bool:=match d,e with | some i,Ix j=>yG i j | _,_=>ycP
def RQ(a b:bk):Bool:=JS a.dst (Gv b)||JS b.dst (Gv a)||aj4 a.dst b.dst
def JT(sz:Nat)(ag:Bool)(t:Nat):List (Nat×Bool×Nat)->Bool
 | []=>ycP
 | (s,g,u)::r=>(yG s sz&&(g==ag&&yG u t))||JT sz ag t r
def JC(t:Nat):List bk->Bool
 | []=>ycO
 | o::r=> !JS o.dst [t]&&JC t r
def Nb(a b:bk)(r:List bk):Bool:=
 match a.guard,a.op,b.op with
 | none,.ld sz ag (.t t),.lY rs _ _=>JT sz ag t rs&&JC t (a::r)
 | none,.ld sz ag (.t t),.oA rs _ _ _=>JT sz ag t rs&&JC t (a::r)
 | _,_,_=>ycP
def MM(a b:bk):Bool:=
 match bG a.op,bG b.op with
 | 1,2 | 2,1 | 2,2=>ycO
 | _,_=>ycP
def RR(m:Nat)(b:bk):List bk->Nat->Bool
 | [],_=>ycO
 | a::r,i=>(tz m i|| !(RQ a b||(MM a b&& !Nb a b r)))&&RR m b r (i+1)
def IW(done:List bk):List bk->List Nat->Bool
 | [],_=>ycO
 | b::r,m::ms=>RR m b done 0&&IW (done++[b]) r ms
 | _::_,[]=>ycP
def So(m:Nat):List bk->Nat->List (Nat×Bool×Nat)
 | [],_=>[]
 | a::r,i=>
  match tz m i,a with
  | false,⟨_,Iy,.ld sz ag (.t t)⟩=>(sz,ag,t)::So m r (i+1)
  | _,_=>So m r (i+1)
def stOp(rs:List (Nat×Bool×Nat))(sz:Nat)(x v:X):Op:=match rs with | []=>.st sz x v | rs=>.oA rs sz x v
def CY(done:List bk):List bk->List Nat->List bk
 | ⟨d,g,.lY _ f xs⟩::r,m::ms=>let o:bk:=⟨d,g,.lY (So m done 0) f xs⟩;o::CY (done++[o]) r ms
 | ⟨d,g,.st sz x v⟩::r,m::ms=>let o:bk:=⟨d,g,stOp (So m done 0) sz x v⟩;o::CY (done++[o]) r ms
 | o::r,_::ms=>o::CY (done++[o]) r ms
 | l,_=>l
abbrev aJ:=Nat->Option aw
structure Lib where
 pure:Nat->Option (List AV->Option AV)
 heap:Nat->Option (Hp->Nat->List AV->iS)
abbrev cG:=VC->St->Option (Ex×St)
def fY:Nat->List AV->Env
 | _,[]=>[]
 | i,v::r=>(i,v)::fY (i+1) r
def results1(s:St):RV->Option AV
 | .t i=>Ix (ab s.tm i)
 | .cell i sz ag=>
  match ab s.tm i with
  | .ptr id o=>match au s.hp id with | some (.cells _ _ _ _ cs)=>gJ sz ag (cs.drop o) | _=>Iy
  | .aQ cs=>gJ sz ag cs
  | _=>Iy
def oQ(s:St):List RV->Option (List AV)
 | []=>Ix []
 | r::rest=>match results1 s r,oQ s rest with | some v,Ix vs=>Ix (v::vs) | _,_=>Iy
def kJ(s:St)(rs:List RV):Option AV:=
 match oQ s rs with
 | some [v]=>Ix v
 | some vs=>Ix (.ax vs)
 | none=>Iy
def bM(P:aJ)(L:Lib)(self:cG)(n:Nat)(az:List AV):Option AV:=
 match L.pure n with
 | some sp=>sp az
 | none=>
  match P n with
  | none=>Iy
  | some F=>
   match self F.body ⟨fY 0 az,[],0,0⟩ with
   | some (.normal,s) | some (.ret,s)=>match kJ s F.eG with | some v=>result s.hp v | none=>Iy
   | _=>Iy
def Zk:Ex->C9
 | .normal=>.none
 | .ret=>.ret
 | .exit id=>.exit id
def BA:Env->List Nat->List AV->Option Env
 | tm,[],[]=>Ix tm
 | tm,p::ps,v::vs=>BA ((p,v)::tm) ps vs
 | _,_,_=>Iy
def kN(P:aJ)(L:Lib)(self:cG)(hp:Hp)(ct:Nat)(n:Nat)(az:List AV):iS:=
 match L.heap n with
 | some sp=>sp hp ct az
 | none=>
  match P n with
  | none=>Iy
  | some F=>
   match self F.body ⟨fY 0 az,hp,ct,ct⟩ with
   | some (.normal,s) | some (.ret,s)=>match kJ s F.eG with | some v=>Ix (v,s.hp,s.ct) | none=>Iy
   | _=>Iy
def se(self:cG)(hp:Hp)(ct:Nat)(l:Nat)(xs:List AV):iS:=
 match au hp l with
 | some (.lp tm ps cX body 0 _)=>
  match BA tm ps xs with
  | none=>Iy
  | some tm'=>
   match self cX ⟨tm',hp,ct,ct⟩ with
   | some (.normal,s1)=>
    match au s1.hp l with
    | some (.lp mi HJ Fp G1 0 Dw)=>
     match self body ⟨s1.tm,aV s1.hp l (.lp mi HJ Fp G1 1 Dw),s1.ct,s1.ct⟩ with
     | some (ex,s2)=>
      match au s2.hp l with
      | some (.lp A1 PI PJ Oa 1 _)=>
       match ex with
       | .normal=>Ix (.bool ycO,aV s2.hp l (.lp A1 PI PJ Oa 0 .none),s2.ct)
       | ex=>Ix (.bool ycP,aV s2.hp l (.lp A1 PI PJ Oa 2 (Zk ex)),s2.ct)
      | _=>Iy
     | none=>Iy
    | _=>Iy
   | _=>Iy
 | _=>Iy
def fP(P:aJ)(L:Lib)(self:cG)(hp:Hp)(ct:Nat)(m:Md)(fv:AV)(xs:List AV):iS:=
 match fv with
 | .fn (.f n) first cap=>
  match m with
  | .pure=>
   match cm deep hp (first++(xs++cap)) with
   | some (az,bm)=>match bM P L self n az with | some r=>Ix (shut r,bm,ct) | none=>Iy
   | none=>Iy
  | .own=>
   match cm deep hp (first++(xs++cap)) with
   | some (az,bm)=>match bM P L self n az with | some r=>Ix (own bm ct r) | none=>Iy
   | none=>Iy
  | .heap=>kN P L self hp ct n (first++(xs++cap))
  | .dyn=>
   bif aD (first++(xs++cap)) then
    match bM P L self n (first++(xs++cap)) with | some r=>Ix (shut r,hp,ct) | none=>Iy
   else kN P L self hp ct n (first++(xs++cap))
 | .fn (.y l) _ _=>
  match m with
  | .heap | .dyn=>se self hp ct l xs
  | _=>Iy
 | _=>Iy
def aax:AV->AV->Bool
 | .int k a,.int k' b=>decide (k=k')&&a==b
 | .bool a,.bool b=>a==b
 | .str a,.str b=>cU a b
 | .ae,.ae=>ycO
 | .oY,.oY=>ycO
 | .ptr i o,.ptr j p=>yG i j&&yG o p
 | .av i o n,.av j p m=>yG i j&&(yG o p&&yG n m)
 | .map i,.map j=>yG i j
 | _,_=>ycP
def Ee(tm:Env)(hp aq:Hp):List (Nat×Bool×Nat)->Bool
 | []=>ycO
 | (sz,ag,x)::r=>
  match jx hp sz ag (ab tm x),jx aq sz ag (ab tm x) with
  | some a,Ix b=>aax a b&&Ee tm hp aq r
  | _,_=>ycP
def zH(tm:Env)(id:Nat):List (Nat×Bool×Nat)->Bool
 | []=>ycO
 | (_,_,x)::r=>(match ab tm x with | .ptr j _=> !yG j id | .aQ _=>ycO | _=>ycP)&&zH tm id r
def bq(P:aJ)(L:Lib)(self:cG)(tm:Env)(hp:Hp)(ct:Nat)(o:Op):iS:=
 match o with
 | .call m f xs=>fP P L self hp ct m (aC tm f) (dU tm xs)
 | .lY rs f xs=>
  match fP P L self hp ct .dyn (aC tm f) (dU tm xs) with
  | some (v,aq,bc)=>bif Ee tm hp aq rs then Ix (v,aq,bc) else Iy
  | none=>Iy
 | .oA rs sz x v=>
  match aC tm x with
  | .ptr id _=>bif zH tm id rs then du tm hp ct (.st sz x v) else Iy
  | _=>Iy
 | .st .. | .sN .. | .Ac .. | .kD .. | .rK .. =>du tm hp ct o
 | .box .. | .sD .. | .sM .. | .Du | .Ab .. =>match dh tm hp ct o with | some (v,b)=>Ix (v,(ct,b)::hp,ct+1) | none=>Iy
 | o=>match bB tm hp o with | some v=>Ix (v,hp,ct) | none=>Iy
def put(d:Option Nat)(v:AV)(tm:Env):Env:=
 match d with
 | some i=>(i,v)::tm
 | none=>tm
def eC(P:aJ)(L:Lib)(self:cG):List bk->St->Option St
 | [],s=>Ix s
 | ⟨d,g,o⟩::r,s=>
  let want:=match g with | none=>Ix ycO | some (t,b)=>match ab s.tm t with | .bool c=>Ix (c==b) | .ax []=>Ix ycP | _=>Iy
  match want with
  | some ycO=>
   match bq P L self s.tm s.hp s.ct o with
   | some (v,hp,ct)=>eC P L self r {s with tm:=put d v s.tm,hp:=hp,ct:=ct}
   | none=>Iy
  | some ycP=>eC P L self r {s with tm:=put d (.ax []) s.tm}
  | none=>Iy
def zM:List Nat->St->Option St
 | [],s=>Ix s
 | t::r,s=>
  match freeze deep s.hp (ab s.tm t) with
  | some (v,hp)=>zM r {s with tm:=(t,v)::s.tm,hp:=hp}
  | none=>Iy
def bH(P:aJ)(L:Lib)(self:cG):VC->St->Option (Ex×St)
 | .skip,s=>Ix (.normal,s)
 | .oB ops,s=>match eC P L self ops s with | some s'=>Ix (.normal,s') | none=>Iy
 | .seq a b,s=>
  match bH P L self a s with
  | some (.normal,s1)=>bH P L self b s1
  | r=>r
 | .cond x a b,s=>
  match aC s.tm x with
  | .bool t=>bif t then bH P L self a s else bH P L self b s
  | _=>Iy
 | .jj id a,s=>
  match bH P L self a s with
  | some (.exit j,s1)=>bif yG j id then Ix (.normal,s1) else Ix (.exit j,s1)
  | r=>r
 | .kp live,s=>Ix (.normal,bW live s)
 | .fz ts,s=>match zM ts s with | some s'=>Ix (.normal,s') | none=>Iy
 | .loop live a,s=>
  match bH P L self a (bW live s) with
  | some (.normal,s1)=>self (.loop live a) s1
  | r=>r
 | .rf f ps cX body,s=>
  match aC s.tm f with
  | .fn (.f n) first cap=>
   match L.heap n with
   | some _=>Iy
   | none=>
    match kN P L self ((s.ct,.lp s.tm ps cX body 0 .none)::s.hp) (s.ct+1) n (first++(.fn (.y s.ct) [] []::cap)) with
    | some (_,hp,ct)=>
     match au hp s.ct with
     | some (.lp _ _ _ _ st pe)=>
      bif yG st 1 then Iy else
      match pe with
      | .none=>Ix (.normal,{s with hp:=eJ hp s.ct,ct:=ct})
      | .ret=>Ix (.ret,{s with hp:=eJ hp s.ct,ct:=ct})
      | .exit id=>Ix (.exit id,{s with hp:=eJ hp s.ct,ct:=ct})
     | _=>Iy
    | none=>Iy
  | _=>Iy
 | .exit id,s=>Ix (.exit id,s)
 | .ret,s=>Ix (.ret,s)
def ev(P:aJ)(L:Lib)(n:Nat):cG:=Nat.rec (fun _ _=>Iy) (fun _ ih=>bH P L ih) n
def evF(P:aJ)(L:Lib)(n:Nat)(f:Nat)(az:List AV):Option AV:=bM P L (ev P L n) f az
end
section
open Go
structure Pl where
 b:Nat
 o:Nat
 e:Nat
 z:Nat
abbrev Mp:=Nat->Option Pl
section
variable (ai:Nat->Nat)(m:Mp)(S:Nat->Prop)(w:yt)
mutual
def ak:AV->yr->Prop
 | .int k n,v=>v=.int k n
 | .bool b,v=>v=.bool b
 | .dP k b,v=>v=.float k b
 | .str s,v=>∃t:ByteArray,v=.string t/\t.data.toList.map xp=s
 | .oY,v=>v=.pointer Iy
 | .ptr id o,v=>∃p,m id=Ix p/\v=.pointer (Ix ⟨p.b,p.o+o,Iy⟩)
 | .aQ cs,v=>∃b o,v=.pointer (Ix ⟨b,o,Iy⟩)/\(cs=[]\/S b)/\aD cs=ycO/\cf cs b o
 | .ae,v=>v=.slice Iy 0 0
 | .aF ex n cs,v=>(∃b o c,v=.slice (Ix ⟨b,o,Iy⟩) n c/\n<=c/\(ex=ycO->c=n)/\(cs=[]\/S b)/\aD cs=ycO/\cf cs b o)\/(∃a,v=.slice (Ix a) 0 0/\n=0/\cs=[])
 | .bR _ _ _ _,_=>False
 | .av id o n,v=>∃p c,m id=Ix p/\v=.slice (Ix ⟨p.b,p.o+o,Iy⟩) n c/\n<=c/\o+c*p.z=p.e
 | .fn (.f g) first cap,v=>∃fi ca:Array yr,v=.func (.func (ai g)) fi ca/\aE first fi.toList/\aE cap ca.toList
 | .fn (.y l) _ _,v=>∃p,m l=Ix p/\v=.func (.yield p.b) #[] #[]
 | .kZ,v=>v=.nilFunc
 | .nD,v=>v=.map Iy
 | .map id,v=>∃p,m id=Ix p/\v=.map (Ix p.b)
 | .nE ks vs,v=>∃b es clock,v=.map (Ix b)/\S b/\aD ks=ycO/\aD vs=ycO/\w.heap[b]? =Ix (.map es clock)/\
   aE ks (es.toList.map (·.key))/\aE vs (es.toList.map (·.val))
 | .it id,v=>∃p,m id=Ix p/\v=.pointer (Ix ⟨p.b,0,Iy⟩)
 | .agg cs,v=>∃xs:Array yr,v=.agg xs/\aE cs xs.toList
 | .ax cs,v=>∃xs:Array yr,v=.tuple xs/\aE cs xs.toList
 | .undef,_=>True
def aE:List AV->List yr->Prop
 | [],us=>us=[]
 | c::cs,us=>∃u r,us=u::r/\ak c u/\aE cs r
def cf:List AV->Nat->Nat->Prop
 | [],_,_=>True
 | c::cs,b,o=>(∃u,w.cell? ⟨b,o,Iy⟩=Ix u/\ak c u)/\cf cs b (o+1)
end
end
def iE(S:Nat->Prop)(w w':yt):Prop:=∀b,S b->w'.heap[b]? =w.heap[b]?
def Q8{w w':yt}{b o:Nat}(h:w'.heap[b]? =w.heap[b]?):w'.cell? ⟨b,o,Iy⟩=w.cell? ⟨b,o,Iy⟩:=by
 simp only[World.cell?,h]
section
variable {ai:Nat->Nat}{m m':Mp}{S S':Nat->Prop}{w w':yt}
mutual
def pN(hm:∀id p,m id=Ix p->m' id=Ix p)(hS:∀b,S b->S' b)(hw:iE S w w'):
  ∀(v:AV) (u:yr),ak ai m S w v u->ak ai m' S' w' v u
 | .int _ _,_,h | .bool _,_,h | .dP _ _,_,h | .str _,_,h | .oY,_,h | .ae,_,h | .kZ,_,h | .nD,_,h | .undef,_,h=>by
  simpa only[ak] using h
 | .ptr id o,u,h=>by
  simp only[ak] at h ⊢;have⟨p,h1,h2⟩:=h;exact⟨p,hm _ _ h1,h2⟩
 | .aQ cs,u,h=>by
  simp only[ak] at h ⊢;have⟨b,o,h1,h2,h3,h4⟩:=h;refine⟨b,o,h1,h2.imp id (hS b),h3,?_⟩;rcases h2 with rfl | h2
  .simp only [cf]
  .exact Xl hm hS hw cs b o h2 h4
 | .aF ex n cs,u,h=>by
  simp only[ak] at h ⊢;rcases h with ⟨b,o,c,h1,h2,h3,h4,h5,h6⟩ | h
  .refine .inl ⟨b,o,c,h1,h2,h3,h4.imp id (hS b),h5,?_⟩;rcases h4 with rfl | h4
   .simp only [cf]
   .exact Xl hm hS hw cs b o h4 h6
  .exact .inr h
 | .bR _ _ _ _,u,h=>by simp only[ak] at h
 | .av id o n,u,h=>by
  simp only[ak] at h ⊢;have⟨p,c,h1,h2⟩:=h;exact⟨p,c,hm _ _ h1,h2⟩
 | .fn (.f g) first cap,u,h=>by
  simp only[ak] at h ⊢;have⟨fi,ca,h1,h2,h3⟩:=h;exact⟨fi,ca,h1,jJ hm hS hw first _ h2,jJ hm hS hw cap _ h3⟩
 | .fn (.y l) _ _,u,h=>by
  simp only[ak] at h ⊢;have⟨p,h1,h2⟩:=h;exact⟨p,hm _ _ h1,h2⟩
 | .map id,u,h=>by
  simp only[ak] at h ⊢;have⟨p,h1,h2⟩:=h;exact⟨p,hm _ _ h1,h2⟩
 | .nE ks vs,u,h=>by
  simp only[ak] at h ⊢;have⟨b,es,clock,h1,h2,h3,h4,h5,h6,h7⟩:=h;exact⟨b,es,clock,h1,hS b h2,h3,h4,(hw b h2).trans h5,jJ hm hS hw ks _ h6,jJ hm hS hw vs _ h7⟩
 | .it id,u,h=>by
  simp only[ak] at h ⊢;have⟨p,h1,h2⟩:=h;exact⟨p,hm _ _ h1,h2⟩
 | .agg cs,u,h=>by
  simp only[ak] at h ⊢;have⟨xs,h1,h2⟩:=h;exact⟨xs,h1,jJ hm hS hw cs _ h2⟩
 | .ax cs,u,h=>by
  simp only[ak] at h ⊢;have⟨xs,h1,h2⟩:=h;exact⟨xs,h1,jJ hm hS hw cs _ h2⟩
def jJ(hm:∀id p,m id=Ix p->m' id=Ix p)(hS:∀b,S b->S' b)(hw:iE S w w'):
  ∀(vs:List AV) (us:List yr),aE ai m S w vs us->aE ai m' S' w' vs us
 | [],us,h=>by simpa only[aE] using h
 | v::r,us,h=>by
  simp only[aE] at h ⊢;have⟨u,t,h1,h2,h3⟩:=h;exact⟨u,t,h1,pN hm hS hw v u h2,jJ hm hS hw r t h3⟩
def Xl(hm:∀id p,m id=Ix p->m' id=Ix p)(hS:∀b,S b->S' b)(hw:iE S w w'):
  ∀(cs:List AV) (b o:Nat),S b->cf ai m S w cs b o->cf ai m' S' w' cs b o
 | [],_,_,_,_=>by simp only[cf]
 | c::cs,b,o,hb,h=>by
  simp only[cf] at h ⊢;have⟨⟨u,h1,h2⟩,h3⟩:=h;exact⟨⟨u,(Q8 (hw b hb)).trans h1,pN hm hS hw c u h2⟩,Xl hm hS hw cs b (o+1) hb h3⟩
end
end
end
section
open Go
structure Hint where
 n:Nat
 cg:tL->Option Nat
 live:Nat->List Nat
 out:Nat->Option (List Nat)
 mode:Nat->Md
 fz:Nat->List Nat
section
variable (P:xM)(H:Hint)
mutual
def fQ:yr->AV
 | .int k n=>.int k n
 | .bool b=>.bool b
 | .float k b=>.dP k b
 | .string s=>.str (s.data.toList.map xp)
 | .pointer Iy=>.oY
 | .slice Iy 0 0=>.ae
 | .map Iy=>.nD
 | .nilFunc=>.kZ
 | .agg ⟨cs⟩=>.agg (I7 cs)
 | .tuple ⟨cs⟩=>.ax (I7 cs)
 | _=>.undef
def I7:List yr->List AV
 | []=>[]
 | v::r=>fQ v::I7 r
end
def aS:xN->X
 | .tmp t=>.t t
 | .const v=>.c (fQ v)
 | .global _=>.c .undef
 | .func f=>match H.cg f with | some g=>.c (.fn (.f g) [] []) | none=>.c .undef
def jy:List xN->List X
 | []=>[]
 | x::r=>aS H x::jy r
def cY(t:yL):Option Nat:=match P.info? t with | some i=>Ix i.size | none=>Iy
def Fq(t:yL):Option Nat:=match P.info? t with | some i=>Ix i.bytes | none=>Iy
def rq(t:yL):Option AV:=match P.info? t with | some i=>(match i.zero with | some v=>Ix (fQ v) | none=>Iy) | none=>Iy
def eK(t:yL):Option Bool:=match P.underlying t with | some (.struct _) | some (.array _ _)=>Ix ycO | some _=>Ix ycP | none=>Iy
def bad:Op:=.call .pure (.c .undef) []
def partsOf(place:Nat->Option (Nat×Nat)):List (Nat×xN)->Option (List (Nat×Nat×X))
 | []=>Ix []
 | (i,x)::r=>
  match place i,partsOf place r with
  | some (o,s),Ix l=>Ix ((o,s,aS H x)::l)
  | _,_=>Iy
def ID(self:yL->Option (List Nat)):List tE->Nat->Option (List Nat)
 | [],_=>Ix []
 | f::r,o=>
  match self f.type,cY P f.type with
  | some ks,Ix s=>
   bif f.name != "_"&&yG f.offset o&&yG ks.length s&& !P.stoodInHeld f.type then
    (match ID self r (o+s) with | some l=>Ix (ks++l) | none=>Iy)
   else Iy
  | _,_=>Iy
def kinds:Nat->yL->Option (List Nat)
 | 0,_=>Iy
 | n+1,t=>
  match P.underlying t with
  | some .bool=>Ix [0]
  | some (.int _)=>Ix [1]
  | some .string=>Ix [2]
  | some (.struct fs)=>ID P (fun u=>kinds n u) fs.toList 0
  | some (.array k e)=>
   match kinds n e,cY P e with
   | some ks,Ix s=>bif yG ks.length s&& !P.stoodInHeld e then Ix (ye k ks).flatten else Iy
   | _,_=>Iy
  | _=>Iy
def keyOf(t:yL):Option Nat:=
 match P.underlying t with
 | some .bool=>Ix 0
 | some (.int _)=>Ix 1
 | some .string=>Ix 2
 | _=>Iy
def CH(ne:Bool)(t:yL)(a b:xN):Op:=
 match kinds P 20 t with
 | some ks=>bif P.stoodInHeld t||P.eqGuardType P.depth t then bad else .eq ne (.ag ks) (aS H a) (aS H b)
 | none=>bad
def BB(ne:Bool)(op:vL)(t:yL)(a b:xN):Op:=
 match P.underlying t with
 | some (.int _) | some .string | some (.float _)=>.bin op (aS H a) (aS H b)
 | some .bool=>.eq ne .b (aS H a) (aS H b)
 | some (.slice _)=>.eq ne .sl (aS H a) (aS H b)
 | some (.func _ _ _)=>.eq ne .fn (aS H a) (aS H b)
 | some (.struct _) | some (.array _ _)=>CH P H ne t a b
 | _=>bad
def bn(k:Nat)(o:xk):Op:=
 let x (y:xN):X:=aS H y
 match o.op with
 | .move a | .assign a=>.A0 (x a)
 | .pick c a b=>.pick (x c) (x a) (x b)
 | .alloc t=>match cY P t,rq P t with | some s,Ix z=>.box s (.c z) | _,_=>bad
 | .box t v=>match cY P t with | some s=>.box s (x v) | none=>bad
 | .build t parts=>
  match P.underlying t,rq P t with
  | some (.struct fs),Ix (.agg z)=>
   match fs.toList.mapM (fun f=>(P.info? f.type).map fun i=>(f.offset,i.size)) with
   | some pl=>(match partsOf H (fun i=>pl[i]?) parts.toList with | some ps=>.EA z ps | none=>bad)
   | none=>bad
  | some (.array _ e),Ix (.agg z)=>
   match cY P e with
   | some s=>(match partsOf H (fun i=>Ix (i*s,s)) parts.toList with | some ps=>.EA z ps | none=>bad)
   | none=>bad
  | _,_=>bad
 | .buildSlice t n parts=>
  match P.underlying t with
  | some (.slice e)=>
   match cY P e,rq P e with
   | some s,Ix z=>
    bif yO (n*s) 16777216 then
     (match partsOf H (fun i=>Ix (i*s,s)) parts.toList with | some ps=>.sD n s (ye n (cellsOf z)).flatten ps | none=>bad)
    else bad
   | _,_=>bad
  | _=>bad
 | .load t a=>match cY P t,eK P t with | some s,Ix ag=>.ld s ag (x a) | _,_=>bad
 | .store t a v=>match cY P t with | some s=>.st s (x a) (x v) | none=>bad
 | .nilCheck a=>.Oz (x a)
 | .binOp op t a b _=>
  match op with
  | .eql=>BB P H ycP op t a b
  | .neq=>BB P H ycO op t a b
  | _=>.bin op (x a) (x b)
 | .unOp op _ a=>.un op (x a)
 | .convert s d a=>
  match P.underlying s,P.underlying d with
  | some (.int _),Ix (.int k) | some (.float _),Ix (.int k)=>.cv (.toInt k) (x a)
  | some (.int _),Ix (.float k) | some (.float _),Ix (.float k)=>.cv (.toFlt k) (x a)
  | some .string,Ix .string=>.cv .str (x a)
  | _,_=>bad
 | .makeFunc (.func f) first cap=>match H.cg f with | some g=>.KC (.f g) (jy H first.toList) (jy H cap.toList) | none=>bad
 | .makeMap t Iy=>match P.underlying t with | some (.map ke _)=>(match keyOf P ke with | some _=>.Du | none=>bad) | _=>bad
 | .makeSlice t l c=>
  match P.underlying t with
  | some (.slice e)=>(match cY P e,Fq P e,rq P e with | some s,Ix b,Ix z=>.sM s b (cellsOf z) (x l) (x c) | _,_,_=>bad)
  | _=>bad
 | .slice t a lo hi Iy=>
  match P.underlying t with
  | some .string=>.Aa .str (x a) (lo.map x) (hi.map x)
  | some (.slice e)=>(match cY P e with | some s=>.Aa (.sl s) (x a) (lo.map x) (hi.map x) | none=>bad)
  | some (.array n e)=>(match cY P e with | some s=>.Aa (.ar n s) (x a) (lo.map x) (hi.map x) | none=>bad)
  | _=>bad
 | .fieldAddr t a i=>
  match P.underlying t with
  | some (.struct fs)=>
   match fs[i]? with
   | some f=>(match cY P f.type with | some (_+1)=>.off f.offset (x a) | _=>bad)
   | none=>bad
  | _=>bad
 | .field t a i=>
  match P.underlying t with
  | some (.struct fs)=>
   match fs[i]? with
   | some f=>(match cY P f.type,eK P f.type with | some s,Ix ag=>.PF f.offset s ag (x a) | _,_=>bad)
   | none=>bad
  | _=>bad
 | .indexAddr t a i=>
  match P.underlying t with
  | some (.slice e)=>(match cY P e with | some s=>.aT s (x a) (x i) | none=>bad)
  | some (.array n e)=>(match cY P e with | some s=>.KD n s (x a) (x i) | none=>bad)
  | _=>bad
 | .index t a i=>
  match P.underlying t with
  | some .string=>.KE (x a) (x i)
  | some (.array n e)=>(match cY P e,eK P e with | some s,Ix ag=>.Dv n s ag (x a) (x i) | _,_=>bad)
  | _=>bad
 | .lookup t a i ok=>
  match P.underlying t with
  | some (.map ke e)=>(match keyOf P ke,rq P e with | some kk,Ix z=>.PG kk z ok (x a) (x i) | _,_=>bad)
  | _=>bad
 | .mapUpdate t a i v | .insert t a i v=>
  match P.underlying t with
  | some (.map ke _)=>(match keyOf P ke with | some kk=>.sN kk (x a) (x i) (x v) | none=>bad)
  | _=>bad
 | .range t a=>match P.underlying t with | some .string=>.Ab (x a) | _=>bad
 | .next it ycO=>.Ac (x it)
 | .extract t i=>.ext i (x t)
 | .call c=>
  match c.callee with
  | .value f=>(match H.mode k with | .dyn=>.lY [] (x f) (jy H c.args.toList) | md=>.call md (x f) (jy H c.args.toList))
  | .builtin b=>
   match b,c.args.toList,c.argTypes.toList with
   | .append,[s,a],[t,u]=>
    match P.underlying t,P.underlying u with
    | some (.slice e),Ix (.slice _) | some (.slice e),Ix .string=>
     (match cY P e,Fq P e,rq P e with | some sz,Ix by',Ix z=>(bif yG (cellsOf z).length sz then .kD sz by' (x s) (x a) else bad) | _,_,_=>bad)
    | _,_=>bad
   | .len,[a],[t]=>
    match P.underlying t with
    | some (.array n _)=>.A0 (.c (.int .i64 n))
    | some .string=>.len 0 (x a)
    | some (.slice _)=>.len 1 (x a)
    | some (.map _ _)=>.len 2 (x a)
    | _=>bad
   | .copy,[d,s],[t,_]=>
    match P.underlying t with
    | some (.slice e)=>(match cY P e with | some sz=>.rK sz (x d) (x s) | none=>bad)
    | _=>bad
   | .min,l,_=>.mn (jy H l)
   | .max,l,_=>.mx (jy H l)
   | _,_,_=>bad
  | _=>bad
 | _=>bad
def Zl(o:xk):Bool:=match o.op with | .call {callee:=.value _,..}=>ycO | _=>ycP
def Ob(d:Option Nat):Bool:=match d with | some i=>yU i H.n | none=>ycO
def CZ(n:Nat):List Nat->Bool
 | []=>ycO
 | i::r=>yU i n&&CZ n r
def Gm(ops:Array xk):List xk->Nat->List bk×Nat
 | [],k=>([],k)
 | o::r,k=>
  let g:=match o.guard with
   | none=>Ix Iy
   | some (j,b)=>match (ops[j]?).bind (·.dst) with | some t=>Ix (Ix (t,b)) | none=>Iy
  match Gm ops r (k+(bif Zl o then 1 else 0)) with
  | (l,k')=>
   match g,Ob H o.dst with
   | some g,ycO=>(⟨o.dst,g,bn P H k o⟩::l,k')
   | _,_=>(⟨o.dst,Iy,bad⟩::l,k')
def Em(acc:List Nat):List Edge->Nat
 | []=>0
 | e::r=>bif Region.binds .any e then (2^e.on|||acc.getD e.on 0)|||Em acc r else Em acc r
def qc(acc:List Nat):List xk->List Nat
 | []=>acc
 | o::r=>qc (acc++[Em acc o.after.toList]) r
def MN:List xk->Nat->Bool
 | [],_=>ycO
 | o::r,i=>o.after.toList.all (fun e=> !Region.binds .any e||yU e.on i)&&MN r (i+1)
def Sr(ops:Array xk)(draw:Bool)(k:Nat):List bk×Nat:=
 match Gm P H ops ops.toList k with
 | (l,k')=>
  bif draw then
   (let ms:=qc [] ops.toList
    let l':=CY [] l ms
    bif MN ops.toList 0&&IW [] l' ms then (l',k') else ([⟨Iy,Iy,bad⟩],k'))
  else (l,k')
def ayj:vG->Bool
 | .loop _=>ycO
 | _=>ycP
def comp:vG->Nat->Nat->VC×Nat×Nat
 | .skip,l,k | .label _,l,k=>(.skip,l,k)
 | .region i ops d,l,k=>match Sr P H ops d k with | (r,k')=>((match H.fz i with | []=>.oB r | t::ts=>.seq (.fz (t::ts)) (.oB r)),l,k')
 | .seq a b,l,k=>match comp a l k with | (a',l1,k1)=>match comp b l1 k1 with | (b',l2,k2)=>(.seq a' b',l2,k2)
 | .cond c a b,l,k=>
  match comp a (l+1) k with
  | (a',l1,k1)=>
   match comp b l1 k1 with
   | (b',l2,k2)=>(match H.out l with | some o=>.seq (.cond (aS H c) a' b') (.kp o) | none=>.cond (aS H c) a' b',l2,k2)
 | .block id a,l,k=>
  match comp a l k with
  | (a',r)=>(match ayj a,H.out l with | true,Ix o=>.seq (.jj id a') (.kp o) | _,_=>.jj id a',r)
 | .loop a,l,k=>match comp a (l+1) k with | (a',r)=>(.loop (H.live l) a',r)
 | .rangeFunc f ps cX body,l,k=>
  match comp cX l k with | (as',l1,k1)=>match comp body l1 k1 with | (b',l2,k2)=>(bif CZ H.n ps.toList then .rf (aS H f) ps.toList as' b' else .oB [⟨Iy,Iy,bad⟩],l2,k2)
 | .exit id,l,k=>(.exit id,l,k)
 | .scope a,l,k=>comp a l k
 | .ret,l,k=>(.ret,l,k)
 | .goto _,l,k | .refuse _,l,k=>(.oB [⟨Iy,Iy,bad⟩],l,k)
def zC:List ResultVar->Option (List RV)
 | []=>Ix []
 | .tmp t::r=>match zC r with | some l=>Ix (.t t::l) | none=>Iy
 | .cell a t::r=>match cY P t,eK P t,zC r with | some s,Ix ag,Ix l=>Ix (.cell a s ag::l) | _,_,_=>Iy
def I8(fn:Func):Option aw:=
 match fn.body,zC P fn.results.toList with
 | some c,Ix rs=>bif yO H.n fn.ntmps then Ix ⟨rs,(comp P H c 0 0).1⟩ else Iy
 | _,_=>Iy
end
end
section
open Go
structure bC where
 P:xM
 a8:Lib
 ai:Nat->Nat
 prog:aJ
 hint:Nat->Hint
 w0:yt
def Fs(P:xM)(H:Hint)(v:VC)(c:vG):Prop:=∃l k,(comp P H c l k).1=v
def EW:Nat->LoopState
 | 0=>.ready
 | 1=>.busy
 | 2=>.done
 | _=>.exhausted
def CR:C9->Option vG
 | .none=>Iy
 | .ret=>Ix .ret
 | .exit id=>Ix (.exit id)
section
variable (O:bC)(m:Mp)(S:Nat->Prop)(w:yt)
def cp(tm:Env)(tmps:Array yr):Prop:=∀i,ak O.ai m S w (ab tm i) (tmps.getD i undef)
def gZ(id:Nat):Obj->Prop
 | .cells rw pu ex sz cs=>∃p arr t,m id=Ix p/\w.heap[p.b]? =Ix (.cells arr t (0,0))/\p.z=sz/\cs.length<=p.e/\p.o+p.e<=arr.size/\
   (ex=ycO->cs.length=p.e)/\cf O.ai m S w cs p.b p.o/\(pu=ycO->aD cs=ycO)/\(rw=ycO->¬S p.b)/\(rw=ycP->S p.b)
 | .mp rw ks vs=>∃p es clock,m id=Ix p/\w.heap[p.b]? =Ix (.map es clock)/\aE O.ai m S w ks (es.toList.map (·.key))/\aE O.ai m S w vs (es.toList.map (·.val))/\
   (rw=ycO->¬S p.b)/\(rw=ycP->S p.b)
 | .si s pos=>∃p t,m id=Ix p/\w.heap[p.b]? =Ix (.stringIter t pos)/\t.data.toList.map xp=s/\¬S p.b
 | .lp tm ps cX body st pe=>∃p l h,m id=Ix p/\w.heap[p.b]? =Ix (.loop l)/\¬S p.b/\l.state=EW st/\st<=2/\l.pending=CR pe/\cp O m S w tm l.tmps/\
   l.params.toList=ps/\Fs O.P (O.hint h) cX l.assign/\Fs O.P (O.hint h) body l.body/\(O.hint h).n<=l.tmps.size/\CZ (O.hint h).n ps=ycO
structure aW(hp:Hp)(ct:Nat):Prop where
 obj:∀id o p,au hp id=Ix o->m id=Ix p->gZ O m S w id o
 lt:∀id p,m id=Ix p->id<ct
 inj:∀i j oi oj pi pj,au hp i=Ix oi->au hp j=Ix oj->m i=Ix pi->m j=Ix pj->pi.b=pj.b->i=j
 slt:∀b,S b->b<w.heap.size
 blt:∀id p,m id=Ix p->p.b<w.heap.size
 low:∀id p,m id=Ix p->O.w0.heap.size<=p.b
 nF:∀b,b<O.w0.heap.size->w.heap[b]? =O.w0.heap[b]?
 iG:O.w0.heap.size<=w.heap.size
 aY:∀id o,au hp id=Ix o->id<ct
end
def fe(m:Mp)(hp:Hp)(b:Nat):Prop:=∃id o p,au hp id=Ix o/\m id=Ix p/\p.b=b
structure cE(m:Mp)(S:Nat->Prop)(w:yt)(hp:Hp)(m':Mp)(S':Nat->Prop)(w':yt)(aq:Hp)(base:Nat):Prop where
 os:w'.os=w.os
 tape:w'.tape=w.tape
 output:w'.output=w.output
 size:w.heap.size<=w'.heap.size
 same:∀b,b<w.heap.size->¬fe m hp b->w'.heap[b]? =w.heap[b]?
 sub:∀b,S b->S' b
 still:∀b,S b->w'.heap[b]? =w.heap[b]?
 new:∀b,S' b->S b\/fe m hp b\/w.heap.size<=b
 own:∀b,fe m' aq b->fe m hp b\/w.heap.size<=b
 old:∀id p,id<base->m id=Ix p->m' id=Ix p
 loops:∀(b:Nat) (r:uW),w.heap[b]? =Ix (.loop r)->∃r':uW,w'.heap[b]? =Ix (.loop r')
def cE.refl{m:Mp}{w:yt}{hp:Hp}:cE m S w hp m S w hp base:=
 ⟨rfl,rfl,rfl,ym _,fun _ _ _=>rfl,fun _ h=>h,fun _ _=>rfl,fun _ h=>.inl h,fun _ h=>.inl h,fun _ _ _ h=>h,fun _ r h=>⟨r,h⟩⟩
def cE.trans{m m' PK:Mp}{Ft:Nat->Prop}{w w' VG:yt}{hp aq OA:Hp}(h:cE m S w hp m' S' w' aq base)(k:cE m' S' w' aq PK Ft VG OA base):cE m S w hp PK Ft VG OA base where
 os:=k.os.trans h.os
 tape:=k.tape.trans h.tape
 output:=k.output.trans h.output
 size:=xB h.size k.size
 same b hb ho:=(k.same b (yT hb h.size) (fun oD=>(h.own b oD).elim ho (fun h1=>by omega))).trans (h.same b hb ho)
 sub b hb:=k.sub b (h.sub b hb)
 still b hb:=(k.still b (h.sub b hb)).trans (h.still b hb)
 new b hb:=by
  rcases k.new b hb with h1 | h1 | h1
  .exact h.new b h1
  .rcases h.own b h1 with h2 | h2
   .grind
   .grind
  .exact .inr (.inr (xB h.size h1))
 own b hb:=by
  rcases k.own b hb with h1 | h1
  .exact h.own b h1
  .exact .inr (xB h.size h1)
 old id p hid hp:=k.old id p hid (h.old id p hid hp)
 loops b r hb:=let ⟨r',h1⟩:=h.loops b r hb;k.loops b r' h1
end
section
open Go
section
variable {ai:Nat->Nat}{m:Mp}{S:Nat->Prop}{w:yt}
mutual
def Ss:∀v:yr,ak ai m S w (fQ v) v
 | .int _ _ | .bool _ | .float _ _=>by simp only[fQ,ak]
 | .string s=>by simp only[fQ,ak];exact⟨s,rfl,rfl⟩
 | .pointer Iy=>by simp only[fQ,ak]
 | .pointer (Ix _)=>by simp only[fQ,ak]
 | .slice Iy 0 0=>by simp only[fQ,ak]
 | .slice Iy 0 (_+1)=>by simp only[fQ,ak]
 | .slice Iy (_+1) _=>by simp only[fQ,ak]
 | .slice (Ix _) _ _=>by simp only[fQ,ak]
 | .map Iy=>by simp only[fQ,ak]
 | .map (Ix _)=>by simp only[fQ,ak]
 | .nilFunc=>by simp only[fQ,ak]
 | .agg ⟨cs⟩=>by simp only[fQ,ak];exact⟨⟨cs⟩,rfl,X7 cs⟩
 | .tuple ⟨cs⟩=>by simp only[fQ,ak];exact⟨⟨cs⟩,rfl,X7 cs⟩
 | .complex _ _ _ | .chan _ | .func _ _ _ | .iface _ _ | .nilIface=>by simp only[fQ,ak]
def X7:∀l:List yr,aE ai m S w (I7 l) l
 | []=>by simp only[I7,aE]
 | v::r=>by simp only[I7,aE];exact⟨v,r,rfl,Ss v,X7 r⟩
end
end
def im(O:bC)(H:Hint):Prop:=∀f g,H.cg f=Ix g->O.ai g=f
section
variable {O:bC}{H:Hint}{m:Mp}{S:Nat->Prop}{w:yt}{tm:Env}{a:Act}
def cO(hH:im O H)(ht:cp O m S w tm a.tmps)(x:xN):ak O.ai m S w (aC tm (aS H x)) (a.eval x):=by
 cases x with
 | tmp t=>exact ht t
 | const v=>simp only[aS,aC,Act.eval];exact Ss v
 | global g=>simp only[aS,aC,ak]
 | func f=>
  simp only[aS,Act.eval]
  cases hr:H.cg f with
  | none=>simp only[aC,ak]
  | some g=>simp only[aC,ak,hH f g hr,aE];exact⟨#[],#[],rfl,rfl,rfl⟩
def Gw(hH:im O H)(ht:cp O m S w tm a.tmps):∀l:List xN,aE O.ai m S w (dU tm (jy H l)) (l.map a.eval)
 | []=>by simp only[jy,dU,List.map_nil,aE]
 | x::r=>by simp only[jy,dU,yS,aE];exact⟨_,_,rfl,cO hH ht x,Gw hH ht r⟩
end
section
variable {O:bC}{m:Mp}{S:Nat->Prop}{w:yt}
def Bo{ai:Nat->Nat}:∀(k:Nat) (cs:List AV) (b o:Nat),cf ai m S w cs b o->cf ai m S w (cs.drop k) b (o+k)
 | 0,cs,b,o,h=>by simpa using h
 | k+1,[],b,o,_=>by simp only[List.drop_nil,cf]
 | k+1,c::cs,b,o,h=>by
  have:=Bo k cs b (o+1) h.2
  grind
def F6{ai:Nat->Nat}:∀(k:Nat) (cs:List AV) (b o:Nat),cf ai m S w cs b o->cf ai m S w (cs.take k) b o
 | 0,cs,b,o,_=>by simp only[vC,cf]
 | k+1,[],b,o,_=>by simp only[List.take_nil,cf]
 | k+1,c::cs,b,o,h=>by
  exact⟨h.1,F6 k cs b (o+1) h.2⟩
def Cy{ai:Nat->Nat}:∀(cs:List AV) (b o:Nat),cf ai m S w cs b o->
  ∃us:List yr,aE ai m S w cs us/\us.length=cs.length/\∀j u,us[j]? =Ix u->w.cell? ⟨b,o+j,Iy⟩=Ix u
 | [],b,o,_=>⟨[],by simp only[aE],rfl,fun j u h=>by simp at h⟩
 | c::cs,b,o,h=>by
  obtain⟨⟨u,h1,h2⟩,h3⟩:=h;obtain⟨us,h4,h5,h6⟩:=Cy cs b (o+1) h3;refine⟨u::us,by simp only[aE];exact⟨u,us,rfl,h2,h4⟩,by simp[h5],fun j v hv=>?_⟩
  cases j with
  | zero=>simp at hv;subst hv;simpa using h1
  | succ j=>simp at hv;have:=h6 j v hv;rw[show o+(j+1)=o+1+j by omega];exact this
def kK{ai:Nat->Nat}:∀(cs:List AV) (us:List yr),aE ai m S w cs us->us.length=cs.length
 | [],us,h=>by simp only[aE] at h;subst h;rfl
 | c::cs,us,h=>by
  obtain⟨u,r,rfl,_,h3⟩:=h;simp[kK cs r h3]
end
end
section
open Go
def zI(b o j:Nat):(⟨b,o,Iy⟩:uM).add j=⟨b,o+j,Iy⟩:=by
 unfold Addr.add;split<;>simp_all
section
variable {P:xM}{w:yt}
def ap3(t:yL)(b o:Nat)(us:List yr)(ha:eK P t=Ix ycO)(hz:cY P t=Ix us.length)(h:∀j u,us[j]? =Ix u->w.cell? ⟨b,o+j,Iy⟩=Ix u):(loadVar t ⟨b,o,Iy⟩).run P w=.ok (.agg us.toArray) w:=by
 have hl:=run_loadCells_list (P:=P) w ⟨b,o,Iy⟩ us (fun j u hu=>by rw[zI];exact h j u hu)
 unfold cY at hz
 cases hi:P.info? t with
 | none=>simp[hi] at hz
 | some i=>
  unfold eK at ha
  cases hu:P.underlying t with
  | none=>simp[hu] at ha
  | some d=>cases d<;>simp_all[loadVar,isAgg,vU,typeInfo,underlying]
def ap4(t:yL)(b o:Nat)(u:yr)(ha:eK P t=Ix ycP)(h:w.cell? ⟨b,o,Iy⟩=Ix u):(loadVar t ⟨b,o,Iy⟩).run P w=.ok u w:=by
 unfold eK at ha
 cases hu:P.underlying t with
 | none=>simp[hu] at ha
 | some d=>cases d<;>simp_all[loadVar,isAgg,underlying]
end
section
variable {O:bC}{m:Mp}{S:Nat->Prop}{w:yt}
def Su{t:yL}{ag:Bool}{cs:List AV}{b o:Nat}{v:AV}(hz:cY O.P t=Ix sz)(ha:eK O.P t=Ix ag)(hr:cf O.ai m S w cs b o)(hv:gJ sz ag cs=Ix v):∃u,(loadVar t ⟨b,o,Iy⟩).run O.P w=.ok u w/\ak O.ai m S w v u:=by
 cases ag with
 | true=>
  simp only[gJ,yN] at hv
  cases hle:yO sz cs.length with
  | false=>simp only[hle,y5] at hv;cases hv
  | true=>
   simp only[hle,yN,yc] at hv;subst hv;obtain⟨us,h1,h2,h3⟩:=Cy _ _ _ (F6 sz cs b o hr);have hlen:us.length=sz:=by
    simp_all
   refine⟨.agg us.toArray,ap3 t b o us ha (by rw[hlen];exact hz) h3,?_⟩
   simp only[ak]
   grind
 | false=>
  simp only[gJ,y5] at hv
  cases cs with
  | nil=>simp at hv
  | cons c cs=>
   simp only[yc] at hv;subst hv;obtain⟨⟨u,h1,h2⟩,_⟩:=hr;exact⟨u,ap4 t b o u ha h1,h2⟩
def ah1{t:yL}{o:Nat}{ag:Bool}{cs:List AV}{xs:Array yr}{v:AV}(hz:cY O.P t=Ix sz)(ha:eK O.P t=Ix ag)(hr:aE O.ai m S w cs xs.toList)(hv:gJ sz ag (cs.drop o)=Ix v):∃u,(part t xs o).run O.P w=.ok u w/\ak O.ai m S w v u:=by
 have hd:∀(k:Nat) (cs:List AV) (us:List yr),aE O.ai m S w cs us->aE O.ai m S w (cs.drop k) (us.drop k):=by
  intro k
  induction k with
  | zero=>intro cs us h;simpa using h
  | succ k ih=>
   intro cs us h
   cases cs with
   | nil=>simp only[aE] at h;subst h;simp[aE]
   | cons c cs=>simp only[aE] at h;obtain⟨u,r,rfl,_,h3⟩:=h;simpa using ih cs r h3
 have dW:∀(k:Nat) (cs:List AV) (us:List yr),aE O.ai m S w cs us->aE O.ai m S w (cs.take k) (us.take k):=by
  intro k
  induction k with
  | zero=>intro cs us h;simp[aE]
  | succ k ih=>
   intro cs us h
   cases cs with
   | nil=>simp only[aE] at h;subst h;simp[aE]
   | cons c cs=>simp only[aE] at h;obtain⟨u,r,rfl,h2,h3⟩:=h;simp only[wS,aE];exact⟨u,_,rfl,h2,ih cs r h3⟩
 have alz:(isAgg t).run O.P w=.ok ag w:=by
  unfold eK at ha
  cases hu:O.P.underlying t with
  | none=>simp[hu] at ha
  | some d=>cases d<;>simp_all[isAgg,underlying]
 have fL:(vU t).run O.P w=.ok sz w:=by
  unfold cY at hz
  cases hi:O.P.info? t with
  | none=>simp[hi] at hz
  | some i=>simp_all[vU,typeInfo]
 have bt:=hd o cs xs.toList hr
 cases ag with
 | true=>
  simp only[gJ,yN] at hv
  cases hle:yO sz (cs.drop o).length with
  | false=>simp only[hle,y5] at hv;cases hv
  | true=>
   simp only[hle,yN,yc] at hv;subst hv;refine⟨.agg (xs.extract o (o+sz)),by simp[part,Sem.run_bind,alz,fL],?_⟩;simp only[ak]
   simp_all
 | false=>
  simp only[gJ,y5] at hv
  cases hc:cs.drop o with
  | nil=>simp[hc] at hv
  | cons c r=>
   simp only[hc,yc] at hv;subst hv;rw[hc] at bt;simp only[aE] at bt;obtain⟨u,us,h1,h2,_⟩:=bt;have hx:xs[o]? =Ix u:=by
    have:xs.toList[o]? =Ix u:=by
     have:=congrArg (fun l=>l[0]?) h1
     simpa using this
    simpa using this
   exact⟨u,by simp[part,Sem.run_bind,alz,hx],h2⟩
end
end
section
open Go
def pT(t:ByteArray):List Nat:=t.data.toList.map xp
def ah2:∀a b:List UInt8,cU (a.map xp) (b.map xp)=(a==b)
 | [],[]=>rfl
 | [],_::_=>rfl
 | _::_,[]=>rfl
 | a::x,b::y=>by
  have h:yG a.toNat b.toNat=(a==b):=by
   rw[yad,ycJ,beq_iff_eq];exact ybx
  simp only[yS,cU,ah2 x y,h,List.cons_beq_cons]
def ah3:∀a b:List UInt8,Fo (a.map xp) (b.map xp)=Op.bytesLess a b
 | [],[]=>rfl
 | [],_::_=>rfl
 | _::_,[]=>rfl
 | a::x,b::y=>by
  have h:yG a.toNat b.toNat=(a==b):=by
   rw[yad,ycJ,beq_iff_eq];exact ybx
  have h2:yU a.toNat b.toNat=decide (a<b):=by
   rw[yad];simp only[yU,ycK,wN,UInt8.lt_iff_toNat_lt]
   lia
  simp only[yS,Fo,Op.bytesLess,ah3 x y,h,h2]
def afJ(s t:ByteArray):cU (pT s) (pT t)=(s.toList==t.toList):=by
 rw[pT,pT,ah2,ByteArray.toList_eq,ByteArray.toList_eq]
def ari(s t:ByteArray):Fo (pT s) (pT t)=Op.bytesLess s.toList t.toList:=by
 rw[pT,pT,ah3,ByteArray.toList_eq,ByteArray.toList_eq]
def afK(s:ByteArray):(pT s).length=s.size:=by
 rw[pT,List.length_map,Lib.size_eq]
section
variable {ai:Nat->Nat}{P:xM}{m:Mp}{S:Nat->Prop}{w:yt}{t:yL}
def as9{op:vL}{k:xh}{y:Int}{v:AV}(h:oU op k x y=Ix v):
  ∃u,(wT op t (.int k x) (.int k y)).run P w=.ok u w/\ak ai m S w v u:=by
 cases op<;>simp only[oU,intCmp,yc] at h
 case quo=>
  by_cases hy:y=0
  .grind
  .simp only [hy,xr,yc] at h;subst h;exact⟨_,by simp[wT,Op.intDiv,hy];rfl,by simp[ak]⟩
 case rem=>
  by_cases hy:y=0
  .grind
  .simp only [hy,xr,yc] at h;subst h;exact⟨_,by simp[wT,Op.intDiv,hy];rfl,by simp[ak]⟩
 case shl=>cases h
 case shr=>cases h
 all_goals
  subst h;exact⟨_,by simp[wT,Op.intCmp];rfl,by simp[ak]⟩
def aeV{op:vL}{k k':xh}{y:Int}{v:AV}(h:Gl op k x y=Ix v):
  ∃u,(wT op t (.int k x) (.int k' y)).run P w=.ok u w/\ak ai m S w v u:=by
 unfold Gl at h;by_cases hy:y<0
 .grind
 .simp only [hy,xr] at h;cases op<;>simp only[yc] at h
  case shl=>subst h;exact⟨_,by simp[wT,Op.shift,hy];rfl,by simp[ak]⟩
  case shr=>subst h;exact⟨_,by simp[wT,Op.shift,hy];rfl,by simp[ak]⟩
  all_goals cases h
def ata{op:vL}{x y:ByteArray}{v:AV}(h:N6 op (pT x) (pT y)=Ix v):
  ∃u,(wT op t (.string x) (.string y)).run P w=.ok u w/\ak ai m S w v u:=by
 cases op<;>simp only[N6,afJ,ari,afK,yc] at h
 case add=>
  cases hle:yO (x.size+y.size) 9223372036854775807 with
  | false=>rw[hle] at h;cases h
  | true=>
   rw[hle] at h;simp only[yN,yc] at h;subst h;have aJx:=yF hle;have aDj:¬(((x.size+y.size:Nat):Int)>IntKind.i64.max):=by
    have:IntKind.i64.max=9223372036854775807:=by decide
    grind
   refine⟨.string (x++y),?_,?_⟩
   .simp only [wT,Op.stringOp,yx aDj,Sem.run_pure]
   .simp only [ak];exact⟨x++y,rfl,by simp[pT]⟩
 all_goals first
  | (cases h;done)
  | (subst h;exact⟨_,by simp[wT,Op.stringOp];rfl,by simp[ak]⟩)
def atb{op:vL}{k:uJ}{x y:Nat}{v:AV}(h:ZT op k x y=Ix v):
  ∃u,(wT op t (.float k x) (.float k y)).run P w=.ok u w/\ak ai m S w v u:=by
 cases op<;>simp only[ZT,yc] at h
 case add=>
  cases hr:k.format.add x y with
  | none=>simp[hr] at h
  | some r=>simp only[hr,yc] at h;subst h;exact⟨.float k r,by simp[wT,Op.floatArith,hr],by simp[ak]⟩
 case sub=>
  cases hr:k.format.sub x y with
  | none=>simp[hr] at h
  | some r=>simp only[hr,yc] at h;subst h;exact⟨.float k r,by simp[wT,Op.floatArith,hr],by simp[ak]⟩
 case mul=>
  cases hr:k.format.mul x y with
  | none=>simp[hr] at h
  | some r=>simp only[hr,yc] at h;subst h;exact⟨.float k r,by simp[wT,Op.floatArith,hr],by simp[ak]⟩
 case quo=>
  cases hr:k.format.div x y with
  | none=>simp[hr] at h
  | some r=>simp only[hr,yc] at h;subst h;exact⟨.float k r,by simp[wT,Op.floatArith,hr],by simp[ak]⟩
 all_goals first
  | (cases h;done)
  | (subst h;exact⟨_,by simp[wT,Op.floatCmp];rfl,by simp[ak]⟩)
def atc{op:vL}{vx vy v:AV}{x y:yr}(hx:ak ai m S w vx x)(hy:ak ai m S w vy y)(h:VE.binOp op vx vy=Ix v):
  ∃u,(wT op t x y).run P w=.ok u w/\ak ai m S w v u:=by
 unfold VE.binOp at h
 split at h
 .rename_i k a k' b;subst hx;subst hy
  split at h
  .exact aeV h
  .exact aeV h
  .by_cases hk:k=k'
   .subst hk;simp only[xL] at h;exact as9 h
   .grind
 .rename_i k a k' b;subst hx;subst hy;by_cases hk:k=k'
  .subst hk;simp only[xL] at h;exact atb h
  .grind
 .rename_i a b;obtain⟨s,rfl,rfl⟩:=hx;obtain⟨s',rfl,rfl⟩:=hy;exact ata h
 .cases h
end
end
section
open Go
section
variable {v vx:AV}{vr:Bool}{d:Nat}{x:yr}
section
variable {ai:Nat->Nat}{P:xM}{m:Mp}{S:Nat->Prop}{w:yt}{t:yL}
def aqw{op:vL}{x y:xN}{a b:yr}(h:P.eqGuardType P.depth t=ycP\/∀xs ys,¬(a=.agg xs/\b=.agg ys))(hn:a≠.nilIface):
  (eqGuard op t x y a b).run P w=.ok () w:=by
 unfold eqGuard;cases op
 all_goals first
  | rfl
  | (
    cases a
    all_goals first
     | rfl
     | exact absurd rfl hn
     | (
      cases b
      all_goals first
       | rfl
       | (
         rcases h with h | h
         .simp [h]
         .exact absurd ⟨rfl,rfl⟩ (h _ _))))
def ayk{p q:Bool}(ht:P.underlying t=Ix .bool):(Op.equalIn (d+1) t (.bool p) (.bool q)).run P w=.ok (p==q) w:=by
 simp[Op.equalIn,underlying,ht]
def ZV{e:yL}(ht:P.underlying t=Ix (.slice e))(y:Option uM)(n c n' c':Nat):
  (Op.equalIn (d+1) t (.slice Iy n c) (.slice y n' c')).run P w=.ok y.isNone w:=by simp[Op.equalIn,underlying,ht]
def aj5{e:yL}(ht:P.underlying t=Ix (.slice e))(x:uM)(n c n' c':Nat):
  (Op.equalIn (d+1) t (.slice (Ix x) n c) (.slice Iy n' c')).run P w=.ok ycP w:=by simp[Op.equalIn,underlying,ht]
def aA9{ps rs:Array yL}(ht:P.underlying t=Ix (.func ps rs vr)):
  (Op.equalIn (d+1) t .nilFunc .nilFunc).run P w=.ok ycO w:=by simp[Op.equalIn,underlying,ht]
def aj6{ps rs:Array yL}(ht:P.underlying t=Ix (.func ps rs vr))(f:Go.Fn)(a b:Array yr):
  (Op.equalIn (d+1) t .nilFunc (.func f a b)).run P w=.ok ycP w:=by simp[Op.equalIn,underlying,ht]
def aj7{ps rs:Array yL}(ht:P.underlying t=Ix (.func ps rs vr))(f:Go.Fn)(a b:Array yr):
  (Op.equalIn (d+1) t (.func f a b) .nilFunc).run P w=.ok ycP w:=by simp[Op.equalIn,underlying,ht]
def agI(x y:yr):Op.equal t x y=Op.equalIn (9999+1) t x y:=rfl
def avI{vy:AV}{y:yr}{r:Bool}{e:yL}(ht:P.underlying t=Ix (.slice e))(hx:ak ai m S w vx x)(hy:ak ai m S w vy y)(h:mf .sl vx vy=Ix r):(Op.equal t x y).run P w=.ok r w:=by
 unfold mf at h
 split at h<;>simp_all only [yc,reduceCtorEq]
 all_goals subst h
 .subst hx;subst hy;exact ZV ht _ _ _ _ _
 .rcases hy with ⟨b,o,c,rfl,_⟩ | ⟨_,rfl,_⟩<;>(subst hx;exact ZV ht _ _ _ _ _)
 .obtain ⟨p,c,_,rfl,_⟩:=hy;subst hx;exact ZV ht _ _ _ _ _
 .rcases hx with ⟨b,o,c,rfl,_⟩ | ⟨_,rfl,_⟩<;>(subst hy;exact aj5 ht _ _ _ _ _)
 .obtain ⟨p,c,_,rfl,_⟩:=hx;subst hy;exact aj5 ht _ _ _ _ _
def avJ{vy:AV}{y:yr}{r:Bool}{ps rs:Array yL}(ht:P.underlying t=Ix (.func ps rs vr))(hx:ak ai m S w vx x)(hy:ak ai m S w vy y)(h:mf .fn vx vy=Ix r):(Op.equal t x y).run P w=.ok r w:=by
 unfold mf at h
 split at h<;>simp_all only [yc,reduceCtorEq]
 all_goals subst h
 .simp only [ak] at hx hy;subst hx;subst hy;exact aA9 ht
 .rename_i f _ _
  cases f with
  | f g=>simp only[ak] at hx hy;obtain⟨fi,ca,rfl,_⟩:=hy;subst hx;exact aj6 ht _ _ _
  | y l=>simp only[ak] at hx hy;obtain⟨p,_,rfl⟩:=hy;subst hx;exact aj6 ht _ _ _
 .rename_i f _ _
  cases f with
  | f g=>simp only[ak] at hx hy;obtain⟨fi,ca,rfl,_⟩:=hx;subst hy;exact aj7 ht _ _ _
  | y l=>simp only[ak] at hx hy;obtain⟨p,_,rfl⟩:=hx;subst hy;exact aj7 ht _ _ _
def avK{op:ycy}(hx:ak ai m S w vx x)(h:VE.unOp op vx=Ix v):∃u,(Op.unary op x).run P w=.ok u w/\ak ai m S w v u:=by
 unfold VE.unOp at h
 split at h
 .rename_i k n;subst hx;simp only[yc] at h;subst h;exact⟨_,by simp[Op.unary,Op.intArith];rfl,by simp[ak]⟩
 .rename_i k n;subst hx;simp only[oU,yc] at h;subst h;exact⟨_,by simp[Op.unary,Op.intBits];rfl,by simp[ak]⟩
 .rename_i b;subst hx;simp only[yc] at h;subst h;exact⟨_,by simp[Op.unary];rfl,by simp[ak]⟩
 .rename_i k b;subst hx;simp only[yc] at h;subst h;exact⟨_,by simp[Op.unary,Op.negFloat];rfl,by simp[ak]⟩
 .cases h
def agJ{s d:yL}{k:xh}(hd:P.underlying d=Ix (.int k))(hs:(∃k',P.underlying s=Ix (.int k'))\/∃k',P.underlying s=Ix (.float k'))(hx:ak ai m S w vx x)(h:zR (.toInt k) vx=Ix v):∃u,(convert s d x).run P w=.ok u w/\ak ai m S w v u:=by
 cases vx<;>simp only[zR,reduceCtorEq] at h
 case int k0 n=>
  simp only[ak] at hx;subst hx;simp only[yc] at h;subst h;refine⟨.int k (k.wrap n),?_,by simp[ak]⟩;rcases hs with ⟨k',h'⟩ | ⟨k',h'⟩<;>simp[convert,underlying,Conv.intToInt,hd,h']
 case dP sk b=>
  subst hx
  cases hi:(sk.decode b).toInt .zero with
  | none=>simp[hi] at h
  | some n=>
   simp only[hi] at h;by_cases hr:k.min<=n/\n<=k.max
   .simp only [hr,and_self,xL,yc] at h;subst h;refine⟨.int k n,?_,by simp[ak]⟩;rcases hs with ⟨k',h'⟩ | ⟨k',h'⟩<;>simp[convert,underlying,Conv.floatToInt,hd,h',hi,hr]
   .grind
def agK{s d:yL}{k:uJ}(hd:P.underlying d=Ix (.float k))(hs:(∃k',P.underlying s=Ix (.int k'))\/∃k',P.underlying s=Ix (.float k'))(hx:ak ai m S w vx x)(h:zR (.toFlt k) vx=Ix v):∃u,(convert s d x).run P w=.ok u w/\ak ai m S w v u:=by
 cases vx<;>simp only[zR,reduceCtorEq] at h
 case int k0 n=>
  simp only[ak] at hx;subst hx;simp only[yc] at h;subst h;refine⟨.float k (k.nearest n),?_,by simp[ak]⟩;rcases hs with ⟨k',h'⟩ | ⟨k',h'⟩<;>simp[convert,underlying,Conv.intToFloat,hd,h']
 case dP sk b=>
  simp only[ak] at hx;subst hx;by_cases he:sk=k
  .subst he;simp only[xL,yc] at h;subst h;refine⟨.float sk b,?_,by simp[ak]⟩;rcases hs with ⟨k',h'⟩ | ⟨k',h'⟩<;>simp[convert,underlying,Conv.floatToFloat,hd,h']
  .simp only [he,xr] at h
   cases Uh:sk.decode b with
   | nan _ _=>simp[Uh] at h
   | infinity _=>simp[Uh] at h
   | number sg mm ee=>
    simp only[Uh] at h
    cases aay:(k.decode (k.encode (.number sg mm ee))).isInfinity with
    | true=>simp[aay] at h
    | false=>
     simp only[aay,yH,xr,yc] at h;subst h;refine⟨.float k (k.encode (.number sg mm ee)),?_,by simp[ak]⟩;rcases hs with ⟨k',h'⟩ | ⟨k',h'⟩<;>simp[convert,underlying,Conv.floatToFloat,hd,h',he,Uh,aay]
def atd{s d:yL}(hd:P.underlying d=Ix .string)(hs:P.underlying s=Ix .string)(hx:ak ai m S w vx x)(h:zR .str vx=Ix v):∃u,(convert s d x).run P w=.ok u w/\ak ai m S w v u:=by
 cases vx<;>simp only[zR,reduceCtorEq] at h
 simp only[yc] at h;subst h;obtain⟨b,rfl,hb⟩:=hx;exact⟨.string b,by simp[convert,underlying,hs,hd],by simp only[ak];exact⟨b,rfl,hb⟩⟩
end
end
end
section
open Go
section
variable {v:AV}{k:Nat}{P:xM}{x:yr}
def arj(h:dM v=Ix k):∃kd,v=.int kd (k:Int):=by
 cases v<;>simp only[dM,reduceCtorEq] at h
 rename_i kd n
 cases n with
 | ofNat j=>simp only[yc] at h;subst h;exact⟨kd,rfl⟩
 | negSucc j=>cases h
section
variable {O:bC}{H:Hint}{m:Mp}{S:Nat->Prop}{w:yt}{tm:Env}{a:Act}
def CI{ai:Nat->Nat}(hx:ak ai m S w v x)(h:dM v=Ix k):∃kd,x=.int kd (k:Int):=by
 obtain⟨kd,rfl⟩:=arj h;simp only[ak] at hx
 grind
def run_sliceBound{kd:xh}{y:Nat}{code:BoundsCode}(h:k<=y):(Instr.sliceBound (.int kd (k:Int)) y code).run P w=.ok k w:=by
 have:(0:Int)<=(k:Int)/\(k:Int)<=(y:Int):=by lia
 simp[Instr.sliceBound,asIntOf,this]
def afL{isSlice:Bool}{len l h:Nat}{lo hi:Option xN}(hH:im O H)(ht:cp O m S w tm a.tmps)(hl:cS tm 0 (lo.map (aS H))=Ix l)(hh:cS tm len (hi.map (aS H))=Ix h)(h1:l<=h)(h2:h<=cap):
  (Instr.sliceBounds isSlice len cap (lo.map a.eval) (hi.map a.eval) Iy).run P w=.ok (l,h,cap) w:=by
 cases lo with
 | none=>
  simp only[uG,cS,yc] at hl;subst hl
  cases hi with
  | none=>
   simp only[uG,cS,yc] at hh;subst hh;simp[Instr.sliceBounds]
  | some y=>
   have⟨kd,e⟩:=CI (cO hH ht y) hh;simp only[Instr.sliceBounds,uG,vn,e,Sem.run_bind,Sem.run_pure,Result.andThen_ok,run_sliceBound h2]
 | some x=>
  have⟨kd,e⟩:=CI (cO hH ht x) hl
  cases hi with
  | none=>
   simp only[uG,cS,yc] at hh;subst hh;simp only[Instr.sliceBounds,uG,vn,e,Sem.run_bind,Sem.run_pure,Result.andThen_ok,run_sliceBound h1]
  | some y=>
   have⟨kd',e'⟩:=CI (cO hH ht y) hh;simp only[Instr.sliceBounds,vn,e,e',Sem.run_bind,Sem.run_pure,Result.andThen_ok,run_sliceBound h2,run_sliceBound h1]
def ark{t:yL}{lo hi:Option xN}{vx:AV}(hH:im O H)(ht:cp O m S w tm a.tmps)(hu:O.P.underlying t=Ix .string)(hx:ak O.ai m S w vx x){hp:Hp}(h:gI hp .str vx tm (lo.map (aS H)) (hi.map (aS H))=Ix v):
  ∃u,(Instr.sliceAt t x (lo.map a.eval) (hi.map a.eval) Iy).run O.P w=.ok u w/\ak O.ai m S w v u:=by
 cases vx<;>simp only[gI,reduceCtorEq] at h
 obtain⟨b,rfl,rfl⟩:=hx
 cases hl:cS tm 0 (lo.map (aS H)) with
 | none=>simp[hl] at h
 | some l=>
  simp only[hl] at h
  cases hh:cS tm (b.data.toList.map xp).length (hi.map (aS H)) with
  | none=>rw[hh] at h;cases h
  | some g=>
   rw[hh] at h;simp only at h
   cases hc:(yO l g&&yO g (b.data.toList.map xp).length) with
   | false=>rw[hc] at h;cases h
   | true=>
    rw[hc] at h;simp only[yN,yc] at h;subst h;simp only[yj] at hc;have h1:=yF hc.1;have h2:=yF hc.2;have hlen:(b.data.toList.map xp).length=b.size:=afK b;rw[hlen] at hh h2;refine⟨.string (b.extract l g),?_,?_⟩
    .simp only [Instr.sliceAt,Sem.run_bind,run_underlying hu,Result.andThen_ok,Instr.slice,tJ,yH,xr,Sem.run_pure,
      afL (P:=O.P) (isSlice:=ycP) (len:=b.size) (cap:=b.size) hH ht hl hh h1 h2]
    .simp only [ak];refine⟨_,rfl,?_⟩;rw[Lib.extract_data,List.map_take,List.map_drop,List.drop_take]
def ate{t e:yL}{lo hi:Option xN}{vx:AV}(hH:im O H)(ht:cp O m S w tm a.tmps)(hu:O.P.underlying t=Ix (.slice e))(hz:cY O.P e=Ix sz){hp:Hp}(hh:aW O m S w hp ct)(hx:ak O.ai m S w vx x)(h:gI hp (.sl sz) vx tm (lo.map (aS H)) (hi.map (aS H))=Ix v):
  ∃u,(Instr.sliceAt t x (lo.map a.eval) (hi.map a.eval) Iy).run O.P w=.ok u w/\ak O.ai m S w v u:=by
 have fL:(vU e).run O.P w=.ok sz w:=by
  unfold cY at hz
  cases hi:O.P.info? e with
  | none=>simp[hi] at hz
  | some i=>simp_all[vU,typeInfo]
 have Nt:∀(ad:Option uM) (n c l g:Nat),cS tm 0 (lo.map (aS H))=Ix l->cS tm n (hi.map (aS H))=Ix g->l<=g->g<=c->
   (Instr.sliceAt t (.slice ad n c) (lo.map a.eval) (hi.map a.eval) Iy).run O.P w=.ok (.slice (if c=l then ad else ad.map (·.add (l*sz))) (g-l) (c-l)) w:=by
  intro ad n c l g hl hg h1 h2
  simp only[Instr.sliceAt,Sem.run_bind,run_underlying hu,Result.andThen_ok,Instr.slice,Sem.run_pure,fL,
   afL (P:=O.P) (isSlice:=ycO) (len:=n) (cap:=c) hH ht hl hg h1 h2]
 cases vx<;>simp only[gI,reduceCtorEq] at h
 case ae=>
  simp only[ak] at hx;subst hx
  cases hl:cS tm 0 (lo.map (aS H)) with
  | none=>simp[hl] at h
  | some l=>
   cases l with
   | succ l=>simp[hl] at h
   | zero=>
    simp only[hl] at h
    cases hh:cS tm 0 (hi.map (aS H)) with
    | none=>simp[hh] at h
    | some g=>
     cases g with
     | succ g=>simp[hh] at h
     | zero=>
      simp only[hh,yc] at h;subst h;exact⟨_,Nt Iy 0 0 0 0 hl hh (ym _) (ym _),by simp[ak]⟩
 case aF ex n cs=>
  simp only[ak] at hx;rcases hx with ⟨b,o,c,rfl,PL,hex,hS,jE,lz⟩ | ⟨ad,rfl,rfl,rfl⟩
  case inr=>
   cases hl:cS tm 0 (lo.map (aS H)) with
   | none=>simp[hl] at h
   | some l=>
    simp only[hl] at h
    cases hh:cS tm 0 (hi.map (aS H)) with
    | none=>simp[hh] at h
    | some g=>
     simp only[hh] at h
     cases hc:(yO l g&&yO g 0) with
     | false=>rw[hc] at h;cases h
     | true=>
      rw[hc] at h;simp only[yN,yc] at h;subst h;simp only[yj] at hc;have h1:=yF hc.1;have h2:=yF hc.2;have hg:g=0:=by lia
      subst hg;have nI:l=0:=by lia
      subst nI;refine⟨_,Nt (Ix ad) 0 0 0 0 hl hh h1 h2,?_⟩;simp only[ak];exact .inr ⟨ad,by simp,by simp,by simp[slice]⟩
  cases hl:cS tm 0 (lo.map (aS H)) with
  | none=>simp[hl] at h
  | some l=>
   simp only[hl] at h
   cases hh:cS tm n (hi.map (aS H)) with
   | none=>simp[hh] at h
   | some g=>
    simp only[hh] at h
    cases hc:(yO l g&&yO g n) with
    | false=>rw[hc] at h;cases h
    | true=>
     rw[hc] at h;simp only[yN,yc] at h;subst h;simp only[yj] at hc;have h1:=yF hc.1;have h2:=yF hc.2;refine⟨_,Nt (Ix ⟨b,o,Iy⟩) n c l g hl hh h1 (by lia),?_⟩;have Tm:aD (slice (l*sz) ((g-l)*sz) cs)=ycO:=by
      have pd:∀(k:Nat) (cs:List AV),aD cs=ycO->aD (cs.drop k)=ycO:=by
       intro k
       induction k with
       | zero=>intro cs h;simpa using h
       | succ k ih=>intro cs h;cases cs with
        | nil=>simpa using h
        | cons c cs=>simp only[aD,yj] at h;simpa using ih cs h.2
      have pt:∀(k:Nat) (cs:List AV),aD cs=ycO->aD (cs.take k)=ycO:=by
       intro k
       induction k with
       | zero=>intro cs h;simp[aD]
       | succ k ih=>intro cs h;cases cs with
        | nil=>simp[aD]
        | cons c cs=>simp only[aD,yj,wS] at h ⊢;exact⟨h.1,ih cs h.2⟩
      exact pt _ _ (pd _ _ jE)
     have alA:(ex&&yG g n)=ycO->c-l=g-l:=by
      intro hq;simp only[yj] at hq
      have:=hex hq.1
      have:=yz hq.2
      lia
     simp only[ak];by_cases oE:c=l
     .have h0:g-l=0:=by lia
      have qF:slice (l*sz) ((g-l)*sz) cs=[]:=by simp[slice,h0]
      rw[qF];exact .inl ⟨b,o,c-l,by simp[oE],by lia,alA,.inl rfl,rfl,by simp[cf]⟩
     .refine .inl ⟨b,o+l*sz,c-l,by simp[oE,zI],by lia,alA,?_,Tm,?_⟩
      .rcases hS with rfl | hS
       .exact .inl (by simp[slice])
       .exact .inr hS
      .exact F6 _ _ _ _ (Bo _ _ _ _ lz)
 case av id o n=>
  simp only[ak] at hx;obtain⟨p,c,hm,rfl,PL,VH⟩:=hx
  split at h
  case h_2=>cases h
  rename_i rw0 pu0 Ca z0 cs0 G2;have⟨p',arr,t',iT,_,dj,_⟩:=hh.obj id _ _ G2 hm;rw[hm] at iT;injection iT with iT
  subst iT
  cases hl:cS tm 0 (lo.map (aS H)) with
  | none=>simp[hl] at h
  | some l=>
   simp only[hl] at h
   cases hh:cS tm n (hi.map (aS H)) with
   | none=>simp[hh] at h
   | some g=>
    simp only[hh] at h
    cases hc:(yO l g&&yO g n&&yG z0 sz) with
    | false=>rw[hc] at h;cases h
    | true=>
     rw[hc] at h;simp only[yN] at h;simp only[yj] at hc;have h1:=yF hc.1.1;have h2:=yF hc.1.2;have hpz:p.z=sz:=dj.trans (yz hc.2)
     cases he:(yG l g&& !yG l 0) with
     | true=>
      rw[he] at h;simp only[yN,yc] at h;subst h;simp only[yj] at he;have HK:=yz he.1;refine⟨_,Nt (Ix ⟨p.b,p.o+o,Iy⟩) n c l g hl hh h1 (by lia),?_⟩;simp only[ak];by_cases oE:c=l
      .exact .inl ⟨p.b,p.o+o,c-l,by simp[oE];lia,by lia,by simp,by simp,by simp[aD],by simp[cf]⟩
      .exact .inl ⟨p.b,p.o+o+l*sz,c-l,by simp[oE,zI];lia,by lia,by simp,by simp,by simp[aD],by simp[cf]⟩
     | false=>
      rw[he] at h;simp only[y5,yc] at h;subst h;have oE:c=l->l=0:=by
       intro oE;have HK:l=g:=by lia
       cases nI:yG l 0 with
       | true=>exact yz nI
       | false=>rw[HK,vd,<-HK,nI] at he;cases he
      refine⟨_,Nt (Ix ⟨p.b,p.o+o,Iy⟩) n c l g hl hh h1 (by lia),?_⟩;simp only[ak];refine⟨p,c-l,hm,?_,by lia,?_⟩
      .by_cases aaz:c=l
       .have:=oE aaz;subst this;subst aaz;simp
       .simp [aaz,zI,tM]
      .rw [hpz] at VH ⊢
       have:c*sz=l*sz+(c-l)*sz:=by rw[<-xU];congr 1;lia
       lia
end
end
end
section
open Go
section
variable {v vi vx:AV}{ag:Bool}{cs:List AV}{k sz:Nat}{i x:yr}
def rX{P:xM}{w:yt}{t:yL}(hz:cY P t=Ix sz):(vU t).run P w=.ok sz w:=by
 unfold cY at hz
 cases hi:P.info? t with
 | none=>simp[hi] at hz
 | some i=>simp_all[vU,typeInfo]
section
variable {O:bC}{H:Hint}{m:Mp}{S:Nat->Prop}{w:yt}{tm:Env}{a:Act}{hp:Hp}{ct:Nat}
def X8{id o n:Nat}{pu:Bool}{p:Pl}(hh:aW O m S w hp ct)(hg:au hp id=Ix (.cells rw pu ex sz cs))(hm:m id=Ix p):
  cf O.ai m S w cs p.b p.o:=by
 have⟨p',arr,t',iT,_,_,_,_,_,hr,_⟩:=hh.obj id _ _ hg hm
 grind
def aBa{t:yL}(hh:aW O m S w hp ct)(hz:cY O.P t=Ix sz)(ha:eK O.P t=Ix ag)(hx:ak O.ai m S w vx x)(h:jx hp sz ag vx=Ix v):∃u,(Instr.loadAt t x).run O.P w=.ok u w/\ak O.ai m S w v u:=by
 cases vx<;>simp only[jx,reduceCtorEq] at h
 case ptr id o=>
  obtain⟨p,hm,rfl⟩:=hx
  split at h
  case h_2=>cases h
  rename_i rw0 pu0 Ca z0 cs0 G2;have hr:=X8 (id:=id) (o:=0) (n:=0) hh G2 hm;have⟨u,h1,h2⟩:=Su hz ha (Bo o cs0 p.b p.o hr) h;exact⟨u,by simp only[Instr.loadAt,Instr.sureAddr,Sem.run_bind,Sem.run_pure,Result.andThen_ok];exact h1,h2⟩
 case aQ cs=>
  obtain⟨b,o,rfl,_,_,hr⟩:=hx;have⟨u,h1,h2⟩:=Su hz ha hr h;exact⟨u,by simp only[Instr.loadAt,Instr.sureAddr,Sem.run_bind,Sem.run_pure,Result.andThen_ok];exact h1,h2⟩
def D3:∀(k:Nat) (cs:List AV),aD cs=ycO->aD (cs.drop k)=ycO
 | 0,cs,h=>by simpa using h
 | k+1,[],h=>by simpa using h
 | k+1,c::cs,h=>by simp only[aD,yj] at h;simpa using D3 k cs h.2
def XB{b o:Nat}(h2:cs=[]\/S b)(h3:aD cs=ycO)(h4:cf O.ai m S w cs b o):ak O.ai m S w (.aQ (cs.drop k)) (.pointer (Ix ⟨b,o+k,Iy⟩)):=by
 refine⟨b,o+k,rfl,?_,D3 k cs h3,Bo k cs b o h4⟩
 grind
def ayl{t:yL}{fs:Array tE}{i:Nat}{f:tE}(hu:O.P.underlying t=Ix (.struct fs))(hf:fs[i]? =Ix f)(hz:cY O.P f.type=Ix (sz+1))(hx:ak O.ai m S w vx x)(h:JB f.offset vx=Ix v):∃u,(Instr.fieldAt t x i).run O.P w=.ok u w/\ak O.ai m S w v u:=by
 have aj8:∀(b o:Nat),(Instr.fieldAt t (.pointer (Ix ⟨b,o,Iy⟩)) i).run O.P w=.ok (.pointer (Ix ⟨b,o+f.offset,Iy⟩)) w:=by
  intro b o;simp only[Instr.fieldAt,Sem.run_bind,run_underlying hu,Result.andThen_ok,hf,Instr.sureAddr,Sem.run_pure,fieldPlace,rX hz,Nat.succ_ne_zero,xr,zI]
 cases vx<;>simp only[JB,reduceCtorEq] at h
 case ptr id o=>
  obtain⟨p,hm,rfl⟩:=hx;simp only[yc] at h;subst h;exact⟨_,aj8 _ _,by simp only[ak];exact⟨p,hm,by rw[tM]⟩⟩
 case aQ cs=>
  obtain⟨b,o,rfl,h2,h3,h4⟩:=hx
  cases hc:yO f.offset cs.length with
  | false=>rw[hc] at h;cases h
  | true=>
   rw[hc] at h;simp only[yN,yc] at h;subst h;exact⟨_,aj8 _ _,XB h2 h3 h4⟩
def aym{t:yL}{fs:Array tE}{i:Nat}{f:tE}(hu:O.P.underlying t=Ix (.struct fs))(hf:fs[i]? =Ix f)(hz:cY O.P f.type=Ix sz)(ha:eK O.P f.type=Ix ag)(hx:ak O.ai m S w vx x)(h:Tk f.offset sz ag vx=Ix v):∃u,(Instr.field t x i).run O.P w=.ok u w/\ak O.ai m S w v u:=by
 cases vx<;>simp only[Tk,reduceCtorEq] at h
 obtain⟨xs,rfl,hr⟩:=hx;have⟨u,h1,h2⟩:=ah1 hz ha hr h;exact⟨u,by simp only[Instr.field,Sem.run_bind,run_underlying hu,Result.andThen_ok,hf,asAgg,Sem.run_pure];exact h1,h2⟩
def ayn{t e:yL}(hu:O.P.underlying t=Ix (.slice e))(hz:cY O.P e=Ix sz)(hx:ak O.ai m S w vx x)(hi:ak O.ai m S w vi i)(hk:dM vi=Ix k)(h:iZ sz k vx=Ix v):∃u,(Instr.indexAt t x i).run O.P w=.ok u w/\ak O.ai m S w v u:=by
 obtain⟨kd,rfl⟩:=CI hi hk;have Oc:∀(b o n c:Nat),k<n->(Instr.indexAt t (.slice (Ix ⟨b,o,Iy⟩) n c) (.int kd (k:Int))).run O.P w=.ok (.pointer (Ix ⟨b,o+k*sz,Iy⟩)) w:=by
  intro b o n c Cb;have hr:(0:Int)<=(k:Int)/\(k:Int)<(n:Int):=by lia
  simp[Instr.indexAt,asIntOf,run_underlying hu,rX hz,hr,zI]
  grind
 cases vx<;>simp only[iZ,reduceCtorEq] at h
 case av id o n=>
  obtain⟨p,c,hm,rfl,PL,VH⟩:=hx
  cases hc:yU k n with
  | false=>rw[hc] at h;cases h
  | true=>
   rw[hc] at h;simp only[yN,yc] at h;subst h;have Cb:k<n:=by simp_all
   exact⟨_,Oc _ _ _ _ Cb,by simp only[ak];exact⟨p,hm,by rw[tM]⟩⟩
 case aF ex n cs=>
  rcases hx with ⟨b,o,c,rfl,PL,hex,h2,h3,h4⟩ | ⟨a,rfl,rfl,rfl⟩
  case inr=>
   have:yU k 0=ycP:=by cases hq:yU k 0 with | false=>rfl | true=>simp only[yU,ycK] at hq;lia
   grind
  cases hc:yU k n with
  | false=>rw[hc] at h;cases h
  | true=>
   rw[hc] at h;simp only[yN,yc] at h;subst h;have Cb:k<n:=by simp_all
   exact⟨_,Oc _ _ _ _ Cb,XB h2 h3 h4⟩
def ayo{t e:yL}{len:Nat}(hu:O.P.underlying t=Ix (.array len e))(hz:cY O.P e=Ix sz)(hx:ak O.ai m S w vx x)(hi:ak O.ai m S w vi i)(hk:dM vi=Ix k)(h:Tl len sz k vx=Ix v):∃u,(Instr.indexAt t x i).run O.P w=.ok u w/\ak O.ai m S w v u:=by
 obtain⟨kd,rfl⟩:=CI hi hk;have Oc:∀(b o:Nat),k<len->(Instr.indexAt t (.pointer (Ix ⟨b,o,Iy⟩)) (.int kd (k:Int))).run O.P w=.ok (.pointer (Ix ⟨b,o+k*sz,Iy⟩)) w:=by
  intro b o Cb;have hr:(0:Int)<=(k:Int)/\(k:Int)<(len:Int):=by lia
  simp[Instr.indexAt,asIntOf,run_underlying hu,rX hz,hr,zI,Instr.sureAddr]
  grind
 cases vx<;>simp only[Tl,reduceCtorEq] at h
 case ptr id o=>
  obtain⟨p,hm,rfl⟩:=hx
  cases hc:yU k len with
  | false=>rw[hc] at h;cases h
  | true=>
   rw[hc] at h;simp only[yN,yc] at h;subst h;have Cb:k<len:=by simp_all
   exact⟨_,Oc _ _ Cb,by simp only[ak];exact⟨p,hm,by rw[tM]⟩⟩
 case aQ cs=>
  obtain⟨b,o,rfl,h2,h3,h4⟩:=hx
  cases hc:yU k len with
  | false=>rw[hc] at h;cases h
  | true=>
   rw[hc] at h;simp only[yN,yc] at h;subst h;have Cb:k<len:=by simp_all
   exact⟨_,Oc _ _ Cb,XB h2 h3 h4⟩
def ayp{t e:yL}{len:Nat}(hu:O.P.underlying t=Ix (.array len e))(hz:cY O.P e=Ix sz)(ha:eK O.P e=Ix ag)(hx:ak O.ai m S w vx x)(hi:ak O.ai m S w vi i)(hk:dM vi=Ix k)(h:N7 len sz ag k vx=Ix v):
  ∃u,(Instr.index t x i).run O.P w=.ok u w/\ak O.ai m S w v u:=by
 obtain⟨kd,rfl⟩:=CI hi hk;cases vx<;>simp only[N7,reduceCtorEq] at h
 obtain⟨xs,rfl,hr⟩:=hx
 cases hc:yU k len with
 | false=>rw[hc] at h;cases h
 | true=>
  rw[hc] at h;have Cb:k<len:=by simp_all
  have⟨u,h1,h2⟩:=ah1 hz ha hr h;have bt:(0:Int)<=(k:Int)/\(k:Int)<(len:Int):=by lia
  exact⟨u,by simp[Instr.index,asIntOf,run_underlying hu,rX hz,bt,h1];intro hle;exact absurd hle (by lia),h2⟩
def ayq{t:yL}(hu:O.P.underlying t=Ix .string)(hx:ak O.ai m S w vx x)(hi:ak O.ai m S w vi i)(hk:dM vi=Ix k)(h:rm k vx=Ix v):
  ∃u,(Instr.index t x i).run O.P w=.ok u w/\ak O.ai m S w v u:=by
 obtain⟨kd,rfl⟩:=CI hi hk;cases vx<;>simp only[rm,reduceCtorEq] at h
 obtain⟨b,rfl,rfl⟩:=hx
 cases hs:(b.data.toList.map xp)[k]? with
 | none=>rw[hs] at h;cases h
 | some q=>
  rw[hs] at h;simp only[yc] at h;subst h;rw[ybj] at hs
  cases hb:b.data.toList[k]? with
  | none=>rw[hb] at hs;cases hs
  | some c=>
   rw[hb] at hs;simp only[vn,yc] at hs;subst hs;have dd:b[k]? =Ix c:=by
    have aY:k<b.data.toList.length:=by
     grind
    have fL:k<b.size:=by simp_all
    rw[getElem?_pos b k fL];rw[xz aY] at hb;rw[<-hb];rfl
   refine⟨.int .u8 c.toNat,?_,by simp[ak]⟩;simp[Instr.index,asIntOf,run_underlying hu,dd]
end
end
end
section
open Go
section
variable {ai:Nat->Nat}{m:Mp}{S:Nat->Prop}{w:yt}
def XC:∀{v:AV} {u:yr},ak ai m S w v u->bP (cellsOf v)=ycO->aE ai m S w (cellsOf v) u.cells.toList:=by
 intro v u h h1;cases v
 case undef=>simp[cellsOf,bP,bF] at h1
 case bR=>simp[cellsOf,bP,bF] at h1
 case fn f a b=>
  cases f with
  | f g=>have h':=h;obtain⟨fi,ca,rfl,_⟩:=h';exact⟨_,_,rfl,h,rfl⟩
  | y l=>have h':=h;obtain⟨p,_,rfl⟩:=h';exact⟨_,_,rfl,h,rfl⟩
 all_goals
  have h':=h;simp only[ak] at h';simp only[cellsOf,Value.cells,aE]
  grind
def Iz(v:yr):aE ai m S w (cellsOf (fQ v)) v.cells.toList:=by
 have h:=Ss (ai:=ai) (m:=m) (S:=S) (w:=w) v;cases v
 case agg xs=>
  obtain⟨xs,e,hr⟩:=h;injection e with e
  subst e;exact hr
 case pointer p=>cases p<;>(simp only[fQ] at h ⊢;exact⟨_,_,rfl,h,rfl⟩)
 case map p=>cases p<;>(simp only[fQ] at h ⊢;exact⟨_,_,rfl,h,rfl⟩)
 case slice p n c=>
  cases p
  .cases n
   .cases c<;>(simp only[fQ] at h ⊢;exact⟨_,_,rfl,h,rfl⟩)
   .simp only [fQ] at h ⊢;exact⟨_,_,rfl,h,rfl⟩
  .simp only [fQ] at h ⊢;exact⟨_,_,rfl,h,rfl⟩
 all_goals (simp only[fQ] at h ⊢;exact⟨_,_,rfl,h,rfl⟩)
def pL:∀{a b:List AV} {x y:List yr},aE ai m S w a x->aE ai m S w b y->aE ai m S w (a++b) (x++y)
 | [],b,x,y,h,k=>by simp only[aE] at h;subst h;simpa using k
 | c::a,b,x,y,h,k=>by
  obtain⟨u,r,rfl,h2,h3⟩:=h;exact⟨u,r++y,rfl,h2,pL h3 k⟩
def MO:∀(k:Nat) {cs:List AV} {us:List yr},aE ai m S w cs us->aE ai m S w (cs.drop k) (us.drop k)
 | 0,cs,us,h=>by simpa using h
 | k+1,[],us,h=>by simp only[aE] at h;subst h;simp[aE]
 | k+1,c::cs,us,h=>by simp only[aE] at h;obtain⟨u,r,rfl,_,h3⟩:=h;simpa using MO k h3
def IL:∀(k:Nat) {cs:List AV} {us:List yr},aE ai m S w cs us->aE ai m S w (cs.take k) (us.take k)
 | 0,cs,us,h=>by simp[aE]
 | k+1,[],us,h=>by simp only[aE] at h;subst h;simp[aE]
 | k+1,c::cs,us,h=>by
  simp only[aE] at h;obtain⟨u,r,rfl,h2,h3⟩:=h;exact⟨u,_,rfl,h2,IL k h3⟩
def X9:∀{cs:List AV} {us:List yr} {i:Nat} {v:AV},aE ai m S w cs us->cs[i]? =Ix v->∃u,us[i]? =Ix u/\ak ai m S w v u
 | [],us,i,v,_,h=>by simp at h
 | c::cs,us,0,v,h,e=>by
  simp only[aE] at h;obtain⟨u,r,rfl,h2,h3⟩:=h;simp at e;subst e;exact⟨u,rfl,h2⟩
 | c::cs,us,i+1,v,h,e=>by
  simp only[aE] at h;obtain⟨u,r,rfl,h2,h3⟩:=h;simpa using X9 h3 e
end
def afM(off:Nat):∀(new:List yr) (j:Nat) (cells:Array yr),off+j+new.length<=cells.size->
  ((new.zipIdx j).foldl (fun (cs:Array yr) (p:yr×Nat)=>cs.setIfInBounds (off+p.2) p.1) cells).toList=
   cells.toList.take (off+j)++new++cells.toList.drop (off+j+new.length)
 | [],j,cells,_=>by simp
 | v::r,j,cells,h=>by
  simp only[yB] at h;have ih:=afM off r (j+1) (cells.setIfInBounds (off+j) v) (by simp;omega);simp only[List.zipIdx_cons,List.foldl_cons];rw[ih];have aY:off+j<cells.toList.length:=by grind
  have h1:(cells.setIfInBounds (off+j) v).toList=cells.toList.set (off+j) v:=by simp
  rw[h1,show off+(j+1)=off+j+1 by omega];have h2:(cells.toList.set (off+j) v).take (off+j+1)=cells.toList.take (off+j)++[v]:=by
   rw[List.take_succ_eq_append_getElem (by simpa using aY)];simp[List.take_set_of_le]
  have h3:(cells.toList.set (off+j) v).drop (off+j+1+r.length)=cells.toList.drop (off+j+(r.length+1)):=by
   rw[List.drop_set_of_lt (by omega)];congr 1;omega
  grind
section
variable {O:bC}{H:Hint}{m:Mp}{S:Nat->Prop}{w:yt}{tm:Env}{a:Act}
def Sv(hH:im O H)(ht:cp O m S w tm a.tmps){place:Nat->Option (Nat×Nat)}:∀(parts:List (Nat×xN)) (ps:List (Nat×Nat×X)) (zero cs:List AV) (cells:Array yr),
  partsOf H place parts=Ix ps->aE O.ai m S w zero cells.toList->fill tm zero ps=Ix cs->
  ∃out,Instr.fill place cells (parts.map fun p=>(p.1,a.eval p.2))=Ix out/\aE O.ai m S w cs out.toList
 | [],ps,zero,cs,cells,hp,hz,hf=>by
  simp only[partsOf,yc] at hp;subst hp;simp only[fill,yc] at hf;subst hf;exact⟨cells,rfl,hz⟩
 | (i,x)::r,ps,zero,cs,cells,hp,hz,hf=>by
  simp only[partsOf] at hp
  cases fR:place i with
  | none=>simp[fR] at hp
  | some q=>
   obtain⟨o,s⟩:=q;simp only[fR] at hp
   cases oF:partsOf H place r with
   | none=>simp[oF] at hp
   | some l=>
    simp only[oF,yc] at hp;subst hp;simp only[fill] at hf
    cases hc:(yG (cellsOf (aC tm (aS H x))).length s&&yO (o+s) zero.length&&bP (cellsOf (aC tm (aS H x)))) with
    | false=>rw[hc] at hf;cases hf
    | true=>
     rw[hc] at hf;simp only[yj] at hc;have hle:=yF hc.1.2;have hrx:=XC (cO hH ht x) hc.2;have qG:=kK _ _ hrx;have qH:=kK _ _ hz;have fL:(a.eval x).cells.size=s:=by simp_all
     have dA:cells.size=zero.length:=by omega
     have aBb:=afM o (a.eval x).cells.toList 0 cells (by simp;omega);have dj:aE O.ai m S w (over o (cellsOf (aC tm (aS H x))) zero)
       ((a.eval x).cells.zipIdx.foldl (fun (cs:Array yr) (p:yr×Nat)=>cs.setIfInBounds (o+p.2) p.1) cells).toList:=by
      rw[<-Array.foldl_toList,Array.toList_zipIdx,aBb];rw[show (a.eval x).cells.toList.length=(cellsOf (aC tm (aS H x))).length from qG];exact pL (pL (IL o hz) hrx) (MO _ hz)
     obtain⟨out,h1,h2⟩:=Sv hH ht r l _ cs _ oF dj hf;simp only[yS,Instr.fill,fR,fL]
     grind
end
end
section
open Go
def afN(p q:ByteArray):(p==q)=cU (pT p) (pT q):=by
 have h:(p==q)=(p.data==q.data):=by cases p;rfl
 rw[h,afJ,ByteArray.toList_eq,ByteArray.toList_eq]
 simp_all
def Ui:vM->Bool
 | .bool | .int _ | .string=>ycO
 | _=>ycP
def fits(d:vM)(v:AV):Bool:=
 match d,v with
 | .int _,.int _ _ | .string,.str _ | .bool,.bool _=>ycO
 | _,_=>ycP
def Found(ai:Nat->Nat)(m:Mp)(S:Nat->Prop)(w:yt)(f:Option (Option (Nat×yr))):Option AV->Prop
 | none=>f=Ix Iy
 | some v=>∃j u,f=Ix (Ix (j,u))/\ak ai m S w v u
section
variable {O:bC}{ai:Nat->Nat}{m:Mp}{S:Nat->Prop}{w:yt}
def agL{vk vk':AV}{k k':yr}{r:Bool}{d:vM}(hk:ak ai m S w vk k)(A2:ak ai m S w vk' k')(h:BL vk vk'=Ix r)(hd:fits d vk=ycO):Instr.sameNow d k k'=Ix r:=by
 unfold BL at h
 split at h
 .rename_i j x j' y;subst hk;subst A2;by_cases hj:j=j'
  .simp only [hj,xL,yc] at h;subst hj;cases d<;>simp[fits] at hd
   simpa[Instr.sameNow] using h
  .grind
 .simp only [ak] at hk A2;obtain⟨s,rfl,rfl⟩:=hk;obtain⟨s',rfl,rfl⟩:=A2;cases d<;>simp[fits] at hd
  simp only[Instr.sameNow,afN];rw[<-h];rfl
 .simp only [ak] at hk A2;subst hk;subst A2;cases d<;>simp[fits] at hd
  simp[Instr.sameNow,h]
 .cases h
def Ya{vk:AV}{k:yr}{d:vM}(hk:ak ai m S w vk k)(hd:fits d vk=ycO):∀(ks vs:List AV) (es:List tc) (i:Nat) (r:Option AV),
  aE ai m S w ks (es.map (·.key))->aE ai m S w vs (es.map (·.val))->BM vk ks vs=Ix r->Found ai m S w (Instr.findNow d k es i) r
 | [],vs,es,i,r,h1,h2,h=>by
  simp only[aE,yaS] at h1;subst h1;simp only[BM,yc] at h;subst h;rfl
 | c::ks,[],es,i,r,h1,h2,h=>by simp only[BM] at h;cases h
 | c::ks,v::vs,es,i,r,h1,h2,h=>by
  cases es with
  | nil=>simp[aE] at h1
  | cons e es=>
   obtain⟨u,t,⟨rfl,rfl⟩,hc,VI⟩:=h1;obtain⟨u',t',⟨rfl,rfl⟩,hv,Dx⟩:=h2;simp only[BM] at h
   cases Dy:BL vk c with
   | none=>simp[Dy] at h
   | some b=>
    have hs:=agL (d:=d) hk hc Dy hd
    cases b with
    | true=>
     simp only[Dy,yc] at h;subst h;exact⟨i,e.val,by simp[Instr.findNow,hs],hv⟩
    | false=>
     simp only[Dy] at h;have ih:=Ya hk hd ks vs es (i+1) r VI Dx h;simpa[Instr.findNow,hs] using ih
def Q6{P:xM}{kt:yL}{d:vM}(hu:P.underlying kt=Ix d)(hd:Ui d=ycO)(b:Bool)(k:yr):(Instr.checkKey b 10000 kt k).run P w=.ok () w:=by
 have:∀n,(Instr.checkKey b (n+1) kt k).run P w=.ok () w:=by
  cases d<;>simp[Ui] at hd<;>simp[Instr.checkKey,run_underlying hu]
 grind
def ayr{t kt e:yL}{d:vM}{ok:Bool}{hp:Hp}{vx vk v:AV}{x k zero:yr}(hh:aW O m S w hp ct)(hu:O.P.underlying t=Ix (.map kt e))(hk:O.P.underlying kt=Ix d)(hd:Ui d=ycO)(hdk:fits d vk=ycO)(hz:(zeroValue e).run O.P w=.ok zero w)(hx:ak O.ai m S w vx x)(hkr:ak O.ai m S w vk k){z:AV}(hzr:ak O.ai m S w z zero){r:Option AV}(hr:oc hp vk vx=Ix r)(hv:(match r with | some u=>(bif ok then AV.ax [u,.bool ycO] else u) | none=>(bif ok then AV.ax [z,.bool ycP] else z))=v):
  ∃u,(Instr.lookup t x k ok).run O.P w=.ok u w/\ak O.ai m S w v u:=by
 have fin:∀(u:AV) (uu:yr) (b:Bool),ak O.ai m S w u uu->ak O.ai m S w (bif ok then AV.ax [u,.bool b] else u) (if ok then .tuple #[uu,.bool b] else uu):=by
  intro u uu b h
  cases ok with
  | true=>simp only[yN,xL,ak,aE];exact⟨_,rfl,_,_,rfl,h,_,_,rfl,rfl,rfl⟩
  | false=>simpa using h
 have body:∀(x':yr) (es:Array tc),((x'=.map Iy/\es=#[])\/∃b clock,x'=.map (Ix b)/\w.heap[b]? =Ix (.map es clock))->Found O.ai m S w (Instr.findNow d k es.toList 0) r->
   ∃u,(Instr.lookup t x' k ok).run O.P w=.ok u w/\ak O.ai m S w v u:=by
  intro x' es hl hf
  cases r with
  | none=>
   have rL:Instr.findNow d k es.toList 0=Ix Iy:=hf;refine⟨if ok then .tuple #[zero,.bool ycP] else zero,?_,by rw[<-hv];exact fin z zero ycP hzr⟩
   rcases hl with ⟨rfl,rfl⟩ | ⟨b,clock,rfl,hb⟩
   .have alB:Instr.findNow d k [] 0=Ix Iy:=rfl;simp[Instr.lookup,run_underlying hu,Q6 hk hd,Instr.findKey,run_underlying hk,alB,hz]
   .simp [Instr.lookup,run_underlying hu,getObj,Sem.run,hb,Q6 hk hd,Instr.findKey,run_underlying hk,rL,hz]
  | some v'=>
   obtain⟨j,u,h1,h2⟩:=hf;refine⟨if ok then .tuple #[u,.bool ycO] else u,?_,by rw[<-hv];exact fin v' u ycO h2⟩
   rcases hl with ⟨rfl,rfl⟩ | ⟨b,clock,rfl,hb⟩
   .have alB:Instr.findNow d k [] 0=Ix Iy:=rfl
    grind
   .simp [Instr.lookup,run_underlying hu,getObj,Sem.run,hb,Q6 hk hd,Instr.findKey,run_underlying hk,h1]
 cases vx<;>simp only[oc,reduceCtorEq] at hr
 case nD=>
  simp only[yc] at hr;subst hr;simp only[ak] at hx;subst hx;exact body _ #[] (.inl ⟨rfl,rfl⟩) rfl
 case map id=>
  simp only[ak] at hx;obtain⟨p,hm,rfl⟩:=hx
  split at hr
  case h_2=>cases hr
  rename_i rw0 ks vs G2;obtain⟨p',es,clock,iT,hb,h1,h2,_⟩:=hh.obj id _ _ G2 hm;rw[hm] at iT;injection iT with iT;subst iT
  exact body _ es (.inr ⟨_,_,rfl,hb⟩) (Ya hkr hdk ks vs es.toList 0 r h1 h2 hr)
 case nE ks vs=>
  simp only[ak] at hx;obtain⟨b,es,clock,rfl,_,_,_,hb,h1,h2⟩:=hx;exact body _ es (.inr ⟨_,_,rfl,hb⟩) (Ya hkr hdk ks vs es.toList 0 r h1 h2 hr)
end
end
section
open Go
def MA:∀(k1 k2:List Nat) (a b:List AV) (r:Bool),eU (k1++k2) a b=Ix r->
  ∃r1 r2,eU k1 (a.take k1.length) (b.take k1.length)=Ix r1/\eU k2 (a.drop k1.length) (b.drop k1.length)=Ix r2/\r=(r1&&r2)
 | [],k2,a,b,r,h=>⟨ycO,r,by simp[eU],by simpa using h,by simp⟩
 | k::k1,k2,[],b,r,h=>by
  simp only[xC] at h;unfold eU at h
  grind
 | k::k1,k2,x::a,[],r,h=>by
  unfold eU at h
  grind
 | k::k1,k2,x::a,y::b,r,h=>by
  have step:∀(q:Bool) (f:Bool->Bool),(match eU (k1++k2) a b with | some r=>Ix (f r) | none=>Iy)=Ix q->∃r0,eU (k1++k2) a b=Ix r0/\q=f r0:=by grind
  unfold eU at h
  split at h
  .grind
  .rename_i e1 e2 e3;obtain⟨rfl,rfl⟩:=e1;obtain⟨rfl,rfl⟩:=e2;obtain⟨rfl,rfl⟩:=e3;obtain⟨r0,h0,rfl⟩:=step r _ h;obtain⟨r1,r2,h1,h2,rfl⟩:=MA k1 k2 _ _ r0 h0;exact⟨_,r2,by simp only[yB,wS,eU,h1],by simpa using h2,(yao _ _ _).symm⟩
  .rename_i e1 e2 e3;obtain⟨rfl,rfl⟩:=e1;obtain⟨rfl,rfl⟩:=e2;obtain⟨rfl,rfl⟩:=e3
   split at h
   .rename_i hk;obtain⟨r0,h0,rfl⟩:=step r _ h;obtain⟨r1,r2,h1,h2,rfl⟩:=MA k1 k2 _ _ r0 h0;exact⟨_,r2,by simp only[yB,wS,eU,h1,hk,xL],by simpa using h2,(yao _ _ _).symm⟩
   .cases h
  .rename_i e1 e2 e3;obtain⟨rfl,rfl⟩:=e1;obtain⟨rfl,rfl⟩:=e2;obtain⟨rfl,rfl⟩:=e3;obtain⟨r0,h0,rfl⟩:=step r _ h;obtain⟨r1,r2,h1,h2,rfl⟩:=MA k1 k2 _ _ r0 h0;exact⟨_,r2,by simp only[yB,wS,eU,h1],by simpa using h2,(yao _ _ _).symm⟩
  .cases h
def aeB:∀(ks:List Nat) (a b:List AV) (r:Bool),eU ks a b=Ix r->a.length=ks.length/\b.length=ks.length
 | [],a,b,r,h=>by
  unfold eU at h
  grind
 | k::ks,[],b,r,h=>by
  unfold eU at h
  grind
 | k::ks,x::a,[],r,h=>by
  unfold eU at h
  grind
 | k::ks,x::a,y::b,r,h=>by
  have:∃r0,eU ks a b=Ix r0:=by
   cases he:eU ks a b with
   | some r0=>exact⟨r0,rfl⟩
   | none=>unfold eU at h;split at h<;>simp_all
  have⟨r0,h0⟩:=this
  have:=aeB ks a b r0 h0
  simp[this]
def KF(P:xM)(t:yL)(x:yr)(xs:List yr):Prop:=(eK P t=Ix ycO/\x=.agg xs.toArray)\/(eK P t=Ix ycP/\xs=[x])
section
variable {P:xM}{ai:Nat->Nat}{m:Mp}{S:Nat->Prop}{w:yt}
def Xm{t:yL}{ag:Bool}(ha:eK P t=Ix ag):(isAgg t).run P w=.ok ag w:=by
 unfold eK at ha
 cases hu:P.underlying t with
 | none=>simp[hu] at ha
 | some d=>cases d<;>simp_all[isAgg,underlying]
def atf{t:yL}{s o:Nat}{xs:List yr}(hz:cY P t=Ix s)(ha:∃ag,eK P t=Ix ag)(h1:eK P t=Ix ycP->s=1)(hl:o+s<=xs.length):
  ∃u,(part t xs.toArray o).run P w=.ok u w/\KF P t u ((xs.drop o).take s):=by
 have⟨ag,ha⟩:=ha
 cases ag with
 | true=>
  refine⟨.agg ((xs.drop o).take s).toArray,?_,.inl ⟨ha,rfl⟩⟩;simp[part,Xm ha,rX hz,List.extract_eq_take_drop]
 | false=>
  have hs:=h1 ha;subst hs;have aY:o<xs.length:=by lia
  refine⟨xs[o],?_,.inr ⟨ha,?_⟩⟩
  .simp [part,Xm ha,xz aY]
  .rw [List.drop_eq_getElem_cons aY,wS,vC]
def arl{n:Nat}{t:yL}(h:kinds P n t=Ix ks):∃ag,eK P t=Ix ag/\(ag=ycP->ks.length=1):=by
 cases n with
 | zero=>simp[kinds] at h
 | succ n=>
  unfold kinds at h;unfold eK
  split at h<;>simp_all
  all_goals (rw[<-h];rfl)
def ZW(P:xM)(ai:Nat->Nat)(m:Mp)(S:Nat->Prop)(w:yt)(n:Nat):Prop:=
 ∀(t:yL) (ks:List Nat),kinds P n t=Ix ks->P.stoodInHeld t=ycP->∀(d:Nat),n<=d->∀(xs ys:List yr) (cs ej:List AV) (r:Bool) (x y:yr),
  aE ai m S w cs xs->aE ai m S w ej ys->eU ks cs ej=Ix r->KF P t x xs->KF P t y ys->(Op.equalIn d t x y).run P w=.ok r w
def afO{n:Nat}(ih:ZW P ai m S w n){t:yL}{s o:Nat}(hk:kinds P n t=Ix ks)(aK:P.stoodInHeld t=ycP)(hz:cY P t=Ix s)(hs:ks.length=s)(hd:n<=d){xs ys:List yr}{cs ej:List AV}(h1:aE ai m S w cs xs)(h2:aE ai m S w ej ys){r:Bool}(he:eU ks ((cs.drop o).take s) ((ej.drop o).take s)=Ix r):
  ∃u u',(part t xs.toArray o).run P w=.ok u w/\(part t ys.toArray o).run P w=.ok u' w/\(Op.equalIn d t u u').run P w=.ok r w:=by
 have⟨ag,ha,h1s⟩:=arl hk;have⟨l1,l2⟩:=aeB _ _ _ _ he;have q1:=kK _ _ h1;have q2:=kK _ _ h2;simp only[yJ,xZ] at l1 l2;have pz:eK P t=Ix ycP->s=1:=fun h=>by
  grind
 have qG:o+s<=xs.length\/s=0:=by lia
 have qH:o+s<=ys.length\/s=0:=by lia
 have get:∀(zs:List yr),(o+s<=zs.length\/s=0)->∃u,(part t zs.toArray o).run P w=.ok u w/\KF P t u ((zs.drop o).take s):=by
  intro zs hl;rcases hl with hl | hl
  .exact atf hz ⟨ag,ha⟩ pz hl
  .subst hl
   cases ag with
   | false=>have:=pz ha;lia
   | true=>
    refine⟨.agg ((zs.drop o).take 0).toArray,?_,.inl ⟨ha,rfl⟩⟩;simp[part,Xm ha,rX hz]
 have⟨u,p1,v1⟩:=get xs qG;have⟨u',p2,v2⟩:=get ys qH;exact⟨u,u',p1,p2,ih t ks hk aK d hd _ _ _ _ r u u' (IL s (MO o h1)) (IL s (MO o h2)) he v1 v2⟩
def aeC{n:Nat}(ih:ZW P ai m S w n){d:Nat}(hd:n<=d){xs ys:List yr}{cs ej:List AV}(h1:aE ai m S w cs xs)(h2:aE ai m S w ej ys):
  ∀(fs:List tE) (o:Nat) (ks:List Nat) (r:Bool),ID P (fun u=>kinds P n u) fs o=Ix ks->eU ks (cs.drop o) (ej.drop o)=Ix r->(Op.eqFields d xs.toArray ys.toArray fs).run P w=.ok r w
 | [],o,ks,r,h,he=>by
  simp only[ID,yc] at h;unfold eU at he
  split at he<;>simp_all[Op.eqFields]
 | f::fs,o,ks,r,h,he=>by
  simp only[ID] at h
  cases hk:kinds P n f.type with
  | none=>simp[hk] at h
  | some kf=>
   cases hz:cY P f.type with
   | none=>simp[hk,hz] at h
   | some s=>
    simp only[hk,hz] at h
    cases hc:(f.name != "_"&&yG f.offset o&&yG kf.length s&& !P.stoodInHeld f.type) with
    | false=>rw[hc] at h;cases h
    | true=>
     rw[hc] at h;simp only[yN] at h;simp only[yj,bne_iff_ne,tn] at hc;have⟨⟨⟨hn,ho⟩,hl⟩,aK⟩:=hc;have ho:=yz ho;have hl:=yz hl
     cases hr:ID P (fun u=>kinds P n u) fs (o+s) with
     | none=>simp[hr] at h
     | some kr=>
      simp only[hr,yc] at h;subst h;obtain⟨r1,r2,e1,e2,rfl⟩:=MA _ _ _ _ _ he;rw[hl] at e1 e2;rw[vP,vP] at e2;have⟨u,u',p1,p2,p3⟩:=afO ih (o:=o) hk aK hz hl hd h1 h2 e1;have rest:=aeC ih hd h1 h2 fs (o+s) kr r2 hr e2;subst ho;simp only[Op.eqFields]
      cases r1 with
      | true=>simp[hn,p1,p2,p3,rest]
      | false=>simp[hn,p1,p2,p3]
def aeW{n:Nat}(ih:ZW P ai m S w n){d:Nat}(hd:n<=d){xs ys:List yr}{cs ej:List AV}(h1:aE ai m S w cs xs)(h2:aE ai m S w ej ys){e:yL}{ks:List Nat}{s:Nat}(hk:kinds P n e=Ix ks)(aK:P.stoodInHeld e=ycP)(hz:cY P e=Ix s)(hl:ks.length=s):
  ∀(k j:Nat) (r:Bool),eU (ye k ks).flatten (cs.drop (j*s)) (ej.drop (j*s))=Ix r->(Op.eqItems d e s xs.toArray ys.toArray (List.range' j k)).run P w=.ok r w
 | 0,j,r,he=>by
  unfold eU at he
  split at he<;>simp_all[Op.eqItems]
 | k+1,j,r,he=>by
  obtain⟨r1,r2,e1,e2,rfl⟩:=MA _ _ _ _ _ he;rw[hl] at e1 e2;rw[vP,vP,show j*s+s=(j+1)*s by rw[xU,ybX]] at e2;have⟨u,u',p1,p2,p3⟩:=afO ih (o:=j*s) hk aK hz hl hd h1 h2 e1;have rest:=aeW ih hd h1 h2 hk aK hz hl k (j+1) r2 e2;rw[List.range'_succ];simp only[Op.eqItems]
  cases r1 with
  | true=>simp[p1,p2,p3,rest]
  | false=>simp[p1,p2,p3]
def Zm:∀(n:Nat) (t:yL) (ks:List Nat),kinds P n t=Ix ks->P.stoodInHeld t=ycP->∀(d:Nat),n<=d->∀(xs ys:List yr) (cs ej:List AV) (r:Bool) (x y:yr),
  aE ai m S w cs xs->aE ai m S w ej ys->eU ks cs ej=Ix r->KF P t x xs->KF P t y ys->(Op.equalIn d t x y).run P w=.ok r w
 | 0,t,ks,h,_,_,_,_,_,_,_,_,_,_,_,_,_,_,_=>by simp[kinds] at h
 | n+1,t,ks,h,aK,0,hd,_,_,_,_,_,_,_,_,_,_,_,_=>by lia
 | n+1,t,ks,h,aK,d+1,hd,xs,ys,cs,ej,r,x,y,h1,h2,he,hx,hy=>by
  unfold kinds at h;have one:∀{k:Nat},ks=[k]->eK P t=Ix ycP->∃c c',cs=[c]/\ej=[c']/\ak ai m S w c x/\ak ai m S w c' y:=by
   intro k hk ha;rcases hx with ⟨hx,_⟩ | ⟨_,rfl⟩
   .grind
   rcases hy with ⟨hy,_⟩ | ⟨_,rfl⟩
   .grind
   have l1:=kK _ _ h1;have l2:=kK _ _ h2
   match cs,ej,l1,l2 with
   | [c],[c'],_,_=>
    simp only[aE] at h1 h2
    grind
  split at h
  .rename_i hu;simp only[yc] at h;have ha:eK P t=Ix ycP:=by simp[eK,hu]
   obtain⟨c,c',rfl,rfl,r1,r2⟩:=one h.symm ha;subst h;unfold eU at he
   split at he<;>simp_all[eU]
   subst he;simp only[ak] at r1 r2;subst r1;subst r2;simp[Op.equalIn,run_underlying hu]
  .rename_i k0 hu;simp only[yc] at h;have ha:eK P t=Ix ycP:=by simp[eK,hu]
   obtain⟨c,c',rfl,rfl,r1,r2⟩:=one h.symm ha;subst h;unfold eU at he
   split at he<;>simp_all[eU]
   have⟨hk,he⟩:=he;subst he;simp only[ak] at r1 r2;subst r1;subst r2;simp[Op.equalIn,run_underlying hu]
  .rename_i hu;simp only[yc] at h;have ha:eK P t=Ix ycP:=by simp[eK,hu]
   obtain⟨c,c',rfl,rfl,r1,r2⟩:=one h.symm ha;subst h;unfold eU at he
   split at he<;>simp_all[eU]
   subst he;simp only[ak] at r1 r2;obtain⟨s,rfl,rfl⟩:=r1;obtain⟨s',rfl,rfl⟩:=r2;simp only[Op.equalIn,Sem.run_bind,run_underlying hu,Result.andThen_ok,Sem.run_pure,afN];rfl
  .rename_i fs hu;have ha:eK P t=Ix ycO:=by simp[eK,hu]
   rcases hx with ⟨_,rfl⟩ | ⟨hx,_⟩
   .rcases hy with ⟨_,rfl⟩ | ⟨hy,_⟩
    .have hf:P.fieldsOf t=fs:=by simp[Program.fieldsOf,hu]
     rw[run_equalIn_struct w d t _ _ (by rw[hf];exact hu) aK,hf]
     exact aeC (Zm n) (by lia) h1 h2 fs.toList 0 ks r h (by simpa using he)
    .rw [ha] at hy;cases hy
   .rw [ha] at hx;cases hx
  .rename_i k e hu;have ha:eK P t=Ix ycO:=by simp[eK,hu]
   rcases hx with ⟨_,rfl⟩ | ⟨hx,_⟩
   .rcases hy with ⟨_,rfl⟩ | ⟨hy,_⟩
    .cases hk:kinds P n e with
     | none=>simp[hk] at h
     | some ke=>
      cases hz:cY P e with
      | none=>simp[hk,hz] at h
      | some s=>
       simp only[hk,hz] at h
       cases hc:(yG ke.length s&& !P.stoodInHeld e) with
       | false=>rw[hc] at h;cases h
       | true=>
        rw[hc] at h;simp only[yN,yc] at h;subst h;simp only[yj,tn] at hc;have dj:=hz;unfold cY at dj
        cases hi:P.info? e with
        | none=>simp[hi] at dj
        | some i=>
         simp only[hi,yc] at dj;have dA:P.cellsOf e=s:=by simp[Program.cellsOf,hi,dj]
         rw[run_equalIn_array w d _ _ hu hi,dA,List.range_eq_range'];exact aeW (Zm n) (by lia) h1 h2 hk hc.2 hz (yz hc.1) k 0 r (by simpa using he)
    .rw [ha] at hy;cases hy
   .rw [ha] at hx;cases hx
  .cases h
end
end
section
open Go
def et{tm:Env}{hp:Hp}{v:AV}(h:bB tm hp bad=Ix v):False:=by simp[bad,bB] at h
section
variable {O:bC}{H:Hint}{m:Mp}{S:Nat->Prop}{w:yt}{tm:Env}{a:Act}{hp:Hp}{ct:Nat}
def avL{ai:Nat->Nat}{va vb v:AV}{x y:yr}(hx:ak ai m S w va x)(hy:ak ai m S w vb y)(h:VE.min2 va vb=Ix v):∃u,(Builtin.min2 x y).run O.P w=.ok u w/\ak ai m S w v u:=by
 unfold VE.min2 at h
 split at h
 .simp only [ak] at hx hy;subst hx;subst hy;simp only[yc] at h;subst h;exact⟨_,by simp only[Builtin.min2,Sem.run_pure];rfl,by simp only[ak]⟩
 .rename_i k p k' q;subst hx;subst hy
  cases ho:k.format.order p q with
  | none=>simp[ho] at h
  | some c=>cases c<;>(simp only[ho,yc] at h;subst h;exact⟨_,by simp only[Builtin.min2,ho,Sem.run_pure];rfl,by simp only[ak]⟩)
 .cases h
def avM{ai:Nat->Nat}{va vb v:AV}{x y:yr}(hx:ak ai m S w va x)(hy:ak ai m S w vb y)(h:VE.max2 va vb=Ix v):∃u,(Builtin.max2 x y).run O.P w=.ok u w/\ak ai m S w v u:=by
 unfold VE.max2 at h
 split at h
 .simp only [ak] at hx hy;subst hx;subst hy;simp only[yc] at h;subst h;exact⟨_,by simp only[Builtin.max2,Sem.run_pure];rfl,by simp only[ak]⟩
 .rename_i k p k' q;subst hx;subst hy
  cases ho:k.format.order p q with
  | none=>simp[ho] at h
  | some c=>cases c<;>(simp only[ho,yc] at h;subst h;exact⟨_,by simp only[Builtin.max2,ho,Sem.run_pure];rfl,by simp only[ak]⟩)
 .cases h
def YJ{ai:Nat->Nat}{f:AV->AV->Option AV}{g:yr->yr->Sem yr}(hfg:∀va vb v x y,ak ai m S w va x->ak ai m S w vb y->f va vb=Ix v->∃u,(g x y).run O.P w=.ok u w/\ak ai m S w v u):
  ∀(l:List AV) (us:List yr) (va v:AV) (x:yr),ak ai m S w va x->aE ai m S w l us->EB f va l=Ix v->∃u,(us.foldlM g x).run O.P w=.ok u w/\ak ai m S w v u
 | [],us,va,v,x,hx,hl,h=>by
  simp only[aE] at hl;simp only[EB,yc] at h
  simp_all
 | b::l,us,va,v,x,hx,hl,h=>by
  obtain⟨u,r,rfl,hu,hr⟩:=hl;simp only[EB] at h
  cases hf:f va b with
  | none=>simp[hf] at h
  | some c=>
   simp only[hf] at h;obtain⟨u1,h1,h2⟩:=hfg _ _ _ _ _ hx hu hf;obtain⟨u2,h3,h4⟩:=YJ hfg l r c v u1 h2 hr h
   simp_all
def Zn{t:yL}{vx v:AV}{x:yr}{ty:yL}(hh:aW O m S w hp ct)(hx:ak O.ai m S w vx x){k:Nat}(hu:(k=0/\O.P.underlying t=Ix .string)\/(k=1/\∃e,O.P.underlying t=Ix (.slice e))\/(k=2/\∃kt e,O.P.underlying t=Ix (.map kt e)))(h:fu hp k vx=Ix v):∃u,(Builtin.len_ #[t] ty #[x]).run O.P w=.ok u w/\ak O.ai m S w v u:=by
 rcases hu with ⟨rfl,hu⟩ | ⟨rfl,e,hu⟩ | ⟨rfl,kt,e,hu⟩
 all_goals cases vx<;>simp only[fu,reduceCtorEq] at h
 case inl.str s=>
  simp only[ak] at hx;obtain⟨b,rfl,rfl⟩:=hx;simp only[yc] at h;subst h;refine⟨_,by simp[Builtin.len_,run_underlying hu];rfl,?_⟩
  simp only[ak,goInt]
  simp_all
 case inr.inl.ae=>
  simp only[ak] at hx;subst hx;simp only[yc] at h;subst h;exact⟨_,by simp[Builtin.len_,run_underlying hu];rfl,by simp[ak,goInt]⟩
 case inr.inl.aF ex n cs=>
  simp only[ak] at hx;rcases hx with ⟨b,o,c,rfl,_⟩ | ⟨a,rfl,rfl,rfl⟩
  all_goals
   simp only[yc] at h;subst h;exact⟨_,by simp[Builtin.len_,run_underlying hu];rfl,by simp[ak,goInt]⟩
 case inr.inl.av id o n=>
  simp only[ak] at hx;obtain⟨p,c,_,rfl,_⟩:=hx;simp only[yc] at h;subst h;exact⟨_,by simp[Builtin.len_,run_underlying hu];rfl,by simp[ak,goInt]⟩
 case inr.inr.nD=>
  simp only[ak] at hx;subst hx;simp only[yc] at h;subst h;exact⟨_,by simp[Builtin.len_,run_underlying hu];rfl,by simp[ak,goInt]⟩
 case inr.inr.nE ks vs=>
  simp only[ak] at hx;obtain⟨b,es,clock,rfl,_,_,_,hb,h1,_⟩:=hx;simp only[yc] at h;subst h;refine⟨_,by simp[Builtin.len_,run_underlying hu,getObj,Sem.run,hb];rfl,?_⟩
  have:=kK _ _ h1
  simp only[ak,goInt];rw[<-this];simp
 case inr.inr.map id=>
  simp only[ak] at hx;obtain⟨p,hm,rfl⟩:=hx
  split at h
  case h_2=>cases h
  rename_i rw0 ks vs G2;simp only[yc] at h;subst h;obtain⟨p',es,clock,iT,hb,h1,_⟩:=hh.obj id _ _ G2 hm;rw[hm] at iT;injection iT with iT;subst iT
  refine⟨_,by simp[Builtin.len_,run_underlying hu,getObj,Sem.run,hb];rfl,?_⟩
  have:=kK _ _ h1
  simp only[ak,goInt];rw[<-this];simp
end
end
section
open Go
section
variable {O:bC}{H:Hint}{m:Mp}{S:Nat->Prop}{w:yt}{tm:Env}{a:Act}{hp:Hp}{ct:Nat}
def IX{t:yL}{z:AV}(h:rq O.P t=Ix z):∃v,(zeroValue t).run O.P w=.ok v w/\z=fQ v:=by
 unfold rq at h
 cases hi:O.P.info? t with
 | none=>simp[hi] at h
 | some i=>
  simp only[hi] at h
  cases hz:i.zero with
  | none=>simp[hz] at h
  | some v=>
   simp only[hz,yc] at h;exact⟨v,by simp[zeroValue,typeInfo,hi,hz],h.symm⟩
def Reads(O:bC)(m:Mp)(S:Nat->Prop)(w:yt)(a:Act)(o:xk)(v:AV):Prop:=
 ∃u,(execOp a.eval o).run O.P w=.ok (.value u) w/\ak O.ai m S w v u
def mX{o:xk}{v:AV}{s:Sem yr}(he:execOp a.eval o=(do pure (.value (<-s)):Sem yau))(h:∃u,s.run O.P w=.ok u w/\ak O.ai m S w v u):Reads O m S w a o v:=by
 have⟨u,h1,h2⟩:=h;exact⟨u,by rw[he];simp[h1],h2⟩
def atg{o:xk}{op:vL}{t ty:yL}{x y:xN}{k:Nat}{v:AV}(hH:im O H)(ht:cp O m S w tm a.tmps)(ho:o.op=.binOp op t x y ty)(hv:bB tm hp (bn O.P H k o)=Ix v):Reads O m S w a o v:=by
 have rx:=cO hH ht x;have ry:=cO hH ht y;have guard:∀{u:yr},(∀xs ys,¬(a.eval x=.agg xs/\a.eval y=.agg ys))\/O.P.eqGuardType O.P.depth t=ycP->a.eval x≠.nilIface->(wT op t (a.eval x) (a.eval y)).run O.P w=.ok u w->
   (do eqGuard op t x y (a.eval x) (a.eval y);wT op t (a.eval x) (a.eval y):Sem yr).run O.P w=.ok u w:=by
  intro u h1 h2 h3
  simp only[Sem.run_bind,aqw (P:=O.P) (w:=w) (t:=t) (op:=op) (x:=x) (y:=y) (h1.symm) h2,Result.andThen_ok,h3]
 have plain:bB tm hp (.bin op (aS H x) (aS H y))=Ix v->Reads O m S w a o v:=by
  intro hv;simp only[bB] at hv;have⟨u,h1,h2⟩:=atc (P:=O.P) (t:=t) rx ry hv
  refine mX (s:=do eqGuard op t x y (a.eval x) (a.eval y);wT op t (a.eval x) (a.eval y)) (by simp only[execOp,ho]) ⟨u,guard (.inl ?_) ?_ h1,h2⟩
  .rintro xs ys ⟨e1,e2⟩;rw[e1] at rx;unfold VE.binOp at hv
   split at hv
   .rename_i h3 _;rw[h3] at rx;simp[ak] at rx
   .rename_i h3 _;rw[h3] at rx;simp[ak] at rx
   .rename_i h3 _;rw[h3] at rx;simp[ak] at rx
   .cases hv
  .intro e1;rw[e1] at rx;unfold VE.binOp at hv
   split at hv
   .rename_i h3 _;rw[h3] at rx;simp[ak] at rx
   .rename_i h3 _;rw[h3] at rx;simp[ak] at rx
   .rename_i h3 _;rw[h3] at rx;simp[ak] at rx
   .cases hv
 have other:∀(ne:Bool) (kd:VE.VF),(op=.eql/\ne=ycP\/op=.neq/\ne=ycO)->(∀r,mf kd (aC tm (aS H x)) (aC tm (aS H y))=Ix r->(Op.equal t (a.eval x) (a.eval y)).run O.P w=.ok r w/\
    ((∀xs ys,¬(a.eval x=.agg xs/\a.eval y=.agg ys))\/O.P.eqGuardType O.P.depth t=ycP)/\a.eval x≠.nilIface/\
    ∀q:Bool,(op=.eql->wT op t (a.eval x) (a.eval y)=(do pure (.bool (<-Op.equal t (a.eval x) (a.eval y)))))/\(op=.neq->wT op t (a.eval x) (a.eval y)=(do pure (.bool (!(<-Op.equal t (a.eval x) (a.eval y)))))))->
   bB tm hp (.eq ne kd (aS H x) (aS H y))=Ix v->Reads O m S w a o v:=by
  intro ne kd mM qh hv;simp only[bB] at hv
  cases he:mf kd (aC tm (aS H x)) (aC tm (aS H y)) with
  | none=>simp[he] at hv
  | some r=>
   simp only[he,yc] at hv;subst hv;have⟨h1,h2,h3,h4⟩:=qh r he;have⟨h5,h6⟩:=h4 ycO
   refine mX (s:=do eqGuard op t x y (a.eval x) (a.eval y);wT op t (a.eval x) (a.eval y)) (by simp only[execOp,ho]) ⟨.bool (ne !=r),guard h2 h3 ?_,by simp[ak]⟩
   rcases mM with ⟨rfl,rfl⟩ | ⟨rfl,rfl⟩
   .rw [h5 rfl];simp[h1]
   .rw [h6 rfl];simp[h1]
 have pB:O.P.underlying t=Ix .bool->∀r,mf .b (aC tm (aS H x)) (aC tm (aS H y))=Ix r->∃p q,a.eval x=.bool p/\a.eval y=.bool q/\(Op.equal t (a.eval x) (a.eval y)).run O.P w=.ok r w:=by
  intro hu r he;cases hx:aC tm (aS H x)<;>cases hy:aC tm (aS H y)<;>rw[hx,hy] at he<;>simp only[mf,reduceCtorEq] at he
  rw[hx] at rx;rw[hy] at ry;simp only[ak] at rx ry;simp only[yc] at he;refine⟨_,_,rx,ry,?_⟩;rw[rx,ry,agI,<-he];exact ayk hu
 have pS:∀e,O.P.underlying t=Ix (.slice e)->∀r,mf .sl (aC tm (aS H x)) (aC tm (aS H y))=Ix r->∃p n c q n' c',a.eval x=.slice p n c/\a.eval y=.slice q n' c'/\(Op.equal t (a.eval x) (a.eval y)).run O.P w=.ok r w:=by
  intro e hu r he;have h1:=avI hu rx ry he;have sl:∀{v:AV} {u:yr},ak O.ai m S w v u->(v=.ae\/(∃a b c,v=.aF a b c)\/∃a b c,v=.av a b c)->∃p n c,u=.slice p n c:=by
   intro v u hr hv;rcases hv with rfl | ⟨_,_,_,rfl⟩ | ⟨_,_,_,rfl⟩
   .simp only [ak] at hr;exact⟨_,_,_,hr⟩
   .simp only [ak] at hr;rcases hr with ⟨b,o,c,hr,_⟩ | ⟨_,hr,_⟩<;>exact⟨_,_,_,hr⟩
   .simp only [ak] at hr;have⟨b,c,_,hr,_⟩:=hr;exact⟨_,_,_,hr⟩
  have dC:(aC tm (aS H x)=.ae\/(∃a b c,aC tm (aS H x)=.aF a b c)\/∃a b c,aC tm (aS H x)=.av a b c)/\
    (aC tm (aS H y)=.ae\/(∃a b c,aC tm (aS H y)=.aF a b c)\/∃a b c,aC tm (aS H y)=.av a b c):=by
   cases hx:aC tm (aS H x)<;>cases hy:aC tm (aS H y)<;>rw[hx,hy] at he<;>simp[mf] at he ⊢
  have⟨p,n,c,e1⟩:=sl rx dC.1;have⟨q,n',c',e2⟩:=sl ry dC.2;exact⟨p,n,c,q,n',c',e1,e2,h1⟩
 have pF:∀ps rs vr,O.P.underlying t=Ix (.func ps rs vr)->∀r,mf .fn (aC tm (aS H x)) (aC tm (aS H y))=Ix r->
   ((a.eval x=.nilFunc\/∃f p q,a.eval x=.func f p q)/\(a.eval y=.nilFunc\/∃f p q,a.eval y=.func f p q))/\(Op.equal t (a.eval x) (a.eval y)).run O.P w=.ok r w:=by
  intro ps rs vr hu r he;have h1:=avJ hu rx ry he;have sl:∀{v:AV} {u:yr},ak O.ai m S w v u->(v=.kZ\/(∃a b c,v=.fn a b c))->(u=.nilFunc\/∃f p q,u=.func f p q):=by
   intro v u hr hv;rcases hv with rfl | ⟨f,_,_,rfl⟩
   .simp only [ak] at hr;exact .inl hr
   .cases f with
    | f g=>simp only[ak] at hr;have⟨b,c,hr,_⟩:=hr;exact .inr ⟨_,_,_,hr⟩
    | y l=>simp only[ak] at hr;have⟨b,_,hr⟩:=hr;exact .inr ⟨_,_,_,hr⟩
  have dC:(aC tm (aS H x)=.kZ\/(∃a b c,aC tm (aS H x)=.fn a b c))/\(aC tm (aS H y)=.kZ\/(∃a b c,aC tm (aS H y)=.fn a b c)):=by
   cases hx:aC tm (aS H x)<;>cases hy:aC tm (aS H y)<;>rw[hx,hy] at he<;>simp[mf] at he ⊢
  exact⟨⟨sl rx dC.1,sl ry dC.2⟩,h1⟩
 have pA:∀ks,kinds O.P 20 t=Ix ks->eK O.P t=Ix ycO->O.P.stoodInHeld t=ycP->∀r,mf (.ag ks) (aC tm (aS H x)) (aC tm (aS H y))=Ix r->∃p q,a.eval x=.agg p/\a.eval y=.agg q/\(Op.equal t (a.eval x) (a.eval y)).run O.P w=.ok r w:=by
  intro ks hk ha aK r he;cases hx:aC tm (aS H x)<;>cases hy:aC tm (aS H y)<;>rw[hx,hy] at he<;>simp only[mf,reduceCtorEq] at he
  rw[hx] at rx;rw[hy] at ry;simp only[ak] at rx ry;have⟨p,e1,h1⟩:=rx;have⟨q,e2,h2⟩:=ry;refine⟨p,q,e1,e2,?_⟩;rw[e1,e2,agI];exact Zm 20 t ks hk aK 10000 (by lia) _ _ _ _ r _ _ h1 h2 he (.inl ⟨ha,by simp⟩) (.inl ⟨ha,by simp⟩)
 have eqs:∀(ne:Bool),(op=.eql/\ne=ycP\/op=.neq/\ne=ycO)->bB tm hp (BB O.P H ne op t x y)=Ix v->Reads O m S w a o v:=by
  intro ne mM hv;have agg:eK O.P t=Ix ycO->bB tm hp (CH O.P H ne t x y)=Ix v->Reads O m S w a o v:=by
   intro ha hv;unfold CH at hv
   cases hk:kinds O.P 20 t with
   | none=>rw[hk] at hv;exact (et hv).elim
   | some ks=>
    simp only[hk] at hv
    cases hc:(O.P.stoodInHeld t||O.P.eqGuardType O.P.depth t) with
    | true=>rw[hc] at hv;exact (et hv).elim
    | false=>
     rw[hc] at hv;simp only[y5] at hv;simp only[Bool.or_eq_false_iff] at hc;refine other ne (.ag ks) mM (fun r hr=>?_) hv;have⟨p,q,e1,e2,h1⟩:=pA ks hk ha hc.1 r hr;refine⟨h1,.inr hc.2,by rw[e1];simp,fun _=>?_⟩
     rw[e1,e2];exact⟨fun e=>by subst e;rfl,fun e=>by subst e;rfl⟩
  unfold BB at hv
  split at hv
  .exact plain hv
  .exact plain hv
  .exact plain hv
  .rename_i hu;refine other ne .b mM (fun r hr=>?_) hv;have⟨p,q,e1,e2,h1⟩:=pB hu r hr;refine⟨h1,.inl (by rw[e1];simp),by rw[e1];simp,fun _=>?_⟩
   rw[e1,e2];exact⟨fun e=>by subst e;rfl,fun e=>by subst e;rfl⟩
  .rename_i e hu;refine other ne .sl mM (fun r hr=>?_) hv;have⟨p,n,c,q,n',c',e1,e2,h1⟩:=pS e hu r hr;refine⟨h1,.inl (by rw[e1];simp),by rw[e1];simp,fun _=>?_⟩
   rw[e1,e2];exact⟨fun e=>by subst e;rfl,fun e=>by subst e;rfl⟩
  .rename_i ps rs vr hu;refine other ne .fn mM (fun r hr=>?_) hv;have⟨⟨e1,e2⟩,h1⟩:=pF ps rs vr hu r hr;refine⟨h1,.inl ?_,?_,fun _=>?_⟩
   .rcases e1 with e1 | ⟨_,_,_,e1⟩<;>rw[e1]<;>simp
   .rcases e1 with e1 | ⟨_,_,_,e1⟩<;>rw[e1]<;>simp
   .rcases e1 with e1 | ⟨_,_,_,e1⟩<;>rcases e2 with e2 | ⟨_,_,_,e2⟩<;>rw[e1,e2]<;>exact⟨fun e=>by subst e;rfl,fun e=>by subst e;rfl⟩
  .rename_i fs hu;exact agg (by simp[eK,hu]) hv
  .rename_i k0 e hu;exact agg (by simp[eK,hu]) hv
  .exact (et hv).elim
 cases op
 case eql=>exact eqs ycP (.inl ⟨rfl,rfl⟩) (by simpa only[bn,ho] using hv)
 case neq=>exact eqs ycO (.inr ⟨rfl,rfl⟩) (by simpa only[bn,ho] using hv)
 all_goals exact plain (by simpa only[bn,ho] using hv)
end
end
section
open Go
section
variable {O:bC}{H:Hint}{m:Mp}{S:Nat->Prop}{w:yt}{tm:Env}{a:Act}{hp:Hp}{ct:Nat}
def MC{o:xk}{b:Builtin}{args:Array xN}{ts:Array yL}(ho:o.op=.call {callee:=.builtin b,args:=args,argTypes:=ts}):
  ∃cs,(execOp a.eval o).run O.P w=(builtin b ts o.type cs (args.map a.eval)).run O.P w:=by
 exact⟨_,by simp only[execOp,ho,resolve,Sem.run_bind,Sem.run_pure,Result.andThen_ok,invoke];rfl⟩
def arm{o:xk}{c:yaG}{k:Nat}{v:AV}(hH:im O H)(ht:cp O m S w tm a.tmps)(hh:aW O m S w hp ct)(ho:o.op=.call c)(hv:bB tm hp (bn O.P H k o)=Ix v):Reads O m S w a o v:=by
 have⟨callee,args,ts⟩:=c;simp only[bn,ho] at hv
 split at hv
 .cases VJ:H.mode k<;>simp[VJ,bB] at hv
 .rename_i _ b
  split at hv
  .have key:∀{bb:Bool} {sz by':Nat} {x y:X},bB tm hp (bif bb then .kD sz by' x y else bad)=Ix v->False:=by
    intro bb sz by' x y h
    cases bb
    .exact et h
    .simp [bB] at h
   split at hv
   .split at hv
    .exact (key hv).elim
    .simp_all
   .split at hv
    .exact (key hv).elim
    .simp_all
   .simp_all
  .rename_i x t jt Ad;have⟨al⟩:=args;have⟨tl⟩:=ts;simp only at jt Ad;subst jt;subst Ad;have⟨cs,jf⟩:=MC (O:=O) (w:=w) (a:=a) ho;have fin:(∃u,(Builtin.len_ #[t] o.type #[a.eval x]).run O.P w=.ok u w/\ak O.ai m S w v u)->Reads O m S w a o v:=by
    rintro⟨u,h1,h2⟩;refine⟨u,?_,h2⟩;rw[jf];simp[builtin,h1]
   split at hv
   .rename_i n e hu;simp only[bB,aC,yc] at hv;subst hv;exact fin ⟨_,by simp[Builtin.len_,run_underlying hu];rfl,by simp[ak,goInt]⟩
   .rename_i hu;simp only[bB] at hv;exact fin (Zn hh (cO hH ht x) (.inl ⟨rfl,hu⟩) hv)
   .rename_i e hu;simp only[bB] at hv;exact fin (Zn hh (cO hH ht x) (.inr (.inl ⟨rfl,e,hu⟩)) hv)
   .rename_i kt e hu;simp only[bB] at hv;exact fin (Zn hh (cO hH ht x) (.inr (.inr ⟨rfl,kt,e,hu⟩)) hv)
   .exact (et hv).elim
  .split at hv
   .split at hv
    .simp [bB] at hv
    .exact (et hv).elim
   .exact (et hv).elim
  .simp only [bB] at hv;have⟨cs,jf⟩:=MC (O:=O) (w:=w) (a:=a) ho;have hl:=Gw hH ht args.toList
   cases hx:dU tm (jy H args.toList) with
   | nil=>simp[hx] at hv
   | cons c r=>
    simp only[hx] at hv;rw[hx] at hl;simp only[aE] at hl;have⟨u,us,h1,h2,h3⟩:=hl;have⟨q,h4,h5⟩:=YJ (O:=O) (g:=Builtin.min2) (fun va vb v x y hx hy h=>avL hx hy h) r us c v u h2 h3 hv;refine⟨q,?_,h5⟩;rw[jf];simp[builtin,Builtin.min_,h1,h4]
  .simp only [bB] at hv;have⟨cs,jf⟩:=MC (O:=O) (w:=w) (a:=a) ho;have hl:=Gw hH ht args.toList
   cases hx:dU tm (jy H args.toList) with
   | nil=>simp[hx] at hv
   | cons c r=>
    simp only[hx] at hv;rw[hx] at hl;simp only[aE] at hl;have⟨u,us,h1,h2,h3⟩:=hl;have⟨q,h4,h5⟩:=YJ (O:=O) (g:=Builtin.max2) (fun va vb v x y hx hy h=>avM hx hy h) r us c v u h2 h3 hv;refine⟨q,?_,h5⟩;rw[jf];simp[builtin,Builtin.max_,h1,h4]
  .exact (et hv).elim
 .exact (et hv).elim
def aeX{kt:yL}{vk:AV}(hk:keyOf O.P kt=Ix kk)(h:AA kk vk=ycO):∃d,O.P.underlying kt=Ix d/\Ui d=ycO/\fits d vk=ycO:=by
 unfold keyOf at hk
 split at hk
 .rename_i hu;simp only[yc] at hk;subst hk;refine⟨_,hu,rfl,?_⟩;cases vk<;>simp_all[AA,fits]
 .rename_i hu;simp only[yc] at hk;subst hk;refine⟨_,hu,rfl,?_⟩;cases vk<;>simp_all[AA,fits]
 .rename_i hu;simp only[yc] at hk;subst hk;refine⟨_,hu,rfl,?_⟩;cases vk<;>simp_all[AA,fits]
 .cases hk
def ah4{o:xk}{k:Nat}{v:AV}(hH:im O H)(ht:cp O m S w tm a.tmps)(hh:aW O m S w hp ct)(hv:bB tm hp (bn O.P H k o)=Ix v):Reads O m S w a o v:=by
 cases ho:o.op with
 | call c=>exact arm hH ht hh ho hv
 | binOp op t x y ty=>exact atg hH ht ho hv
 | move x=>
  simp only[bn,ho,bB,yc] at hv;subst hv;exact⟨_,by simp only[execOp,ho,Sem.run_pure],cO hH ht x⟩
 | assign x=>
  simp only[bn,ho,bB,yc] at hv;subst hv;exact⟨_,by simp only[execOp,ho,Sem.run_pure],cO hH ht x⟩
 | pick c x y=>
  simp only[bn,ho,bB] at hv;have rc:=cO hH ht c;cases hc:aC tm (aS H c)<;>rw[hc] at hv<;>simp only[reduceCtorEq] at hv
  rename_i b;rw[hc] at rc;simp only[ak] at rc;simp only[yc] at hv;subst hv
  cases b with
  | true=>exact⟨a.eval x,by simp[execOp,ho,rc,asBool],cO hH ht x⟩
  | false=>exact⟨a.eval y,by simp[execOp,ho,rc,asBool],cO hH ht y⟩
 | load t x=>
  simp only[bn,ho] at hv
  split at hv
  .rename_i s ag hz ha;simp only[bB] at hv;exact mX (by simp only[execOp,ho]) (aBa hh hz ha (cO hH ht x) hv)
  .exact (et hv).elim
 | fieldAddr t x i=>
  simp only[bn,ho] at hv
  split at hv
  .rename_i fs hu
   split at hv
   .rename_i f hf
    split at hv
    .rename_i s hz;simp only[bB] at hv;exact mX (by simp only[execOp,ho]) (ayl hu hf hz (cO hH ht x) hv)
    .exact (et hv).elim
   .exact (et hv).elim
  .exact (et hv).elim
 | field t x i=>
  simp only[bn,ho] at hv
  split at hv
  .rename_i fs hu
   split at hv
   .rename_i f hf
    split at hv
    .rename_i s ag hz ha;simp only[bB] at hv;exact mX (by simp only[execOp,ho]) (aym hu hf hz ha (cO hH ht x) hv)
    .exact (et hv).elim
   .exact (et hv).elim
  .exact (et hv).elim
 | nilCheck x=>
  simp only[bn,ho,bB] at hv;have rx:=cO hH ht x;cases hx:aC tm (aS H x)<;>rw[hx] at hv rx<;>simp only[reduceCtorEq,yc] at hv
  .subst hv;have r':=rx;simp only[ak] at r';have⟨p,_,e⟩:=r';exact⟨a.eval x,by simp only[execOp,ho,e,Sem.run_pure],rx⟩
  .subst hv;have r':=rx;simp only[ak] at r';have⟨b,o',e,_⟩:=r';exact⟨a.eval x,by simp only[execOp,ho,e,Sem.run_pure],rx⟩
  .subst hv;rename_i f _ _
   cases f with
   | f g=>
    have r':=rx;simp only[ak] at r';have⟨fi,ca,e,_⟩:=r';exact⟨a.eval x,by simp only[execOp,ho,e,Sem.run_pure],rx⟩
   | y l=>
    have r':=rx;simp only[ak] at r';have⟨p,_,e⟩:=r';exact⟨a.eval x,by simp only[execOp,ho,e,Sem.run_pure],rx⟩
 | unOp op t x=>
  simp only[bn,ho,bB] at hv;exact mX (by simp only[execOp,ho]) (avK (cO hH ht x) hv)
 | convert s d x=>
  simp only[bn,ho] at hv
  split at hv
  .rename_i k1 k2 hs hd;simp only[bB] at hv;exact mX (by simp only[execOp,ho]) (agJ hd (.inl ⟨_,hs⟩) (cO hH ht x) hv)
  .rename_i k1 k2 hs hd;simp only[bB] at hv;exact mX (by simp only[execOp,ho]) (agJ hd (.inr ⟨_,hs⟩) (cO hH ht x) hv)
  .rename_i k1 k2 hs hd;simp only[bB] at hv;exact mX (by simp only[execOp,ho]) (agK hd (.inl ⟨_,hs⟩) (cO hH ht x) hv)
  .rename_i k1 k2 hs hd;simp only[bB] at hv;exact mX (by simp only[execOp,ho]) (agK hd (.inr ⟨_,hs⟩) (cO hH ht x) hv)
  .rename_i hs hd;simp only[bB] at hv;exact mX (by simp only[execOp,ho]) (atd hd hs (cO hH ht x) hv)
  .exact (et hv).elim
 | makeFunc fn first cap=>
  cases fn with
  | func f=>
   simp only[bn,ho] at hv
   split at hv
   .rename_i g hg;simp only[bB,yc] at hv;subst hv;refine⟨.func (.func f) (first.map a.eval) (cap.map a.eval),by simp[execOp,ho,Instr.makeFunc],?_⟩;simp only[ak];exact⟨_,_,by rw[hH f g hg],by simpa using Gw hH ht first.toList,by simpa using Gw hH ht cap.toList⟩
   .exact (et hv).elim
  | _=>simp only[bn,ho] at hv;exact (et hv).elim
 | slice t x lo hi mx=>
  cases mx with
  | some q=>simp only[bn,ho] at hv;exact (et hv).elim
  | none=>
   simp only[bn,ho] at hv
   split at hv
   .rename_i hu;simp only[bB] at hv;exact mX (by simp only[execOp,ho];rfl) (ark hH ht hu (cO hH ht x) hv)
   .rename_i e hu
    split at hv
    .rename_i s hz;simp only[bB] at hv;exact mX (by simp only[execOp,ho];rfl) (ate hH ht hu hz hh (cO hH ht x) hv)
    .exact (et hv).elim
   .split at hv
    .simp only [bB] at hv;cases hx:aC tm (aS H x)<;>rw[hx] at hv<;>simp[gI] at hv
    .exact (et hv).elim
   .exact (et hv).elim
 | indexAddr t x i=>
  simp only[bn,ho] at hv
  split at hv
  .rename_i e hu
   split at hv
   .rename_i s hz;simp only[bB] at hv
    cases hk:dM (aC tm (aS H i)) with
    | none=>simp[hk] at hv
    | some j=>
     simp only[hk] at hv;exact mX (by simp only[execOp,ho]) (ayn hu hz (cO hH ht x) (cO hH ht i) hk hv)
   .exact (et hv).elim
  .rename_i n e hu
   split at hv
   .rename_i s hz;simp only[bB] at hv
    cases hk:dM (aC tm (aS H i)) with
    | none=>simp[hk] at hv
    | some j=>
     simp only[hk] at hv;exact mX (by simp only[execOp,ho]) (ayo hu hz (cO hH ht x) (cO hH ht i) hk hv)
   .exact (et hv).elim
  .exact (et hv).elim
 | index t x i=>
  simp only[bn,ho] at hv
  split at hv
  .rename_i hu;simp only[bB] at hv
   cases hk:dM (aC tm (aS H i)) with
   | none=>simp[hk] at hv
   | some j=>
    simp only[hk] at hv;exact mX (by simp only[execOp,ho]) (ayq hu (cO hH ht x) (cO hH ht i) hk hv)
  .rename_i n e hu
   split at hv
   .rename_i s ag hz ha;simp only[bB] at hv
    cases hk:dM (aC tm (aS H i)) with
    | none=>simp[hk] at hv
    | some j=>
     simp only[hk] at hv;exact mX (by simp only[execOp,ho]) (ayp hu hz ha (cO hH ht x) (cO hH ht i) hk hv)
   .exact (et hv).elim
  .exact (et hv).elim
 | lookup t x i ok=>
  simp only[bn,ho] at hv
  split at hv
  .rename_i kt e hu
   split at hv
   .rename_i kk z A3 hz;simp only[bB] at hv
    cases hf:AA kk (aC tm (aS H i)) with
    | false=>simp[hf] at hv
    | true=>
     simp only[hf,yN] at hv;have⟨d,iw,fw,hd3⟩:=aeX A3 hf;obtain⟨zv,kF,rfl⟩:=IX (w:=w) hz
     cases hr:oc hp (aC tm (aS H i)) (aC tm (aS H x)) with
     | none=>simp[hr] at hv
     | some r=>
      refine mX (by simp only[execOp,ho]) (ayr (ok:=ok) (r:=r) (z:=fQ zv) hh hu iw fw hd3 kF (cO hH ht x) (cO hH ht i) (Ss zv) hr ?_);cases r<;>simpa[hr] using hv
   .exact (et hv).elim
  .exact (et hv).elim
 | extract x i=>
  simp only[bn,ho,bB] at hv;have rx:=cO hH ht x;cases hx:aC tm (aS H x)<;>rw[hx] at hv rx<;>simp only[reduceCtorEq] at hv
  simp only[ak] at rx;have⟨xs,e,hr⟩:=rx;have⟨u,h1,h2⟩:=X9 hr hv;refine⟨u,?_,h2⟩;have Fu:xs[i]? =Ix u:=by simpa using h1
  simp[execOp,ho,e,Instr.extract,Fu]
 | build t parts=>
  simp only[bn,ho] at hv
  split at hv
  .rename_i fs z hu hz
   split at hv
   .rename_i pl aDk;have fR:=run_places (P:=O.P) w fs.toList pl aDk
    split at hv
    case h_2=>exact (et hv).elim
    rename_i ps dX;simp only[bB] at hv
    cases hf:fill tm z ps with
    | none=>simp[hf] at hv
    | some cs=>
     simp only[hf,yc] at hv;subst hv;have⟨zv,kF,gA⟩:=IX (w:=w) hz;have Dz:aE O.ai m S w z zv.cells.toList:=by
      have:=Iz (ai:=O.ai) (m:=m) (S:=S) (w:=w) zv
      rw[<-gA] at this;exact this
     have⟨out,h1,h2⟩:=Sv hH ht (place:=fun i=>pl[i]?) parts.toList ps z cs zv.cells dX Dz hf;refine⟨.agg out,?_,by simp only[ak];exact⟨out,rfl,h2⟩⟩
     have hm:(Array.mapM (fun f=>Functor.map (Prod.mk f.offset) (vU f.type)) fs:Sem (Array (Nat×Nat))).run O.P w=.ok pl.toArray w:=by
      rw[Array.mapM_eq_mapM_toList];simp[fR]
     simp[execOp,ho,Instr.build,kF,run_underlying hu,hm,h1]
   .exact (et hv).elim
  .rename_i n e z hu hz
   split at hv
   .rename_i s hs
    split at hv
    .rename_i ps dX;simp only[bB] at hv
     cases hf:fill tm z ps with
     | none=>simp[hf] at hv
     | some cs=>
      simp only[hf,yc] at hv;subst hv;have⟨zv,kF,gA⟩:=IX (w:=w) hz;have Dz:aE O.ai m S w z zv.cells.toList:=by
       have:=Iz (ai:=O.ai) (m:=m) (S:=S) (w:=w) zv
       rw[<-gA] at this;exact this
      have⟨out,h1,h2⟩:=Sv hH ht (place:=fun i=>Ix (i*s,s)) parts.toList ps z cs zv.cells dX Dz hf;refine⟨.agg out,?_,by simp only[ak];exact⟨out,rfl,h2⟩⟩
      simp[execOp,ho,Instr.build,kF,run_underlying hu,rX hs,h1]
    .exact (et hv).elim
   .exact (et hv).elim
  .exact (et hv).elim
 | alloc t=>simp only[bn,ho] at hv;split at hv<;>simp[bB,bad] at hv
 | box t x=>simp only[bn,ho] at hv;split at hv<;>simp[bB,bad] at hv
 | buildSlice t n parts=>
  simp only[bn,ho] at hv
  split at hv
  .split at hv
   .rename_i s z _ _
    cases hc:yO (n*s) 16777216 with
    | false=>rw[hc] at hv;exact (et hv).elim
    | true=>
     rw[hc] at hv;simp only[yN] at hv
     split at hv
     .simp [bB] at hv
     .exact (et hv).elim
   .exact (et hv).elim
  .exact (et hv).elim
 | makeMap t r=>
  cases r<;>simp only[bn,ho] at hv
  .repeat' split at hv
   all_goals simp[bB,bad] at hv
  .exact (et hv).elim
 | makeSlice t l c=>
  simp only[bn,ho] at hv
  repeat' split at hv
  all_goals simp[bB,bad] at hv
 | insert t x k y=>
  simp only[bn,ho] at hv
  repeat' split at hv
  all_goals simp[bB,bad] at hv
 | mapUpdate t x k y=>
  simp only[bn,ho] at hv
  repeat' split at hv
  all_goals simp[bB,bad] at hv
 | store t x y=>simp only[bn,ho] at hv;split at hv<;>simp[bB,bad] at hv
 | range t x=>simp only[bn,ho] at hv;split at hv<;>simp[bB,bad] at hv
 | next x b=>cases b<;>simp[bn,ho,bB,bad] at hv
 | _=>simp[bn,ho,bB,bad] at hv
end
end
section
open Go
def hZ(m:Mp)(id:Nat)(p:Pl):Mp:=fun i=>if i=id then Ix p else m i
def fk{m:Mp}{id:Nat}{p:Pl}:hZ m id p id=Ix p:=by simp[hZ]
def fj{m:Mp}{id i:Nat}{p:Pl}(h:i≠id):hZ m id p i=m i:=by simp[hZ,h]
section
variable {O:bC}{m:Mp}{S:Nat->Prop}{w:yt}{hp:Hp}{ct:Nat}
def dY(m m':Mp):Prop:=∀id p,m id=Ix p->m' id=Ix p
def dY.refl{m:Mp}:dY m m:=fun _ _ h=>h
def dY.trans{m m' PK:Mp}(h:dY m m')(k:dY m' PK):dY m PK:=fun id p hp=>k id p (h id p hp)
def nU{i:Nat}(h:m i=Iy){p:Pl}:dY m (hZ m i p):=by
 intro id q hq;rw[fj]
 .grind
 .grind
def D5{tm:Env}{tmps:Array yr}{m':Mp}{w':yt}(hm:∀id p,m id=Ix p->m' id=Ix p)(hS:∀b,S b->S' b)(hw:iE S w w')(h:cp O m S w tm tmps):cp O m' S' w' tm tmps:=fun i=>pN hm hS hw _ _ (h i)
def alloc_old{o:yaf}{b:Nat}(hb:b<w.heap.size):(w.alloc o).heap[b]? =w.heap[b]? :=RowKit.Below.heap_alloc w o b hb
def Bp{m':Mp}{w':yt}{id:Nat}{o:Obj}(hm:∀id p,m id=Ix p->m' id=Ix p)(hS:∀b,S b->S' b)(hw:iE S w w')(hb:∀p,m id=Ix p->w'.heap[p.b]? =w.heap[p.b]?)(hn:∀p,m id=Ix p->S' p.b->S p.b)(h:gZ O m S w id o):gZ O m' S' w' id o:=by
 have rowAt:∀(cs:List AV) (b k:Nat),w'.heap[b]? =w.heap[b]? ->cf O.ai m S w cs b k->cf O.ai m' S' w' cs b k:=by
  intro cs
  induction cs with
  | nil=>intro b k _ _;simp only[cf]
  | cons c cs ih=>
   intro b k Cc hr;have⟨⟨u,h1,h2⟩,h3⟩:=hr;exact⟨⟨u,(Q8 Cc).trans h1,pN hm hS hw _ _ h2⟩,ih b (k+1) Cc h3⟩
 cases o with
 | cells rw pu ex sz cs=>
  have⟨p,arr,t,h1,h2,h3,h4,h5,h6,h7,h8,h9,jk⟩:=h;exact⟨p,arr,t,hm _ _ h1,(hb p h1).trans h2,h3,h4,h5,h6,rowAt cs p.b p.o (hb p h1) h7,h8,fun hr hs=>h9 hr (hn p h1 hs),fun hr=>hS _ (jk hr)⟩
 | mp rw ks vs=>
  have⟨p,es,clock,h1,h2,h3,h4,h5,h6⟩:=h;exact⟨p,es,clock,hm _ _ h1,(hb p h1).trans h2,jJ hm hS hw _ _ h3,jJ hm hS hw _ _ h4,fun hr hs=>h5 hr (hn p h1 hs),fun hr=>hS _ (h6 hr)⟩
 | si s pos=>
  have⟨p,t,h1,h2,h3,h4⟩:=h;exact⟨p,t,hm _ _ h1,(hb p h1).trans h2,h3,fun hs=>h4 (hn p h1 hs)⟩
 | lp tm ps cX body st pe=>
  have⟨p,l,hi,h1,h2,h3,h4,h5,h6,h7,h8⟩:=h;exact⟨p,l,hi,hm _ _ h1,(hb p h1).trans h2,fun hs=>h3 (hn p h1 hs),h4,h5,h6,D5 hm hS hw h7,h8⟩
def jK{id i:Nat}{o:Obj}:au ((id,o)::hp) i=if id=i then Ix o else au hp i:=by
 simp only[au]
 simp_all
def MI(hh:aW O m S w hp ct)(g:yaf):iE S w (w.alloc g):=fun b hb=>alloc_old (hh.slt b hb)
def mj:Obj->Obj->Prop
 | .cells rw pu ex sz cs,o'=>∃dn,o'=.cells dn pu ex sz cs/\(dn=ycO->rw=ycO)
 | .mp rw ks vs,o'=>∃dn,o'=.mp dn ks vs/\(dn=ycO->rw=ycO)
 | .si s pos,o'=>o'=.si s pos
 | .lp tm ps cX body st pe,o'=>o'=.lp tm ps cX body st pe
def mj.refl:∀o,mj o o
 | .cells rw _ _ _ _=>⟨rw,rfl,fun h=>h⟩
 | .mp rw _ _=>⟨rw,rfl,fun h=>h⟩
 | .si _ _=>rfl
 | .lp _ _ _ _ _ _=>rfl
def mj.trans{a b c:Obj}(h:mj a b)(k:mj b c):mj a c:=by
 cases a with
 | cells rw pu ex sz cs=>
  obtain⟨r1,rfl,h1⟩:=h;obtain⟨r2,rfl,h2⟩:=k;exact⟨r2,rfl,fun h=>h1 (h2 h)⟩
 | mp rw ks vs=>
  obtain⟨r1,rfl,h1⟩:=h;obtain⟨r2,rfl,h2⟩:=k;exact⟨r2,rfl,fun h=>h1 (h2 h)⟩
 | si s pos=>simp only[mj] at h;subst h;exact k
 | lp tm ps cX body st pe=>simp only[mj] at h;subst h;exact k
def dJ(hp aq:Hp):Prop:=∀id o,au hp id=Ix o->∃o',au aq id=Ix o'/\mj o o'
def dJ.refl{hp:Hp}:dJ hp hp:=fun _ o h=>⟨o,h,mj.refl o⟩
def dJ.trans{a b c:Hp}(h:dJ a b)(k:dJ b c):dJ a c:=fun id o ho=>
 let ⟨o1,h1,l1⟩:=h id o ho
 let ⟨o2,h2,l2⟩:=k id o1 h1
 ⟨o2,h2,l1.trans l2⟩
def lL:Obj->Prop
 | .cells rw _ _ _ _=>rw=ycP
 | .mp rw _ _=>rw=ycP
 | _=>False
def ah5{aq:Hp}(hh:aW O m S w hp ct)(hl:dJ hp aq)(hd:∀id o p,au aq id=Ix o->m id=Ix p->∃o',au hp id=Ix o')(jF:ct<=bc)(aDl:∀id o,au aq id=Ix o->id<bc):
  ∃S',aW O m S' w aq bc/\(∀b,S b->S' b)/\∀b,S' b->S b\/fe m hp b:=by
 refine⟨fun b=>S b\/∃id p o,m id=Ix p/\p.b=b/\au aq id=Ix o/\lL o,?_,fun b h=>.inl h,?_⟩
 .refine ⟨?_,fun id p h=>yT (hh.lt id p h) jF,?_,?_,hh.blt,hh.low,hh.nF,hh.iG,aDl⟩
  .intro id o' p oD hm;have⟨o,ho⟩:=hd id o' p oD hm;have⟨o'',h1,h2⟩:=hl id o ho;rw[oD] at h1;injection h1 with h1
   subst h1;have h3:=hh.obj id o p ho hm;have hS:∀b,S b->(S b\/∃id p o,m id=Ix p/\p.b=b/\au aq id=Ix o/\lL o):=fun b h=>.inl h
   have kG:∀q,m id=Ix q->(∃id p o,m id=Ix p/\p.b=q.b/\au aq id=Ix o/\lL o)->lL o':=by
    rintro q hq ⟨j,pj,oj,hj1,hj2,hj3,hj4⟩;have⟨PM,hj5⟩:=hd j oj pj hj3 hj1
    have:=hh.inj id j o PM q pj ho hj5 hq hj1 hj2.symm
    grind
   have aK:iE S w w:=fun _ _=>rfl
   cases o with
   | cells rw pu ex sz cs=>
    obtain⟨dn,rfl,A4⟩:=h2;have⟨q,arr,t,h1,h2,h3,h4,h5,h6,h7,h8,h9,jk⟩:=h3;refine⟨q,arr,t,h1,h2,h3,h4,h5,h6,?_,h8,?_,?_⟩
    .clear h4 h6 h8;revert h7;generalize q.o=k
     induction cs generalizing k with
     | nil=>intro _;simp only[cf]
     | cons c cs ih=>
      intro hr;simp only[cf] at hr ⊢;have⟨⟨u,g1,g2⟩,g3⟩:=hr
      exact⟨⟨u,g1,pN (fun _ _ h=>h) hS aK _ _ g2⟩,by
       have lz:∀(cs:List AV) (b k:Nat),cf O.ai m S w cs b k->cf O.ai m (fun b=>S b\/∃id p o,m id=Ix p/\p.b=b/\au aq id=Ix o/\lL o) w cs b k:=by
        intro cs
        induction cs with
        | nil=>intro b k _;simp only[cf]
        | cons c cs ih=>
         intro b k hr;simp only[cf] at hr ⊢;have⟨⟨u,g1,g2⟩,g3⟩:=hr;exact⟨⟨u,g1,pN (fun _ _ h=>h) hS aK _ _ g2⟩,ih b (k+1) g3⟩
       exact lz _ _ _ g3⟩
    .rintro hr (hs | hs)
     .grind
     .have:=kG q h1 hs
      simp only[lL] at this
      grind
    .intro hr;exact .inr ⟨id,q,_,h1,rfl,oD,hr⟩
   | mp rw ks vs=>
    obtain⟨dn,rfl,A4⟩:=h2;have⟨q,es,clock,h1,h2,h3,h4,h5,h6⟩:=h3;refine⟨q,es,clock,h1,h2,jJ (fun _ _ h=>h) hS aK _ _ h3,jJ (fun _ _ h=>h) hS aK _ _ h4,?_,?_⟩
    .rintro hr (hs | hs)
     .grind
     .have:=kG q h1 hs
      simp only[lL] at this
      grind
    .intro hr;exact .inr ⟨id,q,_,h1,rfl,oD,hr⟩
   | si s pos=>
    simp only[mj] at h2;subst h2;refine Bp (fun _ _ h=>h) hS aK (fun _ _=>rfl) (fun q hq hs=>?_) h3;rcases hs with hs | hs
    .grind
    .exact (kG q hq hs).elim
   | lp tm ps cX body st pe=>
    simp only[mj] at h2;subst h2;refine Bp (fun _ _ h=>h) hS aK (fun _ _=>rfl) (fun q hq hs=>?_) h3;rcases hs with hs | hs
    .grind
    .exact (kG q hq hs).elim
  .intro i j oi oj pi pj hi hj bN iU e;have⟨PN,bD⟩:=hd i oi pi hi bN;have⟨PM,KG⟩:=hd j oj pj hj iU;exact hh.inj i j PN PM pi pj bD KG bN iU e
  .rintro b (hb | ⟨id,p,o,h1,rfl,_,_⟩)
   .exact hh.slt b hb
   .exact hh.blt id p h1
 .rintro b (hb | ⟨id,p,o,h1,rfl,h3,_⟩)
  .exact .inl hb
  .have ⟨o',oD⟩:=hd id o p h3 h1;exact .inr ⟨id,o',p,oD,h1,rfl⟩
def agM{i:Nat}(hh:aW O m S w hp ct)(hi:m i=Iy)(Fv:i<ct){g:yaf}{p:Pl}(hb:p.b=w.heap.size)(hf:∀o,au hp i=Ix o->(gZ O (hZ m i p) S (w.alloc g) i o/\¬lL o)\/
   (lL o/\gZ O (hZ m i p) (fun b=>S b\/b=w.heap.size) (w.alloc g) i o)):
  ∃S',aW O (hZ m i p) S' (w.alloc g) hp ct/\(∀b,S b->S' b)/\∀b,S' b->S b\/b=w.heap.size:=by
 have fL:(w.alloc g).heap.size=w.heap.size+1:=by simp
 have bj:O.w0.heap.size<=w.heap.size:=hh.iG;have gen:∀S':Nat->Prop,(∀b,S b->S' b)->(∀b,S' b->S b\/b=w.heap.size)->(∀o,au hp i=Ix o->gZ O (hZ m i p) S' (w.alloc g) i o)->aW O (hZ m i p) S' (w.alloc g) hp ct:=by
  intro S' h1 h2 h3;have PO:∀id q,m id=Ix q->¬q.b=w.heap.size:=fun id q hq=>by have:=hh.blt id q hq;lia
  refine⟨?_,?_,?_,?_,?_,?_,?_,?_,hh.aY⟩
  .intro id o q ho hm;by_cases hc:id=i
   .grind
   .rw [fj hc] at hm;refine Bp (nU hi) h1 (MI hh g) (fun q' bO=>alloc_old (hh.blt id q' bO)) (fun q' bO hs=>?_) (hh.obj id o q ho hm)
    grind
  .intro id q hm;by_cases hc:id=i
   .grind
   .rw [fj hc] at hm;exact hh.lt id q hm
  .intro a b oa ob pa pb ha dd HL Da e;by_cases ca:a=i
   .by_cases cb:b=i
    .grind
    .subst ca;rw[fk] at HL;rw[fj cb] at Da
     grind
   .rw [fj ca] at HL;by_cases cb:b=i
    .subst cb;rw[fk] at Da
     grind
    .rw [fj cb] at Da;exact hh.inj a b oa ob pa pb ha dd HL Da e
  .intro b hs;rcases h2 b hs with h | h
   .have:=hh.slt b h;lia
   .lia
  .intro id q hm;by_cases hc:id=i
   .subst hc;rw[fk] at hm
    grind
   .rw [fj hc] at hm
    have:=hh.blt id q hm
    lia
  .intro id q hm;by_cases hc:id=i
   .subst hc;rw[fk] at hm
    grind
   .rw [fj hc] at hm;exact hh.low id q hm
  .intro b Cc;exact (alloc_old (by lia)).trans (hh.nF b Cc)
  .lia
 cases ho:au hp i with
 | none=>exact⟨S,gen S (fun _ h=>h) (fun _ h=>.inl h) (fun o h=>by rw[ho] at h;cases h),fun _ h=>h,fun _ h=>.inl h⟩
 | some o=>
  rcases hf o ho with ⟨h1,_⟩ | ⟨_,h1⟩
  .exact ⟨S,gen S (fun _ h=>h) (fun _ h=>.inl h) (fun o' h=>by rw[ho] at h;injection h with h;subst h;exact h1),fun _ h=>h,fun _ h=>.inl h⟩
  .exact ⟨_,gen (fun b=>S b\/b=w.heap.size) (fun _ h=>.inl h) (fun _ h=>h) (fun o' h=>by rw[ho] at h;injection h with h;subst h;exact h1),fun _ h=>.inl h,fun _ h=>h⟩
def aeD{id:Nat}{o o':Obj}{p:Pl}(hl:mj o o')(hm:m id=Ix p)(h:gZ O m S w id o)(hn:¬lL o):
  (gZ O m S w id o'/\¬lL o')\/(lL o'/\gZ O m (fun b=>S b\/b=p.b) w id o'):=by
 have hS:∀b,S b->(S b\/b=p.b):=fun _ h=>.inl h
 have aK:iE S w w:=fun _ _=>rfl
 cases o with
 | cells rw pu ex sz cs=>
  obtain⟨dn,rfl,A4⟩:=hl
  cases dn with
  | true=>
   grind
  | false=>
   refine .inr ⟨rfl,?_⟩;have⟨q,arr,t,h1,h2,h3,h4,h5,h6,h7,h8,h9,jk⟩:=h;rw[hm] at h1;injection h1 with h1
   subst h1;have lz:∀(cs:List AV) (b k:Nat),cf O.ai m S w cs b k->cf O.ai m (fun b=>S b\/b=p.b) w cs b k:=by
    intro cs
    induction cs with
    | nil=>intro b k _;simp only[cf]
    | cons c cs ih=>
     intro b k hr;have⟨⟨u,g1,g2⟩,g3⟩:=hr;exact⟨⟨u,g1,pN (fun _ _ h=>h) hS aK _ _ g2⟩,ih b (k+1) g3⟩
   exact⟨p,arr,t,hm,h2,h3,h4,h5,h6,lz _ _ _ h7,h8,by simp,fun _=>.inr rfl⟩
 | mp rw ks vs=>
  obtain⟨dn,rfl,A4⟩:=hl
  cases dn with
  | true=>
   grind
  | false=>
   refine .inr ⟨rfl,?_⟩;have⟨q,es,clock,h1,h2,h3,h4,h5,h6⟩:=h;rw[hm] at h1;injection h1 with h1
   subst h1;exact⟨p,es,clock,hm,h2,jJ (fun _ _ h=>h) hS aK _ _ h3,jJ (fun _ _ h=>h) hS aK _ _ h4,by simp,fun _=>.inr rfl⟩
 | si s pos=>simp only[mj] at hl;subst hl;exact .inl ⟨h,hn⟩
 | lp tm ps cX body st pe=>simp only[mj] at hl;subst hl;exact .inl ⟨h,hn⟩
end
end
section
open Go
section
variable {v:AV}{arr:Array yr}{cs:List AV}{sz:Nat}{b:Obj}
section
variable {O:bC}{H:Hint}{m:Mp}{S:Nat->Prop}{w:yt}{tm:Env}{a:Act}{hp:Hp}{ct cq:Nat}
def XD{ai:Nat->Nat}{b:Nat}{arr:Array yr}{t:yL}{fr:Nat×Nat}(hb:w.heap[b]? =Ix (.cells arr t fr)):∀(cs:List AV) (us:List yr) (o:Nat),
  aE ai m S w cs us->(∀(j:Nat) (u:yr),us[j]? =Ix u->arr[o+j]? =Ix u)->cf ai m S w cs b o
 | [],us,o,_,_=>by simp only[cf]
 | c::cs,us,o,h,hu=>by
  simp only[aE] at h;obtain⟨u,r,rfl,h2,h3⟩:=h;simp only[cf];refine⟨⟨u,?_,h2⟩,XD hb cs r (o+1) h3 (fun j v hv=>?_)⟩
  .have:=hu 0 u (by simp)
   simpa[World.cell?,hb] using this
  .have:=hu (j+1) v (by simpa using hv)
   rw[show o+1+j=o+(j+1) by lia];exact this
def avN(hh:aW O m S w hp cq){i:Nat}{t:yL}{us:List yr}{pu:Bool}(hr:aE O.ai m S w cs us)(hu:∀(j:Nat) (u:yr),us[j]? =Ix u->arr[j]? =Ix u)(hl:cs.length<=arr.size)(hex:ex=ycO->cs.length=arr.size)(jE:pu=ycO->aD cs=ycO)(m':Mp)(hm:dY m m')(hi:m' i=Ix ⟨w.heap.size,0,arr.size,sz⟩):gZ O m' S (w.alloc (.cells arr t)) i (.cells ycO pu ex sz cs):=by
 refine⟨⟨w.heap.size,0,arr.size,sz⟩,arr,t,hi,heap_alloc_new w _,rfl,hl,by simp,hex,?_,jE,?_,by simp⟩
 .exact XD (heap_alloc_new w _) cs us 0 (jJ hm (fun _ h=>h) (MI hh _) _ _ hr) (by simpa using hu)
 .intro _ hS
  have:=hh.slt _ hS
  simp at this
def G3(O:bC)(m:Mp)(S:Nat->Prop)(w:yt)(a:Act)(ct:Nat)(o:xk)(v:AV)(b:Obj):Prop:=
 ∃u g p,(execOp a.eval o).run O.P w=.ok (.value u) (w.alloc g)/\p.b=w.heap.size/\¬lL b/\
  ∀m',dY m m'->m' ct=Ix p->gZ O m' S (w.alloc g) ct b/\ak O.ai m' S (w.alloc g) v u
def XE{o:xk}{t:yL}{us:List yr}{pu:Bool}{u:yr}(hh:aW O m S w hp cq)(he:(execOp a.eval o).run O.P w=.ok (.value u) (w.alloc (.cells arr t)))(hr:aE O.ai m S w cs us)(hu:∀(j:Nat) (u:yr),us[j]? =Ix u->arr[j]? =Ix u)(hl:cs.length<=arr.size)(hex:ex=ycO->cs.length=arr.size)(jE:pu=ycO->aD cs=ycO)(hv:∀m':Mp,m' ct=Ix ⟨w.heap.size,0,arr.size,sz⟩->ak O.ai m' S (w.alloc (.cells arr t)) v u):G3 O m S w a ct o v (.cells ycO pu ex sz cs):=
 ⟨u,_,⟨w.heap.size,0,arr.size,sz⟩,he,rfl,by simp[lL],fun m' hm hi=>⟨avN hh hr hu hl hex jE m' hm hi,hv m' hi⟩⟩
def agN{o:xk}{t:yL}{x:yr}{vx:AV}(hh:aW O m S w hp cq)(he:(execOp a.eval o).run O.P w=.ok (.value (.pointer (Ix ⟨w.heap.size,0,Iy⟩))) (w.alloc (.cells x.cells t)))(hx:aE O.ai m S w (cellsOf vx) x.cells.toList)(hv:(bif yG (cellsOf vx).length sz&&bP (cellsOf vx) then Ix (AV.ptr ct 0,Obj.cells ycO (aD (cellsOf vx)) ycO sz (cellsOf vx)) else Iy)=Ix (v,b)):G3 O m S w a ct o v b:=by
 cases hc:(yG (cellsOf vx).length sz&&bP (cellsOf vx)) with
 | false=>rw[hc] at hv;cases hv
 | true=>
  rw[hc] at hv;obtain⟨rfl,rfl⟩:=hv;have hlen:=kK _ _ hx;refine XE hh he hx (fun j u hj=>by simpa using hj) (by rw[<-hlen];simp) (fun _=>by rw[<-hlen];simp) (fun h=>h) (fun m' hi=>?_)
  simp only[ak];exact⟨_,hi,by simp⟩
def ath{o:xk}{t:yL}{r:Option xN}(hh:aW O m S w hp cq)(ho:o.op=.makeMap t r)(hr:r=Iy):G3 O m S w a ct o (.map ct) (.mp ycO [] []):=by
 subst hr;refine⟨.map (Ix w.heap.size),.map #[] 0,⟨w.heap.size,0,0,0⟩,by simp[execOp,ho,Instr.makeMap],rfl,by simp[lL],fun m' _ hi=>⟨?_,?_⟩⟩
 .refine ⟨_,#[],0,hi,heap_alloc_new w _,by simp[aE],by simp[aE],?_,by simp⟩;intro _ hS
  have:=hh.slt _ hS
  simp at this
 .simp only [ak];exact⟨_,hi,rfl⟩
def arn{o:xk}{t:yL}{x:xN}{s:List Nat}(hh:aW O m S w hp cq)(ho:o.op=.range t x)(hu:O.P.underlying t=Ix .string)(hx:ak O.ai m S w (.str s) (a.eval x)):
  G3 O m S w a ct o (.it ct) (.si s 0):=by
 obtain⟨b,e,rfl⟩:=hx;refine⟨.pointer (Ix ⟨w.heap.size,0,Iy⟩),.stringIter b 0,⟨w.heap.size,0,0,0⟩,by simp[execOp,ho,Instr.range,run_underlying hu,e],rfl,by simp[lL],fun m' _ hi=>⟨?_,?_⟩⟩
 .refine ⟨_,b,hi,heap_alloc_new w _,rfl,?_⟩;intro hS
  have:=hh.slt _ hS
  simp at this
 .simp only [ak];exact⟨_,hi,rfl⟩
end
def aro(zero:Array yr):(wO zero.size).map (fun j=>zero[j]!)=zero.toList:=by
 apply List.ext_getElem
 .simp
 .grind
def aeY(zero:Array yr):∀n:Nat,(wO (n*zero.size)).map (fun i=>zero[i%zero.size]!)=(ye n zero.toList).flatten
 | 0=>by simp
 | n+1=>by
  rw[xU,ybX,List.range_add,List.map_append,aeY zero n,List.replicate_succ',vD]
  congr 1
  simp only[List.map_map,wq,List.flatten_nil,List.append_nil];rw[<-aro zero];apply List.map_congr_left;intro j hj;simp at hj;simp[Function.comp,xY n,Nat.mod_eq_of_lt hj]
def Yb{ai:Nat->Nat}{m:Mp}{S:Nat->Prop}{w:yt}{cs:List AV}{us:List yr}(h:aE ai m S w cs us):∀n,aE ai m S w (ye n cs).flatten (ye n us).flatten
 | 0=>by simp[aE]
 | n+1=>by rw[wG,wG,wq,wq];exact pL h (Yb h n)
section
variable {O:bC}{H:Hint}{m:Mp}{S:Nat->Prop}{w:yt}{tm:Env}{a:Act}{hp:Hp}{ct cq:Nat}
def afP(zero:Array yr)(n:Nat):(Array.map (fun i=>zero[i%zero.size]!) (tA (n*zero.size))).toList=(ye n zero.toList).flatten:=by
 rw[<-aeY zero n]
 simp
def agO(tm:Env):∀(ps:List (Nat×Nat×X)) (zero cs:List AV),fill tm zero ps=Ix cs->cs.length=zero.length
 | [],zero,cs,h=>by simp only[fill,yc] at h;rw[h]
 | (o,sz,x)::r,zero,cs,h=>by
  simp only[fill] at h
  cases hc:(yG (cellsOf (aC tm x)).length sz&&yO (o+sz) zero.length&&bP (cellsOf (aC tm x))) with
  | false=>rw[hc] at h;cases h
  | true=>
   rw[hc] at h;simp only[yj] at hc;have h1:=yz hc.1.1;have h2:=yF hc.1.2;rw[agO tm r _ _ h];simp only[over,yE,yJ,xZ]
   lia
def RS{α:Type}(l:List α):∀n,(ye n l).flatten.length=n*l.length
 | 0=>by simp
 | n+1=>by simp[wG,RS l n,xU,Nat.add_comm]
def arp{o:xk}{t e:yL}{n s:Nat}{z:AV}{parts:Array (Nat×xN)}{ps:List (Nat×Nat×X)}(hH:im O H)(ht:cp O m S w tm a.tmps)(hh:aW O m S w hp cq)(ho:o.op=.buildSlice t n parts)(hu:O.P.underlying t=Ix (.slice e))(hs:cY O.P e=Ix s)(hz:rq O.P e=Ix z)(hn:n*s<=16777216)(dX:partsOf H (fun i=>Ix (i*s,s)) parts.toList=Ix ps)(hv:dh tm hp ct (.sD n s (ye n (cellsOf z)).flatten ps)=Ix (v,b)):G3 O m S w a ct o v b:=by
 simp only[dh] at hv
 cases hf:fill tm (ye n (cellsOf z)).flatten ps with
 | none=>simp[hf] at hv
 | some cs=>
  simp only[hf] at hv
  cases hc:yG cs.length (n*s) with
  | false=>rw[hc] at hv;cases hv
  | true=>
   rw[hc] at hv;simp only[yN,yc,yD] at hv;obtain⟨rfl,rfl⟩:=hv;have hlen:=yz hc;obtain⟨zv,kF,rfl⟩:=IX (w:=w) hz;have Dz:aE O.ai m S w (cellsOf (fQ zv)) zv.cells.toList:=Iz zv;have DA:=kK _ _ Dz;have Cd:=agO tm ps _ _ hf;rw[RS] at Cd;have KH:n*s=n*zv.cells.size:=by
    rw[<-hlen,Cd,<-DA];simp
   have key:∃zr:Array yr,(n*s=0->zr=#[])/\(n*s≠0->zr=zv.cells)/\aE O.ai m S w (ye n (cellsOf (fQ zv))).flatten ((tA (n*s)).map (fun x=>zr[x%zr.size]!)).toList:=by
    by_cases h0:n*s=0
    .refine ⟨#[],fun _=>rfl,fun h=>(h h0).elim,?_⟩
     have:(ye n (cellsOf (fQ zv))).flatten=[]:=by
      apply yu;rw[RS,<-DA];simp only[vZ]
      lia
     rw[this];simp[aE,h0]
    .refine ⟨zv.cells,fun h=>(h0 h).elim,fun _=>rfl,?_⟩;rw[KH,afP];exact Yb Dz n
   have⟨zr,hk0,rM,DB⟩:=key;have⟨out,h1,h2⟩:=Sv hH ht (place:=fun i=>Ix (i*s,s)) parts.toList ps _ cs _ dX DB hf;have qH:=kK _ _ h2
   refine XE (arr:=out) (t:=e) (us:=out.toList) hh ?_ h2 (fun j u hj=>by simpa using hj) (by rw[<-qH];simp) (fun _=>by rw[<-qH];simp) (fun h=>h) (u:=.slice (Ix ⟨w.heap.size,0,Iy⟩) n n) ?_
   .have fg:¬(n*s>2^24):=by lia
    by_cases h0:n*s=0
    .have:=hk0 h0
     subst this;simp only[h0] at h1;simp[execOp,ho,Instr.buildSlice,run_underlying hu,rX hs,h0,newRow] at h1 ⊢;simp[h1]
    .have:=rM h0
     subst this;simp[execOp,ho,Instr.buildSlice,run_underlying hu,rX hs,h0,fg,kF,newRow] at h1 ⊢;simp[h1]
   .intro m' hi;simp only[ak];refine⟨_,n,hi,by simp,ym _,?_⟩;simp only[yd];rw[<-hlen,<-qH];simp
def IA:∀{a b:List AV},aD a=ycO->aD b=ycO->aD (a++b)=ycO
 | [],_,_,h=>h
 | c::r,b,h,k=>by
  simp only[aD,yj] at h;simp only[xC,aD,yj];exact⟨h.1,IA h.2 k⟩
def afQ{z:List AV}(h:aD z=ycO):∀n,aD (ye n z).flatten=ycO
 | 0=>by simp[aD]
 | n+1=>by rw[wG,wq];exact IA h (afQ h n)
def ati{o:xk}{t e:yL}{s:Nat}{z:AV}{l c:xN}(hH:im O H)(ht:cp O m S w tm a.tmps)(hh:aW O m S w hp cq)(ho:o.op=.makeSlice t l c)(hu:O.P.underlying t=Ix (.slice e))(hs:cY O.P e=Ix s)(hb:Fq O.P e=Ix by')(hz:rq O.P e=Ix z)(hv:dh tm hp ct (.sM s by' (cellsOf z) (aS H l) (aS H c))=Ix (v,b)):G3 O m S w a ct o v b:=by
 simp only[dh] at hv
 cases hl:dM (aC tm (aS H l)) with
 | none=>simp[hl] at hv
 | some ln=>
  cases hc:dM (aC tm (aS H c)) with
  | none=>simp[hl,hc] at hv
  | some cn=>
   simp only[hl,hc] at hv
   cases hk:(yO ln cn&&(yO cn room&&(yO (cn*by') room&&(yG (cellsOf z).length s&&bP (cellsOf z))))) with
   | false=>rw[hk] at hv;cases hv
   | true=>
    rw[hk] at hv;simp only[yN,yc,yD] at hv;obtain⟨rfl,rfl⟩:=hv;simp only[yj] at hk;have h1:=yF hk.1;have h2:=yF hk.2.1;have h3:=yF hk.2.2.1;have h4:=yz hk.2.2.2.1;simp only[room] at h2 h3;have⟨kl,el⟩:=CI (cO hH ht l) hl;have⟨kc,ec⟩:=CI (cO hH ht c) hc;obtain⟨zv,kF,rfl⟩:=IX (w:=w) hz;have Dz:aE O.ai m S w (cellsOf (fQ zv)) zv.cells.toList:=Iz zv;have DA:=kK _ _ Dz;have PP:zv.cells.size=s:=by rw[<-h4,<-DA];simp
    have wrapN:∀k:Nat,k<=1099511627776->IntKind.i64.wrap (k:Int)=k:=fun k hk=>IntWalk.i64_in _ (by lia)
    obtain⟨ti,DC,fL,hby⟩:∃ti,O.P.info? e=Ix ti/\ti.size=s/\ti.bytes=by':=by
     unfold cY at hs;unfold Fq at hb
     cases hi:O.P.info? e with
     | none=>simp[hi] at hs
     | some ti=>simp only[hi,yc] at hs hb;exact⟨ti,rfl,hs,hb⟩
    have He:((tA (cn*s)).map (zv.cells[·%zv.cells.size]!)).toList=(ye ln zv.cells.toList).flatten++(ye (cn-ln) zv.cells.toList).flatten:=by
     rw[<-PP,afP,<-vD,List.replicate_append_replicate]
     grind
    have oE:(ye ln (cellsOf (fQ zv))).flatten.length=ln*s:=by rw[RS,h4]
    have hmul:ln*s<=cn*s:=yR _ h1
    refine XE (arr:=(tA (cn*s)).map (zv.cells[·%zv.cells.size]!)) (t:=e) (us:=(ye ln zv.cells.toList).flatten) hh (u:=.slice (Ix ⟨w.heap.size,0,Iy⟩) ln cn) ?_
     (Yb Dz ln) ?_ ?_ ?_ (fun h=>?_) ?_
    .have aJy:by'*cn<=1099511627776:=by rw[xY];exact h3
     have Ce:((by'*cn:Nat):Int)<=1099511627776:=by lia
     rw[Int.natCast_mul] at Ce;have hlc:(ln:Int)<=(cn:Int):=by lia
     have g1:¬(281474976710656<(by':Int)*(cn:Int)):=by lia
     have g2:¬(((ln:Int)<0)):=by lia
     have g3:¬(((cn:Int)<0)):=by lia
     have g4:¬((ln:Int)>(cn:Int)):=by lia
     by_cases h0:cn*s=0
     .simp [execOp,ho,Instr.makeSlice,run_underlying hu,el,ec,asInt,asIntOf,typeInfo,DC,hby,wrapN ln (by lia),wrapN cn h2,g1,g2,g3,g4,rX hs,h0,newRow,askRoom,roomBytes]
      grind
     .simp [execOp,ho,Instr.makeSlice,run_underlying hu,el,ec,asInt,asIntOf,typeInfo,DC,hby,wrapN ln (by lia),wrapN cn h2,g1,g2,g3,g4,rX hs,h0,newRow,askRoom,roomBytes,kF]
    .intro j u hj
     have:((tA (cn*s)).map (zv.cells[·%zv.cells.size]!)).toList[j]? =Ix u:=by
      grind
     grind
    .grind
    .simp_all
    .exact afQ h ln
    .intro m' hi;simp only[ak];refine⟨_,cn,hi,by simp,h1,?_⟩
     simp
def avO{o:xk}{k:Nat}(hH:im O H)(ht:cp O m S w tm a.tmps)(hh:aW O m S w hp cq)(hv:dh tm hp ct (bn O.P H k o)=Ix (v,b)):G3 O m S w a ct o v b:=by
 cases ho:o.op with
 | call c=>
  have⟨callee,args,ts⟩:=c;simp only[bn,ho] at hv
  repeat' split at hv
  all_goals first
   | (simp[dh,bad] at hv;done)
   | (revert hv;generalize yG _ _=bb;intro hv;cases bb<;>simp[dh,bad] at hv)
 | alloc t=>
  simp only[bn,ho] at hv
  split at hv
  .rename_i s z hs hz;obtain⟨zv,kF,rfl⟩:=IX (w:=w) hz
   exact agN (x:=zv) (t:=t) hh (by simp[execOp,ho,Instr.alloc,kF,newVar,newRow]) (Iz zv) (by simpa only[dh,aC] using hv)
  .simp [dh,bad] at hv
 | box t x=>
  simp only[bn,ho] at hv
  split at hv
  .rename_i s hs;simp only[dh] at hv
   cases hc:(yG (cellsOf (aC tm (aS H x))).length s&&bP (cellsOf (aC tm (aS H x)))) with
   | false=>rw[hc] at hv;cases hv
   | true=>
    have h1:=hc;simp only[yj] at h1
    exact agN (x:=a.eval x) (t:=t) hh (by simp[execOp,ho,Instr.box,newVar,newRow]) (XC (cO hH ht x) h1.2) hv
  .simp [dh,bad] at hv
 | buildSlice t n parts=>
  simp only[bn,ho] at hv
  split at hv
  .rename_i e hu
   split at hv
   .rename_i s z hs hz
    cases hc:yO (n*s) 16777216 with
    | false=>rw[hc] at hv;simp[dh,bad] at hv
    | true=>
     rw[hc] at hv;simp only[yN] at hv
     split at hv
     .rename_i ps dX;exact arp hH ht hh ho hu hs hz (yF hc) dX hv
     .simp [dh,bad] at hv
   .simp [dh,bad] at hv
  .simp [dh,bad] at hv
 | makeSlice t l c=>
  simp only[bn,ho] at hv
  split at hv
  .rename_i e hu
   split at hv
   .rename_i s by' z hs hb hz
    exact ati hH ht hh ho hu hs hb hz hv
   .simp [dh,bad] at hv
  .simp [dh,bad] at hv
 | makeMap t r=>
  cases r with
  | some x=>simp[bn,ho,dh,bad] at hv
  | none=>
   simp only[bn,ho] at hv
   repeat' split at hv
   all_goals first
    | (simp[dh,bad] at hv;done)
    | (
      simp only[dh,yc,yD] at hv;obtain⟨rfl,rfl⟩:=hv
      exact ath hh ho rfl)
 | range t x=>
  simp only[bn,ho] at hv
  split at hv
  .rename_i hu;simp only[dh] at hv;have rx:=cO hH ht x;cases hx:aC tm (aS H x)<;>rw[hx] at hv rx<;>simp only[reduceCtorEq] at hv
   simp only[yc,yD] at hv;obtain⟨rfl,rfl⟩:=hv;exact arn hh ho hu rx
  .simp [dh,bad] at hv
 | next x b=>cases b<;>simp[bn,ho,dh,bad] at hv
 | binOp op t x y ty=>
  cases op<;>simp only[bn,ho,BB,CH] at hv
  case eql=>
        repeat' split at hv
        all_goals first
         | (simp[dh,bad] at hv;done)
         | (cases hb:(O.P.stoodInHeld t||O.P.eqGuardType O.P.depth t)<;>rw[hb] at hv<;>simp[dh,bad] at hv)
  case neq=>
        repeat' split at hv
        all_goals first
         | (simp[dh,bad] at hv;done)
         | (cases hb:(O.P.stoodInHeld t||O.P.eqGuardType O.P.depth t)<;>rw[hb] at hv<;>simp[dh,bad] at hv)
  all_goals simp[dh] at hv
 | _=>
  simp only[bn,ho] at hv
  (repeat' split at hv)
  all_goals first
   | contradiction
   | (simp[dh,bad] at hv;done)
end
end
end
section
open Go
section
variable {hp aq:Hp}{cs vs eM:List AV}
def Bq{id i:Nat}{o:Obj}:au (aV hp id o) i=if id=i then (if (au hp id).isSome then Ix o else Iy) else au hp i:=by
 induction hp with
 | nil=>simp[aV,au]
 | cons x r ih=>
  have⟨j,q⟩:=x;simp only[aV];by_cases hj:j=id
  .subst hj;simp only[vd,yN,au];by_cases hi:j=i
   .simp_all
   .have:yG j i=ycP:=by
     cases hq:yG j i with
     | false=>rfl
     | true=>exact absurd (yz hq) hi
    grind
  .have hb:yG j id=ycP:=by
    cases hq:yG j id with
    | false=>rfl
    | true=>exact absurd (yz hq) hj
   simp only[hb,y5];rw[show au ((j,q)::aV r id o) i=bif yG j i then Ix q else au (aV r id o) i from rfl,ih];by_cases hi:j=i
   .subst hi
    have:¬id=j:=fun h=>hj h.symm
    simp[vd,this,au]
   .have Ce:yG j i=ycP:=by
     cases hq:yG j i with
     | false=>rfl
     | true=>exact absurd (yz hq) hi
    simp[Ce,au,hb]
def nd(hp aq:Hp):Prop:=∀id,(au aq id).isSome=(au hp id).isSome
def nd.refl:nd hp hp:=fun _=>rfl
def nd.trans{a b c:Hp}(h:nd a b)(k:nd b c):nd a c:=fun id=>(k id).trans (h id)
def YK{id:Nat}{o o':Obj}(h:au hp id=Ix o)(hl:mj o o'):dJ hp (aV hp id o')/\nd hp (aV hp id o'):=by
 constructor
 .intro i q hq;rw[Bq];by_cases hi:id=i
  .grind
  .exact ⟨q,by simp[hi,hq],mj.refl q⟩
 .intro i;rw[Bq]
  grind
def afR{H:Hp}{id:Nat}{pu:Bool}(hl:dJ hp H)(h:au hp id=Ix (.cells ycP pu ex sz cs)):au H id=Ix (.cells ycP pu ex sz cs):=by
 obtain⟨o',h1,dn,rfl,h2⟩:=hl id _ h
 cases dn with
 | false=>exact h1
 | true=>exact absurd (h2 rfl) (by simp)
section
variable {O:bC}
def aBc(O:bC)(m:Mp)(S:Nat->Prop)(w:yt)(p:Pl)(ex:Bool)(sz:Nat)(cs:List AV):Prop:=
 p.z=sz/\cs.length<=p.e/\(ex=ycO->cs.length=p.e)/\S p.b/\aD cs=ycO/\cf O.ai m S w cs p.b p.o
def aaA(O:bC)(aq:Hp)(v v':AV):Prop:=∀H m S w ct,dJ aq H->aW O m S w H ct->(∀u,ak O.ai m S w v u->ak O.ai m S w v' u)/\aP v'=ycO
def alC(O:bC)(aq:Hp)(vs eM:List AV):Prop:=∀H m S w ct,dJ aq H->aW O m S w H ct->(∀us,aE O.ai m S w vs us->aE O.ai m S w eM us)/\aD eM=ycO
def aDm(O:bC)(aq:Hp)(id:Nat)(ex:Bool)(sz:Nat)(cs:List AV):Prop:=∀H m S w ct,dJ aq H->aW O m S w H ct->∀p,m id=Ix p->aBc O m S w p ex sz cs
def IR{ai:Nat->Nat}{m:Mp}{S:Nat->Prop}{w:yt}{b:Nat}:∀(cs:List AV) (us:List yr) (o:Nat),aE ai m S w cs us->
  (∀(j:Nat) (u:yr),us[j]? =Ix u->w.cell? ⟨b,o+j,Iy⟩=Ix u)->cf ai m S w cs b o
 | [],us,o,_,_=>by simp only[cf]
 | c::cs,us,o,h,hu=>by
  obtain⟨u,r,rfl,h2,h3⟩:=h;refine⟨⟨u,by simpa using hu 0 u (by simp),h2⟩,IR cs r (o+1) h3 (fun j v hv=>?_)⟩;rw[show o+1+j=o+(j+1) by lia]
  simp_all
def aBd{m:Mp}{w:yt}{ej:List AV}(h:∀us,aE O.ai m S w cs us->aE O.ai m S w ej us){b o:Nat}(hr:cf O.ai m S w cs b o):cf O.ai m S w ej b o:=by
 have⟨us,h1,_,h3⟩:=Cy cs b o hr;exact IR ej us o (h us h1) h3
def F3:∀(k:Nat) {cs:List AV},aD cs=ycO->aD (cs.take k)=ycO
 | 0,_,_=>by simp[aD]
 | k+1,[],_=>by simp[aD]
 | k+1,c::cs,h=>by
  simp only[aD,yj,wS] at h ⊢;exact⟨h.1,F3 k h.2⟩
def atj:∀{n:Nat} {hp:Hp},cm n hp vs=Ix (eM,aq)->eM.length=vs.length:=by
 intro n
 induction n generalizing vs eM aq with
 | zero=>intro hp h;simp[cm] at h
 | succ n ih=>
  intro hp h
  cases vs with
  | nil=>simp only[cm,yc,yD] at h;rw[<-h.1]
  | cons v r=>
   simp only[cm] at h
   cases h1:freeze n hp v with
   | none=>simp[h1] at h
   | some q=>
    have⟨v',bm⟩:=q;simp only[h1] at h
    cases h2:cm n bm r with
    | none=>simp[h2] at h
    | some q2=>
     grind
def aeZ:∀n:Nat,
  (∀hp v v' aq,freeze n hp v=Ix (v',aq)->dJ hp aq/\nd hp aq/\aaA O aq v v')/\
  (∀hp id ex sz cs aq,Au n hp id=Ix (ex,sz,cs,aq)->dJ hp aq/\nd hp aq/\aDm O aq id ex sz cs)/\
  (∀hp vs eM aq,cm n hp vs=Ix (eM,aq)->dJ hp aq/\nd hp aq/\alC O aq vs eM):=by
 intro n
 induction n with
 | zero=>refine⟨?_,?_,?_⟩<;>intros<;>simp_all[freeze,Au,cm]
 | succ n ih=>
  have⟨ihV,ihB,KI⟩:=ih;refine⟨?_,?_,?_⟩
  .intro hp v v' aq h;have plain:∀{v v':AV} {hp aq:Hp},(bif aP v then Ix (v,hp) else Iy)=Ix (v',aq)->dJ hp aq/\nd hp aq/\aaA O aq v v':=by
    intro v v' hp aq h
    cases hc:aP v with
    | false=>rw[hc] at h;cases h
    | true=>
     rw[hc] at h;simp only[yN,yc,yD] at h;obtain⟨rfl,rfl⟩:=h;exact⟨dJ.refl,nd.refl,fun _ _ _ _ _ _ _=>⟨fun _ h=>h,hc⟩⟩
   cases v<;>simp only[freeze] at h<;>first | exact plain h | skip
   case av id o k=>
    cases hb:Au n hp id with
    | none=>simp[hb] at h
    | some q=>
     have⟨ex,sz,cs,bm⟩:=q;simp only[hb] at h
     cases hc:yO (o+k*sz) cs.length with
     | false=>rw[hc] at h;cases h
     | true=>
      rw[hc] at h;simp only[yN,yc,yD] at h;obtain⟨rfl,rfl⟩:=h;have hle:=yF hc;have⟨h1,h2,h3⟩:=ihB _ _ _ _ _ _ hb;refine⟨h1,h2,fun H m S w ct hl hh=>⟨fun u hu=>?_,by simp only[aP]⟩⟩;simp only[ak] at hu ⊢;obtain⟨p,c,hm,rfl,mN,VH⟩:=hu;have⟨g1,g2,g3,g4,g5,g6⟩:=h3 H m S w ct hl hh p hm;refine .inl ⟨p.b,p.o+o,c,rfl,mN,?_,.inr g4,F3 _ (D3 _ _ g5),F6 _ _ _ _ (Bo _ _ _ _ g6)⟩;intro hx;simp only[yj] at hx;have e1:=yz hx.2;have e2:0<sz:=by
       simp_all
      have e3:=g3 hx.1.1;rw[g1] at VH
      have:c*sz=k*sz:=by lia
      exact yav e2 this
   case ptr id o=>
    cases hb:Au n hp id with
    | none=>simp[hb] at h
    | some q=>
     have⟨ex,sz,cs,bm⟩:=q;simp only[hb,yc,yD] at h;obtain⟨rfl,rfl⟩:=h;have⟨h1,h2,h3⟩:=ihB _ _ _ _ _ _ hb;refine⟨h1,h2,fun H m S w ct hl hh=>⟨fun u hu=>?_,by simp only[aP]⟩⟩;simp only[ak] at hu ⊢;obtain⟨p,hm,rfl⟩:=hu;have⟨g1,g2,g3,g4,g5,g6⟩:=h3 H m S w ct hl hh p hm;exact⟨p.b,p.o+o,rfl,.inr g4,D3 _ _ g5,Bo _ _ _ _ g6⟩
   case map id=>
    cases hg:au hp id with
    | none=>simp[hg] at h
    | some ob=>
     cases ob<;>simp only[hg,reduceCtorEq] at h
     rename_i rw ks vs
     cases hc:(aD ks&&aD vs) with
     | false=>rw[hc] at h;cases h
     | true=>
      rw[hc] at h;simp only[yN,yc,yD] at h;obtain⟨rfl,rfl⟩:=h;simp only[yj] at hc;have⟨h1,h2⟩:=YK hg (o':=.mp ycP ks vs) ⟨ycP,rfl,by simp⟩;refine⟨h1,h2,fun H m S w ct hl hh=>⟨fun u hu=>?_,by simp only[aP]⟩⟩;simp only[ak] at hu ⊢;obtain⟨p,hm,rfl⟩:=hu;have hq:au (aV hp id (.mp ycP ks vs)) id=Ix (.mp ycP ks vs):=by rw[Bq];simp[hg]
      obtain⟨o',h3,dn,rfl,h4⟩:=hl id _ hq;have A4:dn=ycP:=by cases dn with | false=>rfl | true=>exact absurd (h4 rfl) (by simp)
      subst A4;have⟨p',es,clock,g1,g2,g3,g4,g5,g6⟩:=hh.obj id _ _ h3 hm;rw[hm] at g1;injection g1 with g1
      subst g1;exact⟨p.b,es,clock,rfl,g6 rfl,hc.1,hc.2,g2,g3,g4⟩
   case fn f first cap=>
    cases f with
    | y l=>simp only[aP,y5,reduceCtorEq] at h
    | f g=>
     simp only at h
     cases h1:cm n hp first with
     | none=>simp[h1] at h
     | some q=>
      have⟨ajl,bm⟩:=q;simp only[h1] at h
      cases h2:cm n bm cap with
      | none=>simp[h2] at h
      | some q2=>
       have⟨Ug,ff⟩:=q2;simp only[h2,yc,yD] at h;obtain⟨rfl,rfl⟩:=h;have⟨a1,a2,a3⟩:=KI _ _ _ _ h1;have⟨b1,b2,b3⟩:=KI _ _ _ _ h2;refine⟨a1.trans b1,a2.trans b2,fun H m S w ct hl hh=>?_⟩;have⟨c1,c2⟩:=a3 H m S w ct (b1.trans hl) hh;have⟨d1,d2⟩:=b3 H m S w ct hl hh;refine⟨fun u hu=>?_,by simp[aP,c2,d2]⟩;simp only[ak] at hu ⊢;obtain⟨fi,ca,rfl,e1,e2⟩:=hu;exact⟨fi,ca,rfl,c1 _ e1,d1 _ e2⟩
   case agg cs=>
    cases h1:cm n hp cs with
    | none=>simp[h1] at h
    | some q=>
     have⟨ej,bm⟩:=q;simp only[h1,yc,yD] at h;obtain⟨rfl,rfl⟩:=h;have⟨a1,a2,a3⟩:=KI _ _ _ _ h1;refine⟨a1,a2,fun H m S w ct hl hh=>?_⟩;have⟨c1,c2⟩:=a3 H m S w ct hl hh;refine⟨fun u hu=>?_,by simpa[aP] using c2⟩;simp only[ak] at hu ⊢;obtain⟨xs,rfl,e1⟩:=hu;exact⟨xs,rfl,c1 _ e1⟩
   case ax cs=>
    cases h1:cm n hp cs with
    | none=>simp[h1] at h
    | some q=>
     have⟨ej,bm⟩:=q;simp only[h1,yc,yD] at h;obtain⟨rfl,rfl⟩:=h;have⟨a1,a2,a3⟩:=KI _ _ _ _ h1;refine⟨a1,a2,fun H m S w ct hl hh=>?_⟩;have⟨c1,c2⟩:=a3 H m S w ct hl hh;refine⟨fun u hu=>?_,by simpa[aP] using c2⟩;simp only[ak] at hu ⊢;obtain⟨xs,rfl,e1⟩:=hu;exact⟨xs,rfl,c1 _ e1⟩
  .intro hp id ex sz ej aq h;simp only[Au] at h
   cases hg:au hp id with
   | none=>simp[hg] at h
   | some ob=>
    cases ob<;>simp only[hg,reduceCtorEq] at h
    rename_i rw pu Ca Fw cs
    cases pu with
    | true=>
     simp only[yN,yc,yD] at h;obtain⟨rfl,rfl,rfl,rfl⟩:=h;have hq:dJ hp (bif rw then aV hp id (.cells ycP ycO Ca Fw cs) else hp)/\nd hp (bif rw then aV hp id (.cells ycP ycO Ca Fw cs) else hp)/\au (bif rw then aV hp id (.cells ycP ycO Ca Fw cs) else hp) id=Ix (.cells ycP ycO Ca Fw cs):=by
      cases rw with
      | true=>
       have⟨h1,h2⟩:=YK hg (o':=.cells ycP ycO Ca Fw cs) ⟨ycP,rfl,by simp⟩;exact⟨h1,h2,by simp[Bq,hg]⟩
      | false=>exact⟨dJ.refl,nd.refl,hg⟩
     refine⟨hq.1,hq.2.1,fun H m S w ct hl hh p hm=>?_⟩;have⟨p',arr,t,g1,g2,g3,g4,g5,g6,g7,g8,g9,g10⟩:=hh.obj id _ _ (afR hl hq.2.2) hm;rw[hm] at g1;injection g1 with g1
     subst g1;exact⟨g3,g4,g6,g10 rfl,g8 rfl,g7⟩
    | false=>
     simp only[y5] at h
     cases h1:cm n hp cs with
     | none=>simp[h1] at h
     | some q=>
      have⟨Cf,bm⟩:=q;simp only[h1,yc,yD] at h;obtain⟨rfl,rfl,rfl,rfl⟩:=h;have⟨a1,a2,a3⟩:=KI _ _ _ _ h1;obtain⟨o1,jS,rw1,rfl,_⟩:=a1 id _ hg;have⟨b1,b2⟩:=YK jS (o':=.cells ycP ycP Ca Fw cs) ⟨ycP,rfl,by simp⟩;refine⟨a1.trans b1,a2.trans b2,fun H m S w ct hl hh p hm=>?_⟩;have hq:au (aV bm id (.cells ycP ycP Ca Fw cs)) id=Ix (.cells ycP ycP Ca Fw cs):=by simp[Bq,jS]
      have⟨p',arr,t,g1,g2,g3,g4,g5,g6,g7,g8,g9,g10⟩:=hh.obj id _ _ (afR hl hq) hm;rw[hm] at g1;injection g1 with g1
      subst g1;have⟨c1,c2⟩:=a3 H m S w ct (b1.trans hl) hh;have hlen:=atj h1
      exact⟨g3,by lia,fun hx=>by have:=g6 hx;lia,g10 rfl,c2,aBd c1 g7⟩
  .intro hp vs eM aq h
   cases vs with
   | nil=>
    simp only[cm,yc,yD] at h;obtain⟨rfl,rfl⟩:=h;exact⟨dJ.refl,nd.refl,fun _ _ _ _ _ _ _=>⟨fun _ h=>h,rfl⟩⟩
   | cons v r=>
    simp only[cm] at h
    cases h1:freeze n hp v with
    | none=>simp[h1] at h
    | some q=>
     have⟨v1,bm⟩:=q;simp only[h1] at h
     cases h2:cm n bm r with
     | none=>simp[h2] at h
     | some q2=>
      have⟨r1,ff⟩:=q2;simp only[h2,yc,yD] at h;obtain⟨rfl,rfl⟩:=h;have⟨a1,a2,a3⟩:=ihV _ _ _ _ h1;have⟨b1,b2,b3⟩:=KI _ _ _ _ h2;refine⟨a1.trans b1,a2.trans b2,fun H m S w ct hl hh=>?_⟩;have⟨c1,c2⟩:=a3 H m S w ct (b1.trans hl) hh;have⟨d1,d2⟩:=b3 H m S w ct hl hh;refine⟨fun us hu=>?_,by simp[aD,c2,d2]⟩;simp only[aE] at hu ⊢;obtain⟨u,t,rfl,e1,e2⟩:=hu;exact⟨u,t,rfl,c1 _ e1,d1 _ e2⟩
def Xn{n:Nat}(h:cm n hp vs=Ix (eM,aq)):dJ hp aq/\nd hp aq/\alC O aq vs eM:=(aeZ n).2.2 _ _ _ _ h
def XF{n:Nat}{v v':AV}(h:freeze n hp v=Ix (v',aq)):dJ hp aq/\nd hp aq/\aaA O aq v v':=(aeZ n).1 _ _ _ _ h
end
end
end
section
open Go
section
variable {v:AV}{aq:Hp}{cs new:List AV}{bc o:Nat}
section
variable {O:bC}{H:Hint}{m:Mp}{S:Nat->Prop}{w:yt}{tm:Env}{a:Act}{hp:Hp}{ct:Nat}
structure One(w w':yt)(g:Nat):Prop where
 os:w'.os=w.os
 tape:w'.tape=w.tape
 output:w'.output=w.output
 size:w'.heap.size=w.heap.size
 other:∀b,b≠g->w'.heap[b]? =w.heap[b]?
def Xo(w:yt)(g:Nat)(cs:Array yr):One w (w.setRow g cs) g:=
 ⟨rfl,rfl,rfl,by simp,fun b hb=>setRow_other w g b cs hb⟩
def Nv{id:Nat}{o:Obj}{p:Pl}(h:au hp id=Ix o)(hm:m id=Ix p):fe m hp p.b:=⟨id,o,p,h,hm,rfl⟩
def atk{id:Nat}{o':Obj}{b:Nat}(h:fe m (aV hp id o') b):fe m hp b:=by
 have⟨i,o,p,h1,h2,h3⟩:=h;rw[Bq] at h1;by_cases hi:id=i
 .subst hi
  cases hq:au hp id with
  | none=>simp[hq] at h1
  | some q=>exact⟨id,q,p,hq,h2,h3⟩
 .simp only [hi,xr] at h1;exact⟨i,o,p,h1,h2,h3⟩
def MW(hh:aW O m S w hp ct){id:Nat}{o o':Obj}{p:Pl}{w':yt}(ho:au hp id=Ix o)(hm:m id=Ix p)(hn:¬S p.b)(hw:One w w' p.b)(h':gZ O m S w' id o')(hk:∀r:uW,w.heap[p.b]? =Ix (.loop r)->∃r':uW,w'.heap[p.b]? =Ix (.loop r')):
  aW O m S w' (aV hp id o') ct/\cE m S w hp m S w' (aV hp id o') ct:=by
 have aK:iE S w w':=fun b hb=>hw.other b (fun e=>hn (e▸hb))
 refine⟨⟨?_,hh.lt,?_,?_,?_,hh.low,?_,?_,fun i q hq=>(by
  rw[Bq] at hq;by_cases hc:id=i
  .subst hc;exact hh.aY _ _ ho
  .simp only [hc,xr] at hq;exact hh.aY _ _ hq)⟩,⟨hw.os,hw.tape,hw.output,by rw[hw.size];exact ym _,?_,fun _ h=>h,fun b hb=>aK b hb,fun b hb=>.inl hb,fun b hb=>.inl (atk hb),fun _ _ _ h=>h,fun b r hb=>?_⟩⟩
 rotate_right
 .by_cases hc:b=p.b
  .subst hc;exact hk r hb
  .exact ⟨r,(hw.other b hc).trans hb⟩
 .intro i q pi hi bN;rw[Bq] at hi;by_cases hc:id=i
  .subst hc;simp only[xL,ho,Option.isSome_some] at hi;injection hi with hi
   subst hi;exact h'
  .simp only [hc,xr] at hi;refine Bp (fun _ _ h=>h) (fun _ h=>h) aK (fun q' bO=>?_) (fun _ _ h=>h) (hh.obj i q pi hi bN);exact hw.other _ (fun e=>hc (hh.inj i id q o q' p hi ho bO hm e).symm)
 .intro i j oi oj pi pj hi hj bN iU e;have key:∀{i:Nat} {oi:Obj},au (aV hp id o') i=Ix oi->∃PN,au hp i=Ix PN:=by
   intro i oi hi;rw[Bq] at hi;by_cases hc:id=i
   .subst hc;exact⟨o,ho⟩
   .simp only [hc,xr] at hi;exact⟨oi,hi⟩
  have⟨PN,bD⟩:=key hi;have⟨PM,KG⟩:=key hj;exact hh.inj i j PN PM pi pj bD KG bN iU e
 .intro b hb;rw[hw.size];exact hh.slt b hb
 .intro i q hq;rw[hw.size];exact hh.blt i q hq
 .intro b hb
  rw[hw.other b (fun e=>by have:=hh.low id p hm;lia)]
  exact hh.nF b hb
 .rw [hw.size];exact hh.iG
 .intro b _ hb;exact hw.other b (fun e=>hb (e▸Nv ho hm))
def C0(O:bC)(m:Mp)(S:Nat->Prop)(w:yt)(a:Act)(hp:Hp)(ct:Nat)(o:xk)(v:AV)(aq:Hp)(bc:Nat):Prop:=
 ∃n u w' m' S',(execOp a.eval o).run O.P w=.ok n w'/\(n=.value u\/(n=.skip/\u=undef))/\aW O m' S' w' aq bc/\ak O.ai m' S' w' v u/\dY m m'/\cE m S w hp m' S' w' aq ct
def atl{ai:Nat->Nat}{u:yr}(h:ak ai m S w v u)(ho:bF v=ycO):u.oneCell'=ycO:=by
 cases v with
 | fn f a b=>
  cases f with
  | f g=>simp only[ak] at h;obtain⟨_,_,rfl,_⟩:=h;rfl
  | y l=>simp only[ak] at h;obtain⟨_,_,rfl⟩:=h;rfl
 | int k n=>simp only[ak] at h;subst h;rfl
 | bool b=>simp only[ak] at h;subst h;rfl
 | dP k n=>simp only[ak] at h;subst h;rfl
 | str s=>simp only[ak] at h;obtain⟨_,rfl,_⟩:=h;rfl
 | oY=>simp only[ak] at h;subst h;rfl
 | ptr i k=>simp only[ak] at h;obtain⟨_,_,rfl⟩:=h;rfl
 | aQ cs=>simp only[ak] at h;obtain⟨_,_,rfl,_⟩:=h;rfl
 | ae=>simp only[ak] at h;subst h;rfl
 | aF e n cs=>simp only[ak] at h;rcases h with ⟨_,_,_,rfl,_⟩ | ⟨_,rfl,_,_⟩<;>rfl
 | bR _ _ _ _=>simp[bF] at ho
 | av i k n=>simp only[ak] at h;obtain⟨_,_,_,rfl,_⟩:=h;rfl
 | kZ=>simp only[ak] at h;subst h;rfl
 | nD=>simp only[ak] at h;subst h;rfl
 | map i=>simp only[ak] at h;obtain⟨_,_,rfl⟩:=h;rfl
 | nE ks vs=>simp only[ak] at h;obtain⟨_,_,_,rfl,_⟩:=h;rfl
 | it i=>simp only[ak] at h;obtain⟨_,_,rfl⟩:=h;rfl
 | agg cs=>simp[bF] at ho
 | ax cs=>simp[bF] at ho
 | undef=>simp[bF] at ho
def RE{ai:Nat->Nat}:∀{vs:List AV} {us:List yr},aE ai m S w vs us->bP vs=ycO->∀u∈us,u.oneCell'=ycO
 | [],us,h,_,u,hu=>by simp only[aE] at h;subst h;cases hu
 | v::r,us,h,ho,u,hu=>by
  obtain⟨u',t,rfl,h1,h2⟩:=h;simp only[bP,yj] at ho;rcases List.mem_cons.1 hu with rfl | hu
  .exact atl h1 ho.1
  .exact RE h2 ho.2 u hu
def agP{arr:Array yr}{t:yL}{p:Pl}{vs:List yr}{m':Mp}(hb:w.heap[p.b]? =Ix (.cells arr t (0,0)))(hr:cf O.ai m S w cs p.b p.o)(hv:aE O.ai m S w new vs)(hl:o+new.length<=cs.length)(hs:p.o+cs.length<=arr.size){w':yt}(hm:dY m m')(hS:∀b,S b->S' b)(aK:iE S w w')(hw:w'.heap[p.b]? =Ix (.cells (arr.toList.take (p.o+o)++vs++arr.toList.drop (p.o+o+vs.length)).toArray t (0,0))):cf O.ai m' S' w' (over o new cs) p.b p.o:=by
 have⟨us,h1,h2,h3⟩:=Cy cs p.b p.o hr;have hvl:=kK _ _ hv;have h4:aE O.ai m S w (over o new cs) (us.take o++vs++us.drop (o+new.length)):=pL (pL (IL o h1) hv) (MO _ h1);refine IR _ _ _ (jJ hm hS aK _ _ h4) (fun j u hj=>?_);have BN:∀k u,us[k]? =Ix u->arr[p.o+k]? =Ix u:=by
  intro k u hk
  have:=h3 k u hk
  simpa[World.cell?,hb] using this
 simp only[World.cell?,hw,tJ,yH,xr];rw[yaL];have e1:(arr.toList.take (p.o+o)).length=p.o+o:=by rw[yJ,vZ];lia
 have e2:(us.take o).length=o:=by rw[yJ];lia
 by_cases c1:j<o
 .have g1:(us.take o++vs++us.drop (o+new.length))[j]? =us[j]? :=by
   rw[xu,wQ (by lia),ta c1]
  rw[g1] at hj;rw[xu,wQ (by lia),ta (by lia)];simpa using BN j u hj
 .by_cases c2:j<o+vs.length
  .have g1:(us.take o++vs++us.drop (o+new.length))[j]? =vs[j-o]? :=by
    rw[xu,wB (by lia),e2,wQ (by lia)]
   rw[g1] at hj;rw[xu,wB (by lia),e1,wQ (by lia),show p.o+j-(p.o+o)=j-o by lia];exact hj
  .have g1:(us.take o++vs++us.drop (o+new.length))[j]? =us[j]? :=by
    rw[xu,wB (by lia),e2,wB (by lia),ybc]
    congr 1
    lia
   rw[g1] at hj;rw[xu,wB (by lia),e1,wB (by lia),ybc,show p.o+o+vs.length+(p.o+j-(p.o+o)-vs.length)=p.o+j by lia];simpa using BN j u hj
def RU(hl:o+new.length<=cs.length):(over o new cs).length=cs.length:=by
 simp only[over,yE,yJ,xZ];lia
def ae0(h:aD cs=ycO)(h':aD new=ycO):aD (over o new cs)=ycO:=
 IA (IA (F3 _ h) h') (D3 _ _ h)
def avP{o:xk}{t:yL}{x y:xN}(hH:im O H)(ht:cp O m S w tm a.tmps)(hh:aW O m S w hp ct)(ho:o.op=.store t x y)(hz:cY O.P t=Ix sz)(hv:du tm hp ct (.st sz (aS H x) (aS H y))=Ix (v,aq,bc)):C0 O m S w a hp ct o v aq bc:=by
 simp only[du] at hv;have rx:=cO hH ht x;cases hx:aC tm (aS H x)<;>rw[hx] at hv rx<;>simp only[reduceCtorEq] at hv
 rename_i id k;simp only[ak] at rx;have⟨p,hm,ex⟩:=rx
 split at hv
 case h_2=>cases hv
 rename_i pu VK z cs hg
 cases hc:(yG (cellsOf (aC tm (aS H y))).length sz&&yO (k+sz) cs.length&&bP (cellsOf (aC tm (aS H y)))) with
 | false=>rw[hc] at hv;cases hv
 | true=>
  rw[hc] at hv;simp only[yN,yc,yD] at hv;obtain⟨rfl,rfl,rfl⟩:=hv;simp only[yj] at hc;have c1:=yz hc.1.1;have c2:=yF hc.1.2;have ry:=XC (cO hH ht y) hc.2;have hl:=kK _ _ ry;have⟨p',arr,t',g1,g2,g3,g4,g5,g6,g7,g8,g9,g10⟩:=hh.obj id _ _ hg hm;rw[hm] at g1;injection g1 with g1
  subst g1;have ia:=RE ry hc.2;have jf:=run_storeCells_at O.P p.b (p.o+k) t' (a.eval y).cells.toList 0 arr w g2 (by rw[hl];lia) ia
  simp only[xg] at jf;have aBe:(a.eval y).cells.size=sz:=by simp_all
  have sO:gZ O m S (w.setRow p.b (arr.toList.take (p.o+k)++(a.eval y).cells.toList++arr.toList.drop (p.o+k+(a.eval y).cells.toList.length)).toArray) id
    (.cells ycO (pu&&aD (cellsOf (aC tm (aS H y)))) VK z (over k (cellsOf (aC tm (aS H y))) cs)):=by
   refine⟨p,_,t',hm,setRow_heap w p.b arr _ t' _ g2,g3,by rw[RU (by lia)];exact g4,?_,fun h=>by rw[RU (by lia)];exact g6 h,?_,?_,fun _=>g9 rfl,by simp⟩
   .grind
   .exact agP g2 g7 ry (by lia) (by lia) dY.refl (fun _ h=>h) (fun b hb=>setRow_other w p.b b _ (fun e=>g9 rfl (e▸hb))) (setRow_heap w p.b arr _ t' _ g2)
   .intro h;simp only[yj] at h;exact ae0 (g8 h.1) h.2
  have⟨e1,e2⟩:=MW hh hg hm (g9 rfl) (Xo w p.b _) sO (fun r hr=>by rw[g2] at hr;cases hr);refine⟨.skip,undef,_,m,S,?_,.inr ⟨rfl,rfl⟩,e1,by simp[ak,aE,undef],dY.refl,e2⟩;simp only[execOp,ho,Instr.storeAt,ex,Instr.sureAddr,Sem.run_bind,Sem.run_pure,Result.andThen_ok,storeVar,rX hz,aBe,ybY,tB,xr];simp[jf]
def ae1{d:vM}{k k':yr}(h:Instr.sameNow d k k'=Ix ycO):k=k':=by
 unfold Instr.sameNow at h
 split at h
 .grind
 .rename_i p q;simp only[yc] at h;have h2:(p.data==q.data)=ycO:=by cases p;exact h
  cases p;cases q
  grind
 .grind
 .cases h
def sameBits_self{d:vM}{k k':yr}(h:Instr.sameNow d k k'=Ix ycO)(n:Nat):Instr.sameBits n k' k=ycO:=by
 have e:=ae1 h;subst e;unfold Instr.sameNow at h
 split at h
 .simp [Instr.sameBits]
 .simp only [yc] at h;simp[Instr.sameBits,h]
 .simp [Instr.sameBits]
 .cases h
def Put(ai:Nat->Nat)(m:Mp)(S:Nat->Prop)(w:yt)(d:vM)(k x:yr)(es:List tc)(i:Nat)(kE eM:List AV):Prop:=
 (Instr.findNow d k es i=Ix Iy/\aE ai m S w kE (es.map (·.key)++[k])/\aE ai m S w eM (es.map (·.val)++[x]))\/
 ∃(j:Nat) (e0:tc),Instr.findNow d k es i=Ix (Ix (i+j,e0.val))/\es[j]? =Ix e0/\Instr.sameNow d k e0.key=Ix ycO/\aE ai m S w kE (es.map (·.key))/\aE ai m S w eM ((es.map (·.val)).set j x)
def ah6{ai:Nat->Nat}{vk vx:AV}{k x:yr}{d:vM}(hk:ak ai m S w vk k)(hx:ak ai m S w vx x)(hd:fits d vk=ycO):∀(ks vs:List AV) (es:List tc) (i:Nat) (kE eM:List AV),
  aE ai m S w ks (es.map (·.key))->aE ai m S w vs (es.map (·.val))->AM vk vx ks vs=Ix (kE,eM)->Put ai m S w d k x es i kE eM
 | [],[],es,i,kE,eM,h1,h2,h=>by
  simp only[aE,yaS] at h1;subst h1;obtain⟨rfl,rfl⟩:=h;exact .inl ⟨rfl,by simp[aE,hk],by simp[aE,hx]⟩
 | [],_::_,es,i,kE,eM,h1,h2,h=>by simp[AM] at h
 | _::_,[],es,i,kE,eM,h1,h2,h=>by simp[AM] at h
 | c::ks,v::vs,es,i,kE,eM,h1,h2,h=>by
  cases es with
  | nil=>simp[aE] at h1
  | cons e es=>
   obtain⟨u,t,⟨rfl,rfl⟩,hc,VI⟩:=h1;obtain⟨u',t',⟨rfl,rfl⟩,hv,Dx⟩:=h2;simp only[AM] at h
   cases Dy:BL vk c with
   | none=>simp[Dy] at h
   | some b=>
    have hs:=agL (d:=d) hk hc Dy hd
    cases b with
    | true=>
     simp only[Dy,yc,yD] at h;obtain⟨rfl,rfl⟩:=h;refine .inr ⟨0,e,by simp[Instr.findNow,hs],rfl,hs,?_,?_⟩
     .simp only [yS,aE];exact⟨_,_,rfl,hc,VI⟩
     .simp only [yS,List.set_cons_zero,aE];exact⟨_,_,rfl,hx,Dx⟩
    | false=>
     simp only[Dy] at h
     cases hm:AM vk vx ks vs with
     | none=>simp[hm] at h
     | some q=>
      have⟨k1,v1⟩:=q;simp only[hm,yc,yD] at h;obtain⟨rfl,rfl⟩:=h;rcases ah6 hk hx hd ks vs es (i+1) k1 v1 VI Dx hm with ⟨g1,g2,g3⟩ | ⟨j,e0,g1,g2,g3,g4,g5⟩
      .refine .inl ⟨by simp[Instr.findNow,hs,g1],?_,?_⟩
       .simp only [yS,xC,aE];exact⟨_,_,rfl,hc,g2⟩
       .simp only [yS,xC,aE];exact⟨_,_,rfl,hv,g3⟩
      .refine .inr ⟨j+1,e0,?_,by simpa using g2,g3,?_,?_⟩
       .simp only [Instr.findNow,hs,g1]
        grind
       .simp only [yS,aE];exact⟨_,_,rfl,hc,g4⟩
       .simp only [yS,List.set_cons_succ,aE];exact⟨_,_,rfl,hv,g5⟩
def IE(w:yt)(g:Nat)(o:yaf):One w {w with heap:=w.heap.setIfInBounds g o} g:=
 ⟨rfl,rfl,rfl,by simp,fun b hb=>by simp[Array.getElem?_setIfInBounds_ne (fun e=>hb e.symm)]⟩
def Rj{g:Nat}{o q:yaf}(h:w.heap[g]? =Ix q):({w with heap:=w.heap.setIfInBounds g o}:yt).heap[g]? =Ix o:=by grind
def agQ{o:xk}{t kt e:yL}{x k y:xN}(hH:im O H)(ht:cp O m S w tm a.tmps)(hh:aW O m S w hp ct)(ho:o.op=.mapUpdate t x k y\/o.op=.insert t x k y)(hu:O.P.underlying t=Ix (.map kt e))(A3:VE.keyOf O.P kt=Ix kk)(hv:du tm hp ct (.sN kk (aS H x) (aS H k) (aS H y))=Ix (v,aq,bc)):C0 O m S w a hp ct o v aq bc:=by
 simp only[du] at hv;have rx:=cO hH ht x;cases hx:aC tm (aS H x)<;>rw[hx] at hv rx<;>simp only[reduceCtorEq] at hv
 rename_i id;simp only[ak] at rx;have⟨p,hm,ex⟩:=rx
 split at hv
 case h_2=>cases hv
 rename_i ks vs hg
 cases hc:AA kk (aC tm (aS H k)) with
 | false=>simp[hc] at hv
 | true=>
  simp only[hc,Bool.not_true,y5] at hv
  cases bm:AM (aC tm (aS H k)) (aC tm (aS H y)) ks vs with
  | none=>simp[bm] at hv
  | some q=>
   have⟨kE,eM⟩:=q;simp only[bm,yc,yD] at hv;obtain⟨rfl,rfl,rfl⟩:=hv;have⟨d,iw,fw,hd3⟩:=aeX A3 hc;have⟨p',es,clock,g1,g2,g3,g4,g5,g6⟩:=hh.obj id _ _ hg hm;rw[hm] at g1;injection g1 with g1
   subst g1;have aDn:=ah6 (d:=d) (cO hH ht k) (cO hH ht y) hd3 ks vs es.toList 0 kE eM g3 g4 bm
   have fin:∀(HM:Array tc) (c':Nat),(Instr.mapUpdate t (a.eval x) (a.eval k) (a.eval y)).run O.P w=.ok () {w with heap:=w.heap.setIfInBounds p.b (.map HM c')}->
     aE O.ai m S w kE (HM.toList.map (·.key))->aE O.ai m S w eM (HM.toList.map (·.val))->C0 O m S w a hp ct o (.ax []) (aV hp id (.mp ycO kE eM)) ct:=by
    intro HM c' jf h1 h2
    have aK:iE S w {w with heap:=w.heap.setIfInBounds p.b (.map HM c')}:=fun b hb=>(IE w p.b _).other b (fun e=>g5 rfl (e▸hb))
    have sO:gZ O m S {w with heap:=w.heap.setIfInBounds p.b (.map HM c')} id (.mp ycO kE eM):=
     ⟨p,HM,c',hm,Rj g2,jJ (fun _ _ h=>h) (fun _ h=>h) aK _ _ h1,jJ (fun _ _ h=>h) (fun _ h=>h) aK _ _ h2,fun _=>g5 rfl,by simp⟩
    have⟨e1,e2⟩:=MW hh hg hm (g5 rfl) (IE w p.b _) sO (fun r hr=>by rw[g2] at hr;cases hr);refine⟨.skip,undef,_,m,S,?_,.inr ⟨rfl,rfl⟩,e1,by simp[ak,aE,undef],dY.refl,e2⟩;rcases ho with ho | ho<;>simp[execOp,ho,jf]
   have qI:=Q6 (P:=O.P) (w:=w) iw fw ycP (a.eval k);rcases aDn with ⟨h1,h2,h3⟩ | ⟨j,e0,h1,h2,h3,h4,h5⟩
   .refine fin (es.push ⟨a.eval k,a.eval y,clock⟩) (clock+1) ?_ (by simpa using h2) (by simpa using h3);rw[ex];simp[Instr.mapUpdate,run_underlying hu,MapKept.run_getObj_map g2,qI,Instr.findKey,run_underlying iw,h1,MapKept.run_setObj_map _ g2]
   .have hj:es[j]? =Ix e0:=by simp_all
    simp only[yd] at h1;have alD:=ae1 h3
    refine fin (es.modify j fun e=>{e with key:=a.eval k,val:=a.eval y}) clock ?_ ?_ ?_
    .rw [ex];have hsb:Instr.sameBits 10000 (a.eval k) (a.eval k)=ycO:=by have:=sameBits_self h3 10000;rwa[<-alD] at this
     simp[Instr.mapUpdate,run_underlying hu,MapKept.run_getObj_map g2,qI,Instr.findKey,run_underlying iw,h1,MapKept.run_setObj_map _ g2,hj,Instr.keyThatStays,hsb,alD.symm]
    .have:(es.modify j fun e=>{e with key:=a.eval k,val:=a.eval y}).toList.map (·.key)=es.toList.map (·.key):=by
      apply ybl
      grind
     grind
    .have:(es.modify j fun e=>{e with key:=a.eval k,val:=a.eval y}).toList.map (·.val)=(es.toList.map (·.val)).set j (a.eval y):=by
      apply ybl
      grind
     grind
def avQ(t:ByteArray)(i:Nat):(t.get! i).toNat=(t.data.toList.map xp).getD i 0:=by
 have:t.get! i=t.data[i]! :=by cases t;rfl
 rw[this];by_cases h:i<t.data.size
 .grind
 .simp only [Array.getElem!_eq_getD,Array.getD_eq_getD_getElem?,List.getD_eq_getElem?_getD,ybj,Array.getElem?_toList];rw[Array.getElem?_eq_none (by lia)];rfl
def arq(t:ByteArray)(i:Nat):decodeL (t.data.toList.map xp) i=Utf8.decode t i:=by
 have fL:(t.data.toList.map xp).length=t.size:=by simp
 simp only[decodeL,Utf8.decode,avQ,fL]
def atm{o:xk}{x:xN}(hH:im O H)(ht:cp O m S w tm a.tmps)(hh:aW O m S w hp ct)(ho:o.op=.next x ycO)(hv:du tm hp ct (.Ac (aS H x))=Ix (v,aq,bc)):C0 O m S w a hp ct o v aq bc:=by
 simp only[du] at hv;have rx:=cO hH ht x;cases hx:aC tm (aS H x)<;>rw[hx] at hv rx<;>simp only[reduceCtorEq] at hv
 rename_i id;simp only[ak] at rx;have⟨p,hm,ex⟩:=rx
 split at hv
 case h_2=>cases hv
 rename_i s pos hg;have⟨p',t,g1,g2,g3,g4⟩:=hh.obj id _ _ hg hm;rw[hm] at g1;injection g1 with g1
 subst g1;have au:(getObj p.b).run O.P w=.ok (.stringIter t pos) w:=by simp[getObj,Sem.run,g2]
 have hlen:s.length=t.size:=by rw[<-g3];simp
 cases hc:yU pos s.length with
 | false=>
  rw[hc] at hv;simp only[y5,yc,yD] at hv;obtain⟨rfl,rfl,rfl⟩:=hv;have aY:¬pos<t.size:=by
   intro h
   have:yU pos s.length=ycO:=by simp[yU];lia
   grind
  refine⟨.value (.tuple #[.bool ycP]),.tuple #[.bool ycP],w,m,S,?_,.inl rfl,hh,by simp[ak,aE],dY.refl,cE.refl⟩;simp[execOp,ho,ex,Instr.next,au,aY]
 | true=>
  rw[hc] at hv;simp only[yN] at hv;have aY:pos<t.size:=by
   simp_all
  cases hdc:decodeL s pos with | mk c wd=>
  rw[hdc] at hv;simp only[yc,yD] at hv;obtain⟨rfl,rfl,rfl⟩:=hv;have hd:Utf8.decode t pos=(c,wd):=by rw[<-arq,g3,hdc]
  have sO:gZ O m S {w with heap:=w.heap.setIfInBounds p.b (.stringIter t (pos+wd))} id (.si s (pos+wd)):=⟨p,t,hm,Rj g2,g3,g4⟩;have⟨e1,e2⟩:=MW hh hg hm g4 (IE w p.b _) sO (fun r hr=>by rw[g2] at hr;cases hr);refine⟨.value (.tuple #[.bool ycO,goInt pos,.int .i32 c]),_,_,m,S,?_,.inl rfl,e1,by simp[ak,aE,goInt],dY.refl,e2⟩
  have aV:(setObj p.b (.stringIter t (pos+wd))).run O.P w=.ok () {w with heap:=w.heap.setIfInBounds p.b (.stringIter t (pos+wd))}:=by simp[setObj,Sem.run,g2]
  simp[execOp,ho,ex,Instr.next,au,aY,hd,aV]
end
end
end
section
open Go
section
variable {cs:List AV}{n size:Nat}{P:xM}{x:yr}
def MP{hp:Hp}{id i:Nat}:au (eJ hp id) i=if id=i then Iy else au hp i:=by
 induction hp with
 | nil=>simp[eJ,au]
 | cons x r ih=>
  have⟨j,q⟩:=x;simp only[eJ];by_cases hj:j=id
  .subst hj;simp only[vd,yN,ih,au];by_cases hi:j=i
   .grind
   .have:yG j i=ycP:=by
     cases hq:yG j i with
     | false=>rfl
     | true=>exact absurd (yz hq) hi
    grind
  .have hb:yG j id=ycP:=by
    cases hq:yG j id with
    | false=>rfl
    | true=>exact absurd (yz hq) hj
   simp only[hb,y5];rw[show au ((j,q)::eJ r id) i=bif yG j i then Ix q else au (eJ r id) i from rfl,ih];by_cases hi:j=i
   .subst hi
    have:¬id=j:=fun h=>hj h.symm
    simp[vd,this,au]
   .have Ce:yG j i=ycP:=by
     cases hq:yG j i with
     | false=>rfl
     | true=>exact absurd (yz hq) hi
    simp[Ce,au]
section
variable {O:bC}{H:Hint}{m:Mp}{S:Nat->Prop}{w:yt}{tm:Env}{a:Act}{hp:Hp}{ct:Nat}
def Src(P:xM)(w:yt)(size n:Nat)(news:List yr)(x:yr):Prop:=
 (∀w',(Builtin.lenOf x).run P w'=.ok n w')/\news.length=n*size/\
 ∀w',w'.heap=w.heap->∀k,k<=n->(Builtin.firstCells size k x).run P w'=.ok (news.take (k*size)).toArray w'
def MQ{c:Nat}{b:uM}{news:List yr}(hl:news.length=n*size)(hc:∀j u,news[j]? =Ix u->w.cell? (b.add j)=Ix u):
  Src P w size n news (.slice (Ix b) n c):=by
 refine⟨fun w'=>by simp[Builtin.lenOf],hl,fun w' hw k hk=>?_⟩;have hle:k*size<=news.length:=by rw[hl];exact yR _ hk
 refine run_firstCells_some (P:=P) w' size k b n c (news.take (k*size)) (by rw[yJ];lia) (fun j v hv=>?_)
 rw[List.getElem?_take] at hv
 split at hv
 .have:=hc j v hv
  simpa[World.cell?,hw] using this
 .cases hv
def ah7:Src P w size 0 [] (.slice Iy 0 0):=
 ⟨fun w'=>by simp[Builtin.lenOf],by simp,fun w' _ k hk=>by simp[Builtin.firstCells]⟩
def aqx(s:ByteArray)(k:Nat):(s.extract 0 k).data.map (fun b=>Value.int .u8 b.toNat)=((s.data.toList.map fun b=>Value.int .u8 (b.toNat:Int)).take k).toArray:=by
 have:(s.extract 0 k).data=s.data.extract 0 k:=by simp
 grind
def avR{s:ByteArray}:Src P w 1 s.size (s.data.toList.map fun b=>Value.int .u8 (b.toNat:Int)) (.string s):=by
 refine⟨fun w'=>by simp[Builtin.lenOf],by simp,fun w' _ k hk=>?_⟩;simp only[Builtin.firstCells,Sem.run_pure,Nat.mul_one];rw[aqx]
def aeE{ai:Nat->Nat}:∀l:List UInt8,aE ai m S w (Sn (l.map xp)) (l.map fun b=>Value.int .u8 (b.toNat:Int))
 | []=>by simp[Sn,aE]
 | b::r=>by
  exact⟨_,_,rfl,by simp[ak],aeE r⟩
def ae2{vx:AV}(hh:aW O m S w hp ct)(hx:ak O.ai m S w vx x)(h:nT hp size vx=Ix (n,cs)):
  ∃us,aE O.ai m S w cs us/\Src O.P w size n us x:=by
 cases vx<;>simp only[nT,reduceCtorEq] at h
 case ae=>
  obtain⟨rfl,rfl⟩:=h;subst hx;exact⟨[],by simp[aE],ah7⟩
 case aF ex n' ej=>
  cases hc:yG ej.length (n'*size) with
  | false=>rw[hc] at h;cases h
  | true=>
   rw[hc] at h;obtain⟨rfl,rfl⟩:=h;have hl:=yz hc;rcases hx with ⟨b,o,c,rfl,h1,h2,h3,h4,h5⟩ | ⟨ad,rfl,rfl,rfl⟩
   .have ⟨us,g1,g2,g3⟩:=Cy _ b o h5;exact⟨us,g1,MQ (by lia) (fun j u hj=>by rw[zI];exact g3 j u hj)⟩
   .exact ⟨[],by simp[aE],MQ (by simp) (fun j u hj=>by simp at hj)⟩
 case av id o n'=>
  cases hg:au hp id with
  | none=>simp[hg] at h
  | some ob=>
   cases ob<;>simp only[hg,reduceCtorEq] at h
   rename_i rw pu ex z ej
   cases hc:yO (o+n'*size) ej.length with
   | false=>rw[hc] at h;cases h
   | true=>
    rw[hc] at h;simp only[yN,yc,yD] at h;obtain⟨rfl,rfl⟩:=h;have hl:=yF hc;obtain⟨p,c,hm,rfl,h1,h2⟩:=hx;have hr:=X8 (o:=0) (n:=0) hh hg hm;have ep:=F6 (n'*size) _ _ _ (Bo o _ _ _ hr);have⟨us,g1,g2,g3⟩:=Cy _ p.b (p.o+o) ep;refine⟨us,g1,MQ ?_ (fun j u hj=>by rw[zI];exact g3 j u hj)⟩
    grind
def ars{vx:AV}(hh:aW O m S w hp ct)(hx:ak O.ai m S w vx x)(h:Bz hp size vx=Ix (n,cs)):
  ∃us,aE O.ai m S w cs us/\Src O.P w size n us x:=by
 cases vx<;>try exact ae2 hh hx h
 simp only[Bz] at h
 cases hc:yG size 1 with
 | false=>rw[hc] at h;cases h
 | true=>
  rw[hc] at h;obtain⟨rfl,rfl⟩:=h
  have:=yz hc
  subst this;obtain⟨t,rfl,rfl⟩:=hx;refine⟨_,aeE _,?_⟩
  have:(List.map xp t.data.toList).length=t.size:=by simp
  rw[this];exact avR
def apR{t u ty e:yL}{i:ycL}(ht:P.underlying t=Ix (.slice e))(hu:(∃e',P.underlying u=Ix (.slice e'))\/P.underlying u=Ix .string)(hi:P.info? e=Ix i){g o:Nat}{PQ:Array yr}{te:yL}(hg:w.heap[g]? =Ix (.cells PQ te (0,0))){news:List yr}(hs:Src P w i.size n news x)(h1:∀u∈news,u.oneCell'=ycO)(JD:jZ+n<=AN)(aaB:o+jZ*i.size+news.length<=PQ.size):
  (Builtin.append_ #[t,u] ty #[.slice (Ix ⟨g,o,Iy⟩) jZ AN,x]).run P w=
   .ok (.slice (Ix ⟨g,o,Iy⟩) (jZ+n) AN) (w.setRow g (PQ.toList.take (o+jZ*i.size)++news++PQ.toList.drop (o+jZ*i.size+news.length)).toArray):=by
 have⟨pz,DD,KJ⟩:=hs;have hf:=KJ w rfl n (ym _);rw[yq (by lia)] at hf;have aK:=run_storeCells_at P g (o+jZ*i.size) te news 0 PQ w hg (by lia) h1;rcases hu with ⟨e',hd⟩ | hd<;>
  simp[Builtin.append_,run_underlying ht,run_underlying hd,vU,typeInfo,hi,pz,JD,hf,zI,aK]
def Xb{t u ty e:yL}{i:ycL}{z:yr}(ht:P.underlying t=Ix (.slice e))(hu:(∃e',P.underlying u=Ix (.slice e'))\/P.underlying u=Ix .string)(hi:P.info? e=Ix i)(hz:i.zero=Ix z){s:yr}{base:Option uM}(es:s=.slice base jZ AN){rC:List yr}(ho:Src P w i.size jZ rC s){news:List yr}(hs:Src P w i.size n news x)(hg:AN<jZ+n)(VL:jZ+n<=1099511627776)(hby:(jZ+n)*i.bytes<=1099511627776):
  (Builtin.append_ #[t,u] ty #[s,x]).run P w=
   .ok (.slice (Ix ⟨w.heap.size,0,Iy⟩) (jZ+n) (grownCap w (jZ+n) AN e))
    (w.drew.alloc (.cells ((rC++news).toArray++Builtin.zeroCells z.cells (grownCap w (jZ+n) AN e-(jZ+n))) e)):=by
 have⟨pz,DD,KJ⟩:=hs;have⟨ho1,ho2,ho3⟩:=ho;have hf:=KJ w.drew rfl n (ym _);rw[yq (by lia)] at hf;have hfo:=ho3 w.drew rfl jZ (ym _);have hn:¬(jZ+n<=AN):=by lia
 have aDo:¬(9223372036854775807<((jZ:Int)+(n:Int))):=by lia
 have aaB:=growslice_fits (need:=jZ+n) (old:=AN) (bytes:=i.bytes) hg (by lia);have aDp:¬(281474976710656<Builtin.nextslicecap (jZ+n) AN*i.bytes):=by lia
 subst es;rcases hu with ⟨e',hd⟩ | hd
 all_goals
  simp[Builtin.append_,run_underlying ht,run_underlying hd,vU,typeInfo,zeroValue,hi,hz,pz,hn,aDo,aDp,Question.forced,hf,hfo,newRow,askRoom,grownCap]
  grind
def XG{e:yL}{z:yr}{need:Nat}{us:List yr}(hh:aW O m S w hp ct)(hr:aE O.ai m S w cs us)(hl:us.length=need*sz)(hz:z.cells.size=sz)(Tm:Bool)(hpp:Tm=ycO->aD cs=ycO)(hc:need<=cap):
  let w':=w.drew.alloc (.cells (us.toArray++Builtin.zeroCells z.cells (cap-need)) e)
  let p:Pl:=⟨w.heap.size,0,cap*sz,sz⟩
  ∀m',dY m m'->m' ct=Ix p->gZ O m' S w' ct (.cells ycO Tm ycP sz cs):=by
 intro w' p m' hm hi;have aK:iE S w w':=fun b hb=>by
  have:=hh.slt b hb
  exact RowKit.Below.heap_alloc w.drew _ b (by simpa using this)
 have oZ:w'.heap[w.heap.size]? =Ix (.cells (us.toArray++Builtin.zeroCells z.cells (cap-need)) e (0,0)):=heap_alloc_new w.drew _;have oE:=kK _ _ hr;refine⟨p,_,e,hi,oZ,rfl,?_,?_,by simp,?_,hpp,?_,by simp⟩
 .show cs.length<=cap*sz
  rw[<-oE,hl];exact yR _ hc
 .show 0+cap*sz<=_
  rw[Array.size_append,tO,size_zeroCells,hz,hl,<-xU]
  grind
 .refine XD oZ cs us 0 (jJ hm (fun _ h=>h) aK _ _ hr) (fun j u hj=>?_)
  grind
 .intro _ hS
  have:=hh.slt _ hS
  grind
def apF(hh:aW O m S w hp ct)(g:yaf):iE S w (w.drew.alloc g):=fun b hb=>by
 have:=hh.slt b hb
 exact RowKit.Below.heap_alloc w.drew _ b (by simpa using this)
def XH(hh:aW O m S w hp ct){hp0:Hp}{g:yaf}{p:Pl}{o:Obj}(Uj:∀i q,au hp0 i=Ix q->au hp i=Ix q)(hb:p.b=w.heap.size)(ho:∀m',dY m m'->m' ct=Ix p->gZ O m' S (w.drew.alloc g) ct o):
  aW O (hZ m ct p) S (w.drew.alloc g) ((ct,o)::hp0) (ct+1)/\cE m S w hp (hZ m ct p) S (w.drew.alloc g) ((ct,o)::hp0) ct:=by
 have hn:m ct=Iy:=by
  cases h:m ct with
  | none=>rfl
  | some q=>have:=hh.lt _ _ h;lia
 have hle:=nU hn (p:=p);have aK:=apF hh g;have hold:∀b,b<w.heap.size->(w.drew.alloc g).heap[b]? =w.heap[b]? :=fun b hb=>RowKit.Below.heap_alloc w.drew _ b (by simpa using hb)
 have fL:(w.drew.alloc g).heap.size=w.heap.size+1:=by simp
 have fM:∀i q,au ((ct,o)::hp0) i=Ix q->i≠ct->au hp i=Ix q:=fun i q h hi=>by
  rw[jK,yx (fun e=>hi e.symm)] at h
  grind
 refine⟨⟨?_,?_,?_,?_,?_,?_,?_,?_,fun i q hq=>(by
  by_cases hc:i=ct
  .lia
  .have:=hh.aY _ _ (fM i q hq hc);lia)⟩,⟨rfl,rfl,rfl,by lia,?_,fun _ h=>h,fun b hb=>aK b hb,fun b hb=>.inl hb,?_,fun i q _ h=>hle i q h,fun b r hb=>⟨r,(hold b (xT.1 hb).1).trans hb⟩⟩⟩
 .intro i q pi hi bN;by_cases hc:i=ct
  .subst hc;rw[jK] at hi;simp only[xL,yc] at hi;subst hi;exact ho _ hle fk
  .rw [fj hc] at bN;exact Bp hle (fun _ h=>h) aK (fun q' bO=>hold _ (hh.blt i q' bO)) (fun _ _ h=>h) (hh.obj i q pi (fM i q hi hc) bN)
 .intro i q bN;by_cases hc:i=ct
  .lia
  .rw [fj hc] at bN;have:=hh.lt i q bN;lia
 .intro i j oi oj pi pj hi hj bN iU e;by_cases ci:i=ct
  .by_cases cj:j=ct
   .grind
   .subst ci;rw[fk] at bN;rw[fj cj] at iU;injection bN with bN
    subst bN
    have:=hh.blt j pj iU
    lia
  .rw [fj ci] at bN;by_cases cj:j=ct
   .subst cj;rw[fk] at iU;injection iU with iU
    subst iU
    have:=hh.blt i pi bN
    lia
   .rw [fj cj] at iU;exact hh.inj i j oi oj pi pj (fM i oi hi ci) (fM j oj hj cj) bN iU e
 .intro b hb;have:=hh.slt b hb;lia
 .intro i q bN;by_cases hc:i=ct
  .subst hc;rw[fk] at bN;injection bN with bN
   subst bN
   lia
  .rw [fj hc] at bN;have:=hh.blt i q bN;lia
 .intro i q bN;have h0:=hh.iG;by_cases hc:i=ct
  .subst hc;rw[fk] at bN;injection bN with bN
   subst bN
   lia
  .rw [fj hc] at bN;exact hh.low i q bN
 .intro b hb;have h0:=hh.iG;exact (hold b (by lia)).trans (hh.nF b hb)
 .have h0:=hh.iG;lia
 .intro b hb _;exact hold b hb
 .rintro b ⟨i,q,pi,h1,h2,h3⟩;by_cases hc:i=ct
  .subst hc;rw[fk] at h2;injection h2 with h2
   subst h2;exact .inr (by lia)
  .rw [fj hc] at h2;exact .inl ⟨i,q,pi,fM i q h1 hc,h2,h3⟩
def art(hh:aW O m S w hp ct){id:Nat}{o o':Obj}{p p':Pl}{w':yt}(hg:au hp id=Ix o)(hm:m id=Ix p)(hn:¬S p.b)(hw:One w w' p.b)(hk:∀r:uW,w.heap[p.b]? =Ix (.loop r)->∃r':uW,w'.heap[p.b]? =Ix (.loop r'))(hb:p'.b=p.b)(ho:∀m',dY m m'->m' ct=Ix p'->gZ O m' S w' ct o'):
  aW O (hZ m ct p') S w' ((ct,o')::eJ hp id) (ct+1)/\cE m S w hp (hZ m ct p') S w' ((ct,o')::eJ hp id) ct:=by
 have fg:m ct=Iy:=by
  cases h:m ct with
  | none=>rfl
  | some q=>have:=hh.lt _ _ h;lia
 have hle:=nU fg (p:=p');have aK:iE S w w':=fun b hb=>hw.other b (fun e=>hn (e▸hb))
 have fM:∀i q,au ((ct,o')::eJ hp id) i=Ix q->i≠ct->au hp i=Ix q/\i≠id:=fun i q h hi=>by
  rw[jK,yx (fun e=>hi e.symm),MP] at h
  grind
 have alE:∀i q pi,au hp i=Ix q->i≠id->m i=Ix pi->pi.b≠p.b:=fun i q pi h hi bN e=>hi (hh.inj i id q o pi p h hg bN hm e)
 refine⟨⟨?_,?_,?_,?_,?_,?_,?_,?_,fun i q hq=>(by
  by_cases hc:i=ct
  .lia
  .have:=hh.aY _ _ (fM i q hq hc).1;lia)⟩,⟨hw.os,hw.tape,hw.output,by rw[hw.size];exact ym _,?_,fun _ h=>h,fun b hb=>aK b hb,fun b hb=>.inl hb,?_,fun i q _ h=>hle i q h,fun b r hb=>(by
  by_cases hc:b=p.b
  .grind
  .exact ⟨r,(hw.other b hc).trans hb⟩)⟩⟩
 .intro i q pi hi bN;by_cases hc:i=ct
  .subst hc;rw[jK] at hi;simp only[xL,yc] at hi;subst hi;exact ho _ hle fk
  .rw [fj hc] at bN;have⟨h1,h2⟩:=fM i q hi hc;exact Bp hle (fun _ h=>h) aK (fun q' bO=>hw.other _ (alE i q q' h1 h2 bO)) (fun _ _ h=>h) (hh.obj i q pi h1 bN)
 .intro i q bN;by_cases hc:i=ct
  .lia
  .rw [fj hc] at bN;have:=hh.lt i q bN;lia
 .intro i j oi oj pi pj hi hj bN iU e;by_cases ci:i=ct
  .by_cases cj:j=ct
   .grind
   .subst ci;rw[fk] at bN;rw[fj cj] at iU
    grind
  .rw [fj ci] at bN;have⟨h1,h2⟩:=fM i oi hi ci;by_cases cj:j=ct
   .subst cj;rw[fk] at iU;injection iU with iU
    subst iU;exact (alE i oi pi h1 h2 bN (by rw[e,hb])).elim
   .rw [fj cj] at iU;exact hh.inj i j oi oj pi pj h1 (fM j oj hj cj).1 bN iU e
 .intro b hb;rw[hw.size];exact hh.slt b hb
 .intro i q bN;rw[hw.size];by_cases hc:i=ct
  .subst hc;rw[fk] at bN;injection bN with bN
   subst bN;rw[hb];exact hh.blt id p hm
  .rw [fj hc] at bN;exact hh.blt i q bN
 .intro i q bN;by_cases hc:i=ct
  .subst hc;rw[fk] at bN;injection bN with bN
   subst bN;rw[hb];exact hh.low id p hm
  .rw [fj hc] at bN;exact hh.low i q bN
 .intro b hb
  rw[hw.other b (fun e=>by have:=hh.low id p hm;lia)]
  exact hh.nF b hb
 .rw [hw.size];exact hh.iG
 .intro b _ dd;exact hw.other b (fun e=>dd (e▸Nv hg hm))
 .rintro b ⟨i,q,pi,h1,h2,h3⟩;by_cases hc:i=ct
  .subst hc;rw[fk] at h2;injection h2 with h2
   subst h2;exact .inl ⟨id,o,p,hg,hm,by rw[<-h3,hb]⟩
  .rw [fj hc] at h2;exact .inl ⟨i,q,pi,(fM i q h1 hc).1,h2,h3⟩
def avS{e:yL}{s:Nat}{z:AV}(hs:cY P e=Ix s)(hb:Fq P e=Ix by')(hz:rq P e=Ix z):
  ∃ti zv,P.info? e=Ix ti/\ti.size=s/\ti.bytes=by'/\ti.zero=Ix zv/\z=fQ zv:=by
 unfold cY at hs;unfold Fq at hb;unfold rq at hz
 cases hi:P.info? e with
 | none=>simp[hi] at hs
 | some ti=>
  simp only[hi,yc] at hs hb hz
  cases dj:ti.zero with
  | none=>simp[dj] at hz
  | some zv=>
   grind
def MX{o:xk}{v:AV}{u:yr}{w':yt}{m':Mp}{aq:Hp}(h1:(execOp a.eval o).run O.P w=.ok (.value u) w')(h2:aW O m' S' w' aq bc)(h3:ak O.ai m' S' w' v u)(h4:dY m m')(h5:cE m S w hp m' S' w' aq ct):C0 O m S w a hp ct o v aq bc:=⟨_,u,w',m',S',h1,.inl rfl,h2,h3,h4,h5⟩
def atn{o:xk}{b':yL}{t u e:yL}{z:AV}{x y:xN}{v:AV}{aq:Hp}(hH:im O H)(ht:cp O m S w tm a.tmps)(hh:aW O m S w hp ct)(jf:(execOp a.eval o).run O.P w=((do pure (.value (<-Builtin.append_ #[t,u] b' #[a.eval x,a.eval y])):Sem yau)).run O.P w)(Fx:O.P.underlying t=Ix (.slice e))(hu:(∃e',O.P.underlying u=Ix (.slice e'))\/O.P.underlying u=Ix .string)(hs:cY O.P e=Ix sz)(hb:Fq O.P e=Ix by')(hz:rq O.P e=Ix z)(DA:(cellsOf z).length=sz)(hv:du tm hp ct (.kD sz by' (aS H x) (aS H y))=Ix (v,aq,bc)):C0 O m S w a hp ct o v aq bc:=by
 simp only[du] at hv;obtain⟨ti,zv,DC,rfl,rfl,hzv,rfl⟩:=avS hs hb hz;have aR:∀u' w',(Builtin.append_ #[t,u] b' #[a.eval x,a.eval y]).run O.P w=.ok u' w'->(execOp a.eval o).run O.P w=.ok (.value u') w':=fun u' w' h=>by
  rw[jf,Sem.run_bind,h];rfl
 have BO:m ct=Iy:=by
  cases h:m ct with
  | none=>rfl
  | some q=>have:=hh.lt _ _ h;lia
 have PP:zv.cells.size=ti.size:=by
  have:=kK _ _ (Iz (ai:=O.ai) (m:=m) (S:=S) (w:=w) zv)
  rw[<-DA,<-this];simp
 cases BR:Bz hp ti.size (aC tm (aS H y)) with
 | none=>simp[BR] at hv
 | some q=>
  have⟨n,new⟩:=q;simp only[BR] at hv;have⟨news,nJ,eH⟩:=ars hh (cO hH ht y) BR;have VM:=kK _ _ nJ;have rx:=cO hH ht x
  cases hx:aC tm (aS H x) with
  | ae=>
   rw[hx] at hv rx;simp only at hv;simp only[ak] at rx
   cases h0:yG n 0 with
   | true=>
    rw[h0] at hv;simp only[yN,yc,yD] at hv;obtain⟨rfl,rfl,rfl⟩:=hv;have qJ:=yz h0;subst qJ;have ZX:news=[]:=yu (by rw[eH.2.1];simp)
    subst ZX;have hf:=eH.2.2 w rfl 0 (ym _);have nI:=eH.1 w;refine⟨.value (.slice Iy 0 0),.slice Iy 0 0,w,m,S,?_,.inl rfl,hh,by simp[ak],dY.refl,cE.refl⟩;rw[jf,rx];rcases hu with ⟨e',hu⟩ | hu<;>
     simp[Builtin.append_,run_underlying Fx,run_underlying hu,vU,typeInfo,DC,nI,hf]
   | false=>
    rw[h0] at hv;simp only[y5] at hv
    cases hc:(yO n room&&(yO (n*ti.bytes) room&&yU 0 ti.size)) with
    | false=>rw[hc] at hv;cases hv
    | true=>
     rw[hc] at hv;simp only[yN,yc,yD] at hv;obtain⟨rfl,rfl,rfl⟩:=hv;simp only[yj] at hc;have c1:=yF hc.1;have c2:=yF hc.2.1;simp only[room] at c1 c2;have qJ:0<n:=by
      rcases xE n with h | h
      .subst h;simp at h0
      .exact h
     have hr:=Xb (P:=O.P) (ty:=b') (w:=w) Fx hu DC hzv (s:=.slice Iy 0 0) rfl (ah7 (P:=O.P) (size:=ti.size)) eH (by lia) (by lia) (by simpa using c2);simp only[yd,List.nil_append] at hr;have pC:=grownCap_ge w n 0 e;have oZ:=XG (e:=e) (z:=zv) (cap:=grownCap w n 0 e) hh nJ (need:=n) (sz:=ti.size) eH.2.1 PP (aD new) (fun h=>h) pC;have⟨k1,k2⟩:=XH hh (hp0:=hp) (p:=⟨w.heap.size,0,grownCap w n 0 e*ti.size,ti.size⟩) (fun _ _ h=>h) rfl oZ;exact MX (aR _ _ (by rw[rx];exact hr)) k1 (by simp only[ak];exact⟨_,_,fk,rfl,pC,by simp⟩) (nU BO) k2
  | aF ex k cs=>
   rw[hx] at hv rx
   cases ex with
   | false=>simp at hv
   | true=>
    simp only at hv;have rx0:=rx;simp only[ak] at rx;have rx1:∃ad rC,a.eval x=.slice (Ix ad) k k/\aE O.ai m S w cs rC/\rC.length=cs.length/\(∀(j:Nat) (u:yr),rC[j]? =Ix u->w.cell? (ad.add j)=Ix u)/\aD cs=ycO:=by
     rcases rx with ⟨bb,oo,c,ex,h1,h2,h3,h4,h5⟩ | ⟨ad,ex,rfl,rfl⟩
     .have qI:c=k:=h2 (by trivial);subst qI;have⟨rC,g1,g2,g3⟩:=Cy cs bb oo h5;exact⟨_,rC,ex,g1,g2,fun j u hj=>by rw[zI];exact g3 j u hj,h4⟩
     .exact ⟨ad,[],ex,by simp[aE],rfl,fun j u hj=>by simp at hj,rfl⟩
    have⟨ad,rC,ex,g1,g2,g3,h4⟩:=rx1
    cases h0:yG n 0 with
    | true=>
     rw[h0] at hv;simp only[yN,yc,yD] at hv;obtain⟨rfl,rfl,rfl⟩:=hv;have qJ:=yz h0;subst qJ;have ZX:news=[]:=yu (by rw[eH.2.1];simp)
     subst ZX;have hf:=eH.2.2 w rfl 0 (ym _);have nI:=eH.1 w;refine⟨.value (a.eval x),a.eval x,w,m,S,?_,.inl rfl,hh,rx0,dY.refl,cE.refl⟩;rw[jf,ex];rcases hu with ⟨e',hu⟩ | hu<;>
      simp[Builtin.append_,run_underlying Fx,run_underlying hu,vU,typeInfo,DC,nI,hf,storeCells]
    | false=>
     rw[h0] at hv;simp only[y5] at hv
     cases hc:(yO (k+n) room&&(yO ((k+n)*ti.bytes) room&&(yG cs.length (k*ti.size)&&yU 0 ti.size))) with
     | false=>rw[hc] at hv;cases hv
     | true=>
      rw[hc] at hv;simp only[yN,yc,yD] at hv;obtain⟨rfl,rfl,rfl⟩:=hv;simp only[yj] at hc;have c1:=yF hc.1;have c2:=yF hc.2.1;have c3:=yz hc.2.2.1;simp only[room] at c1 c2;have qJ:0<n:=by
       rcases xE n with h | h
       .subst h;simp at h0
       .exact h
      have hso:Src O.P w ti.size k rC (.slice (Ix ad) k k):=MQ (by lia) g3;have hr:=Xb (P:=O.P) (ty:=b') (w:=w) Fx hu DC hzv rfl hso eH (by lia) c1 c2;have pC:=grownCap_ge w (k+n) k e;have oZ:=XG (e:=e) (z:=zv) (cap:=grownCap w (k+n) k e) hh (pL g1 nJ) (need:=k+n) (sz:=ti.size) (by rw[yE,g2,c3,eH.2.1,xU]) PP (aD cs&&aD new)
       (fun h=>by simp only[yj] at h;exact IA h.1 h.2) pC
      have⟨k1,k2⟩:=XH hh (hp0:=hp) (p:=⟨w.heap.size,0,grownCap w (k+n) k e*ti.size,ti.size⟩) (fun _ _ h=>h) rfl oZ;exact MX (aR _ _ (by rw[ex];exact hr)) k1 (by simp only[ak];exact⟨_,_,fk,rfl,pC,by simp⟩) (nU BO) k2
  | av id o0 k=>
   rw[hx] at hv rx;simp only at hv;simp only[ak] at rx;have⟨p,c,hm,ex,h1,h2⟩:=rx
   split at hv
   case h_2=>cases hv
   rename_i pu VK zz cs hg
   cases hc:(yG zz ti.size&&(yO (k+n) room&&(yO ((k+n)*ti.bytes) room&&(yO (o0+k*ti.size) cs.length&&(yU 0 ti.size&&bP new))))) with
   | false=>rw[hc] at hv;cases hv
   | true=>
    rw[hc] at hv;simp only[yN,yc,yD] at hv;obtain⟨rfl,rfl,rfl⟩:=hv;simp only[yj] at hc;have c0:=yz hc.1;have c1:=yF hc.2.1;have c2:=yF hc.2.2.1;have c3:=yF hc.2.2.2.1;have c4:=hc.2.2.2.2.2;simp only[room] at c1 c2;have⟨p',arr,t',g1,g2,g3,g4,g5,g6,g7,g8,g9,g10⟩:=hh.obj id _ _ hg hm;rw[hm] at g1;injection g1 with g1
    subst g1;subst c0;rw[g3] at h2;have sQ:cf O.ai m S w (slice o0 (k*ti.size) cs) p.b (p.o+o0):=F6 _ _ _ _ (Bo _ _ _ _ g7);have⟨rC,f1,f2,f3⟩:=Cy _ _ _ sQ;have alF:(slice o0 (k*ti.size) cs).length=k*ti.size:=by simp only[slice,yJ,xZ];lia
    have fR:(pu&&aD new)=ycO->aD (slice o0 (k*ti.size) cs++new)=ycO:=fun h=>by
     simp only[yj] at h;exact IA (F3 _ (D3 _ _ (g8 h.1))) h.2
    by_cases JD:k+n<=c
    .have ia:=RE nJ c4;have aaB:p.o+o0+k*ti.size+news.length<=arr.size:=by
      rw[eH.2.1]
      have:(k+n)*ti.size<=c*ti.size:=yR _ JD
      rw[xU] at this
      lia
     have hr:=apR (P:=O.P) (ty:=b') (w:=w) Fx hu DC g2 eH ia JD aaB;have ho:∀m',dY m m'->m' ct=Ix ⟨p.b,p.o+o0,c*ti.size,ti.size⟩->
       gZ O m' S (w.setRow p.b (arr.toList.take (p.o+o0+k*ti.size)++news++arr.toList.drop (p.o+o0+k*ti.size+news.length)).toArray) ct
        (.cells ycO (pu&&aD new) ycP ti.size (slice o0 (k*ti.size) cs++new)):=by
      intro m' hle hi;have aK:iE S w (w.setRow p.b (arr.toList.take (p.o+o0+k*ti.size)++news++arr.toList.drop (p.o+o0+k*ti.size+news.length)).toArray):=fun b hb=>setRow_other w p.b b _ (fun e=>g9 rfl (e▸hb))
      refine⟨_,_,t',hi,setRow_heap w p.b arr _ t' _ g2,rfl,?_,?_,by simp,?_,fR,fun _=>g9 rfl,by simp⟩
      .show (slice o0 (k*ti.size) cs++new).length<=c*ti.size
       rw[yE,alF,<-VM,eH.2.1,<-xU];exact yR _ JD
      .show p.o+o0+c*ti.size<=_
       rw[tO,yE,yE,yJ,xZ,vZ]
       lia
      .refine IR _ (rC++news) _ (pL (jJ hle (fun _ h=>h) aK _ _ f1) (jJ hle (fun _ h=>h) aK _ _ nJ)) (fun j u hj=>?_);show World.cell? _ ⟨p.b,p.o+o0+j,Iy⟩=Ix u
       simp only[World.cell?,setRow_heap w p.b arr _ t' _ g2,tJ,yH,xr];rw[yaL];have e1:(arr.toList.take (p.o+o0+k*ti.size)).length=p.o+o0+k*ti.size:=by rw[yJ,vZ];lia
       by_cases hj1:j<k*ti.size
       .rw [wQ (by lia)] at hj;rw[xu,wQ (by lia),ta (by lia)]
        have:=f3 j u hj
        simpa[World.cell?,g2] using this
       .rw [wB (by lia)] at hj;have hjl:=(List.getElem?_eq_some_iff.1 hj).1;rw[xu,wB (by lia),e1,wQ (by lia),show p.o+o0+j-(p.o+o0+k*ti.size)=j-rC.length by lia];exact hj
     have⟨k1,k2⟩:=art (p':=⟨p.b,p.o+o0,c*ti.size,ti.size⟩) hh hg hm (g9 rfl) (Xo w p.b _) (fun r hr=>by rw[g2] at hr;cases hr) rfl ho;exact MX (aR _ _ (by rw[ex];exact hr)) k1 (by simp only[ak];exact⟨_,c,fk,rfl,JD,by simp⟩) (nU BO) k2
    .have hso:Src O.P w ti.size k rC (.slice (Ix ⟨p.b,p.o+o0,Iy⟩) k c):=MQ (by lia) (fun j u hj=>by rw[zI];exact f3 j u hj)
     have hr:=Xb (P:=O.P) (ty:=b') (w:=w) Fx hu DC hzv rfl hso eH (by lia) c1 c2;have pC:=grownCap_ge w (k+n) c e;have oZ:=XG (e:=e) (z:=zv) (cap:=grownCap w (k+n) c e) hh (pL f1 nJ) (need:=k+n) (sz:=ti.size) (by rw[yE,f2,alF,eH.2.1,xU]) PP (pu&&aD new) fR pC;have⟨k1,k2⟩:=XH hh (hp0:=eJ hp id) (p:=⟨w.heap.size,0,grownCap w (k+n) c e*ti.size,ti.size⟩) (fun i q h=>by
      rw[MP] at h;by_cases hi:id=i
      .simp [hi] at h
      .simpa only [hi,xr] using h) rfl oZ
     exact MX (aR _ _ (by rw[ex];exact hr)) k1 (by simp only[ak];exact⟨_,_,fk,rfl,pC,by simp⟩) (nU BO) k2
  | _=>rw[hx] at hv;simp at hv
end
end
end
section
open Go
section
variable {O:bC}{H:Hint}{m:Mp}{S:Nat->Prop}{w:yt}{tm:Env}{a:Act}{hp:Hp}{ct:Nat}
def ap5{n:Nat}{cs:List AV}(h:aD cs=ycO):aD (cs.take n)=ycO:=F3 n h
def aeq:∀(n:Nat) {cs:List AV},bP cs=ycO->bP (cs.take n)=ycO
 | 0,_,_=>by simp[bP]
 | n+1,[],_=>by simp[bP]
 | n+1,c::cs,h=>by
  simp only[wS,bP,yj] at h ⊢;exact⟨h.1,aeq n h.2⟩
def ato{o:xk}{b':yL}{t u e:yL}{x y:xN}{v:AV}{aq:Hp}(hH:im O H)(ht:cp O m S w tm a.tmps)(hh:aW O m S w hp ct)(jf:(execOp a.eval o).run O.P w=((do pure (.value (<-Builtin.copy_ #[t,u] b' #[a.eval x,a.eval y])):Sem yau)).run O.P w)(Fx:O.P.underlying t=Ix (.slice e))(hs:cY O.P e=Ix sz)(hv:du tm hp ct (.rK sz (aS H x) (aS H y))=Ix (v,aq,bc)):C0 O m S w a hp ct o v aq bc:=by
 simp only[du] at hv
 cases BR:nT hp sz (aC tm (aS H y)) with
 | none=>simp[BR] at hv
 | some q=>
  have⟨n,new⟩:=q;simp only[BR] at hv;have⟨news,nJ,eH⟩:=ae2 hh (cO hH ht y) BR;have VM:=kK _ _ nJ;have rx:=cO hH ht x;cases hx:aC tm (aS H x)<;>rw[hx] at hv rx<;>simp only[reduceCtorEq] at hv
  rename_i id o0 k;simp only[ak] at rx;have⟨p,c,hm,ex,h1,h2⟩:=rx
  split at hv
  case h_2=>cases hv
  rename_i pu VK zz cs hg
  cases hc:(yG zz sz&&(yO (o0+k*sz) cs.length&&bP new)) with
  | false=>rw[hc] at hv;cases hv
  | true=>
   rw[hc] at hv;simp only[yN,yc,yD] at hv;obtain⟨rfl,rfl,rfl⟩:=hv;simp only[yj] at hc;have c0:=yz hc.1;have c1:=yF hc.2.1;subst c0;have⟨p',arr,t',g1,g2,g3,g4,g5,g6,g7,g8,g9,g10⟩:=hh.obj id _ _ hg hm;rw[hm] at g1;injection g1 with g1
   subst g1;have BS:min n k*zz<=k*zz:=yR _ (Nat.min_le_right _ _);have aJp:min n k*zz<=n*zz:=yR _ (ybK _ _);have rt:=IL (min n k*zz) nJ;have A5:(news.take (min n k*zz)).length=min n k*zz:=by rw[yJ,eH.2.1];lia
   have aJz:(new.take (min n k*zz)).length=min n k*zz:=by rw[yJ,<-VM,eH.2.1];lia
   have ia:=RE rt (aeq _ hc.2.2);have hf:=eH.2.2 w rfl (min n k) (ybK _ _);have aK:=run_storeCells_at O.P p.b (p.o+o0) t' (news.take (min n k*zz)) 0 arr w g2 (by rw[A5];lia) ia
   simp only[xg] at aK;have sO:gZ O m S (w.setRow p.b (arr.toList.take (p.o+o0)++news.take (min n k*zz)++arr.toList.drop (p.o+o0+(news.take (min n k*zz)).length)).toArray) id
     (.cells ycO (pu&&aD new) VK zz (over o0 (new.take (min n k*zz)) cs)):=by
    refine⟨p,_,t',hm,setRow_heap w p.b arr _ t' _ g2,g3,by rw[RU (by lia)];exact g4,?_,fun h=>by rw[RU (by lia)];exact g6 h,?_,?_,fun _=>g9 rfl,by simp⟩
    .rw [tO,yE,yE,yJ,xZ,vZ,A5];lia
    .exact agP g2 g7 rt (by lia) (by lia) dY.refl (fun _ h=>h) (fun b hb=>setRow_other w p.b b _ (fun e=>g9 rfl (e▸hb))) (setRow_heap w p.b arr _ t' _ g2)
    .intro h;simp only[yj] at h;exact ae0 (g8 h.1) (ap5 h.2)
   have⟨e1,e2⟩:=MW hh hg hm (g9 rfl) (Xo w p.b _) sO (fun r hr=>by rw[g2] at hr;cases hr)
   refine MX (u:=goInt ((min n k:Nat):Int)) (m':=m) (S':=S) ?_ e1 (by simp[ak,goInt]) dY.refl e2;rw[jf,ex];simp[Builtin.copy_,run_underlying Fx,eH.1 w,rX hs,show Nat.min n k=min n k from rfl,hf,aK]
def avT{o:xk}{k:Nat}{v:AV}{aq:Hp}(hH:im O H)(ht:cp O m S w tm a.tmps)(hh:aW O m S w hp ct)(hv:du tm hp ct (bn O.P H k o)=Ix (v,aq,bc)):C0 O m S w a hp ct o v aq bc:=by
 have qj:∀{r:AV×Hp×Nat},du tm hp ct bad=Ix r->False:=fun h=>by simp[bad,du] at h
 cases ho:o.op with
 | call c=>
  have⟨callee,args,ts⟩:=c;simp only[bn,ho] at hv
  split at hv
  .cases VJ:H.mode k<;>simp[VJ,du] at hv
  .rename_i _ b
   split at hv
   .rename_i x y t u jt Ad;have⟨al⟩:=args;have⟨tl⟩:=ts;simp only at jt Ad;subst jt;subst Ad;have⟨cs,jf⟩:=MC (O:=O) (w:=w) (a:=a) ho;have ZY:(execOp a.eval o).run O.P w=((do pure (.value (<-Builtin.append_ #[t,u] o.type #[a.eval x,a.eval y])):Sem yau)).run O.P w:=by
     rw[jf];simp[builtin]
    have key:∀{z:AV} {sz by':Nat} {e:yL},O.P.underlying t=Ix (.slice e)->((∃e',O.P.underlying u=Ix (.slice e'))\/O.P.underlying u=Ix .string)->cY O.P e=Ix sz->Fq O.P e=Ix by'->rq O.P e=Ix z->
      du tm hp ct (bif yG (cellsOf z).length sz then .kD sz by' (aS H x) (aS H y) else bad)=Ix (v,aq,bc)->C0 O m S w a hp ct o v aq bc:=by
     intro z sz by' e h1 h2 h3 h4 h5 h
     cases hb:yG (cellsOf z).length sz with
     | false=>rw[hb] at h;exact (qj h).elim
     | true=>
      rw[hb] at h;exact atn hH ht hh ZY h1 h2 h3 h4 h5 (yz hb) h
    split at hv
    .rename_i e e' h1 h2
     split at hv
     .rename_i sz by' z h3 h4 h5
      exact key h1 (.inl ⟨_,h2⟩) h3 h4 h5 hv
     .exact (qj hv).elim
    .rename_i e h1 h2
     split at hv
     .rename_i sz by' z h3 h4 h5
      exact key h1 (.inr h2) h3 h4 h5 hv
     .exact (qj hv).elim
    .exact (qj hv).elim
   .repeat' split at hv
    all_goals simp[du,bad] at hv
   .rename_i x y t u jt Ad;have⟨al⟩:=args;have⟨tl⟩:=ts;simp only at jt Ad;subst jt;subst Ad;have⟨cs,jf⟩:=MC (O:=O) (w:=w) (a:=a) ho;have ZY:(execOp a.eval o).run O.P w=((do pure (.value (<-Builtin.copy_ #[t,u] o.type #[a.eval x,a.eval y])):Sem yau)).run O.P w:=by
     rw[jf];simp[builtin]
    split at hv
    .rename_i e h1
     split at hv
     .rename_i sz h3;exact ato hH ht hh ZY h1 h3 hv
     .exact (qj hv).elim
    .exact (qj hv).elim
   .simp [du] at hv
   .simp [du] at hv
   .exact (qj hv).elim
  .exact (qj hv).elim
 | store t x y=>
  simp only[bn,ho] at hv
  split at hv
  .rename_i s hs;exact avP hH ht hh ho hs hv
  .exact (qj hv).elim
 | mapUpdate t x k y=>
  simp only[bn,ho] at hv
  split at hv
  .rename_i kt e hu
   split at hv
   .rename_i kk A3;exact agQ hH ht hh (.inl ho) hu A3 hv
   .exact (qj hv).elim
  .exact (qj hv).elim
 | insert t x k y=>
  simp only[bn,ho] at hv
  split at hv
  .rename_i kt e hu
   split at hv
   .rename_i kk A3;exact agQ hH ht hh (.inr ho) hu A3 hv
   .exact (qj hv).elim
  .exact (qj hv).elim
 | next x b=>
  cases b with
  | false=>simp only[bn,ho] at hv;exact (qj hv).elim
  | true=>exact atm hH ht hh ho (by simpa only[bn,ho] using hv)
 | binOp op t x y ty=>
  cases op<;>simp only[bn,ho,BB,CH] at hv
  case eql=>
        repeat' split at hv
        all_goals first
         | (simp[du,bad] at hv;done)
         | (cases hb:(O.P.stoodInHeld t||O.P.eqGuardType O.P.depth t)<;>rw[hb] at hv<;>simp[du,bad] at hv)
  case neq=>
        repeat' split at hv
        all_goals first
         | (simp[du,bad] at hv;done)
         | (cases hb:(O.P.stoodInHeld t||O.P.eqGuardType O.P.depth t)<;>rw[hb] at hv<;>simp[du,bad] at hv)
  all_goals simp[du] at hv
 | buildSlice t n parts=>
  simp only[bn,ho] at hv
  repeat' split at hv
  all_goals first
   | (simp[du,bad] at hv;done)
   | (
     revert hv;generalize yO _ _=bb;intro hv;cases bb<;>simp[du,bad] at hv
     try (split at hv<;>simp[du,bad] at hv))
 | makeMap t r=>
  cases r<;>simp only[bn,ho] at hv
  .repeat' split at hv
   all_goals simp[du,bad] at hv
  .exact (qj hv).elim
 | _=>
  simp only[bn,ho] at hv
  (repeat' split at hv)
  all_goals first
   | contradiction
   | (simp[du,bad] at hv;done)
end
end
section
variable {v x:AV}{hp:Hp}{o:Op}
section
variable {hp H:Hp}{tm tm':Env}
def ah8(hl:dJ hp H){id:Nat}{pu:Bool}{cs:List AV}(h:au hp id=Ix (.cells rw pu ex sz cs)):∃dn,au H id=Ix (.cells dn pu ex sz cs):=by
 obtain⟨o',h1,dn,rfl,_⟩:=hl id _ h
 grind
def ah9(hl:dJ hp H){id:Nat}{ks vs:List AV}(h:au hp id=Ix (.mp rw ks vs)):∃dn,au H id=Ix (.mp dn ks vs):=by
 obtain⟨o',h1,dn,rfl,_⟩:=hl id _ h
 grind
def aia(hl:dJ hp H){ag:Bool}(h:jx hp sz ag x=Ix v):jx H sz ag x=Ix v:=by
 cases x<;>simp only[jx,reduceCtorEq] at h ⊢
 .rename_i id o
  cases hg:au hp id with
  | none=>simp[hg] at h
  | some ob=>
   cases ob<;>simp only[hg,reduceCtorEq] at h
   obtain⟨r,h1⟩:=ah8 hl hg
   grind
 .exact h
def atp(hl:dJ hp H){k:AV}{v:Option AV}(h:oc hp k x=Ix v):oc H k x=Ix v:=by
 cases x<;>simp only[oc,reduceCtorEq] at h ⊢
 .grind
 .rename_i id
  cases hg:au hp id with
  | none=>simp[hg] at h
  | some ob=>
   cases ob<;>simp only[hg,reduceCtorEq] at h
   obtain⟨r,h1⟩:=ah9 hl hg
   grind
 .exact h
def atq(hl:dJ hp H){k:Nat}(h:fu hp k x=Ix v):fu H k x=Ix v:=by
 unfold fu at h ⊢
 split at h
 all_goals first
  | exact h
  | cases h
  | skip
 rename_i id
 cases hg:au hp id with
 | none=>simp[hg] at h
 | some ob=>
  cases ob<;>simp only[hg,reduceCtorEq] at h
  obtain⟨r,h1⟩:=ah9 hl hg
  grind
def atr(hl:dJ hp H){k:Cut}{lo hi:Option X}(h:gI hp k x tm lo hi=Ix v):gI H k x tm lo hi=Ix v:=by
 unfold gI at h ⊢
 split at h
 all_goals first
  | exact h
  | cases h
  | skip
 rename_i sz id o n
 cases hg:au hp id with
 | none=>simp[hg] at h
 | some ob=>
  cases ob<;>simp only[hg,reduceCtorEq] at h
  obtain⟨r,h1⟩:=ah8 hl hg
  grind
def aru(hl:dJ hp H)(h:bB tm hp o=Ix v):bB tm H o=Ix v:=by
 cases o<;>simp only[bB,reduceCtorEq] at h ⊢<;>first
  | exact h
  | exact aia hl h
  | exact atq hl h
  | exact atr hl h
  | skip
 rename_i kk zero ok m k
 cases hk:AA kk (aC tm k) with
 | false=>rw[hk] at h;cases h
 | true=>
  rw[hk] at h
  cases hr:oc hp (aC tm k) (aC tm m) with
  | none=>simp[hr] at h
  | some r=>rw[atp hl hr];simpa only[hr] using h
def arv(hk:bG o=0)(hp H:Hp):bB tm hp o=bB tm H o:=by
 cases o with
 | Aa k x lo hi=>
  cases k with
  | str=>simp only[bB,gI];cases aC tm x<;>rfl
  | sl sz=>simp[bG] at hk
  | ar n sz=>simp[bG] at hk
 | len k x=>
  match k,hk with
  | 0,_=>simp only[bB];unfold fu;split<;>simp_all
  | 1,_=>simp only[bB];unfold fu;split<;>simp_all
  | k+2,hk=>simp[bG] at hk
 | call md f xs=>cases md<;>simp[bG] at hk
 | _=>first
  | rfl
  | simp[bG] at hk
end
section
variable {tm tm':Env}
def eQ{x:X}(h:∀t,t∈mG x->ab tm' t=ab tm t):aC tm' x=aC tm x:=by
 cases x with
 | t i=>exact h i (by simp[mG])
 | c v=>rfl
def F7:∀{xs:List X},(∀t,t∈CQ xs->ab tm' t=ab tm t)->dU tm' xs=dU tm xs
 | [],_=>rfl
 | x::r,h=>by
  simp only[dU]
  rw[eQ (x:=x) (fun t ht=>h t (by simp[CQ,ht])),F7 (fun t ht=>h t (by simp[CQ,ht]))]
def XI:∀{ps:List (Nat×Nat×X)} {z:List AV},(∀t,t∈N9 ps->ab tm' t=ab tm t)->fill tm' z ps=fill tm z ps
 | [],_,_=>rfl
 | (o,s,x)::r,z,h=>by
  simp only[fill]
  rw[eQ (x:=x) (fun t ht=>h t (by simp[N9,ht]))]
  rw[XI (ps:=r) (fun t ht=>h t (by simp[N9,ht]))]
def ae3{x:Option X}(h:∀t,t∈N8 x->ab tm' t=ab tm t):cS tm' d x=cS tm d x:=by
 cases x with
 | none=>rfl
 | some x=>simp only[cS];rw[eQ h]
def aqy{k:Cut}{lo hi:Option X}(h1:∀t,t∈N8 lo->ab tm' t=ab tm t)(h2:∀t,t∈N8 hi->ab tm' t=ab tm t):
  gI hp k x tm' lo hi=gI hp k x tm lo hi:=by
 unfold gI;simp only[ae3 h1,ae3 h2]
def ap6(h:∀t,t∈nX o->ab tm' t=ab tm t):bB tm' hp o=bB tm hp o:=by
 cases o<;>simp only[nX,wm] at h<;>simp only[bB]
 case pick c a b=>rw[eQ (x:=c) fun t ht=>h t (.inl ht),eQ (x:=a) fun t ht=>h t (.inr (.inl ht)),eQ (x:=b) fun t ht=>h t (.inr (.inr ht))]
 case EA z ps=>rw[XI h]
 case KC f a b=>rw[F7 (xs:=a) fun t ht=>h t (.inl ht),F7 (xs:=b) fun t ht=>h t (.inr ht)]
 case Aa k x lo hi=>rw[eQ (x:=x) fun t ht=>h t (.inl ht),aqy (fun t ht=>h t (.inr (.inl ht))) (fun t ht=>h t (.inr (.inr ht)))]
 case mn xs=>rw[F7 h]
 case mx xs=>rw[F7 h]
 case bin op x y=>rw[eQ (x:=x) fun t ht=>h t (.inl ht),eQ (x:=y) fun t ht=>h t (.inr ht)]
 case eq n k x y=>rw[eQ (x:=x) fun t ht=>h t (.inl ht),eQ (x:=y) fun t ht=>h t (.inr ht)]
 case aT s x y=>rw[eQ (x:=x) fun t ht=>h t (.inl ht),eQ (x:=y) fun t ht=>h t (.inr ht)]
 case KD l s x y=>rw[eQ (x:=x) fun t ht=>h t (.inl ht),eQ (x:=y) fun t ht=>h t (.inr ht)]
 case KE x y=>rw[eQ (x:=x) fun t ht=>h t (.inl ht),eQ (x:=y) fun t ht=>h t (.inr ht)]
 case Dv l s g x y=>rw[eQ (x:=x) fun t ht=>h t (.inl ht),eQ (x:=y) fun t ht=>h t (.inr ht)]
 case PG kk z ok x y=>rw[eQ (x:=x) fun t ht=>h t (.inl ht),eQ (x:=y) fun t ht=>h t (.inr ht)]
 all_goals first
  | rfl
  | (rename_i x;rw[eQ (x:=x) h])
def MD{aq:Hp}(h:∀t,t∈nX o->ab tm' t=ab tm t):dh tm' aq ct o=dh tm hp ct o:=by
 cases o<;>simp only[nX,wm] at h<;>simp only[dh]
 case box s x=>rw[eQ (x:=x) h]
 case sD n s z ps=>rw[XI h]
 case sM s b z x y=>rw[eQ (x:=x) fun t ht=>h t (.inl ht),eQ (x:=y) fun t ht=>h t (.inr ht)]
 case Ab x=>rw[eQ (x:=x) h]
def IB(h:∀t,t∈nX o->ab tm' t=ab tm t):du tm' hp ct o=du tm hp ct o:=by
 cases o<;>simp only[nX,wm] at h<;>simp only[du]
 case st s x y=>rw[eQ (x:=x) fun t ht=>h t (.inl ht),eQ (x:=y) fun t ht=>h t (.inr ht)]
 case sN kk c a b=>rw[eQ (x:=c) fun t ht=>h t (.inl ht),eQ (x:=a) fun t ht=>h t (.inr (.inl ht)),eQ (x:=b) fun t ht=>h t (.inr (.inr ht))]
 case Ac x=>rw[eQ (x:=x) h]
 case kD s b x y=>rw[eQ (x:=x) fun t ht=>h t (.inl ht),eQ (x:=y) fun t ht=>h t (.inr ht)]
 case rK s x y=>rw[eQ (x:=x) fun t ht=>h t (.inl ht),eQ (x:=y) fun t ht=>h t (.inr ht)]
end
end
section
open Go
section
variable {r:AV}{bs:List Nat}{lo:Nat}{ai:Nat->Nat}{u:yr}
structure Calm(w w':yt):Prop where
 os:w'.os=w.os
 tape:w'.tape=w.tape
 output:w'.output=w.output
 size:w.heap.size<=w'.heap.size
 same:∀b,b<w.heap.size->w'.heap[b]? =w.heap[b]?
def Calm.refl{w:yt}:Calm w w:=⟨rfl,rfl,rfl,ym _,fun _ _=>rfl⟩
def EC(O:bC)(w:yt):Prop:=(∀b,b<O.w0.heap.size->w.heap[b]? =O.w0.heap[b]?)/\O.w0.heap.size<=w.heap.size
def gC:Mp:=fun _=>Iy
def j0(ai:Nat->Nat)(S:Nat->Prop)(w:yt)(lo:Nat):AV->yr->List Nat->Prop
 | .bR ex sz n cs,u,bs=>∃b o c arr t,bs=[b]/\u=.slice (Ix ⟨b,o,Iy⟩) n c/\n<=c/\(ex=ycO->c=n)/\lo<=b/\¬S b/\w.heap[b]? =Ix (.cells arr t (0,0))/\cs.length=n*sz/\
   o+c*sz<=arr.size/\cf ai gC S w cs b o/\aD cs=ycO
 | r,u,bs=>bs=[]/\ak ai gC S w r u/\aP r=ycO
def ot(ai:Nat->Nat)(S:Nat->Prop)(w:yt)(lo:Nat):List AV->List yr->List Nat->Prop
 | [],us,bs=>us=[]/\bs=[]
 | v::r,us,bs=>∃u t b1 b2,us=u::t/\bs=b1++b2/\j0 ai S w lo v u b1/\ot ai S w lo r t b2
def zS(ai:Nat->Nat)(S:Nat->Prop)(w:yt)(lo:Nat)(r:AV)(u:yr):Prop:=
 match r with
 | .ax vs=>∃(us:Array yr) (bs:List Nat),u=.tuple us/\ot ai S w lo vs us.toList bs/\bs.Nodup
 | r=>∃bs,j0 ai S w lo r u bs
def Ef(P:xM)(f:tL)(args:Array yr)(w:yt)(R:yag->yt->Prop):Prop:=
 ((callFunc f args).run P w=.ok (.enter f args) w/\CallsIn Fence.wide 0 P f args w R)\/∃u w',(callFunc f args).run P w=.ok (.value u) w'/\R (.returned u) w'
def agR(O:bC)(w:yt)(S:Nat->Prop)(r:AV)(e:yag)(w':yt):Prop:=
 ∃u S',e=.returned u/\Calm w w'/\(∀b,S b->S' b)/\(∀b,S' b->S b\/w.heap.size<=b)/\(∀b,S' b->b<w'.heap.size)/\zS O.ai S' w' w.heap.size r u
def fF(O:bC)(n:Nat)(az:List AV)(r:AV):Prop:=
 ∀(w:yt) (S:Nat->Prop) (args:Array yr),EC O w->(∀b,S b->b<w.heap.size)->aE O.ai gC S w az args.toList->aD az=ycO->
  Ef O.P (O.ai n) args w (agR O w S r)
def CB(O:bC)(m:Mp)(S:Nat->Prop)(w:yt)(hp:Hp)(ct:Nat)(v:AV)(aq:Hp)(bc:Nat)(e:yag)(w':yt):Prop:=
 ∃u m' S',e=.returned u/\aW O m' S' w' aq bc/\ct<=bc/\ak O.ai m' S' w' v u/\cE m S w hp m' S' w' aq ct
def ED(O:bC)(n:Nat)(hp:Hp)(ct:Nat)(az:List AV)(v:AV)(aq:Hp)(bc:Nat):Prop:=
 ∀(m:Mp) (S:Nat->Prop) (w:yt) (args:Array yr),aW O m S w hp ct->aE O.ai m S w az args.toList->Ef O.P (O.ai n) args w (CB O m S w hp ct v aq bc)
section
variable {ai:Nat->Nat}{m m':Mp}{S S':Nat->Prop}{w w':yt}
mutual
def Aw(hS:∀b,S b->S' b)(hw:iE S w w'):∀(v:AV) (u:yr),aP v=ycO->ak ai m S w v u->ak ai m' S' w' v u
 | .int _ _,_,_,h | .bool _,_,_,h | .dP _ _,_,_,h | .str _,_,_,h | .oY,_,_,h | .ae,_,_,h | .kZ,_,_,h | .nD,_,_,h | .undef,_,_,h=>by
  simpa only[ak] using h
 | .ptr id o,u,hp,h=>by simp[aP] at hp
 | .aQ cs,u,hp,h=>by
  simp only[ak] at h ⊢;have⟨b,o,h1,h2,h3,h4⟩:=h;refine⟨b,o,h1,h2.imp id (hS b),h3,?_⟩;rcases h2 with rfl | h2
  .simp only [cf]
  .exact Xp hS hw cs b o h3 h2 h4
 | .aF ex n cs,u,hp,h=>by
  simp only[ak] at h ⊢;rcases h with ⟨b,o,c,h1,h2,h3,h4,h5,h6⟩ | h
  .refine .inl ⟨b,o,c,h1,h2,h3,h4.imp id (hS b),h5,?_⟩;rcases h4 with rfl | h4
   .simp only [cf]
   .exact Xp hS hw cs b o h5 h4 h6
  .exact .inr h
 | .bR _ _ _ _,u,hp,h=>by simp[aP] at hp
 | .av id o n,u,hp,h=>by simp[aP] at hp
 | .fn (.f g) first cap,u,hp,h=>by
  simp only[ak] at h ⊢;simp only[aP,yj] at hp;have⟨fi,ca,h1,h2,h3⟩:=h;exact⟨fi,ca,h1,Cz hS hw first _ hp.1 h2,Cz hS hw cap _ hp.2 h3⟩
 | .fn (.y l) _ _,u,hp,h=>by simp[aP] at hp
 | .map id,u,hp,h=>by simp[aP] at hp
 | .nE ks vs,u,hp,h=>by
  simp only[ak] at h ⊢;have⟨b,es,clock,h1,h2,h3,h4,h5,h6,h7⟩:=h;exact⟨b,es,clock,h1,hS b h2,h3,h4,(hw b h2).trans h5,Cz hS hw ks _ h3 h6,Cz hS hw vs _ h4 h7⟩
 | .it id,u,hp,h=>by simp[aP] at hp
 | .agg cs,u,hp,h=>by
  simp only[ak] at h ⊢;simp only[aP] at hp;have⟨xs,h1,h2⟩:=h;exact⟨xs,h1,Cz hS hw cs _ hp h2⟩
 | .ax cs,u,hp,h=>by
  simp only[ak] at h ⊢;simp only[aP] at hp;have⟨xs,h1,h2⟩:=h;exact⟨xs,h1,Cz hS hw cs _ hp h2⟩
def Cz(hS:∀b,S b->S' b)(hw:iE S w w'):∀(vs:List AV) (us:List yr),aD vs=ycO->aE ai m S w vs us->aE ai m' S' w' vs us
 | [],us,_,h=>by simpa only[aE] using h
 | v::r,us,hp,h=>by
  simp only[aE] at h ⊢;simp only[aD,yj] at hp;have⟨u,t,h1,h2,h3⟩:=h;exact⟨u,t,h1,Aw hS hw v u hp.1 h2,Cz hS hw r t hp.2 h3⟩
def Xp(hS:∀b,S b->S' b)(hw:iE S w w'):∀(cs:List AV) (b o:Nat),aD cs=ycO->S b->cf ai m S w cs b o->cf ai m' S' w' cs b o
 | [],_,_,_,_,_=>by simp only[cf]
 | c::cs,b,o,hp,hb,h=>by
  simp only[cf] at h ⊢;simp only[aD,yj] at hp;have⟨⟨u,h1,h2⟩,h3⟩:=h;exact⟨⟨u,(Q8 (hw b hb)).trans h1,Aw hS hw c u hp.1 h2⟩,Xp hS hw cs b (o+1) hp.2 hb h3⟩
end
def F5(hS:∀b,S b->S' b)(hw:iE S w w'):∀(cs:List AV) (b o:Nat),aD cs=ycO->w'.heap[b]? =w.heap[b]? ->cf ai m S w cs b o->cf ai m' S' w' cs b o
 | [],_,_,_,_,_=>by simp only[cf]
 | c::cs,b,o,hp,hb,h=>by
  simp only[aD,yj] at hp;have⟨⟨u,h1,h2⟩,h3⟩:=h;exact⟨⟨u,(Q8 hb).trans h1,Aw hS hw c u hp.1 h2⟩,F5 hS hw cs b (o+1) hp.2 hb h3⟩
end
section
variable {O:bC}{m:Mp}{S S':Nat->Prop}{w w':yt}{hp:Hp}{ct:Nat}
def arw(hh:aW O m S w hp ct)(hw:Calm w w'):iE S w w':=fun b hb=>hw.same b (hh.slt b hb)
def IM(hh:aW O m S w hp ct)(hw:Calm w w')(hS:∀b,S b->S' b)(hn:∀b,S' b->S b\/w.heap.size<=b)(hl:∀b,S' b->b<w'.heap.size):aW O m S' w' hp ct where
 obj id o p ho hm:=Bp (fun _ _ h=>h) hS (arw hh hw) (fun q hq=>hw.same _ (hh.blt id q hq)) (fun q hq hs=>(hn _ hs).resolve_right (by have:=hh.blt id q hq;lia)) (hh.obj id o p ho hm)
 lt:=hh.lt
 inj:=hh.inj
 slt:=hl
 blt id p h:=yT (hh.blt id p h) hw.size
 low:=hh.low
 nF b hb:=(hw.same b (yT hb hh.iG)).trans (hh.nF b hb)
 iG:=xB hh.iG hw.size
 aY:=hh.aY
def Ge(hh:aW O m S w hp ct)(hw:Calm w w')(hS:∀b,S b->S' b)(hn:∀b,S' b->S b\/w.heap.size<=b):cE m S w hp m S' w' hp base where
 os:=hw.os
 tape:=hw.tape
 output:=hw.output
 size:=hw.size
 same b hb _:=hw.same b hb
 sub:=hS
 still b hb:=hw.same b (hh.slt b hb)
 new b hb:=(hn b hb).imp id .inr
 own b hb:=.inl hb
 old _ _ _ h:=h
 loops b r hb:=⟨r,(hw.same b (xT.1 hb).1).trans hb⟩
def ats{i:Nat}(hh:aW O m S w hp ct)(hi:m i=Iy)(Fv:i<ct){p:Pl}(hb:p.b<w.heap.size)(bj:O.w0.heap.size<=p.b)(KH:¬S p.b)(sR:∀j q,m j=Ix q->q.b≠p.b)(hf:∀o,au hp i=Ix o->(gZ O (hZ m i p) S w i o/\¬lL o)\/(lL o/\gZ O (hZ m i p) (fun b=>S b\/b=p.b) w i o)):
  ∃S',aW O (hZ m i p) S' w hp ct/\(∀b,S b->S' b)/\∀b,S' b->S b\/b=p.b:=by
 have aK:iE S w w:=fun _ _=>rfl
 have gen:∀S':Nat->Prop,(∀b,S b->S' b)->(∀b,S' b->S b\/b=p.b)->(∀o,au hp i=Ix o->gZ O (hZ m i p) S' w i o)->aW O (hZ m i p) S' w hp ct:=by
  intro S' h1 h2 h3;refine⟨?_,?_,?_,?_,?_,?_,hh.nF,hh.iG,hh.aY⟩
  .intro id o q ho hm;by_cases hc:id=i
   .grind
   .rw [fj hc] at hm;refine Bp (nU hi) h1 aK (fun _ _=>rfl) (fun q' bO hs=>?_) (hh.obj id o q ho hm)
    grind
  .intro id q hm;by_cases hc:id=i
   .grind
   .rw [fj hc] at hm;exact hh.lt id q hm
  .intro a b oa ob pa pb ha dd HL Da e;by_cases ca:a=i
   .by_cases cb:b=i
    .grind
    .subst ca;rw[fk] at HL;rw[fj cb] at Da
     grind
   .rw [fj ca] at HL;by_cases cb:b=i
    .subst cb;rw[fk] at Da
     grind
    .rw [fj cb] at Da;exact hh.inj a b oa ob pa pb ha dd HL Da e
  .intro b hs;rcases h2 b hs with h | h
   .exact hh.slt b h
   .grind
  .intro id q hm;by_cases hc:id=i
   .subst hc;rw[fk] at hm
    grind
   .rw [fj hc] at hm;exact hh.blt id q hm
  .intro id q hm;by_cases hc:id=i
   .subst hc;rw[fk] at hm
    grind
   .rw [fj hc] at hm;exact hh.low id q hm
 cases ho:au hp i with
 | none=>exact⟨S,gen S (fun _ h=>h) (fun _ h=>.inl h) (fun o h=>by rw[ho] at h;cases h),fun _ h=>h,fun _ h=>.inl h⟩
 | some o=>
  rcases hf o ho with ⟨h1,_⟩ | ⟨_,h1⟩
  .exact ⟨S,gen S (fun _ h=>h) (fun _ h=>.inl h) (fun o' h=>by rw[ho] at h;injection h with h;subst h;exact h1),fun _ h=>h,fun _ h=>.inl h⟩
  .exact ⟨_,gen (fun b=>S b\/b=p.b) (fun _ h=>.inl h) (fun _ h=>h) (fun o' h=>by rw[ho] at h;injection h with h;subst h;exact h1),fun _ h=>.inl h,fun _ h=>h⟩
def afS(h:j0 ai S w lo r u bs)(m:Mp)(hS:∀b,S b->S' b)(hbs:∀b,b∈bs->S' b):ak ai m S' w (cd r) u:=by
 have aK:iE S w w:=fun _ _=>rfl
 cases r with
 | bR ex sz n cs=>
  obtain⟨b,o,c,arr,t,rfl,rfl,h1,h2,h3,h4,h5,h6,h7,h8,h9⟩:=h;exact .inl ⟨b,o,c,rfl,h1,h2,.inr (hbs b (by simp)),h9,F5 hS aK cs b o h9 rfl h8⟩
 | _=>simp only[j0] at h;exact Aw hS aK _ _ h.2.2 h.2.1
def afT{ai:Nat->Nat}{lo:Nat}(m:Mp)(hS:∀b,S b->S' b):∀{vs:List AV} {us:List yr} {bs:List Nat},ot ai S w lo vs us bs->(∀b,b∈bs->S' b)->aE ai m S' w (G0 vs) us
 | [],us,bs,h,_=>by simp only[ot] at h;exact h.1
 | v::r,us,bs,h,hb=>by
  obtain⟨u,t,b1,b2,rfl,rfl,h1,h2⟩:=h;exact⟨u,t,rfl,afS h1 m hS (fun b dd=>hb b (by simp[dd])),afT m hS h2 (fun b dd=>hb b (by simp[dd]))⟩
def YL(h:j0 ai S w lo r u bs):∀b,b∈bs->lo<=b/\b<w.heap.size:=by
 intro b hb
 cases r with
 | bR ex sz n cs=>
  simp only[j0] at h
  grind
 | _=>simp only[j0] at h;rw[h.1] at hb;cases hb
def YM{ai:Nat->Nat}{lo:Nat}:∀{vs:List AV} {us:List yr} {bs:List Nat},ot ai S w lo vs us bs->∀b,b∈bs->lo<=b/\b<w.heap.size
 | [],us,bs,h,b,hb=>by simp only[ot] at h;rw[h.2] at hb;cases hb
 | v::r,us,bs,h,b,hb=>by
  obtain⟨u,t,b1,b2,rfl,rfl,h1,h2⟩:=h;rcases wm.1 hb with hb | hb
  .exact YL h1 b hb
  .exact YM h2 b hb
def afU(h:zS ai S w lo r u)(m:Mp):∃S',(∀b,S b->S' b)/\(∀b,S' b->S b\/(lo<=b/\b<w.heap.size))/\ak ai m S' w (shut r) u:=by
 have one:∀(r:AV) (bs:List Nat),shut r=cd r->j0 ai S w lo r u bs->∃S',(∀b,S b->S' b)/\(∀b,S' b->S b\/(lo<=b/\b<w.heap.size))/\ak ai m S' w (shut r) u:=by
  intro r bs hs h;refine⟨fun b=>S b\/b∈bs,fun _ h=>.inl h,fun b hb=>hb.imp (fun x=>x) (fun hb=>YL h b hb),?_⟩;rw[hs];exact afS h m (fun _ h=>.inl h) (fun _ h=>.inr h)
 cases r with
 | ax vs=>
  obtain⟨us,bs,rfl,h1,h2⟩:=h;refine⟨fun b=>S b\/b∈bs,fun _ h=>.inl h,fun b hb=>hb.imp (fun x=>x) (fun hb=>YM h1 b hb),?_⟩;exact⟨us,rfl,afT m (fun _ h=>.inl h) h1 (fun _ h=>.inr h)⟩
 | _=>
  have⟨bs,h⟩:=h;exact one _ bs rfl h
end
end
end
section
open Go
section
variable {r:AV}{hp:Hp}{ct:Nat}
section
variable {O:bC}{m:Mp}{S:Nat->Prop}{w:yt}{H:Hp}{cH:Nat}
def Sw:ct<=(gS hp ct r).2.2:=by
 cases r<;>simp only[gS]<;>lia
def Sx:∀{vs:List AV} {hp:Hp} {ct:Nat},ct<=(mL hp ct vs).2.2
 | [],hp,ct=>by simp[mL]
 | v::r,hp,ct=>by
  simp only[mL];have h1:=Sw (hp:=hp) (ct:=ct) (r:=v);have h2:=Sx (vs:=r) (hp:=(gS hp ct v).2.1) (ct:=(gS hp ct v).2.2)
  lia
def YN(hf:∀id o,au hp id=Ix o->id<ct):∀id o,au hp id=Ix o->au (gS hp ct r).2.1 id=Ix o:=by
 intro id o h;cases r<;>simp only[gS]<;>try exact h
 rw[jK,yx (by have:=hf id o h;lia)]
 exact h
def aib{lo:Nat}{u:yr}(hh:aW O m S w H cH)(hl:dJ (gS hp ct r).2.1 H)(jF:(gS hp ct r).2.2<=cH)(hn:∀id,ct<=id->id<(gS hp ct r).2.2->m id=Iy)(hr:j0 O.ai S w lo r u bs)(bj:O.w0.heap.size<=lo)(sR:∀j q,m j=Ix q->q.b∉bs):
  ∃m' S',aW O m' S' w H cH/\dY m m'/\(∀id p,m' id=Ix p->m id=Ix p\/(ct<=id/\id<(gS hp ct r).2.2/\p.b∈bs))/\ak O.ai m' S' w (gS hp ct r).1 u/\(∀b,S b->S' b)/\(∀b,S' b->S b\/b∈bs):=by
 have aK:iE S w w:=fun _ _=>rfl
 cases r with
 | bR ex sz n cs=>
  simp only[gS] at hl jF hn;obtain⟨b,o,c,arr,t,rfl,rfl,h1,h2,h3,h4,h5,h6,h7,h8,h9⟩:=hr;have bN:m ct=Iy:=hn ct (ym _) (Nat.lt_succ_self _);have aDq:b<w.heap.size:=(xT.1 h5).1;have sO:gZ O (hZ m ct ⟨b,o,c*sz,sz⟩) S w ct (.cells ycO ycO ex sz cs):=by
   refine⟨_,arr,t,fk,h5,rfl,?_,h7,fun hx=>?_,F5 (fun _ h=>h) aK cs b o h9 rfl h8,fun _=>h9,fun _=>h4,by simp⟩
   .show cs.length<=c*sz
    rw[h6];exact yR _ h1
   .grind
  have⟨S',k1,k2,k3⟩:=ats (p:=⟨b,o,c*sz,sz⟩) hh bN (by lia) aDq (by show _<=b;lia) h4 (fun j q hq e=>sR j q hq (by rw[e];simp)) (fun o' oD=>by
   have⟨o'',g1,g2⟩:=hl ct (.cells ycO ycO ex sz cs) (by rw[jK];simp)
   rw[oD] at g1;injection g1 with g1
   subst g1
   exact aeD (p:=⟨b,o,c*sz,sz⟩) g2 fk sO (by simp[lL]))
  refine⟨_,S',k1,nU bN,fun id p aq=>?_,?_,k2,fun b' dd=>(k3 b' dd).imp (fun h=>h) (fun h=>by rw[h];simp)⟩
  .by_cases hc:id=ct
   .subst hc;rw[fk] at aq;injection aq with aq
    subst aq;exact .inr ⟨ym _,by simp[gS],by simp⟩
   .rw [fj hc] at aq;exact .inl aq
  .simp only [gS,ak];exact⟨_,c,fk,by simp,h1,by simp⟩
 | _=>
  exact⟨m,S,hh,dY.refl,fun _ _ h=>.inl h,Aw (fun _ h=>h) aK _ _ hr.2.2 hr.2.1,fun _ h=>h,fun _ h=>.inl h⟩
def Nc(hf:∀id o,au hp id=Ix o->id<ct):∀id o,au (gS hp ct r).2.1 id=Ix o->id<(gS hp ct r).2.2:=by
 intro id o h;cases r<;>simp only[gS] at h ⊢<;>try exact hf id o h
 rw[jK] at h
 grind
def Sy:∀{vs:List AV} {hp:Hp} {ct:Nat},(∀id o,au hp id=Ix o->id<ct)->∀id o,au hp id=Ix o->au (mL hp ct vs).2.1 id=Ix o
 | [],hp,ct,_,id,o,h=>by simpa[mL] using h
 | v::r,hp,ct,hf,id,o,h=>by
  exact Sy (Nc hf) id o (YN hf id o h)
def aic{lo:Nat}(bj:O.w0.heap.size<=lo):∀{vs:List AV} {us:List yr} {bs:List Nat} {hp:Hp} {ct:Nat} {m:Mp} {S:Nat->Prop},aW O m S w H cH->dJ (mL hp ct vs).2.1 H->(mL hp ct vs).2.2<=cH->
  (∀id o,au hp id=Ix o->id<ct)->(∀id,ct<=id->id<(mL hp ct vs).2.2->m id=Iy)->
  ot O.ai S w lo vs us bs->bs.Nodup->(∀j q,m j=Ix q->q.b∉bs)->
  ∃m' S',aW O m' S' w H cH/\dY m m'/\(∀id p,m' id=Ix p->m id=Ix p\/(ct<=id/\id<(mL hp ct vs).2.2/\p.b∈bs))/\aE O.ai m' S' w (mL hp ct vs).1 us/\(∀b,S b->S' b)/\(∀b,S' b->S b\/b∈bs)
 | [],us,bs,hp,ct,m,S,hh,hl,jF,hf,hn,hr,nK,sR=>by
  simp only[ot] at hr;exact⟨m,S,hh,dY.refl,fun _ _ h=>.inl h,by simp only[mL,aE];exact hr.1,fun _ h=>h,fun _ h=>.inl h⟩
 | v::r,us,bs,hp,ct,m,S,hh,hl,jF,hf,hn,hr,nK,sR=>by
  simp only[ot] at hr;obtain⟨u,t,b1,b2,rfl,rfl,h1,h2⟩:=hr;simp only[mL] at hl jF hn ⊢;have fh:=Sw (hp:=hp) (ct:=ct) (r:=v);have Cg:=Sx (vs:=r) (hp:=(gS hp ct v).2.1) (ct:=(gS hp ct v).2.2);rw[List.nodup_append] at nK;have⟨m1,S1,k1,k2,k3,k4,k5,k6⟩:=aib (hp:=hp) (ct:=ct) (lo:=lo) hh ((fun id o h=>hl id o (Sy (Nc hf) id o h))) (by lia) (fun id g1 g2=>hn id g1 (by lia)) h1 bj
   (fun j q hq hb=>sR j q hq (by simp[hb]))
  have h2':ot O.ai S1 w lo r t b2:=by
   clear k4;have aaC:∀b,S1 b->S b\/b∈b1:=k6;have hd:∀b,b∈b2->b∉b1:=fun b hb qK=>nK.2.2 b qK b hb rfl
   have one:∀{v:AV} {u:yr} {bb:List Nat},(∀b,b∈bb->b∉b1)->j0 O.ai S w lo v u bb->j0 O.ai S1 w lo v u bb:=by
    intro v u bb Cc h
    cases v with
    | bR ex sz n cs=>
     simp only[j0] at h ⊢;obtain⟨b,o,c,arr,tt,rfl,rfl,g1,g2,g3,g4,g5,g6,g7,g8,g9⟩:=h;exact⟨b,o,c,arr,tt,rfl,rfl,g1,g2,g3,fun hs=>(aaC b hs).elim g4 (Cc b (by simp)),g5,g6,g7,F5 k5 (fun _ _=>rfl) cs b o g9 rfl g8,g9⟩
    | _=>simp only[j0] at h ⊢;exact⟨h.1,Aw k5 (fun _ _=>rfl) _ _ h.2.2 h.2.1,h.2.2⟩
   clear k1 k2 k3 hl jF hn sR nK;revert hd h2;generalize b2=bb
   induction r generalizing t bb with
   | nil=>intro h2 hd;simpa only[ot] using h2
   | cons v' r ih=>
    intro h2 hd;simp only[ot] at h2 ⊢;obtain⟨u',t',c1,c2,rfl,rfl,g1,g2⟩:=h2
    exact⟨u',t',c1,c2,rfl,rfl,one (fun b hb=>hd b (by simp[hb])) g1,ih _ (by
     have:=Sx (vs:=r) (hp:=(gS hp ct v).2.1) (ct:=(gS hp ct v).2.2)
     exact this) _ g2 (fun b hb=>hd b (by simp[hb]))⟩
  have⟨m2,S2,g1,g2,g3,g4,g5,g6⟩:=aic bj (vs:=r) (us:=t) (bs:=b2) (m:=m1) (S:=S1) k1 hl jF (Nc hf) (fun id q1 q2=>by
   cases hq:m1 id with
   | none=>rfl
   | some p=>
    rcases k3 id p hq with h | ⟨_,h,_⟩
    .rw [hn id (by lia) q2] at h;cases h
    .lia) h2' nK.2.1 (fun j q hq hb=>by
     rcases k3 j q hq with h | ⟨_,_,h⟩
     .exact sR j q h (by simp[hb])
     .exact nK.2.2 q.b h q.b hb rfl)
  refine⟨m2,S2,g1,k2.trans g2,fun id p aq=>?_,?_,fun b hb=>g5 b (k5 b hb),fun b hb=>?_⟩
  .rcases g3 id p aq with h | ⟨a1,a2,a3⟩
   .rcases k3 id p h with h | ⟨a1,a2,a3⟩
    .exact .inl h
    .exact .inr ⟨a1,by lia,by simp[a3]⟩
   .exact .inr ⟨by lia,a2,by simp[a3]⟩
  .simp only [aE];exact⟨u,t,rfl,pN g2 g5 (fun _ _=>rfl) _ _ k4,g4⟩
  .rcases g6 b hb with h | h
   .exact (k6 b h).imp (fun h=>h) (fun h=>by simp[h])
   .exact .inr (by simp[h])
def ays{lo:Nat}{u:yr}(hh:aW O m S w H cH)(hl:dJ (own hp ct r).2.1 H)(jF:(own hp ct r).2.2<=cH)(hf:∀id o,au hp id=Ix o->id<ct)(hn:∀id,ct<=id->id<(own hp ct r).2.2->m id=Iy)(hr:zS O.ai S w lo r u)(bj:O.w0.heap.size<=lo)(PO:∀j q,m j=Ix q->q.b<lo):
  ∃m' S',aW O m' S' w H cH/\dY m m'/\(∀id p,m' id=Ix p->m id=Ix p\/(ct<=id/\id<(own hp ct r).2.2/\lo<=p.b))/\ak O.ai m' S' w (own hp ct r).1 u/\(∀b,S b->S' b)/\(∀b,S' b->S b\/lo<=b):=by
 have one:∀(r:AV) (bs:List Nat),own hp ct r=gS hp ct r->j0 O.ai S w lo r u bs->dJ (own hp ct r).2.1 H->(own hp ct r).2.2<=cH->(∀id,ct<=id->id<(own hp ct r).2.2->m id=Iy)->
   ∃m' S',aW O m' S' w H cH/\dY m m'/\(∀id p,m' id=Ix p->m id=Ix p\/(ct<=id/\id<(own hp ct r).2.2/\lo<=p.b))/\ak O.ai m' S' w (own hp ct r).1 u/\(∀b,S b->S' b)/\(∀b,S' b->S b\/lo<=b):=by
  intro r bs he hr hl jF hn;rw[he] at hl jF hn ⊢;have Hf:=YL hr;have⟨m',S',k1,k2,k3,k4,k5,k6⟩:=aib hh hl jF hn hr bj (fun j q hq hb=>by have:=PO j q hq;have:=(Hf _ hb).1;lia)
  exact⟨m',S',k1,k2,fun id p h=>(k3 id p h).imp (fun h=>h) (fun h=>⟨h.1,h.2.1,(Hf _ h.2.2).1⟩),k4,k5,fun b hb=>(k6 b hb).imp (fun h=>h) (fun h=>(Hf _ h).1)⟩
 cases r with
 | ax vs=>
  simp only[own] at hl jF hn ⊢;simp only[zS] at hr;obtain⟨us,bs,rfl,h1,h2⟩:=hr;have Hf:=YM h1;have⟨m',S',k1,k2,k3,k4,k5,k6⟩:=aic bj hh hl jF hf hn h1 h2 (fun j q hq hb=>by have:=PO j q hq;have:=(Hf _ hb).1;lia)
  exact⟨m',S',k1,k2,fun id p h=>(k3 id p h).imp (fun h=>h) (fun h=>⟨h.1,h.2.1,(Hf _ h.2.2).1⟩),by simp only[ak];exact⟨us,rfl,k4⟩,k5,fun b hb=>(k6 b hb).imp (fun h=>h) (fun h=>(Hf _ h).1)⟩
 | _=>
  simp only[zS] at hr;have⟨bs,hr⟩:=hr;exact one _ bs rfl hr hl jF hn
end
end
end
section
open Go
section
variable {tmps:Array yr}{seen:List Nat}
section
variable {O:bC}{m m':Mp}{S:Nat->Prop}{w:yt}{f:Nat->Option Nat}
def JE(f:Nat->Option Nat)(m m':Mp):Prop:=∀id j,f id=Ix j->m' j=m id
mutual
def aid{ai:Nat->Nat}(hf:JE f m m'):∀(v:AV) (u:yr),ak ai m S w v u->ak ai m' S w (cg f v) u
 | .int _ _,_,h | .bool _,_,h | .dP _ _,_,h | .str _,_,h | .oY,_,h | .ae,_,h | .kZ,_,h | .nD,_,h | .undef,_,h=>by
  simpa only[cg,ak] using h
 | .ptr id o,u,h=>by
  simp only[cg]
  cases hi:f id with
  | none=>simp only[ak]
  | some j=>
   simp only[ak] at h ⊢;rw[hf id j hi];exact h
 | .aQ cs,u,h=>by
  simp only[cg];exact Aw (fun _ h=>h) (fun _ _=>rfl) _ _ (by simp[aP]) h
 | .aF ex n cs,u,h=>by
  simp only[cg];exact Aw (fun _ h=>h) (fun _ _=>rfl) _ _ (by simp[aP]) h
 | .bR _ _ _ _,u,h=>by simp only[ak] at h
 | .av id o n,u,h=>by
  simp only[cg]
  cases hi:f id with
  | none=>simp only[ak]
  | some j=>
   simp only[ak] at h ⊢;rw[hf id j hi];exact h
 | .fn (.f g) first cap,u,h=>by
  simp only[cg,ak] at h ⊢;have⟨fi,ca,h1,h2,h3⟩:=h;exact⟨fi,ca,h1,D8 hf first _ h2,D8 hf cap _ h3⟩
 | .fn (.y l) first cap,u,h=>by
  simp only[cg]
  cases hi:f l with
  | none=>simp only[ak]
  | some j=>
   simp only[ak] at h ⊢;rw[hf l j hi];exact h
 | .map id,u,h=>by
  simp only[cg]
  cases hi:f id with
  | none=>simp only[ak]
  | some j=>
   simp only[ak] at h ⊢;rw[hf id j hi];exact h
 | .nE ks vs,u,h=>by
  simp only[cg];exact Aw (fun _ h=>h) (fun _ _=>rfl) _ _ (by simp[aP]) h
 | .it id,u,h=>by
  simp only[cg]
  cases hi:f id with
  | none=>simp only[ak]
  | some j=>
   simp only[ak] at h ⊢;rw[hf id j hi];exact h
 | .agg cs,u,h=>by
  simp only[cg,ak] at h ⊢;have⟨xs,h1,h2⟩:=h;exact⟨xs,h1,D8 hf cs _ h2⟩
 | .ax cs,u,h=>by
  simp only[cg,ak] at h ⊢;have⟨xs,h1,h2⟩:=h;exact⟨xs,h1,D8 hf cs _ h2⟩
def D8{ai:Nat->Nat}(hf:JE f m m'):∀(vs:List AV) (us:List yr),aE ai m S w vs us->aE ai m' S w (fo f vs) us
 | [],us,h=>by simpa only[fo,aE] using h
 | v::r,us,h=>by
  simp only[fo,aE] at h ⊢;have⟨u,t,h1,h2,h3⟩:=h;exact⟨u,t,h1,aid hf v u h2,D8 hf r t h3⟩
end
def arx{ai:Nat->Nat}(hf:JE f m m'){cs:List AV}{b o:Nat}(h:cf ai m S w cs b o):cf ai m' S w (fo f cs) b o:=by
 have⟨us,h1,_,h3⟩:=Cy cs b o h;exact IR _ us o (D8 hf cs us h1) h3
def Yc:∀cs:List AV,(fo f cs).length=cs.length
 | []=>rfl
 | c::r=>by simp[fo,Yc r]
def agS:∀(tm:Env) (i:Nat),ab (je f tm) i=cg f (ab tm i)
 | [],i=>by simp[je,ab,cg]
 | (j,v)::r,i=>by
  simp only[je,ab]
  cases yG j i with
  | true=>rfl
  | false=>exact agS r i
def afV(tm:Env)(i:Nat):∀live:List Nat,ab (cT tm live) i=ab tm i\/ab (cT tm live) i=.undef
 | []=>.inr rfl
 | j::r=>by
  simp only[cT,ab]
  cases hb:yG j i with
  | true=>rw[yz hb];exact .inl rfl
  | false=>exact afV tm i r
def agT{tm:Env}(hf:JE f m m')(h:cp O m S w tm tmps):cp O m' S w (je f tm) tmps:=fun i=>by
 rw[agS];exact aid hf _ _ (h i)
def att{id j:Nat}{o:Obj}{p:Pl}(hf:JE f m m')(hm:m id=Ix p)(hj:m' j=Ix p)(h:gZ O m S w id o):gZ O m' S w j (jY f o):=by
 cases o with
 | cells rw pu ex sz cs=>
  have⟨q,arr,t,h1,h2,h3,h4,h5,h6,h7,h8,h9,jk⟩:=h;rw[hm] at h1;injection h1 with h1;subst h1
  cases pu with
  | true=>exact⟨p,arr,t,hj,h2,h3,h4,h5,h6,F5 (fun _ h=>h) (fun _ _=>rfl) _ _ _ (h8 rfl) rfl h7,h8,h9,jk⟩
  | false=>exact⟨p,arr,t,hj,h2,h3,by rw[y5,Yc];exact h4,h5,by rw[y5,Yc];exact h6,arx hf h7,by simp,h9,jk⟩
 | mp rw ks vs=>
  have⟨q,es,clock,h1,h2,h3,h4,h5,h6⟩:=h;rw[hm] at h1;injection h1 with h1;subst h1
  exact⟨p,es,clock,hj,h2,D8 hf _ _ h3,D8 hf _ _ h4,h5,h6⟩
 | si s pos=>
  have⟨q,t,h1,h2,h3,h4⟩:=h;rw[hm] at h1;injection h1 with h1;subst h1
  exact⟨p,t,hj,h2,h3,h4⟩
 | lp tm ps cX body st pe=>
  have⟨q,l,hi,h1,h2,h3,h4,h5,h6,h7,h8⟩:=h;rw[hm] at h1;injection h1 with h1;subst h1
  exact⟨p,l,hi,hj,h2,h3,h4,h5,h6,agT hf h7,h8⟩
def afW{i:Nat}:∀{l:List Nat} {k j:Nat},fG i l k=Ix j->k<=j/\l[j-k]? =Ix i
 | [],k,j,h=>by simp[fG] at h
 | x::r,k,j,h=>by
  simp only[fG] at h
  cases hb:yG x i with
  | true=>
   simp_all
  | false=>
   rw[hb] at h;have⟨h1,h2⟩:=afW h
   grind
def CJ{a b:Nat}:yU a b=ycO↔a<b:=by simp_all
def Rk{hp:Hp}{j:Nat}{o':Obj}:∀{l:List Nat} {k:Nat} {acc:Hp},au (js hp f l k acc) j=Ix o'->
  (∃i id o,l[i]? =Ix id/\j=k+i/\au hp id=Ix o/\o'=jY f o)\/au acc j=Ix o'
 | [],k,acc,h=>.inr h
 | x::r,k,acc,h=>by
  simp only[js] at h
  cases hx:au hp x with
  | none=>
   simp only[hx] at h;rcases Rk h with ⟨i,id,o,h1,h2,h3,h4⟩ | h
   .exact .inl ⟨i+1,id,o,by simpa using h1,by lia,h3,h4⟩
   .grind
  | some o=>
   simp only[hx] at h;rcases Rk h with ⟨i,id,o,h1,h2,h3,h4⟩ | h
   .exact .inl ⟨i+1,id,o,by simpa using h1,by lia,h3,h4⟩
   .rw [jK] at h;by_cases hc:k=j
    .simp only [hc,xL,yc] at h;exact .inl ⟨0,x,o,by simp,by lia,hx,h.symm⟩
    .grind
def Rl{base:Nat}{j:Nat}{o':Obj}:∀{hp:Hp},au (p9 base f hp) j=Ix o'->j<base/\∃o,au hp j=Ix o/\o'=jY f o
 | [],h=>by simp[p9,au] at h
 | (i,q)::r,h=>by
  simp only[p9] at h
  cases hb:yU i base with
  | true=>
   rw[hb] at h;simp only[yN] at h;rw[jK] at h;by_cases hc:i=j
   .simp only [hc,xL,yc] at h;exact⟨by rw[<-hc];exact CJ.1 hb,q,by rw[jK];simp[hc],h.symm⟩
   .simp only [hc,xr] at h;have⟨h1,o,h2,h3⟩:=Rl h;exact⟨h1,o,by rw[jK];simp[hc,h2],h3⟩
  | false=>
   rw[hb] at h;have⟨h1,o,h2,h3⟩:=Rl h;have hc:¬i=j:=fun e=>by
    have:=CJ.2 h1
    grind
   exact⟨h1,o,by rw[jK];simp[hc,h2],h3⟩
def zT(m:Mp)(base:Nat)(seen:List Nat):Mp:=fun j=>
 if j<base then m j else match seen[j-base]? with
  | some id=>if nZ base seen id=Ix j then m id else Iy
  | none=>Iy
def XJ{j:Nat}{p:Pl}(h:zT m base seen j=Ix p):∃id,nZ base seen id=Ix j/\m id=Ix p/\(j<base->id=j):=by
 unfold zT at h
 split at h
 .rename_i hj;exact⟨j,by simp[nZ,CJ.2 hj],h,fun _=>rfl⟩
 .grind
def atu:JE (nZ base seen) m (zT m base seen):=by
 intro id j h;have h0:=h;unfold nZ at h
 cases hb:yU id base with
 | true=>
  rw[hb] at h;simp only[yN,yc] at h;subst h;simp[zT,CJ.1 hb]
 | false=>
  rw[hb] at h;have⟨h1,h2⟩:=afW h
  have:¬j<base:=by lia
  simp only[zT,this,xr,h2,h0,xL]
def Xq{s:St}{live:List Nat}(ht:cp O m S w s.tm tmps)(hh:aW O m S w s.hp s.ct)(hb:s.base<=s.ct):
  ∃m',cp O m' S w (bW live s).tm tmps/\aW O m' S w (bW live s).hp (bW live s).ct/\(bW live s).base=s.base/\s.base<=(bW live s).ct/\cE m S w s.hp m' S w (bW live s).hp s.base:=by
 simp only[bW];generalize aj9:reach s.hp s.base 100000 (gY (cT s.tm live)++lK s.base s.hp) []=seen;have hr:=atu (m:=m) (base:=s.base) (seen:=seen);have aY:∀j p,zT m s.base seen j=Ix p->j<s.base+seen.length:=by
  intro j p h;unfold zT at h
  grind
 have back:∀j o' p,au (js s.hp (nZ s.base seen) seen s.base (p9 s.base (nZ s.base seen) s.hp)) j=Ix o'->zT m s.base seen j=Ix p->
   ∃id o,nZ s.base seen id=Ix j/\au s.hp id=Ix o/\m id=Ix p/\o'=jY (nZ s.base seen) o:=by
  intro j o' p ho hm;have⟨id,h1,h2,h3⟩:=XJ hm;rcases Rk ho with ⟨i,id',o,g1,g2,g3,g4⟩ | ho
  .have hj:¬j<s.base:=by lia
   have:zT m s.base seen j=if nZ s.base seen id'=Ix j then m id' else Iy:=by
    simp only[zT,hj,xr,show j-s.base=i by lia,g1]
   grind
  .have ⟨g1,o,g2,g3⟩:=Rl ho
   grind
 refine⟨zT m s.base seen,?_,⟨?_,aY,?_,hh.slt,?_,?_,hh.nF,hh.iG,fun j o' ho=>(by
  rcases Rk ho with ⟨i,id',o,g1,g2,g3,g4⟩ | ho
  .grind
  .have:=(Rl ho).1;lia)⟩,by trivial,by lia,⟨rfl,rfl,rfl,ym _,fun _ _ _=>rfl,fun _ h=>h,fun _ _=>rfl,fun _ h=>.inl h,?_,?_,fun _ r h=>⟨r,h⟩⟩⟩
 .refine agT hr (fun i=>?_);rcases afV s.tm i live with h | h
  .rw [h];exact ht i
  .rw [h];simp only[ak]
 .intro j o' p ho hm;obtain⟨id,o,h1,h2,h3,rfl⟩:=back j o' p ho hm;exact att hr h3 hm (hh.obj id o p h2 h3)
 .intro i j oi oj pi pj hi hj bN iU e;have⟨idi,o1,a1,a2,a3,_⟩:=back i oi pi hi bN;have⟨idj,o2,b1,b2,b3,_⟩:=back j oj pj hj iU
  have:=hh.inj idi idj o1 o2 pi pj a2 b2 a3 b3 e
  grind
 .intro j p hm;have⟨id,_,h2,_⟩:=XJ hm;exact hh.blt id p h2
 .intro j p hm;have⟨id,_,h2,_⟩:=XJ hm;exact hh.low id p h2
 .rintro b ⟨j,o',p,h1,h2,h3⟩;have⟨id,o,_,g2,g3,_⟩:=back j o' p h1 h2;exact .inl ⟨id,o,p,g2,g3,h3⟩
 .intro id p hid hm;simp[zT,hid,hm]
end
end
end
section
open Go
section
variable {v:AV}{aq:Hp}{lo:Nat}{u:yr}
section
variable {O:bC}{m:Mp}{S:Nat->Prop}{w:yt}{hp:Hp}{ct:Nat}
def agU(hh:aW O m S w hp ct)(id:Nat):aW O m S w (eJ hp id) ct:=by
 have sub:∀i o,au (eJ hp id) i=Ix o->au hp i=Ix o:=fun i o h=>by
  rw[MP] at h
  grind
 exact⟨fun i o p h hm=>hh.obj i o p (sub i o h) hm,hh.lt,fun i j oi oj pi pj hi hj=>hh.inj i j oi oj pi pj (sub i oi hi) (sub j oj hj),hh.slt,hh.blt,hh.low,hh.nF,hh.iG,fun i o h=>hh.aY i o (sub i o h)⟩
def aie{id b:Nat}(h:fe m (eJ hp id) b):fe m hp b:=by
 have⟨i,o,p,h1,h2,h3⟩:=h;rw[MP] at h1;by_cases hc:id=i
 .grind
 .simp only [hc,xr] at h1;exact⟨i,o,p,h1,h2,h3⟩
def aeF(hh:aW O m S w hp ct){id:Nat}{o:Obj}{p:Pl}(hg:au hp id=Ix o)(hm:m id=Ix p):¬fe m (eJ hp id) p.b:=by
 rintro⟨i,o',q,h1,h2,h3⟩;rw[MP] at h1;by_cases hc:id=i
 .grind
 .simp only [hc,xr] at h1;exact hc (hh.inj i id o' o q p h1 hg h2 hm h3).symm
def avU(hd:nd hp aq){b:Nat}(h:fe m aq b):fe m hp b:=by
 have⟨i,o,p,h1,h2,h3⟩:=h
 have:=hd i
 rw[h1] at this
 cases hq:au hp i with
 | none=>rw[hq] at this;cases this
 | some q=>exact⟨i,q,p,hq,h2,h3⟩
def ae4{v':AV}{n:Nat}(hh:aW O m S w hp ct)(hf:freeze n hp v=Ix (v',aq))(hv:ak O.ai m S w v u):
  ∃S',aW O m S' w aq ct/\(∀b,S b->S' b)/\(∀b,S' b->S b\/fe m hp b)/\aP v'=ycO/\ak O.ai gC S' w v' u/\j0 O.ai S' w lo v' u []:=by
 have⟨h1,h2,h3⟩:=XF (O:=O) hf;have⟨S',g1,g2,g3⟩:=ah5 hh h1 (fun id o p ho hm=>by
  have:=h2 id
  rw[ho] at this
  cases hq:au hp id with
  | none=>rw[hq] at this;cases this
  | some q=>exact⟨q,rfl⟩) (ym _) (fun id o ho=>(by
  have:=h2 id
  rw[ho] at this
  cases hq:au hp id with
  | none=>rw[hq] at this;cases this
  | some q=>exact hh.aY id q hq))
 have⟨k1,k2⟩:=h3 aq m S' w ct dJ.refl g1;have hr:=k1 u (pN (fun _ _ h=>h) g2 (fun _ _=>rfl) v u hv);have bt:ak O.ai gC S' w v' u:=Aw (fun _ h=>h) (fun _ _=>rfl) v' u k2 hr;refine⟨S',g1,g2,g3,k2,bt,?_⟩
 cases v' with
 | bR _ _ _ _=>simp[aP] at k2
 | _=>exact⟨rfl,bt,k2⟩
def ary(hS:∀b,S b->S' b)(hn:∀b,b∈bs->¬S' b)(h:j0 O.ai S w lo v u bs):j0 O.ai S' w lo v u bs:=by
 cases v with
 | bR ex sz n cs=>
  obtain⟨b,o,c,arr,t,rfl,rfl,g1,g2,g3,g4,g5,g6,g7,g8,g9⟩:=h;exact⟨b,o,c,arr,t,rfl,rfl,g1,g2,g3,hn b (by simp),g5,g6,g7,F5 hS (fun _ _=>rfl) cs b o g9 rfl g8,g9⟩
 | _=>simp only[j0] at h ⊢;exact⟨h.1,Aw hS (fun _ _=>rfl) _ _ h.2.2 h.2.1,h.2.2⟩
def afX{v':AV}{n:Nat}(hh:aW O m S w hp ct)(hf:AE n hp v=Ix (v',aq))(hv:ak O.ai m S w v u)(bj:∀b,fe m hp b->lo<=b):
  ∃S' bs,aW O m S' w aq ct/\(∀b,S b->S' b)/\(∀b,S' b->S b\/fe m hp b)/\j0 O.ai S' w lo v' u bs/\bs.Nodup/\(∀b,b∈bs->fe m hp b/\¬fe m aq b)/\(∀b,fe m aq b->fe m hp b):=by
 have frozen:freeze n hp v=Ix (v',aq)->∃S' bs,aW O m S' w aq ct/\(∀b,S b->S' b)/\(∀b,S' b->S b\/fe m hp b)/\j0 O.ai S' w lo v' u bs/\bs.Nodup/\(∀b,b∈bs->fe m hp b/\¬fe m aq b)/\(∀b,fe m aq b->fe m hp b):=by
  intro hz;have⟨S',g1,g2,g3,g4,g5,g6⟩:=ae4 (lo:=lo) hh hz hv
  exact⟨S',[],g1,g2,g3,g6,by simp,by simp,fun b hb=>avU (XF (O:=O) hz).2.1 hb⟩
 unfold AE at hf
 split at hf
 .rename_i id o k
  split at hf
  .rename_i ex sz cs hg
   cases hc:yO (o+k*sz) cs.length with
   | false=>rw[hc] at hf;cases hf
   | true=>
    rw[hc] at hf;obtain⟨rfl,rfl⟩:=hf;have hle:=yF hc;obtain⟨p,c,hm,rfl,h1,h2⟩:=hv;have⟨p',arr,t,g1,g2,g3,g4,g5,g6,g7,g8,g9,g10⟩:=hh.obj id _ _ hg hm;rw[hm] at g1;injection g1 with g1
    subst g1;rw[g3] at h2;refine⟨S,[p.b],agU hh id,fun _ h=>h,fun _ h=>.inl h,?_,by simp,?_,fun b hb=>aie hb⟩
    .refine ⟨p.b,p.o+o,c,arr,t,rfl,rfl,h1,?_,bj _ (Nv hg hm),g9 rfl,g2,?_,by lia,?_,F3 _ (D3 _ _ (g8 rfl))⟩
     .intro hx;simp only[yj] at hx;have e1:=yz hx.2;have e2:=CJ.1 hx.1.2;have e3:=g6 hx.1.1
      have:c*sz=k*sz:=by lia
      exact yav e2 this
     .simp only [slice,yJ,xZ];lia
     .exact F5 (fun _ h=>h) (fun _ _=>rfl) _ _ _ (F3 _ (D3 _ _ (g8 rfl))) rfl (F6 _ _ _ _ (Bo _ _ _ _ g7))
    .intro b hb;simp only[List.mem_singleton] at hb;subst hb;exact⟨Nv hg hm,aeF hh hg hm⟩
  .grind
 .grind
def ae5{lo n:Nat}:∀{vs eM:List AV} {us:List yr} {hp aq:Hp} {S:Nat->Prop},aW O m S w hp ct->CG n hp vs=Ix (eM,aq)->aE O.ai m S w vs us->(∀b,fe m hp b->lo<=b)->
  ∃S' bs,(∀b,S b->S' b)/\(∀b,S' b->S b\/fe m hp b)/\ot O.ai S' w lo eM us bs/\bs.Nodup/\(∀b,b∈bs->fe m hp b)/\(∀b,S' b->b<w.heap.size)
 | [],eM,us,hp,aq,S,hh,hf,hv,bj=>by
  obtain⟨rfl,rfl⟩:=hf;exact⟨S,[],fun _ h=>h,fun _ h=>.inl h,by simp only[ot];exact⟨hv,by trivial⟩,by simp,by simp,hh.slt⟩
 | v::r,eM,us,hp,aq,S,hh,hf,hv,bj=>by
  simp only[CG] at hf
  cases h1:AE n hp v with
  | none=>simp[h1] at hf
  | some q=>
   have⟨v1,bm⟩:=q;simp only[h1] at hf
   cases h2:CG n bm r with
   | none=>simp[h2] at hf
   | some q2=>
    simp only[h2,yc,yD] at hf;obtain⟨rfl,rfl⟩:=hf;obtain⟨u,t,rfl,fS,dC⟩:=hv;have⟨S1,b1,k1,k2,k3,k4,k5,k6,k7⟩:=afX (lo:=lo) hh h1 fS bj;have⟨S2,b2,g1,g2,g3,g4,g5,g6⟩:=ae5 (us:=t) k1 h2 (jJ (fun _ _ h=>h) k2 (fun _ _=>rfl) _ _ dC) (fun b hb=>bj b (k7 b hb));have aaC:∀b,b∈b1->¬S2 b:=by
     intro b hb hs;rcases g2 b hs with h | h
     .cases v1 with
      | bR ex sz n cs=>
       simp only[j0] at k4
       grind
      | _=>simp only[j0] at k4;rw[k4.1] at hb;cases hb
     .grind
    refine⟨S2,b1++b2,fun b hb=>g1 b (k2 b hb),fun b hb=>?_,?_,?_,?_,g6⟩
    .grind
    .simp only [ot];exact⟨u,t,b1,b2,rfl,rfl,ary g1 aaC k4,g3⟩
    .grind
    .grind
def XK{lo:Nat}:∀{cs:List AV} {us:List yr},aD cs=ycO->aE O.ai gC S w cs us->ot O.ai S w lo cs us []
 | [],us,_,h=>by simp only[aE] at h;exact⟨h,by trivial⟩
 | c::r,us,hp,h=>by
  obtain⟨u,t,rfl,h1,h2⟩:=h;simp only[aD,yj] at hp;refine⟨u,t,[],[],rfl,rfl,?_,XK hp.2 h2⟩
  cases c with
  | bR _ _ _ _=>simp[aP] at hp
  | _=>exact⟨rfl,h1,hp.1⟩
def arz{r:AV}(hh:aW O m S w hp ct)(hr:result hp v=Ix r)(hv:ak O.ai m S w v u)(bj:∀b,fe m hp b->lo<=b):
  ∃S',(∀b,S b->S' b)/\(∀b,S' b->S b\/fe m hp b)/\(∀b,S' b->b<w.heap.size)/\zS O.ai S' w lo r u:=by
 unfold result at hr
 split at hr
 .rename_i vs
  split at hr
  .cases h1:CG deep hp vs with
   | none=>simp[h1] at hr
   | some q=>
    simp only[h1,yc] at hr;subst hr;obtain⟨us,rfl,hv⟩:=hv;have⟨S',bs,g1,g2,g3,g4,g5,g6⟩:=ae5 (lo:=lo) hh h1 hv bj;exact⟨S',g1,g2,g6,us,bs,rfl,g3,g4⟩
  .cases h1:freeze deep hp (.ax vs) with
   | none=>simp[h1] at hr
   | some q=>
    have⟨v',aq⟩:=q;simp only[h1,yc] at hr;subst hr;have⟨S',g1,g2,g3,g4,g5,g6⟩:=ae4 (lo:=lo) hh h1 hv;refine⟨S',g2,g3,g1.slt,?_⟩
    cases v' with
    | ax cs=>
     obtain⟨xs,rfl,g5⟩:=g5;exact⟨xs,[],rfl,XK (by simpa[aP] using g4) g5,by simp⟩
    | _=>exact⟨[],g6⟩
 .rename_i VN
  cases h1:AE deep hp v with
  | none=>simp[h1] at hr
  | some q=>
   have⟨v',aq⟩:=q;simp only[h1,yc] at hr;subst hr;have⟨S',bs,g1,g2,g3,g4,_⟩:=afX (lo:=lo) hh h1 hv bj;refine⟨S',g2,g3,g1.slt,?_⟩
   cases v' with
   | ax cs=>
    obtain⟨rfl,h2,h3⟩:=g4;obtain⟨xs,rfl,h2⟩:=h2;exact⟨xs,[],rfl,XK (by simpa[aP] using h3) h2,by simp⟩
   | _=>exact⟨bs,g4⟩
end
end
end
section
open Go
def WF(ro:Option Nat):Fence:={Fence.wide with round:=ro}
section
variable {O:bC}
def ajm(O:bC)(hp:Hp)(ct:Nat)(l:Nat)(xs:List AV)(v:AV)(aq:Hp)(bc:Nat):Prop:=
 ∀(m:Mp) (S:Nat->Prop) (w:yt) (args:Array yr) (p:Pl),aW O m S w hp ct->m l=Ix p->aE O.ai m S w xs args.toList->
  ∃f tmps assign body,(Instr.yield p.b args).run O.P w=.ok (.round p.b f tmps assign body) w/\yby Fence.wide 0 O.P p.b f tmps assign body w (CB O m S w hp ct v aq bc)
structure sf(O:bC)(run:cG):Prop where
 pure:∀n az r,bM O.prog O.a8 run n az=Ix r->fF O n az r
 heap:∀hp ct n az v aq bc,kN O.prog O.a8 run hp ct n az=Ix (v,aq,bc)->ED O n hp ct az v aq bc
 round:∀hp ct l xs v aq bc,se run hp ct l xs=Ix (v,aq,bc)->ajm O hp ct l xs v aq bc
end
section
variable {P:xM}{o:xk}{a:Act}{w:yt}{ro:Option Nat}{next:Act->yt->Prop}{Q:Exit->Act->yt->Prop}
def Ro{c:yaG}{f:xN}(ho:o.op=.call c)(hc:c.callee=.value f){g:tL}{fi ca:Array yr}(hf:a.eval f=.func (.func g) fi ca){R:yag->yt->Prop}(h:Ef P g (fi++c.args.map a.eval++ca) w R)(hn:∀e w',R e w'->∃u,e=.returned u/\next (a.put o.dst u) w'):o.wpIn (WF ro) 0 P a w next Q:=by
 have jf:(o.semAt ro a.eval).run P w=(callFunc g (fi++c.args.map a.eval++ca)).run P w:=by
  rw[Oper.semAt_eq _ _ _ (fun c' h'=>by rw[ho] at h';cases h')];simp only[execOp,ho,resolve,hc,Deferred.ofValue,hf,Sem.run_bind,Sem.run_pure,Result.andThen_ok,invoke]
 refine⟨fun _ _=>trivial,?_⟩;show o.uponIn (WF ro) 0 P a next Q ((o.semAt ro a.eval).run P w)
 rw[jf];rcases h with ⟨h1,h2⟩ | ⟨u,w',h1,h2⟩
 .rw [h1,Oper.uponIn_enter];refine⟨fun h=>by simp[WF,Fence.wide] at h,?_⟩;have h3:CallsIn (WF ro) 0 P g (fi++c.args.map a.eval++ca) w R:=h2;refine CallsIn.mono h3 (fun e w' he=>?_);obtain⟨u,rfl,hq⟩:=hn e w' he;exact hq
 .rw [h1];have⟨u',e,hq⟩:=hn _ _ h2;injection e with e
  subst e;exact hq
def atv{c:yaG}{f:xN}(ho:o.op=.call c)(hc:c.callee=.value f){l:Nat}(hf:a.eval f=.func (.yield l) #[] #[]){R:yag->yt->Prop}{g:tL}{tmps:Array yr}{assign body:vG}(hy:(Instr.yield l (c.args.map a.eval)).run P w=.ok (.round l g tmps assign body) w)(h:yby Fence.wide 0 P l g tmps assign body w R)(hn:∀e w',R e w'->∃u,e=.returned u/\next (a.put o.dst u) w'):o.wpIn (WF ro) 0 P a w next Q:=by
 have jf:(o.semAt ro a.eval).run P w=.ok (.round l g tmps assign body) w:=by
  rw[Oper.semAt_eq _ _ _ (fun c' h'=>by rw[ho] at h';cases h')];simp only[execOp,ho,resolve,hc,Deferred.ofValue,hf,Sem.run_bind,Sem.run_pure,Result.andThen_ok,invoke,Array.empty_append];exact hy
 refine⟨fun _ _=>trivial,?_⟩;show o.uponIn (WF ro) 0 P a next Q ((o.semAt ro a.eval).run P w)
 rw[jf,Oper.uponIn_round];refine⟨fun h=>by simp[WF,Fence.wide] at h,?_⟩;have h3:yby (WF ro) 0 P l g tmps assign body w R:=h;refine RoundIn.mono h3 (fun e w' he=>?_);obtain⟨u,rfl,hq⟩:=hn e w' he;exact hq
def SX{n:yau}{u:yr}{w':yt}(hd:∀c,o.op≠.defer c)(h:(execOp a.eval o).run P w=.ok n w')(hn:n=.value u\/(n=.skip/\u=undef))(hq:next (a.put o.dst u) w'):o.wpIn (WF ro) 0 P a w next Q:=by
 refine⟨fun _ _=>trivial,?_⟩;show o.uponIn (WF ro) 0 P a next Q ((o.semAt ro a.eval).run P w)
 rw[Oper.semAt_eq _ _ _ hd,h];rcases hn with rfl | ⟨rfl,rfl⟩
 .exact hq
 .exact hq
end
def Db(P:xM)(H:Hint)(q:Op)(o:xk):Prop:=
 (∃k,q=bn P H k o)\/(∃c f rs,o.op=.call c/\c.callee=.value f/\q=.lY rs (aS H f) (jy H c.args.toList))\/
  ∃t x y sz rs,o.op=.store t x y/\cY P t=Ix sz/\q=.oA rs sz (aS H x) (aS H y)
def ru:Op->Op
 | .lY _ f xs=>.lY [] f xs
 | .oA _ s x v=>.st s x v
 | o=>o
section
variable {O:bC}{H:Hint}{m:Mp}{S:Nat->Prop}{w:yt}{tm:Env}{a:Act}{hp:Hp}{ct:Nat}{self:cG}{ro:Option Nat}{next:Act->yt->Prop}{Q:Exit->Act->yt->Prop}
def Sz{o:xk}{k:Nat}{md:Md}{x:X}{xs:List X}(h:bn O.P H k o=.call md x xs)(hb:x≠.c .undef):∃c f,o.op=.call c/\c.callee=.value f/\x=aS H f/\xs=jy H c.args.toList:=by
 have nb:bad=.call md x xs->False:=fun h=>by simp only[bad,Op.call.injEq] at h;exact hb h.2.1.symm
 cases ho:o.op with
 | call c=>
  have⟨callee,args,ts⟩:=c;simp only[bn,ho] at h
  split at h
  .rename_i f;cases hm:H.mode k<;>simp only[hm,Op.call.injEq,reduceCtorEq] at h
   all_goals exact⟨_,f,rfl,rfl,h.2.1.symm,h.2.2.symm⟩
  .repeat' split at h
   all_goals first
    | exact (nb h).elim
    | (cases h;done)
    | (revert h;generalize yG _ _=bb;intro h;cases bb<;>first | exact (nb h).elim | (cases h;done))
  .exact (nb h).elim
 | binOp op t x' y ty=>
  cases op<;>simp only[bn,ho,BB,CH] at h
  case eql=>
        repeat' split at h
        all_goals first
         | exact (nb h).elim
         | (cases h;done)
         | (cases dd:(O.P.stoodInHeld t||O.P.eqGuardType O.P.depth t)<;>rw[dd] at h<;>first | exact (nb h).elim | (cases h;done))
  case neq=>
        repeat' split at h
        all_goals first
         | exact (nb h).elim
         | (cases h;done)
         | (cases dd:(O.P.stoodInHeld t||O.P.eqGuardType O.P.depth t)<;>rw[dd] at h<;>first | exact (nb h).elim | (cases h;done))
  all_goals cases h
 | buildSlice t n parts=>
  simp only[bn,ho] at h
  repeat' split at h
  all_goals first
   | exact (nb h).elim
   | (cases h;done)
   | (revert h;generalize yO _ _=bb;intro h;cases bb<;>first | exact (nb h).elim | (simp only[yN] at h;cases h;done))
 | makeMap t r=>
  cases r<;>simp only[bn,ho] at h
  .repeat' split at h
   all_goals first
    | exact (nb h).elim
    | (cases h;done)
  .exact (nb h).elim
 | next x' b=>
  cases b<;>simp only[bn,ho] at h
  .exact (nb h).elim
  .cases h
 | _=>
  simp only[bn,ho] at h
  (repeat' split at h)
  all_goals first
   | contradiction
   | exact (nb h).elim
   | (cases h;done)
def aqz{o:xk}{k:Nat}{r:AV×Hp×Nat}(hv:bq O.prog O.a8 self tm hp ct (bn O.P H k o)=Ix r):∀c,o.op≠.defer c:=by
 intro c ho;simp[bn,ho,bad,bq,fP,aC] at hv
end
end
section
open Go
section
variable {O:bC}{H:Hint}{m:Mp}{S:Nat->Prop}{w:yt}{tm:Env}{a:Act}{hp:Hp}{ct cq:Nat}
def zJ{a b:Nat}(h:yU a b=ycO):a<b:=yF h
end
end
end VE
