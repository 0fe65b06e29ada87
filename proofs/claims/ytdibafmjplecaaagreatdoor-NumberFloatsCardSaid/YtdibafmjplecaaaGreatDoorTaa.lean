import GoSem.Core.Code
import GoSem.Core.Float
import GoSem.Core.Utf8
import Derived.CallsIn
import Derived.Laws.World
import GoSem.Op.Equal
import GoSem.Core.Region
import Derived.Below
import Derived.Laws.AppendOwn
import Derived.Laws.Rows
import Derived.WalkKit
import Derived.Laws.CopyRow
import Derived.Laws.Cells
import Derived.Laws.Strings
import Derived.Lib.Strings
import Derived.WideLaws
import Derived.Maps.Keyed
import Derived.ChangeKeysEq
import Derived.Laws.Tables
import Derived.IntWalk
import Derived.Laws.CopyOwn
set_option linter.all false
set_option maxRecDepth 100000
open Array renaming getElem?_eq_some_iff→xo,length_toList→vl,range→uZ
open BitVec renaming ofInt→xC
open Bool renaming and_assoc→tR,and_eq_true→yf,eq_iff_iff→uK,false_eq_true→yC,not_eq_true'→uL
open Go renaming Addr→vY,BinOp→wM,Code→wF,Ending→yar,Field→td,FloatKind→vS,FuncId→tq,IntKind→xc,Loop→uj,MapEntry→vT,Next→yaf,Obj→tK,Oper→y7,Operand→xq,Program→y8,TypeDesc→wQ,TypeId→yx,TypeInfo→ycx,UnOp→ycf,Value→yg,World→yi,binOp→xL,sizeOf→wW
open Go.Utf8 renaming runeError→ub,valid→yaQ
open List renaming append_assoc→xx,cons_append→xh,drop_drop→vN,eq_nil_of_length_eq_zero→yD,ext_getElem?→yaJ,extract_eq_take_drop→tT,flatten_append→yav,flatten_cons→uk,getElem?_append_left→wb,getElem?_append_right→xP,getElem?_drop→yaD,getElem?_eq_getElem→wx,getElem?_map→yaI,getElem?_take_of_lt→ux,getElem?_toArray→yak,length_append→y5,length_cons→yO,length_drop→xK,length_take→yW,map_cons→xi,map_eq_nil_iff→yau,mem_append→wy,range→wZ,replicate→yL,replicate_succ→vB,size_toArray→uM,take_of_length_le→yQ,take_succ_cons→xW,take_zero→ybi
open List.cons renaming injEq→tu
open Nat renaming add_assoc→uf,add_mul→xS,add_zero→yV,beq→yq,beq_eq→ycu,beq_refl→wu,ble→yy,ble_eq→ycv,blt→yK,eq_of_beq_eq_true→yj,eq_zero_or_pos→xe,le_of_ble_eq_true→yp,le_refl→yB,le_trans→xb,lt_of_lt_of_le→yE,min_le_left→ybk,mul_comm→xg,mul_le_mul_right→yU,one_mul→ybC,testBit→uY,zero_add→yh
open Option renaming isSome_none→tk,map_none→vM,map_some→wz
open Option.some renaming injEq→yb
open Prod.mk renaming injEq→yk
open UInt8 renaming toNat→xf,toNat_inj→yaR
def wN:=@and_true
def yaC:=@beq_iff_eq
def yaj:=@beq_self_eq_true
def yY:=@cond_false
def yz:=@cond_true
def yM:=@decide_eq_false
def xa:=@decide_eq_true
def tY:=@decide_eq_true_eq
def yr:=@decide_false
def yo:=@decide_true
def ybT:=@false_or
def xj:=@if_false
def yv:=@if_neg
def yG:=@if_pos
def xO:=@if_true
def ycw:=@not_true_eq_false
def tE:=@true_and
namespace VE
section
open Go (IntKind FloatKind BinOp UnOp)
inductive Fr where
 | f (n:Nat)
 | y (l:Nat)
 deriving DecidableEq,Inhabited
inductive AV where
 | int (k:xc) (n:Int)
 | bool (b:Bool)
 | aw (k:vS) (bits:Nat)
 | str (s:List Nat)
 | km
 | ptr (id off:Nat)
 | b7 (cells:List AV)
 | ae
 | aC (ex:Bool) (n:Nat) (cells:List AV)
 | bE (ex:Bool) (sz n:Nat) (cells:List AV)
 | aE (id off n:Nat)
 | fn (f:Fr) (first cap:List AV)
 | ic
 | ju
 | map (id:Nat)
 | iL (ks vs:List AV)
 | it (id:Nat)
 | agg (cells:List AV)
 | aa (vs:List AV)
 | undef
 deriving Inhabited
inductive X where
 | t (i:Nat)
 | c (v:AV)
 deriving Inhabited
inductive Conv where
 | toInt (k:xc)
 | toFlt (k:vS)
 | str
 deriving Inhabited
inductive Md where
 | pure | own | heap | dyn
 deriving Inhabited
inductive Cut where
 | str
 | sl (sz:Nat)
 | ar (len sz:Nat)
 deriving Inhabited
inductive Nt where
 | b | sl | fn | ag (ks:List Nat)
 deriving Inhabited
inductive Op where
 | pG (x:X)
 | pick (c a b:X)
 | box (sz:Nat) (x:X)
 | Bt (zero:List AV) (parts:List (Nat×Nat×X))
 | lf (n sz:Nat) (zero:List AV) (parts:List (Nat×Nat×X))
 | ld (sz:Nat) (ag:Bool) (x:X)
 | st (sz:Nat) (x v:X)
 | Hs (x:X)
 | bin (op:wM) (x y:X)
 | eq (ne:Bool) (k:Nt) (x y:X)
 | un (op:ycf) (x:X)
 | cv (k:Conv) (x:X)
 | Ea (f:Fr) (first cap:List X)
 | sH
 | mX (sz bytes:Nat) (zero:List AV) (len cap:X)
 | og (k:Cut) (x:X) (lo hi:Option X)
 | off (k:Nat) (x:X)
 | IB (o sz:Nat) (ag:Bool) (x:X)
 | cd (sz:Nat) (x i:X)
 | Eb (len sz:Nat) (x i:X)
 | Ec (x i:X)
 | Ed (len sz:Nat) (ag:Bool) (x i:X)
 | Nv (kk:Nat) (zero:AV) (ok:Bool) (m k:X)
 | oh (kk:Nat) (m k v:X)
 | ol (x:X)
 | ot (x:X)
 | ext (i:Nat) (x:X)
 | call (m:Md) (f:X) (xs:List X)
 | gZ (rs:List (Nat×Bool×Nat)) (f:X) (xs:List X)
 | jw (rs:List (Nat×Bool×Nat)) (sz:Nat) (x v:X)
 | jO (rs:List (Nat×Bool×Nat)) (sz bytes:Nat) (s x:X)
 | aT (sz bytes:Nat) (s x:X)
 | ow (sz bytes:Nat) (s x:X)
 | ox (sz:Nat) (d s:X)
 | len (k:Nat) (x:X)
 | mn (xs:List X)
 | mx (xs:List X)
 deriving Inhabited
structure aZ where
 dst:Option Nat
 guard:Option (Nat×Bool)
 op:Op
 deriving Inhabited
inductive VC where
 | skip
 | mY (ops:List aZ)
 | seq (a b:VC)
 | cond (x:X) (a b:VC)
 | dj (id:Nat) (a:VC)
 | kp (live:List Nat)
 | fz (ts:List Nat)
 | loop (live:List Nat) (a:VC)
 | rf (f:X) (ps:List Nat) (assign body:VC)
 | exit (id:Nat)
 | ret
 deriving Inhabited
inductive RV where
 | t (i:Nat)
 | cell (i sz:Nat) (ag:Bool)
 deriving Inhabited
structure aD where
 cZ:List RV
 body:VC
 deriving Inhabited
inductive r7 where
 | none | ret | exit (id:Nat)
 deriving Inhabited,DecidableEq
abbrev Env:=List (Nat×AV)
inductive Obj where
 | cells (rw pu ex:Bool) (sz:Nat) (cs:List AV)
 | mp (rw:Bool) (ks vs:List AV)
 | si (s:List Nat) (pos:Nat)
 | lp (tm:Env) (ps:List Nat) (assign body:VC) (state:Nat) (pending:r7)
 deriving Inhabited
abbrev Hp:=List (Nat×Obj)
structure St where
 tm:Env
 hp:Hp
 ct:Nat
 base:Nat
 deriving Inhabited
inductive Ex where
 | normal
 | ret
 | exit (id:Nat)
 deriving Inhabited,DecidableEq
def aj:Env->Nat->AV
 | [],_=> .undef
 | (j,v)::r,i=>bif yq j i then v else aj r i
def aA:Hp->Nat->Option Obj
 | [],_=>none
 | (j,o)::r,i=>bif yq j i then some o else aA r i
def bf:Hp->Nat->Obj->Hp
 | [],_,_=>[]
 | (j,o)::r,i,u=>bif yq j i then (j,u)::r else (j,o)::bf r i u
def dX:Hp->Nat->Hp
 | [],_=>[]
 | (j,o)::r,i=>bif yq j i then dX r i else (j,o)::dX r i
mutual
def bh:AV->Bool
 | .ptr _ _ | .aE _ _ _ | .map _ | .it _ | .bE _ _ _ _=>false
 | .fn (.y _) _ _=>false
 | .fn (.f _) first cap=>aI first&&aI cap
 | .agg cs=>aI cs
 | .aa vs=>aI vs
 | _=>true
def aI:List AV->Bool
 | []=>true
 | v::r=>bh v&&aI r
end
def cellsOf:AV->List AV
 | .agg cs=>cs
 | v=>[v]
def dV:AV->Bool
 | .agg _ | .aa _ | .undef | .bE _ _ _ _=>false
 | _=>true
def cF:List AV->Bool
 | []=>true
 | v::r=>dV v&&cF r
def ay (tm:Env):X->AV
 | .t i=>aj tm i
 | .c v=>v
def cW (tm:Env):List X->List AV
 | []=>[]
 | x::r=>ay tm x::cW tm r
def slice (o n:Nat) (cs:List AV):List AV:=(cs.drop o).take n
def over (o:Nat) (new cs:List AV):List AV:=cs.take o++new++cs.drop (o+new.length)
mutual
def freeze:Nat->Hp->AV->Option (AV×Hp)
 | 0,_,_=>none
 | n+1,hp,v=>
  match v with
  | .aE id o k=>
   match pV n hp id with
   | some (ex,sz,cs,ap)=>
    bif yy (o+k*sz) cs.length then
     some (.aC (ex&&yK 0 sz&&yq (o+k*sz) cs.length) k (slice o (k*sz) cs),ap)
    else none
   | none=>none
  | .ptr id o=>
   match pV n hp id with
   | some (_,_,cs,ap)=>some (.b7 (cs.drop o),ap)
   | none=>none
  | .map id=>
   match aA hp id with
   | some (.mp _ ks vs)=>bif aI ks&&aI vs then some (.iL ks vs,bf hp id (.mp false ks vs)) else none
   | _=>none
  | .fn (.f g) first cap=>
   match cA n hp first with
   | some (aeI,bj)=>
    match cA n bj cap with
    | some (Lq,iO)=>some (.fn (.f g) aeI Lq,iO)
    | none=>none
   | none=>none
  | .agg cs=>match cA n hp cs with | some (dH,ap)=>some (.agg dH,ap) | none=>none
  | .aa cs=>match cA n hp cs with | some (dH,ap)=>some (.aa dH,ap) | none=>none
  | v=>bif bh v then some (v,hp) else none
def pV:Nat->Hp->Nat->Option (Bool×Nat×List AV×Hp)
 | 0,_,_=>none
 | n+1,hp,id=>
  match aA hp id with
  | some (.cells rw pu ex sz cs)=>
   bif pu then some (ex,sz,cs,bif rw then bf hp id (.cells false true ex sz cs) else hp)
   else match cA n hp cs with
    | some (dH,ap)=>some (ex,sz,dH,bf ap id (.cells false false ex sz cs))
    | none=>none
  | _=>none
def cA:Nat->Hp->List AV->Option (List AV×Hp)
 | 0,_,_=>none
 | _+1,hp,[]=>some ([],hp)
 | n+1,hp,v::r=>
  match freeze n hp v with
  | some (v',bj)=>
   match cA n bj r with
   | some (r',iO)=>some (v'::r',iO)
   | none=>none
  | none=>none
end
def Bb (n:Nat) (hp:Hp) (v:AV):Option (AV×Hp):=
 match v with
 | .aE id o k=>
  match aA hp id with
  | some (.cells true true ex sz cs)=>
   bif yy (o+k*sz) cs.length then
    some (.bE (ex&&yK 0 sz&&yq (o+k*sz) cs.length) sz k (slice o (k*sz) cs),dX hp id)
   else none
  | _=>freeze n hp v
 | _=>freeze n hp v
def P0:List AV->Option (List Nat)
 | []=>some []
 | .aE id _ _::r=>match P0 r with | some l=>bif l.any (yq id) then none else some (id::l) | none=>none
 | v::r=>bif bh v then P0 r else none
def CS (n:Nat):Hp->List AV->Option (List AV×Hp)
 | hp,[]=>some ([],hp)
 | hp,v::r=>
  match Bb n hp v with
  | some (v',bj)=>match CS n bj r with | some (r',iO)=>some (v'::r',iO) | none=>none
  | none=>none
def deep:Nat:=1000
def result (hp:Hp) (v:AV):Option AV:=
 match v with
 | .aa vs=>
  match P0 vs with
  | some _=>match CS deep hp vs with | some (dI,_)=>some (.aa dI) | none=>none
  | none=>match freeze deep hp v with | some (v',_)=>some v' | none=>none
 | v=>match Bb deep hp v with | some (v',_)=>some v' | none=>none
def bR:AV->AV
 | .bE ex _ n cs=> .aC ex n cs
 | v=>v
def Bu:List AV->List AV
 | []=>[]
 | v::r=>bR v::Bu r
def shut:AV->AV
 | .bE ex _ n cs=> .aC ex n cs
 | .aa vs=> .aa (Bu vs)
 | v=>v
def eR (hp:Hp) (ct:Nat):AV->AV×Hp×Nat
 | .bE ex sz n cs=>(.aE ct 0 n,(ct,.cells true true ex sz cs)::hp,ct+1)
 | v=>(v,hp,ct)
def iZ:Hp->Nat->List AV->List AV×Hp×Nat
 | hp,ct,[]=>([],hp,ct)
 | hp,ct,v::r=>((eR hp ct v).1::(iZ (eR hp ct v).2.1 (eR hp ct v).2.2 r).1,(iZ (eR hp ct v).2.1 (eR hp ct v).2.2 r).2)
def own (hp:Hp) (ct:Nat):AV->AV×Hp×Nat
 | .aa vs=>(.aa (iZ hp ct vs).1,(iZ hp ct vs).2)
 | v=>eR hp ct v
mutual
def refs:AV->List Nat
 | .ptr id _=>[id]
 | .aE id _ _=>[id]
 | .map id=>[id]
 | .it id=>[id]
 | .fn (.f _) first cap=>iJ first++iJ cap
 | .fn (.y l) _ _=>[l]
 | .agg cs=>iJ cs
 | .aa cs=>iJ cs
 | _=>[]
def iJ:List AV->List Nat
 | []=>[]
 | v::r=>refs v++iJ r
end
def iK:Env->List Nat
 | []=>[]
 | (_,v)::r=>refs v++iK r
def nQ:Obj->List Nat
 | .cells _ pu _ _ cs=>bif pu then [] else iJ cs
 | .mp _ ks vs=>iJ ks++iJ vs
 | .si _ _=>[]
 | .lp tm _ _ _ _ _=>iK tm
mutual
def bT (f:Nat->Option Nat):AV->AV
 | .ptr id o=>match f id with | some j=> .ptr j o | none=> .undef
 | .aE id o n=>match f id with | some j=> .aE j o n | none=> .undef
 | .map id=>match f id with | some j=> .map j | none=> .undef
 | .it id=>match f id with | some j=> .it j | none=> .undef
 | .fn (.f g) first cap=> .fn (.f g) (fe f first) (fe f cap)
 | .fn (.y l) first cap=>match f l with | some j=> .fn (.y j) (fe f first) (fe f cap) | none=> .undef
 | .agg cs=> .agg (fe f cs)
 | .aa cs=> .aa (fe f cs)
 | v=>v
def fe (f:Nat->Option Nat):List AV->List AV
 | []=>[]
 | v::r=>bT f v::fe f r
end
def jK (f:Nat->Option Nat):Env->Env
 | []=>[]
 | (i,v)::r=>(i,bT f v)::jK f r
def kw (f:Nat->Option Nat):Obj->Obj
 | .cells rw pu ex sz cs=> .cells rw pu ex sz (bif pu then cs else fe f cs)
 | .mp rw ks vs=> .mp rw (fe f ks) (fe f vs)
 | .si s pos=> .si s pos
 | .lp tm ps cr body st pe=> .lp (jK f tm) ps cr body st pe
def dF (tm:Env):List Nat->Env
 | []=>[]
 | i::r=>(i,aj tm i)::dF tm r
def kx (i:Nat):List Nat->Bool
 | []=>false
 | j::r=>bif yq j i then true else kx i r
def reach (hp:Hp) (base:Nat):Nat->List Nat->List Nat->List Nat
 | 0,_,seen=>seen
 | _+1,[],seen=>seen
 | n+1,id::ie,seen=>
  bif yK id base||kx id seen then reach hp base n ie seen
  else match aA hp id with
   | some o=>reach hp base n (nQ o++ie) (seen++[id])
   | none=>reach hp base n ie seen
def iF (base:Nat):Hp->List Nat
 | []=>[]
 | (id,o)::r=>bif yK id base then nQ o++iF base r else iF base r
def lh (i:Nat):List Nat->Nat->Option Nat
 | [],_=>none
 | j::r,k=>bif yq j i then some k else lh i r (k+1)
def jE (base:Nat) (seen:List Nat) (id:Nat):Option Nat:=bif yK id base then some id else lh id seen base
def kY (base:Nat) (f:Nat->Option Nat):Hp->Hp
 | []=>[]
 | (id,o)::r=>bif yK id base then (id,kw f o)::kY base f r else kY base f r
def jF (hp:Hp) (f:Nat->Option Nat):List Nat->Nat->Hp->Hp
 | [],_,acc=>acc
 | id::r,k,acc=>match aA hp id with | some o=>jF hp f r (k+1) ((k,kw f o)::acc) | none=>jF hp f r (k+1) acc
def aQ (live:List Nat) (s:St):St:=
 let tm:=dF s.tm live
 let seen:=reach s.hp s.base 100000 (iK tm++iF s.base s.hp) []
 let f:=jE s.base seen
 {tm:=jK f tm,hp:=jF s.hp f seen s.base (kY s.base f s.hp),ct:=s.base+seen.length,base:=s.base}
def kS (hp:Hp) (sz:Nat):AV->Option (Nat×List AV)
 | .ae=>some (0,[])
 | .aC _ n cs=>bif yq cs.length (n*sz) then some (n,cs) else none
 | .aE id o n=>
  match aA hp id with
  | some (.cells _ _ _ _ cs)=>bif yy (o+n*sz) cs.length then some (n,slice o (n*sz) cs) else none
  | _=>none
 | _=>none
def Kn:List Nat->List AV
 | []=>[]
 | b::r=> .int .u8 b::Kn r
def Al:List Nat->List Nat->Bool
 | _,[]=>false
 | [],_::_=>true
 | a::x,b::y=>yK a b||(yq a b&&Al x y)
def cG:List Nat->List Nat->Bool
 | [],[]=>true
 | a::x,b::y=>yq a b&&cG x y
 | _,_=>false
def dS:List Nat->List AV->List AV->Option Bool
 | [],[],[]=>some true
 | 0::ks,.bool a::x,.bool b::y=>match dS ks x y with | some r=>some ((a==b)&&r) | none=>none
 | 1::ks,.int k a::x,.int k' b::y=>if k=k' then (match dS ks x y with | some r=>some ((a==b)&&r) | none=>none) else none
 | 2::ks,.str a::x,.str b::y=>match dS ks x y with | some r=>some (cG a b&&r) | none=>none
 | _,_,_=>none
def ja:Nt->AV->AV->Option Bool
 | .b,.bool a,.bool b=>some (a==b)
 | .sl,.ae,.ae=>some true
 | .sl,.ae,.aC _ _ _=>some false
 | .sl,.ae,.aE _ _ _=>some false
 | .sl,.aC _ _ _,.ae=>some false
 | .sl,.aE _ _ _,.ae=>some false
 | .fn,.ic,.ic=>some true
 | .fn,.ic,.fn _ _ _=>some false
 | .fn,.fn _ _ _,.ic=>some false
 | .ag ks,.agg a,.agg b=>dS ks a b
 | _,_,_=>none
def intCmp (op:wM) (x y:Int):Option Bool:=
 match op with
 | .eql=>some (x==y)
 | .neq=>some (x !=y)
 | .lss=>some (decide (x<y))
 | .leq=>some (decide (x<=y))
 | .gtr=>some (decide (x>y))
 | .geq=>some (decide (x>=y))
 | _=>none
def j0 (op:wM) (k:xc) (x y:Int):Option AV:=
 match op with
 | .add=>some (.int k (k.wrap (x+y)))
 | .sub=>some (.int k (k.wrap (x-y)))
 | .mul=>some (.int k (k.wrap (x*y)))
 | .quo=>if y=0 then none else some (.int k (k.wrap (x.tdiv y)))
 | .rem=>if y=0 then none else some (.int k (x.tmod y))
 | .and=>some (.int k (k.wrap (xC k.bits x&&&xC k.bits y).toNat))
 | .or=>some (.int k (k.wrap (xC k.bits x|||xC k.bits y).toNat))
 | .xor=>some (.int k (k.wrap (xC k.bits x^^^xC k.bits y).toNat))
 | .andNot=>some (.int k (k.wrap (xC k.bits x&&&~~~(xC k.bits y)).toNat))
 | .shl | .shr=>none
 | op=>match intCmp op x y with | some b=>some (.bool b) | none=>none
def A5 (op:wM) (k:xc) (x y:Int):Option AV:=
 if y<0 then none else
 match op with
 | .shl=>some (.int k (k.wrap (x*2^(min y.toNat k.bits))))
 | .shr=>some (.int k (x.fdiv (2^(min y.toNat k.bits))))
 | _=>none
def G4 (op:wM) (x y:List Nat):Option AV:=
 match op with
 | .add=>bif yy (x.length+y.length) 9223372036854775807 then some (.str (x++y)) else none
 | .eql=>some (.bool (cG x y))
 | .neq=>some (.bool (!cG x y))
 | .lss=>some (.bool (Al x y))
 | .leq=>some (.bool (Al x y||cG x y))
 | .gtr=>some (.bool (!(Al x y||cG x y)))
 | .geq=>some (.bool (!Al x y))
 | _=>none
def Qs (op:wM) (k:vS) (x y:Nat):Option AV:=
 let c:=k.format.order x y
 let ar (r:Option Nat):Option AV:=match r with | some b=>some (.aw k b) | none=>none
 match op with
 | .add=>ar (k.format.add x y)
 | .sub=>ar (k.format.sub x y)
 | .mul=>ar (k.format.mul x y)
 | .quo=>ar (k.format.div x y)
 | .eql=>some (.bool (c==some .eq))
 | .neq=>some (.bool (c !=some .eq))
 | .lss=>some (.bool (c==some .lt))
 | .leq=>some (.bool (c==some .lt||c==some .eq))
 | .gtr=>some (.bool (c==some .gt))
 | .geq=>some (.bool (c==some .gt||c==some .eq))
 | _=>none
def binOp (op:wM) (x y:AV):Option AV:=
 match x,y with
 | .int k a,.int k' b=>
  match op with
  | .shl | .shr=>A5 op k a b
  | _=>if k=k' then j0 op k a b else none
 | .aw k a,.aw k' b=>if k=k' then Qs op k a b else none
 | .str a,.str b=>G4 op a b
 | _,_=>none
def unOp (op:ycf) (x:AV):Option AV:=
 match op,x with
 | .neg,.int k n=>some (.int k (k.wrap (0-n)))
 | .xor,.int k n=>j0 .xor k (if k.signed then -1 else k.max) n
 | .not,.bool b=>some (.bool !b)
 | .neg,.aw k b=>some (.aw k (b^^^2^(k.format.exponentBits+k.format.fractionBits)))
 | _,_=>none
def fZ (c:Conv) (x:AV):Option AV:=
 match c,x with
 | .toInt k,.int _ n=>some (.int k (k.wrap n))
 | .toFlt k,.int _ n=>some (.aw k (k.nearest n))
 | .toInt k,.aw s b=>
  match (s.decode b).toInt .zero with
  | some n=>if k.min<=n/\n<=k.max then some (.int k n) else none
  | none=>none
 | .toFlt k,.aw s b=>
  if s=k then some (.aw k b) else
  match s.decode b with
  | .number sg m e=>if (k.decode (k.encode (.number sg m e))).isInfinity then none else some (.aw k (k.encode (.number sg m e)))
  | _=>none
 | .str,.str s=>some (.str s)
 | _,_=>none
def il (sz:Nat) (ag:Bool) (cs:List AV):Option AV:=
 bif ag then (bif yy sz cs.length then some (.agg (cs.take sz)) else none)
 else match cs with | v::_=>some v | []=>none
def dw (x:AV):Option Nat:=
 match x with
 | .int _ n=>match n with | .ofNat k=>some k | .negSucc _=>none
 | _=>none
def cM (tm:Env) (d:Nat):Option X->Option Nat
 | none=>some d
 | some x=>dw (ay tm x)
def eV (hp:Hp) (k:Cut) (x:AV) (tm:Env) (lo hi:Option X):Option AV:=
 match k,x with
 | .str,.str s=>
  match cM tm 0 lo,cM tm s.length hi with
  | some l,some h=>bif yy l h&&yy h s.length then some (.str ((s.take h).drop l)) else none
  | _,_=>none
 | .sl _,.ae=>
  match cM tm 0 lo,cM tm 0 hi with
  | some 0,some 0=>some .ae
  | _,_=>none
 | .sl sz,.aC ex n cs=>
  match cM tm 0 lo,cM tm n hi with
  | some l,some h=>bif yy l h&&yy h n then some (.aC (ex&&yq h n) (h-l) (slice (l*sz) ((h-l)*sz) cs)) else none
  | _,_=>none
 | .sl sz,.aE id o n=>
  match aA hp id with
  | some (.cells _ _ _ z _)=>
   match cM tm 0 lo,cM tm n hi with
   | some l,some h=>
    bif yy l h&&yy h n&&yq z sz then
     bif yq l h&& !yq l 0 then some (.aC false 0 []) else some (.aE id (o+l*sz) (h-l))
    else none
   | _,_=>none
  | _=>none
 | _,_=>none
def fill (tm:Env):List AV->List (Nat×Nat×X)->Option (List AV)
 | cs,[]=>some cs
 | cs,(o,sz,x)::r=>
  let new:=cellsOf (ay tm x)
  bif yq new.length sz&&yy (o+sz) cs.length&&cF new then fill tm (over o new cs) r else none
def Dg:AV->AV->Option Bool
 | .int k a,.int k' b=>if k=k' then some (a==b) else none
 | .str a,.str b=>some (cG a b)
 | .bool a,.bool b=>some (a==b)
 | _,_=>none
def rH:Nat->AV->Bool
 | 0,.bool _=>true
 | 1,.int _ _=>true
 | 2,.str _=>true
 | _,_=>false
def Bv (k:AV):List AV->List AV->Option (Option AV)
 | [],_=>some none
 | k'::ks,v::vs=>match Dg k k' with | some true=>some (some v) | some false=>Bv k ks vs | none=>none
 | _::_,[]=>none
def zU (k v:AV):List AV->List AV->Option (List AV×List AV)
 | [],[]=>some ([k],[v])
 | k'::ks,u::us=>
  match Dg k k' with
  | some true=>some (k'::ks,v::us)
  | some false=>match zU k v ks us with | some (jx,W1)=>some (k'::jx,u::W1) | none=>none
  | none=>none
 | _,_=>none
def min2:AV->AV->Option AV
 | .int k x,.int _ y=>some (.int k (if y<x then y else x))
 | .aw k x,.aw _ y=>
  match k.format.order x y with
  | none=>none
  | some .lt=>some (.aw k x)
  | some .gt=>some (.aw k y)
  | some .eq=>some (.aw k (if (k.decode x).neg then x else y))
 | _,_=>none
def max2:AV->AV->Option AV
 | .int k x,.int _ y=>some (.int k (if y>x then y else x))
 | .aw k x,.aw _ y=>
  match k.format.order x y with
  | none=>none
  | some .lt=>some (.aw k y)
  | some .gt=>some (.aw k x)
  | some .eq=>some (.aw k (if (k.decode x).neg then y else x))
 | _,_=>none
def zL (f:AV->AV->Option AV):AV->List AV->Option AV
 | a,[]=>some a
 | a,b::r=>match f a b with | some c=>zL f c r | none=>none
def room:Nat:=1099511627776
abbrev fQ:=Option (AV×Hp×Nat)
def iM (hp:Hp) (sz:Nat) (ag:Bool):AV->Option AV
 | .ptr id o=>match aA hp id with | some (.cells _ _ _ _ cs)=>il sz ag (cs.drop o) | _=>none
 | .b7 cs=>il sz ag cs
 | _=>none
def G5 (k:Nat):AV->Option AV
 | .ptr id o=>some (.ptr id (o+k))
 | .b7 cs=>bif yy k cs.length then some (.b7 (cs.drop k)) else none
 | _=>none
def KV (o sz:Nat) (ag:Bool):AV->Option AV
 | .agg cs=>il sz ag (cs.drop o)
 | _=>none
def j8 (sz i:Nat):AV->Option AV
 | .aE id o n=>bif yK i n then some (.ptr id (o+i*sz)) else none
 | .aC _ n cs=>bif yK i n then some (.b7 (cs.drop (i*sz))) else none
 | _=>none
def KW (len sz i:Nat):AV->Option AV
 | .ptr id o=>bif yK i len then some (.ptr id (o+i*sz)) else none
 | .b7 cs=>bif yK i len then some (.b7 (cs.drop (i*sz))) else none
 | _=>none
def lS (i:Nat):AV->Option AV
 | .str s=>match s[i]? with | some b=>some (.int .u8 b) | none=>none
 | _=>none
def KX (len sz:Nat) (ag:Bool) (i:Nat):AV->Option AV
 | .agg cs=>bif yK i len then il sz ag (cs.drop (i*sz)) else none
 | _=>none
def zM (hp:Hp) (k:AV):AV->Option (Option AV)
 | .ju=>some none
 | .map id=>match aA hp id with | some (.mp _ ks vs)=>Bv k ks vs | _=>none
 | .iL ks vs=>Bv k ks vs
 | _=>none
def jo (hp:Hp):Nat->AV->Option AV
 | 0,.str s=>some (.int .i64 s.length)
 | 1,.ae=>some (.int .i64 0)
 | 1,.aC _ n _=>some (.int .i64 n)
 | 1,.aE _ _ n=>some (.int .i64 n)
 | 2,.ju=>some (.int .i64 0)
 | 2,.iL ks _=>some (.int .i64 ks.length)
 | 2,.map id=>match aA hp id with | some (.mp _ ks _)=>some (.int .i64 ks.length) | _=>none
 | _,_=>none
def bl (tm:Env) (hp:Hp):Op->Option AV
 | .pG x=>some (ay tm x)
 | .pick c a b=>match ay tm c with | .bool t=>some (bif t then ay tm a else ay tm b) | _=>none
 | .Bt zero parts=>match fill tm zero parts with | some cs=>some (.agg cs) | none=>none
 | .ld sz ag x=>iM hp sz ag (ay tm x)
 | .Hs x=>
  match ay tm x with
  | .ptr id o=>some (.ptr id o)
  | .b7 cs=>some (.b7 cs)
  | .fn f a b=>some (.fn f a b)
  | _=>none
 | .bin op x y=>binOp op (ay tm x) (ay tm y)
 | .eq ne k x y=>match ja k (ay tm x) (ay tm y) with | some r=>some (.bool (ne !=r)) | none=>none
 | .un op x=>unOp op (ay tm x)
 | .cv k x=>fZ k (ay tm x)
 | .Ea f first cap=>some (.fn f (cW tm first) (cW tm cap))
 | .og k x lo hi=>eV hp k (ay tm x) tm lo hi
 | .off k x=>G5 k (ay tm x)
 | .IB o sz ag x=>KV o sz ag (ay tm x)
 | .cd sz x i=>match dw (ay tm i) with | some j=>j8 sz j (ay tm x) | none=>none
 | .Eb len sz x i=>match dw (ay tm i) with | some j=>KW len sz j (ay tm x) | none=>none
 | .Ec x i=>match dw (ay tm i) with | some j=>lS j (ay tm x) | none=>none
 | .Ed len sz ag x i=>match dw (ay tm i) with | some j=>KX len sz ag j (ay tm x) | none=>none
 | .Nv kk zero ok m k=>
  bif rH kk (ay tm k) then
   match zM hp (ay tm k) (ay tm m) with
   | some (some v)=>some (bif ok then .aa [v,.bool true] else v)
   | some none=>some (bif ok then .aa [zero,.bool false] else zero)
   | none=>none
  else none
 | .ext i x=>match ay tm x with | .aa vs=>vs[i]? | _=>none
 | .len k x=>jo hp k (ay tm x)
 | .mn xs=>match cW tm xs with | a::r=>zL min2 a r | []=>none
 | .mx xs=>match cW tm xs with | a::r=>zL max2 a r | []=>none
 | _=>none
def cB (tm:Env) (hp:Hp) (ct:Nat):Op->Option (AV×Obj)
 | .box sz x=>
  let cs:=cellsOf (ay tm x)
  bif yq cs.length sz&&cF cs then some (.ptr ct 0,.cells true (aI cs) true sz cs) else none
 | .lf n sz zero parts=>
  match fill tm zero parts with
  | some cs=>bif yq cs.length (n*sz) then some (.aE ct 0 n,.cells true (aI cs) true sz cs) else none
  | none=>none
 | .mX sz bytes zero len cap=>
  match dw (ay tm len),dw (ay tm cap) with
  | some l,some c=>
   bif yy l c&&(yy c room&&(yy (c*bytes) room&&(yq zero.length sz&&cF zero))) then
    some (.aE ct 0 l,.cells true (aI zero) (yq l c) sz (yL l zero).flatten)
   else none
  | _,_=>none
 | .sH=>some (.map ct,.mp true [] [])
 | .ol x=>match ay tm x with | .str s=>some (.it ct,.si s 0) | _=>none
 | _=>none
def decodeL (s:List Nat) (i:Nat):Nat×Nat:=
 let at' (k:Nat):Nat:=s.getD (i+k) 0
 let cont (k:Nat):Bool:=decide (i+k<s.length)&&at' k/64==2
 let b0:=at' 0
 if b0<0x80 then (b0,1)
 else if b0/32==6&&cont 1 then
  let c:=(b0%32)*64+at' 1%64
  if c>=0x80 then (c,2) else (ub,1)
 else if b0/16==14&&cont 1&&cont 2 then
  let c:=(b0%16)*4096+(at' 1%64)*64+at' 2%64
  if c>=0x800&&yaQ c then (c,3) else (ub,1)
 else if b0/8==30&&cont 1&&cont 2&&cont 3 then
  let c:=(b0%8)*262144+(at' 1%64)*4096+(at' 2%64)*64+at' 3%64
  if c>=0x10000&&yaQ c then (c,4) else (ub,1)
 else (ub,1)
def iI (hp:Hp) (sz:Nat):AV->Option (Nat×List AV)
 | .str b=>bif yq sz 1 then some (b.length,Kn b) else none
 | v=>kS hp sz v
def qh (hp:Hp) (ct sz bytes:Nat) (s:AV) (src:Option (Nat×List AV)):Option (AV×Obj):=
 match src with
 | none=>none
 | some (m,new)=>
  match s with
  | .aE id o n=>
   match aA hp id with
   | some (.cells _ pu true z cs)=>
    bif yq z sz&&(yK 0 m&&(yy (n+m) room&&(yy ((n+m)*bytes) room&&(yq (o+n*sz) cs.length&&yK 0 sz)))) then
     some (.aE ct 0 (n+m),.cells true (pu&&aI new) false sz (slice o (n*sz) cs++new))
    else none
   | _=>none
  | _=>none
def cw (tm:Env) (hp:Hp) (ct:Nat):Op->fQ
 | .st sz x v=>
  let new:=cellsOf (ay tm v)
  match ay tm x with
  | .ptr id o=>
   match aA hp id with
   | some (.cells true pu ex z cs)=>
    bif yq new.length sz&&yy (o+sz) cs.length&&cF new then
     some (.aa [],bf hp id (.cells true (pu&&aI new) ex z (over o new cs)),ct)
    else none
   | _=>none
  | _=>none
 | .oh kk m k v=>
  match ay tm m with
  | .map id=>
   match aA hp id with
   | some (.mp true ks vs)=>bif !rH kk (ay tm k) then none else match zU (ay tm k) (ay tm v) ks vs with | some (jx,dI)=>some (.aa [],bf hp id (.mp true jx dI),ct) | none=>none
   | _=>none
  | _=>none
 | .ot x=>
  match ay tm x with
  | .it id=>
   match aA hp id with
   | some (.si s pos)=>
    bif yK pos s.length then
     match decodeL s pos with
     | (c,wd)=>some (.aa [.bool true,.int .i64 pos,.int .i32 c],bf hp id (.si s (pos+wd)),ct)
    else some (.aa [.bool false],hp,ct)
   | _=>none
  | _=>none
 | .aT sz bytes s x=>
  match iI hp sz (ay tm x) with
  | none=>none
  | some (m,new)=>
   match ay tm s with
   | .ae=>
    bif yq m 0 then some (.ae,hp,ct)
    else bif yy m room&&(yy (m*bytes) room&&yK 0 sz) then some (.aE ct 0 m,(ct,.cells true (aI new) false sz new)::hp,ct+1) else none
   | .aC true n cs=>
    bif yq m 0 then some (.aC true n cs,hp,ct)
    else bif yy (n+m) room&&(yy ((n+m)*bytes) room&&(yq cs.length (n*sz)&&yK 0 sz)) then some (.aE ct 0 (n+m),(ct,.cells true (aI cs&&aI new) false sz (cs++new))::hp,ct+1) else none
   | .aE id o n=>
    match aA hp id with
    | some (.cells true pu _ z cs)=>
     bif yq z sz&&(yy (n+m) room&&(yy ((n+m)*bytes) room&&(yy (o+n*sz) cs.length&&(yK 0 sz&&cF new)))) then
      some (.aE ct 0 (n+m),(ct,.cells true (pu&&aI new) false sz (slice o (n*sz) cs++new))::dX hp id,ct+1)
     else none
    | _=>none
   | _=>none
 | .ox sz d s=>
  match kS hp sz (ay tm s),ay tm d with
  | some (m,new),.aE id o n=>
   match aA hp id with
   | some (.cells true pu ex z cs)=>
    bif yq z sz&&(yy (o+n*sz) cs.length&&cF new) then
     some (.int .i64 (min m n:Nat),bf hp id (.cells true (pu&&aI new) ex z (over o (new.take (min m n*sz)) cs)),ct)
    else none
   | _=>none
  | _,_=>none
 | _=>none
def hZ:X->List Nat | .t i=>[i] | .c _=>[]
def rL:List X->List Nat
 | []=>[]
 | x::r=>hZ x++rL r
def G6:Option X->List Nat | some x=>hZ x | none=>[]
def G7:List (Nat×Nat×X)->List Nat
 | []=>[]
 | (_,_,x)::r=>hZ x++G7 r
def jm:Op->List Nat
 | .pG x | .box _ x | .ld _ _ x | .Hs x | .un _ x | .cv _ x | .off _ x | .IB _ _ _ x | .ol x | .ot x | .ext _ x | .len _ x=>hZ x
 | .pick a b c | .oh _ a b c=>hZ a++(hZ b++hZ c)
 | .Bt _ ps | .lf _ _ _ ps=>G7 ps
 | .st _ a b | .bin _ a b | .eq _ _ a b | .cd _ a b | .Eb _ _ a b | .Ec a b | .Ed _ _ _ a b | .Nv _ _ _ a b | .aT _ _ a b | .ow _ _ a b | .ox _ a b=>hZ a++hZ b
 | .Ea _ a b=>rL a++rL b
 | .sH=>[]
 | .mX _ _ _ a b=>hZ a++hZ b
 | .og _ x a b=>hZ x++(G6 a++G6 b)
 | .call _ f xs=>hZ f++rL xs
 | .gZ _ f xs=>hZ f++rL xs
 | .jw _ _ a b=>hZ a++hZ b
 | .jO _ _ _ a b=>hZ a++hZ b
 | .mn xs | .mx xs=>rL xs
def bm:Op->Nat
 | .pG _ | .pick _ _ _ | .Bt _ _ | .Hs _ | .bin _ _ _ | .eq _ _ _ _ | .un _ _ | .cv _ _ | .Ea _ _ _ | .off _ _ | .IB _ _ _ _ | .cd _ _ _ | .Eb _ _ _ _ | .Ec _ _ | .Ed _ _ _ _ _ | .ext _ _ | .mn _ | .mx _=>0
 | .og .str _ _ _ | .len 0 _ | .len 1 _=>0
 | .st _ _ _ | .oh _ _ _ _ | .ot _ | .aT _ _ _ _ | .ox _ _ _ | .gZ _ _ _ | .jw _ _ _ _ | .jO _ _ _ _ _ | .call .heap _ _ | .call .dyn _ _=>2
 | _=>1
def Qt:Option (Nat×Bool)->List Nat | some (t,_)=>[t] | none=>[]
def Bc (o:aZ):List Nat:=Qt o.guard++jm o.op
def Dm (d:Option Nat) (l:List Nat):Bool:=match d with | some i=>kx i l | none=>false
def afW (d e:Option Nat):Bool:=match d,e with | some i,some j=>yq i j | _,_=>false
def J5 (a b:aZ):Bool:=Dm a.dst (Bc b)||Dm b.dst (Bc a)||afW a.dst b.dst
def BF (sz:Nat) (ag:Bool) (t:Nat):List (Nat×Bool×Nat)->Bool
 | []=>false
 | (s,g,u)::r=>(yq s sz&&(g==ag&&yq u t))||BF sz ag t r
def Bw (t:Nat):List aZ->Bool
 | []=>true
 | o::r=> !Dm o.dst [t]&&Bw t r
def Gf (a b:aZ) (r:List aZ):Bool:=
 match a.guard,a.op,b.op with
 | none,.ld sz ag (.t t),.gZ rs _ _=>BF sz ag t rs&&Bw t (a::r)
 | none,.ld sz ag (.t t),.jw rs _ _ _=>BF sz ag t rs&&Bw t (a::r)
 | none,.ld sz ag (.t t),.jO rs _ _ _ _=>BF sz ag t rs&&Bw t (a::r)
 | _,_,_=>false
def FU (a b:aZ):Bool:=
 match bm a.op,bm b.op with
 | 1,2 | 2,1 | 2,2=>true
 | _,_=>false
def J6 (m:Nat) (b:aZ):List aZ->Nat->Bool
 | [],_=>true
 | a::r,i=>(uY m i|| !(J5 a b||(FU a b&& !Gf a b r)))&&J6 m b r (i+1)
def rI (done:List aZ):List aZ->List Nat->Bool
 | [],_=>true
 | b::r,m::ms=>J6 m b done 0&&rI (done++[b]) r ms
 | _::_,[]=>false
def Gg (m:Nat):List aZ->Nat->List (Nat×Bool×Nat)
 | [],_=>[]
 | a::r,i=>
  match uY m i,a with
  | false,⟨_,none,.ld sz ag (.t t)⟩=>(sz,ag,t)::Gg m r (i+1)
  | _,_=>Gg m r (i+1)
def stOp (rs:List (Nat×Bool×Nat)) (sz:Nat) (x v:X):Op:=match rs with | []=> .st sz x v | rs=> .jw rs sz x v
def ahi (rs:List (Nat×Bool×Nat)) (sz b:Nat) (x v:X):Op:=match rs with | []=> .aT sz b x v | rs=> .jO rs sz b x v
def lT (done:List aZ):List aZ->List Nat->List aZ
 | ⟨d,g,.gZ _ f xs⟩::r,m::ms=>let o:aZ:=⟨d,g,.gZ (Gg m done 0) f xs⟩;o::lT (done++[o]) r ms
 | ⟨d,g,.st sz x v⟩::r,m::ms=>let o:aZ:=⟨d,g,stOp (Gg m done 0) sz x v⟩;o::lT (done++[o]) r ms
 | ⟨d,g,.aT sz b x v⟩::r,m::ms=>let o:aZ:=⟨d,g,ahi (Gg m done 0) sz b x v⟩;o::lT (done++[o]) r ms
 | o::r,_::ms=>o::lT (done++[o]) r ms
 | l,_=>l
def aeJ (done:List aZ):X->Bool
 | .t i=>done.any fun o=>match o.dst,o.op with | some j,.lf _ _ _ _=>yq i j | _,_=>false
 | _=>false
def Dh (done:List aZ):List aZ->List aZ
 | []=>[]
 | o::r=>(match o.op with | .aT sz b x v=>bif aeJ done x then ⟨o.dst,o.guard,.ow sz b x v⟩ else o | _=>o)::Dh (done++[o]) r
abbrev aK:=Nat->Option aD
structure Lib where
 pure:Nat->Option (List AV->Option AV)
 heap:Nat->Option (Hp->Nat->List AV->fQ)
abbrev cm:=VC->St->Option (Ex×St)
def dR:Nat->List AV->Env
 | _,[]=>[]
 | i,v::r=>(i,v)::dR (i+1) r
def results1 (s:St):RV->Option AV
 | .t i=>some (aj s.tm i)
 | .cell i sz ag=>
  match aj s.tm i with
  | .ptr id o=>match aA s.hp id with | some (.cells _ _ _ _ cs)=>il sz ag (cs.drop o) | _=>none
  | .b7 cs=>il sz ag cs
  | _=>none
def jV (s:St):List RV->Option (List AV)
 | []=>some []
 | r::rest=>match results1 s r,jV s rest with | some v,some vs=>some (v::vs) | _,_=>none
def gX (s:St) (rs:List RV):Option AV:=
 match jV s rs with
 | some [v]=>some v
 | some vs=>some (.aa vs)
 | none=>none
def bG (P:aK) (L:Lib) (self:cm) (n:Nat) (ao:List AV):Option AV:=
 match L.pure n with
 | some sp=>sp ao
 | none=>
  match P n with
  | none=>none
  | some F=>
   match self F.body ⟨dR 0 ao,[],0,0⟩ with
   | some (.normal,s) | some (.ret,s)=>match gX s F.cZ with | some v=>result s.hp v | none=>none
   | _=>none
def P1:Ex->r7
 | .normal=> .none
 | .ret=> .ret
 | .exit id=> .exit id
def p7:Env->List Nat->List AV->Option Env
 | tm,[],[]=>some tm
 | tm,p::ps,v::vs=>p7 ((p,v)::tm) ps vs
 | _,_,_=>none
def gY (P:aK) (L:Lib) (self:cm) (hp:Hp) (ct:Nat) (n:Nat) (ao:List AV):fQ:=
 match L.heap n with
 | some sp=>sp hp ct ao
 | none=>
  match P n with
  | none=>none
  | some F=>
   match self F.body ⟨dR 0 ao,hp,ct,ct⟩ with
   | some (.normal,s) | some (.ret,s)=>match gX s F.cZ with | some v=>some (v,s.hp,s.ct) | none=>none
   | _=>none
def mu (self:cm) (hp:Hp) (ct:Nat) (l:Nat) (xs:List AV):fQ:=
 match aA hp l with
 | some (.lp tm ps cr body 0 _)=>
  match p7 tm ps xs with
  | none=>none
  | some bU=>
   match self cr ⟨bU,hp,ct,ct⟩ with
   | some (.normal,s1)=>
    match aA s1.hp l with
    | some (.lp jd B8 Am Bx 0 sI)=>
     match self body ⟨s1.tm,bf s1.hp l (.lp jd B8 Am Bx 1 sI),s1.ct,s1.ct⟩ with
     | some (ex,s2)=>
      match aA s2.hp l with
      | some (.lp qP IC ID G8 1 _)=>
       match ex with
       | .normal=>some (.bool true,bf s2.hp l (.lp qP IC ID G8 0 .none),s2.ct)
       | ex=>some (.bool false,bf s2.hp l (.lp qP IC ID G8 2 (P1 ex)),s2.ct)
      | _=>none
     | none=>none
    | _=>none
   | _=>none
 | _=>none
def ep (P:aK) (L:Lib) (self:cm) (hp:Hp) (ct:Nat) (m:Md) (fv:AV) (xs:List AV):fQ:=
 match fv with
 | .fn (.f n) first cap=>
  match m with
  | .pure=>
   match cA deep hp (first++(xs++cap)) with
   | some (ao,bj)=>match bG P L self n ao with | some r=>some (shut r,bj,ct) | none=>none
   | none=>none
  | .own=>
   match cA deep hp (first++(xs++cap)) with
   | some (ao,bj)=>match bG P L self n ao with | some r=>some (own bj ct r) | none=>none
   | none=>none
  | .heap=>gY P L self hp ct n (first++(xs++cap))
  | .dyn=>
   bif aI (first++(xs++cap)) then
    match bG P L self n (first++(xs++cap)) with | some r=>some (shut r,hp,ct) | none=>none
   else gY P L self hp ct n (first++(xs++cap))
 | .fn (.y l) _ _=>
  match m with
  | .heap | .dyn=>mu self hp ct l xs
  | _=>none
 | _=>none
def Q0:AV->AV->Bool
 | .int k a,.int k' b=>decide (k=k')&&a==b
 | .bool a,.bool b=>a==b
 | .str a,.str b=>cG a b
 | .ae,.ae=>true
 | .km,.km=>true
 | .ptr i o,.ptr j p=>yq i j&&yq o p
 | .aE i o n,.aE j p m=>yq i j&&(yq o p&&yq n m)
 | .map i,.map j=>yq i j
 | _,_=>false
def nH (tm:Env) (hp ap:Hp):List (Nat×Bool×Nat)->Bool
 | []=>true
 | (sz,ag,x)::r=>
  match iM hp sz ag (aj tm x),iM ap sz ag (aj tm x) with
  | some a,some b=>Q0 a b&&nH tm hp ap r
  | _,_=>false
def mw (tm:Env) (id:Nat):List (Nat×Bool×Nat)->Bool
 | []=>true
 | (_,_,x)::r=>(match aj tm x with | .ptr j _=> !yq j id | .b7 _=>true | _=>false)&&mw tm id r
def a7 (P:aK) (L:Lib) (self:cm) (tm:Env) (hp:Hp) (ct:Nat) (o:Op):fQ:=
 match o with
 | .call m f xs=>ep P L self hp ct m (ay tm f) (cW tm xs)
 | .gZ rs f xs=>
  match ep P L self hp ct .dyn (ay tm f) (cW tm xs) with
  | some (v,ap,aX)=>bif nH tm hp ap rs then some (v,ap,aX) else none
  | none=>none
 | .jw rs sz x v=>
  match ay tm x with
  | .ptr id _=>bif mw tm id rs then cw tm hp ct (.st sz x v) else none
  | _=>none
 | .ow sz b x v=>
  match qh hp ct sz b (ay tm x) (iI hp sz (ay tm v)) with
  | some (v,b)=>some (v,(ct,b)::hp,ct+1)
  | none=>none
 | .jO rs sz b x v=>
  match cw tm hp ct (.aT sz b x v) with
  | some (v,ap,aX)=>bif nH tm hp ap rs then some (v,ap,aX) else none
  | none=>none
 | .st .. | .oh .. | .ot .. | .aT .. | .ox .. =>cw tm hp ct o
 | .box .. | .lf .. | .mX .. | .sH | .ol .. =>match cB tm hp ct o with | some (v,b)=>some (v,(ct,b)::hp,ct+1) | none=>none
 | o=>match bl tm hp o with | some v=>some (v,hp,ct) | none=>none
def put (d:Option Nat) (v:AV) (tm:Env):Env:=
 match d with
 | some i=>(i,v)::tm
 | none=>tm
def db (P:aK) (L:Lib) (self:cm):List aZ->St->Option St
 | [],s=>some s
 | ⟨d,g,o⟩::r,s=>
  let want:=match g with | none=>some true | some (t,b)=>match aj s.tm t with | .bool c=>some (c==b) | .aa []=>some false | _=>none
  match want with
  | some true=>
   match a7 P L self s.tm s.hp s.ct o with
   | some (v,hp,ct)=>db P L self r {s with tm:=put d v s.tm,hp:=hp,ct:=ct}
   | none=>none
  | some false=>db P L self r {s with tm:=put d (.aa []) s.tm}
  | none=>none
def nS:List Nat->St->Option St
 | [],s=>some s
 | t::r,s=>
  match freeze deep s.hp (aj s.tm t) with
  | some (v,hp)=>nS r {s with tm:=(t,v)::s.tm,hp:=hp}
  | none=>none
def bA (P:aK) (L:Lib) (self:cm):VC->St->Option (Ex×St)
 | .skip,s=>some (.normal,s)
 | .mY ops,s=>match db P L self ops s with | some s'=>some (.normal,s') | none=>none
 | .seq a b,s=>
  match bA P L self a s with
  | some (.normal,s1)=>bA P L self b s1
  | r=>r
 | .cond x a b,s=>
  match ay s.tm x with
  | .bool t=>bif t then bA P L self a s else bA P L self b s
  | _=>none
 | .dj id a,s=>
  match bA P L self a s with
  | some (.exit j,s1)=>bif yq j id then some (.normal,s1) else some (.exit j,s1)
  | r=>r
 | .kp live,s=>some (.normal,aQ live s)
 | .fz ts,s=>match nS ts s with | some s'=>some (.normal,s') | none=>none
 | .loop live a,s=>
  match bA P L self a (aQ live s) with
  | some (.normal,s1)=>self (.loop live a) s1
  | r=>r
 | .rf f ps cr body,s=>
  match ay s.tm f with
  | .fn (.f n) first cap=>
   match L.heap n with
   | some _=>none
   | none=>
    match gY P L self ((s.ct,.lp s.tm ps cr body 0 .none)::s.hp) (s.ct+1) n (first++(.fn (.y s.ct) [] []::cap)) with
    | some (_,hp,ct)=>
     match aA hp s.ct with
     | some (.lp _ _ _ _ st pe)=>
      bif yq st 1 then none else
      match pe with
      | .none=>some (.normal,{s with hp:=dX hp s.ct,ct:=ct})
      | .ret=>some (.ret,{s with hp:=dX hp s.ct,ct:=ct})
      | .exit id=>some (.exit id,{s with hp:=dX hp s.ct,ct:=ct})
     | _=>none
    | none=>none
  | _=>none
 | .exit id,s=>some (.exit id,s)
 | .ret,s=>some (.ret,s)
def ev (P:aK) (L:Lib) (n:Nat):cm:=Nat.rec (fun _ _=>none) (fun _ ih=>bA P L ih) n
def W2 (P:aK) (L:Lib) (n:Nat) (f:Nat) (ao:List AV):Option AV:=bG P L (ev P L n) f ao
end
section
open Go
structure Pl where
 b:Nat
 o:Nat
 e:Nat
 z:Nat
abbrev Mp:=Nat->Option Pl
section
variable (af:Nat->Nat) (m:Mp) (S:Nat->Prop) (w:yi)
mutual
def ah:AV->yg->Prop
 | .int k n,v=>v= .int k n
 | .bool b,v=>v= .bool b
 | .aw k b,v=>v= .float k b
 | .str s,v=>∃t:ByteArray,v= .string t/\t.data.toList.map xf=s
 | .km,v=>v= .pointer none
 | .ptr id o,v=>∃p,m id=some p/\v= .pointer (some ⟨p.b,p.o+o,none⟩)
 | .b7 cs,v=>∃b o,v= .pointer (some ⟨b,o,none⟩)/\(cs=[]\/S b)/\aI cs=true/\bK cs b o
 | .ae,v=>v= .slice none 0 0
 | .aC ex n cs,v=>(∃b o c,v= .slice (some ⟨b,o,none⟩) n c/\n<=c/\(ex=true->c=n)/\(cs=[]\/S b)/\aI cs=true/\bK cs b o)\/(∃a,v= .slice (some a) 0 0/\n=0/\cs=[])
 | .bE _ _ _ _,_=>False
 | .aE id o n,v=>∃p c,m id=some p/\v= .slice (some ⟨p.b,p.o+o,none⟩) n c/\n<=c/\o+c*p.z=p.e
 | .fn (.f g) first cap,v=>∃fi ca:Array yg,v= .func (.func (af g)) fi ca/\au first fi.toList/\au cap ca.toList
 | .fn (.y l) _ _,v=>∃p,m l=some p/\v= .func (.yield p.b) #[] #[]
 | .ic,v=>v= .nilFunc
 | .ju,v=>v= .map none
 | .map id,v=>∃p,m id=some p/\v= .map (some p.b)
 | .iL ks vs,v=>∃b es clock,v= .map (some b)/\S b/\aI ks=true/\aI vs=true/\w.heap[b]? =some (.map es clock)/\
   au ks (es.toList.map (·.key))/\au vs (es.toList.map (·.val))
 | .it id,v=>∃p,m id=some p/\v= .pointer (some ⟨p.b,0,none⟩)
 | .agg cs,v=>∃xs:Array yg,v= .agg xs/\au cs xs.toList
 | .aa cs,v=>∃xs:Array yg,v= .tuple xs/\au cs xs.toList
 | .undef,_=>True
def au:List AV->List yg->Prop
 | [],us=>us=[]
 | c::cs,us=>∃u r,us=u::r/\ah c u/\au cs r
def bK:List AV->Nat->Nat->Prop
 | [],_,_=>True
 | c::cs,b,o=>(∃u,w.cell? ⟨b,o,none⟩=some u/\ah c u)/\bK cs b (o+1)
end
end
def fb (S:Nat->Prop) (w w':yi):Prop:=∀b,S b->w'.heap[b]? =w.heap[b]?
def Jw {w w':yi} {b o:Nat} (h:w'.heap[b]? =w.heap[b]?):w'.cell? ⟨b,o,none⟩=w.cell? ⟨b,o,none⟩:=by
 simp only [World.cell?,h]
section
variable {af:Nat->Nat} {m m':Mp} {S S':Nat->Prop} {w w':yi}
mutual
def jW (hm:∀id p,m id=some p->m' id=some p) (hS:∀b,S b->S' b) (hw:fb S w w'):
  ∀(v:AV) (u:yg),ah af m S w v u->ah af m' S' w' v u
 | .int _ _,_,h | .bool _,_,h | .aw _ _,_,h | .str _,_,h | .km,_,h | .ae,_,h | .ic,_,h | .ju,_,h | .undef,_,h=>by
  simpa only [ah] using h
 | .ptr id o,u,h=>by
  simp only [ah] at h ⊢;obtain ⟨p,h1,h2⟩:=h;exact ⟨p,hm _ _ h1,h2⟩
 | .b7 cs,u,h=>by
  simp only [ah] at h ⊢;obtain ⟨b,o,h1,h2,h3,h4⟩:=h;refine ⟨b,o,h1,h2.imp id (hS b),h3,?_⟩;rcases h2 with rfl | h2
  ·simp only [bK]
  ·exact OB hm hS hw cs b o h2 h4
 | .aC ex n cs,u,h=>by
  simp only [ah] at h ⊢;rcases h with ⟨b,o,c,h1,h2,h3,h4,h5,h6⟩ | h
  ·refine .inl ⟨b,o,c,h1,h2,h3,h4.imp id (hS b),h5,?_⟩;rcases h4 with rfl | h4
   ·simp only [bK]
   ·exact OB hm hS hw cs b o h4 h6
  ·exact .inr h
 | .bE _ _ _ _,u,h=>by simp only [ah] at h
 | .aE id o n,u,h=>by
  simp only [ah] at h ⊢;obtain ⟨p,c,h1,h2⟩:=h;exact ⟨p,c,hm _ _ h1,h2⟩
 | .fn (.f g) first cap,u,h=>by
  simp only [ah] at h ⊢;obtain ⟨fi,ca,h1,h2,h3⟩:=h;exact ⟨fi,ca,h1,fV hm hS hw first _ h2,fV hm hS hw cap _ h3⟩
 | .fn (.y l) _ _,u,h=>by
  simp only [ah] at h ⊢;obtain ⟨p,h1,h2⟩:=h;exact ⟨p,hm _ _ h1,h2⟩
 | .map id,u,h=>by
  simp only [ah] at h ⊢;obtain ⟨p,h1,h2⟩:=h;exact ⟨p,hm _ _ h1,h2⟩
 | .iL ks vs,u,h=>by
  simp only [ah] at h ⊢;obtain ⟨b,es,clock,h1,h2,h3,h4,h5,h6,h7⟩:=h;exact ⟨b,es,clock,h1,hS b h2,h3,h4,(hw b h2).trans h5,fV hm hS hw ks _ h6,fV hm hS hw vs _ h7⟩
 | .it id,u,h=>by
  simp only [ah] at h ⊢;obtain ⟨p,h1,h2⟩:=h;exact ⟨p,hm _ _ h1,h2⟩
 | .agg cs,u,h=>by
  simp only [ah] at h ⊢;obtain ⟨xs,h1,h2⟩:=h;exact ⟨xs,h1,fV hm hS hw cs _ h2⟩
 | .aa cs,u,h=>by
  simp only [ah] at h ⊢;obtain ⟨xs,h1,h2⟩:=h;exact ⟨xs,h1,fV hm hS hw cs _ h2⟩
def fV (hm:∀id p,m id=some p->m' id=some p) (hS:∀b,S b->S' b) (hw:fb S w w'):
  ∀(vs:List AV) (us:List yg),au af m S w vs us->au af m' S' w' vs us
 | [],us,h=>by simpa only [au] using h
 | v::r,us,h=>by
  simp only [au] at h ⊢;obtain ⟨u,t,h1,h2,h3⟩:=h;exact ⟨u,t,h1,jW hm hS hw v u h2,fV hm hS hw r t h3⟩
def OB (hm:∀id p,m id=some p->m' id=some p) (hS:∀b,S b->S' b) (hw:fb S w w'):
  ∀(cs:List AV) (b o:Nat),S b->bK af m S w cs b o->bK af m' S' w' cs b o
 | [],_,_,_,_=>by simp only [bK]
 | c::cs,b,o,hb,h=>by
  simp only [bK] at h ⊢;obtain ⟨⟨u,h1,h2⟩,h3⟩:=h;exact ⟨⟨u,(Jw (hw b hb)).trans h1,jW hm hS hw c u h2⟩,OB hm hS hw cs b (o+1) hb h3⟩
end
end
end
section
open Go
structure Hint where
 n:Nat
 bT:tq->Option Nat
 live:Nat->List Nat
 out:Nat->Option (List Nat)
 mode:Nat->Md
 fz:Nat->List Nat
section
variable (P:y8) (H:Hint)
mutual
def dW:yg->AV
 | .int k n=> .int k n
 | .bool b=> .bool b
 | .float k b=> .aw k b
 | .string s=> .str (s.data.toList.map xf)
 | .pointer none=> .km
 | .slice none 0 0=> .ae
 | .map none=> .ju
 | .nilFunc=> .ic
 | .agg ⟨cs⟩=> .agg (CW cs)
 | .tuple ⟨cs⟩=> .aa (CW cs)
 | _=> .undef
def CW:List yg->List AV
 | []=>[]
 | v::r=>dW v::CW r
end
def aM:xq->X
 | .tmp t=> .t t
 | .const v=> .c (dW v)
 | .global _=> .c .undef
 | .func f=>match H.bT f with | some g=> .c (.fn (.f g) [] []) | none=> .c .undef
def gg:List xq->List X
 | []=>[]
 | x::r=>aM H x::gg r
def cg (t:yx):Option Nat:=match P.info? t with | some i=>some i.size | none=>none
def qQ (t:yx):Option Nat:=match P.info? t with | some i=>some i.bytes | none=>none
def j9 (t:yx):Option AV:=match P.info? t with | some i=>(match i.zero with | some v=>some (dW v) | none=>none) | none=>none
def dz (t:yx):Option Bool:=match P.underlying t with | some (.struct _) | some (.array _ _)=>some true | some _=>some false | none=>none
def bad:Op:= .call .pure (.c .undef) []
def partsOf (place:Nat->Option (Nat×Nat)):List (Nat×xq)->Option (List (Nat×Nat×X))
 | []=>some []
 | (i,x)::r=>
  match place i,partsOf place r with
  | some (o,s),some l=>some ((o,s,aM H x)::l)
  | _,_=>none
def CH (self:yx->Option (List Nat)):List td->Nat->Option (List Nat)
 | [],_=>some []
 | f::r,o=>
  match self f.type,cg P f.type with
  | some ks,some s=>
   bif f.name != "_"&&yq f.offset o&&yq ks.length s&& !P.stoodInHeld f.type then
    (match CH self r (o+s) with | some l=>some (ks++l) | none=>none)
   else none
  | _,_=>none
def kinds:Nat->yx->Option (List Nat)
 | 0,_=>none
 | n+1,t=>
  match P.underlying t with
  | some .bool=>some [0]
  | some (.int _)=>some [1]
  | some .string=>some [2]
  | some (.struct fs)=>CH P (fun u=>kinds n u) fs.toList 0
  | some (.array k e)=>
   match kinds n e,cg P e with
   | some ks,some s=>bif yq ks.length s&& !P.stoodInHeld e then some (yL k ks).flatten else none
   | _,_=>none
  | _=>none
def keyOf (t:yx):Option Nat:=
 match P.underlying t with
 | some .bool=>some 0
 | some (.int _)=>some 1
 | some .string=>some 2
 | _=>none
def nI (ne:Bool) (t:yx) (a b:xq):Op:=
 match kinds P 20 t with
 | some ks=>bif P.stoodInHeld t||P.eqGuardType P.depth t then bad else .eq ne (.ag ks) (aM H a) (aM H b)
 | none=>bad
def my (ne:Bool) (op:wM) (t:yx) (a b:xq):Op:=
 match P.underlying t with
 | some (.int _) | some .string | some (.float _)=> .bin op (aM H a) (aM H b)
 | some .bool=> .eq ne .b (aM H a) (aM H b)
 | some (.slice _)=> .eq ne .sl (aM H a) (aM H b)
 | some (.func _ _ _)=> .eq ne .fn (aM H a) (aM H b)
 | some (.struct _) | some (.array _ _)=>nI P H ne t a b
 | _=>bad
def aR (k:Nat) (o:y7):Op:=
 let x (y:xq):X:=aM H y
 match o.op with
 | .move a | .assign a=> .pG (x a)
 | .pick c a b=> .pick (x c) (x a) (x b)
 | .alloc t=>match cg P t,j9 P t with | some s,some z=> .box s (.c z) | _,_=>bad
 | .box t v=>match cg P t with | some s=> .box s (x v) | none=>bad
 | .build t parts=>
  match P.underlying t,j9 P t with
  | some (.struct fs),some (.agg z)=>
   match fs.toList.mapM (fun f=>(P.info? f.type).map fun i=>(f.offset,i.size)) with
   | some pl=>(match partsOf H (fun i=>pl[i]?) parts.toList with | some ps=> .Bt z ps | none=>bad)
   | none=>bad
  | some (.array _ e),some (.agg z)=>
   match cg P e with
   | some s=>(match partsOf H (fun i=>some (i*s,s)) parts.toList with | some ps=> .Bt z ps | none=>bad)
   | none=>bad
  | _,_=>bad
 | .buildSlice t n parts=>
  match P.underlying t with
  | some (.slice e)=>
   match cg P e,j9 P e with
   | some s,some z=>
    bif yy (n*s) 16777216 then
     (match partsOf H (fun i=>some (i*s,s)) parts.toList with | some ps=> .lf n s (yL n (cellsOf z)).flatten ps | none=>bad)
    else bad
   | _,_=>bad
  | _=>bad
 | .load t a=>match cg P t,dz P t with | some s,some ag=> .ld s ag (x a) | _,_=>bad
 | .store t a v=>match cg P t with | some s=> .st s (x a) (x v) | none=>bad
 | .nilCheck a=> .Hs (x a)
 | .binOp op t a b _=>
  match op with
  | .eql=>my P H false op t a b
  | .neq=>my P H true op t a b
  | _=> .bin op (x a) (x b)
 | .unOp op _ a=> .un op (x a)
 | .convert s d a=>
  match P.underlying s,P.underlying d with
  | some (.int _),some (.int k) | some (.float _),some (.int k)=> .cv (.toInt k) (x a)
  | some (.int _),some (.float k) | some (.float _),some (.float k)=> .cv (.toFlt k) (x a)
  | some .string,some .string=> .cv .str (x a)
  | _,_=>bad
 | .makeFunc (.func f) first cap=>match H.bT f with | some g=> .Ea (.f g) (gg H first.toList) (gg H cap.toList) | none=>bad
 | .makeMap t none=>match P.underlying t with | some (.map ke _)=>(match keyOf P ke with | some _=> .sH | none=>bad) | _=>bad
 | .makeSlice t l c=>
  match P.underlying t with
  | some (.slice e)=>(match cg P e,qQ P e,j9 P e with | some s,some b,some z=> .mX s b (cellsOf z) (x l) (x c) | _,_,_=>bad)
  | _=>bad
 | .slice t a lo hi none=>
  match P.underlying t with
  | some .string=> .og .str (x a) (lo.map x) (hi.map x)
  | some (.slice e)=>(match cg P e with | some s=> .og (.sl s) (x a) (lo.map x) (hi.map x) | none=>bad)
  | some (.array n e)=>(match cg P e with | some s=> .og (.ar n s) (x a) (lo.map x) (hi.map x) | none=>bad)
  | _=>bad
 | .fieldAddr t a i=>
  match P.underlying t with
  | some (.struct fs)=>
   match fs[i]? with
   | some f=>(match cg P f.type with | some (_+1)=> .off f.offset (x a) | _=>bad)
   | none=>bad
  | _=>bad
 | .field t a i=>
  match P.underlying t with
  | some (.struct fs)=>
   match fs[i]? with
   | some f=>(match cg P f.type,dz P f.type with | some s,some ag=> .IB f.offset s ag (x a) | _,_=>bad)
   | none=>bad
  | _=>bad
 | .indexAddr t a i=>
  match P.underlying t with
  | some (.slice e)=>(match cg P e with | some s=> .cd s (x a) (x i) | none=>bad)
  | some (.array n e)=>(match cg P e with | some s=> .Eb n s (x a) (x i) | none=>bad)
  | _=>bad
 | .index t a i=>
  match P.underlying t with
  | some .string=> .Ec (x a) (x i)
  | some (.array n e)=>(match cg P e,dz P e with | some s,some ag=> .Ed n s ag (x a) (x i) | _,_=>bad)
  | _=>bad
 | .lookup t a i ok=>
  match P.underlying t with
  | some (.map ke e)=>(match keyOf P ke,j9 P e with | some kk,some z=> .Nv kk z ok (x a) (x i) | _,_=>bad)
  | _=>bad
 | .mapUpdate t a i v | .insert t a i v=>
  match P.underlying t with
  | some (.map ke _)=>(match keyOf P ke with | some kk=> .oh kk (x a) (x i) (x v) | none=>bad)
  | _=>bad
 | .range t a=>match P.underlying t with | some .string=> .ol (x a) | _=>bad
 | .next it true=> .ot (x it)
 | .extract t i=> .ext i (x t)
 | .call c=>
  match c.callee with
  | .value f=>(match H.mode k with | .dyn=> .gZ [] (x f) (gg H c.args.toList) | md=> .call md (x f) (gg H c.args.toList))
  | .builtin b=>
   match b,c.args.toList,c.argTypes.toList with
   | .append,[s,a],[t,u]=>
    match P.underlying t,P.underlying u with
    | some (.slice e),some (.slice _) | some (.slice e),some .string=>
     (match cg P e,qQ P e,j9 P e with | some sz,some bV,some z=>(bif yq (cellsOf z).length sz then .aT sz bV (x s) (x a) else bad) | _,_,_=>bad)
    | _,_=>bad
   | .len,[a],[t]=>
    match P.underlying t with
    | some (.array n _)=> .pG (.c (.int .i64 n))
    | some .string=> .len 0 (x a)
    | some (.slice _)=> .len 1 (x a)
    | some (.map _ _)=> .len 2 (x a)
    | _=>bad
   | .copy,[d,s],[t,_]=>
    match P.underlying t with
    | some (.slice e)=>(match cg P e with | some sz=> .ox sz (x d) (x s) | none=>bad)
    | _=>bad
   | .min,l,_=> .mn (gg H l)
   | .max,l,_=> .mx (gg H l)
   | _,_,_=>bad
  | _=>bad
 | _=>bad
def P2 (o:y7):Bool:=match o.op with | .call {callee:= .value _,..}=>true | _=>false
def G9 (d:Option Nat):Bool:=match d with | some i=>yK i H.n | none=>true
def rR (n:Nat):List Nat->Bool
 | []=>true
 | i::r=>yK i n&&rR n r
def A6 (ops:Array y7):List y7->Nat->List aZ×Nat
 | [],k=>([],k)
 | o::r,k=>
  let g:=match o.guard with
   | none=>some none
   | some (j,b)=>match (ops[j]?).bind (·.dst) with | some t=>some (some (t,b)) | none=>none
  match A6 ops r (k+(bif P2 o then 1 else 0)) with
  | (l,k')=>
   match g,G9 H o.dst with
   | some g,true=>(⟨o.dst,g,aR P H k o⟩::l,k')
   | _,_=>(⟨o.dst,none,bad⟩::l,k')
def zD (acc:List Nat):List Edge->Nat
 | []=>0
 | e::r=>bif Region.binds .any e then (2^e.on|||acc.getD e.on 0)|||zD acc r else zD acc r
def jG (acc:List Nat):List y7->List Nat
 | []=>acc
 | o::r=>jG (acc++[zD acc o.after.toList]) r
def zh:List y7->Nat->Bool
 | [],_=>true
 | o::r,i=>o.after.toList.all (fun e=> !Region.binds .any e||yK e.on i)&&zh r (i+1)
def Ko (ops:Array y7) (draw:Bool) (k:Nat):List aZ×Nat:=
 match A6 P H ops ops.toList k with
 | (l,k')=>
  bif draw then
   (let ms:=jG [] ops.toList
    let l':=lT [] l ms
    bif zh ops.toList 0&&rI [] l' ms then (l',k') else bif zh ops.toList 0&&rI [] (Dh [] l') ms then (Dh [] l',k') else ([⟨none,none,bad⟩],k'))
  else (l,k')
def as8:wF->Bool
 | .loop _=>true
 | _=>false
def comp:wF->Nat->Nat->VC×Nat×Nat
 | .skip,l,k | .label _,l,k=>(.skip,l,k)
 | .region i ops d,l,k=>match Ko P H ops d k with | (r,k')=>((match H.fz i with | []=> .mY r | t::ts=> .seq (.fz (t::ts)) (.mY r)),l,k')
 | .seq a b,l,k=>match comp a l k with | (a',l1,k1)=>match comp b l1 k1 with | (b',l2,k2)=>(.seq a' b',l2,k2)
 | .cond c a b,l,k=>
  match comp a (l+1) k with
  | (a',l1,k1)=>
   match comp b l1 k1 with
   | (b',l2,k2)=>(match H.out l with | some o=> .seq (.cond (aM H c) a' b') (.kp o) | none=> .cond (aM H c) a' b',l2,k2)
 | .block id a,l,k=>
  match comp a l k with
  | (a',r)=>(match as8 a,H.out l with | true,some o=> .seq (.dj id a') (.kp o) | _,_=> .dj id a',r)
 | .loop a,l,k=>match comp a (l+1) k with | (a',r)=>(.loop (H.live l) a',r)
 | .rangeFunc f ps cr body,l,k=>
  match comp cr l k with | (as',l1,k1)=>match comp body l1 k1 with | (b',l2,k2)=>(bif rR H.n ps.toList then .rf (aM H f) ps.toList as' b' else .mY [⟨none,none,bad⟩],l2,k2)
 | .exit id,l,k=>(.exit id,l,k)
 | .scope a,l,k=>comp a l k
 | .ret,l,k=>(.ret,l,k)
 | .goto _,l,k | .refuse _,l,k=>(.mY [⟨none,none,bad⟩],l,k)
def nJ:List ResultVar->Option (List RV)
 | []=>some []
 | .tmp t::r=>match nJ r with | some l=>some (.t t::l) | none=>none
 | .cell a t::r=>match cg P t,dz P t,nJ r with | some s,some ag,some l=>some (.cell a s ag::l) | _,_,_=>none
def CX (fn:Func):Option aD:=
 match fn.body,nJ P fn.results.toList with
 | some c,some rs=>bif yy H.n fn.ntmps then some ⟨rs,(comp P H c 0 0).1⟩ else none
 | _,_=>none
end
end
section
open Go
structure a8 where
 P:y8
 az:Lib
 af:Nat->Nat
 prog:aK
 hint:Nat->Hint
 w0:yi
def An (P:y8) (H:Hint) (v:VC) (c:wF):Prop:=∃l k,(comp P H c l k).1=v
def zV:Nat->LoopState
 | 0=> .ready
 | 1=> .busy
 | 2=> .done
 | _=> .exhausted
def rM:r7->Option wF
 | .none=>none
 | .ret=>some .ret
 | .exit id=>some (.exit id)
section
variable (O:a8) (m:Mp) (S:Nat->Prop) (w:yi)
def bS (tm:Env) (tmps:Array yg):Prop:=∀i,ah O.af m S w (aj tm i) (tmps.getD i undef)
def eJ (id:Nat):Obj->Prop
 | .cells rw pu ex sz cs=>∃p arr t,m id=some p/\w.heap[p.b]? =some (.cells arr t (0,0))/\p.z=sz/\cs.length<=p.e/\p.o+p.e<=arr.size/\
   (ex=true->cs.length=p.e)/\bK O.af m S w cs p.b p.o/\(pu=true->aI cs=true)/\(rw=true->¬S p.b)/\(rw=false->S p.b)
 | .mp rw ks vs=>∃p es clock,m id=some p/\w.heap[p.b]? =some (.map es clock)/\au O.af m S w ks (es.toList.map (·.key))/\au O.af m S w vs (es.toList.map (·.val))/\
   (rw=true->¬S p.b)/\(rw=false->S p.b)
 | .si s pos=>∃p t,m id=some p/\w.heap[p.b]? =some (.stringIter t pos)/\t.data.toList.map xf=s/\¬S p.b
 | .lp tm ps cr body st pe=>∃p l h,m id=some p/\w.heap[p.b]? =some (.loop l)/\¬S p.b/\l.state=zV st/\st<=2/\l.pending=rM pe/\bS O m S w tm l.tmps/\
   l.params.toList=ps/\An O.P (O.hint h) cr l.assign/\An O.P (O.hint h) body l.body/\(O.hint h).n<=l.tmps.size/\rR (O.hint h).n ps=true
structure aP (hp:Hp) (ct:Nat):Prop where
 obj:∀id o p,aA hp id=some o->m id=some p->eJ O m S w id o
 lt:∀id p,m id=some p->id<ct
 inj:∀i j oi oj pi pj,aA hp i=some oi->aA hp j=some oj->m i=some pi->m j=some pj->pi.b=pj.b->i=j
 slt:∀b,S b->b<w.heap.size
 blt:∀id p,m id=some p->p.b<w.heap.size
 low:∀id p,m id=some p->O.w0.heap.size<=p.b
 jb:∀b,b<O.w0.heap.size->w.heap[b]? =O.w0.heap[b]?
 fw:O.w0.heap.size<=w.heap.size
 aG:∀id o,aA hp id=some o->id<ct
end
def dJ (m:Mp) (hp:Hp) (b:Nat):Prop:=∃id o p,aA hp id=some o/\m id=some p/\p.b=b
structure bY (m:Mp) (S:Nat->Prop) (w:yi) (hp:Hp) (m':Mp) (S':Nat->Prop) (w':yi) (ap:Hp) (base:Nat):Prop where
 os:w'.os=w.os
 tape:w'.tape=w.tape
 output:w'.output=w.output
 size:w.heap.size<=w'.heap.size
 same:∀b,b<w.heap.size->¬dJ m hp b->w'.heap[b]? =w.heap[b]?
 sub:∀b,S b->S' b
 still:∀b,S b->w'.heap[b]? =w.heap[b]?
 new:∀b,S' b->S b\/dJ m hp b\/w.heap.size<=b
 own:∀b,dJ m' ap b->dJ m hp b\/w.heap.size<=b
 old:∀id p,id<base->m id=some p->m' id=some p
 loops:∀(b:Nat) (r:uj),w.heap[b]? =some (.loop r)->∃r':uj,w'.heap[b]? =some (.loop r')
def bY.refl {m:Mp} {S:Nat->Prop} {w:yi} {hp:Hp} {base:Nat}:bY m S w hp m S w hp base:=
 ⟨rfl,rfl,rfl,yB _,fun _ _ _=>rfl,fun _ h=>h,fun _ _=>rfl,fun _ h=> .inl h,fun _ h=> .inl h,fun _ _ _ h=>h,fun _ r h=>⟨r,h⟩⟩
def bY.trans {m m' IE:Mp} {S S' Ao:Nat->Prop} {w w' Nw:yi} {hp ap Ht:Hp} {base:Nat}
  (h:bY m S w hp m' S' w' ap base) (k:bY m' S' w' ap IE Ao Nw Ht base):bY m S w hp IE Ao Nw Ht base where
 os:=k.os.trans h.os
 tape:=k.tape.trans h.tape
 output:=k.output.trans h.output
 size:=xb h.size k.size
 same b hb ho:=(k.same b (yE hb h.size) (fun je=>(h.own b je).elim ho (fun h1=>by omega))).trans (h.same b hb ho)
 sub b hb:=k.sub b (h.sub b hb)
 still b hb:=(k.still b (h.sub b hb)).trans (h.still b hb)
 new b hb:=by
  rcases k.new b hb with h1 | h1 | h1
  ·exact h.new b h1
  ·rcases h.own b h1 with h2 | h2
   ·exact .inr (.inl h2)
   ·exact .inr (.inr h2)
  ·exact .inr (.inr (xb h.size h1))
 own b hb:=by
  rcases k.own b hb with h1 | h1
  ·exact h.own b h1
  ·exact .inr (xb h.size h1)
 old id p hid hp:=k.old id p hid (h.old id p hid hp)
 loops b r hb:=let ⟨r',h1⟩:=h.loops b r hb;k.loops b r' h1
end
section
open Go
section
variable {af:Nat->Nat} {m:Mp} {S:Nat->Prop} {w:yi}
mutual
def Kp:∀v:yg,ah af m S w (dW v) v
 | .int _ _ | .bool _ | .float _ _=>by simp only [dW,ah]
 | .string s=>by simp only [dW,ah];exact ⟨s,rfl,rfl⟩
 | .pointer none=>by simp only [dW,ah]
 | .pointer (some _)=>by simp only [dW,ah]
 | .slice none 0 0=>by simp only [dW,ah]
 | .slice none 0 (_+1)=>by simp only [dW,ah]
 | .slice none (_+1) _=>by simp only [dW,ah]
 | .slice (some _) _ _=>by simp only [dW,ah]
 | .map none=>by simp only [dW,ah]
 | .map (some _)=>by simp only [dW,ah]
 | .nilFunc=>by simp only [dW,ah]
 | .agg ⟨cs⟩=>by simp only [dW,ah];exact ⟨⟨cs⟩,rfl,Pa cs⟩
 | .tuple ⟨cs⟩=>by simp only [dW,ah];exact ⟨⟨cs⟩,rfl,Pa cs⟩
 | .complex _ _ _ | .chan _ | .func _ _ _ | .iface _ _ | .nilIface=>by simp only [dW,ah]
def Pa:∀l:List yg,au af m S w (CW l) l
 | []=>by simp only [CW,au]
 | v::r=>by simp only [CW,au];exact ⟨v,r,rfl,Kp v,Pa r⟩
end
end
def eQ (O:a8) (H:Hint):Prop:=∀f g,H.bT f=some g->O.af g=f
section
variable {O:a8} {H:Hint} {m:Mp} {S:Nat->Prop} {w:yi} {tm:Env} {a:Act}
def b9 (hH:eQ O H) (ht:bS O m S w tm a.tmps) (x:xq):ah O.af m S w (ay tm (aM H x)) (a.eval x):=by
 cases x with
 | tmp t=>exact ht t
 | const v=>simp only [aM,ay,Act.eval];exact Kp v
 | global g=>simp only [aM,ay,ah]
 | func f=>
  simp only [aM,Act.eval]
  cases hr:H.bT f with
  | none=>simp only [ay,ah]
  | some g=>simp only [ay,ah,hH f g hr,au];exact ⟨#[],#[],rfl,rfl,rfl⟩
def Be (hH:eQ O H) (ht:bS O m S w tm a.tmps):∀l:List xq,au O.af m S w (cW tm (gg H l)) (l.map a.eval)
 | []=>by simp only [gg,cW,List.map_nil,au]
 | x::r=>by simp only [gg,cW,xi,au];exact ⟨_,_,rfl,b9 hH ht x,Be hH ht r⟩
end
section
variable {O:a8} {m:Mp} {S:Nat->Prop} {w:yi}
def oQ {af:Nat->Nat}:∀(k:Nat) (cs:List AV) (b o:Nat),bK af m S w cs b o->bK af m S w (cs.drop k) b (o+k)
 | 0,cs,b,o,h=>by simpa using h
 | k+1,[],b,o,_=>by simp only [List.drop_nil,bK]
 | k+1,c::cs,b,o,h=>by
  simp only [bK] at h
  have:=oQ k cs b (o+1) h.2
  rw [List.drop_succ_cons,show o+(k+1)=o+1+k by omega];exact this
def zf {af:Nat->Nat}:∀(k:Nat) (cs:List AV) (b o:Nat),bK af m S w cs b o->bK af m S w (cs.take k) b o
 | 0,cs,b,o,_=>by simp only [ybi,bK]
 | k+1,[],b,o,_=>by simp only [List.take_nil,bK]
 | k+1,c::cs,b,o,h=>by
  simp only [bK,xW] at h ⊢;exact ⟨h.1,zf k cs b (o+1) h.2⟩
def pU {af:Nat->Nat}:∀(cs:List AV) (b o:Nat),bK af m S w cs b o->
  ∃us:List yg,au af m S w cs us/\us.length=cs.length/\∀j u,us[j]? =some u->w.cell? ⟨b,o+j,none⟩=some u
 | [],b,o,_=>⟨[],by simp only [au],rfl,fun j u h=>by simp at h⟩
 | c::cs,b,o,h=>by
  simp only [bK] at h;obtain ⟨⟨u,h1,h2⟩,h3⟩:=h;obtain ⟨us,h4,h5,h6⟩:=pU cs b (o+1) h3;refine ⟨u::us,by simp only [au];exact ⟨u,us,rfl,h2,h4⟩,by simp [h5],fun j v hv=>?_⟩
  cases j with
  | zero=>simp at hv;subst hv;simpa using h1
  | succ j=>simp at hv;have:=h6 j v hv;rw [show o+(j+1)=o+1+j by omega];exact this
def fX {af:Nat->Nat}:∀(cs:List AV) (us:List yg),au af m S w cs us->us.length=cs.length
 | [],us,h=>by simp only [au] at h;subst h;rfl
 | c::cs,us,h=>by
  simp only [au] at h;obtain ⟨u,r,rfl,_,h3⟩:=h;simp [fX cs r h3]
end
end
section
open Go
def mz (b o j:Nat):(⟨b,o,none⟩:vY).add j=⟨b,o+j,none⟩:=by
 unfold Addr.add;split<;>simp_all
section
variable {P:y8} {w:yi}
def alB (t:yx) (b o:Nat) (us:List yg) (ha:dz P t=some true) (hz:cg P t=some us.length)
  (h:∀j u,us[j]? =some u->w.cell? ⟨b,o+j,none⟩=some u):(loadVar t ⟨b,o,none⟩).run P w= .ok (.agg us.toArray) w:=by
 have hl:=run_loadCells_list (P:=P) w ⟨b,o,none⟩ us (fun j u hu=>by rw [mz];exact h j u hu)
 unfold cg at hz
 cases hi:P.info? t with
 | none=>simp [hi] at hz
 | some i=>
  simp only [hi,yb] at hz;unfold dz at ha
  cases hu:P.underlying t with
  | none=>simp [hu] at ha
  | some d=>cases d<;>simp_all [loadVar,isAgg,wW,typeInfo,underlying]
def alC (t:yx) (b o:Nat) (u:yg) (ha:dz P t=some false)
  (h:w.cell? ⟨b,o,none⟩=some u):(loadVar t ⟨b,o,none⟩).run P w= .ok u w:=by
 unfold dz at ha
 cases hu:P.underlying t with
 | none=>simp [hu] at ha
 | some d=>cases d<;>simp_all [loadVar,isAgg,underlying]
end
section
variable {O:a8} {m:Mp} {S:Nat->Prop} {w:yi}
def Kq {t:yx} {sz:Nat} {ag:Bool} {cs:List AV} {b o:Nat} {v:AV} (hz:cg O.P t=some sz) (ha:dz O.P t=some ag)
  (hr:bK O.af m S w cs b o) (hv:il sz ag cs=some v):∃u,(loadVar t ⟨b,o,none⟩).run O.P w= .ok u w/\ah O.af m S w v u:=by
 cases ag with
 | true=>
  simp only [il,yz] at hv
  cases hle:yy sz cs.length with
  | false=>simp only [hle,yY] at hv;cases hv
  | true=>
   simp only [hle,yz,yb] at hv;subst hv;obtain ⟨us,h1,h2,h3⟩:=pU _ _ _ (zf sz cs b o hr);have hlen:us.length=sz:=by
    rw [h2,yW];have:=yp hle;omega
   refine ⟨.agg us.toArray,alB t b o us ha (by rw [hlen];exact hz) h3,?_⟩
   simp only [ah];exact ⟨us.toArray,rfl,by simpa using h1⟩
 | false=>
  simp only [il,yY] at hv
  cases cs with
  | nil=>simp at hv
  | cons c cs=>
   simp only [yb] at hv;subst hv;simp only [bK] at hr;obtain ⟨⟨u,h1,h2⟩,_⟩:=hr;exact ⟨u,alC t b o u ha h1,h2⟩
def abu {t:yx} {sz o:Nat} {ag:Bool} {cs:List AV} {xs:Array yg} {v:AV} (hz:cg O.P t=some sz) (ha:dz O.P t=some ag)
  (hr:au O.af m S w cs xs.toList) (hv:il sz ag (cs.drop o)=some v):∃u,(part t xs o).run O.P w= .ok u w/\ah O.af m S w v u:=by
 have hd:∀(k:Nat) (cs:List AV) (us:List yg),au O.af m S w cs us->au O.af m S w (cs.drop k) (us.drop k):=by
  intro k
  induction k with
  | zero=>intro cs us h;simpa using h
  | succ k ih=>
   intro cs us h
   cases cs with
   | nil=>simp only [au] at h;subst h;simp [au]
   | cons c cs=>simp only [au] at h;obtain ⟨u,r,rfl,_,h3⟩:=h;simpa using ih cs r h3
 have dY:∀(k:Nat) (cs:List AV) (us:List yg),au O.af m S w cs us->au O.af m S w (cs.take k) (us.take k):=by
  intro k
  induction k with
  | zero=>intro cs us h;simp [au]
  | succ k ih=>
   intro cs us h
   cases cs with
   | nil=>simp only [au] at h;subst h;simp [au]
   | cons c cs=>simp only [au] at h;obtain ⟨u,r,rfl,h2,h3⟩:=h;simp only [xW,au];exact ⟨u,_,rfl,h2,ih cs r h3⟩
 have ahj:(isAgg t).run O.P w= .ok ag w:=by
  unfold dz at ha
  cases hu:O.P.underlying t with
  | none=>simp [hu] at ha
  | some d=>cases d<;>simp_all [isAgg,underlying]
 have ej:(wW t).run O.P w= .ok sz w:=by
  unfold cg at hz
  cases hi:O.P.info? t with
  | none=>simp [hi] at hz
  | some i=>simp_all [wW,typeInfo]
 have bW:=hd o cs xs.toList hr
 cases ag with
 | true=>
  simp only [il,yz] at hv
  cases hle:yy sz (cs.drop o).length with
  | false=>simp only [hle,yY] at hv;cases hv
  | true=>
   simp only [hle,yz,yb] at hv;subst hv;refine ⟨.agg (xs.extract o (o+sz)),by simp [part,Sem.run_bind,ahj,ej],?_⟩;simp only [ah];refine ⟨_,rfl,?_⟩
   have:=dY sz _ _ bW
   rw [show (xs.extract o (o+sz)).toList=(xs.toList.drop o).take sz by simp [Array.toList_extract,tT]];exact this
 | false=>
  simp only [il,yY] at hv
  cases hc:cs.drop o with
  | nil=>simp [hc] at hv
  | cons c r=>
   simp only [hc,yb] at hv;subst hv;rw [hc] at bW;simp only [au] at bW;obtain ⟨u,us,h1,h2,_⟩:=bW;have hx:xs[o]? =some u:=by
    have:xs.toList[o]? =some u:=by
     have:=congrArg (fun l=>l[0]?) h1
     simpa using this
    simpa using this
   exact ⟨u,by simp [part,Sem.run_bind,ahj,hx],h2⟩
end
end
section
open Go
def kU (t:ByteArray):List Nat:=t.data.toList.map xf
def abv:∀a b:List UInt8,cG (a.map xf) (b.map xf)=(a==b)
 | [],[]=>rfl
 | [],_::_=>rfl
 | _::_,[]=>rfl
 | a::x,b::y=>by
  have h:yq a.toNat b.toNat=(a==b):=by
   rw [uK,ycu,yaC];exact yaR
  simp only [xi,cG,abv x y,h,List.cons_beq_cons]
def abw:∀a b:List UInt8,Al (a.map xf) (b.map xf)=Op.bytesLess a b
 | [],[]=>rfl
 | [],_::_=>rfl
 | _::_,[]=>rfl
 | a::x,b::y=>by
  have h:yq a.toNat b.toNat=(a==b):=by
   rw [uK,ycu,yaC];exact yaR
  have h2:yK a.toNat b.toNat=decide (a<b):=by
   rw [uK];simp only [yK,ycv,tY,UInt8.lt_iff_toNat_lt];omega
  simp only [xi,Al,Op.bytesLess,abw x y,h,h2]
def ZG (s t:ByteArray):cG (kU s) (kU t)=(s.toList==t.toList):=by
 rw [kU,kU,abv,ByteArray.toList_eq,ByteArray.toList_eq]
def amY (s t:ByteArray):Al (kU s) (kU t)=Op.bytesLess s.toList t.toList:=by
 rw [kU,kU,abw,ByteArray.toList_eq,ByteArray.toList_eq]
def ZH (s:ByteArray):(kU s).length=s.size:=by
 rw [kU,List.length_map,Lib.size_eq]
section
variable {af:Nat->Nat} {P:y8} {m:Mp} {S:Nat->Prop} {w:yi} {t:yx}
def aoD {op:wM} {k:xc} {x y:Int} {v:AV} (h:j0 op k x y=some v):
  ∃u,(xL op t (.int k x) (.int k y)).run P w= .ok u w/\ah af m S w v u:=by
 cases op<;>simp only [j0,intCmp,yb] at h
 case add=>subst h;exact ⟨_,by simp [xL,Op.intArith];rfl,by simp [ah]⟩
 case sub=>subst h;exact ⟨_,by simp [xL,Op.intArith];rfl,by simp [ah]⟩
 case mul=>subst h;exact ⟨_,by simp [xL,Op.intArith];rfl,by simp [ah]⟩
 case quo=>
  by_cases hy:y=0
  ·simp [hy] at h
  ·simp only [hy,xj,yb] at h;subst h;exact ⟨_,by simp [xL,Op.intDiv,hy];rfl,by simp [ah]⟩
 case rem=>
  by_cases hy:y=0
  ·simp [hy] at h
  ·simp only [hy,xj,yb] at h;subst h;exact ⟨_,by simp [xL,Op.intDiv,hy];rfl,by simp [ah]⟩
 case and=>subst h;exact ⟨_,by simp [xL,Op.intBits];rfl,by simp [ah]⟩
 case or=>subst h;exact ⟨_,by simp [xL,Op.intBits];rfl,by simp [ah]⟩
 case xor=>subst h;exact ⟨_,by simp [xL,Op.intBits];rfl,by simp [ah]⟩
 case andNot=>subst h;exact ⟨_,by simp [xL,Op.intBits];rfl,by simp [ah]⟩
 case shl=>cases h
 case shr=>cases h
 all_goals
  subst h;exact ⟨_,by simp [xL,Op.intCmp];rfl,by simp [ah]⟩
def Y1 {op:wM} {k k':xc} {x y:Int} {v:AV} (h:A5 op k x y=some v):
  ∃u,(xL op t (.int k x) (.int k' y)).run P w= .ok u w/\ah af m S w v u:=by
 unfold A5 at h;by_cases hy:y<0
 ·simp [hy] at h
 ·simp only [hy,xj] at h;cases op<;>simp only [yb] at h
  case shl=>subst h;exact ⟨_,by simp [xL,Op.shift,hy];rfl,by simp [ah]⟩
  case shr=>subst h;exact ⟨_,by simp [xL,Op.shift,hy];rfl,by simp [ah]⟩
  all_goals cases h
def aoE {op:wM} {x y:ByteArray} {v:AV} (h:G4 op (kU x) (kU y)=some v):
  ∃u,(xL op t (.string x) (.string y)).run P w= .ok u w/\ah af m S w v u:=by
 cases op<;>simp only [G4,ZG,amY,ZH,yb] at h
 case add=>
  cases hle:yy (x.size+y.size) 9223372036854775807 with
  | false=>rw [hle] at h;cases h
  | true=>
   rw [hle] at h;simp only [yz,yb] at h;subst h;have aGr:=yp hle;have r8:¬(((x.size+y.size:Nat):Int)>IntKind.i64.max):=by
    have:IntKind.i64.max=9223372036854775807:=by decide
    rw [this];omega
   refine ⟨.string (x++y),?_,?_⟩
   ·simp only [xL,Op.stringOp,yv r8,Sem.run_pure]
   ·simp only [ah];exact ⟨x++y,rfl,by simp [kU]⟩
 all_goals first
  | (cases h;done)
  | (subst h;exact ⟨_,by simp [xL,Op.stringOp];rfl,by simp [ah]⟩)
def aoF {op:wM} {k:vS} {x y:Nat} {v:AV} (h:Qs op k x y=some v):
  ∃u,(xL op t (.float k x) (.float k y)).run P w= .ok u w/\ah af m S w v u:=by
 cases op<;>simp only [Qs,yb] at h
 case add=>
  cases hr:k.format.add x y with
  | none=>simp [hr] at h
  | some r=>simp only [hr,yb] at h;subst h;exact ⟨.float k r,by simp [xL,Op.floatArith,hr],by simp [ah]⟩
 case sub=>
  cases hr:k.format.sub x y with
  | none=>simp [hr] at h
  | some r=>simp only [hr,yb] at h;subst h;exact ⟨.float k r,by simp [xL,Op.floatArith,hr],by simp [ah]⟩
 case mul=>
  cases hr:k.format.mul x y with
  | none=>simp [hr] at h
  | some r=>simp only [hr,yb] at h;subst h;exact ⟨.float k r,by simp [xL,Op.floatArith,hr],by simp [ah]⟩
 case quo=>
  cases hr:k.format.div x y with
  | none=>simp [hr] at h
  | some r=>simp only [hr,yb] at h;subst h;exact ⟨.float k r,by simp [xL,Op.floatArith,hr],by simp [ah]⟩
 all_goals first
  | (cases h;done)
  | (subst h;exact ⟨_,by simp [xL,Op.floatCmp];rfl,by simp [ah]⟩)
def aoG {op:wM} {vx vy v:AV} {x y:yg} (hx:ah af m S w vx x) (hy:ah af m S w vy y) (h:VE.binOp op vx vy=some v):
  ∃u,(xL op t x y).run P w= .ok u w/\ah af m S w v u:=by
 unfold VE.binOp at h
 split at h
 ·rename_i k a k' b;simp only [ah] at hx hy;subst hx;subst hy
  split at h
  ·exact Y1 h
  ·exact Y1 h
  ·by_cases hk:k=k'
   ·subst hk;simp only [xO] at h;exact aoD h
   ·simp [hk] at h
 ·rename_i k a k' b;simp only [ah] at hx hy;subst hx;subst hy;by_cases hk:k=k'
  ·subst hk;simp only [xO] at h;exact aoF h
  ·simp [hk] at h
 ·rename_i a b;simp only [ah] at hx hy;obtain ⟨s,rfl,rfl⟩:=hx;obtain ⟨s',rfl,rfl⟩:=hy;exact aoE h
 ·cases h
end
end
section
open Go
section
variable {af:Nat->Nat} {P:y8} {m:Mp} {S:Nat->Prop} {w:yi} {t:yx}
def al9 {op:wM} {x y:xq} {a b:yg} (h:P.eqGuardType P.depth t=false\/∀xs ys,¬(a= .agg xs/\b= .agg ys)) (hn:a≠.nilIface):
  (eqGuard op t x y a b).run P w= .ok () w:=by
 unfold eqGuard;cases op
 all_goals first
  | rfl
  | (
    cases a
    all_goals first
     | rfl
     | exact absurd rfl hn
     | (
      cases b
      all_goals first
       | rfl
       | (
         rcases h with h | h
         ·simp [h]
         ·exact absurd ⟨rfl,rfl⟩ (h _ _))))
def as9 {d:Nat} {p q:Bool} (ht:P.underlying t=some .bool):(Op.equalIn (d+1) t (.bool p) (.bool q)).run P w= .ok (p==q) w:=by
 simp [Op.equalIn,underlying,ht]
def Qu {d:Nat} {e:yx} (ht:P.underlying t=some (.slice e)) (y:Option vY) (n c n' c':Nat):
  (Op.equalIn (d+1) t (.slice none n c) (.slice y n' c')).run P w= .ok y.isNone w:=by simp [Op.equalIn,underlying,ht]
def afX {d:Nat} {e:yx} (ht:P.underlying t=some (.slice e)) (x:vY) (n c n' c':Nat):
  (Op.equalIn (d+1) t (.slice (some x) n c) (.slice none n' c')).run P w= .ok false w:=by simp [Op.equalIn,underlying,ht]
def axq {d:Nat} {ps rs:Array yx} {vr:Bool} (ht:P.underlying t=some (.func ps rs vr)):
  (Op.equalIn (d+1) t .nilFunc .nilFunc).run P w= .ok true w:=by simp [Op.equalIn,underlying,ht]
def afY {d:Nat} {ps rs:Array yx} {vr:Bool} (ht:P.underlying t=some (.func ps rs vr)) (f:Go.Fn) (a b:Array yg):
  (Op.equalIn (d+1) t .nilFunc (.func f a b)).run P w= .ok false w:=by simp [Op.equalIn,underlying,ht]
def afZ {d:Nat} {ps rs:Array yx} {vr:Bool} (ht:P.underlying t=some (.func ps rs vr)) (f:Go.Fn) (a b:Array yg):
  (Op.equalIn (d+1) t (.func f a b) .nilFunc).run P w= .ok false w:=by simp [Op.equalIn,underlying,ht]
def J7 (x y:yg):Op.equal t x y=Op.equalIn (9999+1) t x y:=rfl
def aqS {vx vy:AV} {x y:yg} {r:Bool} {e:yx} (ht:P.underlying t=some (.slice e)) (hx:ah af m S w vx x) (hy:ah af m S w vy y)
  (h:ja .sl vx vy=some r):(Op.equal t x y).run P w= .ok r w:=by
 rw [J7];unfold ja at h
 split at h<;>simp_all only [yb,reduceCtorEq]
 all_goals subst h
 all_goals simp only [ah] at hx hy
 ·subst hx;subst hy;exact Qu ht _ _ _ _ _
 ·rcases hy with ⟨b,o,c,rfl,_⟩ | ⟨_,rfl,_⟩<;>(subst hx;exact Qu ht _ _ _ _ _)
 ·obtain ⟨p,c,_,rfl,_⟩:=hy;subst hx;exact Qu ht _ _ _ _ _
 ·rcases hx with ⟨b,o,c,rfl,_⟩ | ⟨_,rfl,_⟩<;>(subst hy;exact afX ht _ _ _ _ _)
 ·obtain ⟨p,c,_,rfl,_⟩:=hx;subst hy;exact afX ht _ _ _ _ _
def aqT {vx vy:AV} {x y:yg} {r:Bool} {ps rs:Array yx} {vr:Bool} (ht:P.underlying t=some (.func ps rs vr)) (hx:ah af m S w vx x) (hy:ah af m S w vy y)
  (h:ja .fn vx vy=some r):(Op.equal t x y).run P w= .ok r w:=by
 rw [J7];unfold ja at h
 split at h<;>simp_all only [yb,reduceCtorEq]
 all_goals subst h
 ·simp only [ah] at hx hy;subst hx;subst hy;exact axq ht
 ·rename_i f _ _
  cases f with
  | f g=>simp only [ah] at hx hy;obtain ⟨fi,ca,rfl,_⟩:=hy;subst hx;exact afY ht _ _ _
  | y l=>simp only [ah] at hx hy;obtain ⟨p,_,rfl⟩:=hy;subst hx;exact afY ht _ _ _
 ·rename_i f _ _
  cases f with
  | f g=>simp only [ah] at hx hy;obtain ⟨fi,ca,rfl,_⟩:=hx;subst hy;exact afZ ht _ _ _
  | y l=>simp only [ah] at hx hy;obtain ⟨p,_,rfl⟩:=hx;subst hy;exact afZ ht _ _ _
def aqU {op:ycf} {vx v:AV} {x:yg} (hx:ah af m S w vx x) (h:VE.unOp op vx=some v):∃u,(Op.unary op x).run P w= .ok u w/\ah af m S w v u:=by
 unfold VE.unOp at h
 split at h
 ·rename_i k n;simp only [ah] at hx;subst hx;simp only [yb] at h;subst h;exact ⟨_,by simp [Op.unary,Op.intArith];rfl,by simp [ah]⟩
 ·rename_i k n;simp only [ah] at hx;subst hx;simp only [j0,yb] at h;subst h;exact ⟨_,by simp [Op.unary,Op.intBits];rfl,by simp [ah]⟩
 ·rename_i b;simp only [ah] at hx;subst hx;simp only [yb] at h;subst h;exact ⟨_,by simp [Op.unary];rfl,by simp [ah]⟩
 ·rename_i k b;simp only [ah] at hx;subst hx;simp only [yb] at h;subst h;exact ⟨_,by simp [Op.unary,Op.negFloat];rfl,by simp [ah]⟩
 ·cases h
def aaw {s d:yx} {k:xc} {vx v:AV} {x:yg} (hd:P.underlying d=some (.int k)) (hs:(∃k',P.underlying s=some (.int k'))\/∃k',P.underlying s=some (.float k'))
  (hx:ah af m S w vx x) (h:fZ (.toInt k) vx=some v):∃u,(convert s d x).run P w= .ok u w/\ah af m S w v u:=by
 cases vx<;>simp only [fZ,reduceCtorEq] at h
 case int k0 n=>
  simp only [ah] at hx;subst hx;simp only [yb] at h;subst h;refine ⟨.int k (k.wrap n),?_,by simp [ah]⟩;rcases hs with ⟨k',h'⟩ | ⟨k',h'⟩<;>simp [convert,underlying,Conv.intToInt,hd,h']
 case aw sk b=>
  simp only [ah] at hx;subst hx
  cases hi:(sk.decode b).toInt .zero with
  | none=>simp [hi] at h
  | some n=>
   simp only [hi] at h;by_cases hr:k.min<=n/\n<=k.max
   ·simp only [hr,and_self,xO,yb] at h;subst h;refine ⟨.int k n,?_,by simp [ah]⟩;rcases hs with ⟨k',h'⟩ | ⟨k',h'⟩<;>simp [convert,underlying,Conv.floatToInt,hd,h',hi,hr]
   ·simp [hr] at h
def aax {s d:yx} {k:vS} {vx v:AV} {x:yg} (hd:P.underlying d=some (.float k)) (hs:(∃k',P.underlying s=some (.int k'))\/∃k',P.underlying s=some (.float k'))
  (hx:ah af m S w vx x) (h:fZ (.toFlt k) vx=some v):∃u,(convert s d x).run P w= .ok u w/\ah af m S w v u:=by
 cases vx<;>simp only [fZ,reduceCtorEq] at h
 case int k0 n=>
  simp only [ah] at hx;subst hx;simp only [yb] at h;subst h;refine ⟨.float k (k.nearest n),?_,by simp [ah]⟩;rcases hs with ⟨k',h'⟩ | ⟨k',h'⟩<;>simp [convert,underlying,Conv.intToFloat,hd,h']
 case aw sk b=>
  simp only [ah] at hx;subst hx;by_cases he:sk=k
  ·subst he;simp only [xO,yb] at h;subst h;refine ⟨.float sk b,?_,by simp [ah]⟩;rcases hs with ⟨k',h'⟩ | ⟨k',h'⟩<;>simp [convert,underlying,Conv.floatToFloat,hd,h']
  ·simp only [he,xj] at h
   cases Lr:sk.decode b with
   | nan _ _=>simp [Lr] at h
   | infinity _=>simp [Lr] at h
   | number sg mm ee=>
    simp only [Lr] at h
    cases Q1:(k.decode (k.encode (.number sg mm ee))).isInfinity with
    | true=>simp [Q1] at h
    | false=>
     simp only [Q1,yC,xj,yb] at h;subst h;refine ⟨.float k (k.encode (.number sg mm ee)),?_,by simp [ah]⟩;rcases hs with ⟨k',h'⟩ | ⟨k',h'⟩<;>simp [convert,underlying,Conv.floatToFloat,hd,h',he,Lr,Q1]
def aoH {s d:yx} {vx v:AV} {x:yg} (hd:P.underlying d=some .string) (hs:P.underlying s=some .string)
  (hx:ah af m S w vx x) (h:fZ .str vx=some v):∃u,(convert s d x).run P w= .ok u w/\ah af m S w v u:=by
 cases vx<;>simp only [fZ,reduceCtorEq] at h
 simp only [yb] at h;subst h;simp only [ah] at hx;obtain ⟨b,rfl,hb⟩:=hx;exact ⟨.string b,by simp [convert,underlying,hs,hd],by simp only [ah];exact ⟨b,rfl,hb⟩⟩
end
end
section
open Go
def amZ {v:AV} {k:Nat} (h:dw v=some k):∃kd,v= .int kd (k:Int):=by
 cases v<;>simp only [dw,reduceCtorEq] at h
 rename_i kd n
 cases n with
 | ofNat j=>simp only [yb] at h;subst h;exact ⟨kd,rfl⟩
 | negSucc j=>cases h
section
variable {O:a8} {H:Hint} {m:Mp} {S:Nat->Prop} {w:yi} {tm:Env} {a:Act}
def rJ {af:Nat->Nat} {v:AV} {x:yg} {k:Nat} (hx:ah af m S w v x) (h:dw v=some k):∃kd,x= .int kd (k:Int):=by
 obtain ⟨kd,rfl⟩:=amZ h;simp only [ah] at hx
 grind
def run_sliceBound {P:y8} {kd:xc} {k y:Nat} {code:BoundsCode} (h:k<=y):(Instr.sliceBound (.int kd (k:Int)) y code).run P w= .ok k w:=by
 have:(0:Int)<=(k:Int)/\(k:Int)<=(y:Int):=by omega
 simp [Instr.sliceBound,asIntOf,this]
def ZI {P:y8} {isSlice:Bool} {len cap l h:Nat} {lo hi:Option xq} (hH:eQ O H) (ht:bS O m S w tm a.tmps)
  (hl:cM tm 0 (lo.map (aM H))=some l) (hh:cM tm len (hi.map (aM H))=some h) (h1:l<=h) (h2:h<=cap):
  (Instr.sliceBounds isSlice len cap (lo.map a.eval) (hi.map a.eval) none).run P w= .ok (l,h,cap) w:=by
 cases lo with
 | none=>
  simp only [vM,cM,yb] at hl;subst hl
  cases hi with
  | none=>
   simp only [vM,cM,yb] at hh;subst hh;simp [Instr.sliceBounds]
  | some y=>
   obtain ⟨kd,e⟩:=rJ (b9 hH ht y) hh;simp only [Instr.sliceBounds,vM,wz,e,Sem.run_bind,Sem.run_pure,Result.andThen_ok,run_sliceBound h2]
 | some x=>
  obtain ⟨kd,e⟩:=rJ (b9 hH ht x) hl
  cases hi with
  | none=>
   simp only [vM,cM,yb] at hh;subst hh;simp only [Instr.sliceBounds,vM,wz,e,Sem.run_bind,Sem.run_pure,Result.andThen_ok,run_sliceBound h1]
  | some y=>
   obtain ⟨W3,e'⟩:=rJ (b9 hH ht y) hh;simp only [Instr.sliceBounds,wz,e,e',Sem.run_bind,Sem.run_pure,Result.andThen_ok,run_sliceBound h2,run_sliceBound h1]
def am0 {t:yx} {lo hi:Option xq} {vx v:AV} {x:yg} (hH:eQ O H) (ht:bS O m S w tm a.tmps) (hu:O.P.underlying t=some .string)
  (hx:ah O.af m S w vx x) {hp:Hp} (h:eV hp .str vx tm (lo.map (aM H)) (hi.map (aM H))=some v):
  ∃u,(Instr.sliceAt t x (lo.map a.eval) (hi.map a.eval) none).run O.P w= .ok u w/\ah O.af m S w v u:=by
 cases vx<;>simp only [eV,reduceCtorEq] at h
 obtain ⟨b,rfl,rfl⟩:=hx
 cases hl:cM tm 0 (lo.map (aM H)) with
 | none=>simp [hl] at h
 | some l=>
  simp only [hl] at h
  cases hh:cM tm (b.data.toList.map xf).length (hi.map (aM H)) with
  | none=>rw [hh] at h;cases h
  | some g=>
   rw [hh] at h;simp only at h
   cases hc:(yy l g&&yy g (b.data.toList.map xf).length) with
   | false=>rw [hc] at h;cases h
   | true=>
    rw [hc] at h;simp only [yz,yb] at h;subst h;simp only [yf] at hc;have h1:=yp hc.1;have h2:=yp hc.2;have hlen:(b.data.toList.map xf).length=b.size:=ZH b;rw [hlen] at hh h2;refine ⟨.string (b.extract l g),?_,?_⟩
    ·simp only [Instr.sliceAt,Sem.run_bind,run_underlying hu,Result.andThen_ok,Instr.slice,tk,yC,xj,Sem.run_pure,
      ZI (P:=O.P) (isSlice:=false) (len:=b.size) (cap:=b.size) hH ht hl hh h1 h2]
    ·simp only [ah];refine ⟨_,rfl,?_⟩;rw [Lib.extract_data,List.map_take,List.map_drop,List.drop_take]
def aoI {t e:yx} {sz:Nat} {lo hi:Option xq} {vx v:AV} {x:yg} (hH:eQ O H) (ht:bS O m S w tm a.tmps) (hu:O.P.underlying t=some (.slice e)) (hz:cg O.P e=some sz)
  {hp:Hp} {ct:Nat} (hh:aP O m S w hp ct)
  (hx:ah O.af m S w vx x) (h:eV hp (.sl sz) vx tm (lo.map (aM H)) (hi.map (aM H))=some v):
  ∃u,(Instr.sliceAt t x (lo.map a.eval) (hi.map a.eval) none).run O.P w= .ok u w/\ah O.af m S w v u:=by
 have ej:(wW e).run O.P w= .ok sz w:=by
  unfold cg at hz
  cases hi:O.P.info? e with
  | none=>simp [hi] at hz
  | some i=>simp_all [wW,typeInfo]
 have Gs:∀(ad:Option vY) (n c l g:Nat),cM tm 0 (lo.map (aM H))=some l->cM tm n (hi.map (aM H))=some g->l<=g->g<=c->
   (Instr.sliceAt t (.slice ad n c) (lo.map a.eval) (hi.map a.eval) none).run O.P w= .ok (.slice (if c=l then ad else ad.map (·.add (l*sz))) (g-l) (c-l)) w:=by
  intro ad n c l g hl hg h1 h2
  simp only [Instr.sliceAt,Sem.run_bind,run_underlying hu,Result.andThen_ok,Instr.slice,Sem.run_pure,ej,
   ZI (P:=O.P) (isSlice:=true) (len:=n) (cap:=c) hH ht hl hg h1 h2]
 cases vx<;>simp only [eV,reduceCtorEq] at h
 case ae=>
  simp only [ah] at hx;subst hx
  cases hl:cM tm 0 (lo.map (aM H)) with
  | none=>simp [hl] at h
  | some l=>
   cases l with
   | succ l=>simp [hl] at h
   | zero=>
    simp only [hl] at h
    cases hh:cM tm 0 (hi.map (aM H)) with
    | none=>simp [hh] at h
    | some g=>
     cases g with
     | succ g=>simp [hh] at h
     | zero=>
      simp only [hh,yb] at h;subst h;exact ⟨_,Gs none 0 0 0 0 hl hh (yB _) (yB _),by simp [ah]⟩
 case aC ex n cs=>
  simp only [ah] at hx;rcases hx with ⟨b,o,c,rfl,IF,hex,hS,gQ,B9⟩ | ⟨ad,rfl,rfl,rfl⟩
  case inr=>
   cases hl:cM tm 0 (lo.map (aM H)) with
   | none=>simp [hl] at h
   | some l=>
    simp only [hl] at h
    cases hh:cM tm 0 (hi.map (aM H)) with
    | none=>simp [hh] at h
    | some g=>
     simp only [hh] at h
     cases hc:(yy l g&&yy g 0) with
     | false=>rw [hc] at h;cases h
     | true=>
      rw [hc] at h;simp only [yz,yb] at h;subst h;simp only [yf] at hc;have h1:=yp hc.1;have h2:=yp hc.2;have hg:g=0:=by omega
      subst hg;have iP:l=0:=by omega
      subst iP;refine ⟨_,Gs (some ad) 0 0 0 0 hl hh h1 h2,?_⟩;simp only [ah];exact .inr ⟨ad,by simp,by simp,by simp [slice]⟩
  cases hl:cM tm 0 (lo.map (aM H)) with
  | none=>simp [hl] at h
  | some l=>
   simp only [hl] at h
   cases hh:cM tm n (hi.map (aM H)) with
   | none=>simp [hh] at h
   | some g=>
    simp only [hh] at h
    cases hc:(yy l g&&yy g n) with
    | false=>rw [hc] at h;cases h
    | true=>
     rw [hc] at h;simp only [yz,yb] at h;subst h;simp only [yf] at hc;have h1:=yp hc.1;have h2:=yp hc.2;refine ⟨_,Gs (some ⟨b,o,none⟩) n c l g hl hh h1 (by omega),?_⟩;have By:aI (slice (l*sz) ((g-l)*sz) cs)=true:=by
      have pd:∀(k:Nat) (cs:List AV),aI cs=true->aI (cs.drop k)=true:=by
       intro k
       induction k with
       | zero=>intro cs h;simpa using h
       | succ k ih=>intro cs h;cases cs with
        | nil=>simpa using h
        | cons c cs=>simp only [aI,yf] at h;simpa using ih cs h.2
      have pt:∀(k:Nat) (cs:List AV),aI cs=true->aI (cs.take k)=true:=by
       intro k
       induction k with
       | zero=>intro cs h;simp [aI]
       | succ k ih=>intro cs h;cases cs with
        | nil=>simp [aI]
        | cons c cs=>simp only [aI,yf,xW] at h ⊢;exact ⟨h.1,ih cs h.2⟩
      exact pt _ _ (pd _ _ gQ)
     have ahk:(ex&&yq g n)=true->c-l=g-l:=by
      intro hq;simp only [yf] at hq
      have:=hex hq.1
      have:=yj hq.2
      omega
     simp only [ah];by_cases gR:c=l
     ·have h0:g-l=0:=by omega
      have sJ:slice (l*sz) ((g-l)*sz) cs=[]:=by simp [slice,h0]
      rw [sJ];exact .inl ⟨b,o,c-l,by simp [gR],by omega,ahk,.inl rfl,rfl,by simp [bK]⟩
     ·refine .inl ⟨b,o+l*sz,c-l,by simp [gR,mz],by omega,ahk,?_,By,?_⟩
      ·rcases hS with rfl | hS
       ·exact .inl (by simp [slice])
       ·exact .inr hS
      ·exact zf _ _ _ _ (oQ _ _ _ _ B9)
 case aE id o n=>
  simp only [ah] at hx;obtain ⟨p,c,hm,rfl,IF,Nx⟩:=hx
  split at h
  case h_2=>cases h
  rename_i W4 pu0 qR z0 cs0 Bz;obtain ⟨p',arr,t',gS,_,fA,_⟩:=hh.obj id _ _ Bz hm;rw [hm] at gS;injection gS with gS
  subst gS
  cases hl:cM tm 0 (lo.map (aM H)) with
  | none=>simp [hl] at h
  | some l=>
   simp only [hl] at h
   cases hh:cM tm n (hi.map (aM H)) with
   | none=>simp [hh] at h
   | some g=>
    simp only [hh] at h
    cases hc:(yy l g&&yy g n&&yq z0 sz) with
    | false=>rw [hc] at h;cases h
    | true=>
     rw [hc] at h;simp only [yz] at h;simp only [yf] at hc;have h1:=yp hc.1.1;have h2:=yp hc.1.2;have hpz:p.z=sz:=fA.trans (yj hc.2)
     cases he:(yq l g&& !yq l 0) with
     | true=>
      rw [he] at h;simp only [yz,yb] at h;subst h;simp only [yf] at he;have Ap:=yj he.1;refine ⟨_,Gs (some ⟨p.b,p.o+o,none⟩) n c l g hl hh h1 (by omega),?_⟩;simp only [ah];by_cases gR:c=l
      ·exact .inl ⟨p.b,p.o+o,c-l,by simp [gR];omega,by omega,by simp,by simp,by simp [aI],by simp [bK]⟩
      ·exact .inl ⟨p.b,p.o+o+l*sz,c-l,by simp [gR,mz];omega,by omega,by simp,by simp,by simp [aI],by simp [bK]⟩
     | false=>
      rw [he] at h;simp only [yY,yb] at h;subst h;have gR:c=l->l=0:=by
       intro gR;have Ap:l=g:=by omega
       cases iP:yq l 0 with
       | true=>exact yj iP
       | false=>rw [Ap,wu,<-Ap,iP] at he;cases he
      refine ⟨_,Gs (some ⟨p.b,p.o+o,none⟩) n c l g hl hh h1 (by omega),?_⟩;simp only [ah];refine ⟨p,c-l,hm,?_,by omega,?_⟩
      ·by_cases Q2:c=l
       ·have:=gR Q2;subst this;subst Q2;simp
       ·simp [Q2,mz,uf]
      ·rw [hpz] at Nx ⊢
       have:c*sz=l*sz+(c-l)*sz:=by rw [<-xS];congr 1;omega
       omega
end
end
section
open Go
def mo {P:y8} {w:yi} {t:yx} {sz:Nat} (hz:cg P t=some sz):(wW t).run P w= .ok sz w:=by
 unfold cg at hz
 cases hi:P.info? t with
 | none=>simp [hi] at hz
 | some i=>simp_all [wW,typeInfo]
section
variable {O:a8} {H:Hint} {m:Mp} {S:Nat->Prop} {w:yi} {tm:Env} {a:Act} {hp:Hp} {ct:Nat}
def Pb {id o n:Nat} {rw pu ex:Bool} {sz:Nat} {cs:List AV} {p:Pl} (hh:aP O m S w hp ct) (hg:aA hp id=some (.cells rw pu ex sz cs)) (hm:m id=some p):
  bK O.af m S w cs p.b p.o:=by
 obtain ⟨p',arr,t',gS,_,_,_,_,_,hr,_⟩:=hh.obj id _ _ hg hm
 grind
def axr {t:yx} {sz:Nat} {ag:Bool} {vx v:AV} {x:yg} (hh:aP O m S w hp ct) (hz:cg O.P t=some sz) (ha:dz O.P t=some ag) (hx:ah O.af m S w vx x)
  (h:iM hp sz ag vx=some v):∃u,(Instr.loadAt t x).run O.P w= .ok u w/\ah O.af m S w v u:=by
 cases vx<;>simp only [iM,reduceCtorEq] at h
 case ptr id o=>
  obtain ⟨p,hm,rfl⟩:=hx
  split at h
  case h_2=>cases h
  rename_i W4 pu0 qR z0 cs0 Bz;have hr:=Pb (id:=id) (o:=0) (n:=0) hh Bz hm;obtain ⟨u,h1,h2⟩:=Kq hz ha (oQ o cs0 p.b p.o hr) h;exact ⟨u,by simp only [Instr.loadAt,Instr.sureAddr,Sem.run_bind,Sem.run_pure,Result.andThen_ok];exact h1,h2⟩
 case b7 cs=>
  obtain ⟨b,o,rfl,_,_,hr⟩:=hx;obtain ⟨u,h1,h2⟩:=Kq hz ha hr h;exact ⟨u,by simp only [Instr.loadAt,Instr.sureAddr,Sem.run_bind,Sem.run_pure,Result.andThen_ok];exact h1,h2⟩
def rC:∀(k:Nat) (cs:List AV),aI cs=true->aI (cs.drop k)=true
 | 0,cs,h=>by simpa using h
 | k+1,[],h=>by simpa using h
 | k+1,c::cs,h=>by simp only [aI,yf] at h;simpa using rC k cs h.2
def OQ {cs:List AV} {b o k:Nat} (h2:cs=[]\/S b) (h3:aI cs=true) (h4:bK O.af m S w cs b o):ah O.af m S w (.b7 (cs.drop k)) (.pointer (some ⟨b,o+k,none⟩)):=by
 refine ⟨b,o+k,rfl,?_,rC k cs h3,oQ k cs b o h4⟩
 grind
def ata {t:yx} {fs:Array td} {i:Nat} {f:td} {sz:Nat} {vx v:AV} {x:yg} (hu:O.P.underlying t=some (.struct fs)) (hf:fs[i]? =some f) (hz:cg O.P f.type=some (sz+1))
  (hx:ah O.af m S w vx x)
  (h:G5 f.offset vx=some v):∃u,(Instr.fieldAt t x i).run O.P w= .ok u w/\ah O.af m S w v u:=by
 have af0:∀(b o:Nat),(Instr.fieldAt t (.pointer (some ⟨b,o,none⟩)) i).run O.P w= .ok (.pointer (some ⟨b,o+f.offset,none⟩)) w:=by
  intro b o;simp only [Instr.fieldAt,Sem.run_bind,run_underlying hu,Result.andThen_ok,hf,Instr.sureAddr,Sem.run_pure,fieldPlace,mo hz,Nat.succ_ne_zero,xj,mz]
 cases vx<;>simp only [G5,reduceCtorEq] at h
 case ptr id o=>
  obtain ⟨p,hm,rfl⟩:=hx;simp only [yb] at h;subst h;exact ⟨_,af0 _ _,by simp only [ah];exact ⟨p,hm,by rw [uf]⟩⟩
 case b7 cs=>
  obtain ⟨b,o,rfl,h2,h3,h4⟩:=hx
  cases hc:yy f.offset cs.length with
  | false=>rw [hc] at h;cases h
  | true=>
   rw [hc] at h;simp only [yz,yb] at h;subst h;exact ⟨_,af0 _ _,OQ h2 h3 h4⟩
def atb {t:yx} {fs:Array td} {i:Nat} {f:td} {sz:Nat} {ag:Bool} {vx v:AV} {x:yg} (hu:O.P.underlying t=some (.struct fs)) (hf:fs[i]? =some f)
  (hz:cg O.P f.type=some sz) (ha:dz O.P f.type=some ag) (hx:ah O.af m S w vx x)
  (h:KV f.offset sz ag vx=some v):∃u,(Instr.field t x i).run O.P w= .ok u w/\ah O.af m S w v u:=by
 cases vx<;>simp only [KV,reduceCtorEq] at h
 obtain ⟨xs,rfl,hr⟩:=hx;obtain ⟨u,h1,h2⟩:=abu hz ha hr h;exact ⟨u,by simp only [Instr.field,Sem.run_bind,run_underlying hu,Result.andThen_ok,hf,asAgg,Sem.run_pure];exact h1,h2⟩
def atc {t e:yx} {sz k:Nat} {vx vi v:AV} {x i:yg} (hu:O.P.underlying t=some (.slice e)) (hz:cg O.P e=some sz) (hx:ah O.af m S w vx x) (hi:ah O.af m S w vi i)
  (hk:dw vi=some k)
  (h:j8 sz k vx=some v):∃u,(Instr.indexAt t x i).run O.P w= .ok u w/\ah O.af m S w v u:=by
 obtain ⟨kd,rfl⟩:=rJ hi hk;have Ha:∀(b o n c:Nat),k<n->(Instr.indexAt t (.slice (some ⟨b,o,none⟩) n c) (.int kd (k:Int))).run O.P w= .ok (.pointer (some ⟨b,o+k*sz,none⟩)) w:=by
  intro b o n c qS;have hr:(0:Int)<=(k:Int)/\(k:Int)<(n:Int):=by omega
  simp [Instr.indexAt,asIntOf,run_underlying hu,mo hz,hr,mz]
  grind
 cases vx<;>simp only [j8,reduceCtorEq] at h
 case aE id o n=>
  obtain ⟨p,c,hm,rfl,IF,Nx⟩:=hx
  cases hc:yK k n with
  | false=>rw [hc] at h;cases h
  | true=>
   rw [hc] at h;simp only [yz,yb] at h;subst h;have qS:k<n:=by simp_all
   exact ⟨_,Ha _ _ _ _ qS,by simp only [ah];exact ⟨p,hm,by rw [uf]⟩⟩
 case aC ex n cs=>
  rcases hx with ⟨b,o,c,rfl,IF,hex,h2,h3,h4⟩ | ⟨a,rfl,rfl,rfl⟩
  case inr=>
   have:yK k 0=false:=by cases hq:yK k 0 with | false=>rfl | true=>simp only [yK,ycv] at hq;omega
   grind
  cases hc:yK k n with
  | false=>rw [hc] at h;cases h
  | true=>
   rw [hc] at h;simp only [yz,yb] at h;subst h;have qS:k<n:=by simp_all
   exact ⟨_,Ha _ _ _ _ qS,OQ h2 h3 h4⟩
def atd {t e:yx} {len sz k:Nat} {vx vi v:AV} {x i:yg} (hu:O.P.underlying t=some (.array len e)) (hz:cg O.P e=some sz) (hx:ah O.af m S w vx x) (hi:ah O.af m S w vi i)
  (hk:dw vi=some k)
  (h:KW len sz k vx=some v):∃u,(Instr.indexAt t x i).run O.P w= .ok u w/\ah O.af m S w v u:=by
 obtain ⟨kd,rfl⟩:=rJ hi hk;have Ha:∀(b o:Nat),k<len->(Instr.indexAt t (.pointer (some ⟨b,o,none⟩)) (.int kd (k:Int))).run O.P w= .ok (.pointer (some ⟨b,o+k*sz,none⟩)) w:=by
  intro b o qS;have hr:(0:Int)<=(k:Int)/\(k:Int)<(len:Int):=by omega
  simp [Instr.indexAt,asIntOf,run_underlying hu,mo hz,hr,mz,Instr.sureAddr]
  grind
 cases vx<;>simp only [KW,reduceCtorEq] at h
 case ptr id o=>
  obtain ⟨p,hm,rfl⟩:=hx
  cases hc:yK k len with
  | false=>rw [hc] at h;cases h
  | true=>
   rw [hc] at h;simp only [yz,yb] at h;subst h;have qS:k<len:=by simp_all
   exact ⟨_,Ha _ _ qS,by simp only [ah];exact ⟨p,hm,by rw [uf]⟩⟩
 case b7 cs=>
  obtain ⟨b,o,rfl,h2,h3,h4⟩:=hx
  cases hc:yK k len with
  | false=>rw [hc] at h;cases h
  | true=>
   rw [hc] at h;simp only [yz,yb] at h;subst h;have qS:k<len:=by simp_all
   exact ⟨_,Ha _ _ qS,OQ h2 h3 h4⟩
def ate {t e:yx} {len sz k:Nat} {ag:Bool} {vx vi v:AV} {x i:yg} (hu:O.P.underlying t=some (.array len e)) (hz:cg O.P e=some sz) (ha:dz O.P e=some ag)
  (hx:ah O.af m S w vx x) (hi:ah O.af m S w vi i) (hk:dw vi=some k)
  (h:KX len sz ag k vx=some v):
  ∃u,(Instr.index t x i).run O.P w= .ok u w/\ah O.af m S w v u:=by
 obtain ⟨kd,rfl⟩:=rJ hi hk;cases vx<;>simp only [KX,reduceCtorEq] at h
 obtain ⟨xs,rfl,hr⟩:=hx
 cases hc:yK k len with
 | false=>rw [hc] at h;cases h
 | true=>
  rw [hc] at h;have qS:k<len:=by simp_all
  obtain ⟨u,h1,h2⟩:=abu hz ha hr h;have bW:(0:Int)<=(k:Int)/\(k:Int)<(len:Int):=by omega
  exact ⟨u,by simp [Instr.index,asIntOf,run_underlying hu,mo hz,bW,h1];intro hle;exact absurd hle (by omega),h2⟩
def atf {t:yx} {k:Nat} {vx vi v:AV} {x i:yg} (hu:O.P.underlying t=some .string) (hx:ah O.af m S w vx x) (hi:ah O.af m S w vi i) (hk:dw vi=some k)
  (h:lS k vx=some v):
  ∃u,(Instr.index t x i).run O.P w= .ok u w/\ah O.af m S w v u:=by
 obtain ⟨kd,rfl⟩:=rJ hi hk;cases vx<;>simp only [lS,reduceCtorEq] at h
 obtain ⟨b,rfl,rfl⟩:=hx
 cases hs:(b.data.toList.map xf)[k]? with
 | none=>rw [hs] at h;cases h
 | some q=>
  rw [hs] at h;simp only [yb] at h;subst h;rw [yaI] at hs
  cases hb:b.data.toList[k]? with
  | none=>rw [hb] at hs;cases hs
  | some c=>
   rw [hb] at hs;simp only [wz,yb] at hs;subst hs;have bC:b[k]? =some c:=by
    have aG:k<b.data.toList.length:=by
     grind
    have ej:k<b.size:=by simp_all
    rw [getElem?_pos b k ej];rw [wx aG] at hb;rw [<-hb];rfl
   refine ⟨.int .u8 c.toNat,?_,by simp [ah]⟩;simp [Instr.index,asIntOf,run_underlying hu,bC]
end
end
section
open Go
section
variable {af:Nat->Nat} {m:Mp} {S:Nat->Prop} {w:yi}
def OR:∀{v:AV} {u:yg},ah af m S w v u->cF (cellsOf v)=true->au af m S w (cellsOf v) u.cells.toList:=by
 intro v u h h1;cases v
 case agg cs=>
  simp only [ah] at h;obtain ⟨xs,rfl,hr⟩:=h;exact hr
 case aa vs=>simp [cellsOf,cF,dV] at h1
 case undef=>simp [cellsOf,cF,dV] at h1
 case bE=>simp [cellsOf,cF,dV] at h1
 case fn f a b=>
  cases f with
  | f g=>have h':=h;simp only [ah] at h';obtain ⟨fi,ca,rfl,_⟩:=h';simp only [cellsOf,Value.cells,au];exact ⟨_,_,rfl,h,rfl⟩
  | y l=>have h':=h;simp only [ah] at h';obtain ⟨p,_,rfl⟩:=h';simp only [cellsOf,Value.cells,au];exact ⟨_,_,rfl,h,rfl⟩
 case str s=>have h':=h;simp only [ah] at h';obtain ⟨b,rfl,_⟩:=h';simp only [cellsOf,Value.cells,au];exact ⟨_,_,rfl,h,rfl⟩
 case ptr id o=>have h':=h;simp only [ah] at h';obtain ⟨b,_,rfl⟩:=h';simp only [cellsOf,Value.cells,au];exact ⟨_,_,rfl,h,rfl⟩
 case b7 cs=>have h':=h;simp only [ah] at h';obtain ⟨b,o,rfl,_⟩:=h';simp only [cellsOf,Value.cells,au];exact ⟨_,_,rfl,h,rfl⟩
 case aC e n cs=>have h':=h;simp only [ah] at h';rcases h' with ⟨b,o,c,rfl,_⟩ | ⟨a,rfl,_,_⟩<;>(simp only [cellsOf,Value.cells,au];exact ⟨_,_,rfl,h,rfl⟩)
 case aE id o n=>have h':=h;simp only [ah] at h';obtain ⟨p,c,_,rfl,_⟩:=h';simp only [cellsOf,Value.cells,au];exact ⟨_,_,rfl,h,rfl⟩
 case map id=>have h':=h;simp only [ah] at h';obtain ⟨p,_,rfl⟩:=h';simp only [cellsOf,Value.cells,au];exact ⟨_,_,rfl,h,rfl⟩
 case iL ks vs=>have h':=h;simp only [ah] at h';obtain ⟨b,es,cl,rfl,_⟩:=h';simp only [cellsOf,Value.cells,au];exact ⟨_,_,rfl,h,rfl⟩
 case it id=>have h':=h;simp only [ah] at h';obtain ⟨p,_,rfl⟩:=h';simp only [cellsOf,Value.cells,au];exact ⟨_,_,rfl,h,rfl⟩
 all_goals
  have h':=h;simp only [ah] at h';subst h';simp only [cellsOf,Value.cells,au];exact ⟨_,_,rfl,h,rfl⟩
def AT (v:yg):au af m S w (cellsOf (dW v)) v.cells.toList:=by
 have h:=Kp (af:=af) (m:=m) (S:=S) (w:=w) v;cases v
 case agg xs=>
  obtain ⟨l⟩:=xs;simp only [dW,ah] at h ⊢;obtain ⟨xs,e,hr⟩:=h;injection e with e
  subst e;exact hr
 case tuple xs=>obtain ⟨l⟩:=xs;simp only [dW] at h ⊢;simp only [cellsOf,Value.cells,au];exact ⟨_,_,rfl,h,rfl⟩
 case pointer p=>cases p<;>(simp only [dW] at h ⊢;simp only [cellsOf,Value.cells,au];exact ⟨_,_,rfl,h,rfl⟩)
 case map p=>cases p<;>(simp only [dW] at h ⊢;simp only [cellsOf,Value.cells,au];exact ⟨_,_,rfl,h,rfl⟩)
 case slice p n c=>
  cases p
  ·cases n
   ·cases c<;>(simp only [dW] at h ⊢;simp only [cellsOf,Value.cells,au];exact ⟨_,_,rfl,h,rfl⟩)
   ·simp only [dW] at h ⊢;simp only [cellsOf,Value.cells,au];exact ⟨_,_,rfl,h,rfl⟩
  ·simp only [dW] at h ⊢;simp only [cellsOf,Value.cells,au];exact ⟨_,_,rfl,h,rfl⟩
 all_goals (simp only [dW] at h ⊢;simp only [cellsOf,Value.cells,au];exact ⟨_,_,rfl,h,rfl⟩)
def jU:∀{a b:List AV} {x y:List yg},au af m S w a x->au af m S w b y->au af m S w (a++b) (x++y)
 | [],b,x,y,h,k=>by simp only [au] at h;subst h;simpa using k
 | c::a,b,x,y,h,k=>by
  simp only [au] at h;obtain ⟨u,r,rfl,h2,h3⟩:=h;simp only [xh,au];exact ⟨u,r++y,rfl,h2,jU h3 k⟩
def FV:∀(k:Nat) {cs:List AV} {us:List yg},au af m S w cs us->au af m S w (cs.drop k) (us.drop k)
 | 0,cs,us,h=>by simpa using h
 | k+1,[],us,h=>by simp only [au] at h;subst h;simp [au]
 | k+1,c::cs,us,h=>by simp only [au] at h;obtain ⟨u,r,rfl,_,h3⟩:=h;simpa using FV k h3
def CL:∀(k:Nat) {cs:List AV} {us:List yg},au af m S w cs us->au af m S w (cs.take k) (us.take k)
 | 0,cs,us,h=>by simp [au]
 | k+1,[],us,h=>by simp only [au] at h;subst h;simp [au]
 | k+1,c::cs,us,h=>by
  simp only [au] at h;obtain ⟨u,r,rfl,h2,h3⟩:=h;simp only [xW,au];exact ⟨u,_,rfl,h2,CL k h3⟩
def Pc:∀{cs:List AV} {us:List yg} {i:Nat} {v:AV},au af m S w cs us->cs[i]? =some v->∃u,us[i]? =some u/\ah af m S w v u
 | [],us,i,v,_,h=>by simp at h
 | c::cs,us,0,v,h,e=>by
  simp only [au] at h;obtain ⟨u,r,rfl,h2,h3⟩:=h;simp at e;subst e;exact ⟨u,rfl,h2⟩
 | c::cs,us,i+1,v,h,e=>by
  simp only [au] at h;obtain ⟨u,r,rfl,h2,h3⟩:=h;simp at e;simpa using Pc h3 e
end
def ZJ (off:Nat):∀(new:List yg) (j:Nat) (cells:Array yg),off+j+new.length<=cells.size->
  ((new.zipIdx j).foldl (fun (cs:Array yg) (p:yg×Nat)=>cs.setIfInBounds (off+p.2) p.1) cells).toList=
   cells.toList.take (off+j)++new++cells.toList.drop (off+j+new.length)
 | [],j,cells,_=>by simp
 | v::r,j,cells,h=>by
  simp only [yO] at h;have ih:=ZJ off r (j+1) (cells.setIfInBounds (off+j) v) (by simp;omega);simp only [List.zipIdx_cons,List.foldl_cons];rw [ih];have aG:off+j<cells.toList.length:=by simp;omega
  have h1:(cells.setIfInBounds (off+j) v).toList=cells.toList.set (off+j) v:=by simp
  rw [h1,show off+(j+1)=off+j+1 by omega];have h2:(cells.toList.set (off+j) v).take (off+j+1)=cells.toList.take (off+j)++[v]:=by
   rw [List.take_succ_eq_append_getElem (by simpa using aG)];simp [List.take_set_of_le]
  have h3:(cells.toList.set (off+j) v).drop (off+j+1+r.length)=cells.toList.drop (off+j+(r.length+1)):=by
   rw [List.drop_set_of_lt (by omega)];congr 1;omega
  rw [h2,h3]
  simp
section
variable {O:a8} {H:Hint} {m:Mp} {S:Nat->Prop} {w:yi} {tm:Env} {a:Act}
def Kr (hH:eQ O H) (ht:bS O m S w tm a.tmps) {place:Nat->Option (Nat×Nat)}:∀(parts:List (Nat×xq)) (ps:List (Nat×Nat×X)) (zero cs:List AV) (cells:Array yg),
  partsOf H place parts=some ps->au O.af m S w zero cells.toList->fill tm zero ps=some cs->
  ∃out,Instr.fill place cells (parts.map fun p=>(p.1,a.eval p.2))=some out/\au O.af m S w cs out.toList
 | [],ps,zero,cs,cells,hp,hz,hf=>by
  simp only [partsOf,yb] at hp;subst hp;simp only [fill,yb] at hf;subst hf;exact ⟨cells,rfl,hz⟩
 | (i,x)::r,ps,zero,cs,cells,hp,hz,hf=>by
  simp only [partsOf] at hp
  cases lZ:place i with
  | none=>simp [lZ] at hp
  | some q=>
   obtain ⟨o,s⟩:=q;simp only [lZ] at hp
   cases mZ:partsOf H place r with
   | none=>simp [mZ] at hp
   | some l=>
    simp only [mZ,yb] at hp;subst hp;simp only [fill] at hf
    cases hc:(yq (cellsOf (ay tm (aM H x))).length s&&yy (o+s) zero.length&&cF (cellsOf (ay tm (aM H x)))) with
    | false=>rw [hc] at hf;cases hf
    | true=>
     rw [hc] at hf;simp only [yz] at hf;simp only [yf] at hc;have hs:=yj hc.1.1;have hle:=yp hc.1.2;have hrx:=OR (b9 hH ht x) hc.2;have ma:=fX _ _ hrx;have qU:=fX _ _ hz;have ej:(a.eval x).cells.size=s:=by rw [<-hs,<-ma];simp
     have Aq:cells.size=zero.length:=by rw [<-qU];simp
     have axs:=ZJ o (a.eval x).cells.toList 0 cells (by simp;omega);have fA:au O.af m S w (over o (cellsOf (ay tm (aM H x))) zero)
       ((a.eval x).cells.zipIdx.foldl (fun (cs:Array yg) (p:yg×Nat)=>cs.setIfInBounds (o+p.2) p.1) cells).toList:=by
      rw [<-Array.foldl_toList,Array.toList_zipIdx,axs];simp only [over,yV];rw [show (a.eval x).cells.toList.length=(cellsOf (ay tm (aM H x))).length from ma];exact jU (jU (CL o hz) hrx) (FV _ hz)
     obtain ⟨out,h1,h2⟩:=Kr hH ht r l _ cs _ mZ fA hf;refine ⟨out,?_,h2⟩;simp only [xi,Instr.fill,lZ,ej];rw [yv (by simp;omega)];exact h1
end
end
section
open Go
def ZK (p q:ByteArray):(p==q)=cG (kU p) (kU q):=by
 have h:(p==q)=(p.data==q.data):=by cases p;cases q;rfl
 rw [h,ZG,ByteArray.toList_eq,ByteArray.toList_eq];rw [uK,yaC,yaC];constructor
 ·intro e;rw [e]
 ·intro e;have:=congrArg List.toArray e;simpa using this
def Ls:wQ->Bool
 | .bool | .int _ | .string=>true
 | _=>false
def fits (d:wQ) (v:AV):Bool:=
 match d,v with
 | .int _,.int _ _ | .string,.str _ | .bool,.bool _=>true
 | _,_=>false
def Found (af:Nat->Nat) (m:Mp) (S:Nat->Prop) (w:yi) (f:Option (Option (Nat×yg))):Option AV->Prop
 | none=>f=some none
 | some v=>∃j u,f=some (some (j,u))/\ah af m S w v u
section
variable {O:a8} {af:Nat->Nat} {m:Mp} {S:Nat->Prop} {w:yi}
def aay {vk vk':AV} {k k':yg} {r:Bool} {d:wQ} (hk:ah af m S w vk k) (Ar:ah af m S w vk' k') (h:Dg vk vk'=some r)
  (hd:fits d vk=true):Instr.sameNow d k k'=some r:=by
 unfold Dg at h
 split at h
 ·rename_i j x j' y;simp only [ah] at hk Ar;subst hk;subst Ar;by_cases hj:j=j'
  ·simp only [hj,xO,yb] at h;subst hj;cases d<;>simp [fits] at hd
   simpa [Instr.sameNow] using h
  ·simp [hj] at h
 ·simp only [ah] at hk Ar;obtain ⟨s,rfl,rfl⟩:=hk;obtain ⟨s',rfl,rfl⟩:=Ar;simp only [yb] at h;cases d<;>simp [fits] at hd
  simp only [Instr.sameNow,ZK];rw [<-h];rfl
 ·simp only [ah] at hk Ar;subst hk;subst Ar;simp only [yb] at h;cases d<;>simp [fits] at hd
  simp [Instr.sameNow,h]
 ·cases h
def Pd {vk:AV} {k:yg} {d:wQ} (hk:ah af m S w vk k)
  (hd:fits d vk=true):∀(ks vs:List AV) (es:List vT) (i:Nat) (r:Option AV),
  au af m S w ks (es.map (·.key))->au af m S w vs (es.map (·.val))->Bv vk ks vs=some r->Found af m S w (Instr.findNow d k es i) r
 | [],vs,es,i,r,h1,h2,h=>by
  simp only [au,yau] at h1;subst h1;simp only [Bv,yb] at h;subst h;rfl
 | c::ks,[],es,i,r,h1,h2,h=>by simp only [Bv] at h;cases h
 | c::ks,v::vs,es,i,r,h1,h2,h=>by
  cases es with
  | nil=>simp [au] at h1
  | cons e es=>
   simp only [xi,au,tu] at h1 h2;obtain ⟨u,t,⟨rfl,rfl⟩,hc,Ny⟩:=h1;obtain ⟨u',t',⟨rfl,rfl⟩,hv,sK⟩:=h2;simp only [Bv] at h
   cases sL:Dg vk c with
   | none=>simp [sL] at h
   | some b=>
    have hs:=aay (d:=d) hk hc sL hd
    cases b with
    | true=>
     simp only [sL,yb] at h;subst h;exact ⟨i,e.val,by simp [Instr.findNow,hs],hv⟩
    | false=>
     simp only [sL] at h;have ih:=Pd hk hd ks vs es (i+1) r Ny sK h;simpa [Instr.findNow,hs] using ih
def Ju {P:y8} {kt:yx} {d:wQ} (hu:P.underlying kt=some d) (hd:Ls d=true) (b:Bool) (k:yg):(Instr.checkKey b 10000 kt k).run P w= .ok () w:=by
 have:∀n,(Instr.checkKey b (n+1) kt k).run P w= .ok () w:=by
  intro n;cases d<;>simp [Ls] at hd<;>simp [Instr.checkKey,run_underlying hu]
 exact this 9999
def atg {t kt e:yx} {d:wQ} {ok:Bool} {hp:Hp} {ct:Nat} {vx vk v:AV} {x k zero:yg} (hh:aP O m S w hp ct) (hu:O.P.underlying t=some (.map kt e)) (hk:O.P.underlying kt=some d) (hd:Ls d=true)
  (hdk:fits d vk=true)
  (hz:(zeroValue e).run O.P w= .ok zero w) (hx:ah O.af m S w vx x) (hkr:ah O.af m S w vk k) {z:AV} (W5:ah O.af m S w z zero)
  {r:Option AV}
  (hr:zM hp vk vx=some r)
  (hv:(match r with | some u=>(bif ok then AV.aa [u,.bool true] else u) | none=>(bif ok then AV.aa [z,.bool false] else z))=v):
  ∃u,(Instr.lookup t x k ok).run O.P w= .ok u w/\ah O.af m S w v u:=by
 have fin:∀(u:AV) (uu:yg) (b:Bool),ah O.af m S w u uu->ah O.af m S w (bif ok then AV.aa [u,.bool b] else u) (if ok then .tuple #[uu,.bool b] else uu):=by
  intro u uu b h
  cases ok with
  | true=>simp only [yz,xO,ah,au];exact ⟨_,rfl,_,_,rfl,h,_,_,rfl,rfl,rfl⟩
  | false=>simpa using h
 have body:∀(x':yg) (es:Array vT),((x'= .map none/\es=#[])\/∃b clock,x'= .map (some b)/\w.heap[b]? =some (.map es clock))->Found O.af m S w (Instr.findNow d k es.toList 0) r->
   ∃u,(Instr.lookup t x' k ok).run O.P w= .ok u w/\ah O.af m S w v u:=by
  intro x' es hl hf
  cases r with
  | none=>
   have As:Instr.findNow d k es.toList 0=some none:=hf;refine ⟨if ok then .tuple #[zero,.bool false] else zero,?_,by rw [<-hv];exact fin z zero false W5⟩
   rcases hl with ⟨rfl,rfl⟩ | ⟨b,clock,rfl,hb⟩
   ·have Q3:Instr.findNow d k [] 0=some none:=rfl;simp [Instr.lookup,run_underlying hu,Ju hk hd,Instr.findKey,run_underlying hk,Q3,hz]
   ·simp [Instr.lookup,run_underlying hu,getObj,Sem.run,hb,Ju hk hd,Instr.findKey,run_underlying hk,As,hz]
  | some v'=>
   obtain ⟨j,u,h1,h2⟩:=hf;refine ⟨if ok then .tuple #[u,.bool true] else u,?_,by rw [<-hv];exact fin v' u true h2⟩
   rcases hl with ⟨rfl,rfl⟩ | ⟨b,clock,rfl,hb⟩
   ·have Q3:Instr.findNow d k [] 0=some none:=rfl;rw [show (#[]:Array vT).toList=[] from rfl,Q3] at h1;cases h1
   ·simp [Instr.lookup,run_underlying hu,getObj,Sem.run,hb,Ju hk hd,Instr.findKey,run_underlying hk,h1]
 cases vx<;>simp only [zM,reduceCtorEq] at hr
 case ju=>
  simp only [yb] at hr;subst hr;simp only [ah] at hx;subst hx;exact body _ #[] (.inl ⟨rfl,rfl⟩) rfl
 case map id=>
  simp only [ah] at hx;obtain ⟨p,hm,rfl⟩:=hx
  split at hr
  case h_2=>cases hr
  rename_i W4 ks vs Bz;obtain ⟨p',es,clock,gS,hb,h1,h2,_⟩:=hh.obj id _ _ Bz hm;rw [hm] at gS;injection gS with gS;subst gS
  exact body _ es (.inr ⟨_,_,rfl,hb⟩) (Pd hkr hdk ks vs es.toList 0 r h1 h2 hr)
 case iL ks vs=>
  simp only [ah] at hx;obtain ⟨b,es,clock,rfl,_,_,_,hb,h1,h2⟩:=hx;exact body _ es (.inr ⟨_,_,rfl,hb⟩) (Pd hkr hdk ks vs es.toList 0 r h1 h2 hr)
end
end
section
open Go
def FK:∀(k1 k2:List Nat) (a b:List AV) (r:Bool),dS (k1++k2) a b=some r->
  ∃r1 r2,dS k1 (a.take k1.length) (b.take k1.length)=some r1/\dS k2 (a.drop k1.length) (b.drop k1.length)=some r2/\r=(r1&&r2)
 | [],k2,a,b,r,h=>⟨true,r,by simp [dS],by simpa using h,by simp⟩
 | k::k1,k2,[],b,r,h=>by
  simp only [xh] at h;unfold dS at h
  grind
 | k::k1,k2,x::a,[],r,h=>by
  unfold dS at h
  grind
 | k::k1,k2,x::a,y::b,r,h=>by
  have step:∀(q:Bool) (f:Bool->Bool),(match dS (k1++k2) a b with | some r=>some (f r) | none=>none)=some q->∃r0,dS (k1++k2) a b=some r0/\q=f r0:=by grind
  unfold dS at h
  split at h
  ·grind
  ·rename_i e1 e2 e3;obtain ⟨rfl,rfl⟩:=e1;obtain ⟨rfl,rfl⟩:=e2;obtain ⟨rfl,rfl⟩:=e3;obtain ⟨r0,h0,rfl⟩:=step r _ h;obtain ⟨r1,r2,h1,h2,rfl⟩:=FK k1 k2 _ _ r0 h0;exact ⟨_,r2,by simp only [yO,xW,dS,h1],by simpa using h2,(tR _ _ _).symm⟩
  ·rename_i e1 e2 e3;obtain ⟨rfl,rfl⟩:=e1;obtain ⟨rfl,rfl⟩:=e2;obtain ⟨rfl,rfl⟩:=e3
   split at h
   ·rename_i hk;obtain ⟨r0,h0,rfl⟩:=step r _ h;obtain ⟨r1,r2,h1,h2,rfl⟩:=FK k1 k2 _ _ r0 h0;exact ⟨_,r2,by simp only [yO,xW,dS,h1,hk,xO],by simpa using h2,(tR _ _ _).symm⟩
   ·cases h
  ·rename_i e1 e2 e3;obtain ⟨rfl,rfl⟩:=e1;obtain ⟨rfl,rfl⟩:=e2;obtain ⟨rfl,rfl⟩:=e3;obtain ⟨r0,h0,rfl⟩:=step r _ h;obtain ⟨r1,r2,h1,h2,rfl⟩:=FK k1 k2 _ _ r0 h0;exact ⟨_,r2,by simp only [yO,xW,dS,h1],by simpa using h2,(tR _ _ _).symm⟩
  ·cases h
def YI:∀(ks:List Nat) (a b:List AV) (r:Bool),dS ks a b=some r->a.length=ks.length/\b.length=ks.length
 | [],a,b,r,h=>by
  unfold dS at h
  grind
 | k::ks,[],b,r,h=>by
  unfold dS at h
  grind
 | k::ks,x::a,[],r,h=>by
  unfold dS at h
  grind
 | k::ks,x::a,y::b,r,h=>by
  have:∃r0,dS ks a b=some r0:=by
   cases he:dS ks a b with
   | some r0=>exact ⟨r0,rfl⟩
   | none=>unfold dS at h;split at h<;>simp_all
  obtain ⟨r0,h0⟩:=this
  have:=YI ks a b r0 h0
  simp [this]
def Ee (P:y8) (t:yx) (x:yg) (xs:List yg):Prop:=(dz P t=some true/\x= .agg xs.toArray)\/(dz P t=some false/\xs=[x])
section
variable {P:y8} {af:Nat->Nat} {m:Mp} {S:Nat->Prop} {w:yi}
def OC {t:yx} {ag:Bool} (ha:dz P t=some ag):(isAgg t).run P w= .ok ag w:=by
 unfold dz at ha
 cases hu:P.underlying t with
 | none=>simp [hu] at ha
 | some d=>cases d<;>simp_all [isAgg,underlying]
def aoJ {t:yx} {s o:Nat} {xs:List yg} (hz:cg P t=some s) (ha:∃ag,dz P t=some ag) (h1:dz P t=some false->s=1) (hl:o+s<=xs.length):
  ∃u,(part t xs.toArray o).run P w= .ok u w/\Ee P t u ((xs.drop o).take s):=by
 obtain ⟨ag,ha⟩:=ha
 cases ag with
 | true=>
  refine ⟨.agg ((xs.drop o).take s).toArray,?_,.inl ⟨ha,rfl⟩⟩;simp [part,OC ha,mo hz,tT]
 | false=>
  have hs:=h1 ha;subst hs;have aG:o<xs.length:=by omega
  refine ⟨xs[o],?_,.inr ⟨ha,?_⟩⟩
  ·simp [part,OC ha,wx aG]
  ·rw [List.drop_eq_getElem_cons aG,xW,ybi]
def am1 {n:Nat} {t:yx} {ks:List Nat} (h:kinds P n t=some ks):∃ag,dz P t=some ag/\(ag=false->ks.length=1):=by
 cases n with
 | zero=>simp [kinds] at h
 | succ n=>
  unfold kinds at h;unfold dz
  split at h<;>simp_all
  all_goals (rw [<-h];rfl)
def Qv (P:y8) (af:Nat->Nat) (m:Mp) (S:Nat->Prop) (w:yi) (n:Nat):Prop:=
 ∀(t:yx) (ks:List Nat),kinds P n t=some ks->P.stoodInHeld t=false->∀(d:Nat),n<=d->∀(xs ys:List yg) (cs dH:List AV) (r:Bool) (x y:yg),
  au af m S w cs xs->au af m S w dH ys->dS ks cs dH=some r->Ee P t x xs->Ee P t y ys->(Op.equalIn d t x y).run P w= .ok r w
def ZL {n:Nat} (ih:Qv P af m S w n) {t:yx} {ks:List Nat} {s o d:Nat} (hk:kinds P n t=some ks) (aU:P.stoodInHeld t=false) (hz:cg P t=some s) (hs:ks.length=s) (hd:n<=d)
  {xs ys:List yg} {cs dH:List AV} (h1:au af m S w cs xs) (h2:au af m S w dH ys) {r:Bool} (he:dS ks ((cs.drop o).take s) ((dH.drop o).take s)=some r):
  ∃u u',(part t xs.toArray o).run P w= .ok u w/\(part t ys.toArray o).run P w= .ok u' w/\(Op.equalIn d t u u').run P w= .ok r w:=by
 obtain ⟨ag,ha,h1s⟩:=am1 hk;obtain ⟨l1,l2⟩:=YI _ _ _ _ he;have q1:=fX _ _ h1;have q2:=fX _ _ h2;simp only [yW,xK] at l1 l2;have kH:dz P t=some false->s=1:=fun h=>by
  grind
 have ma:o+s<=xs.length\/s=0:=by omega
 have qU:o+s<=ys.length\/s=0:=by omega
 have get:∀(zs:List yg),(o+s<=zs.length\/s=0)->∃u,(part t zs.toArray o).run P w= .ok u w/\Ee P t u ((zs.drop o).take s):=by
  intro zs hl;rcases hl with hl | hl
  ·exact aoJ hz ⟨ag,ha⟩ kH hl
  ·subst hl
   cases ag with
   | false=>have:=kH ha;omega
   | true=>
    refine ⟨.agg ((zs.drop o).take 0).toArray,?_,.inl ⟨ha,rfl⟩⟩;simp [part,OC ha,mo hz]
 obtain ⟨u,p1,v1⟩:=get xs ma;obtain ⟨u',p2,v2⟩:=get ys qU;exact ⟨u,u',p1,p2,ih t ks hk aU d hd _ _ _ _ r u u' (CL s (FV o h1)) (CL s (FV o h2)) he v1 v2⟩
def YJ {n:Nat} (ih:Qv P af m S w n) {d:Nat} (hd:n<=d) {xs ys:List yg} {cs dH:List AV} (h1:au af m S w cs xs) (h2:au af m S w dH ys):
  ∀(fs:List td) (o:Nat) (ks:List Nat) (r:Bool),CH P (fun u=>kinds P n u) fs o=some ks->dS ks (cs.drop o) (dH.drop o)=some r->(Op.eqFields d xs.toArray ys.toArray fs).run P w= .ok r w
 | [],o,ks,r,h,he=>by
  simp only [CH,yb] at h;unfold dS at he
  split at he<;>simp_all [Op.eqFields]
 | f::fs,o,ks,r,h,he=>by
  simp only [CH] at h
  cases hk:kinds P n f.type with
  | none=>simp [hk] at h
  | some kf=>
   cases hz:cg P f.type with
   | none=>simp [hk,hz] at h
   | some s=>
    simp only [hk,hz] at h
    cases hc:(f.name != "_"&&yq f.offset o&&yq kf.length s&& !P.stoodInHeld f.type) with
    | false=>rw [hc] at h;cases h
    | true=>
     rw [hc] at h;simp only [yz] at h;simp only [yf,bne_iff_ne,uL] at hc;obtain ⟨⟨⟨hn,ho⟩,hl⟩,aU⟩:=hc;have ho:=yj ho;have hl:=yj hl
     cases hr:CH P (fun u=>kinds P n u) fs (o+s) with
     | none=>simp [hr] at h
     | some kr=>
      simp only [hr,yb] at h;subst h;obtain ⟨r1,r2,e1,e2,rfl⟩:=FK _ _ _ _ _ he;rw [hl] at e1 e2;rw [vN,vN] at e2;obtain ⟨u,u',p1,p2,p3⟩:=ZL ih (o:=o) hk aU hz hl hd h1 h2 e1;have rest:=YJ ih hd h1 h2 fs (o+s) kr r2 hr e2;subst ho;simp only [Op.eqFields]
      cases r1 with
      | true=>simp [hn,p1,p2,p3,rest]
      | false=>simp [hn,p1,p2,p3]
def Y2 {n:Nat} (ih:Qv P af m S w n) {d:Nat} (hd:n<=d) {xs ys:List yg} {cs dH:List AV} (h1:au af m S w cs xs) (h2:au af m S w dH ys)
  {e:yx} {ks:List Nat} {s:Nat} (hk:kinds P n e=some ks) (aU:P.stoodInHeld e=false) (hz:cg P e=some s) (hl:ks.length=s):
  ∀(k j:Nat) (r:Bool),dS (yL k ks).flatten (cs.drop (j*s)) (dH.drop (j*s))=some r->(Op.eqItems d e s xs.toArray ys.toArray (List.range' j k)).run P w= .ok r w
 | 0,j,r,he=>by
  unfold dS at he
  split at he<;>simp_all [Op.eqItems]
 | k+1,j,r,he=>by
  obtain ⟨r1,r2,e1,e2,rfl⟩:=FK _ _ _ _ _ he;rw [hl] at e1 e2;rw [vN,vN,show j*s+s=(j+1)*s by rw [xS,ybC]] at e2;obtain ⟨u,u',p1,p2,p3⟩:=ZL ih (o:=j*s) hk aU hz hl hd h1 h2 e1;have rest:=Y2 ih hd h1 h2 hk aU hz hl k (j+1) r2 e2;rw [List.range'_succ];simp only [Op.eqItems]
  cases r1 with
  | true=>simp [p1,p2,p3,rest]
  | false=>simp [p1,p2,p3]
def P3:∀(n:Nat) (t:yx) (ks:List Nat),kinds P n t=some ks->P.stoodInHeld t=false->∀(d:Nat),n<=d->∀(xs ys:List yg) (cs dH:List AV) (r:Bool) (x y:yg),
  au af m S w cs xs->au af m S w dH ys->dS ks cs dH=some r->Ee P t x xs->Ee P t y ys->(Op.equalIn d t x y).run P w= .ok r w
 | 0,t,ks,h,_,_,_,_,_,_,_,_,_,_,_,_,_,_,_=>by simp [kinds] at h
 | n+1,t,ks,h,aU,0,hd,_,_,_,_,_,_,_,_,_,_,_,_=>by omega
 | n+1,t,ks,h,aU,d+1,hd,xs,ys,cs,dH,r,x,y,h1,h2,he,hx,hy=>by
  unfold kinds at h;have one:∀{k:Nat},ks=[k]->dz P t=some false->∃c c',cs=[c]/\dH=[c']/\ah af m S w c x/\ah af m S w c' y:=by
   intro k hk ha;rcases hx with ⟨hx,_⟩ | ⟨_,rfl⟩
   ·grind
   rcases hy with ⟨hy,_⟩ | ⟨_,rfl⟩
   ·grind
   have l1:=fX _ _ h1;have l2:=fX _ _ h2
   match cs,dH,l1,l2 with
   | [c],[c'],_,_=>
    simp only [au] at h1 h2
    grind
  split at h
  ·rename_i hu;simp only [yb] at h;have ha:dz P t=some false:=by simp [dz,hu]
   obtain ⟨c,c',rfl,rfl,r1,r2⟩:=one h.symm ha;subst h;unfold dS at he
   split at he<;>simp_all [dS]
   subst he;simp only [ah] at r1 r2;subst r1;subst r2;simp [Op.equalIn,run_underlying hu]
  ·rename_i k0 hu;simp only [yb] at h;have ha:dz P t=some false:=by simp [dz,hu]
   obtain ⟨c,c',rfl,rfl,r1,r2⟩:=one h.symm ha;subst h;unfold dS at he
   split at he<;>simp_all [dS]
   obtain ⟨hk,he⟩:=he;subst he;simp only [ah] at r1 r2;subst r1;subst r2;simp [Op.equalIn,run_underlying hu]
  ·rename_i hu;simp only [yb] at h;have ha:dz P t=some false:=by simp [dz,hu]
   obtain ⟨c,c',rfl,rfl,r1,r2⟩:=one h.symm ha;subst h;unfold dS at he
   split at he<;>simp_all [dS]
   subst he;simp only [ah] at r1 r2;obtain ⟨s,rfl,rfl⟩:=r1;obtain ⟨s',rfl,rfl⟩:=r2;simp only [Op.equalIn,Sem.run_bind,run_underlying hu,Result.andThen_ok,Sem.run_pure,ZK];rfl
  ·rename_i fs hu;have ha:dz P t=some true:=by simp [dz,hu]
   rcases hx with ⟨_,rfl⟩ | ⟨hx,_⟩
   ·rcases hy with ⟨_,rfl⟩ | ⟨hy,_⟩
    ·have hf:P.fieldsOf t=fs:=by simp [Program.fieldsOf,hu]
     rw [run_equalIn_struct w d t _ _ (by rw [hf];exact hu) aU,hf]
     exact YJ (P3 n) (by omega) h1 h2 fs.toList 0 ks r h (by simpa using he)
    ·rw [ha] at hy;cases hy
   ·rw [ha] at hx;cases hx
  ·rename_i k e hu;have ha:dz P t=some true:=by simp [dz,hu]
   rcases hx with ⟨_,rfl⟩ | ⟨hx,_⟩
   ·rcases hy with ⟨_,rfl⟩ | ⟨hy,_⟩
    ·cases hk:kinds P n e with
     | none=>simp [hk] at h
     | some ke=>
      cases hz:cg P e with
      | none=>simp [hk,hz] at h
      | some s=>
       simp only [hk,hz] at h
       cases hc:(yq ke.length s&& !P.stoodInHeld e) with
       | false=>rw [hc] at h;cases h
       | true=>
        rw [hc] at h;simp only [yz,yb] at h;subst h;simp only [yf,uL] at hc;have fA:=hz;unfold cg at fA
        cases hi:P.info? e with
        | none=>simp [hi] at fA
        | some i=>
         simp only [hi,yb] at fA;have Aq:P.cellsOf e=s:=by simp [Program.cellsOf,hi,fA]
         rw [run_equalIn_array w d _ _ hu hi,Aq,List.range_eq_range'];exact Y2 (P3 n) (by omega) h1 h2 hk hc.2 hz (yj hc.1) k 0 r (by simpa using he)
    ·rw [ha] at hy;cases hy
   ·rw [ha] at hx;cases hx
  ·cases h
end
end
section
open Go
def de {tm:Env} {hp:Hp} {v:AV} (h:bl tm hp bad=some v):False:=by simp [bad,bl] at h
section
variable {O:a8} {H:Hint} {m:Mp} {S:Nat->Prop} {w:yi} {tm:Env} {a:Act} {hp:Hp} {ct:Nat}
def aqV {af:Nat->Nat} {va vb v:AV} {x y:yg} (hx:ah af m S w va x) (hy:ah af m S w vb y) (h:VE.min2 va vb=some v):∃u,(Builtin.min2 x y).run O.P w= .ok u w/\ah af m S w v u:=by
 unfold VE.min2 at h
 split at h
 ·simp only [ah] at hx hy;subst hx;subst hy;simp only [yb] at h;subst h;exact ⟨_,by simp only [Builtin.min2,Sem.run_pure];rfl,by simp only [ah]⟩
 ·rename_i k p k' q;simp only [ah] at hx hy;subst hx;subst hy
  cases ho:k.format.order p q with
  | none=>simp [ho] at h
  | some c=>cases c<;>(simp only [ho,yb] at h;subst h;exact ⟨_,by simp only [Builtin.min2,ho,Sem.run_pure];rfl,by simp only [ah]⟩)
 ·cases h
def aqW {af:Nat->Nat} {va vb v:AV} {x y:yg} (hx:ah af m S w va x) (hy:ah af m S w vb y) (h:VE.max2 va vb=some v):∃u,(Builtin.max2 x y).run O.P w= .ok u w/\ah af m S w v u:=by
 unfold VE.max2 at h
 split at h
 ·simp only [ah] at hx hy;subst hx;subst hy;simp only [yb] at h;subst h;exact ⟨_,by simp only [Builtin.max2,Sem.run_pure];rfl,by simp only [ah]⟩
 ·rename_i k p k' q;simp only [ah] at hx hy;subst hx;subst hy
  cases ho:k.format.order p q with
  | none=>simp [ho] at h
  | some c=>cases c<;>(simp only [ho,yb] at h;subst h;exact ⟨_,by simp only [Builtin.max2,ho,Sem.run_pure];rfl,by simp only [ah]⟩)
 ·cases h
def PC {af:Nat->Nat} {f:AV->AV->Option AV} {g:yg->yg->Sem yg} (hfg:∀va vb v x y,ah af m S w va x->ah af m S w vb y->f va vb=some v->∃u,(g x y).run O.P w= .ok u w/\ah af m S w v u):
  ∀(l:List AV) (us:List yg) (va v:AV) (x:yg),ah af m S w va x->au af m S w l us->zL f va l=some v->∃u,(us.foldlM g x).run O.P w= .ok u w/\ah af m S w v u
 | [],us,va,v,x,hx,hl,h=>by
  simp only [au] at hl;subst hl;simp only [zL,yb] at h;subst h;exact ⟨x,by simp,hx⟩
 | b::l,us,va,v,x,hx,hl,h=>by
  simp only [au] at hl;obtain ⟨u,r,rfl,hu,hr⟩:=hl;simp only [zL] at h
  cases hf:f va b with
  | none=>simp [hf] at h
  | some c=>
   simp only [hf] at h;obtain ⟨u1,h1,h2⟩:=hfg _ _ _ _ _ hx hu hf;obtain ⟨u2,h3,h4⟩:=PC hfg l r c v u1 h2 hr h;exact ⟨u2,by simp [h1,h3],h4⟩
def P4 {t:yx} {vx v:AV} {x:yg} {ty:yx} (hh:aP O m S w hp ct) (hx:ah O.af m S w vx x)
  {k:Nat} (hu:(k=0/\O.P.underlying t=some .string)\/(k=1/\∃e,O.P.underlying t=some (.slice e))\/(k=2/\∃kt e,O.P.underlying t=some (.map kt e)))
  (h:jo hp k vx=some v):∃u,(Builtin.len_ #[t] ty #[x]).run O.P w= .ok u w/\ah O.af m S w v u:=by
 rcases hu with ⟨rfl,hu⟩ | ⟨rfl,e,hu⟩ | ⟨rfl,kt,e,hu⟩
 all_goals cases vx<;>simp only [jo,reduceCtorEq] at h
 case inl.str s=>
  simp only [ah] at hx;obtain ⟨b,rfl,rfl⟩:=hx;simp only [yb] at h;subst h;refine ⟨_,by simp [Builtin.len_,run_underlying hu];rfl,?_⟩
  simp only [ah,goInt];rw [Lib.size_eq];simp
 case inr.inl.ae=>
  simp only [ah] at hx;subst hx;simp only [yb] at h;subst h;exact ⟨_,by simp [Builtin.len_,run_underlying hu];rfl,by simp [ah,goInt]⟩
 case inr.inl.aC ex n cs=>
  simp only [ah] at hx;rcases hx with ⟨b,o,c,rfl,_⟩ | ⟨a,rfl,rfl,rfl⟩
  all_goals
   simp only [yb] at h;subst h;exact ⟨_,by simp [Builtin.len_,run_underlying hu];rfl,by simp [ah,goInt]⟩
 case inr.inl.aE id o n=>
  simp only [ah] at hx;obtain ⟨p,c,_,rfl,_⟩:=hx;simp only [yb] at h;subst h;exact ⟨_,by simp [Builtin.len_,run_underlying hu];rfl,by simp [ah,goInt]⟩
 case inr.inr.ju=>
  simp only [ah] at hx;subst hx;simp only [yb] at h;subst h;exact ⟨_,by simp [Builtin.len_,run_underlying hu];rfl,by simp [ah,goInt]⟩
 case inr.inr.iL ks vs=>
  simp only [ah] at hx;obtain ⟨b,es,clock,rfl,_,_,_,hb,h1,_⟩:=hx;simp only [yb] at h;subst h;refine ⟨_,by simp [Builtin.len_,run_underlying hu,getObj,Sem.run,hb];rfl,?_⟩
  have:=fX _ _ h1
  simp only [ah,goInt];rw [<-this];simp
 case inr.inr.map id=>
  simp only [ah] at hx;obtain ⟨p,hm,rfl⟩:=hx
  split at h
  case h_2=>cases h
  rename_i W4 ks vs Bz;simp only [yb] at h;subst h;obtain ⟨p',es,clock,gS,hb,h1,_⟩:=hh.obj id _ _ Bz hm;rw [hm] at gS;injection gS with gS;subst gS
  refine ⟨_,by simp [Builtin.len_,run_underlying hu,getObj,Sem.run,hb];rfl,?_⟩
  have:=fX _ _ h1
  simp only [ah,goInt];rw [<-this];simp
end
end
section
open Go
section
variable {O:a8} {H:Hint} {m:Mp} {S:Nat->Prop} {w:yi} {tm:Env} {a:Act} {hp:Hp} {ct:Nat}
def CT {t:yx} {z:AV} (h:j9 O.P t=some z):∃v,(zeroValue t).run O.P w= .ok v w/\z=dW v:=by
 unfold j9 at h
 cases hi:O.P.info? t with
 | none=>simp [hi] at h
 | some i=>
  simp only [hi] at h
  cases hz:i.zero with
  | none=>simp [hz] at h
  | some v=>
   simp only [hz,yb] at h;exact ⟨v,by simp [zeroValue,typeInfo,hi,hz],h.symm⟩
def Reads (O:a8) (m:Mp) (S:Nat->Prop) (w:yi) (a:Act) (o:y7) (v:AV):Prop:=
 ∃u,(execOp a.eval o).run O.P w= .ok (.value u) w/\ah O.af m S w v u
def jh {o:y7} {v:AV} {s:Sem yg} (he:execOp a.eval o=(do pure (.value (<-s)):Sem yaf)) (h:∃u,s.run O.P w= .ok u w/\ah O.af m S w v u):Reads O m S w a o v:=by
 obtain ⟨u,h1,h2⟩:=h;exact ⟨u,by rw [he];simp [h1],h2⟩
def aoK {o:y7} {op:wM} {t ty:yx} {x y:xq} {k:Nat} {v:AV} (hH:eQ O H) (ht:bS O m S w tm a.tmps) (ho:o.op= .binOp op t x y ty)
  (hv:bl tm hp (aR O.P H k o)=some v):Reads O m S w a o v:=by
 have rx:=b9 hH ht x;have ry:=b9 hH ht y;have guard:∀{u:yg},(∀xs ys,¬(a.eval x= .agg xs/\a.eval y= .agg ys))\/O.P.eqGuardType O.P.depth t=false->a.eval x≠.nilIface->(xL op t (a.eval x) (a.eval y)).run O.P w= .ok u w->
   (do eqGuard op t x y (a.eval x) (a.eval y);xL op t (a.eval x) (a.eval y):Sem yg).run O.P w= .ok u w:=by
  intro u h1 h2 h3
  simp only [Sem.run_bind,al9 (P:=O.P) (w:=w) (t:=t) (op:=op) (x:=x) (y:=y) (h1.symm) h2,Result.andThen_ok,h3]
 have plain:bl tm hp (.bin op (aM H x) (aM H y))=some v->Reads O m S w a o v:=by
  intro hv;simp only [bl] at hv;obtain ⟨u,h1,h2⟩:=aoG (P:=O.P) (t:=t) rx ry hv
  refine jh (s:=do eqGuard op t x y (a.eval x) (a.eval y);xL op t (a.eval x) (a.eval y)) (by simp only [execOp,ho]) ⟨u,guard (.inl ?_) ?_ h1,h2⟩
  ·rintro xs ys ⟨e1,e2⟩;rw [e1] at rx;unfold VE.binOp at hv
   split at hv
   ·rename_i h3 _;rw [h3] at rx;simp [ah] at rx
   ·rename_i h3 _;rw [h3] at rx;simp [ah] at rx
   ·rename_i h3 _;rw [h3] at rx;simp [ah] at rx
   ·cases hv
  ·intro e1;rw [e1] at rx;unfold VE.binOp at hv
   split at hv
   ·rename_i h3 _;rw [h3] at rx;simp [ah] at rx
   ·rename_i h3 _;rw [h3] at rx;simp [ah] at rx
   ·rename_i h3 _;rw [h3] at rx;simp [ah] at rx
   ·cases hv
 have other:∀(ne:Bool) (kd:VE.Nt),(op= .eql/\ne=false\/op= .neq/\ne=true)->(∀r,ja kd (ay tm (aM H x)) (ay tm (aM H y))=some r->(Op.equal t (a.eval x) (a.eval y)).run O.P w= .ok r w/\
    ((∀xs ys,¬(a.eval x= .agg xs/\a.eval y= .agg ys))\/O.P.eqGuardType O.P.depth t=false)/\a.eval x≠.nilIface/\
    ∀q:Bool,(op= .eql->xL op t (a.eval x) (a.eval y)=(do pure (.bool (<-Op.equal t (a.eval x) (a.eval y)))))/\(op= .neq->xL op t (a.eval x) (a.eval y)=(do pure (.bool (!(<-Op.equal t (a.eval x) (a.eval y)))))))->
   bl tm hp (.eq ne kd (aM H x) (aM H y))=some v->Reads O m S w a o v:=by
  intro ne kd im li hv;simp only [bl] at hv
  cases he:ja kd (ay tm (aM H x)) (ay tm (aM H y)) with
  | none=>simp [he] at hv
  | some r=>
   simp only [he,yb] at hv;subst hv;obtain ⟨h1,h2,h3,h4⟩:=li r he;obtain ⟨h5,h6⟩:=h4 true
   refine jh (s:=do eqGuard op t x y (a.eval x) (a.eval y);xL op t (a.eval x) (a.eval y)) (by simp only [execOp,ho]) ⟨.bool (ne !=r),guard h2 h3 ?_,by simp [ah]⟩
   rcases im with ⟨rfl,rfl⟩ | ⟨rfl,rfl⟩
   ·rw [h5 rfl];simp [h1]
   ·rw [h6 rfl];simp [h1]
 have pB:O.P.underlying t=some .bool->∀r,ja .b (ay tm (aM H x)) (ay tm (aM H y))=some r->∃p q,a.eval x= .bool p/\a.eval y= .bool q/\(Op.equal t (a.eval x) (a.eval y)).run O.P w= .ok r w:=by
  intro hu r he;cases hx:ay tm (aM H x)<;>cases hy:ay tm (aM H y)<;>rw [hx,hy] at he<;>simp only [ja,reduceCtorEq] at he
  rw [hx] at rx;rw [hy] at ry;simp only [ah] at rx ry;simp only [yb] at he;refine ⟨_,_,rx,ry,?_⟩;rw [rx,ry,J7,<-he];exact as9 hu
 have pS:∀e,O.P.underlying t=some (.slice e)->∀r,ja .sl (ay tm (aM H x)) (ay tm (aM H y))=some r->∃p n c q n' c',a.eval x= .slice p n c/\a.eval y= .slice q n' c'/\(Op.equal t (a.eval x) (a.eval y)).run O.P w= .ok r w:=by
  intro e hu r he;have h1:=aqS hu rx ry he;have sl:∀{v:AV} {u:yg},ah O.af m S w v u->(v= .ae\/(∃a b c,v= .aC a b c)\/∃a b c,v= .aE a b c)->∃p n c,u= .slice p n c:=by
   intro v u hr hv;rcases hv with rfl | ⟨_,_,_,rfl⟩ | ⟨_,_,_,rfl⟩
   ·simp only [ah] at hr;exact ⟨_,_,_,hr⟩
   ·simp only [ah] at hr;rcases hr with ⟨b,o,c,hr,_⟩ | ⟨_,hr,_⟩<;>exact ⟨_,_,_,hr⟩
   ·simp only [ah] at hr;obtain ⟨b,c,_,hr,_⟩:=hr;exact ⟨_,_,_,hr⟩
  have cC:(ay tm (aM H x)= .ae\/(∃a b c,ay tm (aM H x)= .aC a b c)\/∃a b c,ay tm (aM H x)= .aE a b c)/\
    (ay tm (aM H y)= .ae\/(∃a b c,ay tm (aM H y)= .aC a b c)\/∃a b c,ay tm (aM H y)= .aE a b c):=by
   cases hx:ay tm (aM H x)<;>cases hy:ay tm (aM H y)<;>rw [hx,hy] at he<;>simp [ja] at he ⊢
  obtain ⟨p,n,c,e1⟩:=sl rx cC.1;obtain ⟨q,n',c',e2⟩:=sl ry cC.2;exact ⟨p,n,c,q,n',c',e1,e2,h1⟩
 have pF:∀ps rs vr,O.P.underlying t=some (.func ps rs vr)->∀r,ja .fn (ay tm (aM H x)) (ay tm (aM H y))=some r->
   ((a.eval x= .nilFunc\/∃f p q,a.eval x= .func f p q)/\(a.eval y= .nilFunc\/∃f p q,a.eval y= .func f p q))/\(Op.equal t (a.eval x) (a.eval y)).run O.P w= .ok r w:=by
  intro ps rs vr hu r he;have h1:=aqT hu rx ry he;have sl:∀{v:AV} {u:yg},ah O.af m S w v u->(v= .ic\/(∃a b c,v= .fn a b c))->(u= .nilFunc\/∃f p q,u= .func f p q):=by
   intro v u hr hv;rcases hv with rfl | ⟨f,_,_,rfl⟩
   ·simp only [ah] at hr;exact .inl hr
   ·cases f with
    | f g=>simp only [ah] at hr;obtain ⟨b,c,hr,_⟩:=hr;exact .inr ⟨_,_,_,hr⟩
    | y l=>simp only [ah] at hr;obtain ⟨b,_,hr⟩:=hr;exact .inr ⟨_,_,_,hr⟩
  have cC:(ay tm (aM H x)= .ic\/(∃a b c,ay tm (aM H x)= .fn a b c))/\(ay tm (aM H y)= .ic\/(∃a b c,ay tm (aM H y)= .fn a b c)):=by
   cases hx:ay tm (aM H x)<;>cases hy:ay tm (aM H y)<;>rw [hx,hy] at he<;>simp [ja] at he ⊢
  exact ⟨⟨sl rx cC.1,sl ry cC.2⟩,h1⟩
 have pA:∀ks,kinds O.P 20 t=some ks->dz O.P t=some true->O.P.stoodInHeld t=false->∀r,ja (.ag ks) (ay tm (aM H x)) (ay tm (aM H y))=some r->∃p q,a.eval x= .agg p/\a.eval y= .agg q/\(Op.equal t (a.eval x) (a.eval y)).run O.P w= .ok r w:=by
  intro ks hk ha aU r he;cases hx:ay tm (aM H x)<;>cases hy:ay tm (aM H y)<;>rw [hx,hy] at he<;>simp only [ja,reduceCtorEq] at he
  rw [hx] at rx;rw [hy] at ry;simp only [ah] at rx ry;obtain ⟨p,e1,h1⟩:=rx;obtain ⟨q,e2,h2⟩:=ry;refine ⟨p,q,e1,e2,?_⟩;rw [e1,e2,J7];exact P3 20 t ks hk aU 10000 (by omega) _ _ _ _ r _ _ h1 h2 he (.inl ⟨ha,by simp⟩) (.inl ⟨ha,by simp⟩)
 have eqs:∀(ne:Bool),(op= .eql/\ne=false\/op= .neq/\ne=true)->bl tm hp (my O.P H ne op t x y)=some v->Reads O m S w a o v:=by
  intro ne im hv;have agg:dz O.P t=some true->bl tm hp (nI O.P H ne t x y)=some v->Reads O m S w a o v:=by
   intro ha hv;unfold nI at hv
   cases hk:kinds O.P 20 t with
   | none=>rw [hk] at hv;exact (de hv).elim
   | some ks=>
    simp only [hk] at hv
    cases hc:(O.P.stoodInHeld t||O.P.eqGuardType O.P.depth t) with
    | true=>rw [hc] at hv;exact (de hv).elim
    | false=>
     rw [hc] at hv;simp only [yY] at hv;simp only [Bool.or_eq_false_iff] at hc;refine other ne (.ag ks) im (fun r hr=>?_) hv;obtain ⟨p,q,e1,e2,h1⟩:=pA ks hk ha hc.1 r hr;refine ⟨h1,.inr hc.2,by rw [e1];simp,fun _=>?_⟩
     rw [e1,e2];exact ⟨fun e=>by subst e;rfl,fun e=>by subst e;rfl⟩
  unfold my at hv
  split at hv
  ·exact plain hv
  ·exact plain hv
  ·exact plain hv
  ·rename_i hu;refine other ne .b im (fun r hr=>?_) hv;obtain ⟨p,q,e1,e2,h1⟩:=pB hu r hr;refine ⟨h1,.inl (by rw [e1];simp),by rw [e1];simp,fun _=>?_⟩
   rw [e1,e2];exact ⟨fun e=>by subst e;rfl,fun e=>by subst e;rfl⟩
  ·rename_i e hu;refine other ne .sl im (fun r hr=>?_) hv;obtain ⟨p,n,c,q,n',c',e1,e2,h1⟩:=pS e hu r hr;refine ⟨h1,.inl (by rw [e1];simp),by rw [e1];simp,fun _=>?_⟩
   rw [e1,e2];exact ⟨fun e=>by subst e;rfl,fun e=>by subst e;rfl⟩
  ·rename_i ps rs vr hu;refine other ne .fn im (fun r hr=>?_) hv;obtain ⟨⟨e1,e2⟩,h1⟩:=pF ps rs vr hu r hr;refine ⟨h1,.inl ?_,?_,fun _=>?_⟩
   ·rcases e1 with e1 | ⟨_,_,_,e1⟩<;>rw [e1]<;>simp
   ·rcases e1 with e1 | ⟨_,_,_,e1⟩<;>rw [e1]<;>simp
   ·rcases e1 with e1 | ⟨_,_,_,e1⟩<;>rcases e2 with e2 | ⟨_,_,_,e2⟩<;>rw [e1,e2]<;>exact ⟨fun e=>by subst e;rfl,fun e=>by subst e;rfl⟩
  ·rename_i fs hu;exact agg (by simp [dz,hu]) hv
  ·rename_i k0 e hu;exact agg (by simp [dz,hu]) hv
  ·exact (de hv).elim
 cases op
 case eql=>exact eqs false (.inl ⟨rfl,rfl⟩) (by simpa only [aR,ho] using hv)
 case neq=>exact eqs true (.inr ⟨rfl,rfl⟩) (by simpa only [aR,ho] using hv)
 all_goals exact plain (by simpa only [aR,ho] using hv)
end
end
section
open Go
section
variable {O:a8} {H:Hint} {m:Mp} {S:Nat->Prop} {w:yi} {tm:Env} {a:Act} {hp:Hp} {ct:Nat}
def CE {o:y7} {b:Builtin} {args:Array xq} {ts:Array yx} (ho:o.op= .call {callee:= .builtin b,args:=args,argTypes:=ts}):
  ∃cs,(execOp a.eval o).run O.P w=(builtin b ts o.type cs (args.map a.eval)).run O.P w:=by
 exact ⟨_,by simp only [execOp,ho,resolve,Sem.run_bind,Sem.run_pure,Result.andThen_ok,invoke];rfl⟩
def am2 {o:y7} {c:Call} {k:Nat} {v:AV} (hH:eQ O H) (ht:bS O m S w tm a.tmps) (hh:aP O m S w hp ct) (ho:o.op= .call c)
  (hv:bl tm hp (aR O.P H k o)=some v):Reads O m S w a o v:=by
 obtain ⟨callee,args,ts⟩:=c;simp only [aR,ho] at hv
 split at hv
 ·cases Ca:H.mode k<;>simp [Ca,bl] at hv
 ·rename_i _ b
  split at hv
  ·have key:∀{bb:Bool} {sz bV:Nat} {x y:X},bl tm hp (bif bb then .aT sz bV x y else bad)=some v->False:=by
    intro bb sz bV x y h
    cases bb
    ·exact de h
    ·simp [bl] at h
   split at hv
   ·split at hv
    ·exact (key hv).elim
    ·simp_all
   ·split at hv
    ·exact (key hv).elim
    ·simp_all
   ·simp_all
  ·rename_i x t fy lD;obtain ⟨al⟩:=args;obtain ⟨tl⟩:=ts;simp only at fy lD;subst fy;subst lD;obtain ⟨cs,eW⟩:=CE (O:=O) (w:=w) (a:=a) ho;have fin:(∃u,(Builtin.len_ #[t] o.type #[a.eval x]).run O.P w= .ok u w/\ah O.af m S w v u)->Reads O m S w a o v:=by
    rintro ⟨u,h1,h2⟩;refine ⟨u,?_,h2⟩;rw [eW];simp [builtin,h1]
   split at hv
   ·rename_i n e hu;simp only [bl,ay,yb] at hv;subst hv;exact fin ⟨_,by simp [Builtin.len_,run_underlying hu];rfl,by simp [ah,goInt]⟩
   ·rename_i hu;simp only [bl] at hv;exact fin (P4 hh (b9 hH ht x) (.inl ⟨rfl,hu⟩) hv)
   ·rename_i e hu;simp only [bl] at hv;exact fin (P4 hh (b9 hH ht x) (.inr (.inl ⟨rfl,e,hu⟩)) hv)
   ·rename_i kt e hu;simp only [bl] at hv;exact fin (P4 hh (b9 hH ht x) (.inr (.inr ⟨rfl,kt,e,hu⟩)) hv)
   ·exact (de hv).elim
  ·split at hv
   ·split at hv
    ·simp [bl] at hv
    ·exact (de hv).elim
   ·exact (de hv).elim
  ·simp only [bl] at hv;obtain ⟨cs,eW⟩:=CE (O:=O) (w:=w) (a:=a) ho;have hl:=Be hH ht args.toList
   cases hx:cW tm (gg H args.toList) with
   | nil=>simp [hx] at hv
   | cons c r=>
    simp only [hx] at hv;rw [hx] at hl;simp only [au] at hl;obtain ⟨u,us,h1,h2,h3⟩:=hl;obtain ⟨q,h4,h5⟩:=PC (O:=O) (g:=Builtin.min2) (fun va vb v x y hx hy h=>aqV hx hy h) r us c v u h2 h3 hv;refine ⟨q,?_,h5⟩;rw [eW];simp [builtin,Builtin.min_,h1,h4]
  ·simp only [bl] at hv;obtain ⟨cs,eW⟩:=CE (O:=O) (w:=w) (a:=a) ho;have hl:=Be hH ht args.toList
   cases hx:cW tm (gg H args.toList) with
   | nil=>simp [hx] at hv
   | cons c r=>
    simp only [hx] at hv;rw [hx] at hl;simp only [au] at hl;obtain ⟨u,us,h1,h2,h3⟩:=hl;obtain ⟨q,h4,h5⟩:=PC (O:=O) (g:=Builtin.max2) (fun va vb v x y hx hy h=>aqW hx hy h) r us c v u h2 h3 hv;refine ⟨q,?_,h5⟩;rw [eW];simp [builtin,Builtin.max_,h1,h4]
  ·exact (de hv).elim
 ·exact (de hv).elim
def Y3 {kt:yx} {kk:Nat} {vk:AV} (hk:keyOf O.P kt=some kk) (h:rH kk vk=true):∃d,O.P.underlying kt=some d/\Ls d=true/\fits d vk=true:=by
 unfold keyOf at hk
 split at hk
 ·rename_i hu;simp only [yb] at hk;subst hk;refine ⟨_,hu,rfl,?_⟩;cases vk<;>simp_all [rH,fits]
 ·rename_i hu;simp only [yb] at hk;subst hk;refine ⟨_,hu,rfl,?_⟩;cases vk<;>simp_all [rH,fits]
 ·rename_i hu;simp only [yb] at hk;subst hk;refine ⟨_,hu,rfl,?_⟩;cases vk<;>simp_all [rH,fits]
 ·cases hk
def abx {o:y7} {k:Nat} {v:AV} (hH:eQ O H) (ht:bS O m S w tm a.tmps) (hh:aP O m S w hp ct)
  (hv:bl tm hp (aR O.P H k o)=some v):Reads O m S w a o v:=by
 cases ho:o.op with
 | call c=>exact am2 hH ht hh ho hv
 | binOp op t x y ty=>exact aoK hH ht ho hv
 | move x=>
  simp only [aR,ho,bl,yb] at hv;subst hv;exact ⟨_,by simp only [execOp,ho,Sem.run_pure],b9 hH ht x⟩
 | assign x=>
  simp only [aR,ho,bl,yb] at hv;subst hv;exact ⟨_,by simp only [execOp,ho,Sem.run_pure],b9 hH ht x⟩
 | pick c x y=>
  simp only [aR,ho,bl] at hv;have rc:=b9 hH ht c;cases hc:ay tm (aM H c)<;>rw [hc] at hv<;>simp only [reduceCtorEq] at hv
  rename_i b;rw [hc] at rc;simp only [ah] at rc;simp only [yb] at hv;subst hv
  cases b with
  | true=>exact ⟨a.eval x,by simp [execOp,ho,rc,asBool],b9 hH ht x⟩
  | false=>exact ⟨a.eval y,by simp [execOp,ho,rc,asBool],b9 hH ht y⟩
 | load t x=>
  simp only [aR,ho] at hv
  split at hv
  ·rename_i s ag hz ha;simp only [bl] at hv;exact jh (by simp only [execOp,ho]) (axr hh hz ha (b9 hH ht x) hv)
  ·exact (de hv).elim
 | fieldAddr t x i=>
  simp only [aR,ho] at hv
  split at hv
  ·rename_i fs hu
   split at hv
   ·rename_i f hf
    split at hv
    ·rename_i s hz;simp only [bl] at hv;exact jh (by simp only [execOp,ho]) (ata hu hf hz (b9 hH ht x) hv)
    ·exact (de hv).elim
   ·exact (de hv).elim
  ·exact (de hv).elim
 | field t x i=>
  simp only [aR,ho] at hv
  split at hv
  ·rename_i fs hu
   split at hv
   ·rename_i f hf
    split at hv
    ·rename_i s ag hz ha;simp only [bl] at hv;exact jh (by simp only [execOp,ho]) (atb hu hf hz ha (b9 hH ht x) hv)
    ·exact (de hv).elim
   ·exact (de hv).elim
  ·exact (de hv).elim
 | nilCheck x=>
  simp only [aR,ho,bl] at hv;have rx:=b9 hH ht x;cases hx:ay tm (aM H x)<;>rw [hx] at hv rx<;>simp only [reduceCtorEq,yb] at hv
  ·subst hv;have r':=rx;simp only [ah] at r';obtain ⟨p,_,e⟩:=r';exact ⟨a.eval x,by simp only [execOp,ho,e,Sem.run_pure],rx⟩
  ·subst hv;have r':=rx;simp only [ah] at r';obtain ⟨b,o',e,_⟩:=r';exact ⟨a.eval x,by simp only [execOp,ho,e,Sem.run_pure],rx⟩
  ·subst hv;rename_i f _ _
   cases f with
   | f g=>
    have r':=rx;simp only [ah] at r';obtain ⟨fi,ca,e,_⟩:=r';exact ⟨a.eval x,by simp only [execOp,ho,e,Sem.run_pure],rx⟩
   | y l=>
    have r':=rx;simp only [ah] at r';obtain ⟨p,_,e⟩:=r';exact ⟨a.eval x,by simp only [execOp,ho,e,Sem.run_pure],rx⟩
 | unOp op t x=>
  simp only [aR,ho,bl] at hv;exact jh (by simp only [execOp,ho]) (aqU (b9 hH ht x) hv)
 | convert s d x=>
  simp only [aR,ho] at hv
  split at hv
  ·rename_i k1 k2 hs hd;simp only [bl] at hv;exact jh (by simp only [execOp,ho]) (aaw hd (.inl ⟨_,hs⟩) (b9 hH ht x) hv)
  ·rename_i k1 k2 hs hd;simp only [bl] at hv;exact jh (by simp only [execOp,ho]) (aaw hd (.inr ⟨_,hs⟩) (b9 hH ht x) hv)
  ·rename_i k1 k2 hs hd;simp only [bl] at hv;exact jh (by simp only [execOp,ho]) (aax hd (.inl ⟨_,hs⟩) (b9 hH ht x) hv)
  ·rename_i k1 k2 hs hd;simp only [bl] at hv;exact jh (by simp only [execOp,ho]) (aax hd (.inr ⟨_,hs⟩) (b9 hH ht x) hv)
  ·rename_i hs hd;simp only [bl] at hv;exact jh (by simp only [execOp,ho]) (aoH hd hs (b9 hH ht x) hv)
  ·exact (de hv).elim
 | makeFunc fn first cap=>
  cases fn with
  | func f=>
   simp only [aR,ho] at hv
   split at hv
   ·rename_i g hg;simp only [bl,yb] at hv;subst hv;refine ⟨.func (.func f) (first.map a.eval) (cap.map a.eval),by simp [execOp,ho,Instr.makeFunc],?_⟩;simp only [ah];exact ⟨_,_,by rw [hH f g hg],by simpa using Be hH ht first.toList,by simpa using Be hH ht cap.toList⟩
   ·exact (de hv).elim
  | _=>simp only [aR,ho] at hv;exact (de hv).elim
 | slice t x lo hi mx=>
  cases mx with
  | some q=>simp only [aR,ho] at hv;exact (de hv).elim
  | none=>
   simp only [aR,ho] at hv
   split at hv
   ·rename_i hu;simp only [bl] at hv;exact jh (by simp only [execOp,ho];rfl) (am0 hH ht hu (b9 hH ht x) hv)
   ·rename_i e hu
    split at hv
    ·rename_i s hz;simp only [bl] at hv;exact jh (by simp only [execOp,ho];rfl) (aoI hH ht hu hz hh (b9 hH ht x) hv)
    ·exact (de hv).elim
   ·split at hv
    ·simp only [bl] at hv;cases hx:ay tm (aM H x)<;>rw [hx] at hv<;>simp [eV] at hv
    ·exact (de hv).elim
   ·exact (de hv).elim
 | indexAddr t x i=>
  simp only [aR,ho] at hv
  split at hv
  ·rename_i e hu
   split at hv
   ·rename_i s hz;simp only [bl] at hv
    cases hk:dw (ay tm (aM H i)) with
    | none=>simp [hk] at hv
    | some j=>
     simp only [hk] at hv;exact jh (by simp only [execOp,ho]) (atc hu hz (b9 hH ht x) (b9 hH ht i) hk hv)
   ·exact (de hv).elim
  ·rename_i n e hu
   split at hv
   ·rename_i s hz;simp only [bl] at hv
    cases hk:dw (ay tm (aM H i)) with
    | none=>simp [hk] at hv
    | some j=>
     simp only [hk] at hv;exact jh (by simp only [execOp,ho]) (atd hu hz (b9 hH ht x) (b9 hH ht i) hk hv)
   ·exact (de hv).elim
  ·exact (de hv).elim
 | index t x i=>
  simp only [aR,ho] at hv
  split at hv
  ·rename_i hu;simp only [bl] at hv
   cases hk:dw (ay tm (aM H i)) with
   | none=>simp [hk] at hv
   | some j=>
    simp only [hk] at hv;exact jh (by simp only [execOp,ho]) (atf hu (b9 hH ht x) (b9 hH ht i) hk hv)
  ·rename_i n e hu
   split at hv
   ·rename_i s ag hz ha;simp only [bl] at hv
    cases hk:dw (ay tm (aM H i)) with
    | none=>simp [hk] at hv
    | some j=>
     simp only [hk] at hv;exact jh (by simp only [execOp,ho]) (ate hu hz ha (b9 hH ht x) (b9 hH ht i) hk hv)
   ·exact (de hv).elim
  ·exact (de hv).elim
 | lookup t x i ok=>
  simp only [aR,ho] at hv
  split at hv
  ·rename_i kt e hu
   split at hv
   ·rename_i kk z pH hz;simp only [bl] at hv
    cases hf:rH kk (ay tm (aM H i)) with
    | false=>simp [hf] at hv
    | true=>
     simp only [hf,yz] at hv;obtain ⟨d,jy,fK,W6⟩:=Y3 pH hf;obtain ⟨zv,kI,rfl⟩:=CT (w:=w) hz
     cases hr:zM hp (ay tm (aM H i)) (ay tm (aM H x)) with
     | none=>simp [hr] at hv
     | some r=>
      refine jh (by simp only [execOp,ho]) (atg (ok:=ok) (r:=r) (z:=dW zv) hh hu jy fK W6 kI (b9 hH ht x) (b9 hH ht i) (Kp zv) hr ?_);cases r<;>simpa [hr] using hv
   ·exact (de hv).elim
  ·exact (de hv).elim
 | extract x i=>
  simp only [aR,ho,bl] at hv;have rx:=b9 hH ht x;cases hx:ay tm (aM H x)<;>rw [hx] at hv rx<;>simp only [reduceCtorEq] at hv
  simp only [ah] at rx;obtain ⟨xs,e,hr⟩:=rx;obtain ⟨u,h1,h2⟩:=Pc hr hv;refine ⟨u,?_,h2⟩;have W7:xs[i]? =some u:=by simpa using h1
  simp [execOp,ho,e,Instr.extract,W7]
 | build t parts=>
  simp only [aR,ho] at hv
  split at hv
  ·rename_i fs z hu hz
   split at hv
   ·rename_i pl ayX;have lZ:=run_places (P:=O.P) w fs.toList pl ayX
    split at hv
    case h_2=>exact (de hv).elim
    rename_i ps gG;simp only [bl] at hv
    cases hf:fill tm z ps with
    | none=>simp [hf] at hv
    | some cs=>
     simp only [hf,yb] at hv;subst hv;obtain ⟨zv,kI,jf⟩:=CT (w:=w) hz;have sM:au O.af m S w z zv.cells.toList:=by
      have:=AT (af:=O.af) (m:=m) (S:=S) (w:=w) zv
      rw [<-jf] at this;exact this
     obtain ⟨out,h1,h2⟩:=Kr hH ht (place:=fun i=>pl[i]?) parts.toList ps z cs zv.cells gG sM hf;refine ⟨.agg out,?_,by simp only [ah];exact ⟨out,rfl,h2⟩⟩
     have hm:(Array.mapM (fun f=>Functor.map (Prod.mk f.offset) (wW f.type)) fs:Sem (Array (Nat×Nat))).run O.P w= .ok pl.toArray w:=by
      rw [Array.mapM_eq_mapM_toList];simp [lZ]
     simp [execOp,ho,Instr.build,kI,run_underlying hu,hm,h1]
   ·exact (de hv).elim
  ·rename_i n e z hu hz
   split at hv
   ·rename_i s hs
    split at hv
    ·rename_i ps gG;simp only [bl] at hv
     cases hf:fill tm z ps with
     | none=>simp [hf] at hv
     | some cs=>
      simp only [hf,yb] at hv;subst hv;obtain ⟨zv,kI,jf⟩:=CT (w:=w) hz;have sM:au O.af m S w z zv.cells.toList:=by
       have:=AT (af:=O.af) (m:=m) (S:=S) (w:=w) zv
       rw [<-jf] at this;exact this
      obtain ⟨out,h1,h2⟩:=Kr hH ht (place:=fun i=>some (i*s,s)) parts.toList ps z cs zv.cells gG sM hf;refine ⟨.agg out,?_,by simp only [ah];exact ⟨out,rfl,h2⟩⟩
      simp [execOp,ho,Instr.build,kI,run_underlying hu,mo hs,h1]
    ·exact (de hv).elim
   ·exact (de hv).elim
  ·exact (de hv).elim
 | alloc t=>simp only [aR,ho] at hv;split at hv<;>simp [bl,bad] at hv
 | box t x=>simp only [aR,ho] at hv;split at hv<;>simp [bl,bad] at hv
 | buildSlice t n parts=>
  simp only [aR,ho] at hv
  split at hv
  ·split at hv
   ·rename_i s z _ _
    cases hc:yy (n*s) 16777216 with
    | false=>rw [hc] at hv;exact (de hv).elim
    | true=>
     rw [hc] at hv;simp only [yz] at hv
     split at hv
     ·simp [bl] at hv
     ·exact (de hv).elim
   ·exact (de hv).elim
  ·exact (de hv).elim
 | makeMap t r=>
  cases r<;>simp only [aR,ho] at hv
  ·repeat' split at hv
   all_goals simp [bl,bad] at hv
  ·exact (de hv).elim
 | makeSlice t l c=>
  simp only [aR,ho] at hv
  repeat' split at hv
  all_goals simp [bl,bad] at hv
 | insert t x k y=>
  simp only [aR,ho] at hv
  repeat' split at hv
  all_goals simp [bl,bad] at hv
 | mapUpdate t x k y=>
  simp only [aR,ho] at hv
  repeat' split at hv
  all_goals simp [bl,bad] at hv
 | store t x y=>simp only [aR,ho] at hv;split at hv<;>simp [bl,bad] at hv
 | range t x=>simp only [aR,ho] at hv;split at hv<;>simp [bl,bad] at hv
 | next x b=>cases b<;>simp [aR,ho,bl,bad] at hv
 | _=>simp [aR,ho,bl,bad] at hv
end
end
section
open Go
def eX (m:Mp) (id:Nat) (p:Pl):Mp:=fun i=>if i=id then some p else m i
def du {m:Mp} {id:Nat} {p:Pl}:eX m id p id=some p:=by simp [eX]
def dL {m:Mp} {id i:Nat} {p:Pl} (h:i≠id):eX m id p i=m i:=by simp [eX,h]
section
variable {O:a8} {m:Mp} {S:Nat->Prop} {w:yi} {hp:Hp} {ct:Nat}
def cO (m m':Mp):Prop:=∀id p,m id=some p->m' id=some p
def cO.refl {m:Mp}:cO m m:=fun _ _ h=>h
def cO.trans {m m' IE:Mp} (h:cO m m') (k:cO m' IE):cO m IE:=fun id p hp=>k id p (h id p hp)
def iG {i:Nat} (h:m i=none) {p:Pl}:cO m (eX m i p):=by
 intro id q hq;rw [dL]
 ·grind
 ·grind
def zi {tm:Env} {tmps:Array yg} {m':Mp} {S':Nat->Prop} {w':yi} (hm:∀id p,m id=some p->m' id=some p) (hS:∀b,S b->S' b) (hw:fb S w w')
  (h:bS O m S w tm tmps):bS O m' S' w' tm tmps:=fun i=>jW hm hS hw _ _ (h i)
def alloc_old {o:tK} {b:Nat} (hb:b<w.heap.size):(w.alloc o).heap[b]? =w.heap[b]? :=RowKit.Below.heap_alloc w o b hb
def pW {m':Mp} {S':Nat->Prop} {w':yi} {id:Nat} {o:Obj} (hm:∀id p,m id=some p->m' id=some p) (hS:∀b,S b->S' b) (hw:fb S w w') (hb:∀p,m id=some p->w'.heap[p.b]? =w.heap[p.b]?)
  (hn:∀p,m id=some p->S' p.b->S p.b) (h:eJ O m S w id o):eJ O m' S' w' id o:=by
 have rowAt:∀(cs:List AV) (b k:Nat),w'.heap[b]? =w.heap[b]? ->bK O.af m S w cs b k->bK O.af m' S' w' cs b k:=by
  intro cs
  induction cs with
  | nil=>intro b k _ _;simp only [bK]
  | cons c cs ih=>
   intro b k qV hr;obtain ⟨⟨u,h1,h2⟩,h3⟩:=hr;exact ⟨⟨u,(Jw qV).trans h1,jW hm hS hw _ _ h2⟩,ih b (k+1) qV h3⟩
 cases o with
 | cells rw pu ex sz cs=>
  obtain ⟨p,arr,t,h1,h2,h3,h4,h5,h6,h7,h8,h9,gT⟩:=h;exact ⟨p,arr,t,hm _ _ h1,(hb p h1).trans h2,h3,h4,h5,h6,rowAt cs p.b p.o (hb p h1) h7,h8,fun hr hs=>h9 hr (hn p h1 hs),fun hr=>hS _ (gT hr)⟩
 | mp rw ks vs=>
  obtain ⟨p,es,clock,h1,h2,h3,h4,h5,h6⟩:=h;exact ⟨p,es,clock,hm _ _ h1,(hb p h1).trans h2,fV hm hS hw _ _ h3,fV hm hS hw _ _ h4,fun hr hs=>h5 hr (hn p h1 hs),fun hr=>hS _ (h6 hr)⟩
 | si s pos=>
  obtain ⟨p,t,h1,h2,h3,h4⟩:=h;exact ⟨p,t,hm _ _ h1,(hb p h1).trans h2,h3,fun hs=>h4 (hn p h1 hs)⟩
 | lp tm ps cr body st pe=>
  obtain ⟨p,l,hi,h1,h2,h3,h4,h5,h6,h7,h8⟩:=h;exact ⟨p,l,hi,hm _ _ h1,(hb p h1).trans h2,fun hs=>h3 (hn p h1 hs),h4,h5,h6,zi hm hS hw h7,h8⟩
def fa {id i:Nat} {o:Obj}:aA ((id,o)::hp) i=if id=i then some o else aA hp i:=by
 simp only [aA]
 simp_all
def FO (hh:aP O m S w hp ct) (g:tK):fb S w (w.alloc g):=fun b hb=>alloc_old (hh.slt b hb)
def iq:Obj->Obj->Prop
 | .cells rw pu ex sz cs,o'=>∃eM,o'= .cells eM pu ex sz cs/\(eM=true->rw=true)
 | .mp rw ks vs,o'=>∃eM,o'= .mp eM ks vs/\(eM=true->rw=true)
 | .si s pos,o'=>o'= .si s pos
 | .lp tm ps cr body st pe,o'=>o'= .lp tm ps cr body st pe
def iq.refl:∀o,iq o o
 | .cells rw _ _ _ _=>⟨rw,rfl,fun h=>h⟩
 | .mp rw _ _=>⟨rw,rfl,fun h=>h⟩
 | .si _ _=>rfl
 | .lp _ _ _ _ _ _=>rfl
def iq.trans {a b c:Obj} (h:iq a b) (k:iq b c):iq a c:=by
 cases a with
 | cells rw pu ex sz cs=>
  obtain ⟨r1,rfl,h1⟩:=h;obtain ⟨r2,rfl,h2⟩:=k;exact ⟨r2,rfl,fun h=>h1 (h2 h)⟩
 | mp rw ks vs=>
  obtain ⟨r1,rfl,h1⟩:=h;obtain ⟨r2,rfl,h2⟩:=k;exact ⟨r2,rfl,fun h=>h1 (h2 h)⟩
 | si s pos=>simp only [iq] at h;subst h;exact k
 | lp tm ps cr body st pe=>simp only [iq] at h;subst h;exact k
def cI (hp ap:Hp):Prop:=∀id o,aA hp id=some o->∃o',aA ap id=some o'/\iq o o'
def cI.refl {hp:Hp}:cI hp hp:=fun _ o h=>⟨o,h,iq.refl o⟩
def cI.trans {a b c:Hp} (h:cI a b) (k:cI b c):cI a c:=fun id o ho=>
 let ⟨o1,h1,l1⟩:=h id o ho
 let ⟨o2,h2,l2⟩:=k id o1 h1
 ⟨o2,h2,l1.trans l2⟩
def gL:Obj->Prop
 | .cells rw _ _ _ _=>rw=false
 | .mp rw _ _=>rw=false
 | _=>False
def aby {ap:Hp} {aX:Nat} (hh:aP O m S w hp ct) (hl:cI hp ap) (hd:∀id o p,aA ap id=some o->m id=some p->∃o',aA hp id=some o') (fL:ct<=aX) (ayY:∀id o,aA ap id=some o->id<aX):
  ∃S',aP O m S' w ap aX/\(∀b,S b->S' b)/\∀b,S' b->S b\/dJ m hp b:=by
 refine ⟨fun b=>S b\/∃id p o,m id=some p/\p.b=b/\aA ap id=some o/\gL o,?_,fun b h=> .inl h,?_⟩
 ·refine ⟨?_,fun id p h=>yE (hh.lt id p h) fL,?_,?_,hh.blt,hh.low,hh.jb,hh.fw,ayY⟩
  ·intro id o' p je hm;obtain ⟨o,ho⟩:=hd id o' p je hm;obtain ⟨W8,h1,h2⟩:=hl id o ho;rw [je] at h1;injection h1 with h1
   subst h1;have h3:=hh.obj id o p ho hm;have hS:∀b,S b->(S b\/∃id p o,m id=some p/\p.b=b/\aA ap id=some o/\gL o):=fun b h=> .inl h
   have nc:∀q,m id=some q->(∃id p o,m id=some p/\p.b=q.b/\aA ap id=some o/\gL o)->gL o':=by
    rintro q hq ⟨j,pj,oj,Cb,hj2,hj3,hj4⟩;obtain ⟨IG,hj5⟩:=hd j oj pj hj3 Cb
    have:=hh.inj id j o IG q pj ho hj5 hq Cb hj2.symm
    grind
   have aU:fb S w w:=fun _ _=>rfl
   cases o with
   | cells rw pu ex sz cs=>
    obtain ⟨eM,rfl,nd⟩:=h2;obtain ⟨q,arr,t,h1,h2,h3,h4,h5,h6,h7,h8,h9,gT⟩:=h3;refine ⟨q,arr,t,h1,h2,h3,h4,h5,h6,?_,h8,?_,?_⟩
    ·clear h4 h6 h8;revert h7;generalize q.o=k
     induction cs generalizing k with
     | nil=>intro _;simp only [bK]
     | cons c cs ih=>
      intro hr;simp only [bK] at hr ⊢;obtain ⟨⟨u,g1,g2⟩,g3⟩:=hr
      exact ⟨⟨u,g1,jW (fun _ _ h=>h) hS aU _ _ g2⟩,by
       have B9:∀(cs:List AV) (b k:Nat),bK O.af m S w cs b k->bK O.af m (fun b=>S b\/∃id p o,m id=some p/\p.b=b/\aA ap id=some o/\gL o) w cs b k:=by
        intro cs
        induction cs with
        | nil=>intro b k _;simp only [bK]
        | cons c cs ih=>
         intro b k hr;simp only [bK] at hr ⊢;obtain ⟨⟨u,g1,g2⟩,g3⟩:=hr;exact ⟨⟨u,g1,jW (fun _ _ h=>h) hS aU _ _ g2⟩,ih b (k+1) g3⟩
       exact B9 _ _ _ g3⟩
    ·rintro hr (hs | hs)
     ·grind
     ·have:=nc q h1 hs
      simp only [gL] at this
      grind
    ·intro hr;exact .inr ⟨id,q,_,h1,rfl,je,hr⟩
   | mp rw ks vs=>
    obtain ⟨eM,rfl,nd⟩:=h2;obtain ⟨q,es,clock,h1,h2,h3,h4,h5,h6⟩:=h3;refine ⟨q,es,clock,h1,h2,fV (fun _ _ h=>h) hS aU _ _ h3,fV (fun _ _ h=>h) hS aU _ _ h4,?_,?_⟩
    ·rintro hr (hs | hs)
     ·grind
     ·have:=nc q h1 hs
      simp only [gL] at this
      grind
    ·intro hr;exact .inr ⟨id,q,_,h1,rfl,je,hr⟩
   | si s pos=>
    simp only [iq] at h2;subst h2;refine pW (fun _ _ h=>h) hS aU (fun _ _=>rfl) (fun q hq hs=>?_) h3;rcases hs with hs | hs
    ·grind
    ·exact (nc q hq hs).elim
   | lp tm ps cr body st pe=>
    simp only [iq] at h2;subst h2;refine pW (fun _ _ h=>h) hS aU (fun _ _=>rfl) (fun q hq hs=>?_) h3;rcases hs with hs | hs
    ·grind
    ·exact (nc q hq hs).elim
  ·intro i j oi oj pi pj hi hj bD fM e;obtain ⟨II,fB⟩:=hd i oi pi hi bD;obtain ⟨IG,W9⟩:=hd j oj pj hj fM;exact hh.inj i j II IG pi pj fB W9 bD fM e
  ·rintro b (hb | ⟨id,p,o,h1,rfl,_,_⟩)
   ·exact hh.slt b hb
   ·exact hh.blt id p h1
 ·rintro b (hb | ⟨id,p,o,h1,rfl,h3,_⟩)
  ·exact .inl hb
  ·obtain ⟨o',je⟩:=hd id o p h3 h1;exact .inr ⟨id,o',p,je,h1,rfl⟩
def Pe {i:Nat} (hh:aP O m S w hp ct) (hi:m i=none) (Ef:i<ct) {g:tK} {p:Pl} (hb:p.b=w.heap.size)
  (hf:∀o,aA hp i=some o->(eJ O (eX m i p) S (w.alloc g) i o/\¬gL o)\/
   (gL o/\eJ O (eX m i p) (fun b=>S b\/b=w.heap.size) (w.alloc g) i o)):
  ∃S',aP O (eX m i p) S' (w.alloc g) hp ct/\(∀b,S b->S' b)/\∀b,S' b->S b\/b=w.heap.size:=by
 have ej:(w.alloc g).heap.size=w.heap.size+1:=by simp
 have a6:O.w0.heap.size<=w.heap.size:=hh.fw;have gen:∀S':Nat->Prop,(∀b,S b->S' b)->(∀b,S' b->S b\/b=w.heap.size)->(∀o,aA hp i=some o->eJ O (eX m i p) S' (w.alloc g) i o)->aP O (eX m i p) S' (w.alloc g) hp ct:=by
  intro S' h1 h2 h3;have IJ:∀id q,m id=some q->¬q.b=w.heap.size:=fun id q hq=>by have:=hh.blt id q hq;omega
  refine ⟨?_,?_,?_,?_,?_,?_,?_,?_,hh.aG⟩
  ·intro id o q ho hm;by_cases hc:id=i
   ·grind
   ·rw [dL hc] at hm;refine pW (iG hi) h1 (FO hh g) (fun q' bH=>alloc_old (hh.blt id q' bH)) (fun q' bH hs=>?_) (hh.obj id o q ho hm)
    grind
  ·intro id q hm;by_cases hc:id=i
   ·grind
   ·rw [dL hc] at hm;exact hh.lt id q hm
  ·intro a b oa ob pa pb ha bC Cc r9 e;by_cases ca:a=i
   ·by_cases cb:b=i
    ·grind
    ·subst ca;rw [du] at Cc;rw [dL cb] at r9
     grind
   ·rw [dL ca] at Cc;by_cases cb:b=i
    ·subst cb;rw [du] at r9
     grind
    ·rw [dL cb] at r9;exact hh.inj a b oa ob pa pb ha bC Cc r9 e
  ·intro b hs;rcases h2 b hs with h | h
   ·have:=hh.slt b h;omega
   ·omega
  ·intro id q hm;by_cases hc:id=i
   ·subst hc;rw [du] at hm
    grind
   ·rw [dL hc] at hm
    have:=hh.blt id q hm
    omega
  ·intro id q hm;by_cases hc:id=i
   ·subst hc;rw [du] at hm
    grind
   ·rw [dL hc] at hm;exact hh.low id q hm
  ·intro b qV;exact (alloc_old (by omega)).trans (hh.jb b qV)
  ·omega
 cases ho:aA hp i with
 | none=>exact ⟨S,gen S (fun _ h=>h) (fun _ h=> .inl h) (fun o h=>by rw [ho] at h;cases h),fun _ h=>h,fun _ h=> .inl h⟩
 | some o=>
  rcases hf o ho with ⟨h1,_⟩ | ⟨_,h1⟩
  ·exact ⟨S,gen S (fun _ h=>h) (fun _ h=> .inl h) (fun o' h=>by rw [ho] at h;injection h with h;subst h;exact h1),fun _ h=>h,fun _ h=> .inl h⟩
  ·exact ⟨_,gen (fun b=>S b\/b=w.heap.size) (fun _ h=> .inl h) (fun _ h=>h) (fun o' h=>by rw [ho] at h;injection h with h;subst h;exact h1),fun _ h=> .inl h,fun _ h=>h⟩
def Ov {id:Nat} {o o':Obj} {p:Pl} (hl:iq o o') (hm:m id=some p) (h:eJ O m S w id o) (hn:¬gL o):
  (eJ O m S w id o'/\¬gL o')\/(gL o'/\eJ O m (fun b=>S b\/b=p.b) w id o'):=by
 have hS:∀b,S b->(S b\/b=p.b):=fun _ h=> .inl h
 have aU:fb S w w:=fun _ _=>rfl
 cases o with
 | cells rw pu ex sz cs=>
  obtain ⟨eM,rfl,nd⟩:=hl
  cases eM with
  | true=>
   grind
  | false=>
   refine .inr ⟨rfl,?_⟩;obtain ⟨q,arr,t,h1,h2,h3,h4,h5,h6,h7,h8,h9,gT⟩:=h;rw [hm] at h1;injection h1 with h1
   subst h1;have B9:∀(cs:List AV) (b k:Nat),bK O.af m S w cs b k->bK O.af m (fun b=>S b\/b=p.b) w cs b k:=by
    intro cs
    induction cs with
    | nil=>intro b k _;simp only [bK]
    | cons c cs ih=>
     intro b k hr;obtain ⟨⟨u,g1,g2⟩,g3⟩:=hr;exact ⟨⟨u,g1,jW (fun _ _ h=>h) hS aU _ _ g2⟩,ih b (k+1) g3⟩
   exact ⟨p,arr,t,hm,h2,h3,h4,h5,h6,B9 _ _ _ h7,h8,by simp,fun _=> .inr rfl⟩
 | mp rw ks vs=>
  obtain ⟨eM,rfl,nd⟩:=hl
  cases eM with
  | true=>
   grind
  | false=>
   refine .inr ⟨rfl,?_⟩;obtain ⟨q,es,clock,h1,h2,h3,h4,h5,h6⟩:=h;rw [hm] at h1;injection h1 with h1
   subst h1;exact ⟨p,es,clock,hm,h2,fV (fun _ _ h=>h) hS aU _ _ h3,fV (fun _ _ h=>h) hS aU _ _ h4,by simp,fun _=> .inr rfl⟩
 | si s pos=>simp only [iq] at hl;subst hl;exact .inl ⟨h,hn⟩
 | lp tm ps cr body st pe=>simp only [iq] at hl;subst hl;exact .inl ⟨h,hn⟩
end
end
section
open Go
section
variable {O:a8} {H:Hint} {m:Mp} {S:Nat->Prop} {w:yi} {tm:Env} {a:Act} {hp:Hp} {ct cq:Nat}
def JR {af:Nat->Nat} {b:Nat} {arr:Array yg} {t:yx} {fr:Nat×Nat} (hb:w.heap[b]? =some (.cells arr t fr)):∀(cs:List AV) (us:List yg) (o:Nat),
  au af m S w cs us->(∀(j:Nat) (u:yg),us[j]? =some u->arr[o+j]? =some u)->bK af m S w cs b o
 | [],us,o,_,_=>by simp only [bK]
 | c::cs,us,o,h,hu=>by
  simp only [au] at h;obtain ⟨u,r,rfl,h2,h3⟩:=h;simp only [bK];refine ⟨⟨u,?_,h2⟩,JR hb cs r (o+1) h3 (fun j v hv=>?_)⟩
  ·have:=hu 0 u (by simp)
   simpa [World.cell?,hb] using this
  ·have:=hu (j+1) v (by simpa using hv)
   rw [show o+1+j=o+(j+1) by omega];exact this
def aqX (hh:aP O m S w hp cq) {i:Nat} {arr:Array yg} {t:yx} {cs:List AV} {us:List yg} {pu ex:Bool} {sz:Nat} (hr:au O.af m S w cs us)
  (hu:∀(j:Nat) (u:yg),us[j]? =some u->arr[j]? =some u) (hl:cs.length<=arr.size) (hex:ex=true->cs.length=arr.size) (gQ:pu=true->aI cs=true)
  (m':Mp) (hm:cO m m') (hi:m' i=some ⟨w.heap.size,0,arr.size,sz⟩):eJ O m' S (w.alloc (.cells arr t)) i (.cells true pu ex sz cs):=by
 refine ⟨⟨w.heap.size,0,arr.size,sz⟩,arr,t,hi,heap_alloc_new w _,rfl,hl,by simp,hex,?_,gQ,?_,by simp⟩
 ·exact JR (heap_alloc_new w _) cs us 0 (fV hm (fun _ h=>h) (FO hh _) _ _ hr) (by simpa using hu)
 ·intro _ hS
  have:=hh.slt _ hS
  simp at this
def BA (O:a8) (m:Mp) (S:Nat->Prop) (w:yi) (a:Act) (ct:Nat) (o:y7) (v:AV) (b:Obj):Prop:=
 ∃u g p,(execOp a.eval o).run O.P w= .ok (.value u) (w.alloc g)/\p.b=w.heap.size/\¬gL b/\
  ∀m',cO m m'->m' ct=some p->eJ O m' S (w.alloc g) ct b/\ah O.af m' S (w.alloc g) v u
def OS {o:y7} {arr:Array yg} {t:yx} {cs:List AV} {us:List yg} {pu ex:Bool} {sz:Nat} {v:AV} {u:yg} (hh:aP O m S w hp cq)
  (he:(execOp a.eval o).run O.P w= .ok (.value u) (w.alloc (.cells arr t))) (hr:au O.af m S w cs us)
  (hu:∀(j:Nat) (u:yg),us[j]? =some u->arr[j]? =some u) (hl:cs.length<=arr.size) (hex:ex=true->cs.length=arr.size) (gQ:pu=true->aI cs=true)
  (hv:∀m':Mp,m' ct=some ⟨w.heap.size,0,arr.size,sz⟩->ah O.af m' S (w.alloc (.cells arr t)) v u):BA O m S w a ct o v (.cells true pu ex sz cs):=
 ⟨u,_,⟨w.heap.size,0,arr.size,sz⟩,he,rfl,by simp [gL],fun m' hm hi=>⟨aqX hh hr hu hl hex gQ m' hm hi,hv m' hi⟩⟩
def aaz {o:y7} {t:yx} {x:yg} {vx v:AV} {b:Obj} {sz:Nat} (hh:aP O m S w hp cq) (he:(execOp a.eval o).run O.P w= .ok (.value (.pointer (some ⟨w.heap.size,0,none⟩))) (w.alloc (.cells x.cells t))) (hx:au O.af m S w (cellsOf vx) x.cells.toList)
  (hv:(bif yq (cellsOf vx).length sz&&cF (cellsOf vx) then some (AV.ptr ct 0,Obj.cells true (aI (cellsOf vx)) true sz (cellsOf vx)) else none)=some (v,b)):BA O m S w a ct o v b:=by
 cases hc:(yq (cellsOf vx).length sz&&cF (cellsOf vx)) with
 | false=>rw [hc] at hv;cases hv
 | true=>
  rw [hc] at hv;obtain ⟨rfl,rfl⟩:=hv;have hlen:=fX _ _ hx;refine OS hh he hx (fun j u hj=>by simpa using hj) (by rw [<-hlen];simp) (fun _=>by rw [<-hlen];simp) (fun h=>h) (fun m' hi=>?_)
  simp only [ah];exact ⟨_,hi,by simp⟩
def aoL {o:y7} {t:yx} {r:Option xq} (hh:aP O m S w hp cq) (ho:o.op= .makeMap t r) (hr:r=none):BA O m S w a ct o (.map ct) (.mp true [] []):=by
 subst hr;refine ⟨.map (some w.heap.size),.map #[] 0,⟨w.heap.size,0,0,0⟩,by simp [execOp,ho,Instr.makeMap],rfl,by simp [gL],fun m' _ hi=>⟨?_,?_⟩⟩
 ·refine ⟨_,#[],0,hi,heap_alloc_new w _,by simp [au],by simp [au],?_,by simp⟩;intro _ hS
  have:=hh.slt _ hS
  simp at this
 ·simp only [ah];exact ⟨_,hi,rfl⟩
def am3 {o:y7} {t:yx} {x:xq} {s:List Nat} (hh:aP O m S w hp cq) (ho:o.op= .range t x) (hu:O.P.underlying t=some .string) (hx:ah O.af m S w (.str s) (a.eval x)):
  BA O m S w a ct o (.it ct) (.si s 0):=by
 obtain ⟨b,e,rfl⟩:=hx;refine ⟨.pointer (some ⟨w.heap.size,0,none⟩),.stringIter b 0,⟨w.heap.size,0,0,0⟩,by simp [execOp,ho,Instr.range,run_underlying hu,e],rfl,by simp [gL],fun m' _ hi=>⟨?_,?_⟩⟩
 ·refine ⟨_,b,hi,heap_alloc_new w _,rfl,?_⟩;intro hS
  have:=hh.slt _ hS
  simp at this
 ·simp only [ah];exact ⟨_,hi,rfl⟩
end
def am4 (zero:Array yg):(wZ zero.size).map (fun j=>zero[j]!)=zero.toList:=by
 apply List.ext_getElem
 ·simp
 ·grind
def Y4 (zero:Array yg):∀n:Nat,(wZ (n*zero.size)).map (fun i=>zero[i%zero.size]!)=(yL n zero.toList).flatten
 | 0=>by simp
 | n+1=>by
  rw [xS,ybC,List.range_add,List.map_append,Y4 zero n,List.replicate_succ',yav]
  congr 1
  simp only [List.map_map,uk,List.flatten_nil,List.append_nil];rw [<-am4 zero];apply List.map_congr_left;intro j hj;simp at hj;simp [Function.comp,xg n,Nat.mod_eq_of_lt hj]
def Pf {af:Nat->Nat} {m:Mp} {S:Nat->Prop} {w:yi} {cs:List AV} {us:List yg} (h:au af m S w cs us):∀n,au af m S w (yL n cs).flatten (yL n us).flatten
 | 0=>by simp [au]
 | n+1=>by rw [vB,vB,uk,uk];exact jU h (Pf h n)
section
variable {O:a8} {H:Hint} {m:Mp} {S:Nat->Prop} {w:yi} {tm:Env} {a:Act} {hp:Hp} {ct cq:Nat}
def ZM (zero:Array yg) (n:Nat):(Array.map (fun i=>zero[i%zero.size]!) (uZ (n*zero.size))).toList=(yL n zero.toList).flatten:=by
 rw [<-Y4 zero n]
 simp
def aaA (tm:Env):∀(ps:List (Nat×Nat×X)) (zero cs:List AV),fill tm zero ps=some cs->cs.length=zero.length
 | [],zero,cs,h=>by simp only [fill,yb] at h;rw [h]
 | (o,sz,x)::r,zero,cs,h=>by
  simp only [fill] at h
  cases hc:(yq (cellsOf (ay tm x)).length sz&&yy (o+sz) zero.length&&cF (cellsOf (ay tm x))) with
  | false=>rw [hc] at h;cases h
  | true=>
   rw [hc] at h;simp only [yf] at hc;have h1:=yj hc.1.1;have h2:=yp hc.1.2;rw [aaA tm r _ _ h];simp only [over,y5,yW,xK];omega
def J8 {α:Type} (l:List α):∀n,(yL n l).flatten.length=n*l.length
 | 0=>by simp
 | n+1=>by simp [vB,J8 l n,xS,Nat.add_comm]
def am5 {o:y7} {t e:yx} {n s:Nat} {z:AV} {parts:Array (Nat×xq)} {ps:List (Nat×Nat×X)} {v:AV} {b:Obj} (hH:eQ O H) (ht:bS O m S w tm a.tmps) (hh:aP O m S w hp cq)
  (ho:o.op= .buildSlice t n parts) (hu:O.P.underlying t=some (.slice e)) (hs:cg O.P e=some s) (hz:j9 O.P e=some z) (hn:n*s<=16777216)
  (gG:partsOf H (fun i=>some (i*s,s)) parts.toList=some ps)
  (hv:cB tm hp ct (.lf n s (yL n (cellsOf z)).flatten ps)=some (v,b)):BA O m S w a ct o v b:=by
 simp only [cB] at hv
 cases hf:fill tm (yL n (cellsOf z)).flatten ps with
 | none=>simp [hf] at hv
 | some cs=>
  simp only [hf] at hv
  cases hc:yq cs.length (n*s) with
  | false=>rw [hc] at hv;cases hv
  | true=>
   rw [hc] at hv;simp only [yz,yb,yk] at hv;obtain ⟨rfl,rfl⟩:=hv;have hlen:=yj hc;obtain ⟨zv,kI,rfl⟩:=CT (w:=w) hz;have sM:au O.af m S w (cellsOf (dW zv)) zv.cells.toList:=AT zv;have pI:=fX _ _ sM;have mb:=aaA tm ps _ _ hf;rw [J8] at mb;have Eg:n*s=n*zv.cells.size:=by
    rw [<-hlen,mb,<-pI];simp
   have key:∃zr:Array yg,(n*s=0->zr=#[])/\(n*s≠0->zr=zv.cells)/\au O.af m S w (yL n (cellsOf (dW zv))).flatten ((uZ (n*s)).map (fun x=>zr[x%zr.size]!)).toList:=by
    by_cases h0:n*s=0
    ·refine ⟨#[],fun _=>rfl,fun h=>(h h0).elim,?_⟩
     have:(yL n (cellsOf (dW zv))).flatten=[]:=by
      apply yD;rw [J8,<-pI];simp only [vl];omega
     rw [this];simp [au,h0]
    ·refine ⟨zv.cells,fun h=>(h0 h).elim,fun _=>rfl,?_⟩;rw [Eg,ZM];exact Pf sM n
   obtain ⟨zr,Nz,fC,gU⟩:=key;obtain ⟨out,h1,h2⟩:=Kr hH ht (place:=fun i=>some (i*s,s)) parts.toList ps _ cs _ gG gU hf;have qU:=fX _ _ h2
   refine OS (arr:=out) (t:=e) (us:=out.toList) hh ?_ h2 (fun j u hj=>by simpa using hj) (by rw [<-qU];simp) (fun _=>by rw [<-qU];simp) (fun h=>h) (u:= .slice (some ⟨w.heap.size,0,none⟩) n n) ?_
   ·have ir:¬(n*s>2^24):=by omega
    by_cases h0:n*s=0
    ·have:=Nz h0
     subst this;simp only [h0] at h1;simp [execOp,ho,Instr.buildSlice,run_underlying hu,mo hs,h0,newRow] at h1 ⊢;simp [h1]
    ·have:=fC h0
     subst this;simp [execOp,ho,Instr.buildSlice,run_underlying hu,mo hs,h0,ir,kI,newRow] at h1 ⊢;simp [h1]
   ·intro m' hi;simp only [ah];refine ⟨_,n,hi,by simp,yB _,?_⟩;simp only [yh];rw [<-hlen,<-qU];simp
def AU:∀{a b:List AV},aI a=true->aI b=true->aI (a++b)=true
 | [],_,_,h=>h
 | c::r,b,h,k=>by
  simp only [aI,yf] at h;simp only [xh,aI,yf];exact ⟨h.1,AU h.2 k⟩
def ZN {z:List AV} (h:aI z=true):∀n,aI (yL n z).flatten=true
 | 0=>by simp [aI]
 | n+1=>by rw [vB,uk];exact AU h (ZN h n)
def aoM {o:y7} {t e:yx} {s bV:Nat} {z:AV} {l c:xq} {v:AV} {b:Obj} (hH:eQ O H) (ht:bS O m S w tm a.tmps) (hh:aP O m S w hp cq)
  (ho:o.op= .makeSlice t l c) (hu:O.P.underlying t=some (.slice e)) (hs:cg O.P e=some s) (hb:qQ O.P e=some bV) (hz:j9 O.P e=some z)
  (hv:cB tm hp ct (.mX s bV (cellsOf z) (aM H l) (aM H c))=some (v,b)):BA O m S w a ct o v b:=by
 simp only [cB] at hv
 cases hl:dw (ay tm (aM H l)) with
 | none=>simp [hl] at hv
 | some ln=>
  cases hc:dw (ay tm (aM H c)) with
  | none=>simp [hl,hc] at hv
  | some cn=>
   simp only [hl,hc] at hv
   cases hk:(yy ln cn&&(yy cn room&&(yy (cn*bV) room&&(yq (cellsOf z).length s&&cF (cellsOf z))))) with
   | false=>rw [hk] at hv;cases hv
   | true=>
    rw [hk] at hv;simp only [yz,yb,yk] at hv;obtain ⟨rfl,rfl⟩:=hv;simp only [yf] at hk;have h1:=yp hk.1;have h2:=yp hk.2.1;have h3:=yp hk.2.2.1;have h4:=yj hk.2.2.2.1;simp only [room] at h2 h3;obtain ⟨kl,el⟩:=rJ (b9 hH ht l) hl;obtain ⟨kc,ec⟩:=rJ (b9 hH ht c) hc;obtain ⟨zv,kI,rfl⟩:=CT (w:=w) hz;have sM:au O.af m S w (cellsOf (dW zv)) zv.cells.toList:=AT zv;have pI:=fX _ _ sM;have Cd:zv.cells.size=s:=by rw [<-h4,<-pI];simp
    have wrapN:∀k:Nat,k<=1099511627776->IntKind.i64.wrap (k:Int)=k:=fun k hk=>IntWalk.i64_in _ (by omega)
    obtain ⟨ti,pJ,ej,Xa⟩:∃ti,O.P.info? e=some ti/\ti.size=s/\ti.bytes=bV:=by
     unfold cg at hs;unfold qQ at hb
     cases hi:O.P.info? e with
     | none=>simp [hi] at hs
     | some ti=>simp only [hi,yb] at hs hb;exact ⟨ti,rfl,hs,hb⟩
    have BG:((uZ (cn*s)).map (zv.cells[·%zv.cells.size]!)).toList=(yL ln zv.cells.toList).flatten++(yL (cn-ln) zv.cells.toList).flatten:=by
     rw [<-Cd,ZM,<-yav,List.replicate_append_replicate]
     grind
    have gR:(yL ln (cellsOf (dW zv))).flatten.length=ln*s:=by rw [J8,h4]
    have hmul:ln*s<=cn*s:=yU _ h1
    refine OS (arr:=(uZ (cn*s)).map (zv.cells[·%zv.cells.size]!)) (t:=e) (us:=(yL ln zv.cells.toList).flatten) hh (u:= .slice (some ⟨w.heap.size,0,none⟩) ln cn) ?_
     (Pf sM ln) ?_ ?_ ?_ (fun h=>?_) ?_
    ·have aGs:bV*cn<=1099511627776:=by rw [xg];exact h3
     have pK:((bV*cn:Nat):Int)<=1099511627776:=by omega
     rw [Int.natCast_mul] at pK;have hlc:(ln:Int)<=(cn:Int):=by omega
     have g1:¬(281474976710656<(bV:Int)*(cn:Int)):=by omega
     have g2:¬(((ln:Int)<0)):=by omega
     have g3:¬(((cn:Int)<0)):=by omega
     have g4:¬((ln:Int)>(cn:Int)):=by omega
     by_cases h0:cn*s=0
     ·simp [execOp,ho,Instr.makeSlice,run_underlying hu,el,ec,asInt,asIntOf,typeInfo,pJ,Xa,wrapN ln (by omega),wrapN cn h2,g1,g2,g3,g4,mo hs,h0,newRow,askRoom,roomBytes]
      grind
     ·simp [execOp,ho,Instr.makeSlice,run_underlying hu,el,ec,asInt,asIntOf,typeInfo,pJ,Xa,wrapN ln (by omega),wrapN cn h2,g1,g2,g3,g4,mo hs,h0,newRow,askRoom,roomBytes,kI]
    ·intro j u hj
     have:((uZ (cn*s)).map (zv.cells[·%zv.cells.size]!)).toList[j]? =some u:=by
      grind
     grind
    ·grind
    ·simp_all
    ·exact ZN h ln
    ·intro m' hi;simp only [ah];refine ⟨_,cn,hi,by simp,h1,?_⟩
     simp
def aqY {o:y7} {k:Nat} {v:AV} {b:Obj} (hH:eQ O H) (ht:bS O m S w tm a.tmps) (hh:aP O m S w hp cq)
  (hv:cB tm hp ct (aR O.P H k o)=some (v,b)):BA O m S w a ct o v b:=by
 cases ho:o.op with
 | call c=>
  obtain ⟨callee,args,ts⟩:=c;simp only [aR,ho] at hv
  repeat' split at hv
  all_goals first
   | (simp [cB,bad] at hv;done)
   | (revert hv;generalize yq _ _=bb;intro hv;cases bb<;>simp [cB,bad] at hv)
 | alloc t=>
  simp only [aR,ho] at hv
  split at hv
  ·rename_i s z hs hz;obtain ⟨zv,kI,rfl⟩:=CT (w:=w) hz
   exact aaz (x:=zv) (t:=t) hh (by simp [execOp,ho,Instr.alloc,kI,newVar,newRow]) (AT zv) (by simpa only [cB,ay] using hv)
  ·simp [cB,bad] at hv
 | box t x=>
  simp only [aR,ho] at hv
  split at hv
  ·rename_i s hs;simp only [cB] at hv
   cases hc:(yq (cellsOf (ay tm (aM H x))).length s&&cF (cellsOf (ay tm (aM H x)))) with
   | false=>rw [hc] at hv;cases hv
   | true=>
    have h1:=hc;simp only [yf] at h1
    exact aaz (x:=a.eval x) (t:=t) hh (by simp [execOp,ho,Instr.box,newVar,newRow]) (OR (b9 hH ht x) h1.2) hv
  ·simp [cB,bad] at hv
 | buildSlice t n parts=>
  simp only [aR,ho] at hv
  split at hv
  ·rename_i e hu
   split at hv
   ·rename_i s z hs hz
    cases hc:yy (n*s) 16777216 with
    | false=>rw [hc] at hv;simp [cB,bad] at hv
    | true=>
     rw [hc] at hv;simp only [yz] at hv
     split at hv
     ·rename_i ps gG;exact am5 hH ht hh ho hu hs hz (yp hc) gG hv
     ·simp [cB,bad] at hv
   ·simp [cB,bad] at hv
  ·simp [cB,bad] at hv
 | makeSlice t l c=>
  simp only [aR,ho] at hv
  split at hv
  ·rename_i e hu
   split at hv
   ·rename_i s bV z hs hb hz
    exact aoM hH ht hh ho hu hs hb hz hv
   ·simp [cB,bad] at hv
  ·simp [cB,bad] at hv
 | makeMap t r=>
  cases r with
  | some x=>simp [aR,ho,cB,bad] at hv
  | none=>
   simp only [aR,ho] at hv
   repeat' split at hv
   all_goals first
    | (simp [cB,bad] at hv;done)
    | (
      simp only [cB,yb,yk] at hv;obtain ⟨rfl,rfl⟩:=hv
      exact aoL hh ho rfl)
 | range t x=>
  simp only [aR,ho] at hv
  split at hv
  ·rename_i hu;simp only [cB] at hv;have rx:=b9 hH ht x;cases hx:ay tm (aM H x)<;>rw [hx] at hv rx<;>simp only [reduceCtorEq] at hv
   simp only [yb,yk] at hv;obtain ⟨rfl,rfl⟩:=hv;exact am3 hh ho hu rx
  ·simp [cB,bad] at hv
 | next x b=>cases b<;>simp [aR,ho,cB,bad] at hv
 | binOp op t x y ty=>
  cases op<;>simp only [aR,ho,my,nI] at hv
  case eql=>
        repeat' split at hv
        all_goals first
         | (simp [cB,bad] at hv;done)
         | (cases hb:(O.P.stoodInHeld t||O.P.eqGuardType O.P.depth t)<;>rw [hb] at hv<;>simp [cB,bad] at hv)
  case neq=>
        repeat' split at hv
        all_goals first
         | (simp [cB,bad] at hv;done)
         | (cases hb:(O.P.stoodInHeld t||O.P.eqGuardType O.P.depth t)<;>rw [hb] at hv<;>simp [cB,bad] at hv)
  all_goals simp [cB] at hv
 | _=>
  simp only [aR,ho] at hv
  (repeat' split at hv)
  all_goals first
   | contradiction
   | (simp [cB,bad] at hv;done)
end
end
section
open Go
def pX {hp:Hp} {id i:Nat} {o:Obj}:aA (bf hp id o) i=if id=i then (if (aA hp id).isSome then some o else none) else aA hp i:=by
 induction hp with
 | nil=>simp [bf,aA]
 | cons x r ih=>
  obtain ⟨j,q⟩:=x;simp only [bf];by_cases hj:j=id
  ·subst hj;simp only [wu,yz,aA];by_cases hi:j=i
   ·simp_all
   ·have:yq j i=false:=by
     cases hq:yq j i with
     | false=>rfl
     | true=>exact absurd (yj hq) hi
    grind
  ·have hb:yq j id=false:=by
    cases hq:yq j id with
    | false=>rfl
    | true=>exact absurd (yj hq) hj
   simp only [hb,yY];rw [show aA ((j,q)::bf r id o) i=bif yq j i then some q else aA (bf r id o) i from rfl,ih];by_cases hi:j=i
   ·subst hi
    have:¬id=j:=fun h=>hj h.symm
    simp [wu,this,aA]
   ·have pK:yq j i=false:=by
     cases hq:yq j i with
     | false=>rfl
     | true=>exact absurd (yj hq) hi
    simp [pK,aA,hb]
def jj (hp ap:Hp):Prop:=∀id,(aA ap id).isSome=(aA hp id).isSome
def jj.refl {hp:Hp}:jj hp hp:=fun _=>rfl
def jj.trans {a b c:Hp} (h:jj a b) (k:jj b c):jj a c:=fun id=>(k id).trans (h id)
def PD {hp:Hp} {id:Nat} {o o':Obj} (h:aA hp id=some o) (hl:iq o o'):cI hp (bf hp id o')/\jj hp (bf hp id o'):=by
 constructor
 ·intro i q hq;rw [pX];by_cases hi:id=i
  ·grind
  ·exact ⟨q,by simp [hi,hq],iq.refl q⟩
 ·intro i;rw [pX]
  grind
def ZO {hp H:Hp} {id:Nat} {pu ex:Bool} {sz:Nat} {cs:List AV} (hl:cI hp H) (h:aA hp id=some (.cells false pu ex sz cs)):aA H id=some (.cells false pu ex sz cs):=by
 obtain ⟨o',h1,eM,rfl,h2⟩:=hl id _ h
 cases eM with
 | false=>exact h1
 | true=>exact absurd (h2 rfl) (by simp)
section
variable {O:a8}
def axt (O:a8) (m:Mp) (S:Nat->Prop) (w:yi) (p:Pl) (ex:Bool) (sz:Nat) (cs:List AV):Prop:=
 p.z=sz/\cs.length<=p.e/\(ex=true->cs.length=p.e)/\S p.b/\aI cs=true/\bK O.af m S w cs p.b p.o
def Q4 (O:a8) (ap:Hp) (v v':AV):Prop:=∀H m S w ct,cI ap H->aP O m S w H ct->(∀u,ah O.af m S w v u->ah O.af m S w v' u)/\bh v'=true
def ahl (O:a8) (ap:Hp) (vs dI:List AV):Prop:=∀H m S w ct,cI ap H->aP O m S w H ct->(∀us,au O.af m S w vs us->au O.af m S w dI us)/\aI dI=true
def ayZ (O:a8) (ap:Hp) (id:Nat) (ex:Bool) (sz:Nat) (cs:List AV):Prop:=∀H m S w ct,cI ap H->aP O m S w H ct->∀p,m id=some p->axt O m S w p ex sz cs
def CP {af:Nat->Nat} {m:Mp} {S:Nat->Prop} {w:yi} {b:Nat}:∀(cs:List AV) (us:List yg) (o:Nat),au af m S w cs us->
  (∀(j:Nat) (u:yg),us[j]? =some u->w.cell? ⟨b,o+j,none⟩=some u)->bK af m S w cs b o
 | [],us,o,_,_=>by simp only [bK]
 | c::cs,us,o,h,hu=>by
  obtain ⟨u,r,rfl,h2,h3⟩:=h;refine ⟨⟨u,by simpa using hu 0 u (by simp),h2⟩,CP cs r (o+1) h3 (fun j v hv=>?_)⟩;rw [show o+1+j=o+(j+1) by omega]
  simp_all
def axu {m:Mp} {S:Nat->Prop} {w:yi} {cs dH:List AV} (h:∀us,au O.af m S w cs us->au O.af m S w dH us) {b o:Nat} (hr:bK O.af m S w cs b o):bK O.af m S w dH b o:=by
 obtain ⟨us,h1,_,h3⟩:=pU cs b o hr;exact CP dH us o (h us h1) h3
def zc:∀(k:Nat) {cs:List AV},aI cs=true->aI (cs.take k)=true
 | 0,_,_=>by simp [aI]
 | k+1,[],_=>by simp [aI]
 | k+1,c::cs,h=>by
  simp only [aI,yf,xW] at h ⊢;exact ⟨h.1,zc k h.2⟩
def aoN {ap:Hp} {vs dI:List AV}:∀{n:Nat} {hp:Hp},cA n hp vs=some (dI,ap)->dI.length=vs.length:=by
 intro n
 induction n generalizing vs dI ap with
 | zero=>intro hp h;simp [cA] at h
 | succ n ih=>
  intro hp h
  cases vs with
  | nil=>simp only [cA,yb,yk] at h;rw [<-h.1]
  | cons v r=>
   simp only [cA] at h
   cases h1:freeze n hp v with
   | none=>simp [h1] at h
   | some q=>
    obtain ⟨v',bj⟩:=q;simp only [h1] at h
    cases h2:cA n bj r with
    | none=>simp [h2] at h
    | some q2=>
     grind
def Y5:∀n:Nat,
  (∀hp v v' ap,freeze n hp v=some (v',ap)->cI hp ap/\jj hp ap/\Q4 O ap v v')/\
  (∀hp id ex sz cs ap,pV n hp id=some (ex,sz,cs,ap)->cI hp ap/\jj hp ap/\ayZ O ap id ex sz cs)/\
  (∀hp vs dI ap,cA n hp vs=some (dI,ap)->cI hp ap/\jj hp ap/\ahl O ap vs dI):=by
 intro n
 induction n with
 | zero=>refine ⟨?_,?_,?_⟩<;>intros<;>simp_all [freeze,pV,cA]
 | succ n ih=>
  obtain ⟨ihV,ihB,Eh⟩:=ih;refine ⟨?_,?_,?_⟩
  ·intro hp v v' ap h;have plain:∀{v v':AV} {hp ap:Hp},(bif bh v then some (v,hp) else none)=some (v',ap)->cI hp ap/\jj hp ap/\Q4 O ap v v':=by
    intro v v' hp ap h
    cases hc:bh v with
    | false=>rw [hc] at h;cases h
    | true=>
     rw [hc] at h;simp only [yz,yb,yk] at h;obtain ⟨rfl,rfl⟩:=h;exact ⟨cI.refl,jj.refl,fun _ _ _ _ _ _ _=>⟨fun _ h=>h,hc⟩⟩
   cases v<;>simp only [freeze] at h<;>first | exact plain h | skip
   case aE id o k=>
    cases hb:pV n hp id with
    | none=>simp [hb] at h
    | some q=>
     obtain ⟨ex,sz,cs,bj⟩:=q;simp only [hb] at h
     cases hc:yy (o+k*sz) cs.length with
     | false=>rw [hc] at h;cases h
     | true=>
      rw [hc] at h;simp only [yz,yb,yk] at h;obtain ⟨rfl,rfl⟩:=h;have hle:=yp hc;obtain ⟨h1,h2,h3⟩:=ihB _ _ _ _ _ _ hb;refine ⟨h1,h2,fun H m S w ct hl hh=>⟨fun u hu=>?_,by simp only [bh]⟩⟩;simp only [ah] at hu ⊢;obtain ⟨p,c,hm,rfl,sN,Nx⟩:=hu;obtain ⟨g1,g2,g3,g4,g5,g6⟩:=h3 H m S w ct hl hh p hm;refine .inl ⟨p.b,p.o+o,c,rfl,sN,?_,.inr g4,zc _ (rC _ _ g5),zf _ _ _ _ (oQ _ _ _ _ g6)⟩;intro hx;simp only [yf] at hx;have e1:=yj hx.2;have e2:0<sz:=by
       simp_all
      have e3:=g3 hx.1.1;rw [g1] at Nx
      have:c*sz=k*sz:=by omega
      exact Nat.eq_of_mul_eq_mul_right e2 this
   case ptr id o=>
    cases hb:pV n hp id with
    | none=>simp [hb] at h
    | some q=>
     obtain ⟨ex,sz,cs,bj⟩:=q;simp only [hb,yb,yk] at h;obtain ⟨rfl,rfl⟩:=h;obtain ⟨h1,h2,h3⟩:=ihB _ _ _ _ _ _ hb;refine ⟨h1,h2,fun H m S w ct hl hh=>⟨fun u hu=>?_,by simp only [bh]⟩⟩;simp only [ah] at hu ⊢;obtain ⟨p,hm,rfl⟩:=hu;obtain ⟨g1,g2,g3,g4,g5,g6⟩:=h3 H m S w ct hl hh p hm;exact ⟨p.b,p.o+o,rfl,.inr g4,rC _ _ g5,oQ _ _ _ _ g6⟩
   case map id=>
    cases hg:aA hp id with
    | none=>simp [hg] at h
    | some ob=>
     cases ob<;>simp only [hg,reduceCtorEq] at h
     rename_i rw ks vs
     cases hc:(aI ks&&aI vs) with
     | false=>rw [hc] at h;cases h
     | true=>
      rw [hc] at h;simp only [yz,yb,yk] at h;obtain ⟨rfl,rfl⟩:=h;simp only [yf] at hc;obtain ⟨h1,h2⟩:=PD hg (o':= .mp false ks vs) ⟨false,rfl,by simp⟩;refine ⟨h1,h2,fun H m S w ct hl hh=>⟨fun u hu=>?_,by simp only [bh]⟩⟩;simp only [ah] at hu ⊢;obtain ⟨p,hm,rfl⟩:=hu;have hq:aA (bf hp id (.mp false ks vs)) id=some (.mp false ks vs):=by rw [pX];simp [hg]
      obtain ⟨o',h3,eM,rfl,h4⟩:=hl id _ hq;have nd:eM=false:=by cases eM with | false=>rfl | true=>exact absurd (h4 rfl) (by simp)
      subst nd;obtain ⟨p',es,clock,g1,g2,g3,g4,g5,g6⟩:=hh.obj id _ _ h3 hm;rw [hm] at g1;injection g1 with g1
      subst g1;exact ⟨p.b,es,clock,rfl,g6 rfl,hc.1,hc.2,g2,g3,g4⟩
   case fn f first cap=>
    cases f with
    | y l=>simp only [bh,yY,reduceCtorEq] at h
    | f g=>
     simp only at h
     cases h1:cA n hp first with
     | none=>simp [h1] at h
     | some q=>
      obtain ⟨aeI,bj⟩:=q;simp only [h1] at h
      cases h2:cA n bj cap with
      | none=>simp [h2] at h
      | some q2=>
       obtain ⟨Lq,iO⟩:=q2;simp only [h2,yb,yk] at h;obtain ⟨rfl,rfl⟩:=h;obtain ⟨a1,a2,a3⟩:=Eh _ _ _ _ h1;obtain ⟨b1,b2,b3⟩:=Eh _ _ _ _ h2;refine ⟨a1.trans b1,a2.trans b2,fun H m S w ct hl hh=>?_⟩;obtain ⟨c1,c2⟩:=a3 H m S w ct (b1.trans hl) hh;obtain ⟨d1,d2⟩:=b3 H m S w ct hl hh;refine ⟨fun u hu=>?_,by simp [bh,c2,d2]⟩;simp only [ah] at hu ⊢;obtain ⟨fi,ca,rfl,e1,e2⟩:=hu;exact ⟨fi,ca,rfl,c1 _ e1,d1 _ e2⟩
   case agg cs=>
    cases h1:cA n hp cs with
    | none=>simp [h1] at h
    | some q=>
     obtain ⟨dH,bj⟩:=q;simp only [h1,yb,yk] at h;obtain ⟨rfl,rfl⟩:=h;obtain ⟨a1,a2,a3⟩:=Eh _ _ _ _ h1;refine ⟨a1,a2,fun H m S w ct hl hh=>?_⟩;obtain ⟨c1,c2⟩:=a3 H m S w ct hl hh;refine ⟨fun u hu=>?_,by simpa [bh] using c2⟩;simp only [ah] at hu ⊢;obtain ⟨xs,rfl,e1⟩:=hu;exact ⟨xs,rfl,c1 _ e1⟩
   case aa cs=>
    cases h1:cA n hp cs with
    | none=>simp [h1] at h
    | some q=>
     obtain ⟨dH,bj⟩:=q;simp only [h1,yb,yk] at h;obtain ⟨rfl,rfl⟩:=h;obtain ⟨a1,a2,a3⟩:=Eh _ _ _ _ h1;refine ⟨a1,a2,fun H m S w ct hl hh=>?_⟩;obtain ⟨c1,c2⟩:=a3 H m S w ct hl hh;refine ⟨fun u hu=>?_,by simpa [bh] using c2⟩;simp only [ah] at hu ⊢;obtain ⟨xs,rfl,e1⟩:=hu;exact ⟨xs,rfl,c1 _ e1⟩
  ·intro hp id ex sz dH ap h;simp only [pV] at h
   cases hg:aA hp id with
   | none=>simp [hg] at h
   | some ob=>
    cases ob<;>simp only [hg,reduceCtorEq] at h
    rename_i rw pu qR At cs
    cases pu with
    | true=>
     simp only [yz,yb,yk] at h;obtain ⟨rfl,rfl,rfl,rfl⟩:=h;have hq:cI hp (bif rw then bf hp id (.cells false true qR At cs) else hp)/\jj hp (bif rw then bf hp id (.cells false true qR At cs) else hp)/\aA (bif rw then bf hp id (.cells false true qR At cs) else hp) id=some (.cells false true qR At cs):=by
      cases rw with
      | true=>
       obtain ⟨h1,h2⟩:=PD hg (o':= .cells false true qR At cs) ⟨false,rfl,by simp⟩;exact ⟨h1,h2,by simp [pX,hg]⟩
      | false=>exact ⟨cI.refl,jj.refl,hg⟩
     refine ⟨hq.1,hq.2.1,fun H m S w ct hl hh p hm=>?_⟩;obtain ⟨p',arr,t,g1,g2,g3,g4,g5,g6,g7,g8,g9,g10⟩:=hh.obj id _ _ (ZO hl hq.2.2) hm;rw [hm] at g1;injection g1 with g1
     subst g1;exact ⟨g3,g4,g6,g10 rfl,g8 rfl,g7⟩
    | false=>
     simp only [yY] at h
     cases h1:cA n hp cs with
     | none=>simp [h1] at h
     | some q=>
      obtain ⟨qW,bj⟩:=q;simp only [h1,yb,yk] at h;obtain ⟨rfl,rfl,rfl,rfl⟩:=h;obtain ⟨a1,a2,a3⟩:=Eh _ _ _ _ h1;obtain ⟨o1,gH,rw1,rfl,_⟩:=a1 id _ hg;obtain ⟨b1,b2⟩:=PD gH (o':= .cells false false qR At cs) ⟨false,rfl,by simp⟩;refine ⟨a1.trans b1,a2.trans b2,fun H m S w ct hl hh p hm=>?_⟩;have hq:aA (bf bj id (.cells false false qR At cs)) id=some (.cells false false qR At cs):=by simp [pX,gH]
      obtain ⟨p',arr,t,g1,g2,g3,g4,g5,g6,g7,g8,g9,g10⟩:=hh.obj id _ _ (ZO hl hq) hm;rw [hm] at g1;injection g1 with g1
      subst g1;obtain ⟨c1,c2⟩:=a3 H m S w ct (b1.trans hl) hh;have hlen:=aoN h1
      exact ⟨g3,by omega,fun hx=>by have:=g6 hx;omega,g10 rfl,c2,axu c1 g7⟩
  ·intro hp vs dI ap h
   cases vs with
   | nil=>
    simp only [cA,yb,yk] at h;obtain ⟨rfl,rfl⟩:=h;exact ⟨cI.refl,jj.refl,fun _ _ _ _ _ _ _=>⟨fun _ h=>h,rfl⟩⟩
   | cons v r=>
    simp only [cA] at h
    cases h1:freeze n hp v with
    | none=>simp [h1] at h
    | some q=>
     obtain ⟨v1,bj⟩:=q;simp only [h1] at h
     cases h2:cA n bj r with
     | none=>simp [h2] at h
     | some q2=>
      obtain ⟨r1,iO⟩:=q2;simp only [h2,yb,yk] at h;obtain ⟨rfl,rfl⟩:=h;obtain ⟨a1,a2,a3⟩:=ihV _ _ _ _ h1;obtain ⟨b1,b2,b3⟩:=Eh _ _ _ _ h2;refine ⟨a1.trans b1,a2.trans b2,fun H m S w ct hl hh=>?_⟩;obtain ⟨c1,c2⟩:=a3 H m S w ct (b1.trans hl) hh;obtain ⟨d1,d2⟩:=b3 H m S w ct hl hh;refine ⟨fun us hu=>?_,by simp [aI,c2,d2]⟩;simp only [au] at hu ⊢;obtain ⟨u,t,rfl,e1,e2⟩:=hu;exact ⟨u,t,rfl,c1 _ e1,d1 _ e2⟩
def OD {n:Nat} {hp ap:Hp} {vs dI:List AV} (h:cA n hp vs=some (dI,ap)):cI hp ap/\jj hp ap/\ahl O ap vs dI:=(Y5 n).2.2 _ _ _ _ h
def OT {n:Nat} {hp ap:Hp} {v v':AV} (h:freeze n hp v=some (v',ap)):cI hp ap/\jj hp ap/\Q4 O ap v v':=(Y5 n).1 _ _ _ _ h
end
end
section
open Go
section
variable {O:a8} {H:Hint} {m:Mp} {S:Nat->Prop} {w:yi} {tm:Env} {a:Act} {hp:Hp} {ct:Nat}
structure One (w w':yi) (g:Nat):Prop where
 os:w'.os=w.os
 tape:w'.tape=w.tape
 output:w'.output=w.output
 size:w'.heap.size=w.heap.size
 other:∀b,b≠g->w'.heap[b]? =w.heap[b]?
def OE (w:yi) (g:Nat) (cs:Array yg):One w (w.setRow g cs) g:=
 ⟨rfl,rfl,rfl,by simp,fun b hb=>setRow_other w g b cs hb⟩
def Gt {id:Nat} {o:Obj} {p:Pl} (h:aA hp id=some o) (hm:m id=some p):dJ m hp p.b:=⟨id,o,p,h,hm,rfl⟩
def aoO {id:Nat} {o':Obj} {b:Nat} (h:dJ m (bf hp id o') b):dJ m hp b:=by
 obtain ⟨i,o,p,h1,h2,h3⟩:=h;rw [pX] at h1;by_cases hi:id=i
 ·subst hi
  cases hq:aA hp id with
  | none=>simp [hq] at h1
  | some q=>exact ⟨id,q,p,hq,h2,h3⟩
 ·simp only [hi,xj] at h1;exact ⟨i,o,p,h1,h2,h3⟩
def F6 (hh:aP O m S w hp ct) {id:Nat} {o o':Obj} {p:Pl} {w':yi} (ho:aA hp id=some o) (hm:m id=some p) (hn:¬S p.b) (hw:One w w' p.b) (h':eJ O m S w' id o') (hk:∀r:uj,w.heap[p.b]? =some (.loop r)->∃r':uj,w'.heap[p.b]? =some (.loop r')):
  aP O m S w' (bf hp id o') ct/\bY m S w hp m S w' (bf hp id o') ct:=by
 have aU:fb S w w':=fun b hb=>hw.other b (fun e=>hn (e▸hb))
 refine ⟨⟨?_,hh.lt,?_,?_,?_,hh.low,?_,?_,fun i q hq=>(by
  rw [pX] at hq;by_cases hc:id=i
  ·subst hc;exact hh.aG _ _ ho
  ·simp only [hc,xj] at hq;exact hh.aG _ _ hq)⟩,⟨hw.os,hw.tape,hw.output,by rw [hw.size];exact yB _,?_,fun _ h=>h,fun b hb=>aU b hb,fun b hb=> .inl hb,fun b hb=> .inl (aoO hb),fun _ _ _ h=>h,fun b r hb=>?_⟩⟩
 rotate_right
 ·by_cases hc:b=p.b
  ·subst hc;exact hk r hb
  ·exact ⟨r,(hw.other b hc).trans hb⟩
 ·intro i q pi hi bD;rw [pX] at hi;by_cases hc:id=i
  ·subst hc;simp only [xO,ho,Option.isSome_some] at hi;injection hi with hi
   subst hi;exact h'
  ·simp only [hc,xj] at hi;refine pW (fun _ _ h=>h) (fun _ h=>h) aU (fun q' bH=>?_) (fun _ _ h=>h) (hh.obj i q pi hi bD);exact hw.other _ (fun e=>hc (hh.inj i id q o q' p hi ho bH hm e).symm)
 ·intro i j oi oj pi pj hi hj bD fM e;have key:∀{i:Nat} {oi:Obj},aA (bf hp id o') i=some oi->∃II,aA hp i=some II:=by
   intro i oi hi;rw [pX] at hi;by_cases hc:id=i
   ·subst hc;exact ⟨o,ho⟩
   ·simp only [hc,xj] at hi;exact ⟨oi,hi⟩
  obtain ⟨II,fB⟩:=key hi;obtain ⟨IG,W9⟩:=key hj;exact hh.inj i j II IG pi pj fB W9 bD fM e
 ·intro b hb;rw [hw.size];exact hh.slt b hb
 ·intro i q hq;rw [hw.size];exact hh.blt i q hq
 ·intro b hb
  rw [hw.other b (fun e=>by have:=hh.low id p hm;omega)];exact hh.jb b hb
 ·rw [hw.size];exact hh.fw
 ·intro b _ hb;exact hw.other b (fun e=>hb (e▸Gt ho hm))
def rS (O:a8) (m:Mp) (S:Nat->Prop) (w:yi) (a:Act) (hp:Hp) (ct:Nat) (o:y7) (v:AV) (ap:Hp) (aX:Nat):Prop:=
 ∃n u w' m' S',(execOp a.eval o).run O.P w= .ok n w'/\(n= .value u\/(n= .skip/\u=undef))/\aP O m' S' w' ap aX/\ah O.af m' S' w' v u/\cO m m'/\bY m S w hp m' S' w' ap ct
def aoP {af:Nat->Nat} {v:AV} {u:yg} (h:ah af m S w v u) (ho:dV v=true):u.oneCell'=true:=by
 cases v with
 | fn f a b=>
  cases f with
  | f g=>simp only [ah] at h;obtain ⟨_,_,rfl,_⟩:=h;rfl
  | y l=>simp only [ah] at h;obtain ⟨_,_,rfl⟩:=h;rfl
 | int k n=>simp only [ah] at h;subst h;rfl
 | bool b=>simp only [ah] at h;subst h;rfl
 | aw k n=>simp only [ah] at h;subst h;rfl
 | str s=>simp only [ah] at h;obtain ⟨_,rfl,_⟩:=h;rfl
 | km=>simp only [ah] at h;subst h;rfl
 | ptr i k=>simp only [ah] at h;obtain ⟨_,_,rfl⟩:=h;rfl
 | b7 cs=>simp only [ah] at h;obtain ⟨_,_,rfl,_⟩:=h;rfl
 | ae=>simp only [ah] at h;subst h;rfl
 | aC e n cs=>simp only [ah] at h;rcases h with ⟨_,_,_,rfl,_⟩ | ⟨_,rfl,_,_⟩<;>rfl
 | bE _ _ _ _=>simp [dV] at ho
 | aE i k n=>simp only [ah] at h;obtain ⟨_,_,_,rfl,_⟩:=h;rfl
 | ic=>simp only [ah] at h;subst h;rfl
 | ju=>simp only [ah] at h;subst h;rfl
 | map i=>simp only [ah] at h;obtain ⟨_,_,rfl⟩:=h;rfl
 | iL ks vs=>simp only [ah] at h;obtain ⟨_,_,_,rfl,_⟩:=h;rfl
 | it i=>simp only [ah] at h;obtain ⟨_,_,rfl⟩:=h;rfl
 | agg cs=>simp [dV] at ho
 | aa cs=>simp [dV] at ho
 | undef=>simp [dV] at ho
def JS {af:Nat->Nat}:∀{vs:List AV} {us:List yg},au af m S w vs us->cF vs=true->∀u∈us,u.oneCell'=true
 | [],us,h,_,u,hu=>by simp only [au] at h;subst h;cases hu
 | v::r,us,h,ho,u,hu=>by
  obtain ⟨u',t,rfl,h1,h2⟩:=h;simp only [cF,yf] at ho;rcases List.mem_cons.1 hu with rfl | hu
  ·exact aoP h1 ho.1
  ·exact JS h2 ho.2 u hu
def aaB {arr:Array yg} {t:yx} {p:Pl} {cs new:List AV} {vs:List yg} {o:Nat} {S':Nat->Prop} {m':Mp} (hb:w.heap[p.b]? =some (.cells arr t (0,0))) (hr:bK O.af m S w cs p.b p.o)
  (hv:au O.af m S w new vs) (hl:o+new.length<=cs.length) (hs:p.o+cs.length<=arr.size) {w':yi} (hm:cO m m') (hS:∀b,S b->S' b) (aU:fb S w w')
  (hw:w'.heap[p.b]? =some (.cells (arr.toList.take (p.o+o)++vs++arr.toList.drop (p.o+o+vs.length)).toArray t (0,0))):bK O.af m' S' w' (over o new cs) p.b p.o:=by
 obtain ⟨us,h1,h2,h3⟩:=pU cs p.b p.o hr;have hvl:=fX _ _ hv;have h4:au O.af m S w (over o new cs) (us.take o++vs++us.drop (o+new.length)):=jU (jU (CL o h1) hv) (FV _ h1);refine CP _ _ _ (fV hm hS aU _ _ h4) (fun j u hj=>?_);have BB:∀k u,us[k]? =some u->arr[p.o+k]? =some u:=by
  intro k u hk
  have:=h3 k u hk
  simpa [World.cell?,hb] using this
 simp only [World.cell?,hw,tk,yC,xj];rw [yak];have e1:(arr.toList.take (p.o+o)).length=p.o+o:=by rw [yW,vl];omega
 have e2:(us.take o).length=o:=by rw [yW];omega
 by_cases c1:j<o
 ·have g1:(us.take o++vs++us.drop (o+new.length))[j]? =us[j]? :=by
   rw [xx,wb (by omega),ux c1]
  rw [g1] at hj;rw [xx,wb (by omega),ux (by omega)];simpa using BB j u hj
 ·by_cases c2:j<o+vs.length
  ·have g1:(us.take o++vs++us.drop (o+new.length))[j]? =vs[j-o]? :=by
    rw [xx,xP (by omega),e2,wb (by omega)]
   rw [g1] at hj;rw [xx,xP (by omega),e1,wb (by omega),show p.o+j-(p.o+o)=j-o by omega];exact hj
  ·have g1:(us.take o++vs++us.drop (o+new.length))[j]? =us[j]? :=by
    rw [xx,xP (by omega),e2,xP (by omega),yaD]
    congr 1
    omega
   rw [g1] at hj;rw [xx,xP (by omega),e1,xP (by omega),yaD,show p.o+o+vs.length+(p.o+j-(p.o+o)-vs.length)=p.o+j by omega];simpa using BB j u hj
def J9 {o:Nat} {new cs:List AV} (hl:o+new.length<=cs.length):(over o new cs).length=cs.length:=by
 simp only [over,y5,yW,xK];omega
def Y6 {o:Nat} {new cs:List AV} (h:aI cs=true) (h':aI new=true):aI (over o new cs)=true:=
 AU (AU (zc _ h) h') (rC _ _ h)
def aqZ {o:y7} {t:yx} {x y:xq} {sz:Nat} {v:AV} {ap:Hp} {aX:Nat} (hH:eQ O H) (ht:bS O m S w tm a.tmps) (hh:aP O m S w hp ct)
  (ho:o.op= .store t x y) (hz:cg O.P t=some sz) (hv:cw tm hp ct (.st sz (aM H x) (aM H y))=some (v,ap,aX)):rS O m S w a hp ct o v ap aX:=by
 simp only [cw] at hv;have rx:=b9 hH ht x;cases hx:ay tm (aM H x)<;>rw [hx] at hv rx<;>simp only [reduceCtorEq] at hv
 rename_i id k;simp only [ah] at rx;obtain ⟨p,hm,ex⟩:=rx
 split at hv
 case h_2=>cases hv
 rename_i pu NA z cs hg
 cases hc:(yq (cellsOf (ay tm (aM H y))).length sz&&yy (k+sz) cs.length&&cF (cellsOf (ay tm (aM H y)))) with
 | false=>rw [hc] at hv;cases hv
 | true=>
  rw [hc] at hv;simp only [yz,yb,yk] at hv;obtain ⟨rfl,rfl,rfl⟩:=hv;simp only [yf] at hc;have c1:=yj hc.1.1;have c2:=yp hc.1.2;have ry:=OR (b9 hH ht y) hc.2;have hl:=fX _ _ ry;obtain ⟨p',arr,t',g1,g2,g3,g4,g5,g6,g7,g8,g9,g10⟩:=hh.obj id _ _ hg hm;rw [hm] at g1;injection g1 with g1
  subst g1;have ff:=JS ry hc.2;have eW:=run_storeCells_at O.P p.b (p.o+k) t' (a.eval y).cells.toList 0 arr w g2 (by rw [hl];omega) ff;simp only [yV] at eW;have axv:(a.eval y).cells.size=sz:=by simp_all
  have nf:eJ O m S (w.setRow p.b (arr.toList.take (p.o+k)++(a.eval y).cells.toList++arr.toList.drop (p.o+k+(a.eval y).cells.toList.length)).toArray) id
    (.cells true (pu&&aI (cellsOf (ay tm (aM H y)))) NA z (over k (cellsOf (ay tm (aM H y))) cs)):=by
   refine ⟨p,_,t',hm,setRow_heap w p.b arr _ t' _ g2,g3,by rw [J9 (by omega)];exact g4,?_,fun h=>by rw [J9 (by omega)];exact g6 h,?_,?_,fun _=>g9 rfl,by simp⟩
   ·grind
   ·exact aaB g2 g7 ry (by omega) (by omega) cO.refl (fun _ h=>h) (fun b hb=>setRow_other w p.b b _ (fun e=>g9 rfl (e▸hb))) (setRow_heap w p.b arr _ t' _ g2)
   ·intro h;simp only [yf] at h;exact Y6 (g8 h.1) h.2
  obtain ⟨e1,e2⟩:=F6 hh hg hm (g9 rfl) (OE w p.b _) nf (fun r hr=>by rw [g2] at hr;cases hr);refine ⟨.skip,undef,_,m,S,?_,.inr ⟨rfl,rfl⟩,e1,by simp [ah,au,undef],cO.refl,e2⟩;simp only [execOp,ho,Instr.storeAt,ex,Instr.sureAddr,Sem.run_bind,Sem.run_pure,Result.andThen_ok,storeVar,mo hz,axv,ne_eq,ycw,xj];simp [eW]
def Y7 {d:wQ} {k k':yg} (h:Instr.sameNow d k k'=some true):k=k':=by
 unfold Instr.sameNow at h
 split at h
 ·grind
 ·rename_i p q;simp only [yb] at h;have h2:(p.data==q.data)=true:=by cases p;exact h
  cases p;cases q
  grind
 ·grind
 ·cases h
def sameBits_self {d:wQ} {k k':yg} (h:Instr.sameNow d k k'=some true) (n:Nat):Instr.sameBits n k' k=true:=by
 have e:=Y7 h;subst e;unfold Instr.sameNow at h
 split at h
 ·simp [Instr.sameBits]
 ·simp only [yb] at h;simp [Instr.sameBits,h]
 ·simp [Instr.sameBits]
 ·cases h
def Put (af:Nat->Nat) (m:Mp) (S:Nat->Prop) (w:yi) (d:wQ) (k x:yg) (es:List vT) (i:Nat) (jx dI:List AV):Prop:=
 (Instr.findNow d k es i=some none/\au af m S w jx (es.map (·.key)++[k])/\au af m S w dI (es.map (·.val)++[x]))\/
 ∃(j:Nat) (e0:vT),Instr.findNow d k es i=some (some (i+j,e0.val))/\es[j]? =some e0/\Instr.sameNow d k e0.key=some true/\au af m S w jx (es.map (·.key))/\au af m S w dI ((es.map (·.val)).set j x)
def abz {af:Nat->Nat} {vk vx:AV} {k x:yg} {d:wQ} (hk:ah af m S w vk k) (hx:ah af m S w vx x) (hd:fits d vk=true):∀(ks vs:List AV) (es:List vT) (i:Nat) (jx dI:List AV),
  au af m S w ks (es.map (·.key))->au af m S w vs (es.map (·.val))->zU vk vx ks vs=some (jx,dI)->Put af m S w d k x es i jx dI
 | [],[],es,i,jx,dI,h1,h2,h=>by
  simp only [au,yau] at h1;subst h1;obtain ⟨rfl,rfl⟩:=h;exact .inl ⟨rfl,by simp [au,hk],by simp [au,hx]⟩
 | [],_::_,es,i,jx,dI,h1,h2,h=>by simp [zU] at h
 | _::_,[],es,i,jx,dI,h1,h2,h=>by simp [zU] at h
 | c::ks,v::vs,es,i,jx,dI,h1,h2,h=>by
  cases es with
  | nil=>simp [au] at h1
  | cons e es=>
   obtain ⟨u,t,⟨rfl,rfl⟩,hc,Ny⟩:=h1;obtain ⟨u',t',⟨rfl,rfl⟩,hv,sK⟩:=h2;simp only [zU] at h
   cases sL:Dg vk c with
   | none=>simp [sL] at h
   | some b=>
    have hs:=aay (d:=d) hk hc sL hd
    cases b with
    | true=>
     simp only [sL,yb,yk] at h;obtain ⟨rfl,rfl⟩:=h;refine .inr ⟨0,e,by simp [Instr.findNow,hs],rfl,hs,?_,?_⟩
     ·simp only [xi,au];exact ⟨_,_,rfl,hc,Ny⟩
     ·simp only [xi,List.set_cons_zero,au];exact ⟨_,_,rfl,hx,sK⟩
    | false=>
     simp only [sL] at h
     cases hm:zU vk vx ks vs with
     | none=>simp [hm] at h
     | some q=>
      obtain ⟨k1,v1⟩:=q;simp only [hm,yb,yk] at h;obtain ⟨rfl,rfl⟩:=h;rcases abz hk hx hd ks vs es (i+1) k1 v1 Ny sK hm with ⟨g1,g2,g3⟩ | ⟨j,e0,g1,g2,g3,g4,g5⟩
      ·refine .inl ⟨by simp [Instr.findNow,hs,g1],?_,?_⟩
       ·simp only [xi,xh,au];exact ⟨_,_,rfl,hc,g2⟩
       ·simp only [xi,xh,au];exact ⟨_,_,rfl,hv,g3⟩
      ·refine .inr ⟨j+1,e0,?_,by simpa using g2,g3,?_,?_⟩
       ·simp only [Instr.findNow,hs,g1]
        grind
       ·simp only [xi,au];exact ⟨_,_,rfl,hc,g4⟩
       ·simp only [xi,List.set_cons_succ,au];exact ⟨_,_,rfl,hv,g5⟩
def CI (w:yi) (g:Nat) (o:tK):One w {w with heap:=w.heap.setIfInBounds g o} g:=
 ⟨rfl,rfl,rfl,by simp,fun b hb=>by simp [Array.getElem?_setIfInBounds_ne (fun e=>hb e.symm)]⟩
def JE {g:Nat} {o q:tK} (h:w.heap[g]? =some q):({w with heap:=w.heap.setIfInBounds g o}:yi).heap[g]? =some o:=by grind
def aaC {o:y7} {t kt e:yx} {x k y:xq} {kk:Nat} {v:AV} {ap:Hp} {aX:Nat} (hH:eQ O H) (ht:bS O m S w tm a.tmps) (hh:aP O m S w hp ct)
  (ho:o.op= .mapUpdate t x k y\/o.op= .insert t x k y) (hu:O.P.underlying t=some (.map kt e)) (pH:VE.keyOf O.P kt=some kk) (hv:cw tm hp ct (.oh kk (aM H x) (aM H k) (aM H y))=some (v,ap,aX)):rS O m S w a hp ct o v ap aX:=by
 simp only [cw] at hv;have rx:=b9 hH ht x;cases hx:ay tm (aM H x)<;>rw [hx] at hv rx<;>simp only [reduceCtorEq] at hv
 rename_i id;simp only [ah] at rx;obtain ⟨p,hm,ex⟩:=rx
 split at hv
 case h_2=>cases hv
 rename_i ks vs hg
 cases hc:rH kk (ay tm (aM H k)) with
 | false=>simp [hc] at hv
 | true=>
  simp only [hc,Bool.not_true,yY] at hv
  cases bj:zU (ay tm (aM H k)) (ay tm (aM H y)) ks vs with
  | none=>simp [bj] at hv
  | some q=>
   obtain ⟨jx,dI⟩:=q;simp only [bj,yb,yk] at hv;obtain ⟨rfl,rfl,rfl⟩:=hv;obtain ⟨d,jy,fK,W6⟩:=Y3 pH hc;obtain ⟨p',es,clock,g1,g2,g3,g4,g5,g6⟩:=hh.obj id _ _ hg hm;rw [hm] at g1;injection g1 with g1
   subst g1;have ay0:=abz (d:=d) (b9 hH ht k) (b9 hH ht y) W6 ks vs es.toList 0 jx dI g3 g4 bj
   have fin:∀(Ce:Array vT) (c':Nat),(Instr.mapUpdate t (a.eval x) (a.eval k) (a.eval y)).run O.P w= .ok () {w with heap:=w.heap.setIfInBounds p.b (.map Ce c')}->
     au O.af m S w jx (Ce.toList.map (·.key))->au O.af m S w dI (Ce.toList.map (·.val))->rS O m S w a hp ct o (.aa []) (bf hp id (.mp true jx dI)) ct:=by
    intro Ce c' eW h1 h2
    have aU:fb S w {w with heap:=w.heap.setIfInBounds p.b (.map Ce c')}:=fun b hb=>(CI w p.b _).other b (fun e=>g5 rfl (e▸hb))
    have nf:eJ O m S {w with heap:=w.heap.setIfInBounds p.b (.map Ce c')} id (.mp true jx dI):=
     ⟨p,Ce,c',hm,JE g2,fV (fun _ _ h=>h) (fun _ h=>h) aU _ _ h1,fV (fun _ _ h=>h) (fun _ h=>h) aU _ _ h2,fun _=>g5 rfl,by simp⟩
    obtain ⟨e1,e2⟩:=F6 hh hg hm (g5 rfl) (CI w p.b _) nf (fun r hr=>by rw [g2] at hr;cases hr);refine ⟨.skip,undef,_,m,S,?_,.inr ⟨rfl,rfl⟩,e1,by simp [ah,au,undef],cO.refl,e2⟩;rcases ho with ho | ho<;>simp [execOp,ho,eW]
   have mc:=Ju (P:=O.P) (w:=w) jy fK false (a.eval k);rcases ay0 with ⟨h1,h2,h3⟩ | ⟨j,e0,h1,h2,h3,h4,h5⟩
   ·refine fin (es.push ⟨a.eval k,a.eval y,clock⟩) (clock+1) ?_ (by simpa using h2) (by simpa using h3);rw [ex];simp [Instr.mapUpdate,run_underlying hu,MapKept.run_getObj_map g2,mc,Instr.findKey,run_underlying jy,h1,MapKept.run_setObj_map _ g2]
   ·have hj:es[j]? =some e0:=by simp_all
    simp only [yh] at h1;have ahm:=Y7 h3
    refine fin (es.modify j fun e=>{e with key:=a.eval k,val:=a.eval y}) clock ?_ ?_ ?_
    ·rw [ex];have hsb:Instr.sameBits 10000 (a.eval k) (a.eval k)=true:=by have:=sameBits_self h3 10000;rwa [<-ahm] at this
     simp [Instr.mapUpdate,run_underlying hu,MapKept.run_getObj_map g2,mc,Instr.findKey,run_underlying jy,h1,MapKept.run_setObj_map _ g2,hj,Instr.keyThatStays,hsb,ahm.symm]
    ·have:(es.modify j fun e=>{e with key:=a.eval k,val:=a.eval y}).toList.map (·.key)=es.toList.map (·.key):=by
      apply yaJ
      grind
     grind
    ·have:(es.modify j fun e=>{e with key:=a.eval k,val:=a.eval y}).toList.map (·.val)=(es.toList.map (·.val)).set j (a.eval y):=by
      apply yaJ
      grind
     grind
def aq0 (t:ByteArray) (i:Nat):(t.get! i).toNat=(t.data.toList.map xf).getD i 0:=by
 have:t.get! i=t.data[i]! :=by cases t;rfl
 rw [this];by_cases h:i<t.data.size
 ·grind
 ·simp only [Array.getElem!_eq_getD,Array.getD_eq_getD_getElem?,List.getD_eq_getElem?_getD,yaI,Array.getElem?_toList];rw [Array.getElem?_eq_none (by omega)];rfl
def am6 (t:ByteArray) (i:Nat):decodeL (t.data.toList.map xf) i=Utf8.decode t i:=by
 have ej:(t.data.toList.map xf).length=t.size:=by simp
 simp only [decodeL,Utf8.decode,aq0,ej]
def aoQ {o:y7} {x:xq} {v:AV} {ap:Hp} {aX:Nat} (hH:eQ O H) (ht:bS O m S w tm a.tmps) (hh:aP O m S w hp ct)
  (ho:o.op= .next x true) (hv:cw tm hp ct (.ot (aM H x))=some (v,ap,aX)):rS O m S w a hp ct o v ap aX:=by
 simp only [cw] at hv;have rx:=b9 hH ht x;cases hx:ay tm (aM H x)<;>rw [hx] at hv rx<;>simp only [reduceCtorEq] at hv
 rename_i id;simp only [ah] at rx;obtain ⟨p,hm,ex⟩:=rx
 split at hv
 case h_2=>cases hv
 rename_i s pos hg;obtain ⟨p',t,g1,g2,g3,g4⟩:=hh.obj id _ _ hg hm;rw [hm] at g1;injection g1 with g1
 subst g1;have aA:(getObj p.b).run O.P w= .ok (.stringIter t pos) w:=by simp [getObj,Sem.run,g2]
 have hlen:s.length=t.size:=by rw [<-g3];simp
 cases hc:yK pos s.length with
 | false=>
  rw [hc] at hv;simp only [yY,yb,yk] at hv;obtain ⟨rfl,rfl,rfl⟩:=hv;have aG:¬pos<t.size:=by
   intro h
   have:yK pos s.length=true:=by simp [yK];omega
   grind
  refine ⟨.value (.tuple #[.bool false]),.tuple #[.bool false],w,m,S,?_,.inl rfl,hh,by simp [ah,au],cO.refl,bY.refl⟩;simp [execOp,ho,ex,Instr.next,aA,aG]
 | true=>
  rw [hc] at hv;simp only [yz] at hv;have aG:pos<t.size:=by
   simp_all
  cases hdc:decodeL s pos with | mk c wd=>
  rw [hdc] at hv;simp only [yb,yk] at hv;obtain ⟨rfl,rfl,rfl⟩:=hv;have hd:Utf8.decode t pos=(c,wd):=by rw [<-am6,g3,hdc]
  have nf:eJ O m S {w with heap:=w.heap.setIfInBounds p.b (.stringIter t (pos+wd))} id (.si s (pos+wd)):=⟨p,t,hm,JE g2,g3,g4⟩;obtain ⟨e1,e2⟩:=F6 hh hg hm g4 (CI w p.b _) nf (fun r hr=>by rw [g2] at hr;cases hr);refine ⟨.value (.tuple #[.bool true,goInt pos,.int .i32 c]),_,_,m,S,?_,.inl rfl,e1,by simp [ah,au,goInt],cO.refl,e2⟩
  have bf:(setObj p.b (.stringIter t (pos+wd))).run O.P w= .ok () {w with heap:=w.heap.setIfInBounds p.b (.stringIter t (pos+wd))}:=by simp [setObj,Sem.run,g2]
  simp [execOp,ho,ex,Instr.next,aA,aG,hd,bf]
end
end
section
open Go
def FW {hp:Hp} {id i:Nat}:aA (dX hp id) i=if id=i then none else aA hp i:=by
 induction hp with
 | nil=>simp [dX,aA]
 | cons x r ih=>
  obtain ⟨j,q⟩:=x;simp only [dX];by_cases hj:j=id
  ·subst hj;simp only [wu,yz,ih,aA];by_cases hi:j=i
   ·grind
   ·have:yq j i=false:=by
     cases hq:yq j i with
     | false=>rfl
     | true=>exact absurd (yj hq) hi
    grind
  ·have hb:yq j id=false:=by
    cases hq:yq j id with
    | false=>rfl
    | true=>exact absurd (yj hq) hj
   simp only [hb,yY];rw [show aA ((j,q)::dX r id) i=bif yq j i then some q else aA (dX r id) i from rfl,ih];by_cases hi:j=i
   ·subst hi
    have:¬id=j:=fun h=>hj h.symm
    simp [wu,this,aA]
   ·have pK:yq j i=false:=by
     cases hq:yq j i with
     | false=>rfl
     | true=>exact absurd (yj hq) hi
    simp [pK,aA]
section
variable {O:a8} {H:Hint} {m:Mp} {S:Nat->Prop} {w:yi} {tm:Env} {a:Act} {hp:Hp} {ct:Nat}
def Src (P:y8) (w:yi) (size n:Nat) (news:List yg) (x:yg):Prop:=
 (∀w',(Builtin.lenOf x).run P w'= .ok n w')/\news.length=n*size/\
 ∀w',w'.heap=w.heap->∀k,k<=n->(Builtin.firstCells size k x).run P w'= .ok (news.take (k*size)).toArray w'
def CM {P:y8} {size n c:Nat} {b:vY} {news:List yg} (hl:news.length=n*size) (hc:∀j u,news[j]? =some u->w.cell? (b.add j)=some u):
  Src P w size n news (.slice (some b) n c):=by
 refine ⟨fun w'=>by simp [Builtin.lenOf],hl,fun w' hw k hk=>?_⟩;have hle:k*size<=news.length:=by rw [hl];exact yU _ hk
 refine run_firstCells_some (P:=P) w' size k b n c (news.take (k*size)) (by rw [yW];omega) (fun j v hv=>?_);rw [List.getElem?_take] at hv
 split at hv
 ·have:=hc j v hv
  simpa [World.cell?,hw] using this
 ·cases hv
def abA {P:y8} {size:Nat}:Src P w size 0 [] (.slice none 0 0):=
 ⟨fun w'=>by simp [Builtin.lenOf],by simp,fun w' _ k hk=>by simp [Builtin.firstCells]⟩
def ama (s:ByteArray) (k:Nat):(s.extract 0 k).data.map (fun b=>Value.int .u8 b.toNat)=((s.data.toList.map fun b=>Value.int .u8 (b.toNat:Int)).take k).toArray:=by
 have:(s.extract 0 k).data=s.data.extract 0 k:=by simp
 grind
def aq1 {P:y8} {s:ByteArray}:Src P w 1 s.size (s.data.toList.map fun b=>Value.int .u8 (b.toNat:Int)) (.string s):=by
 refine ⟨fun w'=>by simp [Builtin.lenOf],by simp,fun w' _ k hk=>?_⟩;simp only [Builtin.firstCells,Sem.run_pure,Nat.mul_one];rw [ama]
def YK {af:Nat->Nat}:∀l:List UInt8,au af m S w (Kn (l.map xf)) (l.map fun b=>Value.int .u8 (b.toNat:Int))
 | []=>by simp [Kn,au]
 | b::r=>by
  exact ⟨_,_,rfl,by simp [ah],YK r⟩
def Y8 {size n:Nat} {vx:AV} {x:yg} {cs:List AV} (hh:aP O m S w hp ct) (hx:ah O.af m S w vx x) (h:kS hp size vx=some (n,cs)):
  ∃us,au O.af m S w cs us/\Src O.P w size n us x:=by
 cases vx<;>simp only [kS,reduceCtorEq] at h
 case ae=>
  obtain ⟨rfl,rfl⟩:=h;subst hx;exact ⟨[],by simp [au],abA⟩
 case aC ex n' dH=>
  cases hc:yq dH.length (n'*size) with
  | false=>rw [hc] at h;cases h
  | true=>
   rw [hc] at h;obtain ⟨rfl,rfl⟩:=h;have hl:=yj hc;rcases hx with ⟨b,o,c,rfl,h1,h2,h3,h4,h5⟩ | ⟨ad,rfl,rfl,rfl⟩
   ·obtain ⟨us,g1,g2,g3⟩:=pU _ b o h5;exact ⟨us,g1,CM (by omega) (fun j u hj=>by rw [mz];exact g3 j u hj)⟩
   ·exact ⟨[],by simp [au],CM (by simp) (fun j u hj=>by simp at hj)⟩
 case aE id o n'=>
  cases hg:aA hp id with
  | none=>simp [hg] at h
  | some ob=>
   cases ob<;>simp only [hg,reduceCtorEq] at h
   rename_i rw pu ex z dH
   cases hc:yy (o+n'*size) dH.length with
   | false=>rw [hc] at h;cases h
   | true=>
    rw [hc] at h;simp only [yz,yb,yk] at h;obtain ⟨rfl,rfl⟩:=h;have hl:=yp hc;obtain ⟨p,c,hm,rfl,h1,h2⟩:=hx;have hr:=Pb (o:=0) (n:=0) hh hg hm;have lE:=zf (n'*size) _ _ _ (oQ o _ _ _ hr);obtain ⟨us,g1,g2,g3⟩:=pU _ p.b (p.o+o) lE;refine ⟨us,g1,CM ?_ (fun j u hj=>by rw [mz];exact g3 j u hj)⟩
    grind
def ZP {size n:Nat} {vx:AV} {x:yg} {cs:List AV} (hh:aP O m S w hp ct) (hx:ah O.af m S w vx x) (h:iI hp size vx=some (n,cs)):
  ∃us,au O.af m S w cs us/\Src O.P w size n us x:=by
 cases vx<;>try exact Y8 hh hx h
 simp only [iI] at h
 cases hc:yq size 1 with
 | false=>rw [hc] at h;cases h
 | true=>
  rw [hc] at h;obtain ⟨rfl,rfl⟩:=h
  have:=yj hc
  subst this;obtain ⟨t,rfl,rfl⟩:=hx;refine ⟨_,YK _,?_⟩
  have:(List.map xf t.data.toList).length=t.size:=by simp
  rw [this];exact aq1
def alp {P:y8} {t u ty e:yx} {i:ycx} (ht:P.underlying t=some (.slice e)) (hu:(∃e',P.underlying u=some (.slice e'))\/P.underlying u=some .string) (hi:P.info? e=some i)
  {g o gO pv:Nat} {IK:Array yg} {te:yx} (hg:w.heap[g]? =some (.cells IK te (0,0))) {x:yg} {n:Nat} {news:List yg} (hs:Src P w i.size n news x) (h1:∀u∈news,u.oneCell'=true)
  (Di:gO+n<=pv) (Q5:o+gO*i.size+news.length<=IK.size):
  (Builtin.append_ #[t,u] ty #[.slice (some ⟨g,o,none⟩) gO pv,x]).run P w=
   .ok (.slice (some ⟨g,o,none⟩) (gO+n) pv) (w.setRow g (IK.toList.take (o+gO*i.size)++news++IK.toList.drop (o+gO*i.size+news.length)).toArray):=by
 obtain ⟨kH,sO,Xb⟩:=hs;have hf:=Xb w rfl n (yB _);rw [yQ (by omega)] at hf;have aU:=run_storeCells_at P g (o+gO*i.size) te news 0 IK w hg (by omega) h1;rcases hu with ⟨e',hd⟩ | hd<;>
  simp [Builtin.append_,run_underlying ht,run_underlying hd,wW,typeInfo,hi,kH,Di,hf,mz,aU]
def Jx {P:y8} {t u ty e:yx} {i:ycx} {z:yg} (ht:P.underlying t=some (.slice e)) (hu:(∃e',P.underlying u=some (.slice e'))\/P.underlying u=some .string) (hi:P.info? e=some i) (hz:i.zero=some z)
  {s:yg} {base:Option vY} {gO pv:Nat} (es:s= .slice base gO pv) {kB:List yg} (ho:Src P w i.size gO kB s) {x:yg} {n:Nat} {news:List yg} (hs:Src P w i.size n news x)
  (hg:pv<gO+n) (h63:gO+n<=1099511627776) (Xa:(gO+n)*i.bytes<=1099511627776):
  (Builtin.append_ #[t,u] ty #[s,x]).run P w=
   .ok (.slice (some ⟨w.heap.size,0,none⟩) (gO+n) (grownCap w (gO+n) pv e))
    (w.drew.alloc (.cells ((kB++news).toArray++Builtin.zeroCells z.cells (grownCap w (gO+n) pv e-(gO+n))) e)):=by
 obtain ⟨kH,sO,Xb⟩:=hs;obtain ⟨ho1,Xc,ho3⟩:=ho;have hf:=Xb w.drew rfl n (yB _);rw [yQ (by omega)] at hf;have hfo:=ho3 w.drew rfl gO (yB _);have hn:¬(gO+n<=pv):=by omega
 have ay1:¬(9223372036854775807<((gO:Int)+(n:Int))):=by omega
 have Q5:=growslice_fits (need:=gO+n) (old:=pv) (bytes:=i.bytes) hg (by omega);have ay2:¬(281474976710656<Builtin.nextslicecap (gO+n) pv*i.bytes):=by omega
 subst es;rcases hu with ⟨e',hd⟩ | hd
 all_goals
  simp [Builtin.append_,run_underlying ht,run_underlying hd,wW,typeInfo,zeroValue,hi,hz,kH,hn,ay1,ay2,Question.forced,hf,hfo,newRow,askRoom,grownCap]
  grind
def OU {e:yx} {z:yg} {sz need cap:Nat} {cs:List AV} {us:List yg} (hh:aP O m S w hp ct) (hr:au O.af m S w cs us) (hl:us.length=need*sz) (hz:z.cells.size=sz)
  (By:Bool) (Xd:By=true->aI cs=true) (hc:need<=cap):
  let w':=w.drew.alloc (.cells (us.toArray++Builtin.zeroCells z.cells (cap-need)) e)
  let p:Pl:=⟨w.heap.size,0,cap*sz,sz⟩
  ∀m',cO m m'->m' ct=some p->eJ O m' S w' ct (.cells true By false sz cs):=by
 intro w' p m' hm hi;have aU:fb S w w':=fun b hb=>by
  have:=hh.slt b hb
  exact RowKit.Below.heap_alloc w.drew _ b (by simpa using this)
 have ig:w'.heap[w.heap.size]? =some (.cells (us.toArray++Builtin.zeroCells z.cells (cap-need)) e (0,0)):=heap_alloc_new w.drew _;have gR:=fX _ _ hr;refine ⟨p,_,e,hi,ig,rfl,?_,?_,by simp,?_,Xd,?_,by simp⟩
 ·show cs.length<=cap*sz
  rw [<-gR,hl];exact yU _ hc
 ·show 0+cap*sz<=_
  rw [Array.size_append,uM,size_zeroCells,hz,hl,<-xS]
  grind
 ·refine JR ig cs us 0 (fV hm (fun _ h=>h) aU _ _ hr) (fun j u hj=>?_)
  grind
 ·intro _ hS
  have:=hh.slt _ hS
  grind
def alc (hh:aP O m S w hp ct) (g:tK):fb S w (w.drew.alloc g):=fun b hb=>by
 have:=hh.slt b hb
 exact RowKit.Below.heap_alloc w.drew _ b (by simpa using this)
def OV (hh:aP O m S w hp ct) {hp0:Hp} {g:tK} {p:Pl} {o:Obj} (Lt:∀i q,aA hp0 i=some q->aA hp i=some q) (hb:p.b=w.heap.size)
  (ho:∀m',cO m m'->m' ct=some p->eJ O m' S (w.drew.alloc g) ct o):
  aP O (eX m ct p) S (w.drew.alloc g) ((ct,o)::hp0) (ct+1)/\bY m S w hp (eX m ct p) S (w.drew.alloc g) ((ct,o)::hp0) ct:=by
 have hn:m ct=none:=by
  cases h:m ct with
  | none=>rfl
  | some q=>have:=hh.lt _ _ h;omega
 have hle:=iG hn (p:=p);have aU:=alc hh g;have hold:∀b,b<w.heap.size->(w.drew.alloc g).heap[b]? =w.heap[b]? :=fun b hb=>RowKit.Below.heap_alloc w.drew _ b (by simpa using hb)
 have ej:(w.drew.alloc g).heap.size=w.heap.size+1:=by simp
 have gI:∀i q,aA ((ct,o)::hp0) i=some q->i≠ct->aA hp i=some q:=fun i q h hi=>by
  rw [fa,yv (fun e=>hi e.symm)] at h
  grind
 refine ⟨⟨?_,?_,?_,?_,?_,?_,?_,?_,fun i q hq=>(by
  by_cases hc:i=ct
  ·omega
  ·have:=hh.aG _ _ (gI i q hq hc);omega)⟩,⟨rfl,rfl,rfl,by omega,?_,fun _ h=>h,fun b hb=>aU b hb,fun b hb=> .inl hb,?_,fun i q _ h=>hle i q h,fun b r hb=>⟨r,(hold b (xo.1 hb).1).trans hb⟩⟩⟩
 ·intro i q pi hi bD;by_cases hc:i=ct
  ·subst hc;rw [fa] at hi;simp only [xO,yb] at hi;subst hi;exact ho _ hle du
  ·rw [dL hc] at bD;exact pW hle (fun _ h=>h) aU (fun q' bH=>hold _ (hh.blt i q' bH)) (fun _ _ h=>h) (hh.obj i q pi (gI i q hi hc) bD)
 ·intro i q bD;by_cases hc:i=ct
  ·omega
  ·rw [dL hc] at bD;have:=hh.lt i q bD;omega
 ·intro i j oi oj pi pj hi hj bD fM e;by_cases ci:i=ct
  ·by_cases cj:j=ct
   ·grind
   ·subst ci;rw [du] at bD;rw [dL cj] at fM;injection bD with bD
    subst bD
    have:=hh.blt j pj fM
    omega
  ·rw [dL ci] at bD;by_cases cj:j=ct
   ·subst cj;rw [du] at fM;injection fM with fM
    subst fM
    have:=hh.blt i pi bD
    omega
   ·rw [dL cj] at fM;exact hh.inj i j oi oj pi pj (gI i oi hi ci) (gI j oj hj cj) bD fM e
 ·intro b hb;have:=hh.slt b hb;omega
 ·intro i q bD;by_cases hc:i=ct
  ·subst hc;rw [du] at bD;injection bD with bD
   subst bD;omega
  ·rw [dL hc] at bD;have:=hh.blt i q bD;omega
 ·intro i q bD;have h0:=hh.fw;by_cases hc:i=ct
  ·subst hc;rw [du] at bD;injection bD with bD
   subst bD;omega
  ·rw [dL hc] at bD;exact hh.low i q bD
 ·intro b hb;have h0:=hh.fw;exact (hold b (by omega)).trans (hh.jb b hb)
 ·have h0:=hh.fw;omega
 ·intro b hb _;exact hold b hb
 ·rintro b ⟨i,q,pi,h1,h2,h3⟩;by_cases hc:i=ct
  ·subst hc;rw [du] at h2;injection h2 with h2
   subst h2;exact .inr (by omega)
  ·rw [dL hc] at h2;exact .inl ⟨i,q,pi,gI i q h1 hc,h2,h3⟩
def am7 (hh:aP O m S w hp ct) {id:Nat} {o o':Obj} {p p':Pl} {w':yi} (hg:aA hp id=some o) (hm:m id=some p) (hn:¬S p.b) (hw:One w w' p.b) (hk:∀r:uj,w.heap[p.b]? =some (.loop r)->∃r':uj,w'.heap[p.b]? =some (.loop r')) (hb:p'.b=p.b)
  (ho:∀m',cO m m'->m' ct=some p'->eJ O m' S w' ct o'):
  aP O (eX m ct p') S w' ((ct,o')::dX hp id) (ct+1)/\bY m S w hp (eX m ct p') S w' ((ct,o')::dX hp id) ct:=by
 have ir:m ct=none:=by
  cases h:m ct with
  | none=>rfl
  | some q=>have:=hh.lt _ _ h;omega
 have hle:=iG ir (p:=p');have aU:fb S w w':=fun b hb=>hw.other b (fun e=>hn (e▸hb))
 have gI:∀i q,aA ((ct,o')::dX hp id) i=some q->i≠ct->aA hp i=some q/\i≠id:=fun i q h hi=>by
  rw [fa,yv (fun e=>hi e.symm),FW] at h
  grind
 have ahn:∀i q pi,aA hp i=some q->i≠id->m i=some pi->pi.b≠p.b:=fun i q pi h hi bD e=>hi (hh.inj i id q o pi p h hg bD hm e)
 refine ⟨⟨?_,?_,?_,?_,?_,?_,?_,?_,fun i q hq=>(by
  by_cases hc:i=ct
  ·omega
  ·have:=hh.aG _ _ (gI i q hq hc).1;omega)⟩,⟨hw.os,hw.tape,hw.output,by rw [hw.size];exact yB _,?_,fun _ h=>h,fun b hb=>aU b hb,fun b hb=> .inl hb,?_,fun i q _ h=>hle i q h,fun b r hb=>(by
  by_cases hc:b=p.b
  ·grind
  ·exact ⟨r,(hw.other b hc).trans hb⟩)⟩⟩
 ·intro i q pi hi bD;by_cases hc:i=ct
  ·subst hc;rw [fa] at hi;simp only [xO,yb] at hi;subst hi;exact ho _ hle du
  ·rw [dL hc] at bD;obtain ⟨h1,h2⟩:=gI i q hi hc;exact pW hle (fun _ h=>h) aU (fun q' bH=>hw.other _ (ahn i q q' h1 h2 bH)) (fun _ _ h=>h) (hh.obj i q pi h1 bD)
 ·intro i q bD;by_cases hc:i=ct
  ·omega
  ·rw [dL hc] at bD;have:=hh.lt i q bD;omega
 ·intro i j oi oj pi pj hi hj bD fM e;by_cases ci:i=ct
  ·by_cases cj:j=ct
   ·grind
   ·subst ci;rw [du] at bD;rw [dL cj] at fM
    grind
  ·rw [dL ci] at bD;obtain ⟨h1,h2⟩:=gI i oi hi ci;by_cases cj:j=ct
   ·subst cj;rw [du] at fM;injection fM with fM
    subst fM;exact (ahn i oi pi h1 h2 bD (by rw [e,hb])).elim
   ·rw [dL cj] at fM;exact hh.inj i j oi oj pi pj h1 (gI j oj hj cj).1 bD fM e
 ·intro b hb;rw [hw.size];exact hh.slt b hb
 ·intro i q bD;rw [hw.size];by_cases hc:i=ct
  ·subst hc;rw [du] at bD;injection bD with bD
   subst bD;rw [hb];exact hh.blt id p hm
  ·rw [dL hc] at bD;exact hh.blt i q bD
 ·intro i q bD;by_cases hc:i=ct
  ·subst hc;rw [du] at bD;injection bD with bD
   subst bD;rw [hb];exact hh.low id p hm
  ·rw [dL hc] at bD;exact hh.low i q bD
 ·intro b hb
  rw [hw.other b (fun e=>by have:=hh.low id p hm;omega)];exact hh.jb b hb
 ·rw [hw.size];exact hh.fw
 ·intro b _ bC;exact hw.other b (fun e=>bC (e▸Gt hg hm))
 ·rintro b ⟨i,q,pi,h1,h2,h3⟩;by_cases hc:i=ct
  ·subst hc;rw [du] at h2;injection h2 with h2
   subst h2;exact .inl ⟨id,o,p,hg,hm,by rw [<-h3,hb]⟩
  ·rw [dL hc] at h2;exact .inl ⟨i,q,pi,(gI i q h1 hc).1,h2,h3⟩
def abB {P:y8} {e:yx} {s bV:Nat} {z:AV} (hs:cg P e=some s) (hb:qQ P e=some bV) (hz:j9 P e=some z):
  ∃ti zv,P.info? e=some ti/\ti.size=s/\ti.bytes=bV/\ti.zero=some zv/\z=dW zv:=by
 unfold cg at hs;unfold qQ at hb;unfold j9 at hz
 cases hi:P.info? e with
 | none=>simp [hi] at hs
 | some ti=>
  simp only [hi,yb] at hs hb hz
  cases fA:ti.zero with
  | none=>simp [fA] at hz
  | some zv=>
   grind
def F7 {o:y7} {v:AV} {u:yg} {w':yi} {m':Mp} {S':Nat->Prop} {ap:Hp} {aX:Nat} (h1:(execOp a.eval o).run O.P w= .ok (.value u) w') (h2:aP O m' S' w' ap aX) (h3:ah O.af m' S' w' v u)
  (h4:cO m m') (h5:bY m S w hp m' S' w' ap ct):rS O m S w a hp ct o v ap aX:=⟨_,u,w',m',S',h1,.inl rfl,h2,h3,h4,h5⟩
def aoR {o:y7} {b':yx} {t u e:yx} {sz bV:Nat} {z:AV} {x y:xq} {v:AV} {ap:Hp} {aX:Nat} (hH:eQ O H) (ht:bS O m S w tm a.tmps) (hh:aP O m S w hp ct)
  (eW:(execOp a.eval o).run O.P w=((do pure (.value (<-Builtin.append_ #[t,u] b' #[a.eval x,a.eval y])):Sem yaf)).run O.P w)
  (qX:O.P.underlying t=some (.slice e)) (hu:(∃e',O.P.underlying u=some (.slice e'))\/O.P.underlying u=some .string) (hs:cg O.P e=some sz) (hb:qQ O.P e=some bV) (hz:j9 O.P e=some z) (pI:(cellsOf z).length=sz)
  (hv:cw tm hp ct (.aT sz bV (aM H x) (aM H y))=some (v,ap,aX)):rS O m S w a hp ct o v ap aX:=by
 simp only [cw] at hv;obtain ⟨ti,zv,pJ,rfl,rfl,IL,rfl⟩:=abB hs hb hz;have aH:∀u' w',(Builtin.append_ #[t,u] b' #[a.eval x,a.eval y]).run O.P w= .ok u' w'->(execOp a.eval o).run O.P w= .ok (.value u') w':=fun u' w' h=>by
  rw [eW,Sem.run_bind,h];rfl
 have qj:m ct=none:=by
  cases h:m ct with
  | none=>rfl
  | some q=>have:=hh.lt _ _ h;omega
 have Cd:zv.cells.size=ti.size:=by
  have:=fX _ _ (AT (af:=O.af) (m:=m) (S:=S) (w:=w) zv)
  rw [<-pI,<-this];simp
 cases px:iI hp ti.size (ay tm (aM H y)) with
 | none=>simp [px] at hv
 | some q=>
  obtain ⟨n,new⟩:=q;simp only [px] at hv;obtain ⟨news,jz,cU⟩:=ZP hh (b9 hH ht y) px;have IM:=fX _ _ jz;have rx:=b9 hH ht x
  cases hx:ay tm (aM H x) with
  | ae=>
   rw [hx] at hv rx;simp only at hv;simp only [ah] at rx
   cases h0:yq n 0 with
   | true=>
    rw [h0] at hv;simp only [yz,yb,yk] at hv;obtain ⟨rfl,rfl,rfl⟩:=hv;have qY:=yj h0;subst qY;have Qw:news=[]:=yD (by rw [cU.2.1];simp)
    subst Qw;have hf:=cU.2.2 w rfl 0 (yB _);have iP:=cU.1 w;refine ⟨.value (.slice none 0 0),.slice none 0 0,w,m,S,?_,.inl rfl,hh,by simp [ah],cO.refl,bY.refl⟩;rw [eW,rx];rcases hu with ⟨e',hu⟩ | hu<;>
     simp [Builtin.append_,run_underlying qX,run_underlying hu,wW,typeInfo,pJ,iP,hf]
   | false=>
    rw [h0] at hv;simp only [yY] at hv
    cases hc:(yy n room&&(yy (n*ti.bytes) room&&yK 0 ti.size)) with
    | false=>rw [hc] at hv;cases hv
    | true=>
     rw [hc] at hv;simp only [yz,yb,yk] at hv;obtain ⟨rfl,rfl,rfl⟩:=hv;simp only [yf] at hc;have c1:=yp hc.1;have c2:=yp hc.2.1;simp only [room] at c1 c2;have qY:0<n:=by
      rcases xe n with h | h
      ·subst h;simp at h0
      ·exact h
     have hr:=Jx (P:=O.P) (ty:=b') (w:=w) qX hu pJ IL (s:= .slice none 0 0) rfl (abA (P:=O.P) (size:=ti.size)) cU (by omega) (by omega) (by simpa using c2);simp only [yh,List.nil_append] at hr;have iv:=grownCap_ge w n 0 e;have ig:=OU (e:=e) (z:=zv) (cap:=grownCap w n 0 e) hh jz (need:=n) (sz:=ti.size) cU.2.1 Cd (aI new) (fun h=>h) iv;obtain ⟨k1,k2⟩:=OV hh (hp0:=hp) (p:=⟨w.heap.size,0,grownCap w n 0 e*ti.size,ti.size⟩) (fun _ _ h=>h) rfl ig;exact F7 (aH _ _ (by rw [rx];exact hr)) k1 (by simp only [ah];exact ⟨_,_,du,rfl,iv,by simp⟩) (iG qj) k2
  | aC ex k cs=>
   rw [hx] at hv rx
   cases ex with
   | false=>simp at hv
   | true=>
    simp only at hv;have rx0:=rx;simp only [ah] at rx;have rx1:∃ad kB,a.eval x= .slice (some ad) k k/\au O.af m S w cs kB/\kB.length=cs.length/\(∀(j:Nat) (u:yg),kB[j]? =some u->w.cell? (ad.add j)=some u)/\aI cs=true:=by
     rcases rx with ⟨bb,oo,c,ex,h1,h2,h3,h4,h5⟩ | ⟨ad,ex,rfl,rfl⟩
     ·have mc:c=k:=h2 (by trivial);subst mc;obtain ⟨kB,g1,g2,g3⟩:=pU cs bb oo h5;exact ⟨_,kB,ex,g1,g2,fun j u hj=>by rw [mz];exact g3 j u hj,h4⟩
     ·exact ⟨ad,[],ex,by simp [au],rfl,fun j u hj=>by simp at hj,rfl⟩
    obtain ⟨ad,kB,ex,g1,g2,g3,h4⟩:=rx1
    cases h0:yq n 0 with
    | true=>
     rw [h0] at hv;simp only [yz,yb,yk] at hv;obtain ⟨rfl,rfl,rfl⟩:=hv;have qY:=yj h0;subst qY;have Qw:news=[]:=yD (by rw [cU.2.1];simp)
     subst Qw;have hf:=cU.2.2 w rfl 0 (yB _);have iP:=cU.1 w;refine ⟨.value (a.eval x),a.eval x,w,m,S,?_,.inl rfl,hh,rx0,cO.refl,bY.refl⟩;rw [eW,ex];rcases hu with ⟨e',hu⟩ | hu<;>
      simp [Builtin.append_,run_underlying qX,run_underlying hu,wW,typeInfo,pJ,iP,hf,storeCells]
    | false=>
     rw [h0] at hv;simp only [yY] at hv
     cases hc:(yy (k+n) room&&(yy ((k+n)*ti.bytes) room&&(yq cs.length (k*ti.size)&&yK 0 ti.size))) with
     | false=>rw [hc] at hv;cases hv
     | true=>
      rw [hc] at hv;simp only [yz,yb,yk] at hv;obtain ⟨rfl,rfl,rfl⟩:=hv;simp only [yf] at hc;have c1:=yp hc.1;have c2:=yp hc.2.1;have c3:=yj hc.2.2.1;simp only [room] at c1 c2;have qY:0<n:=by
       rcases xe n with h | h
       ·subst h;simp at h0
       ·exact h
      have IN:Src O.P w ti.size k kB (.slice (some ad) k k):=CM (by omega) g3;have hr:=Jx (P:=O.P) (ty:=b') (w:=w) qX hu pJ IL rfl IN cU (by omega) c1 c2;have iv:=grownCap_ge w (k+n) k e;have ig:=OU (e:=e) (z:=zv) (cap:=grownCap w (k+n) k e) hh (jU g1 jz) (need:=k+n) (sz:=ti.size) (by rw [y5,g2,c3,cU.2.1,xS]) Cd (aI cs&&aI new)
       (fun h=>by simp only [yf] at h;exact AU h.1 h.2) iv
      obtain ⟨k1,k2⟩:=OV hh (hp0:=hp) (p:=⟨w.heap.size,0,grownCap w (k+n) k e*ti.size,ti.size⟩) (fun _ _ h=>h) rfl ig;exact F7 (aH _ _ (by rw [ex];exact hr)) k1 (by simp only [ah];exact ⟨_,_,du,rfl,iv,by simp⟩) (iG qj) k2
  | aE id o0 k=>
   rw [hx] at hv rx;simp only at hv;simp only [ah] at rx;obtain ⟨p,c,hm,ex,h1,h2⟩:=rx
   split at hv
   case h_2=>cases hv
   rename_i pu NA zz cs hg
   cases hc:(yq zz ti.size&&(yy (k+n) room&&(yy ((k+n)*ti.bytes) room&&(yy (o0+k*ti.size) cs.length&&(yK 0 ti.size&&cF new))))) with
   | false=>rw [hc] at hv;cases hv
   | true=>
    rw [hc] at hv;simp only [yz,yb,yk] at hv;obtain ⟨rfl,rfl,rfl⟩:=hv;simp only [yf] at hc;have c0:=yj hc.1;have c1:=yp hc.2.1;have c2:=yp hc.2.2.1;have c3:=yp hc.2.2.2.1;have c4:=hc.2.2.2.2.2;simp only [room] at c1 c2;obtain ⟨p',arr,t',g1,g2,g3,g4,g5,g6,g7,g8,g9,g10⟩:=hh.obj id _ _ hg hm;rw [hm] at g1;injection g1 with g1
    subst g1;subst c0;rw [g3] at h2;have Ei:bK O.af m S w (slice o0 (k*ti.size) cs) p.b (p.o+o0):=zf _ _ _ _ (oQ _ _ _ _ g7);obtain ⟨kB,f1,f2,f3⟩:=pU _ _ _ Ei;have Lu:(slice o0 (k*ti.size) cs).length=k*ti.size:=by simp only [slice,yW,xK];omega
    have lZ:(pu&&aI new)=true->aI (slice o0 (k*ti.size) cs++new)=true:=fun h=>by
     simp only [yf] at h;exact AU (zc _ (rC _ _ (g8 h.1))) h.2
    by_cases Di:k+n<=c
    ·have ff:=JS jz c4;have Q5:p.o+o0+k*ti.size+news.length<=arr.size:=by
      rw [cU.2.1]
      have:(k+n)*ti.size<=c*ti.size:=yU _ Di
      rw [xS] at this;omega
     have hr:=alp (P:=O.P) (ty:=b') (w:=w) qX hu pJ g2 cU ff Di Q5;have ho:∀m',cO m m'->m' ct=some ⟨p.b,p.o+o0,c*ti.size,ti.size⟩->
       eJ O m' S (w.setRow p.b (arr.toList.take (p.o+o0+k*ti.size)++news++arr.toList.drop (p.o+o0+k*ti.size+news.length)).toArray) ct
        (.cells true (pu&&aI new) false ti.size (slice o0 (k*ti.size) cs++new)):=by
      intro m' hle hi;have aU:fb S w (w.setRow p.b (arr.toList.take (p.o+o0+k*ti.size)++news++arr.toList.drop (p.o+o0+k*ti.size+news.length)).toArray):=fun b hb=>setRow_other w p.b b _ (fun e=>g9 rfl (e▸hb))
      refine ⟨_,_,t',hi,setRow_heap w p.b arr _ t' _ g2,rfl,?_,?_,by simp,?_,lZ,fun _=>g9 rfl,by simp⟩
      ·show (slice o0 (k*ti.size) cs++new).length<=c*ti.size
       rw [y5,Lu,<-IM,cU.2.1,<-xS];exact yU _ Di
      ·show p.o+o0+c*ti.size<=_
       rw [uM,y5,y5,yW,xK,vl];omega
      ·refine CP _ (kB++news) _ (jU (fV hle (fun _ h=>h) aU _ _ f1) (fV hle (fun _ h=>h) aU _ _ jz)) (fun j u hj=>?_);show World.cell? _ ⟨p.b,p.o+o0+j,none⟩=some u
       simp only [World.cell?,setRow_heap w p.b arr _ t' _ g2,tk,yC,xj];rw [yak];have e1:(arr.toList.take (p.o+o0+k*ti.size)).length=p.o+o0+k*ti.size:=by rw [yW,vl];omega
       by_cases Cb:j<k*ti.size
       ·rw [wb (by omega)] at hj;rw [xx,wb (by omega),ux (by omega)]
        have:=f3 j u hj
        simpa [World.cell?,g2] using this
       ·rw [xP (by omega)] at hj;have hjl:=(List.getElem?_eq_some_iff.1 hj).1;rw [xx,xP (by omega),e1,wb (by omega),show p.o+o0+j-(p.o+o0+k*ti.size)=j-kB.length by omega];exact hj
     obtain ⟨k1,k2⟩:=am7 (p':=⟨p.b,p.o+o0,c*ti.size,ti.size⟩) hh hg hm (g9 rfl) (OE w p.b _) (fun r hr=>by rw [g2] at hr;cases hr) rfl ho;exact F7 (aH _ _ (by rw [ex];exact hr)) k1 (by simp only [ah];exact ⟨_,c,du,rfl,Di,by simp⟩) (iG qj) k2
    ·have IN:Src O.P w ti.size k kB (.slice (some ⟨p.b,p.o+o0,none⟩) k c):=CM (by omega) (fun j u hj=>by rw [mz];exact f3 j u hj)
     have hr:=Jx (P:=O.P) (ty:=b') (w:=w) qX hu pJ IL rfl IN cU (by omega) c1 c2;have iv:=grownCap_ge w (k+n) c e;have ig:=OU (e:=e) (z:=zv) (cap:=grownCap w (k+n) c e) hh (jU f1 jz) (need:=k+n) (sz:=ti.size) (by rw [y5,f2,Lu,cU.2.1,xS]) Cd (pu&&aI new) lZ iv;obtain ⟨k1,k2⟩:=OV hh (hp0:=dX hp id) (p:=⟨w.heap.size,0,grownCap w (k+n) c e*ti.size,ti.size⟩) (fun i q h=>by
      rw [FW] at h;by_cases hi:id=i
      ·simp [hi] at h
      ·simpa only [hi,xj] using h) rfl ig
     exact F7 (aH _ _ (by rw [ex];exact hr)) k1 (by simp only [ah];exact ⟨_,_,du,rfl,iv,by simp⟩) (iG qj) k2
  | _=>rw [hx] at hv;simp at hv
end
end
section
open Go
section
variable {O:a8} {H:Hint} {m:Mp} {S:Nat->Prop} {w:yi} {tm:Env} {a:Act} {hp:Hp} {ct:Nat}
def alD {n:Nat} {cs:List AV} (h:aI cs=true):aI (cs.take n)=true:=zc n h
def Yz:∀(n:Nat) {cs:List AV},cF cs=true->cF (cs.take n)=true
 | 0,_,_=>by simp [cF]
 | n+1,[],_=>by simp [cF]
 | n+1,c::cs,h=>by
  simp only [xW,cF,yf] at h ⊢;exact ⟨h.1,Yz n h.2⟩
def aoS {o:y7} {b':yx} {t u e:yx} {sz:Nat} {x y:xq} {v:AV} {ap:Hp} {aX:Nat} (hH:eQ O H) (ht:bS O m S w tm a.tmps) (hh:aP O m S w hp ct)
  (eW:(execOp a.eval o).run O.P w=((do pure (.value (<-Builtin.copy_ #[t,u] b' #[a.eval x,a.eval y])):Sem yaf)).run O.P w)
  (qX:O.P.underlying t=some (.slice e)) (hs:cg O.P e=some sz)
  (hv:cw tm hp ct (.ox sz (aM H x) (aM H y))=some (v,ap,aX)):rS O m S w a hp ct o v ap aX:=by
 simp only [cw] at hv
 cases px:kS hp sz (ay tm (aM H y)) with
 | none=>simp [px] at hv
 | some q=>
  obtain ⟨n,new⟩:=q;simp only [px] at hv;obtain ⟨news,jz,cU⟩:=Y8 hh (b9 hH ht y) px;have IM:=fX _ _ jz;have rx:=b9 hH ht x;cases hx:ay tm (aM H x)<;>rw [hx] at hv rx<;>simp only [reduceCtorEq] at hv
  rename_i id o0 k;simp only [ah] at rx;obtain ⟨p,c,hm,ex,h1,h2⟩:=rx
  split at hv
  case h_2=>cases hv
  rename_i pu NA zz cs hg
  cases hc:(yq zz sz&&(yy (o0+k*sz) cs.length&&cF new)) with
  | false=>rw [hc] at hv;cases hv
  | true=>
   rw [hc] at hv;simp only [yz,yb,yk] at hv;obtain ⟨rfl,rfl,rfl⟩:=hv;simp only [yf] at hc;have c0:=yj hc.1;have c1:=yp hc.2.1;subst c0;obtain ⟨p',arr,t',g1,g2,g3,g4,g5,g6,g7,g8,g9,g10⟩:=hh.obj id _ _ hg hm;rw [hm] at g1;injection g1 with g1
   subst g1;have aho:min n k*zz<=k*zz:=yU _ (Nat.min_le_right _ _);have aGk:min n k*zz<=n*zz:=yU _ (ybk _ _);have rt:=CL (min n k*zz) jz;have oy:(news.take (min n k*zz)).length=min n k*zz:=by rw [yW,cU.2.1];omega
   have aGt:(new.take (min n k*zz)).length=min n k*zz:=by rw [yW,<-IM,cU.2.1];omega
   have ff:=JS rt (Yz _ hc.2.2);have hf:=cU.2.2 w rfl (min n k) (ybk _ _);have aU:=run_storeCells_at O.P p.b (p.o+o0) t' (news.take (min n k*zz)) 0 arr w g2 (by rw [oy];omega) ff;simp only [yV] at aU;have nf:eJ O m S (w.setRow p.b (arr.toList.take (p.o+o0)++news.take (min n k*zz)++arr.toList.drop (p.o+o0+(news.take (min n k*zz)).length)).toArray) id
     (.cells true (pu&&aI new) NA zz (over o0 (new.take (min n k*zz)) cs)):=by
    refine ⟨p,_,t',hm,setRow_heap w p.b arr _ t' _ g2,g3,by rw [J9 (by omega)];exact g4,?_,fun h=>by rw [J9 (by omega)];exact g6 h,?_,?_,fun _=>g9 rfl,by simp⟩
    ·rw [uM,y5,y5,yW,xK,vl,oy];omega
    ·exact aaB g2 g7 rt (by omega) (by omega) cO.refl (fun _ h=>h) (fun b hb=>setRow_other w p.b b _ (fun e=>g9 rfl (e▸hb))) (setRow_heap w p.b arr _ t' _ g2)
    ·intro h;simp only [yf] at h;exact Y6 (g8 h.1) (alD h.2)
   obtain ⟨e1,e2⟩:=F6 hh hg hm (g9 rfl) (OE w p.b _) nf (fun r hr=>by rw [g2] at hr;cases hr)
   refine F7 (u:=goInt ((min n k:Nat):Int)) (m':=m) (S':=S) ?_ e1 (by simp [ah,goInt]) cO.refl e2;rw [eW,ex];simp [Builtin.copy_,run_underlying qX,cU.1 w,mo hs,show Nat.min n k=min n k from rfl,hf,aU]
def aq2 {o:y7} {k:Nat} {v:AV} {ap:Hp} {aX:Nat} (hH:eQ O H) (ht:bS O m S w tm a.tmps) (hh:aP O m S w hp ct)
  (hv:cw tm hp ct (aR O.P H k o)=some (v,ap,aX)):rS O m S w a hp ct o v ap aX:=by
 have gD:∀{r:AV×Hp×Nat},cw tm hp ct bad=some r->False:=fun h=>by simp [bad,cw] at h
 cases ho:o.op with
 | call c=>
  obtain ⟨callee,args,ts⟩:=c;simp only [aR,ho] at hv
  split at hv
  ·cases Ca:H.mode k<;>simp [Ca,cw] at hv
  ·rename_i _ b
   split at hv
   ·rename_i x y t u fy lD;obtain ⟨al⟩:=args;obtain ⟨tl⟩:=ts;simp only at fy lD;subst fy;subst lD;obtain ⟨cs,eW⟩:=CE (O:=O) (w:=w) (a:=a) ho;have Hb:(execOp a.eval o).run O.P w=((do pure (.value (<-Builtin.append_ #[t,u] o.type #[a.eval x,a.eval y])):Sem yaf)).run O.P w:=by
     rw [eW];simp [builtin]
    have key:∀{z:AV} {sz bV:Nat} {e:yx},O.P.underlying t=some (.slice e)->((∃e',O.P.underlying u=some (.slice e'))\/O.P.underlying u=some .string)->cg O.P e=some sz->qQ O.P e=some bV->j9 O.P e=some z->
      cw tm hp ct (bif yq (cellsOf z).length sz then .aT sz bV (aM H x) (aM H y) else bad)=some (v,ap,aX)->rS O m S w a hp ct o v ap aX:=by
     intro z sz bV e h1 h2 h3 h4 h5 h
     cases hb:yq (cellsOf z).length sz with
     | false=>rw [hb] at h;exact (gD h).elim
     | true=>
      rw [hb] at h;exact aoR hH ht hh Hb h1 h2 h3 h4 h5 (yj hb) h
    split at hv
    ·rename_i e e' h1 h2
     split at hv
     ·rename_i sz bV z h3 h4 h5
      exact key h1 (.inl ⟨_,h2⟩) h3 h4 h5 hv
     ·exact (gD hv).elim
    ·rename_i e h1 h2
     split at hv
     ·rename_i sz bV z h3 h4 h5
      exact key h1 (.inr h2) h3 h4 h5 hv
     ·exact (gD hv).elim
    ·exact (gD hv).elim
   ·repeat' split at hv
    all_goals simp [cw,bad] at hv
   ·rename_i x y t u fy lD;obtain ⟨al⟩:=args;obtain ⟨tl⟩:=ts;simp only at fy lD;subst fy;subst lD;obtain ⟨cs,eW⟩:=CE (O:=O) (w:=w) (a:=a) ho;have Hb:(execOp a.eval o).run O.P w=((do pure (.value (<-Builtin.copy_ #[t,u] o.type #[a.eval x,a.eval y])):Sem yaf)).run O.P w:=by
     rw [eW];simp [builtin]
    split at hv
    ·rename_i e h1
     split at hv
     ·rename_i sz h3;exact aoS hH ht hh Hb h1 h3 hv
     ·exact (gD hv).elim
    ·exact (gD hv).elim
   ·simp [cw] at hv
   ·simp [cw] at hv
   ·exact (gD hv).elim
  ·exact (gD hv).elim
 | store t x y=>
  simp only [aR,ho] at hv
  split at hv
  ·rename_i s hs;exact aqZ hH ht hh ho hs hv
  ·exact (gD hv).elim
 | mapUpdate t x k y=>
  simp only [aR,ho] at hv
  split at hv
  ·rename_i kt e hu
   split at hv
   ·rename_i kk pH;exact aaC hH ht hh (.inl ho) hu pH hv
   ·exact (gD hv).elim
  ·exact (gD hv).elim
 | insert t x k y=>
  simp only [aR,ho] at hv
  split at hv
  ·rename_i kt e hu
   split at hv
   ·rename_i kk pH;exact aaC hH ht hh (.inr ho) hu pH hv
   ·exact (gD hv).elim
  ·exact (gD hv).elim
 | next x b=>
  cases b with
  | false=>simp only [aR,ho] at hv;exact (gD hv).elim
  | true=>exact aoQ hH ht hh ho (by simpa only [aR,ho] using hv)
 | binOp op t x y ty=>
  cases op<;>simp only [aR,ho,my,nI] at hv
  case eql=>
        repeat' split at hv
        all_goals first
         | (simp [cw,bad] at hv;done)
         | (cases hb:(O.P.stoodInHeld t||O.P.eqGuardType O.P.depth t)<;>rw [hb] at hv<;>simp [cw,bad] at hv)
  case neq=>
        repeat' split at hv
        all_goals first
         | (simp [cw,bad] at hv;done)
         | (cases hb:(O.P.stoodInHeld t||O.P.eqGuardType O.P.depth t)<;>rw [hb] at hv<;>simp [cw,bad] at hv)
  all_goals simp [cw] at hv
 | buildSlice t n parts=>
  simp only [aR,ho] at hv
  repeat' split at hv
  all_goals first
   | (simp [cw,bad] at hv;done)
   | (
     revert hv;generalize yy _ _=bb;intro hv;cases bb<;>simp [cw,bad] at hv
     try (split at hv<;>simp [cw,bad] at hv))
 | makeMap t r=>
  cases r<;>simp only [aR,ho] at hv
  ·repeat' split at hv
   all_goals simp [cw,bad] at hv
  ·exact (gD hv).elim
 | _=>
  simp only [aR,ho] at hv
  (repeat' split at hv)
  all_goals first
   | contradiction
   | (simp [cw,bad] at hv;done)
end
end
section
variable {hp H:Hp} {tm bU:Env}
def abC (hl:cI hp H) {id:Nat} {rw pu ex:Bool} {sz:Nat} {cs:List AV} (h:aA hp id=some (.cells rw pu ex sz cs)):∃eM,aA H id=some (.cells eM pu ex sz cs):=by
 obtain ⟨o',h1,eM,rfl,_⟩:=hl id _ h;exact ⟨eM,h1⟩
def abD (hl:cI hp H) {id:Nat} {rw:Bool} {ks vs:List AV} (h:aA hp id=some (.mp rw ks vs)):∃eM,aA H id=some (.mp eM ks vs):=by
 obtain ⟨o',h1,eM,rfl,_⟩:=hl id _ h;exact ⟨eM,h1⟩
def abE (hl:cI hp H) {sz:Nat} {ag:Bool} {x v:AV} (h:iM hp sz ag x=some v):iM H sz ag x=some v:=by
 cases x<;>simp only [iM,reduceCtorEq] at h ⊢
 ·rename_i id o
  cases hg:aA hp id with
  | none=>simp [hg] at h
  | some ob=>
   cases ob<;>simp only [hg,reduceCtorEq] at h
   obtain ⟨r,h1⟩:=abC hl hg;simp only [h1];exact h
 ·exact h
def aoT (hl:cI hp H) {k x:AV} {v:Option AV} (h:zM hp k x=some v):zM H k x=some v:=by
 cases x<;>simp only [zM,reduceCtorEq] at h ⊢
 ·exact h
 ·rename_i id
  cases hg:aA hp id with
  | none=>simp [hg] at h
  | some ob=>
   cases ob<;>simp only [hg,reduceCtorEq] at h
   obtain ⟨r,h1⟩:=abD hl hg;simp only [h1];exact h
 ·exact h
def aoU (hl:cI hp H) {k:Nat} {x v:AV} (h:jo hp k x=some v):jo H k x=some v:=by
 unfold jo at h ⊢
 split at h
 all_goals first
  | exact h
  | cases h
  | skip
 rename_i id
 cases hg:aA hp id with
 | none=>simp [hg] at h
 | some ob=>
  cases ob<;>simp only [hg,reduceCtorEq] at h
  obtain ⟨r,h1⟩:=abD hl hg;simp only [h1];exact h
def aoV (hl:cI hp H) {k:Cut} {x v:AV} {lo hi:Option X} (h:eV hp k x tm lo hi=some v):eV H k x tm lo hi=some v:=by
 unfold eV at h ⊢
 split at h
 all_goals first
  | exact h
  | cases h
  | skip
 rename_i sz id o n
 cases hg:aA hp id with
 | none=>simp [hg] at h
 | some ob=>
  cases ob<;>simp only [hg,reduceCtorEq] at h
  obtain ⟨r,h1⟩:=abC hl hg;simp only [h1];exact h
def am8 (hl:cI hp H) {o:Op} {v:AV} (h:bl tm hp o=some v):bl tm H o=some v:=by
 cases o<;>simp only [bl,reduceCtorEq] at h ⊢<;>first
  | exact h
  | exact abE hl h
  | exact aoU hl h
  | exact aoV hl h
  | skip
 rename_i kk zero ok m k
 cases hk:rH kk (ay tm k) with
 | false=>rw [hk] at h;cases h
 | true=>
  rw [hk] at h;simp only [yz] at h ⊢
  cases hr:zM hp (ay tm k) (ay tm m) with
  | none=>simp [hr] at h
  | some r=>rw [aoT hl hr];simpa only [hr] using h
def am9 {o:Op} (hk:bm o=0) (hp H:Hp):bl tm hp o=bl tm H o:=by
 cases o with
 | og k x lo hi=>
  cases k with
  | str=>simp only [bl,eV];cases ay tm x<;>rfl
  | sl sz=>simp [bm] at hk
  | ar n sz=>simp [bm] at hk
 | len k x=>
  match k,hk with
  | 0,_=>simp only [bl];unfold jo;split<;>simp_all
  | 1,_=>simp only [bl];unfold jo;split<;>simp_all
  | k+2,hk=>simp [bm] at hk
 | call md f xs=>cases md<;>simp [bm] at hk
 | _=>first
  | rfl
  | simp [bm] at hk
end
section
variable {tm bU:Env}
def dd {x:X} (h:∀t,t∈hZ x->aj bU t=aj tm t):ay bU x=ay tm x:=by
 cases x with
 | t i=>exact h i (by simp [hZ])
 | c v=>rfl
def AY:∀{xs:List X},(∀t,t∈rL xs->aj bU t=aj tm t)->cW bU xs=cW tm xs
 | [],_=>rfl
 | x::r,h=>by
  simp only [cW]
  rw [dd (x:=x) (fun t ht=>h t (by simp [rL,ht])),AY (fun t ht=>h t (by simp [rL,ht]))]
def OW:∀{ps:List (Nat×Nat×X)} {z:List AV},(∀t,t∈G7 ps->aj bU t=aj tm t)->fill bU z ps=fill tm z ps
 | [],_,_=>rfl
 | (o,s,x)::r,z,h=>by
  simp only [fill]
  rw [dd (x:=x) (fun t ht=>h t (by simp [G7,ht]))]
  rw [OW (ps:=r) (fun t ht=>h t (by simp [G7,ht]))]
def Y9 {d:Nat} {x:Option X} (h:∀t,t∈G6 x->aj bU t=aj tm t):cM bU d x=cM tm d x:=by
 cases x with
 | none=>rfl
 | some x=>simp only [cM];rw [dd h]
def amb {hp:Hp} {k:Cut} {x:AV} {lo hi:Option X} (h1:∀t,t∈G6 lo->aj bU t=aj tm t) (h2:∀t,t∈G6 hi->aj bU t=aj tm t):
  eV hp k x bU lo hi=eV hp k x tm lo hi:=by
 unfold eV;simp only [Y9 h1,Y9 h2]
def alE {hp:Hp} {o:Op} (h:∀t,t∈jm o->aj bU t=aj tm t):bl bU hp o=bl tm hp o:=by
 cases o<;>simp only [jm,wy] at h<;>simp only [bl]
 case pick c a b=>rw [dd (x:=c) fun t ht=>h t (.inl ht),dd (x:=a) fun t ht=>h t (.inr (.inl ht)),dd (x:=b) fun t ht=>h t (.inr (.inr ht))]
 case Bt z ps=>rw [OW h]
 case Ea f a b=>rw [AY (xs:=a) fun t ht=>h t (.inl ht),AY (xs:=b) fun t ht=>h t (.inr ht)]
 case og k x lo hi=>rw [dd (x:=x) fun t ht=>h t (.inl ht),amb (fun t ht=>h t (.inr (.inl ht))) (fun t ht=>h t (.inr (.inr ht)))]
 case mn xs=>rw [AY h]
 case mx xs=>rw [AY h]
 case bin op x y=>rw [dd (x:=x) fun t ht=>h t (.inl ht),dd (x:=y) fun t ht=>h t (.inr ht)]
 case eq n k x y=>rw [dd (x:=x) fun t ht=>h t (.inl ht),dd (x:=y) fun t ht=>h t (.inr ht)]
 case cd s x y=>rw [dd (x:=x) fun t ht=>h t (.inl ht),dd (x:=y) fun t ht=>h t (.inr ht)]
 case Eb l s x y=>rw [dd (x:=x) fun t ht=>h t (.inl ht),dd (x:=y) fun t ht=>h t (.inr ht)]
 case Ec x y=>rw [dd (x:=x) fun t ht=>h t (.inl ht),dd (x:=y) fun t ht=>h t (.inr ht)]
 case Ed l s g x y=>rw [dd (x:=x) fun t ht=>h t (.inl ht),dd (x:=y) fun t ht=>h t (.inr ht)]
 case Nv kk z ok x y=>rw [dd (x:=x) fun t ht=>h t (.inl ht),dd (x:=y) fun t ht=>h t (.inr ht)]
 all_goals first
  | rfl
  | (rename_i x;rw [dd (x:=x) h])
def FL {hp ap:Hp} {ct:Nat} {o:Op} (h:∀t,t∈jm o->aj bU t=aj tm t):cB bU ap ct o=cB tm hp ct o:=by
 cases o<;>simp only [jm,wy] at h<;>simp only [cB]
 case box s x=>rw [dd (x:=x) h]
 case lf n s z ps=>rw [OW h]
 case mX s b z x y=>rw [dd (x:=x) fun t ht=>h t (.inl ht),dd (x:=y) fun t ht=>h t (.inr ht)]
 case ol x=>rw [dd (x:=x) h]
def AW {hp:Hp} {ct:Nat} {o:Op} (h:∀t,t∈jm o->aj bU t=aj tm t):cw bU hp ct o=cw tm hp ct o:=by
 cases o<;>simp only [jm,wy] at h<;>simp only [cw]
 case st s x y=>rw [dd (x:=x) fun t ht=>h t (.inl ht),dd (x:=y) fun t ht=>h t (.inr ht)]
 case oh kk c a b=>rw [dd (x:=c) fun t ht=>h t (.inl ht),dd (x:=a) fun t ht=>h t (.inr (.inl ht)),dd (x:=b) fun t ht=>h t (.inr (.inr ht))]
 case ot x=>rw [dd (x:=x) h]
 case aT s b x y=>rw [dd (x:=x) fun t ht=>h t (.inl ht),dd (x:=y) fun t ht=>h t (.inr ht)]
 case ox s x y=>rw [dd (x:=x) fun t ht=>h t (.inl ht),dd (x:=y) fun t ht=>h t (.inr ht)]
end
section
open Go
structure Calm (w w':yi):Prop where
 os:w'.os=w.os
 tape:w'.tape=w.tape
 output:w'.output=w.output
 size:w.heap.size<=w'.heap.size
 same:∀b,b<w.heap.size->w'.heap[b]? =w.heap[b]?
def Calm.refl {w:yi}:Calm w w:=⟨rfl,rfl,rfl,yB _,fun _ _=>rfl⟩
def zN (O:a8) (w:yi):Prop:=(∀b,b<O.w0.heap.size->w.heap[b]? =O.w0.heap[b]?)/\O.w0.heap.size<=w.heap.size
def eB:Mp:=fun _=>none
def gE (af:Nat->Nat) (S:Nat->Prop) (w:yi) (lo:Nat):AV->yg->List Nat->Prop
 | .bE ex sz n cs,u,bs=>∃b o c arr t,bs=[b]/\u= .slice (some ⟨b,o,none⟩) n c/\n<=c/\(ex=true->c=n)/\lo<=b/\¬S b/\w.heap[b]? =some (.cells arr t (0,0))/\cs.length=n*sz/\
   o+c*sz<=arr.size/\bK af eB S w cs b o/\aI cs=true
 | r,u,bs=>bs=[]/\ah af eB S w r u/\bh r=true
def jL (af:Nat->Nat) (S:Nat->Prop) (w:yi) (lo:Nat):List AV->List yg->List Nat->Prop
 | [],us,bs=>us=[]/\bs=[]
 | v::r,us,bs=>∃u t b1 b2,us=u::t/\bs=b1++b2/\gE af S w lo v u b1/\jL af S w lo r t b2
def lV (af:Nat->Nat) (S:Nat->Prop) (w:yi) (lo:Nat) (r:AV) (u:yg):Prop:=
 match r with
 | .aa vs=>∃(us:Array yg) (bs:List Nat),u= .tuple us/\jL af S w lo vs us.toList bs/\bs.Nodup
 | r=>∃bs,gE af S w lo r u bs
def zx (P:y8) (f:tq) (args:Array yg) (w:yi) (R:yar->yi->Prop):Prop:=
 ((callFunc f args).run P w= .ok (.enter f args) w/\CallsIn Fence.wide 0 P f args w R)\/∃u w',(callFunc f args).run P w= .ok (.value u) w'/\R (.returned u) w'
def aaD (O:a8) (w:yi) (S:Nat->Prop) (r:AV) (e:yar) (w':yi):Prop:=
 ∃u S',e= .returned u/\Calm w w'/\(∀b,S b->S' b)/\(∀b,S' b->S b\/w.heap.size<=b)/\(∀b,S' b->b<w'.heap.size)/\lV O.af S' w' w.heap.size r u
def dN (O:a8) (n:Nat) (ao:List AV) (r:AV):Prop:=
 ∀(w:yi) (S:Nat->Prop) (args:Array yg),zN O w->(∀b,S b->b<w.heap.size)->au O.af eB S w ao args.toList->aI ao=true->
  zx O.P (O.af n) args w (aaD O w S r)
def rE (O:a8) (m:Mp) (S:Nat->Prop) (w:yi) (hp:Hp) (ct:Nat) (v:AV) (ap:Hp) (aX:Nat) (e:yar) (w':yi):Prop:=
 ∃u m' S',e= .returned u/\aP O m' S' w' ap aX/\ct<=aX/\ah O.af m' S' w' v u/\bY m S w hp m' S' w' ap ct
def zO (O:a8) (n:Nat) (hp:Hp) (ct:Nat) (ao:List AV) (v:AV) (ap:Hp) (aX:Nat):Prop:=
 ∀(m:Mp) (S:Nat->Prop) (w:yi) (args:Array yg),aP O m S w hp ct->au O.af m S w ao args.toList->zx O.P (O.af n) args w (rE O m S w hp ct v ap aX)
section
variable {af:Nat->Nat} {m m':Mp} {S S':Nat->Prop} {w w':yi}
mutual
def oT (hS:∀b,S b->S' b) (hw:fb S w w'):∀(v:AV) (u:yg),bh v=true->ah af m S w v u->ah af m' S' w' v u
 | .int _ _,_,_,h | .bool _,_,_,h | .aw _ _,_,_,h | .str _,_,_,h | .km,_,_,h | .ae,_,_,h | .ic,_,_,h | .ju,_,_,h | .undef,_,_,h=>by
  simpa only [ah] using h
 | .ptr id o,u,hp,h=>by simp [bh] at hp
 | .b7 cs,u,hp,h=>by
  simp only [ah] at h ⊢;obtain ⟨b,o,h1,h2,h3,h4⟩:=h;refine ⟨b,o,h1,h2.imp id (hS b),h3,?_⟩;rcases h2 with rfl | h2
  ·simp only [bK]
  ·exact OF hS hw cs b o h3 h2 h4
 | .aC ex n cs,u,hp,h=>by
  simp only [ah] at h ⊢;rcases h with ⟨b,o,c,h1,h2,h3,h4,h5,h6⟩ | h
  ·refine .inl ⟨b,o,c,h1,h2,h3,h4.imp id (hS b),h5,?_⟩;rcases h4 with rfl | h4
   ·simp only [bK]
   ·exact OF hS hw cs b o h5 h4 h6
  ·exact .inr h
 | .bE _ _ _ _,u,hp,h=>by simp [bh] at hp
 | .aE id o n,u,hp,h=>by simp [bh] at hp
 | .fn (.f g) first cap,u,hp,h=>by
  simp only [ah] at h ⊢;simp only [bh,yf] at hp;obtain ⟨fi,ca,h1,h2,h3⟩:=h;exact ⟨fi,ca,h1,rD hS hw first _ hp.1 h2,rD hS hw cap _ hp.2 h3⟩
 | .fn (.y l) _ _,u,hp,h=>by simp [bh] at hp
 | .map id,u,hp,h=>by simp [bh] at hp
 | .iL ks vs,u,hp,h=>by
  simp only [ah] at h ⊢;obtain ⟨b,es,clock,h1,h2,h3,h4,h5,h6,h7⟩:=h;exact ⟨b,es,clock,h1,hS b h2,h3,h4,(hw b h2).trans h5,rD hS hw ks _ h3 h6,rD hS hw vs _ h4 h7⟩
 | .it id,u,hp,h=>by simp [bh] at hp
 | .agg cs,u,hp,h=>by
  simp only [ah] at h ⊢;simp only [bh] at hp;obtain ⟨xs,h1,h2⟩:=h;exact ⟨xs,h1,rD hS hw cs _ hp h2⟩
 | .aa cs,u,hp,h=>by
  simp only [ah] at h ⊢;simp only [bh] at hp;obtain ⟨xs,h1,h2⟩:=h;exact ⟨xs,h1,rD hS hw cs _ hp h2⟩
def rD (hS:∀b,S b->S' b) (hw:fb S w w'):∀(vs:List AV) (us:List yg),aI vs=true->au af m S w vs us->au af m' S' w' vs us
 | [],us,_,h=>by simpa only [au] using h
 | v::r,us,hp,h=>by
  simp only [au] at h ⊢;simp only [aI,yf] at hp;obtain ⟨u,t,h1,h2,h3⟩:=h;exact ⟨u,t,h1,oT hS hw v u hp.1 h2,rD hS hw r t hp.2 h3⟩
def OF (hS:∀b,S b->S' b) (hw:fb S w w'):∀(cs:List AV) (b o:Nat),aI cs=true->S b->bK af m S w cs b o->bK af m' S' w' cs b o
 | [],_,_,_,_,_=>by simp only [bK]
 | c::cs,b,o,hp,hb,h=>by
  simp only [bK] at h ⊢;simp only [aI,yf] at hp;obtain ⟨⟨u,h1,h2⟩,h3⟩:=h;exact ⟨⟨u,(Jw (hw b hb)).trans h1,oT hS hw c u hp.1 h2⟩,OF hS hw cs b (o+1) hp.2 hb h3⟩
end
def AX (hS:∀b,S b->S' b) (hw:fb S w w'):∀(cs:List AV) (b o:Nat),aI cs=true->w'.heap[b]? =w.heap[b]? ->bK af m S w cs b o->bK af m' S' w' cs b o
 | [],_,_,_,_,_=>by simp only [bK]
 | c::cs,b,o,hp,hb,h=>by
  simp only [aI,yf] at hp;obtain ⟨⟨u,h1,h2⟩,h3⟩:=h;exact ⟨⟨u,(Jw hb).trans h1,oT hS hw c u hp.1 h2⟩,AX hS hw cs b (o+1) hp.2 hb h3⟩
end
section
variable {O:a8} {m:Mp} {S S':Nat->Prop} {w w':yi} {hp:Hp} {ct:Nat}
def ana (hh:aP O m S w hp ct) (hw:Calm w w'):fb S w w':=fun b hb=>hw.same b (hh.slt b hb)
def A1 (hh:aP O m S w hp ct) (hw:Calm w w') (hS:∀b,S b->S' b) (hn:∀b,S' b->S b\/w.heap.size<=b) (hl:∀b,S' b->b<w'.heap.size):aP O m S' w' hp ct where
 obj id o p ho hm:=pW (fun _ _ h=>h) hS (ana hh hw) (fun q hq=>hw.same _ (hh.blt id q hq)) (fun q hq hs=>(hn _ hs).resolve_right (by have:=hh.blt id q hq;omega)) (hh.obj id o p ho hm)
 lt:=hh.lt
 inj:=hh.inj
 slt:=hl
 blt id p h:=yE (hh.blt id p h) hw.size
 low:=hh.low
 jb b hb:=(hw.same b (yE hb hh.fw)).trans (hh.jb b hb)
 fw:=xb hh.fw hw.size
 aG:=hh.aG
def zk {base:Nat} (hh:aP O m S w hp ct) (hw:Calm w w') (hS:∀b,S b->S' b) (hn:∀b,S' b->S b\/w.heap.size<=b):bY m S w hp m S' w' hp base where
 os:=hw.os
 tape:=hw.tape
 output:=hw.output
 size:=hw.size
 same b hb _:=hw.same b hb
 sub:=hS
 still b hb:=hw.same b (hh.slt b hb)
 new b hb:=(hn b hb).imp id .inr
 own b hb:= .inl hb
 old _ _ _ h:=h
 loops b r hb:=⟨r,(hw.same b (xo.1 hb).1).trans hb⟩
def aoW {i:Nat} (hh:aP O m S w hp ct) (hi:m i=none) (Ef:i<ct) {p:Pl} (hb:p.b<w.heap.size) (a6:O.w0.heap.size<=p.b) (Eg:¬S p.b) (nh:∀j q,m j=some q->q.b≠p.b)
  (hf:∀o,aA hp i=some o->(eJ O (eX m i p) S w i o/\¬gL o)\/(gL o/\eJ O (eX m i p) (fun b=>S b\/b=p.b) w i o)):
  ∃S',aP O (eX m i p) S' w hp ct/\(∀b,S b->S' b)/\∀b,S' b->S b\/b=p.b:=by
 have aU:fb S w w:=fun _ _=>rfl
 have gen:∀S':Nat->Prop,(∀b,S b->S' b)->(∀b,S' b->S b\/b=p.b)->(∀o,aA hp i=some o->eJ O (eX m i p) S' w i o)->aP O (eX m i p) S' w hp ct:=by
  intro S' h1 h2 h3;refine ⟨?_,?_,?_,?_,?_,?_,hh.jb,hh.fw,hh.aG⟩
  ·intro id o q ho hm;by_cases hc:id=i
   ·grind
   ·rw [dL hc] at hm;refine pW (iG hi) h1 aU (fun _ _=>rfl) (fun q' bH hs=>?_) (hh.obj id o q ho hm)
    grind
  ·intro id q hm;by_cases hc:id=i
   ·grind
   ·rw [dL hc] at hm;exact hh.lt id q hm
  ·intro a b oa ob pa pb ha bC Cc r9 e;by_cases ca:a=i
   ·by_cases cb:b=i
    ·grind
    ·subst ca;rw [du] at Cc;rw [dL cb] at r9
     grind
   ·rw [dL ca] at Cc;by_cases cb:b=i
    ·subst cb;rw [du] at r9
     grind
    ·rw [dL cb] at r9;exact hh.inj a b oa ob pa pb ha bC Cc r9 e
  ·intro b hs;rcases h2 b hs with h | h
   ·exact hh.slt b h
   ·grind
  ·intro id q hm;by_cases hc:id=i
   ·subst hc;rw [du] at hm
    grind
   ·rw [dL hc] at hm;exact hh.blt id q hm
  ·intro id q hm;by_cases hc:id=i
   ·subst hc;rw [du] at hm
    grind
   ·rw [dL hc] at hm;exact hh.low id q hm
 cases ho:aA hp i with
 | none=>exact ⟨S,gen S (fun _ h=>h) (fun _ h=> .inl h) (fun o h=>by rw [ho] at h;cases h),fun _ h=>h,fun _ h=> .inl h⟩
 | some o=>
  rcases hf o ho with ⟨h1,_⟩ | ⟨_,h1⟩
  ·exact ⟨S,gen S (fun _ h=>h) (fun _ h=> .inl h) (fun o' h=>by rw [ho] at h;injection h with h;subst h;exact h1),fun _ h=>h,fun _ h=> .inl h⟩
  ·exact ⟨_,gen (fun b=>S b\/b=p.b) (fun _ h=> .inl h) (fun _ h=>h) (fun o' h=>by rw [ho] at h;injection h with h;subst h;exact h1),fun _ h=> .inl h,fun _ h=>h⟩
def ZQ {af:Nat->Nat} {lo:Nat} {r:AV} {u:yg} {bs:List Nat} (h:gE af S w lo r u bs) (m:Mp) (hS:∀b,S b->S' b) (hbs:∀b,b∈bs->S' b):ah af m S' w (bR r) u:=by
 have aU:fb S w w:=fun _ _=>rfl
 cases r with
 | bE ex sz n cs=>
  obtain ⟨b,o,c,arr,t,rfl,rfl,h1,h2,h3,h4,h5,h6,h7,h8,h9⟩:=h;exact .inl ⟨b,o,c,rfl,h1,h2,.inr (hbs b (by simp)),h9,AX hS aU cs b o h9 rfl h8⟩
 | _=>simp only [gE] at h;exact oT hS aU _ _ h.2.2 h.2.1
def ZR {af:Nat->Nat} {lo:Nat} (m:Mp) (hS:∀b,S b->S' b):∀{vs:List AV} {us:List yg} {bs:List Nat},jL af S w lo vs us bs->(∀b,b∈bs->S' b)->au af m S' w (Bu vs) us
 | [],us,bs,h,_=>by simp only [jL] at h;exact h.1
 | v::r,us,bs,h,hb=>by
  obtain ⟨u,t,b1,b2,rfl,rfl,h1,h2⟩:=h;exact ⟨u,t,rfl,ZQ h1 m hS (fun b bC=>hb b (by simp [bC])),ZR m hS h2 (fun b bC=>hb b (by simp [bC]))⟩
def PE {af:Nat->Nat} {lo:Nat} {r:AV} {u:yg} {bs:List Nat} (h:gE af S w lo r u bs):∀b,b∈bs->lo<=b/\b<w.heap.size:=by
 intro b hb
 cases r with
 | bE ex sz n cs=>
  simp only [gE] at h
  grind
 | _=>simp only [gE] at h;rw [h.1] at hb;cases hb
def PF {af:Nat->Nat} {lo:Nat}:∀{vs:List AV} {us:List yg} {bs:List Nat},jL af S w lo vs us bs->∀b,b∈bs->lo<=b/\b<w.heap.size
 | [],us,bs,h,b,hb=>by simp only [jL] at h;rw [h.2] at hb;cases hb
 | v::r,us,bs,h,b,hb=>by
  obtain ⟨u,t,b1,b2,rfl,rfl,h1,h2⟩:=h;rcases wy.1 hb with hb | hb
  ·exact PE h1 b hb
  ·exact PF h2 b hb
def ZS {af:Nat->Nat} {lo:Nat} {r:AV} {u:yg} (h:lV af S w lo r u) (m:Mp):∃S',(∀b,S b->S' b)/\(∀b,S' b->S b\/(lo<=b/\b<w.heap.size))/\ah af m S' w (shut r) u:=by
 have one:∀(r:AV) (bs:List Nat),shut r=bR r->gE af S w lo r u bs->∃S',(∀b,S b->S' b)/\(∀b,S' b->S b\/(lo<=b/\b<w.heap.size))/\ah af m S' w (shut r) u:=by
  intro r bs hs h;refine ⟨fun b=>S b\/b∈bs,fun _ h=> .inl h,fun b hb=>hb.imp (fun x=>x) (fun hb=>PE h b hb),?_⟩;rw [hs];exact ZQ h m (fun _ h=> .inl h) (fun _ h=> .inr h)
 cases r with
 | aa vs=>
  obtain ⟨us,bs,rfl,h1,h2⟩:=h;refine ⟨fun b=>S b\/b∈bs,fun _ h=> .inl h,fun b hb=>hb.imp (fun x=>x) (fun hb=>PF h1 b hb),?_⟩;exact ⟨us,rfl,ZR m (fun _ h=> .inl h) h1 (fun _ h=> .inr h)⟩
 | _=>
  obtain ⟨bs,h⟩:=h;exact one _ bs rfl h
end
end
section
open Go
section
variable {O:a8} {m:Mp} {S:Nat->Prop} {w:yi} {H:Hp} {cH:Nat}
def Ks {hp:Hp} {ct:Nat} {r:AV}:ct<=(eR hp ct r).2.2:=by
 cases r<;>simp only [eR]<;>omega
def Kt:∀{vs:List AV} {hp:Hp} {ct:Nat},ct<=(iZ hp ct vs).2.2
 | [],hp,ct=>by simp [iZ]
 | v::r,hp,ct=>by
  simp only [iZ];have h1:=Ks (hp:=hp) (ct:=ct) (r:=v);have h2:=Kt (vs:=r) (hp:=(eR hp ct v).2.1) (ct:=(eR hp ct v).2.2);omega
def PG {hp:Hp} {ct:Nat} {r:AV} (hf:∀id o,aA hp id=some o->id<ct):∀id o,aA hp id=some o->aA (eR hp ct r).2.1 id=some o:=by
 intro id o h;cases r<;>simp only [eR]<;>try exact h
 rw [fa,yv (by have:=hf id o h;omega)];exact h
def abF {hp:Hp} {ct lo:Nat} {r:AV} {u:yg} {bs:List Nat} (hh:aP O m S w H cH) (hl:cI (eR hp ct r).2.1 H) (fL:(eR hp ct r).2.2<=cH) (hn:∀id,ct<=id->id<(eR hp ct r).2.2->m id=none)
  (hr:gE O.af S w lo r u bs) (a6:O.w0.heap.size<=lo) (nh:∀j q,m j=some q->q.b∉bs):
  ∃m' S',aP O m' S' w H cH/\cO m m'/\(∀id p,m' id=some p->m id=some p\/(ct<=id/\id<(eR hp ct r).2.2/\p.b∈bs))/\ah O.af m' S' w (eR hp ct r).1 u/\(∀b,S b->S' b)/\(∀b,S' b->S b\/b∈bs):=by
 have aU:fb S w w:=fun _ _=>rfl
 cases r with
 | bE ex sz n cs=>
  simp only [eR] at hl fL hn;obtain ⟨b,o,c,arr,t,rfl,rfl,h1,h2,h3,h4,h5,h6,h7,h8,h9⟩:=hr;have bD:m ct=none:=hn ct (yB _) (Nat.lt_succ_self _);have ay3:b<w.heap.size:=(xo.1 h5).1;have nf:eJ O (eX m ct ⟨b,o,c*sz,sz⟩) S w ct (.cells true true ex sz cs):=by
   refine ⟨_,arr,t,du,h5,rfl,?_,h7,fun hx=>?_,AX (fun _ h=>h) aU cs b o h9 rfl h8,fun _=>h9,fun _=>h4,by simp⟩
   ·show cs.length<=c*sz
    rw [h6];exact yU _ h1
   ·grind
  obtain ⟨S',k1,k2,k3⟩:=aoW (p:=⟨b,o,c*sz,sz⟩) hh bD (by omega) ay3 (by show _<=b;omega) h4 (fun j q hq e=>nh j q hq (by rw [e];simp)) (fun o' je=>by
   obtain ⟨W8,g1,g2⟩:=hl ct (.cells true true ex sz cs) (by rw [fa];simp)
   rw [je] at g1;injection g1 with g1
   subst g1
   exact Ov (p:=⟨b,o,c*sz,sz⟩) g2 du nf (by simp [gL]))
  refine ⟨_,S',k1,iG bD,fun id p ap=>?_,?_,k2,fun b' bC=>(k3 b' bC).imp (fun h=>h) (fun h=>by rw [h];simp)⟩
  ·by_cases hc:id=ct
   ·subst hc;rw [du] at ap;injection ap with ap
    subst ap;exact .inr ⟨yB _,by simp [eR],by simp⟩
   ·rw [dL hc] at ap;exact .inl ap
  ·simp only [eR,ah];exact ⟨_,c,du,by simp,h1,by simp⟩
 | _=>
  exact ⟨m,S,hh,cO.refl,fun _ _ h=> .inl h,oT (fun _ h=>h) aU _ _ hr.2.2 hr.2.1,fun _ h=>h,fun _ h=> .inl h⟩
def Gh {hp:Hp} {ct:Nat} {r:AV} (hf:∀id o,aA hp id=some o->id<ct):∀id o,aA (eR hp ct r).2.1 id=some o->id<(eR hp ct r).2.2:=by
 intro id o h;cases r<;>simp only [eR] at h ⊢<;>try exact hf id o h
 rw [fa] at h
 grind
def Ku:∀{vs:List AV} {hp:Hp} {ct:Nat},(∀id o,aA hp id=some o->id<ct)->∀id o,aA hp id=some o->aA (iZ hp ct vs).2.1 id=some o
 | [],hp,ct,_,id,o,h=>by simpa [iZ] using h
 | v::r,hp,ct,hf,id,o,h=>by
  exact Ku (Gh hf) id o (PG hf id o h)
def abG {lo:Nat} (a6:O.w0.heap.size<=lo):∀{vs:List AV} {us:List yg} {bs:List Nat} {hp:Hp} {ct:Nat} {m:Mp} {S:Nat->Prop},aP O m S w H cH->cI (iZ hp ct vs).2.1 H->(iZ hp ct vs).2.2<=cH->
  (∀id o,aA hp id=some o->id<ct)->(∀id,ct<=id->id<(iZ hp ct vs).2.2->m id=none)->
  jL O.af S w lo vs us bs->bs.Nodup->(∀j q,m j=some q->q.b∉bs)->
  ∃m' S',aP O m' S' w H cH/\cO m m'/\(∀id p,m' id=some p->m id=some p\/(ct<=id/\id<(iZ hp ct vs).2.2/\p.b∈bs))/\au O.af m' S' w (iZ hp ct vs).1 us/\(∀b,S b->S' b)/\(∀b,S' b->S b\/b∈bs)
 | [],us,bs,hp,ct,m,S,hh,hl,fL,hf,hn,hr,kJ,nh=>by
  simp only [jL] at hr;exact ⟨m,S,hh,cO.refl,fun _ _ h=> .inl h,by simp only [iZ,au];exact hr.1,fun _ h=>h,fun _ h=> .inl h⟩
 | v::r,us,bs,hp,ct,m,S,hh,hl,fL,hf,hn,hr,kJ,nh=>by
  simp only [jL] at hr;obtain ⟨u,t,b1,b2,rfl,rfl,h1,h2⟩:=hr;simp only [iZ] at hl fL hn ⊢;have dP:=Ks (hp:=hp) (ct:=ct) (r:=v);have qZ:=Kt (vs:=r) (hp:=(eR hp ct v).2.1) (ct:=(eR hp ct v).2.2);rw [List.nodup_append] at kJ;obtain ⟨m1,S1,k1,k2,k3,k4,k5,k6⟩:=abF (hp:=hp) (ct:=ct) (lo:=lo) hh ((fun id o h=>hl id o (Ku (Gh hf) id o h))) (by omega) (fun id g1 g2=>hn id g1 (by omega)) h1 a6
   (fun j q hq hb=>nh j q hq (by simp [hb]))
  have h2':jL O.af S1 w lo r t b2:=by
   clear k4;have Q6:∀b,S1 b->S b\/b∈b1:=k6;have hd:∀b,b∈b2->b∉b1:=fun b hb jP=>kJ.2.2 b jP b hb rfl
   have one:∀{v:AV} {u:yg} {bb:List Nat},(∀b,b∈bb->b∉b1)->gE O.af S w lo v u bb->gE O.af S1 w lo v u bb:=by
    intro v u bb qV h
    cases v with
    | bE ex sz n cs=>
     simp only [gE] at h ⊢;obtain ⟨b,o,c,arr,tt,rfl,rfl,g1,g2,g3,g4,g5,g6,g7,g8,g9⟩:=h;exact ⟨b,o,c,arr,tt,rfl,rfl,g1,g2,g3,fun hs=>(Q6 b hs).elim g4 (qV b (by simp)),g5,g6,g7,AX k5 (fun _ _=>rfl) cs b o g9 rfl g8,g9⟩
    | _=>simp only [gE] at h ⊢;exact ⟨h.1,oT k5 (fun _ _=>rfl) _ _ h.2.2 h.2.1,h.2.2⟩
   clear k1 k2 k3 hl fL hn nh kJ;revert hd h2;generalize b2=bb
   induction r generalizing t bb with
   | nil=>intro h2 hd;simpa only [jL] using h2
   | cons v' r ih=>
    intro h2 hd;simp only [jL] at h2 ⊢;obtain ⟨u',t',c1,c2,rfl,rfl,g1,g2⟩:=h2
    exact ⟨u',t',c1,c2,rfl,rfl,one (fun b hb=>hd b (by simp [hb])) g1,ih _ (by
     have:=Kt (vs:=r) (hp:=(eR hp ct v).2.1) (ct:=(eR hp ct v).2.2)
     exact this) _ g2 (fun b hb=>hd b (by simp [hb]))⟩
  obtain ⟨m2,S2,g1,g2,g3,g4,g5,g6⟩:=abG a6 (vs:=r) (us:=t) (bs:=b2) (m:=m1) (S:=S1) k1 hl fL (Gh hf) (fun id q1 q2=>by
   cases hq:m1 id with
   | none=>rfl
   | some p=>
    rcases k3 id p hq with h | ⟨_,h,_⟩
    ·rw [hn id (by omega) q2] at h;cases h
    ·omega) h2' kJ.2.1 (fun j q hq hb=>by
     rcases k3 j q hq with h | ⟨_,_,h⟩
     ·exact nh j q h (by simp [hb])
     ·exact kJ.2.2 q.b h q.b hb rfl)
  refine ⟨m2,S2,g1,k2.trans g2,fun id p ap=>?_,?_,fun b hb=>g5 b (k5 b hb),fun b hb=>?_⟩
  ·rcases g3 id p ap with h | ⟨a1,a2,a3⟩
   ·rcases k3 id p h with h | ⟨a1,a2,a3⟩
    ·exact .inl h
    ·exact .inr ⟨a1,by omega,by simp [a3]⟩
   ·exact .inr ⟨by omega,a2,by simp [a3]⟩
  ·simp only [au];exact ⟨u,t,rfl,jW g2 g5 (fun _ _=>rfl) _ _ k4,g4⟩
  ·rcases g6 b hb with h | h
   ·exact (k6 b h).imp (fun h=>h) (fun h=>by simp [h])
   ·exact .inr (by simp [h])
def ath {hp:Hp} {ct lo:Nat} {r:AV} {u:yg} (hh:aP O m S w H cH) (hl:cI (own hp ct r).2.1 H) (fL:(own hp ct r).2.2<=cH) (hf:∀id o,aA hp id=some o->id<ct)
  (hn:∀id,ct<=id->id<(own hp ct r).2.2->m id=none) (hr:lV O.af S w lo r u) (a6:O.w0.heap.size<=lo) (IJ:∀j q,m j=some q->q.b<lo):
  ∃m' S',aP O m' S' w H cH/\cO m m'/\(∀id p,m' id=some p->m id=some p\/(ct<=id/\id<(own hp ct r).2.2/\lo<=p.b))/\ah O.af m' S' w (own hp ct r).1 u/\(∀b,S b->S' b)/\(∀b,S' b->S b\/lo<=b):=by
 have one:∀(r:AV) (bs:List Nat),own hp ct r=eR hp ct r->gE O.af S w lo r u bs->cI (own hp ct r).2.1 H->(own hp ct r).2.2<=cH->(∀id,ct<=id->id<(own hp ct r).2.2->m id=none)->
   ∃m' S',aP O m' S' w H cH/\cO m m'/\(∀id p,m' id=some p->m id=some p\/(ct<=id/\id<(own hp ct r).2.2/\lo<=p.b))/\ah O.af m' S' w (own hp ct r).1 u/\(∀b,S b->S' b)/\(∀b,S' b->S b\/lo<=b):=by
  intro r bs he hr hl fL hn;rw [he] at hl fL hn ⊢;have BH:=PE hr;obtain ⟨m',S',k1,k2,k3,k4,k5,k6⟩:=abF hh hl fL hn hr a6 (fun j q hq hb=>by have:=IJ j q hq;have:=(BH _ hb).1;omega)
  exact ⟨m',S',k1,k2,fun id p h=>(k3 id p h).imp (fun h=>h) (fun h=>⟨h.1,h.2.1,(BH _ h.2.2).1⟩),k4,k5,fun b hb=>(k6 b hb).imp (fun h=>h) (fun h=>(BH _ h).1)⟩
 cases r with
 | aa vs=>
  simp only [own] at hl fL hn ⊢;simp only [lV] at hr;obtain ⟨us,bs,rfl,h1,h2⟩:=hr;have BH:=PF h1;obtain ⟨m',S',k1,k2,k3,k4,k5,k6⟩:=abG a6 hh hl fL hf hn h1 h2 (fun j q hq hb=>by have:=IJ j q hq;have:=(BH _ hb).1;omega)
  exact ⟨m',S',k1,k2,fun id p h=>(k3 id p h).imp (fun h=>h) (fun h=>⟨h.1,h.2.1,(BH _ h.2.2).1⟩),by simp only [ah];exact ⟨us,rfl,k4⟩,k5,fun b hb=>(k6 b hb).imp (fun h=>h) (fun h=>(BH _ h).1)⟩
 | _=>
  simp only [lV] at hr;obtain ⟨bs,hr⟩:=hr;exact one _ bs rfl hr hl fL hn
end
end
end VE
