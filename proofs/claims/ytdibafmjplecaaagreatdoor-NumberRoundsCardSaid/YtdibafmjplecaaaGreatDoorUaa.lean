import GoSem.Core.Code
import GoSem.Core.Float
import GoSem.Core.Utf8
import Derived.CallsIn
import Derived.Laws.World
import GoSem.Op.Equal
import GoSem.Core.Region
import Derived.Below
import Derived.Laws.AppendOwn
import Derived.Laws.Rows
import Derived.WalkKit
import Derived.Laws.CopyRow
import Derived.Laws.Cells
import Derived.Laws.Strings
import Derived.Lib.Strings
import Derived.WideLaws
import Derived.Maps.Keyed
import Derived.ChangeKeysEq
import Derived.Laws.Tables
import Derived.IntWalk
import Derived.Laws.CopyOwn
set_option linter.all false
set_option maxRecDepth 100000
open Array renaming getElem?_eq_some_iff→xo,length_toList→vt,range→tj
open BitVec renaming ofInt→xC
open Bool renaming and_assoc→tY,and_eq_true→yf,eq_iff_iff→uR,false_eq_true→yB,not_eq_true'→uS
open Go renaming Addr→vX,BinOp→wO,Code→wK,Ending→yau,Field→tp,FloatKind→vS,FuncId→tA,IntKind→xc,Loop→uo,MapEntry→vT,Next→yaj,Obj→tR,Oper→y9,Operand→xq,Program→xa,TypeDesc→wS,TypeId→yx,TypeInfo→ycy,UnOp→ycg,Value→yg,World→yi,binOp→xO,sizeOf→vc
open Go.Utf8 renaming runeError→ub,valid→yaU
open List renaming append_assoc→xt,cons_append→xi,drop_drop→vN,eq_nil_of_length_eq_zero→yD,ext_getElem?→yaN,extract_eq_take_drop→yaa,flatten_append→yaz,flatten_cons→uv,getElem?_append_left→we,getElem?_append_right→xS,getElem?_drop→yaH,getElem?_eq_getElem→wA,getElem?_map→yaM,getElem?_take_of_lt→uA,getElem?_toArray→yan,length_append→yY,length_cons→yM,length_drop→xN,length_take→yW,map_cons→xm,map_eq_nil_iff→yay,mem_append→wB,range→ve,replicate→yK,replicate_succ→vC,size_toArray→uT,take_of_length_le→yQ,take_succ_cons→xY,take_zero→ybk
open List.cons renaming injEq→tC
open Nat renaming add_assoc→ug,add_mul→xU,add_zero→yZ,beq→yp,beq_eq→ycv,beq_refl→wy,ble→yy,ble_eq→ycw,blt→yI,eq_of_beq_eq_true→yj,eq_zero_or_pos→xh,le_of_ble_eq_true→yo,le_refl→yA,le_trans→xe,lt_of_lt_of_le→yE,min_le_left→ybm,mul_comm→xg,mul_le_mul_right→yT,one_mul→ybE,testBit→tg,zero_add→yh
open Option renaming isSome_none→tx,map_none→vM,map_some→wC
open Option.some renaming injEq→yb
open Prod.mk renaming injEq→yk
open UInt8 renaming toNat→xf,toNat_inj→yaV
def wP:=@and_true
def yaG:=@beq_iff_eq
def yam:=@beq_self_eq_true
def yX:=@cond_false
def yz:=@cond_true
def yF:=@decide_eq_false
def y5:=@decide_eq_true
def th:=@decide_eq_true_eq
def yv:=@decide_false
def yq:=@decide_true
def ybV:=@false_or
def xk:=@if_false
def yu:=@if_neg
def yL:=@if_pos
def xR:=@if_true
def ycx:=@not_true_eq_false
def tL:=@true_and
namespace VE
section
open Go (IntKind FloatKind BinOp UnOp)
inductive Fr where
 | f (n:Nat)
 | y (l:Nat)
 deriving DecidableEq,Inhabited
inductive AV where
 | int (k:xc) (n:Int)
 | bool (b:Bool)
 | aw (k:vS) (bits:Nat)
 | str (s:List Nat)
 | kG
 | ptr (id off:Nat)
 | cg (cells:List AV)
 | ae
 | aB (ex:Bool) (n:Nat) (cells:List AV)
 | bI (ex:Bool) (sz n:Nat) (cells:List AV)
 | aD (id off n:Nat)
 | fn (f:Fr) (first cap:List AV)
 | ik
 | jt
 | map (id:Nat)
 | iQ (ks vs:List AV)
 | it (id:Nat)
 | agg (cells:List AV)
 | aa (vs:List AV)
 | undef
 deriving Inhabited
inductive X where
 | t (i:Nat)
 | c (v:AV)
 deriving Inhabited
inductive Conv where
 | toInt (k:xc)
 | toFlt (k:vS)
 | str
 deriving Inhabited
inductive Md where
 | pure | own | heap | dyn
 deriving Inhabited
inductive Cut where
 | str
 | sl (sz:Nat)
 | ar (len sz:Nat)
 deriving Inhabited
inductive Na where
 | b | sl | fn | ag (ks:List Nat)
 deriving Inhabited
inductive Op where
 | py (x:X)
 | pick (c a b:X)
 | box (sz:Nat) (x:X)
 | Bt (zero:List AV) (parts:List (Nat×Nat×X))
 | lm (n sz:Nat) (zero:List AV) (parts:List (Nat×Nat×X))
 | ld (sz:Nat) (ag:Bool) (x:X)
 | st (sz:Nat) (x v:X)
 | Hg (x:X)
 | bin (op:wO) (x y:X)
 | eq (ne:Bool) (k:Na) (x y:X)
 | un (op:ycg) (x:X)
 | cv (k:Conv) (x:X)
 | DZ (f:Fr) (first cap:List X)
 | sC
 | nc (sz bytes:Nat) (zero:List AV) (len cap:X)
 | ow (k:Cut) (x:X) (lo hi:Option X)
 | off (k:Nat) (x:X)
 | Il (o sz:Nat) (ag:Bool) (x:X)
 | cB (sz:Nat) (x i:X)
 | D0 (len sz:Nat) (x i:X)
 | D1 (x i:X)
 | D2 (len sz:Nat) (ag:Bool) (x i:X)
 | Nb (kk:Nat) (zero:AV) (ok:Bool) (m k:X)
 | ox (kk:Nat) (m k v:X)
 | oy (x:X)
 | oA (x:X)
 | ext (i:Nat) (x:X)
 | call (m:Md) (f:X) (xs:List X)
 | ib (rs:List (Nat×Bool×Nat)) (f:X) (xs:List X)
 | jv (rs:List (Nat×Bool×Nat)) (sz:Nat) (x v:X)
 | jS (rs:List (Nat×Bool×Nat)) (sz bytes:Nat) (s x:X)
 | aS (sz bytes:Nat) (s x:X)
 | oB (sz bytes:Nat) (s x:X)
 | oC (sz:Nat) (d s:X)
 | len (k:Nat) (x:X)
 | mn (xs:List X)
 | mx (xs:List X)
 deriving Inhabited
structure aX where
 dst:Option Nat
 guard:Option (Nat×Bool)
 op:Op
 deriving Inhabited
inductive VC where
 | skip
 | nd (ops:List aX)
 | seq (a b:VC)
 | cond (x:X) (a b:VC)
 | dz (id:Nat) (a:VC)
 | kp (live:List Nat)
 | fz (ts:List Nat)
 | loop (live:List Nat) (a:VC)
 | rf (f:X) (ps:List Nat) (assign body:VC)
 | exit (id:Nat)
 | ret
 deriving Inhabited
inductive RV where
 | t (i:Nat)
 | cell (i sz:Nat) (ag:Bool)
 deriving Inhabited
structure aE where
 dj:List RV
 body:VC
 deriving Inhabited
inductive rZ where
 | none | ret | exit (id:Nat)
 deriving Inhabited,DecidableEq
abbrev Env:=List (Nat×AV)
inductive Obj where
 | cells (rw pu ex:Bool) (sz:Nat) (cs:List AV)
 | mp (rw:Bool) (ks vs:List AV)
 | si (s:List Nat) (pos:Nat)
 | lp (tm:Env) (ps:List Nat) (assign body:VC) (state:Nat) (pending:rZ)
 deriving Inhabited
abbrev Hp:=List (Nat×Obj)
structure St where
 tm:Env
 hp:Hp
 ct:Nat
 base:Nat
 deriving Inhabited
inductive Ex where
 | normal
 | ret
 | exit (id:Nat)
 deriving Inhabited,DecidableEq
def aj:Env->Nat->AV
 | [],_=> .undef
 | (j,v)::r,i=>bif yp j i then v else aj r i
def aA:Hp->Nat->Option Obj
 | [],_=>none
 | (j,o)::r,i=>bif yp j i then some o else aA r i
def bi:Hp->Nat->Obj->Hp
 | [],_,_=>[]
 | (j,o)::r,i,u=>bif yp j i then (j,u)::r else (j,o)::bi r i u
def ej:Hp->Nat->Hp
 | [],_=>[]
 | (j,o)::r,i=>bif yp j i then ej r i else (j,o)::ej r i
mutual
def bk:AV->Bool
 | .ptr _ _ | .aD _ _ _ | .map _ | .it _ | .bI _ _ _ _=>false
 | .fn (.y _) _ _=>false
 | .fn (.f _) first cap=>aH first&&aH cap
 | .agg cs=>aH cs
 | .aa vs=>aH vs
 | _=>true
def aH:List AV->Bool
 | []=>true
 | v::r=>bk v&&aH r
end
def cellsOf:AV->List AV
 | .agg cs=>cs
 | v=>[v]
def eb:AV->Bool
 | .agg _ | .aa _ | .undef | .bI _ _ _ _=>false
 | _=>true
def cK:List AV->Bool
 | []=>true
 | v::r=>eb v&&cK r
def ay (tm:Env):X->AV
 | .t i=>aj tm i
 | .c v=>v
def da (tm:Env):List X->List AV
 | []=>[]
 | x::r=>ay tm x::da tm r
def slice (o n:Nat) (cs:List AV):List AV:=(cs.drop o).take n
def over (o:Nat) (new cs:List AV):List AV:=cs.take o++new++cs.drop (o+new.length)
mutual
def freeze:Nat->Hp->AV->Option (AV×Hp)
 | 0,_,_=>none
 | n+1,hp,v=>
  match v with
  | .aD id o k=>
   match pR n hp id with
   | some (ex,sz,cs,ap)=>
    bif yy (o+k*sz) cs.length then
     some (.aB (ex&&yI 0 sz&&yp (o+k*sz) cs.length) k (slice o (k*sz) cs),ap)
    else none
   | none=>none
  | .ptr id o=>
   match pR n hp id with
   | some (_,_,cs,ap)=>some (.cg (cs.drop o),ap)
   | none=>none
  | .map id=>
   match aA hp id with
   | some (.mp _ ks vs)=>bif aH ks&&aH vs then some (.iQ ks vs,bi hp id (.mp false ks vs)) else none
   | _=>none
  | .fn (.f g) first cap=>
   match cF n hp first with
   | some (aev,bm)=>
    match cF n bm cap with
    | some (Lh,iS)=>some (.fn (.f g) aev Lh,iS)
    | none=>none
   | none=>none
  | .agg cs=>match cF n hp cs with | some (dL,ap)=>some (.agg dL,ap) | none=>none
  | .aa cs=>match cF n hp cs with | some (dL,ap)=>some (.aa dL,ap) | none=>none
  | v=>bif bk v then some (v,hp) else none
def pR:Nat->Hp->Nat->Option (Bool×Nat×List AV×Hp)
 | 0,_,_=>none
 | n+1,hp,id=>
  match aA hp id with
  | some (.cells rw pu ex sz cs)=>
   bif pu then some (ex,sz,cs,bif rw then bi hp id (.cells false true ex sz cs) else hp)
   else match cF n hp cs with
    | some (dL,ap)=>some (ex,sz,dL,bi ap id (.cells false false ex sz cs))
    | none=>none
  | _=>none
def cF:Nat->Hp->List AV->Option (List AV×Hp)
 | 0,_,_=>none
 | _+1,hp,[]=>some ([],hp)
 | n+1,hp,v::r=>
  match freeze n hp v with
  | some (v',bm)=>
   match cF n bm r with
   | some (r',iS)=>some (v'::r',iS)
   | none=>none
  | none=>none
end
def Bc (n:Nat) (hp:Hp) (v:AV):Option (AV×Hp):=
 match v with
 | .aD id o k=>
  match aA hp id with
  | some (.cells true true ex sz cs)=>
   bif yy (o+k*sz) cs.length then
    some (.bI (ex&&yI 0 sz&&yp (o+k*sz) cs.length) sz k (slice o (k*sz) cs),ej hp id)
   else none
  | _=>freeze n hp v
 | _=>freeze n hp v
def PH:List AV->Option (List Nat)
 | []=>some []
 | .aD id _ _::r=>match PH r with | some l=>bif l.any (yp id) then none else some (id::l) | none=>none
 | v::r=>bif bk v then PH r else none
def CN (n:Nat):Hp->List AV->Option (List AV×Hp)
 | hp,[]=>some ([],hp)
 | hp,v::r=>
  match Bc n hp v with
  | some (v',bm)=>match CN n bm r with | some (r',iS)=>some (v'::r',iS) | none=>none
  | none=>none
def deep:Nat:=1000
def result (hp:Hp) (v:AV):Option AV:=
 match v with
 | .aa vs=>
  match PH vs with
  | some _=>match CN deep hp vs with | some (dM,_)=>some (.aa dM) | none=>none
  | none=>match freeze deep hp v with | some (v',_)=>some v' | none=>none
 | v=>match Bc deep hp v with | some (v',_)=>some v' | none=>none
def b9:AV->AV
 | .bI ex _ n cs=> .aB ex n cs
 | v=>v
def Bu:List AV->List AV
 | []=>[]
 | v::r=>b9 v::Bu r
def shut:AV->AV
 | .bI ex _ n cs=> .aB ex n cs
 | .aa vs=> .aa (Bu vs)
 | v=>v
def eU (hp:Hp) (ct:Nat):AV->AV×Hp×Nat
 | .bI ex sz n cs=>(.aD ct 0 n,(ct,.cells true true ex sz cs)::hp,ct+1)
 | v=>(v,hp,ct)
def iY:Hp->Nat->List AV->List AV×Hp×Nat
 | hp,ct,[]=>([],hp,ct)
 | hp,ct,v::r=>((eU hp ct v).1::(iY (eU hp ct v).2.1 (eU hp ct v).2.2 r).1,(iY (eU hp ct v).2.1 (eU hp ct v).2.2 r).2)
def own (hp:Hp) (ct:Nat):AV->AV×Hp×Nat
 | .aa vs=>(.aa (iY hp ct vs).1,(iY hp ct vs).2)
 | v=>eU hp ct v
mutual
def refs:AV->List Nat
 | .ptr id _=>[id]
 | .aD id _ _=>[id]
 | .map id=>[id]
 | .it id=>[id]
 | .fn (.f _) first cap=>iN first++iN cap
 | .fn (.y l) _ _=>[l]
 | .agg cs=>iN cs
 | .aa cs=>iN cs
 | _=>[]
def iN:List AV->List Nat
 | []=>[]
 | v::r=>refs v++iN r
end
def iO:Env->List Nat
 | []=>[]
 | (_,v)::r=>refs v++iO r
def nV:Obj->List Nat
 | .cells _ pu _ _ cs=>bif pu then [] else iN cs
 | .mp _ ks vs=>iN ks++iN vs
 | .si _ _=>[]
 | .lp tm _ _ _ _ _=>iO tm
mutual
def bX (f:Nat->Option Nat):AV->AV
 | .ptr id o=>match f id with | some j=> .ptr j o | none=> .undef
 | .aD id o n=>match f id with | some j=> .aD j o n | none=> .undef
 | .map id=>match f id with | some j=> .map j | none=> .undef
 | .it id=>match f id with | some j=> .it j | none=> .undef
 | .fn (.f g) first cap=> .fn (.f g) (fw f first) (fw f cap)
 | .fn (.y l) first cap=>match f l with | some j=> .fn (.y j) (fw f first) (fw f cap) | none=> .undef
 | .agg cs=> .agg (fw f cs)
 | .aa cs=> .aa (fw f cs)
 | v=>v
def fw (f:Nat->Option Nat):List AV->List AV
 | []=>[]
 | v::r=>bX f v::fw f r
end
def jO (f:Nat->Option Nat):Env->Env
 | []=>[]
 | (i,v)::r=>(i,bX f v)::jO f r
def kH (f:Nat->Option Nat):Obj->Obj
 | .cells rw pu ex sz cs=> .cells rw pu ex sz (bif pu then cs else fw f cs)
 | .mp rw ks vs=> .mp rw (fw f ks) (fw f vs)
 | .si s pos=> .si s pos
 | .lp tm ps cy body st pe=> .lp (jO f tm) ps cy body st pe
def dJ (tm:Env):List Nat->Env
 | []=>[]
 | i::r=>(i,aj tm i)::dJ tm r
def kI (i:Nat):List Nat->Bool
 | []=>false
 | j::r=>bif yp j i then true else kI i r
def reach (hp:Hp) (base:Nat):Nat->List Nat->List Nat->List Nat
 | 0,_,seen=>seen
 | _+1,[],seen=>seen
 | n+1,id::il,seen=>
  bif yI id base||kI id seen then reach hp base n il seen
  else match aA hp id with
   | some o=>reach hp base n (nV o++il) (seen++[id])
   | none=>reach hp base n il seen
def iI (base:Nat):Hp->List Nat
 | []=>[]
 | (id,o)::r=>bif yI id base then nV o++iI base r else iI base r
def lA (i:Nat):List Nat->Nat->Option Nat
 | [],_=>none
 | j::r,k=>bif yp j i then some k else lA i r (k+1)
def jG (base:Nat) (seen:List Nat) (id:Nat):Option Nat:=bif yI id base then some id else lA id seen base
def li (base:Nat) (f:Nat->Option Nat):Hp->Hp
 | []=>[]
 | (id,o)::r=>bif yI id base then (id,kH f o)::li base f r else li base f r
def jH (hp:Hp) (f:Nat->Option Nat):List Nat->Nat->Hp->Hp
 | [],_,acc=>acc
 | id::r,k,acc=>match aA hp id with | some o=>jH hp f r (k+1) ((k,kH f o)::acc) | none=>jH hp f r (k+1) acc
def aP (live:List Nat) (s:St):St:=
 let tm:=dJ s.tm live
 let seen:=reach s.hp s.base 100000 (iO tm++iI s.base s.hp) []
 let f:=jG s.base seen
 {tm:=jO f tm,hp:=jH s.hp f seen s.base (li s.base f s.hp),ct:=s.base+seen.length,base:=s.base}
def kW (hp:Hp) (sz:Nat):AV->Option (Nat×List AV)
 | .ae=>some (0,[])
 | .aB _ n cs=>bif yp cs.length (n*sz) then some (n,cs) else none
 | .aD id o n=>
  match aA hp id with
  | some (.cells _ _ _ _ cs)=>bif yy (o+n*sz) cs.length then some (n,slice o (n*sz) cs) else none
  | _=>none
 | _=>none
def J9:List Nat->List AV
 | []=>[]
 | b::r=> .int .u8 b::J9 r
def Al:List Nat->List Nat->Bool
 | _,[]=>false
 | [],_::_=>true
 | a::x,b::y=>yI a b||(yp a b&&Al x y)
def cM:List Nat->List Nat->Bool
 | [],[]=>true
 | a::x,b::y=>yp a b&&cM x y
 | _,_=>false
def dW:List Nat->List AV->List AV->Option Bool
 | [],[],[]=>some true
 | 0::ks,.bool a::x,.bool b::y=>match dW ks x y with | some r=>some ((a==b)&&r) | none=>none
 | 1::ks,.int k a::x,.int k' b::y=>if k=k' then (match dW ks x y with | some r=>some ((a==b)&&r) | none=>none) else none
 | 2::ks,.str a::x,.str b::y=>match dW ks x y with | some r=>some (cM a b&&r) | none=>none
 | _,_,_=>none
def iZ:Na->AV->AV->Option Bool
 | .b,.bool a,.bool b=>some (a==b)
 | .sl,.ae,.ae=>some true
 | .sl,.ae,.aB _ _ _=>some false
 | .sl,.ae,.aD _ _ _=>some false
 | .sl,.aB _ _ _,.ae=>some false
 | .sl,.aD _ _ _,.ae=>some false
 | .fn,.ik,.ik=>some true
 | .fn,.ik,.fn _ _ _=>some false
 | .fn,.fn _ _ _,.ik=>some false
 | .ag ks,.agg a,.agg b=>dW ks a b
 | _,_,_=>none
def intCmp (op:wO) (x y:Int):Option Bool:=
 match op with
 | .eql=>some (x==y)
 | .neq=>some (x !=y)
 | .lss=>some (decide (x<y))
 | .leq=>some (decide (x<=y))
 | .gtr=>some (decide (x>y))
 | .geq=>some (decide (x>=y))
 | _=>none
def kC (op:wO) (k:xc) (x y:Int):Option AV:=
 match op with
 | .add=>some (.int k (k.wrap (x+y)))
 | .sub=>some (.int k (k.wrap (x-y)))
 | .mul=>some (.int k (k.wrap (x*y)))
 | .quo=>if y=0 then none else some (.int k (k.wrap (x.tdiv y)))
 | .rem=>if y=0 then none else some (.int k (x.tmod y))
 | .and=>some (.int k (k.wrap (xC k.bits x&&&xC k.bits y).toNat))
 | .or=>some (.int k (k.wrap (xC k.bits x|||xC k.bits y).toNat))
 | .xor=>some (.int k (k.wrap (xC k.bits x^^^xC k.bits y).toNat))
 | .andNot=>some (.int k (k.wrap (xC k.bits x&&&~~~(xC k.bits y)).toNat))
 | .shl | .shr=>none
 | op=>match intCmp op x y with | some b=>some (.bool b) | none=>none
def A5 (op:wO) (k:xc) (x y:Int):Option AV:=
 if y<0 then none else
 match op with
 | .shl=>some (.int k (k.wrap (x*2^(min y.toNat k.bits))))
 | .shr=>some (.int k (x.fdiv (2^(min y.toNat k.bits))))
 | _=>none
def GS (op:wO) (x y:List Nat):Option AV:=
 match op with
 | .add=>bif yy (x.length+y.length) 9223372036854775807 then some (.str (x++y)) else none
 | .eql=>some (.bool (cM x y))
 | .neq=>some (.bool (!cM x y))
 | .lss=>some (.bool (Al x y))
 | .leq=>some (.bool (Al x y||cM x y))
 | .gtr=>some (.bool (!(Al x y||cM x y)))
 | .geq=>some (.bool (!Al x y))
 | _=>none
def P9 (op:wO) (k:vS) (x y:Nat):Option AV:=
 let c:=k.format.order x y
 let ar (r:Option Nat):Option AV:=match r with | some b=>some (.aw k b) | none=>none
 match op with
 | .add=>ar (k.format.add x y)
 | .sub=>ar (k.format.sub x y)
 | .mul=>ar (k.format.mul x y)
 | .quo=>ar (k.format.div x y)
 | .eql=>some (.bool (c==some .eq))
 | .neq=>some (.bool (c !=some .eq))
 | .lss=>some (.bool (c==some .lt))
 | .leq=>some (.bool (c==some .lt||c==some .eq))
 | .gtr=>some (.bool (c==some .gt))
 | .geq=>some (.bool (c==some .gt||c==some .eq))
 | _=>none
def binOp (op:wO) (x y:AV):Option AV:=
 match x,y with
 | .int k a,.int k' b=>
  match op with
  | .shl | .shr=>A5 op k a b
  | _=>if k=k' then kC op k a b else none
 | .aw k a,.aw k' b=>if k=k' then P9 op k a b else none
 | .str a,.str b=>GS op a b
 | _,_=>none
def unOp (op:ycg) (x:AV):Option AV:=
 match op,x with
 | .neg,.int k n=>some (.int k (k.wrap (0-n)))
 | .xor,.int k n=>kC .xor k (if k.signed then -1 else k.max) n
 | .not,.bool b=>some (.bool !b)
 | .neg,.aw k b=>some (.aw k (b^^^2^(k.format.exponentBits+k.format.fractionBits)))
 | _,_=>none
def gj (c:Conv) (x:AV):Option AV:=
 match c,x with
 | .toInt k,.int _ n=>some (.int k (k.wrap n))
 | .toFlt k,.int _ n=>some (.aw k (k.nearest n))
 | .toInt k,.aw s b=>
  match (s.decode b).toInt .zero with
  | some n=>if k.min<=n/\n<=k.max then some (.int k n) else none
  | none=>none
 | .toFlt k,.aw s b=>
  if s=k then some (.aw k b) else
  match s.decode b with
  | .number sg m e=>if (k.decode (k.encode (.number sg m e))).isInfinity then none else some (.aw k (k.encode (.number sg m e)))
  | _=>none
 | .str,.str s=>some (.str s)
 | _,_=>none
def iv (sz:Nat) (ag:Bool) (cs:List AV):Option AV:=
 bif ag then (bif yy sz cs.length then some (.agg (cs.take sz)) else none)
 else match cs with | v::_=>some v | []=>none
def dD (x:AV):Option Nat:=
 match x with
 | .int _ n=>match n with | .ofNat k=>some k | .negSucc _=>none
 | _=>none
def cP (tm:Env) (d:Nat):Option X->Option Nat
 | none=>some d
 | some x=>dD (ay tm x)
def fb (hp:Hp) (k:Cut) (x:AV) (tm:Env) (lo hi:Option X):Option AV:=
 match k,x with
 | .str,.str s=>
  match cP tm 0 lo,cP tm s.length hi with
  | some l,some h=>bif yy l h&&yy h s.length then some (.str ((s.take h).drop l)) else none
  | _,_=>none
 | .sl _,.ae=>
  match cP tm 0 lo,cP tm 0 hi with
  | some 0,some 0=>some .ae
  | _,_=>none
 | .sl sz,.aB ex n cs=>
  match cP tm 0 lo,cP tm n hi with
  | some l,some h=>bif yy l h&&yy h n then some (.aB (ex&&yp h n) (h-l) (slice (l*sz) ((h-l)*sz) cs)) else none
  | _,_=>none
 | .sl sz,.aD id o n=>
  match aA hp id with
  | some (.cells _ _ _ z _)=>
   match cP tm 0 lo,cP tm n hi with
   | some l,some h=>
    bif yy l h&&yy h n&&yp z sz then
     bif yp l h&& !yp l 0 then some (.aB false 0 []) else some (.aD id (o+l*sz) (h-l))
    else none
   | _,_=>none
  | _=>none
 | _,_=>none
def fill (tm:Env):List AV->List (Nat×Nat×X)->Option (List AV)
 | cs,[]=>some cs
 | cs,(o,sz,x)::r=>
  let new:=cellsOf (ay tm x)
  bif yp new.length sz&&yy (o+sz) cs.length&&cK new then fill tm (over o new cs) r else none
def C7:AV->AV->Option Bool
 | .int k a,.int k' b=>if k=k' then some (a==b) else none
 | .str a,.str b=>some (cM a b)
 | .bool a,.bool b=>some (a==b)
 | _,_=>none
def rH:Nat->AV->Bool
 | 0,.bool _=>true
 | 1,.int _ _=>true
 | 2,.str _=>true
 | _,_=>false
def Bv (k:AV):List AV->List AV->Option (Option AV)
 | [],_=>some none
 | k'::ks,v::vs=>match C7 k k' with | some true=>some (some v) | some false=>Bv k ks vs | none=>none
 | _::_,[]=>none
def zS (k v:AV):List AV->List AV->Option (List AV×List AV)
 | [],[]=>some ([k],[v])
 | k'::ks,u::us=>
  match C7 k k' with
  | some true=>some (k'::ks,v::us)
  | some false=>match zS k v ks us with | some (jw,WG)=>some (k'::jw,u::WG) | none=>none
  | none=>none
 | _,_=>none
def min2:AV->AV->Option AV
 | .int k x,.int _ y=>some (.int k (if y<x then y else x))
 | .aw k x,.aw _ y=>
  match k.format.order x y with
  | none=>none
  | some .lt=>some (.aw k x)
  | some .gt=>some (.aw k y)
  | some .eq=>some (.aw k (if (k.decode x).neg then x else y))
 | _,_=>none
def max2:AV->AV->Option AV
 | .int k x,.int _ y=>some (.int k (if y>x then y else x))
 | .aw k x,.aw _ y=>
  match k.format.order x y with
  | none=>none
  | some .lt=>some (.aw k y)
  | some .gt=>some (.aw k x)
  | some .eq=>some (.aw k (if (k.decode x).neg then y else x))
 | _,_=>none
def zI (f:AV->AV->Option AV):AV->List AV->Option AV
 | a,[]=>some a
 | a,b::r=>match f a b with | some c=>zI f c r | none=>none
def room:Nat:=1099511627776
abbrev fT:=Option (AV×Hp×Nat)
def iR (hp:Hp) (sz:Nat) (ag:Bool):AV->Option AV
 | .ptr id o=>match aA hp id with | some (.cells _ _ _ _ cs)=>iv sz ag (cs.drop o) | _=>none
 | .cg cs=>iv sz ag cs
 | _=>none
def GU (k:Nat):AV->Option AV
 | .ptr id o=>some (.ptr id (o+k))
 | .cg cs=>bif yy k cs.length then some (.cg (cs.drop k)) else none
 | _=>none
def KK (o sz:Nat) (ag:Bool):AV->Option AV
 | .agg cs=>iv sz ag (cs.drop o)
 | _=>none
def lj (sz i:Nat):AV->Option AV
 | .aD id o n=>bif yI i n then some (.ptr id (o+i*sz)) else none
 | .aB _ n cs=>bif yI i n then some (.cg (cs.drop (i*sz))) else none
 | _=>none
def KL (len sz i:Nat):AV->Option AV
 | .ptr id o=>bif yI i len then some (.ptr id (o+i*sz)) else none
 | .cg cs=>bif yI i len then some (.cg (cs.drop (i*sz))) else none
 | _=>none
def lY (i:Nat):AV->Option AV
 | .str s=>match s[i]? with | some b=>some (.int .u8 b) | none=>none
 | _=>none
def KM (len sz:Nat) (ag:Bool) (i:Nat):AV->Option AV
 | .agg cs=>bif yI i len then iv sz ag (cs.drop (i*sz)) else none
 | _=>none
def zJ (hp:Hp) (k:AV):AV->Option (Option AV)
 | .jt=>some none
 | .map id=>match aA hp id with | some (.mp _ ks vs)=>Bv k ks vs | _=>none
 | .iQ ks vs=>Bv k ks vs
 | _=>none
def jI (hp:Hp):Nat->AV->Option AV
 | 0,.str s=>some (.int .i64 s.length)
 | 1,.ae=>some (.int .i64 0)
 | 1,.aB _ n _=>some (.int .i64 n)
 | 1,.aD _ _ n=>some (.int .i64 n)
 | 2,.jt=>some (.int .i64 0)
 | 2,.iQ ks _=>some (.int .i64 ks.length)
 | 2,.map id=>match aA hp id with | some (.mp _ ks _)=>some (.int .i64 ks.length) | _=>none
 | _,_=>none
def br (tm:Env) (hp:Hp):Op->Option AV
 | .py x=>some (ay tm x)
 | .pick c a b=>match ay tm c with | .bool t=>some (bif t then ay tm a else ay tm b) | _=>none
 | .Bt zero parts=>match fill tm zero parts with | some cs=>some (.agg cs) | none=>none
 | .ld sz ag x=>iR hp sz ag (ay tm x)
 | .Hg x=>
  match ay tm x with
  | .ptr id o=>some (.ptr id o)
  | .cg cs=>some (.cg cs)
  | .fn f a b=>some (.fn f a b)
  | _=>none
 | .bin op x y=>binOp op (ay tm x) (ay tm y)
 | .eq ne k x y=>match iZ k (ay tm x) (ay tm y) with | some r=>some (.bool (ne !=r)) | none=>none
 | .un op x=>unOp op (ay tm x)
 | .cv k x=>gj k (ay tm x)
 | .DZ f first cap=>some (.fn f (da tm first) (da tm cap))
 | .ow k x lo hi=>fb hp k (ay tm x) tm lo hi
 | .off k x=>GU k (ay tm x)
 | .Il o sz ag x=>KK o sz ag (ay tm x)
 | .cB sz x i=>match dD (ay tm i) with | some j=>lj sz j (ay tm x) | none=>none
 | .D0 len sz x i=>match dD (ay tm i) with | some j=>KL len sz j (ay tm x) | none=>none
 | .D1 x i=>match dD (ay tm i) with | some j=>lY j (ay tm x) | none=>none
 | .D2 len sz ag x i=>match dD (ay tm i) with | some j=>KM len sz ag j (ay tm x) | none=>none
 | .Nb kk zero ok m k=>
  bif rH kk (ay tm k) then
   match zJ hp (ay tm k) (ay tm m) with
   | some (some v)=>some (bif ok then .aa [v,.bool true] else v)
   | some none=>some (bif ok then .aa [zero,.bool false] else zero)
   | none=>none
  else none
 | .ext i x=>match ay tm x with | .aa vs=>vs[i]? | _=>none
 | .len k x=>jI hp k (ay tm x)
 | .mn xs=>match da tm xs with | a::r=>zI min2 a r | []=>none
 | .mx xs=>match da tm xs with | a::r=>zI max2 a r | []=>none
 | _=>none
def cG (tm:Env) (hp:Hp) (ct:Nat):Op->Option (AV×Obj)
 | .box sz x=>
  let cs:=cellsOf (ay tm x)
  bif yp cs.length sz&&cK cs then some (.ptr ct 0,.cells true (aH cs) true sz cs) else none
 | .lm n sz zero parts=>
  match fill tm zero parts with
  | some cs=>bif yp cs.length (n*sz) then some (.aD ct 0 n,.cells true (aH cs) true sz cs) else none
  | none=>none
 | .nc sz bytes zero len cap=>
  match dD (ay tm len),dD (ay tm cap) with
  | some l,some c=>
   bif yy l c&&(yy c room&&(yy (c*bytes) room&&(yp zero.length sz&&cK zero))) then
    some (.aD ct 0 l,.cells true (aH zero) (yp l c) sz (yK l zero).flatten)
   else none
  | _,_=>none
 | .sC=>some (.map ct,.mp true [] [])
 | .oy x=>match ay tm x with | .str s=>some (.it ct,.si s 0) | _=>none
 | _=>none
def decodeL (s:List Nat) (i:Nat):Nat×Nat:=
 let at' (k:Nat):Nat:=s.getD (i+k) 0
 let cont (k:Nat):Bool:=decide (i+k<s.length)&&at' k/64==2
 let b0:=at' 0
 if b0<0x80 then (b0,1)
 else if b0/32==6&&cont 1 then
  let c:=(b0%32)*64+at' 1%64
  if c>=0x80 then (c,2) else (ub,1)
 else if b0/16==14&&cont 1&&cont 2 then
  let c:=(b0%16)*4096+(at' 1%64)*64+at' 2%64
  if c>=0x800&&yaU c then (c,3) else (ub,1)
 else if b0/8==30&&cont 1&&cont 2&&cont 3 then
  let c:=(b0%8)*262144+(at' 1%64)*4096+(at' 2%64)*64+at' 3%64
  if c>=0x10000&&yaU c then (c,4) else (ub,1)
 else (ub,1)
def iL (hp:Hp) (sz:Nat):AV->Option (Nat×List AV)
 | .str b=>bif yp sz 1 then some (b.length,J9 b) else none
 | v=>kW hp sz v
def qd (hp:Hp) (ct sz bytes:Nat) (s:AV) (src:Option (Nat×List AV)):Option (AV×Obj):=
 match src with
 | none=>none
 | some (m,new)=>
  match s with
  | .aD id o n=>
   match aA hp id with
   | some (.cells _ pu true z cs)=>
    bif yp z sz&&(yI 0 m&&(yy (n+m) room&&(yy ((n+m)*bytes) room&&(yp (o+n*sz) cs.length&&yI 0 sz)))) then
     some (.aD ct 0 (n+m),.cells true (pu&&aH new) false sz (slice o (n*sz) cs++new))
    else none
   | _=>none
  | _=>none
def cA (tm:Env) (hp:Hp) (ct:Nat):Op->fT
 | .st sz x v=>
  let new:=cellsOf (ay tm v)
  match ay tm x with
  | .ptr id o=>
   match aA hp id with
   | some (.cells true pu ex z cs)=>
    bif yp new.length sz&&yy (o+sz) cs.length&&cK new then
     some (.aa [],bi hp id (.cells true (pu&&aH new) ex z (over o new cs)),ct)
    else none
   | _=>none
  | _=>none
 | .ox kk m k v=>
  match ay tm m with
  | .map id=>
   match aA hp id with
   | some (.mp true ks vs)=>bif !rH kk (ay tm k) then none else match zS (ay tm k) (ay tm v) ks vs with | some (jw,dM)=>some (.aa [],bi hp id (.mp true jw dM),ct) | none=>none
   | _=>none
  | _=>none
 | .oA x=>
  match ay tm x with
  | .it id=>
   match aA hp id with
   | some (.si s pos)=>
    bif yI pos s.length then
     match decodeL s pos with
     | (c,wd)=>some (.aa [.bool true,.int .i64 pos,.int .i32 c],bi hp id (.si s (pos+wd)),ct)
    else some (.aa [.bool false],hp,ct)
   | _=>none
  | _=>none
 | .aS sz bytes s x=>
  match iL hp sz (ay tm x) with
  | none=>none
  | some (m,new)=>
   match ay tm s with
   | .ae=>
    bif yp m 0 then some (.ae,hp,ct)
    else bif yy m room&&(yy (m*bytes) room&&yI 0 sz) then some (.aD ct 0 m,(ct,.cells true (aH new) false sz new)::hp,ct+1) else none
   | .aB true n cs=>
    bif yp m 0 then some (.aB true n cs,hp,ct)
    else bif yy (n+m) room&&(yy ((n+m)*bytes) room&&(yp cs.length (n*sz)&&yI 0 sz)) then some (.aD ct 0 (n+m),(ct,.cells true (aH cs&&aH new) false sz (cs++new))::hp,ct+1) else none
   | .aD id o n=>
    match aA hp id with
    | some (.cells true pu _ z cs)=>
     bif yp z sz&&(yy (n+m) room&&(yy ((n+m)*bytes) room&&(yy (o+n*sz) cs.length&&(yI 0 sz&&cK new)))) then
      some (.aD ct 0 (n+m),(ct,.cells true (pu&&aH new) false sz (slice o (n*sz) cs++new))::ej hp id,ct+1)
     else none
    | _=>none
   | _=>none
 | .oC sz d s=>
  match kW hp sz (ay tm s),ay tm d with
  | some (m,new),.aD id o n=>
   match aA hp id with
   | some (.cells true pu ex z cs)=>
    bif yp z sz&&(yy (o+n*sz) cs.length&&cK new) then
     some (.int .i64 (min m n:Nat),bi hp id (.cells true (pu&&aH new) ex z (over o (new.take (min m n*sz)) cs)),ct)
    else none
   | _=>none
  | _,_=>none
 | _=>none
def ic:X->List Nat | .t i=>[i] | .c _=>[]
def rL:List X->List Nat
 | []=>[]
 | x::r=>ic x++rL r
def GV:Option X->List Nat | some x=>ic x | none=>[]
def GW:List (Nat×Nat×X)->List Nat
 | []=>[]
 | (_,_,x)::r=>ic x++GW r
def jm:Op->List Nat
 | .py x | .box _ x | .ld _ _ x | .Hg x | .un _ x | .cv _ x | .off _ x | .Il _ _ _ x | .oy x | .oA x | .ext _ x | .len _ x=>ic x
 | .pick a b c | .ox _ a b c=>ic a++(ic b++ic c)
 | .Bt _ ps | .lm _ _ _ ps=>GW ps
 | .st _ a b | .bin _ a b | .eq _ _ a b | .cB _ a b | .D0 _ _ a b | .D1 a b | .D2 _ _ _ a b | .Nb _ _ _ a b | .aS _ _ a b | .oB _ _ a b | .oC _ a b=>ic a++ic b
 | .DZ _ a b=>rL a++rL b
 | .sC=>[]
 | .nc _ _ _ a b=>ic a++ic b
 | .ow _ x a b=>ic x++(GV a++GV b)
 | .call _ f xs=>ic f++rL xs
 | .ib _ f xs=>ic f++rL xs
 | .jv _ _ a b=>ic a++ic b
 | .jS _ _ _ a b=>ic a++ic b
 | .mn xs | .mx xs=>rL xs
def bt:Op->Nat
 | .py _ | .pick _ _ _ | .Bt _ _ | .Hg _ | .bin _ _ _ | .eq _ _ _ _ | .un _ _ | .cv _ _ | .DZ _ _ _ | .off _ _ | .Il _ _ _ _ | .cB _ _ _ | .D0 _ _ _ _ | .D1 _ _ | .D2 _ _ _ _ _ | .ext _ _ | .mn _ | .mx _=>0
 | .ow .str _ _ _ | .len 0 _ | .len 1 _=>0
 | .st _ _ _ | .ox _ _ _ _ | .oA _ | .aS _ _ _ _ | .oC _ _ _ | .ib _ _ _ | .jv _ _ _ _ | .jS _ _ _ _ _ | .call .heap _ _ | .call .dyn _ _=>2
 | _=>1
def Qa:Option (Nat×Bool)->List Nat | some (t,_)=>[t] | none=>[]
def Be (o:aX):List Nat:=Qa o.guard++jm o.op
def Dc (d:Option Nat) (l:List Nat):Bool:=match d with | some i=>kI i l | none=>false
def afJ (d e:Option Nat):Bool:=match d,e with | some i,some j=>yp i j | _,_=>false
def JQ (a b:aX):Bool:=Dc a.dst (Be b)||Dc b.dst (Be a)||afJ a.dst b.dst
def BF (sz:Nat) (ag:Bool) (t:Nat):List (Nat×Bool×Nat)->Bool
 | []=>false
 | (s,g,u)::r=>(yp s sz&&(g==ag&&yp u t))||BF sz ag t r
def Bw (t:Nat):List aX->Bool
 | []=>true
 | o::r=> !Dc o.dst [t]&&Bw t r
def F2 (a b:aX) (r:List aX):Bool:=
 match a.guard,a.op,b.op with
 | none,.ld sz ag (.t t),.ib rs _ _=>BF sz ag t rs&&Bw t (a::r)
 | none,.ld sz ag (.t t),.jv rs _ _ _=>BF sz ag t rs&&Bw t (a::r)
 | none,.ld sz ag (.t t),.jS rs _ _ _ _=>BF sz ag t rs&&Bw t (a::r)
 | _,_,_=>false
def FI (a b:aX):Bool:=
 match bt a.op,bt b.op with
 | 1,2 | 2,1 | 2,2=>true
 | _,_=>false
def JR (m:Nat) (b:aX):List aX->Nat->Bool
 | [],_=>true
 | a::r,i=>(tg m i|| !(JQ a b||(FI a b&& !F2 a b r)))&&JR m b r (i+1)
def rI (done:List aX):List aX->List Nat->Bool
 | [],_=>true
 | b::r,m::ms=>JR m b done 0&&rI (done++[b]) r ms
 | _::_,[]=>false
def F3 (m:Nat):List aX->Nat->List (Nat×Bool×Nat)
 | [],_=>[]
 | a::r,i=>
  match tg m i,a with
  | false,⟨_,none,.ld sz ag (.t t)⟩=>(sz,ag,t)::F3 m r (i+1)
  | _,_=>F3 m r (i+1)
def stOp (rs:List (Nat×Bool×Nat)) (sz:Nat) (x v:X):Op:=match rs with | []=> .st sz x v | rs=> .jv rs sz x v
def ag2 (rs:List (Nat×Bool×Nat)) (sz b:Nat) (x v:X):Op:=match rs with | []=> .aS sz b x v | rs=> .jS rs sz b x v
def lZ (done:List aX):List aX->List Nat->List aX
 | ⟨d,g,.ib _ f xs⟩::r,m::ms=>let o:aX:=⟨d,g,.ib (F3 m done 0) f xs⟩;o::lZ (done++[o]) r ms
 | ⟨d,g,.st sz x v⟩::r,m::ms=>let o:aX:=⟨d,g,stOp (F3 m done 0) sz x v⟩;o::lZ (done++[o]) r ms
 | ⟨d,g,.aS sz b x v⟩::r,m::ms=>let o:aX:=⟨d,g,ag2 (F3 m done 0) sz b x v⟩;o::lZ (done++[o]) r ms
 | o::r,_::ms=>o::lZ (done++[o]) r ms
 | l,_=>l
def aew (done:List aX):X->Bool
 | .t i=>done.any fun o=>match o.dst,o.op with | some j,.lm _ _ _ _=>yp i j | _,_=>false
 | _=>false
def C8 (done:List aX):List aX->List aX
 | []=>[]
 | o::r=>(match o.op with | .aS sz b x v=>bif aew done x then ⟨o.dst,o.guard,.oB sz b x v⟩ else o | _=>o)::C8 (done++[o]) r
abbrev aM:=Nat->Option aE
structure Lib where
 pure:Nat->Option (List AV->Option AV)
 heap:Nat->Option (Hp->Nat->List AV->fT)
abbrev cx:=VC->St->Option (Ex×St)
def dQ:Nat->List AV->Env
 | _,[]=>[]
 | i,v::r=>(i,v)::dQ (i+1) r
def results1 (s:St):RV->Option AV
 | .t i=>some (aj s.tm i)
 | .cell i sz ag=>
  match aj s.tm i with
  | .ptr id o=>match aA s.hp id with | some (.cells _ _ _ _ cs)=>iv sz ag (cs.drop o) | _=>none
  | .cg cs=>iv sz ag cs
  | _=>none
def kh (s:St):List RV->Option (List AV)
 | []=>some []
 | r::rest=>match results1 s r,kh s rest with | some v,some vs=>some (v::vs) | _,_=>none
def hZ (s:St) (rs:List RV):Option AV:=
 match kh s rs with
 | some [v]=>some v
 | some vs=>some (.aa vs)
 | none=>none
def bM (P:aM) (L:Lib) (self:cx) (n:Nat) (ao:List AV):Option AV:=
 match L.pure n with
 | some sp=>sp ao
 | none=>
  match P n with
  | none=>none
  | some F=>
   match self F.body ⟨dQ 0 ao,[],0,0⟩ with
   | some (.normal,s) | some (.ret,s)=>match hZ s F.dj with | some v=>result s.hp v | none=>none
   | _=>none
def PI:Ex->rZ
 | .normal=> .none
 | .ret=> .ret
 | .exit id=> .exit id
def p0:Env->List Nat->List AV->Option Env
 | tm,[],[]=>some tm
 | tm,p::ps,v::vs=>p0 ((p,v)::tm) ps vs
 | _,_,_=>none
def ia (P:aM) (L:Lib) (self:cx) (hp:Hp) (ct:Nat) (n:Nat) (ao:List AV):fT:=
 match L.heap n with
 | some sp=>sp hp ct ao
 | none=>
  match P n with
  | none=>none
  | some F=>
   match self F.body ⟨dQ 0 ao,hp,ct,ct⟩ with
   | some (.normal,s) | some (.ret,s)=>match hZ s F.dj with | some v=>some (v,s.hp,s.ct) | none=>none
   | _=>none
def mB (self:cx) (hp:Hp) (ct:Nat) (l:Nat) (xs:List AV):fT:=
 match aA hp l with
 | some (.lp tm ps cy body 0 _)=>
  match p0 tm ps xs with
  | none=>none
  | some bG=>
   match self cy ⟨bG,hp,ct,ct⟩ with
   | some (.normal,s1)=>
    match aA s1.hp l with
    | some (.lp ja B3 Am Bx 0 sD)=>
     match self body ⟨s1.tm,bi s1.hp l (.lp ja B3 Am Bx 1 sD),s1.ct,s1.ct⟩ with
     | some (ex,s2)=>
      match aA s2.hp l with
      | some (.lp pz Im Io GX 1 _)=>
       match ex with
       | .normal=>some (.bool true,bi s2.hp l (.lp pz Im Io GX 0 .none),s2.ct)
       | ex=>some (.bool false,bi s2.hp l (.lp pz Im Io GX 2 (PI ex)),s2.ct)
      | _=>none
     | none=>none
    | _=>none
   | _=>none
 | _=>none
def eD (P:aM) (L:Lib) (self:cx) (hp:Hp) (ct:Nat) (m:Md) (fv:AV) (xs:List AV):fT:=
 match fv with
 | .fn (.f n) first cap=>
  match m with
  | .pure=>
   match cF deep hp (first++(xs++cap)) with
   | some (ao,bm)=>match bM P L self n ao with | some r=>some (shut r,bm,ct) | none=>none
   | none=>none
  | .own=>
   match cF deep hp (first++(xs++cap)) with
   | some (ao,bm)=>match bM P L self n ao with | some r=>some (own bm ct r) | none=>none
   | none=>none
  | .heap=>ia P L self hp ct n (first++(xs++cap))
  | .dyn=>
   bif aH (first++(xs++cap)) then
    match bM P L self n (first++(xs++cap)) with | some r=>some (shut r,hp,ct) | none=>none
   else ia P L self hp ct n (first++(xs++cap))
 | .fn (.y l) _ _=>
  match m with
  | .heap | .dyn=>mB self hp ct l xs
  | _=>none
 | _=>none
def QH:AV->AV->Bool
 | .int k a,.int k' b=>decide (k=k')&&a==b
 | .bool a,.bool b=>a==b
 | .str a,.str b=>cM a b
 | .ae,.ae=>true
 | .kG,.kG=>true
 | .ptr i o,.ptr j p=>yp i j&&yp o p
 | .aD i o n,.aD j p m=>yp i j&&(yp o p&&yp n m)
 | .map i,.map j=>yp i j
 | _,_=>false
def nK (tm:Env) (hp ap:Hp):List (Nat×Bool×Nat)->Bool
 | []=>true
 | (sz,ag,x)::r=>
  match iR hp sz ag (aj tm x),iR ap sz ag (aj tm x) with
  | some a,some b=>QH a b&&nK tm hp ap r
  | _,_=>false
def mE (tm:Env) (id:Nat):List (Nat×Bool×Nat)->Bool
 | []=>true
 | (_,_,x)::r=>(match aj tm x with | .ptr j _=> !yp j id | .cg _=>true | _=>false)&&mE tm id r
def bg (P:aM) (L:Lib) (self:cx) (tm:Env) (hp:Hp) (ct:Nat) (o:Op):fT:=
 match o with
 | .call m f xs=>eD P L self hp ct m (ay tm f) (da tm xs)
 | .ib rs f xs=>
  match eD P L self hp ct .dyn (ay tm f) (da tm xs) with
  | some (v,ap,aV)=>bif nK tm hp ap rs then some (v,ap,aV) else none
  | none=>none
 | .jv rs sz x v=>
  match ay tm x with
  | .ptr id _=>bif mE tm id rs then cA tm hp ct (.st sz x v) else none
  | _=>none
 | .oB sz b x v=>
  match qd hp ct sz b (ay tm x) (iL hp sz (ay tm v)) with
  | some (v,b)=>some (v,(ct,b)::hp,ct+1)
  | none=>none
 | .jS rs sz b x v=>
  match cA tm hp ct (.aS sz b x v) with
  | some (v,ap,aV)=>bif nK tm hp ap rs then some (v,ap,aV) else none
  | none=>none
 | .st .. | .ox .. | .oA .. | .aS .. | .oC .. =>cA tm hp ct o
 | .box .. | .lm .. | .nc .. | .sC | .oy .. =>match cG tm hp ct o with | some (v,b)=>some (v,(ct,b)::hp,ct+1) | none=>none
 | o=>match br tm hp o with | some v=>some (v,hp,ct) | none=>none
def put (d:Option Nat) (v:AV) (tm:Env):Env:=
 match d with
 | some i=>(i,v)::tm
 | none=>tm
def dh (P:aM) (L:Lib) (self:cx):List aX->St->Option St
 | [],s=>some s
 | ⟨d,g,o⟩::r,s=>
  let want:=match g with | none=>some true | some (t,b)=>match aj s.tm t with | .bool c=>some (c==b) | .aa []=>some false | _=>none
  match want with
  | some true=>
   match bg P L self s.tm s.hp s.ct o with
   | some (v,hp,ct)=>dh P L self r {s with tm:=put d v s.tm,hp:=hp,ct:=ct}
   | none=>none
  | some false=>dh P L self r {s with tm:=put d (.aa []) s.tm}
  | none=>none
def nW:List Nat->St->Option St
 | [],s=>some s
 | t::r,s=>
  match freeze deep s.hp (aj s.tm t) with
  | some (v,hp)=>nW r {s with tm:=(t,v)::s.tm,hp:=hp}
  | none=>none
def bD (P:aM) (L:Lib) (self:cx):VC->St->Option (Ex×St)
 | .skip,s=>some (.normal,s)
 | .nd ops,s=>match dh P L self ops s with | some s'=>some (.normal,s') | none=>none
 | .seq a b,s=>
  match bD P L self a s with
  | some (.normal,s1)=>bD P L self b s1
  | r=>r
 | .cond x a b,s=>
  match ay s.tm x with
  | .bool t=>bif t then bD P L self a s else bD P L self b s
  | _=>none
 | .dz id a,s=>
  match bD P L self a s with
  | some (.exit j,s1)=>bif yp j id then some (.normal,s1) else some (.exit j,s1)
  | r=>r
 | .kp live,s=>some (.normal,aP live s)
 | .fz ts,s=>match nW ts s with | some s'=>some (.normal,s') | none=>none
 | .loop live a,s=>
  match bD P L self a (aP live s) with
  | some (.normal,s1)=>self (.loop live a) s1
  | r=>r
 | .rf f ps cy body,s=>
  match ay s.tm f with
  | .fn (.f n) first cap=>
   match L.heap n with
   | some _=>none
   | none=>
    match ia P L self ((s.ct,.lp s.tm ps cy body 0 .none)::s.hp) (s.ct+1) n (first++(.fn (.y s.ct) [] []::cap)) with
    | some (_,hp,ct)=>
     match aA hp s.ct with
     | some (.lp _ _ _ _ st pe)=>
      bif yp st 1 then none else
      match pe with
      | .none=>some (.normal,{s with hp:=ej hp s.ct,ct:=ct})
      | .ret=>some (.ret,{s with hp:=ej hp s.ct,ct:=ct})
      | .exit id=>some (.exit id,{s with hp:=ej hp s.ct,ct:=ct})
     | _=>none
    | none=>none
  | _=>none
 | .exit id,s=>some (.exit id,s)
 | .ret,s=>some (.ret,s)
def ev (P:aM) (L:Lib) (n:Nat):cx:=Nat.rec (fun _ _=>none) (fun _ ih=>bD P L ih) n
def WH (P:aM) (L:Lib) (n:Nat) (f:Nat) (ao:List AV):Option AV:=bM P L (ev P L n) f ao
end
section
open Go
structure Pl where
 b:Nat
 o:Nat
 e:Nat
 z:Nat
abbrev Mp:=Nat->Option Pl
section
variable (af:Nat->Nat) (m:Mp) (S:Nat->Prop) (w:yi)
mutual
def ah:AV->yg->Prop
 | .int k n,v=>v= .int k n
 | .bool b,v=>v= .bool b
 | .aw k b,v=>v= .float k b
 | .str s,v=>∃t:ByteArray,v= .string t/\t.data.toList.map xf=s
 | .kG,v=>v= .pointer none
 | .ptr id o,v=>∃p,m id=some p/\v= .pointer (some ⟨p.b,p.o+o,none⟩)
 | .cg cs,v=>∃b o,v= .pointer (some ⟨b,o,none⟩)/\(cs=[]\/S b)/\aH cs=true/\bN cs b o
 | .ae,v=>v= .slice none 0 0
 | .aB ex n cs,v=>(∃b o c,v= .slice (some ⟨b,o,none⟩) n c/\n<=c/\(ex=true->c=n)/\(cs=[]\/S b)/\aH cs=true/\bN cs b o)\/(∃a,v= .slice (some a) 0 0/\n=0/\cs=[])
 | .bI _ _ _ _,_=>False
 | .aD id o n,v=>∃p c,m id=some p/\v= .slice (some ⟨p.b,p.o+o,none⟩) n c/\n<=c/\o+c*p.z=p.e
 | .fn (.f g) first cap,v=>∃fi ca:Array yg,v= .func (.func (af g)) fi ca/\av first fi.toList/\av cap ca.toList
 | .fn (.y l) _ _,v=>∃p,m l=some p/\v= .func (.yield p.b) #[] #[]
 | .ik,v=>v= .nilFunc
 | .jt,v=>v= .map none
 | .map id,v=>∃p,m id=some p/\v= .map (some p.b)
 | .iQ ks vs,v=>∃b es clock,v= .map (some b)/\S b/\aH ks=true/\aH vs=true/\w.heap[b]? =some (.map es clock)/\
   av ks (es.toList.map (·.key))/\av vs (es.toList.map (·.val))
 | .it id,v=>∃p,m id=some p/\v= .pointer (some ⟨p.b,0,none⟩)
 | .agg cs,v=>∃xs:Array yg,v= .agg xs/\av cs xs.toList
 | .aa cs,v=>∃xs:Array yg,v= .tuple xs/\av cs xs.toList
 | .undef,_=>True
def av:List AV->List yg->Prop
 | [],us=>us=[]
 | c::cs,us=>∃u r,us=u::r/\ah c u/\av cs r
def bN:List AV->Nat->Nat->Prop
 | [],_,_=>True
 | c::cs,b,o=>(∃u,w.cell? ⟨b,o,none⟩=some u/\ah c u)/\bN cs b (o+1)
end
end
def fp (S:Nat->Prop) (w w':yi):Prop:=∀b,S b->w'.heap[b]? =w.heap[b]?
def Jh {w w':yi} {b o:Nat} (h:w'.heap[b]? =w.heap[b]?):w'.cell? ⟨b,o,none⟩=w.cell? ⟨b,o,none⟩:=by
 simp only [World.cell?,h]
section
variable {af:Nat->Nat} {m m':Mp} {S S':Nat->Prop} {w w':yi}
mutual
def kj (hm:∀id p,m id=some p->m' id=some p) (hS:∀b,S b->S' b) (hw:fp S w w'):
  ∀(v:AV) (u:yg),ah af m S w v u->ah af m' S' w' v u
 | .int _ _,_,h | .bool _,_,h | .aw _ _,_,h | .str _,_,h | .kG,_,h | .ae,_,h | .ik,_,h | .jt,_,h | .undef,_,h=>by
  simpa only [ah] using h
 | .ptr id o,u,h=>by
  simp only [ah] at h ⊢;obtain ⟨p,h1,h2⟩:=h;exact ⟨p,hm _ _ h1,h2⟩
 | .cg cs,u,h=>by
  simp only [ah] at h ⊢;obtain ⟨b,o,h1,h2,h3,h4⟩:=h;refine ⟨b,o,h1,h2.imp id (hS b),h3,?_⟩;rcases h2 with rfl | h2
  ·simp only [bN]
  ·exact Oj hm hS hw cs b o h2 h4
 | .aB ex n cs,u,h=>by
  simp only [ah] at h ⊢;rcases h with ⟨b,o,c,h1,h2,h3,h4,h5,h6⟩ | h
  ·refine .inl ⟨b,o,c,h1,h2,h3,h4.imp id (hS b),h5,?_⟩;rcases h4 with rfl | h4
   ·simp only [bN]
   ·exact Oj hm hS hw cs b o h4 h6
  ·exact .inr h
 | .bI _ _ _ _,u,h=>by simp only [ah] at h
 | .aD id o n,u,h=>by
  simp only [ah] at h ⊢;obtain ⟨p,c,h1,h2⟩:=h;exact ⟨p,c,hm _ _ h1,h2⟩
 | .fn (.f g) first cap,u,h=>by
  simp only [ah] at h ⊢;obtain ⟨fi,ca,h1,h2,h3⟩:=h;exact ⟨fi,ca,h1,fZ hm hS hw first _ h2,fZ hm hS hw cap _ h3⟩
 | .fn (.y l) _ _,u,h=>by
  simp only [ah] at h ⊢;obtain ⟨p,h1,h2⟩:=h;exact ⟨p,hm _ _ h1,h2⟩
 | .map id,u,h=>by
  simp only [ah] at h ⊢;obtain ⟨p,h1,h2⟩:=h;exact ⟨p,hm _ _ h1,h2⟩
 | .iQ ks vs,u,h=>by
  simp only [ah] at h ⊢;obtain ⟨b,es,clock,h1,h2,h3,h4,h5,h6,h7⟩:=h;exact ⟨b,es,clock,h1,hS b h2,h3,h4,(hw b h2).trans h5,fZ hm hS hw ks _ h6,fZ hm hS hw vs _ h7⟩
 | .it id,u,h=>by
  simp only [ah] at h ⊢;obtain ⟨p,h1,h2⟩:=h;exact ⟨p,hm _ _ h1,h2⟩
 | .agg cs,u,h=>by
  simp only [ah] at h ⊢;obtain ⟨xs,h1,h2⟩:=h;exact ⟨xs,h1,fZ hm hS hw cs _ h2⟩
 | .aa cs,u,h=>by
  simp only [ah] at h ⊢;obtain ⟨xs,h1,h2⟩:=h;exact ⟨xs,h1,fZ hm hS hw cs _ h2⟩
def fZ (hm:∀id p,m id=some p->m' id=some p) (hS:∀b,S b->S' b) (hw:fp S w w'):
  ∀(vs:List AV) (us:List yg),av af m S w vs us->av af m' S' w' vs us
 | [],us,h=>by simpa only [av] using h
 | v::r,us,h=>by
  simp only [av] at h ⊢;obtain ⟨u,t,h1,h2,h3⟩:=h;exact ⟨u,t,h1,kj hm hS hw v u h2,fZ hm hS hw r t h3⟩
def Oj (hm:∀id p,m id=some p->m' id=some p) (hS:∀b,S b->S' b) (hw:fp S w w'):
  ∀(cs:List AV) (b o:Nat),S b->bN af m S w cs b o->bN af m' S' w' cs b o
 | [],_,_,_,_=>by simp only [bN]
 | c::cs,b,o,hb,h=>by
  simp only [bN] at h ⊢;obtain ⟨⟨u,h1,h2⟩,h3⟩:=h;exact ⟨⟨u,(Jh (hw b hb)).trans h1,kj hm hS hw c u h2⟩,Oj hm hS hw cs b (o+1) hb h3⟩
end
end
end
section
open Go
structure Hint where
 n:Nat
 bX:tA->Option Nat
 live:Nat->List Nat
 out:Nat->Option (List Nat)
 mode:Nat->Md
 fz:Nat->List Nat
section
variable (P:xa) (H:Hint)
mutual
def eh:yg->AV
 | .int k n=> .int k n
 | .bool b=> .bool b
 | .float k b=> .aw k b
 | .string s=> .str (s.data.toList.map xf)
 | .pointer none=> .kG
 | .slice none 0 0=> .ae
 | .map none=> .jt
 | .nilFunc=> .ik
 | .agg ⟨cs⟩=> .agg (CR cs)
 | .tuple ⟨cs⟩=> .aa (CR cs)
 | _=> .undef
def CR:List yg->List AV
 | []=>[]
 | v::r=>eh v::CR r
end
def aK:xq->X
 | .tmp t=> .t t
 | .const v=> .c (eh v)
 | .global _=> .c .undef
 | .func f=>match H.bX f with | some g=> .c (.fn (.f g) [] []) | none=> .c .undef
def gk:List xq->List X
 | []=>[]
 | x::r=>aK H x::gk r
def cu (t:yx):Option Nat:=match P.info? t with | some i=>some i.size | none=>none
def qM (t:yx):Option Nat:=match P.info? t with | some i=>some i.bytes | none=>none
def kD (t:yx):Option AV:=match P.info? t with | some i=>(match i.zero with | some v=>some (eh v) | none=>none) | none=>none
def dE (t:yx):Option Bool:=match P.underlying t with | some (.struct _) | some (.array _ _)=>some true | some _=>some false | none=>none
def bad:Op:= .call .pure (.c .undef) []
def partsOf (place:Nat->Option (Nat×Nat)):List (Nat×xq)->Option (List (Nat×Nat×X))
 | []=>some []
 | (i,x)::r=>
  match place i,partsOf place r with
  | some (o,s),some l=>some ((o,s,aK H x)::l)
  | _,_=>none
def CD (self:yx->Option (List Nat)):List tp->Nat->Option (List Nat)
 | [],_=>some []
 | f::r,o=>
  match self f.type,cu P f.type with
  | some ks,some s=>
   bif f.name != "_"&&yp f.offset o&&yp ks.length s&& !P.stoodInHeld f.type then
    (match CD self r (o+s) with | some l=>some (ks++l) | none=>none)
   else none
  | _,_=>none
def kinds:Nat->yx->Option (List Nat)
 | 0,_=>none
 | n+1,t=>
  match P.underlying t with
  | some .bool=>some [0]
  | some (.int _)=>some [1]
  | some .string=>some [2]
  | some (.struct fs)=>CD P (fun u=>kinds n u) fs.toList 0
  | some (.array k e)=>
   match kinds n e,cu P e with
   | some ks,some s=>bif yp ks.length s&& !P.stoodInHeld e then some (yK k ks).flatten else none
   | _,_=>none
  | _=>none
def keyOf (t:yx):Option Nat:=
 match P.underlying t with
 | some .bool=>some 0
 | some (.int _)=>some 1
 | some .string=>some 2
 | _=>none
def nL (ne:Bool) (t:yx) (a b:xq):Op:=
 match kinds P 20 t with
 | some ks=>bif P.stoodInHeld t||P.eqGuardType P.depth t then bad else .eq ne (.ag ks) (aK H a) (aK H b)
 | none=>bad
def mF (ne:Bool) (op:wO) (t:yx) (a b:xq):Op:=
 match P.underlying t with
 | some (.int _) | some .string | some (.float _)=> .bin op (aK H a) (aK H b)
 | some .bool=> .eq ne .b (aK H a) (aK H b)
 | some (.slice _)=> .eq ne .sl (aK H a) (aK H b)
 | some (.func _ _ _)=> .eq ne .fn (aK H a) (aK H b)
 | some (.struct _) | some (.array _ _)=>nL P H ne t a b
 | _=>bad
def aQ (k:Nat) (o:y9):Op:=
 let x (y:xq):X:=aK H y
 match o.op with
 | .move a | .assign a=> .py (x a)
 | .pick c a b=> .pick (x c) (x a) (x b)
 | .alloc t=>match cu P t,kD P t with | some s,some z=> .box s (.c z) | _,_=>bad
 | .box t v=>match cu P t with | some s=> .box s (x v) | none=>bad
 | .build t parts=>
  match P.underlying t,kD P t with
  | some (.struct fs),some (.agg z)=>
   match fs.toList.mapM (fun f=>(P.info? f.type).map fun i=>(f.offset,i.size)) with
   | some pl=>(match partsOf H (fun i=>pl[i]?) parts.toList with | some ps=> .Bt z ps | none=>bad)
   | none=>bad
  | some (.array _ e),some (.agg z)=>
   match cu P e with
   | some s=>(match partsOf H (fun i=>some (i*s,s)) parts.toList with | some ps=> .Bt z ps | none=>bad)
   | none=>bad
  | _,_=>bad
 | .buildSlice t n parts=>
  match P.underlying t with
  | some (.slice e)=>
   match cu P e,kD P e with
   | some s,some z=>
    bif yy (n*s) 16777216 then
     (match partsOf H (fun i=>some (i*s,s)) parts.toList with | some ps=> .lm n s (yK n (cellsOf z)).flatten ps | none=>bad)
    else bad
   | _,_=>bad
  | _=>bad
 | .load t a=>match cu P t,dE P t with | some s,some ag=> .ld s ag (x a) | _,_=>bad
 | .store t a v=>match cu P t with | some s=> .st s (x a) (x v) | none=>bad
 | .nilCheck a=> .Hg (x a)
 | .binOp op t a b _=>
  match op with
  | .eql=>mF P H false op t a b
  | .neq=>mF P H true op t a b
  | _=> .bin op (x a) (x b)
 | .unOp op _ a=> .un op (x a)
 | .convert s d a=>
  match P.underlying s,P.underlying d with
  | some (.int _),some (.int k) | some (.float _),some (.int k)=> .cv (.toInt k) (x a)
  | some (.int _),some (.float k) | some (.float _),some (.float k)=> .cv (.toFlt k) (x a)
  | some .string,some .string=> .cv .str (x a)
  | _,_=>bad
 | .makeFunc (.func f) first cap=>match H.bX f with | some g=> .DZ (.f g) (gk H first.toList) (gk H cap.toList) | none=>bad
 | .makeMap t none=>match P.underlying t with | some (.map ke _)=>(match keyOf P ke with | some _=> .sC | none=>bad) | _=>bad
 | .makeSlice t l c=>
  match P.underlying t with
  | some (.slice e)=>(match cu P e,qM P e,kD P e with | some s,some b,some z=> .nc s b (cellsOf z) (x l) (x c) | _,_,_=>bad)
  | _=>bad
 | .slice t a lo hi none=>
  match P.underlying t with
  | some .string=> .ow .str (x a) (lo.map x) (hi.map x)
  | some (.slice e)=>(match cu P e with | some s=> .ow (.sl s) (x a) (lo.map x) (hi.map x) | none=>bad)
  | some (.array n e)=>(match cu P e with | some s=> .ow (.ar n s) (x a) (lo.map x) (hi.map x) | none=>bad)
  | _=>bad
 | .fieldAddr t a i=>
  match P.underlying t with
  | some (.struct fs)=>
   match fs[i]? with
   | some f=>(match cu P f.type with | some (_+1)=> .off f.offset (x a) | _=>bad)
   | none=>bad
  | _=>bad
 | .field t a i=>
  match P.underlying t with
  | some (.struct fs)=>
   match fs[i]? with
   | some f=>(match cu P f.type,dE P f.type with | some s,some ag=> .Il f.offset s ag (x a) | _,_=>bad)
   | none=>bad
  | _=>bad
 | .indexAddr t a i=>
  match P.underlying t with
  | some (.slice e)=>(match cu P e with | some s=> .cB s (x a) (x i) | none=>bad)
  | some (.array n e)=>(match cu P e with | some s=> .D0 n s (x a) (x i) | none=>bad)
  | _=>bad
 | .index t a i=>
  match P.underlying t with
  | some .string=> .D1 (x a) (x i)
  | some (.array n e)=>(match cu P e,dE P e with | some s,some ag=> .D2 n s ag (x a) (x i) | _,_=>bad)
  | _=>bad
 | .lookup t a i ok=>
  match P.underlying t with
  | some (.map ke e)=>(match keyOf P ke,kD P e with | some kk,some z=> .Nb kk z ok (x a) (x i) | _,_=>bad)
  | _=>bad
 | .mapUpdate t a i v | .insert t a i v=>
  match P.underlying t with
  | some (.map ke _)=>(match keyOf P ke with | some kk=> .ox kk (x a) (x i) (x v) | none=>bad)
  | _=>bad
 | .range t a=>match P.underlying t with | some .string=> .oy (x a) | _=>bad
 | .next it true=> .oA (x it)
 | .extract t i=> .ext i (x t)
 | .call c=>
  match c.callee with
  | .value f=>(match H.mode k with | .dyn=> .ib [] (x f) (gk H c.args.toList) | md=> .call md (x f) (gk H c.args.toList))
  | .builtin b=>
   match b,c.args.toList,c.argTypes.toList with
   | .append,[s,a],[t,u]=>
    match P.underlying t,P.underlying u with
    | some (.slice e),some (.slice _) | some (.slice e),some .string=>
     (match cu P e,qM P e,kD P e with | some sz,some bY,some z=>(bif yp (cellsOf z).length sz then .aS sz bY (x s) (x a) else bad) | _,_,_=>bad)
    | _,_=>bad
   | .len,[a],[t]=>
    match P.underlying t with
    | some (.array n _)=> .py (.c (.int .i64 n))
    | some .string=> .len 0 (x a)
    | some (.slice _)=> .len 1 (x a)
    | some (.map _ _)=> .len 2 (x a)
    | _=>bad
   | .copy,[d,s],[t,_]=>
    match P.underlying t with
    | some (.slice e)=>(match cu P e with | some sz=> .oC sz (x d) (x s) | none=>bad)
    | _=>bad
   | .min,l,_=> .mn (gk H l)
   | .max,l,_=> .mx (gk H l)
   | _,_,_=>bad
  | _=>bad
 | _=>bad
def PJ (o:y9):Bool:=match o.op with | .call {callee:= .value _,..}=>true | _=>false
def GY (d:Option Nat):Bool:=match d with | some i=>yI i H.n | none=>true
def rR (n:Nat):List Nat->Bool
 | []=>true
 | i::r=>yI i n&&rR n r
def A6 (ops:Array y9):List y9->Nat->List aX×Nat
 | [],k=>([],k)
 | o::r,k=>
  let g:=match o.guard with
   | none=>some none
   | some (j,b)=>match (ops[j]?).bind (·.dst) with | some t=>some (some (t,b)) | none=>none
  match A6 ops r (k+(bif PJ o then 1 else 0)) with
  | (l,k')=>
   match g,GY H o.dst with
   | some g,true=>(⟨o.dst,g,aQ P H k o⟩::l,k')
   | _,_=>(⟨o.dst,none,bad⟩::l,k')
def zy (acc:List Nat):List Edge->Nat
 | []=>0
 | e::r=>bif Region.binds .any e then (2^e.on|||acc.getD e.on 0)|||zy acc r else zy acc r
def jJ (acc:List Nat):List y9->List Nat
 | []=>acc
 | o::r=>jJ (acc++[zy acc o.after.toList]) r
def zb:List y9->Nat->Bool
 | [],_=>true
 | o::r,i=>o.after.toList.all (fun e=> !Region.binds .any e||yI e.on i)&&zb r (i+1)
def Ka (ops:Array y9) (draw:Bool) (k:Nat):List aX×Nat:=
 match A6 P H ops ops.toList k with
 | (l,k')=>
  bif draw then
   (let ms:=jJ [] ops.toList
    let l':=lZ [] l ms
    bif zb ops.toList 0&&rI [] l' ms then (l',k') else bif zb ops.toList 0&&rI [] (C8 [] l') ms then (C8 [] l',k') else ([⟨none,none,bad⟩],k'))
  else (l,k')
def asW:wK->Bool
 | .loop _=>true
 | _=>false
def comp:wK->Nat->Nat->VC×Nat×Nat
 | .skip,l,k | .label _,l,k=>(.skip,l,k)
 | .region i ops d,l,k=>match Ka P H ops d k with | (r,k')=>((match H.fz i with | []=> .nd r | t::ts=> .seq (.fz (t::ts)) (.nd r)),l,k')
 | .seq a b,l,k=>match comp a l k with | (a',l1,k1)=>match comp b l1 k1 with | (b',l2,k2)=>(.seq a' b',l2,k2)
 | .cond c a b,l,k=>
  match comp a (l+1) k with
  | (a',l1,k1)=>
   match comp b l1 k1 with
   | (b',l2,k2)=>(match H.out l with | some o=> .seq (.cond (aK H c) a' b') (.kp o) | none=> .cond (aK H c) a' b',l2,k2)
 | .block id a,l,k=>
  match comp a l k with
  | (a',r)=>(match asW a,H.out l with | true,some o=> .seq (.dz id a') (.kp o) | _,_=> .dz id a',r)
 | .loop a,l,k=>match comp a (l+1) k with | (a',r)=>(.loop (H.live l) a',r)
 | .rangeFunc f ps cy body,l,k=>
  match comp cy l k with | (as',l1,k1)=>match comp body l1 k1 with | (b',l2,k2)=>(bif rR H.n ps.toList then .rf (aK H f) ps.toList as' b' else .nd [⟨none,none,bad⟩],l2,k2)
 | .exit id,l,k=>(.exit id,l,k)
 | .scope a,l,k=>comp a l k
 | .ret,l,k=>(.ret,l,k)
 | .goto _,l,k | .refuse _,l,k=>(.nd [⟨none,none,bad⟩],l,k)
def nM:List ResultVar->Option (List RV)
 | []=>some []
 | .tmp t::r=>match nM r with | some l=>some (.t t::l) | none=>none
 | .cell a t::r=>match cu P t,dE P t,nM r with | some s,some ag,some l=>some (.cell a s ag::l) | _,_,_=>none
def CS (fn:Func):Option aE:=
 match fn.body,nM P fn.results.toList with
 | some c,some rs=>bif yy H.n fn.ntmps then some ⟨rs,(comp P H c 0 0).1⟩ else none
 | _,_=>none
end
end
section
open Go
structure bh where
 P:xa
 az:Lib
 af:Nat->Nat
 prog:aM
 hint:Nat->Hint
 w0:yi
def An (P:xa) (H:Hint) (v:VC) (c:wK):Prop:=∃l k,(comp P H c l k).1=v
def zT:Nat->LoopState
 | 0=> .ready
 | 1=> .busy
 | 2=> .done
 | _=> .exhausted
def rM:rZ->Option wK
 | .none=>none
 | .ret=>some .ret
 | .exit id=>some (.exit id)
section
variable (O:bh) (m:Mp) (S:Nat->Prop) (w:yi)
def bW (tm:Env) (tmps:Array yg):Prop:=∀i,ah O.af m S w (aj tm i) (tmps.getD i undef)
def eM (id:Nat):Obj->Prop
 | .cells rw pu ex sz cs=>∃p arr t,m id=some p/\w.heap[p.b]? =some (.cells arr t (0,0))/\p.z=sz/\cs.length<=p.e/\p.o+p.e<=arr.size/\
   (ex=true->cs.length=p.e)/\bN O.af m S w cs p.b p.o/\(pu=true->aH cs=true)/\(rw=true->¬S p.b)/\(rw=false->S p.b)
 | .mp rw ks vs=>∃p es clock,m id=some p/\w.heap[p.b]? =some (.map es clock)/\av O.af m S w ks (es.toList.map (·.key))/\av O.af m S w vs (es.toList.map (·.val))/\
   (rw=true->¬S p.b)/\(rw=false->S p.b)
 | .si s pos=>∃p t,m id=some p/\w.heap[p.b]? =some (.stringIter t pos)/\t.data.toList.map xf=s/\¬S p.b
 | .lp tm ps cy body st pe=>∃p l h,m id=some p/\w.heap[p.b]? =some (.loop l)/\¬S p.b/\l.state=zT st/\st<=2/\l.pending=rM pe/\bW O m S w tm l.tmps/\
   l.params.toList=ps/\An O.P (O.hint h) cy l.assign/\An O.P (O.hint h) body l.body/\(O.hint h).n<=l.tmps.size/\rR (O.hint h).n ps=true
structure aO (hp:Hp) (ct:Nat):Prop where
 obj:∀id o p,aA hp id=some o->m id=some p->eM O m S w id o
 lt:∀id p,m id=some p->id<ct
 inj:∀i j oi oj pi pj,aA hp i=some oi->aA hp j=some oj->m i=some pi->m j=some pj->pi.b=pj.b->i=j
 slt:∀b,S b->b<w.heap.size
 blt:∀id p,m id=some p->p.b<w.heap.size
 low:∀id p,m id=some p->O.w0.heap.size<=p.b
 ju:∀b,b<O.w0.heap.size->w.heap[b]? =O.w0.heap[b]?
 fB:O.w0.heap.size<=w.heap.size
 aF:∀id o,aA hp id=some o->id<ct
end
def dN (m:Mp) (hp:Hp) (b:Nat):Prop:=∃id o p,aA hp id=some o/\m id=some p/\p.b=b
structure b6 (m:Mp) (S:Nat->Prop) (w:yi) (hp:Hp) (m':Mp) (S':Nat->Prop) (w':yi) (ap:Hp) (base:Nat):Prop where
 os:w'.os=w.os
 tape:w'.tape=w.tape
 output:w'.output=w.output
 size:w.heap.size<=w'.heap.size
 same:∀b,b<w.heap.size->¬dN m hp b->w'.heap[b]? =w.heap[b]?
 sub:∀b,S b->S' b
 still:∀b,S b->w'.heap[b]? =w.heap[b]?
 new:∀b,S' b->S b\/dN m hp b\/w.heap.size<=b
 own:∀b,dN m' ap b->dN m hp b\/w.heap.size<=b
 old:∀id p,id<base->m id=some p->m' id=some p
 loops:∀(b:Nat) (r:uo),w.heap[b]? =some (.loop r)->∃r':uo,w'.heap[b]? =some (.loop r')
def b6.refl {m:Mp} {S:Nat->Prop} {w:yi} {hp:Hp} {base:Nat}:b6 m S w hp m S w hp base:=
 ⟨rfl,rfl,rfl,yA _,fun _ _ _=>rfl,fun _ h=>h,fun _ _=>rfl,fun _ h=> .inl h,fun _ h=> .inl h,fun _ _ _ h=>h,fun _ r h=>⟨r,h⟩⟩
def b6.trans {m m' Ip:Mp} {S S' Ao:Nat->Prop} {w w' Nc:yi} {hp ap Hh:Hp} {base:Nat}
  (h:b6 m S w hp m' S' w' ap base) (k:b6 m' S' w' ap Ip Ao Nc Hh base):b6 m S w hp Ip Ao Nc Hh base where
 os:=k.os.trans h.os
 tape:=k.tape.trans h.tape
 output:=k.output.trans h.output
 size:=xe h.size k.size
 same b hb ho:=(k.same b (yE hb h.size) (fun jb=>(h.own b jb).elim ho (fun h1=>by omega))).trans (h.same b hb ho)
 sub b hb:=k.sub b (h.sub b hb)
 still b hb:=(k.still b (h.sub b hb)).trans (h.still b hb)
 new b hb:=by
  rcases k.new b hb with h1 | h1 | h1
  ·exact h.new b h1
  ·rcases h.own b h1 with h2 | h2
   ·exact .inr (.inl h2)
   ·exact .inr (.inr h2)
  ·exact .inr (.inr (xe h.size h1))
 own b hb:=by
  rcases k.own b hb with h1 | h1
  ·exact h.own b h1
  ·exact .inr (xe h.size h1)
 old id p hid hp:=k.old id p hid (h.old id p hid hp)
 loops b r hb:=let ⟨r',h1⟩:=h.loops b r hb;k.loops b r' h1
end
section
open Go
section
variable {af:Nat->Nat} {m:Mp} {S:Nat->Prop} {w:yi}
mutual
def Kb:∀v:yg,ah af m S w (eh v) v
 | .int _ _ | .bool _ | .float _ _=>by simp only [eh,ah]
 | .string s=>by simp only [eh,ah];exact ⟨s,rfl,rfl⟩
 | .pointer none=>by simp only [eh,ah]
 | .pointer (some _)=>by simp only [eh,ah]
 | .slice none 0 0=>by simp only [eh,ah]
 | .slice none 0 (_+1)=>by simp only [eh,ah]
 | .slice none (_+1) _=>by simp only [eh,ah]
 | .slice (some _) _ _=>by simp only [eh,ah]
 | .map none=>by simp only [eh,ah]
 | .map (some _)=>by simp only [eh,ah]
 | .nilFunc=>by simp only [eh,ah]
 | .agg ⟨cs⟩=>by simp only [eh,ah];exact ⟨⟨cs⟩,rfl,OU cs⟩
 | .tuple ⟨cs⟩=>by simp only [eh,ah];exact ⟨⟨cs⟩,rfl,OU cs⟩
 | .complex _ _ _ | .chan _ | .func _ _ _ | .iface _ _ | .nilIface=>by simp only [eh,ah]
def OU:∀l:List yg,av af m S w (CR l) l
 | []=>by simp only [CR,av]
 | v::r=>by simp only [CR,av];exact ⟨v,r,rfl,Kb v,OU r⟩
end
end
def eT (O:bh) (H:Hint):Prop:=∀f g,H.bX f=some g->O.af g=f
section
variable {O:bh} {H:Hint} {m:Mp} {S:Nat->Prop} {w:yi} {tm:Env} {a:Act}
def cf (hH:eT O H) (ht:bW O m S w tm a.tmps) (x:xq):ah O.af m S w (ay tm (aK H x)) (a.eval x):=by
 cases x with
 | tmp t=>exact ht t
 | const v=>simp only [aK,ay,Act.eval];exact Kb v
 | global g=>simp only [aK,ay,ah]
 | func f=>
  simp only [aK,Act.eval]
  cases hr:H.bX f with
  | none=>simp only [ay,ah]
  | some g=>simp only [ay,ah,hH f g hr,av];exact ⟨#[],#[],rfl,rfl,rfl⟩
def Bf (hH:eT O H) (ht:bW O m S w tm a.tmps):∀l:List xq,av O.af m S w (da tm (gk H l)) (l.map a.eval)
 | []=>by simp only [gk,da,List.map_nil,av]
 | x::r=>by simp only [gk,da,xm,av];exact ⟨_,_,rfl,cf hH ht x,Bf hH ht r⟩
end
section
variable {O:bh} {m:Mp} {S:Nat->Prop} {w:yi}
def oT {af:Nat->Nat}:∀(k:Nat) (cs:List AV) (b o:Nat),bN af m S w cs b o->bN af m S w (cs.drop k) b (o+k)
 | 0,cs,b,o,h=>by simpa using h
 | k+1,[],b,o,_=>by simp only [List.drop_nil,bN]
 | k+1,c::cs,b,o,h=>by
  simp only [bN] at h
  have:=oT k cs b (o+1) h.2
  rw [List.drop_succ_cons,show o+(k+1)=o+1+k by omega];exact this
def sZ {af:Nat->Nat}:∀(k:Nat) (cs:List AV) (b o:Nat),bN af m S w cs b o->bN af m S w (cs.take k) b o
 | 0,cs,b,o,_=>by simp only [ybk,bN]
 | k+1,[],b,o,_=>by simp only [List.take_nil,bN]
 | k+1,c::cs,b,o,h=>by
  simp only [bN,xY] at h ⊢;exact ⟨h.1,sZ k cs b (o+1) h.2⟩
def pQ {af:Nat->Nat}:∀(cs:List AV) (b o:Nat),bN af m S w cs b o->
  ∃us:List yg,av af m S w cs us/\us.length=cs.length/\∀j u,us[j]? =some u->w.cell? ⟨b,o+j,none⟩=some u
 | [],b,o,_=>⟨[],by simp only [av],rfl,fun j u h=>by simp at h⟩
 | c::cs,b,o,h=>by
  simp only [bN] at h;obtain ⟨⟨u,h1,h2⟩,h3⟩:=h;obtain ⟨us,h4,h5,h6⟩:=pQ cs b (o+1) h3;refine ⟨u::us,by simp only [av];exact ⟨u,us,rfl,h2,h4⟩,by simp [h5],fun j v hv=>?_⟩
  cases j with
  | zero=>simp at hv;subst hv;simpa using h1
  | succ j=>simp at hv;have:=h6 j v hv;rw [show o+(j+1)=o+1+j by omega];exact this
def gh {af:Nat->Nat}:∀(cs:List AV) (us:List yg),av af m S w cs us->us.length=cs.length
 | [],us,h=>by simp only [av] at h;subst h;rfl
 | c::cs,us,h=>by
  simp only [av] at h;obtain ⟨u,r,rfl,_,h3⟩:=h;simp [gh cs r h3]
end
end
section
open Go
def mG (b o j:Nat):(⟨b,o,none⟩:vX).add j=⟨b,o+j,none⟩:=by
 unfold Addr.add;split<;>simp_all
section
variable {P:xa} {w:yi}
def alq (t:yx) (b o:Nat) (us:List yg) (ha:dE P t=some true) (hz:cu P t=some us.length)
  (h:∀j u,us[j]? =some u->w.cell? ⟨b,o+j,none⟩=some u):(loadVar t ⟨b,o,none⟩).run P w= .ok (.agg us.toArray) w:=by
 have hl:=run_loadCells_list (P:=P) w ⟨b,o,none⟩ us (fun j u hu=>by rw [mG];exact h j u hu)
 unfold cu at hz
 cases hi:P.info? t with
 | none=>simp [hi] at hz
 | some i=>
  simp only [hi,yb] at hz;unfold dE at ha
  cases hu:P.underlying t with
  | none=>simp [hu] at ha
  | some d=>cases d<;>simp_all [loadVar,isAgg,vc,typeInfo,underlying]
def alr (t:yx) (b o:Nat) (u:yg) (ha:dE P t=some false)
  (h:w.cell? ⟨b,o,none⟩=some u):(loadVar t ⟨b,o,none⟩).run P w= .ok u w:=by
 unfold dE at ha
 cases hu:P.underlying t with
 | none=>simp [hu] at ha
 | some d=>cases d<;>simp_all [loadVar,isAgg,underlying]
end
section
variable {O:bh} {m:Mp} {S:Nat->Prop} {w:yi}
def Kc {t:yx} {sz:Nat} {ag:Bool} {cs:List AV} {b o:Nat} {v:AV} (hz:cu O.P t=some sz) (ha:dE O.P t=some ag)
  (hr:bN O.af m S w cs b o) (hv:iv sz ag cs=some v):∃u,(loadVar t ⟨b,o,none⟩).run O.P w= .ok u w/\ah O.af m S w v u:=by
 cases ag with
 | true=>
  simp only [iv,yz] at hv
  cases hle:yy sz cs.length with
  | false=>simp only [hle,yX] at hv;cases hv
  | true=>
   simp only [hle,yz,yb] at hv;subst hv;obtain ⟨us,h1,h2,h3⟩:=pQ _ _ _ (sZ sz cs b o hr);have hlen:us.length=sz:=by
    rw [h2,yW];have:=yo hle;omega
   refine ⟨.agg us.toArray,alq t b o us ha (by rw [hlen];exact hz) h3,?_⟩
   simp only [ah];exact ⟨us.toArray,rfl,by simpa using h1⟩
 | false=>
  simp only [iv,yX] at hv
  cases cs with
  | nil=>simp at hv
  | cons c cs=>
   simp only [yb] at hv;subst hv;simp only [bN] at hr;obtain ⟨⟨u,h1,h2⟩,_⟩:=hr;exact ⟨u,alr t b o u ha h1,h2⟩
def abb {t:yx} {sz o:Nat} {ag:Bool} {cs:List AV} {xs:Array yg} {v:AV} (hz:cu O.P t=some sz) (ha:dE O.P t=some ag)
  (hr:av O.af m S w cs xs.toList) (hv:iv sz ag (cs.drop o)=some v):∃u,(part t xs o).run O.P w= .ok u w/\ah O.af m S w v u:=by
 have hd:∀(k:Nat) (cs:List AV) (us:List yg),av O.af m S w cs us->av O.af m S w (cs.drop k) (us.drop k):=by
  intro k
  induction k with
  | zero=>intro cs us h;simpa using h
  | succ k ih=>
   intro cs us h
   cases cs with
   | nil=>simp only [av] at h;subst h;simp [av]
   | cons c cs=>simp only [av] at h;obtain ⟨u,r,rfl,_,h3⟩:=h;simpa using ih cs r h3
 have ep:∀(k:Nat) (cs:List AV) (us:List yg),av O.af m S w cs us->av O.af m S w (cs.take k) (us.take k):=by
  intro k
  induction k with
  | zero=>intro cs us h;simp [av]
  | succ k ih=>
   intro cs us h
   cases cs with
   | nil=>simp only [av] at h;subst h;simp [av]
   | cons c cs=>simp only [av] at h;obtain ⟨u,r,rfl,h2,h3⟩:=h;simp only [xY,av];exact ⟨u,_,rfl,h2,ih cs r h3⟩
 have ag3:(isAgg t).run O.P w= .ok ag w:=by
  unfold dE at ha
  cases hu:O.P.underlying t with
  | none=>simp [hu] at ha
  | some d=>cases d<;>simp_all [isAgg,underlying]
 have ez:(vc t).run O.P w= .ok sz w:=by
  unfold cu at hz
  cases hi:O.P.info? t with
  | none=>simp [hi] at hz
  | some i=>simp_all [vc,typeInfo]
 have bZ:=hd o cs xs.toList hr
 cases ag with
 | true=>
  simp only [iv,yz] at hv
  cases hle:yy sz (cs.drop o).length with
  | false=>simp only [hle,yX] at hv;cases hv
  | true=>
   simp only [hle,yz,yb] at hv;subst hv;refine ⟨.agg (xs.extract o (o+sz)),by simp [part,Sem.run_bind,ag3,ez],?_⟩;simp only [ah];refine ⟨_,rfl,?_⟩
   have:=ep sz _ _ bZ
   rw [show (xs.extract o (o+sz)).toList=(xs.toList.drop o).take sz by simp [Array.toList_extract,yaa]];exact this
 | false=>
  simp only [iv,yX] at hv
  cases hc:cs.drop o with
  | nil=>simp [hc] at hv
  | cons c r=>
   simp only [hc,yb] at hv;subst hv;rw [hc] at bZ;simp only [av] at bZ;obtain ⟨u,us,h1,h2,_⟩:=bZ;have hx:xs[o]? =some u:=by
    have:xs.toList[o]? =some u:=by
     have:=congrArg (fun l=>l[0]?) h1
     simpa using this
    simpa using this
   exact ⟨u,by simp [part,Sem.run_bind,ag3,hx],h2⟩
end
end
section
open Go
def kZ (t:ByteArray):List Nat:=t.data.toList.map xf
def abc:∀a b:List UInt8,cM (a.map xf) (b.map xf)=(a==b)
 | [],[]=>rfl
 | [],_::_=>rfl
 | _::_,[]=>rfl
 | a::x,b::y=>by
  have h:yp a.toNat b.toNat=(a==b):=by
   rw [uR,ycv,yaG];exact yaV
  simp only [xm,cM,abc x y,h,List.cons_beq_cons]
def abd:∀a b:List UInt8,Al (a.map xf) (b.map xf)=Op.bytesLess a b
 | [],[]=>rfl
 | [],_::_=>rfl
 | _::_,[]=>rfl
 | a::x,b::y=>by
  have h:yp a.toNat b.toNat=(a==b):=by
   rw [uR,ycv,yaG];exact yaV
  have h2:yI a.toNat b.toNat=decide (a<b):=by
   rw [uR];simp only [yI,ycw,th,UInt8.lt_iff_toNat_lt];omega
  simp only [xm,Al,Op.bytesLess,abd x y,h,h2]
def Zo (s t:ByteArray):cM (kZ s) (kZ t)=(s.toList==t.toList):=by
 rw [kZ,kZ,abc,ByteArray.toList_eq,ByteArray.toList_eq]
def amM (s t:ByteArray):Al (kZ s) (kZ t)=Op.bytesLess s.toList t.toList:=by
 rw [kZ,kZ,abd,ByteArray.toList_eq,ByteArray.toList_eq]
def Zp (s:ByteArray):(kZ s).length=s.size:=by
 rw [kZ,List.length_map,Lib.size_eq]
section
variable {af:Nat->Nat} {P:xa} {m:Mp} {S:Nat->Prop} {w:yi} {t:yx}
def aop {op:wO} {k:xc} {x y:Int} {v:AV} (h:kC op k x y=some v):
  ∃u,(xO op t (.int k x) (.int k y)).run P w= .ok u w/\ah af m S w v u:=by
 cases op<;>simp only [kC,intCmp,yb] at h
 case add=>subst h;exact ⟨_,by simp [xO,Op.intArith];rfl,by simp [ah]⟩
 case sub=>subst h;exact ⟨_,by simp [xO,Op.intArith];rfl,by simp [ah]⟩
 case mul=>subst h;exact ⟨_,by simp [xO,Op.intArith];rfl,by simp [ah]⟩
 case quo=>
  by_cases hy:y=0
  ·simp [hy] at h
  ·simp only [hy,xk,yb] at h;subst h;exact ⟨_,by simp [xO,Op.intDiv,hy];rfl,by simp [ah]⟩
 case rem=>
  by_cases hy:y=0
  ·simp [hy] at h
  ·simp only [hy,xk,yb] at h;subst h;exact ⟨_,by simp [xO,Op.intDiv,hy];rfl,by simp [ah]⟩
 case and=>subst h;exact ⟨_,by simp [xO,Op.intBits];rfl,by simp [ah]⟩
 case or=>subst h;exact ⟨_,by simp [xO,Op.intBits];rfl,by simp [ah]⟩
 case xor=>subst h;exact ⟨_,by simp [xO,Op.intBits];rfl,by simp [ah]⟩
 case andNot=>subst h;exact ⟨_,by simp [xO,Op.intBits];rfl,by simp [ah]⟩
 case shl=>cases h
 case shr=>cases h
 all_goals
  subst h;exact ⟨_,by simp [xO,Op.intCmp];rfl,by simp [ah]⟩
def YJ {op:wO} {k k':xc} {x y:Int} {v:AV} (h:A5 op k x y=some v):
  ∃u,(xO op t (.int k x) (.int k' y)).run P w= .ok u w/\ah af m S w v u:=by
 unfold A5 at h;by_cases hy:y<0
 ·simp [hy] at h
 ·simp only [hy,xk] at h;cases op<;>simp only [yb] at h
  case shl=>subst h;exact ⟨_,by simp [xO,Op.shift,hy];rfl,by simp [ah]⟩
  case shr=>subst h;exact ⟨_,by simp [xO,Op.shift,hy];rfl,by simp [ah]⟩
  all_goals cases h
def aoq {op:wO} {x y:ByteArray} {v:AV} (h:GS op (kZ x) (kZ y)=some v):
  ∃u,(xO op t (.string x) (.string y)).run P w= .ok u w/\ah af m S w v u:=by
 cases op<;>simp only [GS,Zo,amM,Zp,yb] at h
 case add=>
  cases hle:yy (x.size+y.size) 9223372036854775807 with
  | false=>rw [hle] at h;cases h
  | true=>
   rw [hle] at h;simp only [yz,yb] at h;subst h;have aF1:=yo hle;have r5:¬(((x.size+y.size:Nat):Int)>IntKind.i64.max):=by
    have:IntKind.i64.max=9223372036854775807:=by decide
    rw [this];omega
   refine ⟨.string (x++y),?_,?_⟩
   ·simp only [xO,Op.stringOp,yu r5,Sem.run_pure]
   ·simp only [ah];exact ⟨x++y,rfl,by simp [kZ]⟩
 all_goals first
  | (cases h;done)
  | (subst h;exact ⟨_,by simp [xO,Op.stringOp];rfl,by simp [ah]⟩)
def aor {op:wO} {k:vS} {x y:Nat} {v:AV} (h:P9 op k x y=some v):
  ∃u,(xO op t (.float k x) (.float k y)).run P w= .ok u w/\ah af m S w v u:=by
 cases op<;>simp only [P9,yb] at h
 case add=>
  cases hr:k.format.add x y with
  | none=>simp [hr] at h
  | some r=>simp only [hr,yb] at h;subst h;exact ⟨.float k r,by simp [xO,Op.floatArith,hr],by simp [ah]⟩
 case sub=>
  cases hr:k.format.sub x y with
  | none=>simp [hr] at h
  | some r=>simp only [hr,yb] at h;subst h;exact ⟨.float k r,by simp [xO,Op.floatArith,hr],by simp [ah]⟩
 case mul=>
  cases hr:k.format.mul x y with
  | none=>simp [hr] at h
  | some r=>simp only [hr,yb] at h;subst h;exact ⟨.float k r,by simp [xO,Op.floatArith,hr],by simp [ah]⟩
 case quo=>
  cases hr:k.format.div x y with
  | none=>simp [hr] at h
  | some r=>simp only [hr,yb] at h;subst h;exact ⟨.float k r,by simp [xO,Op.floatArith,hr],by simp [ah]⟩
 all_goals first
  | (cases h;done)
  | (subst h;exact ⟨_,by simp [xO,Op.floatCmp];rfl,by simp [ah]⟩)
def aos {op:wO} {vx vy v:AV} {x y:yg} (hx:ah af m S w vx x) (hy:ah af m S w vy y) (h:VE.binOp op vx vy=some v):
  ∃u,(xO op t x y).run P w= .ok u w/\ah af m S w v u:=by
 unfold VE.binOp at h
 split at h
 ·rename_i k a k' b;simp only [ah] at hx hy;subst hx;subst hy
  split at h
  ·exact YJ h
  ·exact YJ h
  ·by_cases hk:k=k'
   ·subst hk;simp only [xR] at h;exact aop h
   ·simp [hk] at h
 ·rename_i k a k' b;simp only [ah] at hx hy;subst hx;subst hy;by_cases hk:k=k'
  ·subst hk;simp only [xR] at h;exact aor h
  ·simp [hk] at h
 ·rename_i a b;simp only [ah] at hx hy;obtain ⟨s,rfl,rfl⟩:=hx;obtain ⟨s',rfl,rfl⟩:=hy;exact aoq h
 ·cases h
end
end
section
open Go
section
variable {af:Nat->Nat} {P:xa} {m:Mp} {S:Nat->Prop} {w:yi} {t:yx}
def alY {op:wO} {x y:xq} {a b:yg} (h:P.eqGuardType P.depth t=false\/∀xs ys,¬(a= .agg xs/\b= .agg ys)) (hn:a≠.nilIface):
  (eqGuard op t x y a b).run P w= .ok () w:=by
 unfold eqGuard;cases op
 all_goals first
  | rfl
  | (
    cases a
    all_goals first
     | rfl
     | exact absurd rfl hn
     | (
      cases b
      all_goals first
       | rfl
       | (
         rcases h with h | h
         ·simp [h]
         ·exact absurd ⟨rfl,rfl⟩ (h _ _))))
def asX {d:Nat} {p q:Bool} (ht:P.underlying t=some .bool):(Op.equalIn (d+1) t (.bool p) (.bool q)).run P w= .ok (p==q) w:=by
 simp [Op.equalIn,underlying,ht]
def Qb {d:Nat} {e:yx} (ht:P.underlying t=some (.slice e)) (y:Option vX) (n c n' c':Nat):
  (Op.equalIn (d+1) t (.slice none n c) (.slice y n' c')).run P w= .ok y.isNone w:=by simp [Op.equalIn,underlying,ht]
def afK {d:Nat} {e:yx} (ht:P.underlying t=some (.slice e)) (x:vX) (n c n' c':Nat):
  (Op.equalIn (d+1) t (.slice (some x) n c) (.slice none n' c')).run P w= .ok false w:=by simp [Op.equalIn,underlying,ht]
def axf {d:Nat} {ps rs:Array yx} {vr:Bool} (ht:P.underlying t=some (.func ps rs vr)):
  (Op.equalIn (d+1) t .nilFunc .nilFunc).run P w= .ok true w:=by simp [Op.equalIn,underlying,ht]
def afL {d:Nat} {ps rs:Array yx} {vr:Bool} (ht:P.underlying t=some (.func ps rs vr)) (f:Go.Fn) (a b:Array yg):
  (Op.equalIn (d+1) t .nilFunc (.func f a b)).run P w= .ok false w:=by simp [Op.equalIn,underlying,ht]
def afM {d:Nat} {ps rs:Array yx} {vr:Bool} (ht:P.underlying t=some (.func ps rs vr)) (f:Go.Fn) (a b:Array yg):
  (Op.equalIn (d+1) t (.func f a b) .nilFunc).run P w= .ok false w:=by simp [Op.equalIn,underlying,ht]
def JS (x y:yg):Op.equal t x y=Op.equalIn (9999+1) t x y:=rfl
def aqH {vx vy:AV} {x y:yg} {r:Bool} {e:yx} (ht:P.underlying t=some (.slice e)) (hx:ah af m S w vx x) (hy:ah af m S w vy y)
  (h:iZ .sl vx vy=some r):(Op.equal t x y).run P w= .ok r w:=by
 rw [JS];unfold iZ at h
 split at h<;>simp_all only [yb,reduceCtorEq]
 all_goals subst h
 all_goals simp only [ah] at hx hy
 ·subst hx;subst hy;exact Qb ht _ _ _ _ _
 ·rcases hy with ⟨b,o,c,rfl,_⟩ | ⟨_,rfl,_⟩<;>(subst hx;exact Qb ht _ _ _ _ _)
 ·obtain ⟨p,c,_,rfl,_⟩:=hy;subst hx;exact Qb ht _ _ _ _ _
 ·rcases hx with ⟨b,o,c,rfl,_⟩ | ⟨_,rfl,_⟩<;>(subst hy;exact afK ht _ _ _ _ _)
 ·obtain ⟨p,c,_,rfl,_⟩:=hx;subst hy;exact afK ht _ _ _ _ _
def aqI {vx vy:AV} {x y:yg} {r:Bool} {ps rs:Array yx} {vr:Bool} (ht:P.underlying t=some (.func ps rs vr)) (hx:ah af m S w vx x) (hy:ah af m S w vy y)
  (h:iZ .fn vx vy=some r):(Op.equal t x y).run P w= .ok r w:=by
 rw [JS];unfold iZ at h
 split at h<;>simp_all only [yb,reduceCtorEq]
 all_goals subst h
 ·simp only [ah] at hx hy;subst hx;subst hy;exact axf ht
 ·rename_i f _ _
  cases f with
  | f g=>simp only [ah] at hx hy;obtain ⟨fi,ca,rfl,_⟩:=hy;subst hx;exact afL ht _ _ _
  | y l=>simp only [ah] at hx hy;obtain ⟨p,_,rfl⟩:=hy;subst hx;exact afL ht _ _ _
 ·rename_i f _ _
  cases f with
  | f g=>simp only [ah] at hx hy;obtain ⟨fi,ca,rfl,_⟩:=hx;subst hy;exact afM ht _ _ _
  | y l=>simp only [ah] at hx hy;obtain ⟨p,_,rfl⟩:=hx;subst hy;exact afM ht _ _ _
def aqJ {op:ycg} {vx v:AV} {x:yg} (hx:ah af m S w vx x) (h:VE.unOp op vx=some v):∃u,(Op.unary op x).run P w= .ok u w/\ah af m S w v u:=by
 unfold VE.unOp at h
 split at h
 ·rename_i k n;simp only [ah] at hx;subst hx;simp only [yb] at h;subst h;exact ⟨_,by simp [Op.unary,Op.intArith];rfl,by simp [ah]⟩
 ·rename_i k n;simp only [ah] at hx;subst hx;simp only [kC,yb] at h;subst h;exact ⟨_,by simp [Op.unary,Op.intBits];rfl,by simp [ah]⟩
 ·rename_i b;simp only [ah] at hx;subst hx;simp only [yb] at h;subst h;exact ⟨_,by simp [Op.unary];rfl,by simp [ah]⟩
 ·rename_i k b;simp only [ah] at hx;subst hx;simp only [yb] at h;subst h;exact ⟨_,by simp [Op.unary,Op.negFloat];rfl,by simp [ah]⟩
 ·cases h
def aae {s d:yx} {k:xc} {vx v:AV} {x:yg} (hd:P.underlying d=some (.int k)) (hs:(∃k',P.underlying s=some (.int k'))\/∃k',P.underlying s=some (.float k'))
  (hx:ah af m S w vx x) (h:gj (.toInt k) vx=some v):∃u,(convert s d x).run P w= .ok u w/\ah af m S w v u:=by
 cases vx<;>simp only [gj,reduceCtorEq] at h
 case int k0 n=>
  simp only [ah] at hx;subst hx;simp only [yb] at h;subst h;refine ⟨.int k (k.wrap n),?_,by simp [ah]⟩;rcases hs with ⟨k',h'⟩ | ⟨k',h'⟩<;>simp [convert,underlying,Conv.intToInt,hd,h']
 case aw sk b=>
  simp only [ah] at hx;subst hx
  cases hi:(sk.decode b).toInt .zero with
  | none=>simp [hi] at h
  | some n=>
   simp only [hi] at h;by_cases hr:k.min<=n/\n<=k.max
   ·simp only [hr,and_self,xR,yb] at h;subst h;refine ⟨.int k n,?_,by simp [ah]⟩;rcases hs with ⟨k',h'⟩ | ⟨k',h'⟩<;>simp [convert,underlying,Conv.floatToInt,hd,h',hi,hr]
   ·simp [hr] at h
def aaf {s d:yx} {k:vS} {vx v:AV} {x:yg} (hd:P.underlying d=some (.float k)) (hs:(∃k',P.underlying s=some (.int k'))\/∃k',P.underlying s=some (.float k'))
  (hx:ah af m S w vx x) (h:gj (.toFlt k) vx=some v):∃u,(convert s d x).run P w= .ok u w/\ah af m S w v u:=by
 cases vx<;>simp only [gj,reduceCtorEq] at h
 case int k0 n=>
  simp only [ah] at hx;subst hx;simp only [yb] at h;subst h;refine ⟨.float k (k.nearest n),?_,by simp [ah]⟩;rcases hs with ⟨k',h'⟩ | ⟨k',h'⟩<;>simp [convert,underlying,Conv.intToFloat,hd,h']
 case aw sk b=>
  simp only [ah] at hx;subst hx;by_cases he:sk=k
  ·subst he;simp only [xR,yb] at h;subst h;refine ⟨.float sk b,?_,by simp [ah]⟩;rcases hs with ⟨k',h'⟩ | ⟨k',h'⟩<;>simp [convert,underlying,Conv.floatToFloat,hd,h']
  ·simp only [he,xk] at h
   cases Li:sk.decode b with
   | nan _ _=>simp [Li] at h
   | infinity _=>simp [Li] at h
   | number sg mm ee=>
    simp only [Li] at h
    cases QI:(k.decode (k.encode (.number sg mm ee))).isInfinity with
    | true=>simp [QI] at h
    | false=>
     simp only [QI,yB,xk,yb] at h;subst h;refine ⟨.float k (k.encode (.number sg mm ee)),?_,by simp [ah]⟩;rcases hs with ⟨k',h'⟩ | ⟨k',h'⟩<;>simp [convert,underlying,Conv.floatToFloat,hd,h',he,Li,QI]
def aot {s d:yx} {vx v:AV} {x:yg} (hd:P.underlying d=some .string) (hs:P.underlying s=some .string)
  (hx:ah af m S w vx x) (h:gj .str vx=some v):∃u,(convert s d x).run P w= .ok u w/\ah af m S w v u:=by
 cases vx<;>simp only [gj,reduceCtorEq] at h
 simp only [yb] at h;subst h;simp only [ah] at hx;obtain ⟨b,rfl,hb⟩:=hx;exact ⟨.string b,by simp [convert,underlying,hs,hd],by simp only [ah];exact ⟨b,rfl,hb⟩⟩
end
end
section
open Go
def amN {v:AV} {k:Nat} (h:dD v=some k):∃kd,v= .int kd (k:Int):=by
 cases v<;>simp only [dD,reduceCtorEq] at h
 rename_i kd n
 cases n with
 | ofNat j=>simp only [yb] at h;subst h;exact ⟨kd,rfl⟩
 | negSucc j=>cases h
section
variable {O:bh} {H:Hint} {m:Mp} {S:Nat->Prop} {w:yi} {tm:Env} {a:Act}
def rJ {af:Nat->Nat} {v:AV} {x:yg} {k:Nat} (hx:ah af m S w v x) (h:dD v=some k):∃kd,x= .int kd (k:Int):=by
 obtain ⟨kd,rfl⟩:=amN h;simp only [ah] at hx
 grind
def run_sliceBound {P:xa} {kd:xc} {k y:Nat} {code:BoundsCode} (h:k<=y):(Instr.sliceBound (.int kd (k:Int)) y code).run P w= .ok k w:=by
 have:(0:Int)<=(k:Int)/\(k:Int)<=(y:Int):=by omega
 simp [Instr.sliceBound,asIntOf,this]
def Zq {P:xa} {isSlice:Bool} {len cap l h:Nat} {lo hi:Option xq} (hH:eT O H) (ht:bW O m S w tm a.tmps)
  (hl:cP tm 0 (lo.map (aK H))=some l) (hh:cP tm len (hi.map (aK H))=some h) (h1:l<=h) (h2:h<=cap):
  (Instr.sliceBounds isSlice len cap (lo.map a.eval) (hi.map a.eval) none).run P w= .ok (l,h,cap) w:=by
 cases lo with
 | none=>
  simp only [vM,cP,yb] at hl;subst hl
  cases hi with
  | none=>
   simp only [vM,cP,yb] at hh;subst hh;simp [Instr.sliceBounds]
  | some y=>
   obtain ⟨kd,e⟩:=rJ (cf hH ht y) hh;simp only [Instr.sliceBounds,vM,wC,e,Sem.run_bind,Sem.run_pure,Result.andThen_ok,run_sliceBound h2]
 | some x=>
  obtain ⟨kd,e⟩:=rJ (cf hH ht x) hl
  cases hi with
  | none=>
   simp only [vM,cP,yb] at hh;subst hh;simp only [Instr.sliceBounds,vM,wC,e,Sem.run_bind,Sem.run_pure,Result.andThen_ok,run_sliceBound h1]
  | some y=>
   obtain ⟨WI,e'⟩:=rJ (cf hH ht y) hh;simp only [Instr.sliceBounds,wC,e,e',Sem.run_bind,Sem.run_pure,Result.andThen_ok,run_sliceBound h2,run_sliceBound h1]
def amO {t:yx} {lo hi:Option xq} {vx v:AV} {x:yg} (hH:eT O H) (ht:bW O m S w tm a.tmps) (hu:O.P.underlying t=some .string)
  (hx:ah O.af m S w vx x) {hp:Hp} (h:fb hp .str vx tm (lo.map (aK H)) (hi.map (aK H))=some v):
  ∃u,(Instr.sliceAt t x (lo.map a.eval) (hi.map a.eval) none).run O.P w= .ok u w/\ah O.af m S w v u:=by
 cases vx<;>simp only [fb,reduceCtorEq] at h
 obtain ⟨b,rfl,rfl⟩:=hx
 cases hl:cP tm 0 (lo.map (aK H)) with
 | none=>simp [hl] at h
 | some l=>
  simp only [hl] at h
  cases hh:cP tm (b.data.toList.map xf).length (hi.map (aK H)) with
  | none=>rw [hh] at h;cases h
  | some g=>
   rw [hh] at h;simp only at h
   cases hc:(yy l g&&yy g (b.data.toList.map xf).length) with
   | false=>rw [hc] at h;cases h
   | true=>
    rw [hc] at h;simp only [yz,yb] at h;subst h;simp only [yf] at hc;have h1:=yo hc.1;have h2:=yo hc.2;have hlen:(b.data.toList.map xf).length=b.size:=Zp b;rw [hlen] at hh h2;refine ⟨.string (b.extract l g),?_,?_⟩
    ·simp only [Instr.sliceAt,Sem.run_bind,run_underlying hu,Result.andThen_ok,Instr.slice,tx,yB,xk,Sem.run_pure,
      Zq (P:=O.P) (isSlice:=false) (len:=b.size) (cap:=b.size) hH ht hl hh h1 h2]
    ·simp only [ah];refine ⟨_,rfl,?_⟩;rw [Lib.extract_data,List.map_take,List.map_drop,List.drop_take]
def aou {t e:yx} {sz:Nat} {lo hi:Option xq} {vx v:AV} {x:yg} (hH:eT O H) (ht:bW O m S w tm a.tmps) (hu:O.P.underlying t=some (.slice e)) (hz:cu O.P e=some sz)
  {hp:Hp} {ct:Nat} (hh:aO O m S w hp ct)
  (hx:ah O.af m S w vx x) (h:fb hp (.sl sz) vx tm (lo.map (aK H)) (hi.map (aK H))=some v):
  ∃u,(Instr.sliceAt t x (lo.map a.eval) (hi.map a.eval) none).run O.P w= .ok u w/\ah O.af m S w v u:=by
 have ez:(vc e).run O.P w= .ok sz w:=by
  unfold cu at hz
  cases hi:O.P.info? e with
  | none=>simp [hi] at hz
  | some i=>simp_all [vc,typeInfo]
 have Gg:∀(ad:Option vX) (n c l g:Nat),cP tm 0 (lo.map (aK H))=some l->cP tm n (hi.map (aK H))=some g->l<=g->g<=c->
   (Instr.sliceAt t (.slice ad n c) (lo.map a.eval) (hi.map a.eval) none).run O.P w= .ok (.slice (if c=l then ad else ad.map (·.add (l*sz))) (g-l) (c-l)) w:=by
  intro ad n c l g hl hg h1 h2
  simp only [Instr.sliceAt,Sem.run_bind,run_underlying hu,Result.andThen_ok,Instr.slice,Sem.run_pure,ez,
   Zq (P:=O.P) (isSlice:=true) (len:=n) (cap:=c) hH ht hl hg h1 h2]
 cases vx<;>simp only [fb,reduceCtorEq] at h
 case ae=>
  simp only [ah] at hx;subst hx
  cases hl:cP tm 0 (lo.map (aK H)) with
  | none=>simp [hl] at h
  | some l=>
   cases l with
   | succ l=>simp [hl] at h
   | zero=>
    simp only [hl] at h
    cases hh:cP tm 0 (hi.map (aK H)) with
    | none=>simp [hh] at h
    | some g=>
     cases g with
     | succ g=>simp [hh] at h
     | zero=>
      simp only [hh,yb] at h;subst h;exact ⟨_,Gg none 0 0 0 0 hl hh (yA _) (yA _),by simp [ah]⟩
 case aB ex n cs=>
  simp only [ah] at hx;rcases hx with ⟨b,o,c,rfl,Iq,hex,hS,gU,B4⟩ | ⟨ad,rfl,rfl,rfl⟩
  case inr=>
   cases hl:cP tm 0 (lo.map (aK H)) with
   | none=>simp [hl] at h
   | some l=>
    simp only [hl] at h
    cases hh:cP tm 0 (hi.map (aK H)) with
    | none=>simp [hh] at h
    | some g=>
     simp only [hh] at h
     cases hc:(yy l g&&yy g 0) with
     | false=>rw [hc] at h;cases h
     | true=>
      rw [hc] at h;simp only [yz,yb] at h;subst h;simp only [yf] at hc;have h1:=yo hc.1;have h2:=yo hc.2;have hg:g=0:=by omega
      subst hg;have jx:l=0:=by omega
      subst jx;refine ⟨_,Gg (some ad) 0 0 0 0 hl hh h1 h2,?_⟩;simp only [ah];exact .inr ⟨ad,by simp,by simp,by simp [slice]⟩
  cases hl:cP tm 0 (lo.map (aK H)) with
  | none=>simp [hl] at h
  | some l=>
   simp only [hl] at h
   cases hh:cP tm n (hi.map (aK H)) with
   | none=>simp [hh] at h
   | some g=>
    simp only [hh] at h
    cases hc:(yy l g&&yy g n) with
    | false=>rw [hc] at h;cases h
    | true=>
     rw [hc] at h;simp only [yz,yb] at h;subst h;simp only [yf] at hc;have h1:=yo hc.1;have h2:=yo hc.2;refine ⟨_,Gg (some ⟨b,o,none⟩) n c l g hl hh h1 (by omega),?_⟩;have By:aH (slice (l*sz) ((g-l)*sz) cs)=true:=by
      have pd:∀(k:Nat) (cs:List AV),aH cs=true->aH (cs.drop k)=true:=by
       intro k
       induction k with
       | zero=>intro cs h;simpa using h
       | succ k ih=>intro cs h;cases cs with
        | nil=>simpa using h
        | cons c cs=>simp only [aH,yf] at h;simpa using ih cs h.2
      have pt:∀(k:Nat) (cs:List AV),aH cs=true->aH (cs.take k)=true:=by
       intro k
       induction k with
       | zero=>intro cs h;simp [aH]
       | succ k ih=>intro cs h;cases cs with
        | nil=>simp [aH]
        | cons c cs=>simp only [aH,yf,xY] at h ⊢;exact ⟨h.1,ih cs h.2⟩
      exact pt _ _ (pd _ _ gU)
     have ag4:(ex&&yp g n)=true->c-l=g-l:=by
      intro hq;simp only [yf] at hq
      have:=hex hq.1
      have:=yj hq.2
      omega
     simp only [ah];by_cases gV:c=l
     ·have h0:g-l=0:=by omega
      have sE:slice (l*sz) ((g-l)*sz) cs=[]:=by simp [slice,h0]
      rw [sE];exact .inl ⟨b,o,c-l,by simp [gV],by omega,ag4,.inl rfl,rfl,by simp [bN]⟩
     ·refine .inl ⟨b,o+l*sz,c-l,by simp [gV,mG],by omega,ag4,?_,By,?_⟩
      ·rcases hS with rfl | hS
       ·exact .inl (by simp [slice])
       ·exact .inr hS
      ·exact sZ _ _ _ _ (oT _ _ _ _ B4)
 case aD id o n=>
  simp only [ah] at hx;obtain ⟨p,c,hm,rfl,Iq,Nf⟩:=hx
  split at h
  case h_2=>cases h
  rename_i WJ pu0 qO z0 cs0 Bz;obtain ⟨p',arr,t',gW,_,gX,_⟩:=hh.obj id _ _ Bz hm;rw [hm] at gW;injection gW with gW
  subst gW
  cases hl:cP tm 0 (lo.map (aK H)) with
  | none=>simp [hl] at h
  | some l=>
   simp only [hl] at h
   cases hh:cP tm n (hi.map (aK H)) with
   | none=>simp [hh] at h
   | some g=>
    simp only [hh] at h
    cases hc:(yy l g&&yy g n&&yp z0 sz) with
    | false=>rw [hc] at h;cases h
    | true=>
     rw [hc] at h;simp only [yz] at h;simp only [yf] at hc;have h1:=yo hc.1.1;have h2:=yo hc.1.2;have hpz:p.z=sz:=gX.trans (yj hc.2)
     cases he:(yp l g&& !yp l 0) with
     | true=>
      rw [he] at h;simp only [yz,yb] at h;subst h;simp only [yf] at he;have Ap:=yj he.1;refine ⟨_,Gg (some ⟨p.b,p.o+o,none⟩) n c l g hl hh h1 (by omega),?_⟩;simp only [ah];by_cases gV:c=l
      ·exact .inl ⟨p.b,p.o+o,c-l,by simp [gV];omega,by omega,by simp,by simp,by simp [aH],by simp [bN]⟩
      ·exact .inl ⟨p.b,p.o+o+l*sz,c-l,by simp [gV,mG];omega,by omega,by simp,by simp,by simp [aH],by simp [bN]⟩
     | false=>
      rw [he] at h;simp only [yX,yb] at h;subst h;have gV:c=l->l=0:=by
       intro gV;have Ap:l=g:=by omega
       cases jx:yp l 0 with
       | true=>exact yj jx
       | false=>rw [Ap,wy,<-Ap,jx] at he;cases he
      refine ⟨_,Gg (some ⟨p.b,p.o+o,none⟩) n c l g hl hh h1 (by omega),?_⟩;simp only [ah];refine ⟨p,c-l,hm,?_,by omega,?_⟩
      ·by_cases QJ:c=l
       ·have:=gV QJ;subst this;subst QJ;simp
       ·simp [QJ,mG,ug]
      ·rw [hpz] at Nf ⊢
       have:c*sz=l*sz+(c-l)*sz:=by rw [<-xU];congr 1;omega
       omega
end
end
section
open Go
def mw {P:xa} {w:yi} {t:yx} {sz:Nat} (hz:cu P t=some sz):(vc t).run P w= .ok sz w:=by
 unfold cu at hz
 cases hi:P.info? t with
 | none=>simp [hi] at hz
 | some i=>simp_all [vc,typeInfo]
section
variable {O:bh} {H:Hint} {m:Mp} {S:Nat->Prop} {w:yi} {tm:Env} {a:Act} {hp:Hp} {ct:Nat}
def OV {id o n:Nat} {rw pu ex:Bool} {sz:Nat} {cs:List AV} {p:Pl} (hh:aO O m S w hp ct) (hg:aA hp id=some (.cells rw pu ex sz cs)) (hm:m id=some p):
  bN O.af m S w cs p.b p.o:=by
 obtain ⟨p',arr,t',gW,_,_,_,_,_,hr,_⟩:=hh.obj id _ _ hg hm
 grind
def axg {t:yx} {sz:Nat} {ag:Bool} {vx v:AV} {x:yg} (hh:aO O m S w hp ct) (hz:cu O.P t=some sz) (ha:dE O.P t=some ag) (hx:ah O.af m S w vx x)
  (h:iR hp sz ag vx=some v):∃u,(Instr.loadAt t x).run O.P w= .ok u w/\ah O.af m S w v u:=by
 cases vx<;>simp only [iR,reduceCtorEq] at h
 case ptr id o=>
  obtain ⟨p,hm,rfl⟩:=hx
  split at h
  case h_2=>cases h
  rename_i WJ pu0 qO z0 cs0 Bz;have hr:=OV (id:=id) (o:=0) (n:=0) hh Bz hm;obtain ⟨u,h1,h2⟩:=Kc hz ha (oT o cs0 p.b p.o hr) h;exact ⟨u,by simp only [Instr.loadAt,Instr.sureAddr,Sem.run_bind,Sem.run_pure,Result.andThen_ok];exact h1,h2⟩
 case cg cs=>
  obtain ⟨b,o,rfl,_,_,hr⟩:=hx;obtain ⟨u,h1,h2⟩:=Kc hz ha hr h;exact ⟨u,by simp only [Instr.loadAt,Instr.sureAddr,Sem.run_bind,Sem.run_pure,Result.andThen_ok];exact h1,h2⟩
def rz:∀(k:Nat) (cs:List AV),aH cs=true->aH (cs.drop k)=true
 | 0,cs,h=>by simpa using h
 | k+1,[],h=>by simpa using h
 | k+1,c::cs,h=>by simp only [aH,yf] at h;simpa using rz k cs h.2
def OB {cs:List AV} {b o k:Nat} (h2:cs=[]\/S b) (h3:aH cs=true) (h4:bN O.af m S w cs b o):ah O.af m S w (.cg (cs.drop k)) (.pointer (some ⟨b,o+k,none⟩)):=by
 refine ⟨b,o+k,rfl,?_,rz k cs h3,oT k cs b o h4⟩
 grind
def asY {t:yx} {fs:Array tp} {i:Nat} {f:tp} {sz:Nat} {vx v:AV} {x:yg} (hu:O.P.underlying t=some (.struct fs)) (hf:fs[i]? =some f) (hz:cu O.P f.type=some (sz+1))
  (hx:ah O.af m S w vx x)
  (h:GU f.offset vx=some v):∃u,(Instr.fieldAt t x i).run O.P w= .ok u w/\ah O.af m S w v u:=by
 have afN:∀(b o:Nat),(Instr.fieldAt t (.pointer (some ⟨b,o,none⟩)) i).run O.P w= .ok (.pointer (some ⟨b,o+f.offset,none⟩)) w:=by
  intro b o;simp only [Instr.fieldAt,Sem.run_bind,run_underlying hu,Result.andThen_ok,hf,Instr.sureAddr,Sem.run_pure,fieldPlace,mw hz,Nat.succ_ne_zero,xk,mG]
 cases vx<;>simp only [GU,reduceCtorEq] at h
 case ptr id o=>
  obtain ⟨p,hm,rfl⟩:=hx;simp only [yb] at h;subst h;exact ⟨_,afN _ _,by simp only [ah];exact ⟨p,hm,by rw [ug]⟩⟩
 case cg cs=>
  obtain ⟨b,o,rfl,h2,h3,h4⟩:=hx
  cases hc:yy f.offset cs.length with
  | false=>rw [hc] at h;cases h
  | true=>
   rw [hc] at h;simp only [yz,yb] at h;subst h;exact ⟨_,afN _ _,OB h2 h3 h4⟩
def asZ {t:yx} {fs:Array tp} {i:Nat} {f:tp} {sz:Nat} {ag:Bool} {vx v:AV} {x:yg} (hu:O.P.underlying t=some (.struct fs)) (hf:fs[i]? =some f)
  (hz:cu O.P f.type=some sz) (ha:dE O.P f.type=some ag) (hx:ah O.af m S w vx x)
  (h:KK f.offset sz ag vx=some v):∃u,(Instr.field t x i).run O.P w= .ok u w/\ah O.af m S w v u:=by
 cases vx<;>simp only [KK,reduceCtorEq] at h
 obtain ⟨xs,rfl,hr⟩:=hx;obtain ⟨u,h1,h2⟩:=abb hz ha hr h;exact ⟨u,by simp only [Instr.field,Sem.run_bind,run_underlying hu,Result.andThen_ok,hf,asAgg,Sem.run_pure];exact h1,h2⟩
def as0 {t e:yx} {sz k:Nat} {vx vi v:AV} {x i:yg} (hu:O.P.underlying t=some (.slice e)) (hz:cu O.P e=some sz) (hx:ah O.af m S w vx x) (hi:ah O.af m S w vi i)
  (hk:dD vi=some k)
  (h:lj sz k vx=some v):∃u,(Instr.indexAt t x i).run O.P w= .ok u w/\ah O.af m S w v u:=by
 obtain ⟨kd,rfl⟩:=rJ hi hk;have GZ:∀(b o n c:Nat),k<n->(Instr.indexAt t (.slice (some ⟨b,o,none⟩) n c) (.int kd (k:Int))).run O.P w= .ok (.pointer (some ⟨b,o+k*sz,none⟩)) w:=by
  intro b o n c qP;have hr:(0:Int)<=(k:Int)/\(k:Int)<(n:Int):=by omega
  simp [Instr.indexAt,asIntOf,run_underlying hu,mw hz,hr,mG]
  grind
 cases vx<;>simp only [lj,reduceCtorEq] at h
 case aD id o n=>
  obtain ⟨p,c,hm,rfl,Iq,Nf⟩:=hx
  cases hc:yI k n with
  | false=>rw [hc] at h;cases h
  | true=>
   rw [hc] at h;simp only [yz,yb] at h;subst h;have qP:k<n:=by simp_all
   exact ⟨_,GZ _ _ _ _ qP,by simp only [ah];exact ⟨p,hm,by rw [ug]⟩⟩
 case aB ex n cs=>
  rcases hx with ⟨b,o,c,rfl,Iq,hex,h2,h3,h4⟩ | ⟨a,rfl,rfl,rfl⟩
  case inr=>
   have:yI k 0=false:=by cases hq:yI k 0 with | false=>rfl | true=>simp only [yI,ycw] at hq;omega
   grind
  cases hc:yI k n with
  | false=>rw [hc] at h;cases h
  | true=>
   rw [hc] at h;simp only [yz,yb] at h;subst h;have qP:k<n:=by simp_all
   exact ⟨_,GZ _ _ _ _ qP,OB h2 h3 h4⟩
def as3 {t e:yx} {len sz k:Nat} {vx vi v:AV} {x i:yg} (hu:O.P.underlying t=some (.array len e)) (hz:cu O.P e=some sz) (hx:ah O.af m S w vx x) (hi:ah O.af m S w vi i)
  (hk:dD vi=some k)
  (h:KL len sz k vx=some v):∃u,(Instr.indexAt t x i).run O.P w= .ok u w/\ah O.af m S w v u:=by
 obtain ⟨kd,rfl⟩:=rJ hi hk;have GZ:∀(b o:Nat),k<len->(Instr.indexAt t (.pointer (some ⟨b,o,none⟩)) (.int kd (k:Int))).run O.P w= .ok (.pointer (some ⟨b,o+k*sz,none⟩)) w:=by
  intro b o qP;have hr:(0:Int)<=(k:Int)/\(k:Int)<(len:Int):=by omega
  simp [Instr.indexAt,asIntOf,run_underlying hu,mw hz,hr,mG,Instr.sureAddr]
  grind
 cases vx<;>simp only [KL,reduceCtorEq] at h
 case ptr id o=>
  obtain ⟨p,hm,rfl⟩:=hx
  cases hc:yI k len with
  | false=>rw [hc] at h;cases h
  | true=>
   rw [hc] at h;simp only [yz,yb] at h;subst h;have qP:k<len:=by simp_all
   exact ⟨_,GZ _ _ qP,by simp only [ah];exact ⟨p,hm,by rw [ug]⟩⟩
 case cg cs=>
  obtain ⟨b,o,rfl,h2,h3,h4⟩:=hx
  cases hc:yI k len with
  | false=>rw [hc] at h;cases h
  | true=>
   rw [hc] at h;simp only [yz,yb] at h;subst h;have qP:k<len:=by simp_all
   exact ⟨_,GZ _ _ qP,OB h2 h3 h4⟩
def as4 {t e:yx} {len sz k:Nat} {ag:Bool} {vx vi v:AV} {x i:yg} (hu:O.P.underlying t=some (.array len e)) (hz:cu O.P e=some sz) (ha:dE O.P e=some ag)
  (hx:ah O.af m S w vx x) (hi:ah O.af m S w vi i) (hk:dD vi=some k)
  (h:KM len sz ag k vx=some v):
  ∃u,(Instr.index t x i).run O.P w= .ok u w/\ah O.af m S w v u:=by
 obtain ⟨kd,rfl⟩:=rJ hi hk;cases vx<;>simp only [KM,reduceCtorEq] at h
 obtain ⟨xs,rfl,hr⟩:=hx
 cases hc:yI k len with
 | false=>rw [hc] at h;cases h
 | true=>
  rw [hc] at h;have qP:k<len:=by simp_all
  obtain ⟨u,h1,h2⟩:=abb hz ha hr h;have bZ:(0:Int)<=(k:Int)/\(k:Int)<(len:Int):=by omega
  exact ⟨u,by simp [Instr.index,asIntOf,run_underlying hu,mw hz,bZ,h1];intro hle;exact absurd hle (by omega),h2⟩
def as5 {t:yx} {k:Nat} {vx vi v:AV} {x i:yg} (hu:O.P.underlying t=some .string) (hx:ah O.af m S w vx x) (hi:ah O.af m S w vi i) (hk:dD vi=some k)
  (h:lY k vx=some v):
  ∃u,(Instr.index t x i).run O.P w= .ok u w/\ah O.af m S w v u:=by
 obtain ⟨kd,rfl⟩:=rJ hi hk;cases vx<;>simp only [lY,reduceCtorEq] at h
 obtain ⟨b,rfl,rfl⟩:=hx
 cases hs:(b.data.toList.map xf)[k]? with
 | none=>rw [hs] at h;cases h
 | some q=>
  rw [hs] at h;simp only [yb] at h;subst h;rw [yaM] at hs
  cases hb:b.data.toList[k]? with
  | none=>rw [hb] at hs;cases hs
  | some c=>
   rw [hb] at hs;simp only [wC,yb] at hs;subst hs;have bJ:b[k]? =some c:=by
    have aF:k<b.data.toList.length:=by
     grind
    have ez:k<b.size:=by simp_all
    rw [getElem?_pos b k ez];rw [wA aF] at hb;rw [<-hb];rfl
   refine ⟨.int .u8 c.toNat,?_,by simp [ah]⟩;simp [Instr.index,asIntOf,run_underlying hu,bJ]
end
end
section
open Go
section
variable {af:Nat->Nat} {m:Mp} {S:Nat->Prop} {w:yi}
def OC:∀{v:AV} {u:yg},ah af m S w v u->cK (cellsOf v)=true->av af m S w (cellsOf v) u.cells.toList:=by
 intro v u h h1;cases v
 case agg cs=>
  simp only [ah] at h;obtain ⟨xs,rfl,hr⟩:=h;exact hr
 case aa vs=>simp [cellsOf,cK,eb] at h1
 case undef=>simp [cellsOf,cK,eb] at h1
 case bI=>simp [cellsOf,cK,eb] at h1
 case fn f a b=>
  cases f with
  | f g=>have h':=h;simp only [ah] at h';obtain ⟨fi,ca,rfl,_⟩:=h';simp only [cellsOf,Value.cells,av];exact ⟨_,_,rfl,h,rfl⟩
  | y l=>have h':=h;simp only [ah] at h';obtain ⟨p,_,rfl⟩:=h';simp only [cellsOf,Value.cells,av];exact ⟨_,_,rfl,h,rfl⟩
 case str s=>have h':=h;simp only [ah] at h';obtain ⟨b,rfl,_⟩:=h';simp only [cellsOf,Value.cells,av];exact ⟨_,_,rfl,h,rfl⟩
 case ptr id o=>have h':=h;simp only [ah] at h';obtain ⟨b,_,rfl⟩:=h';simp only [cellsOf,Value.cells,av];exact ⟨_,_,rfl,h,rfl⟩
 case cg cs=>have h':=h;simp only [ah] at h';obtain ⟨b,o,rfl,_⟩:=h';simp only [cellsOf,Value.cells,av];exact ⟨_,_,rfl,h,rfl⟩
 case aB e n cs=>have h':=h;simp only [ah] at h';rcases h' with ⟨b,o,c,rfl,_⟩ | ⟨a,rfl,_,_⟩<;>(simp only [cellsOf,Value.cells,av];exact ⟨_,_,rfl,h,rfl⟩)
 case aD id o n=>have h':=h;simp only [ah] at h';obtain ⟨p,c,_,rfl,_⟩:=h';simp only [cellsOf,Value.cells,av];exact ⟨_,_,rfl,h,rfl⟩
 case map id=>have h':=h;simp only [ah] at h';obtain ⟨p,_,rfl⟩:=h';simp only [cellsOf,Value.cells,av];exact ⟨_,_,rfl,h,rfl⟩
 case iQ ks vs=>have h':=h;simp only [ah] at h';obtain ⟨b,es,cl,rfl,_⟩:=h';simp only [cellsOf,Value.cells,av];exact ⟨_,_,rfl,h,rfl⟩
 case it id=>have h':=h;simp only [ah] at h';obtain ⟨p,_,rfl⟩:=h';simp only [cellsOf,Value.cells,av];exact ⟨_,_,rfl,h,rfl⟩
 all_goals
  have h':=h;simp only [ah] at h';subst h';simp only [cellsOf,Value.cells,av];exact ⟨_,_,rfl,h,rfl⟩
def AU (v:yg):av af m S w (cellsOf (eh v)) v.cells.toList:=by
 have h:=Kb (af:=af) (m:=m) (S:=S) (w:=w) v;cases v
 case agg xs=>
  obtain ⟨l⟩:=xs;simp only [eh,ah] at h ⊢;obtain ⟨xs,e,hr⟩:=h;injection e with e
  subst e;exact hr
 case tuple xs=>obtain ⟨l⟩:=xs;simp only [eh] at h ⊢;simp only [cellsOf,Value.cells,av];exact ⟨_,_,rfl,h,rfl⟩
 case pointer p=>cases p<;>(simp only [eh] at h ⊢;simp only [cellsOf,Value.cells,av];exact ⟨_,_,rfl,h,rfl⟩)
 case map p=>cases p<;>(simp only [eh] at h ⊢;simp only [cellsOf,Value.cells,av];exact ⟨_,_,rfl,h,rfl⟩)
 case slice p n c=>
  cases p
  ·cases n
   ·cases c<;>(simp only [eh] at h ⊢;simp only [cellsOf,Value.cells,av];exact ⟨_,_,rfl,h,rfl⟩)
   ·simp only [eh] at h ⊢;simp only [cellsOf,Value.cells,av];exact ⟨_,_,rfl,h,rfl⟩
  ·simp only [eh] at h ⊢;simp only [cellsOf,Value.cells,av];exact ⟨_,_,rfl,h,rfl⟩
 all_goals (simp only [eh] at h ⊢;simp only [cellsOf,Value.cells,av];exact ⟨_,_,rfl,h,rfl⟩)
def j9:∀{a b:List AV} {x y:List yg},av af m S w a x->av af m S w b y->av af m S w (a++b) (x++y)
 | [],b,x,y,h,k=>by simp only [av] at h;subst h;simpa using k
 | c::a,b,x,y,h,k=>by
  simp only [av] at h;obtain ⟨u,r,rfl,h2,h3⟩:=h;simp only [xi,av];exact ⟨u,r++y,rfl,h2,j9 h3 k⟩
def FJ:∀(k:Nat) {cs:List AV} {us:List yg},av af m S w cs us->av af m S w (cs.drop k) (us.drop k)
 | 0,cs,us,h=>by simpa using h
 | k+1,[],us,h=>by simp only [av] at h;subst h;simp [av]
 | k+1,c::cs,us,h=>by simp only [av] at h;obtain ⟨u,r,rfl,_,h3⟩:=h;simpa using FJ k h3
def CH:∀(k:Nat) {cs:List AV} {us:List yg},av af m S w cs us->av af m S w (cs.take k) (us.take k)
 | 0,cs,us,h=>by simp [av]
 | k+1,[],us,h=>by simp only [av] at h;subst h;simp [av]
 | k+1,c::cs,us,h=>by
  simp only [av] at h;obtain ⟨u,r,rfl,h2,h3⟩:=h;simp only [xY,av];exact ⟨u,_,rfl,h2,CH k h3⟩
def OW:∀{cs:List AV} {us:List yg} {i:Nat} {v:AV},av af m S w cs us->cs[i]? =some v->∃u,us[i]? =some u/\ah af m S w v u
 | [],us,i,v,_,h=>by simp at h
 | c::cs,us,0,v,h,e=>by
  simp only [av] at h;obtain ⟨u,r,rfl,h2,h3⟩:=h;simp at e;subst e;exact ⟨u,rfl,h2⟩
 | c::cs,us,i+1,v,h,e=>by
  simp only [av] at h;obtain ⟨u,r,rfl,h2,h3⟩:=h;simp at e;simpa using OW h3 e
end
def Zr (off:Nat):∀(new:List yg) (j:Nat) (cells:Array yg),off+j+new.length<=cells.size->
  ((new.zipIdx j).foldl (fun (cs:Array yg) (p:yg×Nat)=>cs.setIfInBounds (off+p.2) p.1) cells).toList=
   cells.toList.take (off+j)++new++cells.toList.drop (off+j+new.length)
 | [],j,cells,_=>by simp
 | v::r,j,cells,h=>by
  simp only [yM] at h;have ih:=Zr off r (j+1) (cells.setIfInBounds (off+j) v) (by simp;omega);simp only [List.zipIdx_cons,List.foldl_cons];rw [ih];have aF:off+j<cells.toList.length:=by simp;omega
  have h1:(cells.setIfInBounds (off+j) v).toList=cells.toList.set (off+j) v:=by simp
  rw [h1,show off+(j+1)=off+j+1 by omega];have h2:(cells.toList.set (off+j) v).take (off+j+1)=cells.toList.take (off+j)++[v]:=by
   rw [List.take_succ_eq_append_getElem (by simpa using aF)];simp [List.take_set_of_le]
  have h3:(cells.toList.set (off+j) v).drop (off+j+1+r.length)=cells.toList.drop (off+j+(r.length+1)):=by
   rw [List.drop_set_of_lt (by omega)];congr 1;omega
  rw [h2,h3]
  simp
section
variable {O:bh} {H:Hint} {m:Mp} {S:Nat->Prop} {w:yi} {tm:Env} {a:Act}
def Kd (hH:eT O H) (ht:bW O m S w tm a.tmps) {place:Nat->Option (Nat×Nat)}:∀(parts:List (Nat×xq)) (ps:List (Nat×Nat×X)) (zero cs:List AV) (cells:Array yg),
  partsOf H place parts=some ps->av O.af m S w zero cells.toList->fill tm zero ps=some cs->
  ∃out,Instr.fill place cells (parts.map fun p=>(p.1,a.eval p.2))=some out/\av O.af m S w cs out.toList
 | [],ps,zero,cs,cells,hp,hz,hf=>by
  simp only [partsOf,yb] at hp;subst hp;simp only [fill,yb] at hf;subst hf;exact ⟨cells,rfl,hz⟩
 | (i,x)::r,ps,zero,cs,cells,hp,hz,hf=>by
  simp only [partsOf] at hp
  cases mh:place i with
  | none=>simp [mh] at hp
  | some q=>
   obtain ⟨o,s⟩:=q;simp only [mh] at hp
   cases nf:partsOf H place r with
   | none=>simp [nf] at hp
   | some l=>
    simp only [nf,yb] at hp;subst hp;simp only [fill] at hf
    cases hc:(yp (cellsOf (ay tm (aK H x))).length s&&yy (o+s) zero.length&&cK (cellsOf (ay tm (aK H x)))) with
    | false=>rw [hc] at hf;cases hf
    | true=>
     rw [hc] at hf;simp only [yz] at hf;simp only [yf] at hc;have hs:=yj hc.1.1;have hle:=yo hc.1.2;have hrx:=OC (cf hH ht x) hc.2;have mi:=gh _ _ hrx;have qQ:=gh _ _ hz;have ez:(a.eval x).cells.size=s:=by rw [<-hs,<-mi];simp
     have Aq:cells.size=zero.length:=by rw [<-qQ];simp
     have axh:=Zr o (a.eval x).cells.toList 0 cells (by simp;omega);have gX:av O.af m S w (over o (cellsOf (ay tm (aK H x))) zero)
       ((a.eval x).cells.zipIdx.foldl (fun (cs:Array yg) (p:yg×Nat)=>cs.setIfInBounds (o+p.2) p.1) cells).toList:=by
      rw [<-Array.foldl_toList,Array.toList_zipIdx,axh];simp only [over,yZ];rw [show (a.eval x).cells.toList.length=(cellsOf (ay tm (aK H x))).length from mi];exact j9 (j9 (CH o hz) hrx) (FJ _ hz)
     obtain ⟨out,h1,h2⟩:=Kd hH ht r l _ cs _ nf gX hf;refine ⟨out,?_,h2⟩;simp only [xm,Instr.fill,mh,ez];rw [yu (by simp;omega)];exact h1
end
end
section
open Go
def Zs (p q:ByteArray):(p==q)=cM (kZ p) (kZ q):=by
 have h:(p==q)=(p.data==q.data):=by cases p;cases q;rfl
 rw [h,Zo,ByteArray.toList_eq,ByteArray.toList_eq];rw [uR,yaG,yaG];constructor
 ·intro e;rw [e]
 ·intro e;have:=congrArg List.toArray e;simpa using this
def Lj:wS->Bool
 | .bool | .int _ | .string=>true
 | _=>false
def fits (d:wS) (v:AV):Bool:=
 match d,v with
 | .int _,.int _ _ | .string,.str _ | .bool,.bool _=>true
 | _,_=>false
def Found (af:Nat->Nat) (m:Mp) (S:Nat->Prop) (w:yi) (f:Option (Option (Nat×yg))):Option AV->Prop
 | none=>f=some none
 | some v=>∃j u,f=some (some (j,u))/\ah af m S w v u
section
variable {O:bh} {af:Nat->Nat} {m:Mp} {S:Nat->Prop} {w:yi}
def aag {vk vk':AV} {k k':yg} {r:Bool} {d:wS} (hk:ah af m S w vk k) (Ar:ah af m S w vk' k') (h:C7 vk vk'=some r)
  (hd:fits d vk=true):Instr.sameNow d k k'=some r:=by
 unfold C7 at h
 split at h
 ·rename_i j x j' y;simp only [ah] at hk Ar;subst hk;subst Ar;by_cases hj:j=j'
  ·simp only [hj,xR,yb] at h;subst hj;cases d<;>simp [fits] at hd
   simpa [Instr.sameNow] using h
  ·simp [hj] at h
 ·simp only [ah] at hk Ar;obtain ⟨s,rfl,rfl⟩:=hk;obtain ⟨s',rfl,rfl⟩:=Ar;simp only [yb] at h;cases d<;>simp [fits] at hd
  simp only [Instr.sameNow,Zs];rw [<-h];rfl
 ·simp only [ah] at hk Ar;subst hk;subst Ar;simp only [yb] at h;cases d<;>simp [fits] at hd
  simp [Instr.sameNow,h]
 ·cases h
def OX {vk:AV} {k:yg} {d:wS} (hk:ah af m S w vk k)
  (hd:fits d vk=true):∀(ks vs:List AV) (es:List vT) (i:Nat) (r:Option AV),
  av af m S w ks (es.map (·.key))->av af m S w vs (es.map (·.val))->Bv vk ks vs=some r->Found af m S w (Instr.findNow d k es i) r
 | [],vs,es,i,r,h1,h2,h=>by
  simp only [av,yay] at h1;subst h1;simp only [Bv,yb] at h;subst h;rfl
 | c::ks,[],es,i,r,h1,h2,h=>by simp only [Bv] at h;cases h
 | c::ks,v::vs,es,i,r,h1,h2,h=>by
  cases es with
  | nil=>simp [av] at h1
  | cons e es=>
   simp only [xm,av,tC] at h1 h2;obtain ⟨u,t,⟨rfl,rfl⟩,hc,Ng⟩:=h1;obtain ⟨u',t',⟨rfl,rfl⟩,hv,sF⟩:=h2;simp only [Bv] at h
   cases sG:C7 vk c with
   | none=>simp [sG] at h
   | some b=>
    have hs:=aag (d:=d) hk hc sG hd
    cases b with
    | true=>
     simp only [sG,yb] at h;subst h;exact ⟨i,e.val,by simp [Instr.findNow,hs],hv⟩
    | false=>
     simp only [sG] at h;have ih:=OX hk hd ks vs es (i+1) r Ng sF h;simpa [Instr.findNow,hs] using ih
def Jf {P:xa} {kt:yx} {d:wS} (hu:P.underlying kt=some d) (hd:Lj d=true) (b:Bool) (k:yg):(Instr.checkKey b 10000 kt k).run P w= .ok () w:=by
 have:∀n,(Instr.checkKey b (n+1) kt k).run P w= .ok () w:=by
  intro n;cases d<;>simp [Lj] at hd<;>simp [Instr.checkKey,run_underlying hu]
 exact this 9999
def as6 {t kt e:yx} {d:wS} {ok:Bool} {hp:Hp} {ct:Nat} {vx vk v:AV} {x k zero:yg} (hh:aO O m S w hp ct) (hu:O.P.underlying t=some (.map kt e)) (hk:O.P.underlying kt=some d) (hd:Lj d=true)
  (hdk:fits d vk=true)
  (hz:(zeroValue e).run O.P w= .ok zero w) (hx:ah O.af m S w vx x) (hkr:ah O.af m S w vk k) {z:AV} (WK:ah O.af m S w z zero)
  {r:Option AV}
  (hr:zJ hp vk vx=some r)
  (hv:(match r with | some u=>(bif ok then AV.aa [u,.bool true] else u) | none=>(bif ok then AV.aa [z,.bool false] else z))=v):
  ∃u,(Instr.lookup t x k ok).run O.P w= .ok u w/\ah O.af m S w v u:=by
 have fin:∀(u:AV) (uu:yg) (b:Bool),ah O.af m S w u uu->ah O.af m S w (bif ok then AV.aa [u,.bool b] else u) (if ok then .tuple #[uu,.bool b] else uu):=by
  intro u uu b h
  cases ok with
  | true=>simp only [yz,xR,ah,av];exact ⟨_,rfl,_,_,rfl,h,_,_,rfl,rfl,rfl⟩
  | false=>simpa using h
 have body:∀(x':yg) (es:Array vT),((x'= .map none/\es=#[])\/∃b clock,x'= .map (some b)/\w.heap[b]? =some (.map es clock))->Found O.af m S w (Instr.findNow d k es.toList 0) r->
   ∃u,(Instr.lookup t x' k ok).run O.P w= .ok u w/\ah O.af m S w v u:=by
  intro x' es hl hf
  cases r with
  | none=>
   have As:Instr.findNow d k es.toList 0=some none:=hf;refine ⟨if ok then .tuple #[zero,.bool false] else zero,?_,by rw [<-hv];exact fin z zero false WK⟩
   rcases hl with ⟨rfl,rfl⟩ | ⟨b,clock,rfl,hb⟩
   ·have QK:Instr.findNow d k [] 0=some none:=rfl;simp [Instr.lookup,run_underlying hu,Jf hk hd,Instr.findKey,run_underlying hk,QK,hz]
   ·simp [Instr.lookup,run_underlying hu,getObj,Sem.run,hb,Jf hk hd,Instr.findKey,run_underlying hk,As,hz]
  | some v'=>
   obtain ⟨j,u,h1,h2⟩:=hf;refine ⟨if ok then .tuple #[u,.bool true] else u,?_,by rw [<-hv];exact fin v' u true h2⟩
   rcases hl with ⟨rfl,rfl⟩ | ⟨b,clock,rfl,hb⟩
   ·have QK:Instr.findNow d k [] 0=some none:=rfl;rw [show (#[]:Array vT).toList=[] from rfl,QK] at h1;cases h1
   ·simp [Instr.lookup,run_underlying hu,getObj,Sem.run,hb,Jf hk hd,Instr.findKey,run_underlying hk,h1]
 cases vx<;>simp only [zJ,reduceCtorEq] at hr
 case jt=>
  simp only [yb] at hr;subst hr;simp only [ah] at hx;subst hx;exact body _ #[] (.inl ⟨rfl,rfl⟩) rfl
 case map id=>
  simp only [ah] at hx;obtain ⟨p,hm,rfl⟩:=hx
  split at hr
  case h_2=>cases hr
  rename_i WJ ks vs Bz;obtain ⟨p',es,clock,gW,hb,h1,h2,_⟩:=hh.obj id _ _ Bz hm;rw [hm] at gW;injection gW with gW;subst gW
  exact body _ es (.inr ⟨_,_,rfl,hb⟩) (OX hkr hdk ks vs es.toList 0 r h1 h2 hr)
 case iQ ks vs=>
  simp only [ah] at hx;obtain ⟨b,es,clock,rfl,_,_,_,hb,h1,h2⟩:=hx;exact body _ es (.inr ⟨_,_,rfl,hb⟩) (OX hkr hdk ks vs es.toList 0 r h1 h2 hr)
end
end
section
open Go
def Fw:∀(k1 k2:List Nat) (a b:List AV) (r:Bool),dW (k1++k2) a b=some r->
  ∃r1 r2,dW k1 (a.take k1.length) (b.take k1.length)=some r1/\dW k2 (a.drop k1.length) (b.drop k1.length)=some r2/\r=(r1&&r2)
 | [],k2,a,b,r,h=>⟨true,r,by simp [dW],by simpa using h,by simp⟩
 | k::k1,k2,[],b,r,h=>by
  simp only [xi] at h;unfold dW at h
  grind
 | k::k1,k2,x::a,[],r,h=>by
  unfold dW at h
  grind
 | k::k1,k2,x::a,y::b,r,h=>by
  have step:∀(q:Bool) (f:Bool->Bool),(match dW (k1++k2) a b with | some r=>some (f r) | none=>none)=some q->∃r0,dW (k1++k2) a b=some r0/\q=f r0:=by grind
  unfold dW at h
  split at h
  ·grind
  ·rename_i e1 e2 e3;obtain ⟨rfl,rfl⟩:=e1;obtain ⟨rfl,rfl⟩:=e2;obtain ⟨rfl,rfl⟩:=e3;obtain ⟨r0,h0,rfl⟩:=step r _ h;obtain ⟨r1,r2,h1,h2,rfl⟩:=Fw k1 k2 _ _ r0 h0;exact ⟨_,r2,by simp only [yM,xY,dW,h1],by simpa using h2,(tY _ _ _).symm⟩
  ·rename_i e1 e2 e3;obtain ⟨rfl,rfl⟩:=e1;obtain ⟨rfl,rfl⟩:=e2;obtain ⟨rfl,rfl⟩:=e3
   split at h
   ·rename_i hk;obtain ⟨r0,h0,rfl⟩:=step r _ h;obtain ⟨r1,r2,h1,h2,rfl⟩:=Fw k1 k2 _ _ r0 h0;exact ⟨_,r2,by simp only [yM,xY,dW,h1,hk,xR],by simpa using h2,(tY _ _ _).symm⟩
   ·cases h
  ·rename_i e1 e2 e3;obtain ⟨rfl,rfl⟩:=e1;obtain ⟨rfl,rfl⟩:=e2;obtain ⟨rfl,rfl⟩:=e3;obtain ⟨r0,h0,rfl⟩:=step r _ h;obtain ⟨r1,r2,h1,h2,rfl⟩:=Fw k1 k2 _ _ r0 h0;exact ⟨_,r2,by simp only [yM,xY,dW,h1],by simpa using h2,(tY _ _ _).symm⟩
  ·cases h
def Yq:∀(ks:List Nat) (a b:List AV) (r:Bool),dW ks a b=some r->a.length=ks.length/\b.length=ks.length
 | [],a,b,r,h=>by
  unfold dW at h
  grind
 | k::ks,[],b,r,h=>by
  unfold dW at h
  grind
 | k::ks,x::a,[],r,h=>by
  unfold dW at h
  grind
 | k::ks,x::a,y::b,r,h=>by
  have:∃r0,dW ks a b=some r0:=by
   cases he:dW ks a b with
   | some r0=>exact ⟨r0,rfl⟩
   | none=>unfold dW at h;split at h<;>simp_all
  obtain ⟨r0,h0⟩:=this
  have:=Yq ks a b r0 h0
  simp [this]
def D3 (P:xa) (t:yx) (x:yg) (xs:List yg):Prop:=(dE P t=some true/\x= .agg xs.toArray)\/(dE P t=some false/\xs=[x])
section
variable {P:xa} {af:Nat->Nat} {m:Mp} {S:Nat->Prop} {w:yi}
def Ok {t:yx} {ag:Bool} (ha:dE P t=some ag):(isAgg t).run P w= .ok ag w:=by
 unfold dE at ha
 cases hu:P.underlying t with
 | none=>simp [hu] at ha
 | some d=>cases d<;>simp_all [isAgg,underlying]
def aov {t:yx} {s o:Nat} {xs:List yg} (hz:cu P t=some s) (ha:∃ag,dE P t=some ag) (h1:dE P t=some false->s=1) (hl:o+s<=xs.length):
  ∃u,(part t xs.toArray o).run P w= .ok u w/\D3 P t u ((xs.drop o).take s):=by
 obtain ⟨ag,ha⟩:=ha
 cases ag with
 | true=>
  refine ⟨.agg ((xs.drop o).take s).toArray,?_,.inl ⟨ha,rfl⟩⟩;simp [part,Ok ha,mw hz,yaa]
 | false=>
  have hs:=h1 ha;subst hs;have aF:o<xs.length:=by omega
  refine ⟨xs[o],?_,.inr ⟨ha,?_⟩⟩
  ·simp [part,Ok ha,wA aF]
  ·rw [List.drop_eq_getElem_cons aF,xY,ybk]
def amP {n:Nat} {t:yx} {ks:List Nat} (h:kinds P n t=some ks):∃ag,dE P t=some ag/\(ag=false->ks.length=1):=by
 cases n with
 | zero=>simp [kinds] at h
 | succ n=>
  unfold kinds at h;unfold dE
  split at h<;>simp_all
  all_goals (rw [<-h];rfl)
def Qc (P:xa) (af:Nat->Nat) (m:Mp) (S:Nat->Prop) (w:yi) (n:Nat):Prop:=
 ∀(t:yx) (ks:List Nat),kinds P n t=some ks->P.stoodInHeld t=false->∀(d:Nat),n<=d->∀(xs ys:List yg) (cs dL:List AV) (r:Bool) (x y:yg),
  av af m S w cs xs->av af m S w dL ys->dW ks cs dL=some r->D3 P t x xs->D3 P t y ys->(Op.equalIn d t x y).run P w= .ok r w
def Zt {n:Nat} (ih:Qc P af m S w n) {t:yx} {ks:List Nat} {s o d:Nat} (hk:kinds P n t=some ks) (aT:P.stoodInHeld t=false) (hz:cu P t=some s) (hs:ks.length=s) (hd:n<=d)
  {xs ys:List yg} {cs dL:List AV} (h1:av af m S w cs xs) (h2:av af m S w dL ys) {r:Bool} (he:dW ks ((cs.drop o).take s) ((dL.drop o).take s)=some r):
  ∃u u',(part t xs.toArray o).run P w= .ok u w/\(part t ys.toArray o).run P w= .ok u' w/\(Op.equalIn d t u u').run P w= .ok r w:=by
 obtain ⟨ag,ha,h1s⟩:=amP hk;obtain ⟨l1,l2⟩:=Yq _ _ _ _ he;have q1:=gh _ _ h1;have q2:=gh _ _ h2;simp only [yW,xN] at l1 l2;have kP:dE P t=some false->s=1:=fun h=>by
  grind
 have mi:o+s<=xs.length\/s=0:=by omega
 have qQ:o+s<=ys.length\/s=0:=by omega
 have get:∀(zs:List yg),(o+s<=zs.length\/s=0)->∃u,(part t zs.toArray o).run P w= .ok u w/\D3 P t u ((zs.drop o).take s):=by
  intro zs hl;rcases hl with hl | hl
  ·exact aov hz ⟨ag,ha⟩ kP hl
  ·subst hl
   cases ag with
   | false=>have:=kP ha;omega
   | true=>
    refine ⟨.agg ((zs.drop o).take 0).toArray,?_,.inl ⟨ha,rfl⟩⟩;simp [part,Ok ha,mw hz]
 obtain ⟨u,p1,v1⟩:=get xs mi;obtain ⟨u',p2,v2⟩:=get ys qQ;exact ⟨u,u',p1,p2,ih t ks hk aT d hd _ _ _ _ r u u' (CH s (FJ o h1)) (CH s (FJ o h2)) he v1 v2⟩
def Yr {n:Nat} (ih:Qc P af m S w n) {d:Nat} (hd:n<=d) {xs ys:List yg} {cs dL:List AV} (h1:av af m S w cs xs) (h2:av af m S w dL ys):
  ∀(fs:List tp) (o:Nat) (ks:List Nat) (r:Bool),CD P (fun u=>kinds P n u) fs o=some ks->dW ks (cs.drop o) (dL.drop o)=some r->(Op.eqFields d xs.toArray ys.toArray fs).run P w= .ok r w
 | [],o,ks,r,h,he=>by
  simp only [CD,yb] at h;unfold dW at he
  split at he<;>simp_all [Op.eqFields]
 | f::fs,o,ks,r,h,he=>by
  simp only [CD] at h
  cases hk:kinds P n f.type with
  | none=>simp [hk] at h
  | some kf=>
   cases hz:cu P f.type with
   | none=>simp [hk,hz] at h
   | some s=>
    simp only [hk,hz] at h
    cases hc:(f.name != "_"&&yp f.offset o&&yp kf.length s&& !P.stoodInHeld f.type) with
    | false=>rw [hc] at h;cases h
    | true=>
     rw [hc] at h;simp only [yz] at h;simp only [yf,bne_iff_ne,uS] at hc;obtain ⟨⟨⟨hn,ho⟩,hl⟩,aT⟩:=hc;have ho:=yj ho;have hl:=yj hl
     cases hr:CD P (fun u=>kinds P n u) fs (o+s) with
     | none=>simp [hr] at h
     | some kr=>
      simp only [hr,yb] at h;subst h;obtain ⟨r1,r2,e1,e2,rfl⟩:=Fw _ _ _ _ _ he;rw [hl] at e1 e2;rw [vN,vN] at e2;obtain ⟨u,u',p1,p2,p3⟩:=Zt ih (o:=o) hk aT hz hl hd h1 h2 e1;have rest:=Yr ih hd h1 h2 fs (o+s) kr r2 hr e2;subst ho;simp only [Op.eqFields]
      cases r1 with
      | true=>simp [hn,p1,p2,p3,rest]
      | false=>simp [hn,p1,p2,p3]
def YK {n:Nat} (ih:Qc P af m S w n) {d:Nat} (hd:n<=d) {xs ys:List yg} {cs dL:List AV} (h1:av af m S w cs xs) (h2:av af m S w dL ys)
  {e:yx} {ks:List Nat} {s:Nat} (hk:kinds P n e=some ks) (aT:P.stoodInHeld e=false) (hz:cu P e=some s) (hl:ks.length=s):
  ∀(k j:Nat) (r:Bool),dW (yK k ks).flatten (cs.drop (j*s)) (dL.drop (j*s))=some r->(Op.eqItems d e s xs.toArray ys.toArray (List.range' j k)).run P w= .ok r w
 | 0,j,r,he=>by
  unfold dW at he
  split at he<;>simp_all [Op.eqItems]
 | k+1,j,r,he=>by
  obtain ⟨r1,r2,e1,e2,rfl⟩:=Fw _ _ _ _ _ he;rw [hl] at e1 e2;rw [vN,vN,show j*s+s=(j+1)*s by rw [xU,ybE]] at e2;obtain ⟨u,u',p1,p2,p3⟩:=Zt ih (o:=j*s) hk aT hz hl hd h1 h2 e1;have rest:=YK ih hd h1 h2 hk aT hz hl k (j+1) r2 e2;rw [List.range'_succ];simp only [Op.eqItems]
  cases r1 with
  | true=>simp [p1,p2,p3,rest]
  | false=>simp [p1,p2,p3]
def PK:∀(n:Nat) (t:yx) (ks:List Nat),kinds P n t=some ks->P.stoodInHeld t=false->∀(d:Nat),n<=d->∀(xs ys:List yg) (cs dL:List AV) (r:Bool) (x y:yg),
  av af m S w cs xs->av af m S w dL ys->dW ks cs dL=some r->D3 P t x xs->D3 P t y ys->(Op.equalIn d t x y).run P w= .ok r w
 | 0,t,ks,h,_,_,_,_,_,_,_,_,_,_,_,_,_,_,_=>by simp [kinds] at h
 | n+1,t,ks,h,aT,0,hd,_,_,_,_,_,_,_,_,_,_,_,_=>by omega
 | n+1,t,ks,h,aT,d+1,hd,xs,ys,cs,dL,r,x,y,h1,h2,he,hx,hy=>by
  unfold kinds at h;have one:∀{k:Nat},ks=[k]->dE P t=some false->∃c c',cs=[c]/\dL=[c']/\ah af m S w c x/\ah af m S w c' y:=by
   intro k hk ha;rcases hx with ⟨hx,_⟩ | ⟨_,rfl⟩
   ·grind
   rcases hy with ⟨hy,_⟩ | ⟨_,rfl⟩
   ·grind
   have l1:=gh _ _ h1;have l2:=gh _ _ h2
   match cs,dL,l1,l2 with
   | [c],[c'],_,_=>
    simp only [av] at h1 h2
    grind
  split at h
  ·rename_i hu;simp only [yb] at h;have ha:dE P t=some false:=by simp [dE,hu]
   obtain ⟨c,c',rfl,rfl,r1,r2⟩:=one h.symm ha;subst h;unfold dW at he
   split at he<;>simp_all [dW]
   subst he;simp only [ah] at r1 r2;subst r1;subst r2;simp [Op.equalIn,run_underlying hu]
  ·rename_i k0 hu;simp only [yb] at h;have ha:dE P t=some false:=by simp [dE,hu]
   obtain ⟨c,c',rfl,rfl,r1,r2⟩:=one h.symm ha;subst h;unfold dW at he
   split at he<;>simp_all [dW]
   obtain ⟨hk,he⟩:=he;subst he;simp only [ah] at r1 r2;subst r1;subst r2;simp [Op.equalIn,run_underlying hu]
  ·rename_i hu;simp only [yb] at h;have ha:dE P t=some false:=by simp [dE,hu]
   obtain ⟨c,c',rfl,rfl,r1,r2⟩:=one h.symm ha;subst h;unfold dW at he
   split at he<;>simp_all [dW]
   subst he;simp only [ah] at r1 r2;obtain ⟨s,rfl,rfl⟩:=r1;obtain ⟨s',rfl,rfl⟩:=r2;simp only [Op.equalIn,Sem.run_bind,run_underlying hu,Result.andThen_ok,Sem.run_pure,Zs];rfl
  ·rename_i fs hu;have ha:dE P t=some true:=by simp [dE,hu]
   rcases hx with ⟨_,rfl⟩ | ⟨hx,_⟩
   ·rcases hy with ⟨_,rfl⟩ | ⟨hy,_⟩
    ·have hf:P.fieldsOf t=fs:=by simp [Program.fieldsOf,hu]
     rw [run_equalIn_struct w d t _ _ (by rw [hf];exact hu) aT,hf]
     exact Yr (PK n) (by omega) h1 h2 fs.toList 0 ks r h (by simpa using he)
    ·rw [ha] at hy;cases hy
   ·rw [ha] at hx;cases hx
  ·rename_i k e hu;have ha:dE P t=some true:=by simp [dE,hu]
   rcases hx with ⟨_,rfl⟩ | ⟨hx,_⟩
   ·rcases hy with ⟨_,rfl⟩ | ⟨hy,_⟩
    ·cases hk:kinds P n e with
     | none=>simp [hk] at h
     | some ke=>
      cases hz:cu P e with
      | none=>simp [hk,hz] at h
      | some s=>
       simp only [hk,hz] at h
       cases hc:(yp ke.length s&& !P.stoodInHeld e) with
       | false=>rw [hc] at h;cases h
       | true=>
        rw [hc] at h;simp only [yz,yb] at h;subst h;simp only [yf,uS] at hc;have gX:=hz;unfold cu at gX
        cases hi:P.info? e with
        | none=>simp [hi] at gX
        | some i=>
         simp only [hi,yb] at gX;have Aq:P.cellsOf e=s:=by simp [Program.cellsOf,hi,gX]
         rw [run_equalIn_array w d _ _ hu hi,Aq,List.range_eq_range'];exact YK (PK n) (by omega) h1 h2 hk hc.2 hz (yj hc.1) k 0 r (by simpa using he)
    ·rw [ha] at hy;cases hy
   ·rw [ha] at hx;cases hx
  ·cases h
end
end
section
open Go
def dn {tm:Env} {hp:Hp} {v:AV} (h:br tm hp bad=some v):False:=by simp [bad,br] at h
section
variable {O:bh} {H:Hint} {m:Mp} {S:Nat->Prop} {w:yi} {tm:Env} {a:Act} {hp:Hp} {ct:Nat}
def aqK {af:Nat->Nat} {va vb v:AV} {x y:yg} (hx:ah af m S w va x) (hy:ah af m S w vb y) (h:VE.min2 va vb=some v):∃u,(Builtin.min2 x y).run O.P w= .ok u w/\ah af m S w v u:=by
 unfold VE.min2 at h
 split at h
 ·simp only [ah] at hx hy;subst hx;subst hy;simp only [yb] at h;subst h;exact ⟨_,by simp only [Builtin.min2,Sem.run_pure];rfl,by simp only [ah]⟩
 ·rename_i k p k' q;simp only [ah] at hx hy;subst hx;subst hy
  cases ho:k.format.order p q with
  | none=>simp [ho] at h
  | some c=>cases c<;>(simp only [ho,yb] at h;subst h;exact ⟨_,by simp only [Builtin.min2,ho,Sem.run_pure];rfl,by simp only [ah]⟩)
 ·cases h
def aqL {af:Nat->Nat} {va vb v:AV} {x y:yg} (hx:ah af m S w va x) (hy:ah af m S w vb y) (h:VE.max2 va vb=some v):∃u,(Builtin.max2 x y).run O.P w= .ok u w/\ah af m S w v u:=by
 unfold VE.max2 at h
 split at h
 ·simp only [ah] at hx hy;subst hx;subst hy;simp only [yb] at h;subst h;exact ⟨_,by simp only [Builtin.max2,Sem.run_pure];rfl,by simp only [ah]⟩
 ·rename_i k p k' q;simp only [ah] at hx hy;subst hx;subst hy
  cases ho:k.format.order p q with
  | none=>simp [ho] at h
  | some c=>cases c<;>(simp only [ho,yb] at h;subst h;exact ⟨_,by simp only [Builtin.max2,ho,Sem.run_pure];rfl,by simp only [ah]⟩)
 ·cases h
def Pn {af:Nat->Nat} {f:AV->AV->Option AV} {g:yg->yg->Sem yg} (hfg:∀va vb v x y,ah af m S w va x->ah af m S w vb y->f va vb=some v->∃u,(g x y).run O.P w= .ok u w/\ah af m S w v u):
  ∀(l:List AV) (us:List yg) (va v:AV) (x:yg),ah af m S w va x->av af m S w l us->zI f va l=some v->∃u,(us.foldlM g x).run O.P w= .ok u w/\ah af m S w v u
 | [],us,va,v,x,hx,hl,h=>by
  simp only [av] at hl;subst hl;simp only [zI,yb] at h;subst h;exact ⟨x,by simp,hx⟩
 | b::l,us,va,v,x,hx,hl,h=>by
  simp only [av] at hl;obtain ⟨u,r,rfl,hu,hr⟩:=hl;simp only [zI] at h
  cases hf:f va b with
  | none=>simp [hf] at h
  | some c=>
   simp only [hf] at h;obtain ⟨u1,h1,h2⟩:=hfg _ _ _ _ _ hx hu hf;obtain ⟨u2,h3,h4⟩:=Pn hfg l r c v u1 h2 hr h;exact ⟨u2,by simp [h1,h3],h4⟩
def PL {t:yx} {vx v:AV} {x:yg} {ty:yx} (hh:aO O m S w hp ct) (hx:ah O.af m S w vx x)
  {k:Nat} (hu:(k=0/\O.P.underlying t=some .string)\/(k=1/\∃e,O.P.underlying t=some (.slice e))\/(k=2/\∃kt e,O.P.underlying t=some (.map kt e)))
  (h:jI hp k vx=some v):∃u,(Builtin.len_ #[t] ty #[x]).run O.P w= .ok u w/\ah O.af m S w v u:=by
 rcases hu with ⟨rfl,hu⟩ | ⟨rfl,e,hu⟩ | ⟨rfl,kt,e,hu⟩
 all_goals cases vx<;>simp only [jI,reduceCtorEq] at h
 case inl.str s=>
  simp only [ah] at hx;obtain ⟨b,rfl,rfl⟩:=hx;simp only [yb] at h;subst h;refine ⟨_,by simp [Builtin.len_,run_underlying hu];rfl,?_⟩
  simp only [ah,goInt];rw [Lib.size_eq];simp
 case inr.inl.ae=>
  simp only [ah] at hx;subst hx;simp only [yb] at h;subst h;exact ⟨_,by simp [Builtin.len_,run_underlying hu];rfl,by simp [ah,goInt]⟩
 case inr.inl.aB ex n cs=>
  simp only [ah] at hx;rcases hx with ⟨b,o,c,rfl,_⟩ | ⟨a,rfl,rfl,rfl⟩
  all_goals
   simp only [yb] at h;subst h;exact ⟨_,by simp [Builtin.len_,run_underlying hu];rfl,by simp [ah,goInt]⟩
 case inr.inl.aD id o n=>
  simp only [ah] at hx;obtain ⟨p,c,_,rfl,_⟩:=hx;simp only [yb] at h;subst h;exact ⟨_,by simp [Builtin.len_,run_underlying hu];rfl,by simp [ah,goInt]⟩
 case inr.inr.jt=>
  simp only [ah] at hx;subst hx;simp only [yb] at h;subst h;exact ⟨_,by simp [Builtin.len_,run_underlying hu];rfl,by simp [ah,goInt]⟩
 case inr.inr.iQ ks vs=>
  simp only [ah] at hx;obtain ⟨b,es,clock,rfl,_,_,_,hb,h1,_⟩:=hx;simp only [yb] at h;subst h;refine ⟨_,by simp [Builtin.len_,run_underlying hu,getObj,Sem.run,hb];rfl,?_⟩
  have:=gh _ _ h1
  simp only [ah,goInt];rw [<-this];simp
 case inr.inr.map id=>
  simp only [ah] at hx;obtain ⟨p,hm,rfl⟩:=hx
  split at h
  case h_2=>cases h
  rename_i WJ ks vs Bz;simp only [yb] at h;subst h;obtain ⟨p',es,clock,gW,hb,h1,_⟩:=hh.obj id _ _ Bz hm;rw [hm] at gW;injection gW with gW;subst gW
  refine ⟨_,by simp [Builtin.len_,run_underlying hu,getObj,Sem.run,hb];rfl,?_⟩
  have:=gh _ _ h1
  simp only [ah,goInt];rw [<-this];simp
end
end
section
open Go
section
variable {O:bh} {H:Hint} {m:Mp} {S:Nat->Prop} {w:yi} {tm:Env} {a:Act} {hp:Hp} {ct:Nat}
def CO {t:yx} {z:AV} (h:kD O.P t=some z):∃v,(zeroValue t).run O.P w= .ok v w/\z=eh v:=by
 unfold kD at h
 cases hi:O.P.info? t with
 | none=>simp [hi] at h
 | some i=>
  simp only [hi] at h
  cases hz:i.zero with
  | none=>simp [hz] at h
  | some v=>
   simp only [hz,yb] at h;exact ⟨v,by simp [zeroValue,typeInfo,hi,hz],h.symm⟩
def Reads (O:bh) (m:Mp) (S:Nat->Prop) (w:yi) (a:Act) (o:y9) (v:AV):Prop:=
 ∃u,(execOp a.eval o).run O.P w= .ok (.value u) w/\ah O.af m S w v u
def jh {o:y9} {v:AV} {s:Sem yg} (he:execOp a.eval o=(do pure (.value (<-s)):Sem yaj)) (h:∃u,s.run O.P w= .ok u w/\ah O.af m S w v u):Reads O m S w a o v:=by
 obtain ⟨u,h1,h2⟩:=h;exact ⟨u,by rw [he];simp [h1],h2⟩
def aow {o:y9} {op:wO} {t ty:yx} {x y:xq} {k:Nat} {v:AV} (hH:eT O H) (ht:bW O m S w tm a.tmps) (ho:o.op= .binOp op t x y ty)
  (hv:br tm hp (aQ O.P H k o)=some v):Reads O m S w a o v:=by
 have rx:=cf hH ht x;have ry:=cf hH ht y;have guard:∀{u:yg},(∀xs ys,¬(a.eval x= .agg xs/\a.eval y= .agg ys))\/O.P.eqGuardType O.P.depth t=false->a.eval x≠.nilIface->(xO op t (a.eval x) (a.eval y)).run O.P w= .ok u w->
   (do eqGuard op t x y (a.eval x) (a.eval y);xO op t (a.eval x) (a.eval y):Sem yg).run O.P w= .ok u w:=by
  intro u h1 h2 h3
  simp only [Sem.run_bind,alY (P:=O.P) (w:=w) (t:=t) (op:=op) (x:=x) (y:=y) (h1.symm) h2,Result.andThen_ok,h3]
 have plain:br tm hp (.bin op (aK H x) (aK H y))=some v->Reads O m S w a o v:=by
  intro hv;simp only [br] at hv;obtain ⟨u,h1,h2⟩:=aos (P:=O.P) (t:=t) rx ry hv
  refine jh (s:=do eqGuard op t x y (a.eval x) (a.eval y);xO op t (a.eval x) (a.eval y)) (by simp only [execOp,ho]) ⟨u,guard (.inl ?_) ?_ h1,h2⟩
  ·rintro xs ys ⟨e1,e2⟩;rw [e1] at rx;unfold VE.binOp at hv
   split at hv
   ·rename_i h3 _;rw [h3] at rx;simp [ah] at rx
   ·rename_i h3 _;rw [h3] at rx;simp [ah] at rx
   ·rename_i h3 _;rw [h3] at rx;simp [ah] at rx
   ·cases hv
  ·intro e1;rw [e1] at rx;unfold VE.binOp at hv
   split at hv
   ·rename_i h3 _;rw [h3] at rx;simp [ah] at rx
   ·rename_i h3 _;rw [h3] at rx;simp [ah] at rx
   ·rename_i h3 _;rw [h3] at rx;simp [ah] at rx
   ·cases hv
 have other:∀(ne:Bool) (kd:VE.Na),(op= .eql/\ne=false\/op= .neq/\ne=true)->(∀r,iZ kd (ay tm (aK H x)) (ay tm (aK H y))=some r->(Op.equal t (a.eval x) (a.eval y)).run O.P w= .ok r w/\
    ((∀xs ys,¬(a.eval x= .agg xs/\a.eval y= .agg ys))\/O.P.eqGuardType O.P.depth t=false)/\a.eval x≠.nilIface/\
    ∀q:Bool,(op= .eql->xO op t (a.eval x) (a.eval y)=(do pure (.bool (<-Op.equal t (a.eval x) (a.eval y)))))/\(op= .neq->xO op t (a.eval x) (a.eval y)=(do pure (.bool (!(<-Op.equal t (a.eval x) (a.eval y)))))))->
   br tm hp (.eq ne kd (aK H x) (aK H y))=some v->Reads O m S w a o v:=by
  intro ne kd iw lB hv;simp only [br] at hv
  cases he:iZ kd (ay tm (aK H x)) (ay tm (aK H y)) with
  | none=>simp [he] at hv
  | some r=>
   simp only [he,yb] at hv;subst hv;obtain ⟨h1,h2,h3,h4⟩:=lB r he;obtain ⟨h5,h6⟩:=h4 true
   refine jh (s:=do eqGuard op t x y (a.eval x) (a.eval y);xO op t (a.eval x) (a.eval y)) (by simp only [execOp,ho]) ⟨.bool (ne !=r),guard h2 h3 ?_,by simp [ah]⟩
   rcases iw with ⟨rfl,rfl⟩ | ⟨rfl,rfl⟩
   ·rw [h5 rfl];simp [h1]
   ·rw [h6 rfl];simp [h1]
 have pB:O.P.underlying t=some .bool->∀r,iZ .b (ay tm (aK H x)) (ay tm (aK H y))=some r->∃p q,a.eval x= .bool p/\a.eval y= .bool q/\(Op.equal t (a.eval x) (a.eval y)).run O.P w= .ok r w:=by
  intro hu r he;cases hx:ay tm (aK H x)<;>cases hy:ay tm (aK H y)<;>rw [hx,hy] at he<;>simp only [iZ,reduceCtorEq] at he
  rw [hx] at rx;rw [hy] at ry;simp only [ah] at rx ry;simp only [yb] at he;refine ⟨_,_,rx,ry,?_⟩;rw [rx,ry,JS,<-he];exact asX hu
 have pS:∀e,O.P.underlying t=some (.slice e)->∀r,iZ .sl (ay tm (aK H x)) (ay tm (aK H y))=some r->∃p n c q n' c',a.eval x= .slice p n c/\a.eval y= .slice q n' c'/\(Op.equal t (a.eval x) (a.eval y)).run O.P w= .ok r w:=by
  intro e hu r he;have h1:=aqH hu rx ry he;have sl:∀{v:AV} {u:yg},ah O.af m S w v u->(v= .ae\/(∃a b c,v= .aB a b c)\/∃a b c,v= .aD a b c)->∃p n c,u= .slice p n c:=by
   intro v u hr hv;rcases hv with rfl | ⟨_,_,_,rfl⟩ | ⟨_,_,_,rfl⟩
   ·simp only [ah] at hr;exact ⟨_,_,_,hr⟩
   ·simp only [ah] at hr;rcases hr with ⟨b,o,c,hr,_⟩ | ⟨_,hr,_⟩<;>exact ⟨_,_,_,hr⟩
   ·simp only [ah] at hr;obtain ⟨b,c,_,hr,_⟩:=hr;exact ⟨_,_,_,hr⟩
  have cI:(ay tm (aK H x)= .ae\/(∃a b c,ay tm (aK H x)= .aB a b c)\/∃a b c,ay tm (aK H x)= .aD a b c)/\
    (ay tm (aK H y)= .ae\/(∃a b c,ay tm (aK H y)= .aB a b c)\/∃a b c,ay tm (aK H y)= .aD a b c):=by
   cases hx:ay tm (aK H x)<;>cases hy:ay tm (aK H y)<;>rw [hx,hy] at he<;>simp [iZ] at he ⊢
  obtain ⟨p,n,c,e1⟩:=sl rx cI.1;obtain ⟨q,n',c',e2⟩:=sl ry cI.2;exact ⟨p,n,c,q,n',c',e1,e2,h1⟩
 have pF:∀ps rs vr,O.P.underlying t=some (.func ps rs vr)->∀r,iZ .fn (ay tm (aK H x)) (ay tm (aK H y))=some r->
   ((a.eval x= .nilFunc\/∃f p q,a.eval x= .func f p q)/\(a.eval y= .nilFunc\/∃f p q,a.eval y= .func f p q))/\(Op.equal t (a.eval x) (a.eval y)).run O.P w= .ok r w:=by
  intro ps rs vr hu r he;have h1:=aqI hu rx ry he;have sl:∀{v:AV} {u:yg},ah O.af m S w v u->(v= .ik\/(∃a b c,v= .fn a b c))->(u= .nilFunc\/∃f p q,u= .func f p q):=by
   intro v u hr hv;rcases hv with rfl | ⟨f,_,_,rfl⟩
   ·simp only [ah] at hr;exact .inl hr
   ·cases f with
    | f g=>simp only [ah] at hr;obtain ⟨b,c,hr,_⟩:=hr;exact .inr ⟨_,_,_,hr⟩
    | y l=>simp only [ah] at hr;obtain ⟨b,_,hr⟩:=hr;exact .inr ⟨_,_,_,hr⟩
  have cI:(ay tm (aK H x)= .ik\/(∃a b c,ay tm (aK H x)= .fn a b c))/\(ay tm (aK H y)= .ik\/(∃a b c,ay tm (aK H y)= .fn a b c)):=by
   cases hx:ay tm (aK H x)<;>cases hy:ay tm (aK H y)<;>rw [hx,hy] at he<;>simp [iZ] at he ⊢
  exact ⟨⟨sl rx cI.1,sl ry cI.2⟩,h1⟩
 have pA:∀ks,kinds O.P 20 t=some ks->dE O.P t=some true->O.P.stoodInHeld t=false->∀r,iZ (.ag ks) (ay tm (aK H x)) (ay tm (aK H y))=some r->∃p q,a.eval x= .agg p/\a.eval y= .agg q/\(Op.equal t (a.eval x) (a.eval y)).run O.P w= .ok r w:=by
  intro ks hk ha aT r he;cases hx:ay tm (aK H x)<;>cases hy:ay tm (aK H y)<;>rw [hx,hy] at he<;>simp only [iZ,reduceCtorEq] at he
  rw [hx] at rx;rw [hy] at ry;simp only [ah] at rx ry;obtain ⟨p,e1,h1⟩:=rx;obtain ⟨q,e2,h2⟩:=ry;refine ⟨p,q,e1,e2,?_⟩;rw [e1,e2,JS];exact PK 20 t ks hk aT 10000 (by omega) _ _ _ _ r _ _ h1 h2 he (.inl ⟨ha,by simp⟩) (.inl ⟨ha,by simp⟩)
 have eqs:∀(ne:Bool),(op= .eql/\ne=false\/op= .neq/\ne=true)->br tm hp (mF O.P H ne op t x y)=some v->Reads O m S w a o v:=by
  intro ne iw hv;have agg:dE O.P t=some true->br tm hp (nL O.P H ne t x y)=some v->Reads O m S w a o v:=by
   intro ha hv;unfold nL at hv
   cases hk:kinds O.P 20 t with
   | none=>rw [hk] at hv;exact (dn hv).elim
   | some ks=>
    simp only [hk] at hv
    cases hc:(O.P.stoodInHeld t||O.P.eqGuardType O.P.depth t) with
    | true=>rw [hc] at hv;exact (dn hv).elim
    | false=>
     rw [hc] at hv;simp only [yX] at hv;simp only [Bool.or_eq_false_iff] at hc;refine other ne (.ag ks) iw (fun r hr=>?_) hv;obtain ⟨p,q,e1,e2,h1⟩:=pA ks hk ha hc.1 r hr;refine ⟨h1,.inr hc.2,by rw [e1];simp,fun _=>?_⟩
     rw [e1,e2];exact ⟨fun e=>by subst e;rfl,fun e=>by subst e;rfl⟩
  unfold mF at hv
  split at hv
  ·exact plain hv
  ·exact plain hv
  ·exact plain hv
  ·rename_i hu;refine other ne .b iw (fun r hr=>?_) hv;obtain ⟨p,q,e1,e2,h1⟩:=pB hu r hr;refine ⟨h1,.inl (by rw [e1];simp),by rw [e1];simp,fun _=>?_⟩
   rw [e1,e2];exact ⟨fun e=>by subst e;rfl,fun e=>by subst e;rfl⟩
  ·rename_i e hu;refine other ne .sl iw (fun r hr=>?_) hv;obtain ⟨p,n,c,q,n',c',e1,e2,h1⟩:=pS e hu r hr;refine ⟨h1,.inl (by rw [e1];simp),by rw [e1];simp,fun _=>?_⟩
   rw [e1,e2];exact ⟨fun e=>by subst e;rfl,fun e=>by subst e;rfl⟩
  ·rename_i ps rs vr hu;refine other ne .fn iw (fun r hr=>?_) hv;obtain ⟨⟨e1,e2⟩,h1⟩:=pF ps rs vr hu r hr;refine ⟨h1,.inl ?_,?_,fun _=>?_⟩
   ·rcases e1 with e1 | ⟨_,_,_,e1⟩<;>rw [e1]<;>simp
   ·rcases e1 with e1 | ⟨_,_,_,e1⟩<;>rw [e1]<;>simp
   ·rcases e1 with e1 | ⟨_,_,_,e1⟩<;>rcases e2 with e2 | ⟨_,_,_,e2⟩<;>rw [e1,e2]<;>exact ⟨fun e=>by subst e;rfl,fun e=>by subst e;rfl⟩
  ·rename_i fs hu;exact agg (by simp [dE,hu]) hv
  ·rename_i k0 e hu;exact agg (by simp [dE,hu]) hv
  ·exact (dn hv).elim
 cases op
 case eql=>exact eqs false (.inl ⟨rfl,rfl⟩) (by simpa only [aQ,ho] using hv)
 case neq=>exact eqs true (.inr ⟨rfl,rfl⟩) (by simpa only [aQ,ho] using hv)
 all_goals exact plain (by simpa only [aQ,ho] using hv)
end
end
section
open Go
section
variable {O:bh} {H:Hint} {m:Mp} {S:Nat->Prop} {w:yi} {tm:Env} {a:Act} {hp:Hp} {ct:Nat}
def CB {o:y9} {b:Builtin} {args:Array xq} {ts:Array yx} (ho:o.op= .call {callee:= .builtin b,args:=args,argTypes:=ts}):
  ∃cs,(execOp a.eval o).run O.P w=(builtin b ts o.type cs (args.map a.eval)).run O.P w:=by
 exact ⟨_,by simp only [execOp,ho,resolve,Sem.run_bind,Sem.run_pure,Result.andThen_ok,invoke];rfl⟩
def amQ {o:y9} {c:Call} {k:Nat} {v:AV} (hH:eT O H) (ht:bW O m S w tm a.tmps) (hh:aO O m S w hp ct) (ho:o.op= .call c)
  (hv:br tm hp (aQ O.P H k o)=some v):Reads O m S w a o v:=by
 obtain ⟨callee,args,ts⟩:=c;simp only [aQ,ho] at hv
 split at hv
 ·cases B5:H.mode k<;>simp [B5,br] at hv
 ·rename_i _ b
  split at hv
  ·have key:∀{bb:Bool} {sz bY:Nat} {x y:X},br tm hp (bif bb then .aS sz bY x y else bad)=some v->False:=by
    intro bb sz bY x y h
    cases bb
    ·exact dn h
    ·simp [br] at h
   split at hv
   ·split at hv
    ·exact (key hv).elim
    ·simp_all
   ·split at hv
    ·exact (key hv).elim
    ·simp_all
   ·simp_all
  ·rename_i x t fC lJ;obtain ⟨al⟩:=args;obtain ⟨tl⟩:=ts;simp only at fC lJ;subst fC;subst lJ;obtain ⟨cs,fe⟩:=CB (O:=O) (w:=w) (a:=a) ho;have fin:(∃u,(Builtin.len_ #[t] o.type #[a.eval x]).run O.P w= .ok u w/\ah O.af m S w v u)->Reads O m S w a o v:=by
    rintro ⟨u,h1,h2⟩;refine ⟨u,?_,h2⟩;rw [fe];simp [builtin,h1]
   split at hv
   ·rename_i n e hu;simp only [br,ay,yb] at hv;subst hv;exact fin ⟨_,by simp [Builtin.len_,run_underlying hu];rfl,by simp [ah,goInt]⟩
   ·rename_i hu;simp only [br] at hv;exact fin (PL hh (cf hH ht x) (.inl ⟨rfl,hu⟩) hv)
   ·rename_i e hu;simp only [br] at hv;exact fin (PL hh (cf hH ht x) (.inr (.inl ⟨rfl,e,hu⟩)) hv)
   ·rename_i kt e hu;simp only [br] at hv;exact fin (PL hh (cf hH ht x) (.inr (.inr ⟨rfl,kt,e,hu⟩)) hv)
   ·exact (dn hv).elim
  ·split at hv
   ·split at hv
    ·simp [br] at hv
    ·exact (dn hv).elim
   ·exact (dn hv).elim
  ·simp only [br] at hv;obtain ⟨cs,fe⟩:=CB (O:=O) (w:=w) (a:=a) ho;have hl:=Bf hH ht args.toList
   cases hx:da tm (gk H args.toList) with
   | nil=>simp [hx] at hv
   | cons c r=>
    simp only [hx] at hv;rw [hx] at hl;simp only [av] at hl;obtain ⟨u,us,h1,h2,h3⟩:=hl;obtain ⟨q,h4,h5⟩:=Pn (O:=O) (g:=Builtin.min2) (fun va vb v x y hx hy h=>aqK hx hy h) r us c v u h2 h3 hv;refine ⟨q,?_,h5⟩;rw [fe];simp [builtin,Builtin.min_,h1,h4]
  ·simp only [br] at hv;obtain ⟨cs,fe⟩:=CB (O:=O) (w:=w) (a:=a) ho;have hl:=Bf hH ht args.toList
   cases hx:da tm (gk H args.toList) with
   | nil=>simp [hx] at hv
   | cons c r=>
    simp only [hx] at hv;rw [hx] at hl;simp only [av] at hl;obtain ⟨u,us,h1,h2,h3⟩:=hl;obtain ⟨q,h4,h5⟩:=Pn (O:=O) (g:=Builtin.max2) (fun va vb v x y hx hy h=>aqL hx hy h) r us c v u h2 h3 hv;refine ⟨q,?_,h5⟩;rw [fe];simp [builtin,Builtin.max_,h1,h4]
  ·exact (dn hv).elim
 ·exact (dn hv).elim
def YL {kt:yx} {kk:Nat} {vk:AV} (hk:keyOf O.P kt=some kk) (h:rH kk vk=true):∃d,O.P.underlying kt=some d/\Lj d=true/\fits d vk=true:=by
 unfold keyOf at hk
 split at hk
 ·rename_i hu;simp only [yb] at hk;subst hk;refine ⟨_,hu,rfl,?_⟩;cases vk<;>simp_all [rH,fits]
 ·rename_i hu;simp only [yb] at hk;subst hk;refine ⟨_,hu,rfl,?_⟩;cases vk<;>simp_all [rH,fits]
 ·rename_i hu;simp only [yb] at hk;subst hk;refine ⟨_,hu,rfl,?_⟩;cases vk<;>simp_all [rH,fits]
 ·cases hk
def abe {o:y9} {k:Nat} {v:AV} (hH:eT O H) (ht:bW O m S w tm a.tmps) (hh:aO O m S w hp ct)
  (hv:br tm hp (aQ O.P H k o)=some v):Reads O m S w a o v:=by
 cases ho:o.op with
 | call c=>exact amQ hH ht hh ho hv
 | binOp op t x y ty=>exact aow hH ht ho hv
 | move x=>
  simp only [aQ,ho,br,yb] at hv;subst hv;exact ⟨_,by simp only [execOp,ho,Sem.run_pure],cf hH ht x⟩
 | assign x=>
  simp only [aQ,ho,br,yb] at hv;subst hv;exact ⟨_,by simp only [execOp,ho,Sem.run_pure],cf hH ht x⟩
 | pick c x y=>
  simp only [aQ,ho,br] at hv;have rc:=cf hH ht c;cases hc:ay tm (aK H c)<;>rw [hc] at hv<;>simp only [reduceCtorEq] at hv
  rename_i b;rw [hc] at rc;simp only [ah] at rc;simp only [yb] at hv;subst hv
  cases b with
  | true=>exact ⟨a.eval x,by simp [execOp,ho,rc,asBool],cf hH ht x⟩
  | false=>exact ⟨a.eval y,by simp [execOp,ho,rc,asBool],cf hH ht y⟩
 | load t x=>
  simp only [aQ,ho] at hv
  split at hv
  ·rename_i s ag hz ha;simp only [br] at hv;exact jh (by simp only [execOp,ho]) (axg hh hz ha (cf hH ht x) hv)
  ·exact (dn hv).elim
 | fieldAddr t x i=>
  simp only [aQ,ho] at hv
  split at hv
  ·rename_i fs hu
   split at hv
   ·rename_i f hf
    split at hv
    ·rename_i s hz;simp only [br] at hv;exact jh (by simp only [execOp,ho]) (asY hu hf hz (cf hH ht x) hv)
    ·exact (dn hv).elim
   ·exact (dn hv).elim
  ·exact (dn hv).elim
 | field t x i=>
  simp only [aQ,ho] at hv
  split at hv
  ·rename_i fs hu
   split at hv
   ·rename_i f hf
    split at hv
    ·rename_i s ag hz ha;simp only [br] at hv;exact jh (by simp only [execOp,ho]) (asZ hu hf hz ha (cf hH ht x) hv)
    ·exact (dn hv).elim
   ·exact (dn hv).elim
  ·exact (dn hv).elim
 | nilCheck x=>
  simp only [aQ,ho,br] at hv;have rx:=cf hH ht x;cases hx:ay tm (aK H x)<;>rw [hx] at hv rx<;>simp only [reduceCtorEq,yb] at hv
  ·subst hv;have r':=rx;simp only [ah] at r';obtain ⟨p,_,e⟩:=r';exact ⟨a.eval x,by simp only [execOp,ho,e,Sem.run_pure],rx⟩
  ·subst hv;have r':=rx;simp only [ah] at r';obtain ⟨b,o',e,_⟩:=r';exact ⟨a.eval x,by simp only [execOp,ho,e,Sem.run_pure],rx⟩
  ·subst hv;rename_i f _ _
   cases f with
   | f g=>
    have r':=rx;simp only [ah] at r';obtain ⟨fi,ca,e,_⟩:=r';exact ⟨a.eval x,by simp only [execOp,ho,e,Sem.run_pure],rx⟩
   | y l=>
    have r':=rx;simp only [ah] at r';obtain ⟨p,_,e⟩:=r';exact ⟨a.eval x,by simp only [execOp,ho,e,Sem.run_pure],rx⟩
 | unOp op t x=>
  simp only [aQ,ho,br] at hv;exact jh (by simp only [execOp,ho]) (aqJ (cf hH ht x) hv)
 | convert s d x=>
  simp only [aQ,ho] at hv
  split at hv
  ·rename_i k1 k2 hs hd;simp only [br] at hv;exact jh (by simp only [execOp,ho]) (aae hd (.inl ⟨_,hs⟩) (cf hH ht x) hv)
  ·rename_i k1 k2 hs hd;simp only [br] at hv;exact jh (by simp only [execOp,ho]) (aae hd (.inr ⟨_,hs⟩) (cf hH ht x) hv)
  ·rename_i k1 k2 hs hd;simp only [br] at hv;exact jh (by simp only [execOp,ho]) (aaf hd (.inl ⟨_,hs⟩) (cf hH ht x) hv)
  ·rename_i k1 k2 hs hd;simp only [br] at hv;exact jh (by simp only [execOp,ho]) (aaf hd (.inr ⟨_,hs⟩) (cf hH ht x) hv)
  ·rename_i hs hd;simp only [br] at hv;exact jh (by simp only [execOp,ho]) (aot hd hs (cf hH ht x) hv)
  ·exact (dn hv).elim
 | makeFunc fn first cap=>
  cases fn with
  | func f=>
   simp only [aQ,ho] at hv
   split at hv
   ·rename_i g hg;simp only [br,yb] at hv;subst hv;refine ⟨.func (.func f) (first.map a.eval) (cap.map a.eval),by simp [execOp,ho,Instr.makeFunc],?_⟩;simp only [ah];exact ⟨_,_,by rw [hH f g hg],by simpa using Bf hH ht first.toList,by simpa using Bf hH ht cap.toList⟩
   ·exact (dn hv).elim
  | _=>simp only [aQ,ho] at hv;exact (dn hv).elim
 | slice t x lo hi mx=>
  cases mx with
  | some q=>simp only [aQ,ho] at hv;exact (dn hv).elim
  | none=>
   simp only [aQ,ho] at hv
   split at hv
   ·rename_i hu;simp only [br] at hv;exact jh (by simp only [execOp,ho];rfl) (amO hH ht hu (cf hH ht x) hv)
   ·rename_i e hu
    split at hv
    ·rename_i s hz;simp only [br] at hv;exact jh (by simp only [execOp,ho];rfl) (aou hH ht hu hz hh (cf hH ht x) hv)
    ·exact (dn hv).elim
   ·split at hv
    ·simp only [br] at hv;cases hx:ay tm (aK H x)<;>rw [hx] at hv<;>simp [fb] at hv
    ·exact (dn hv).elim
   ·exact (dn hv).elim
 | indexAddr t x i=>
  simp only [aQ,ho] at hv
  split at hv
  ·rename_i e hu
   split at hv
   ·rename_i s hz;simp only [br] at hv
    cases hk:dD (ay tm (aK H i)) with
    | none=>simp [hk] at hv
    | some j=>
     simp only [hk] at hv;exact jh (by simp only [execOp,ho]) (as0 hu hz (cf hH ht x) (cf hH ht i) hk hv)
   ·exact (dn hv).elim
  ·rename_i n e hu
   split at hv
   ·rename_i s hz;simp only [br] at hv
    cases hk:dD (ay tm (aK H i)) with
    | none=>simp [hk] at hv
    | some j=>
     simp only [hk] at hv;exact jh (by simp only [execOp,ho]) (as3 hu hz (cf hH ht x) (cf hH ht i) hk hv)
   ·exact (dn hv).elim
  ·exact (dn hv).elim
 | index t x i=>
  simp only [aQ,ho] at hv
  split at hv
  ·rename_i hu;simp only [br] at hv
   cases hk:dD (ay tm (aK H i)) with
   | none=>simp [hk] at hv
   | some j=>
    simp only [hk] at hv;exact jh (by simp only [execOp,ho]) (as5 hu (cf hH ht x) (cf hH ht i) hk hv)
  ·rename_i n e hu
   split at hv
   ·rename_i s ag hz ha;simp only [br] at hv
    cases hk:dD (ay tm (aK H i)) with
    | none=>simp [hk] at hv
    | some j=>
     simp only [hk] at hv;exact jh (by simp only [execOp,ho]) (as4 hu hz ha (cf hH ht x) (cf hH ht i) hk hv)
   ·exact (dn hv).elim
  ·exact (dn hv).elim
 | lookup t x i ok=>
  simp only [aQ,ho] at hv
  split at hv
  ·rename_i kt e hu
   split at hv
   ·rename_i kk z pC hz;simp only [br] at hv
    cases hf:rH kk (ay tm (aK H i)) with
    | false=>simp [hf] at hv
    | true=>
     simp only [hf,yz] at hv;obtain ⟨d,jy,fN,WL⟩:=YL pC hf;obtain ⟨zv,kQ,rfl⟩:=CO (w:=w) hz
     cases hr:zJ hp (ay tm (aK H i)) (ay tm (aK H x)) with
     | none=>simp [hr] at hv
     | some r=>
      refine jh (by simp only [execOp,ho]) (as6 (ok:=ok) (r:=r) (z:=eh zv) hh hu jy fN WL kQ (cf hH ht x) (cf hH ht i) (Kb zv) hr ?_);cases r<;>simpa [hr] using hv
   ·exact (dn hv).elim
  ·exact (dn hv).elim
 | extract x i=>
  simp only [aQ,ho,br] at hv;have rx:=cf hH ht x;cases hx:ay tm (aK H x)<;>rw [hx] at hv rx<;>simp only [reduceCtorEq] at hv
  simp only [ah] at rx;obtain ⟨xs,e,hr⟩:=rx;obtain ⟨u,h1,h2⟩:=OW hr hv;refine ⟨u,?_,h2⟩;have WM:xs[i]? =some u:=by simpa using h1
  simp [execOp,ho,e,Instr.extract,WM]
 | build t parts=>
  simp only [aQ,ho] at hv
  split at hv
  ·rename_i fs z hu hz
   split at hv
   ·rename_i pl ayL;have mh:=run_places (P:=O.P) w fs.toList pl ayL
    split at hv
    case h_2=>exact (dn hv).elim
    rename_i ps gI;simp only [br] at hv
    cases hf:fill tm z ps with
    | none=>simp [hf] at hv
    | some cs=>
     simp only [hf,yb] at hv;subst hv;obtain ⟨zv,kQ,jc⟩:=CO (w:=w) hz;have sH:av O.af m S w z zv.cells.toList:=by
      have:=AU (af:=O.af) (m:=m) (S:=S) (w:=w) zv
      rw [<-jc] at this;exact this
     obtain ⟨out,h1,h2⟩:=Kd hH ht (place:=fun i=>pl[i]?) parts.toList ps z cs zv.cells gI sH hf;refine ⟨.agg out,?_,by simp only [ah];exact ⟨out,rfl,h2⟩⟩
     have hm:(Array.mapM (fun f=>Functor.map (Prod.mk f.offset) (vc f.type)) fs:Sem (Array (Nat×Nat))).run O.P w= .ok pl.toArray w:=by
      rw [Array.mapM_eq_mapM_toList];simp [mh]
     simp [execOp,ho,Instr.build,kQ,run_underlying hu,hm,h1]
   ·exact (dn hv).elim
  ·rename_i n e z hu hz
   split at hv
   ·rename_i s hs
    split at hv
    ·rename_i ps gI;simp only [br] at hv
     cases hf:fill tm z ps with
     | none=>simp [hf] at hv
     | some cs=>
      simp only [hf,yb] at hv;subst hv;obtain ⟨zv,kQ,jc⟩:=CO (w:=w) hz;have sH:av O.af m S w z zv.cells.toList:=by
       have:=AU (af:=O.af) (m:=m) (S:=S) (w:=w) zv
       rw [<-jc] at this;exact this
      obtain ⟨out,h1,h2⟩:=Kd hH ht (place:=fun i=>some (i*s,s)) parts.toList ps z cs zv.cells gI sH hf;refine ⟨.agg out,?_,by simp only [ah];exact ⟨out,rfl,h2⟩⟩
      simp [execOp,ho,Instr.build,kQ,run_underlying hu,mw hs,h1]
    ·exact (dn hv).elim
   ·exact (dn hv).elim
  ·exact (dn hv).elim
 | alloc t=>simp only [aQ,ho] at hv;split at hv<;>simp [br,bad] at hv
 | box t x=>simp only [aQ,ho] at hv;split at hv<;>simp [br,bad] at hv
 | buildSlice t n parts=>
  simp only [aQ,ho] at hv
  split at hv
  ·split at hv
   ·rename_i s z _ _
    cases hc:yy (n*s) 16777216 with
    | false=>rw [hc] at hv;exact (dn hv).elim
    | true=>
     rw [hc] at hv;simp only [yz] at hv
     split at hv
     ·simp [br] at hv
     ·exact (dn hv).elim
   ·exact (dn hv).elim
  ·exact (dn hv).elim
 | makeMap t r=>
  cases r<;>simp only [aQ,ho] at hv
  ·repeat' split at hv
   all_goals simp [br,bad] at hv
  ·exact (dn hv).elim
 | makeSlice t l c=>
  simp only [aQ,ho] at hv
  repeat' split at hv
  all_goals simp [br,bad] at hv
 | insert t x k y=>
  simp only [aQ,ho] at hv
  repeat' split at hv
  all_goals simp [br,bad] at hv
 | mapUpdate t x k y=>
  simp only [aQ,ho] at hv
  repeat' split at hv
  all_goals simp [br,bad] at hv
 | store t x y=>simp only [aQ,ho] at hv;split at hv<;>simp [br,bad] at hv
 | range t x=>simp only [aQ,ho] at hv;split at hv<;>simp [br,bad] at hv
 | next x b=>cases b<;>simp [aQ,ho,br,bad] at hv
 | _=>simp [aQ,ho,br,bad] at hv
end
end
section
open Go
def ff (m:Mp) (id:Nat) (p:Pl):Mp:=fun i=>if i=id then some p else m i
def dC {m:Mp} {id:Nat} {p:Pl}:ff m id p id=some p:=by simp [ff]
def dP {m:Mp} {id i:Nat} {p:Pl} (h:i≠id):ff m id p i=m i:=by simp [ff,h]
section
variable {O:bh} {m:Mp} {S:Nat->Prop} {w:yi} {hp:Hp} {ct:Nat}
def cR (m m':Mp):Prop:=∀id p,m id=some p->m' id=some p
def cR.refl {m:Mp}:cR m m:=fun _ _ h=>h
def cR.trans {m m' Ip:Mp} (h:cR m m') (k:cR m' Ip):cR m Ip:=fun id p hp=>k id p (h id p hp)
def iJ {i:Nat} (h:m i=none) {p:Pl}:cR m (ff m i p):=by
 intro id q hq;rw [dP]
 ·grind
 ·grind
def zc {tm:Env} {tmps:Array yg} {m':Mp} {S':Nat->Prop} {w':yi} (hm:∀id p,m id=some p->m' id=some p) (hS:∀b,S b->S' b) (hw:fp S w w')
  (h:bW O m S w tm tmps):bW O m' S' w' tm tmps:=fun i=>kj hm hS hw _ _ (h i)
def alloc_old {o:tR} {b:Nat} (hb:b<w.heap.size):(w.alloc o).heap[b]? =w.heap[b]? :=RowKit.Below.heap_alloc w o b hb
def pT {m':Mp} {S':Nat->Prop} {w':yi} {id:Nat} {o:Obj} (hm:∀id p,m id=some p->m' id=some p) (hS:∀b,S b->S' b) (hw:fp S w w') (hb:∀p,m id=some p->w'.heap[p.b]? =w.heap[p.b]?)
  (hn:∀p,m id=some p->S' p.b->S p.b) (h:eM O m S w id o):eM O m' S' w' id o:=by
 have rowAt:∀(cs:List AV) (b k:Nat),w'.heap[b]? =w.heap[b]? ->bN O.af m S w cs b k->bN O.af m' S' w' cs b k:=by
  intro cs
  induction cs with
  | nil=>intro b k _ _;simp only [bN]
  | cons c cs ih=>
   intro b k qR hr;obtain ⟨⟨u,h1,h2⟩,h3⟩:=hr;exact ⟨⟨u,(Jh qR).trans h1,kj hm hS hw _ _ h2⟩,ih b (k+1) qR h3⟩
 cases o with
 | cells rw pu ex sz cs=>
  obtain ⟨p,arr,t,h1,h2,h3,h4,h5,h6,h7,h8,h9,gY⟩:=h;exact ⟨p,arr,t,hm _ _ h1,(hb p h1).trans h2,h3,h4,h5,h6,rowAt cs p.b p.o (hb p h1) h7,h8,fun hr hs=>h9 hr (hn p h1 hs),fun hr=>hS _ (gY hr)⟩
 | mp rw ks vs=>
  obtain ⟨p,es,clock,h1,h2,h3,h4,h5,h6⟩:=h;exact ⟨p,es,clock,hm _ _ h1,(hb p h1).trans h2,fZ hm hS hw _ _ h3,fZ hm hS hw _ _ h4,fun hr hs=>h5 hr (hn p h1 hs),fun hr=>hS _ (h6 hr)⟩
 | si s pos=>
  obtain ⟨p,t,h1,h2,h3,h4⟩:=h;exact ⟨p,t,hm _ _ h1,(hb p h1).trans h2,h3,fun hs=>h4 (hn p h1 hs)⟩
 | lp tm ps cy body st pe=>
  obtain ⟨p,l,hi,h1,h2,h3,h4,h5,h6,h7,h8⟩:=h;exact ⟨p,l,hi,hm _ _ h1,(hb p h1).trans h2,fun hs=>h3 (hn p h1 hs),h4,h5,h6,zc hm hS hw h7,h8⟩
def fm {id i:Nat} {o:Obj}:aA ((id,o)::hp) i=if id=i then some o else aA hp i:=by
 simp only [aA]
 simp_all
def FD (hh:aO O m S w hp ct) (g:tR):fp S w (w.alloc g):=fun b hb=>alloc_old (hh.slt b hb)
def ix:Obj->Obj->Prop
 | .cells rw pu ex sz cs,o'=>∃eY,o'= .cells eY pu ex sz cs/\(eY=true->rw=true)
 | .mp rw ks vs,o'=>∃eY,o'= .mp eY ks vs/\(eY=true->rw=true)
 | .si s pos,o'=>o'= .si s pos
 | .lp tm ps cy body st pe,o'=>o'= .lp tm ps cy body st pe
def ix.refl:∀o,ix o o
 | .cells rw _ _ _ _=>⟨rw,rfl,fun h=>h⟩
 | .mp rw _ _=>⟨rw,rfl,fun h=>h⟩
 | .si _ _=>rfl
 | .lp _ _ _ _ _ _=>rfl
def ix.trans {a b c:Obj} (h:ix a b) (k:ix b c):ix a c:=by
 cases a with
 | cells rw pu ex sz cs=>
  obtain ⟨r1,rfl,h1⟩:=h;obtain ⟨r2,rfl,h2⟩:=k;exact ⟨r2,rfl,fun h=>h1 (h2 h)⟩
 | mp rw ks vs=>
  obtain ⟨r1,rfl,h1⟩:=h;obtain ⟨r2,rfl,h2⟩:=k;exact ⟨r2,rfl,fun h=>h1 (h2 h)⟩
 | si s pos=>simp only [ix] at h;subst h;exact k
 | lp tm ps cy body st pe=>simp only [ix] at h;subst h;exact k
def cL (hp ap:Hp):Prop:=∀id o,aA hp id=some o->∃o',aA ap id=some o'/\ix o o'
def cL.refl {hp:Hp}:cL hp hp:=fun _ o h=>⟨o,h,ix.refl o⟩
def cL.trans {a b c:Hp} (h:cL a b) (k:cL b c):cL a c:=fun id o ho=>
 let ⟨o1,h1,l1⟩:=h id o ho
 let ⟨o2,h2,l2⟩:=k id o1 h1
 ⟨o2,h2,l1.trans l2⟩
def gO:Obj->Prop
 | .cells rw _ _ _ _=>rw=false
 | .mp rw _ _=>rw=false
 | _=>False
def abf {ap:Hp} {aV:Nat} (hh:aO O m S w hp ct) (hl:cL hp ap) (hd:∀id o p,aA ap id=some o->m id=some p->∃o',aA hp id=some o') (fO:ct<=aV) (ayM:∀id o,aA ap id=some o->id<aV):
  ∃S',aO O m S' w ap aV/\(∀b,S b->S' b)/\∀b,S' b->S b\/dN m hp b:=by
 refine ⟨fun b=>S b\/∃id p o,m id=some p/\p.b=b/\aA ap id=some o/\gO o,?_,fun b h=> .inl h,?_⟩
 ·refine ⟨?_,fun id p h=>yE (hh.lt id p h) fO,?_,?_,hh.blt,hh.low,hh.ju,hh.fB,ayM⟩
  ·intro id o' p jb hm;obtain ⟨o,ho⟩:=hd id o' p jb hm;obtain ⟨WO,h1,h2⟩:=hl id o ho;rw [jb] at h1;injection h1 with h1
   subst h1;have h3:=hh.obj id o p ho hm;have hS:∀b,S b->(S b\/∃id p o,m id=some p/\p.b=b/\aA ap id=some o/\gO o):=fun b h=> .inl h
   have nh:∀q,m id=some q->(∃id p o,m id=some p/\p.b=q.b/\aA ap id=some o/\gO o)->gO o':=by
    rintro q hq ⟨j,pj,oj,B6,hj2,hj3,hj4⟩;obtain ⟨Ir,hj5⟩:=hd j oj pj hj3 B6
    have:=hh.inj id j o Ir q pj ho hj5 hq B6 hj2.symm
    grind
   have aT:fp S w w:=fun _ _=>rfl
   cases o with
   | cells rw pu ex sz cs=>
    obtain ⟨eY,rfl,pD⟩:=h2;obtain ⟨q,arr,t,h1,h2,h3,h4,h5,h6,h7,h8,h9,gY⟩:=h3;refine ⟨q,arr,t,h1,h2,h3,h4,h5,h6,?_,h8,?_,?_⟩
    ·clear h4 h6 h8;revert h7;generalize q.o=k
     induction cs generalizing k with
     | nil=>intro _;simp only [bN]
     | cons c cs ih=>
      intro hr;simp only [bN] at hr ⊢;obtain ⟨⟨u,g1,g2⟩,g3⟩:=hr
      exact ⟨⟨u,g1,kj (fun _ _ h=>h) hS aT _ _ g2⟩,by
       have B4:∀(cs:List AV) (b k:Nat),bN O.af m S w cs b k->bN O.af m (fun b=>S b\/∃id p o,m id=some p/\p.b=b/\aA ap id=some o/\gO o) w cs b k:=by
        intro cs
        induction cs with
        | nil=>intro b k _;simp only [bN]
        | cons c cs ih=>
         intro b k hr;simp only [bN] at hr ⊢;obtain ⟨⟨u,g1,g2⟩,g3⟩:=hr;exact ⟨⟨u,g1,kj (fun _ _ h=>h) hS aT _ _ g2⟩,ih b (k+1) g3⟩
       exact B4 _ _ _ g3⟩
    ·rintro hr (hs | hs)
     ·grind
     ·have:=nh q h1 hs
      simp only [gO] at this
      grind
    ·intro hr;exact .inr ⟨id,q,_,h1,rfl,jb,hr⟩
   | mp rw ks vs=>
    obtain ⟨eY,rfl,pD⟩:=h2;obtain ⟨q,es,clock,h1,h2,h3,h4,h5,h6⟩:=h3;refine ⟨q,es,clock,h1,h2,fZ (fun _ _ h=>h) hS aT _ _ h3,fZ (fun _ _ h=>h) hS aT _ _ h4,?_,?_⟩
    ·rintro hr (hs | hs)
     ·grind
     ·have:=nh q h1 hs
      simp only [gO] at this
      grind
    ·intro hr;exact .inr ⟨id,q,_,h1,rfl,jb,hr⟩
   | si s pos=>
    simp only [ix] at h2;subst h2;refine pT (fun _ _ h=>h) hS aT (fun _ _=>rfl) (fun q hq hs=>?_) h3;rcases hs with hs | hs
    ·grind
    ·exact (nh q hq hs).elim
   | lp tm ps cy body st pe=>
    simp only [ix] at h2;subst h2;refine pT (fun _ _ h=>h) hS aT (fun _ _=>rfl) (fun q hq hs=>?_) h3;rcases hs with hs | hs
    ·grind
    ·exact (nh q hq hs).elim
  ·intro i j oi oj pi pj hi hj bH fP e;obtain ⟨Is,jT⟩:=hd i oi pi hi bH;obtain ⟨Ir,WQ⟩:=hd j oj pj hj fP;exact hh.inj i j Is Ir pi pj jT WQ bH fP e
  ·rintro b (hb | ⟨id,p,o,h1,rfl,_,_⟩)
   ·exact hh.slt b hb
   ·exact hh.blt id p h1
 ·rintro b (hb | ⟨id,p,o,h1,rfl,h3,_⟩)
  ·exact .inl hb
  ·obtain ⟨o',jb⟩:=hd id o p h3 h1;exact .inr ⟨id,o',p,jb,h1,rfl⟩
def OY {i:Nat} (hh:aO O m S w hp ct) (hi:m i=none) (D4:i<ct) {g:tR} {p:Pl} (hb:p.b=w.heap.size)
  (hf:∀o,aA hp i=some o->(eM O (ff m i p) S (w.alloc g) i o/\¬gO o)\/
   (gO o/\eM O (ff m i p) (fun b=>S b\/b=w.heap.size) (w.alloc g) i o)):
  ∃S',aO O (ff m i p) S' (w.alloc g) hp ct/\(∀b,S b->S' b)/\∀b,S' b->S b\/b=w.heap.size:=by
 have ez:(w.alloc g).heap.size=w.heap.size+1:=by simp
 have aY:O.w0.heap.size<=w.heap.size:=hh.fB;have gen:∀S':Nat->Prop,(∀b,S b->S' b)->(∀b,S' b->S b\/b=w.heap.size)->(∀o,aA hp i=some o->eM O (ff m i p) S' (w.alloc g) i o)->aO O (ff m i p) S' (w.alloc g) hp ct:=by
  intro S' h1 h2 h3;have It:∀id q,m id=some q->¬q.b=w.heap.size:=fun id q hq=>by have:=hh.blt id q hq;omega
  refine ⟨?_,?_,?_,?_,?_,?_,?_,?_,hh.aF⟩
  ·intro id o q ho hm;by_cases hc:id=i
   ·grind
   ·rw [dP hc] at hm;refine pT (iJ hi) h1 (FD hh g) (fun q' bL=>alloc_old (hh.blt id q' bL)) (fun q' bL hs=>?_) (hh.obj id o q ho hm)
    grind
  ·intro id q hm;by_cases hc:id=i
   ·grind
   ·rw [dP hc] at hm;exact hh.lt id q hm
  ·intro a b oa ob pa pb ha bJ B7 r7 e;by_cases ca:a=i
   ·by_cases cb:b=i
    ·grind
    ·subst ca;rw [dC] at B7;rw [dP cb] at r7
     grind
   ·rw [dP ca] at B7;by_cases cb:b=i
    ·subst cb;rw [dC] at r7
     grind
    ·rw [dP cb] at r7;exact hh.inj a b oa ob pa pb ha bJ B7 r7 e
  ·intro b hs;rcases h2 b hs with h | h
   ·have:=hh.slt b h;omega
   ·omega
  ·intro id q hm;by_cases hc:id=i
   ·subst hc;rw [dC] at hm
    grind
   ·rw [dP hc] at hm
    have:=hh.blt id q hm
    omega
  ·intro id q hm;by_cases hc:id=i
   ·subst hc;rw [dC] at hm
    grind
   ·rw [dP hc] at hm;exact hh.low id q hm
  ·intro b qR;exact (alloc_old (by omega)).trans (hh.ju b qR)
  ·omega
 cases ho:aA hp i with
 | none=>exact ⟨S,gen S (fun _ h=>h) (fun _ h=> .inl h) (fun o h=>by rw [ho] at h;cases h),fun _ h=>h,fun _ h=> .inl h⟩
 | some o=>
  rcases hf o ho with ⟨h1,_⟩ | ⟨_,h1⟩
  ·exact ⟨S,gen S (fun _ h=>h) (fun _ h=> .inl h) (fun o' h=>by rw [ho] at h;injection h with h;subst h;exact h1),fun _ h=>h,fun _ h=> .inl h⟩
  ·exact ⟨_,gen (fun b=>S b\/b=w.heap.size) (fun _ h=> .inl h) (fun _ h=>h) (fun o' h=>by rw [ho] at h;injection h with h;subst h;exact h1),fun _ h=> .inl h,fun _ h=>h⟩
def Od {id:Nat} {o o':Obj} {p:Pl} (hl:ix o o') (hm:m id=some p) (h:eM O m S w id o) (hn:¬gO o):
  (eM O m S w id o'/\¬gO o')\/(gO o'/\eM O m (fun b=>S b\/b=p.b) w id o'):=by
 have hS:∀b,S b->(S b\/b=p.b):=fun _ h=> .inl h
 have aT:fp S w w:=fun _ _=>rfl
 cases o with
 | cells rw pu ex sz cs=>
  obtain ⟨eY,rfl,pD⟩:=hl
  cases eY with
  | true=>
   grind
  | false=>
   refine .inr ⟨rfl,?_⟩;obtain ⟨q,arr,t,h1,h2,h3,h4,h5,h6,h7,h8,h9,gY⟩:=h;rw [hm] at h1;injection h1 with h1
   subst h1;have B4:∀(cs:List AV) (b k:Nat),bN O.af m S w cs b k->bN O.af m (fun b=>S b\/b=p.b) w cs b k:=by
    intro cs
    induction cs with
    | nil=>intro b k _;simp only [bN]
    | cons c cs ih=>
     intro b k hr;obtain ⟨⟨u,g1,g2⟩,g3⟩:=hr;exact ⟨⟨u,g1,kj (fun _ _ h=>h) hS aT _ _ g2⟩,ih b (k+1) g3⟩
   exact ⟨p,arr,t,hm,h2,h3,h4,h5,h6,B4 _ _ _ h7,h8,by simp,fun _=> .inr rfl⟩
 | mp rw ks vs=>
  obtain ⟨eY,rfl,pD⟩:=hl
  cases eY with
  | true=>
   grind
  | false=>
   refine .inr ⟨rfl,?_⟩;obtain ⟨q,es,clock,h1,h2,h3,h4,h5,h6⟩:=h;rw [hm] at h1;injection h1 with h1
   subst h1;exact ⟨p,es,clock,hm,h2,fZ (fun _ _ h=>h) hS aT _ _ h3,fZ (fun _ _ h=>h) hS aT _ _ h4,by simp,fun _=> .inr rfl⟩
 | si s pos=>simp only [ix] at hl;subst hl;exact .inl ⟨h,hn⟩
 | lp tm ps cy body st pe=>simp only [ix] at hl;subst hl;exact .inl ⟨h,hn⟩
end
end
section
open Go
section
variable {O:bh} {H:Hint} {m:Mp} {S:Nat->Prop} {w:yi} {tm:Env} {a:Act} {hp:Hp} {ct cq:Nat}
def JD {af:Nat->Nat} {b:Nat} {arr:Array yg} {t:yx} {fr:Nat×Nat} (hb:w.heap[b]? =some (.cells arr t fr)):∀(cs:List AV) (us:List yg) (o:Nat),
  av af m S w cs us->(∀(j:Nat) (u:yg),us[j]? =some u->arr[o+j]? =some u)->bN af m S w cs b o
 | [],us,o,_,_=>by simp only [bN]
 | c::cs,us,o,h,hu=>by
  simp only [av] at h;obtain ⟨u,r,rfl,h2,h3⟩:=h;simp only [bN];refine ⟨⟨u,?_,h2⟩,JD hb cs r (o+1) h3 (fun j v hv=>?_)⟩
  ·have:=hu 0 u (by simp)
   simpa [World.cell?,hb] using this
  ·have:=hu (j+1) v (by simpa using hv)
   rw [show o+1+j=o+(j+1) by omega];exact this
def aqM (hh:aO O m S w hp cq) {i:Nat} {arr:Array yg} {t:yx} {cs:List AV} {us:List yg} {pu ex:Bool} {sz:Nat} (hr:av O.af m S w cs us)
  (hu:∀(j:Nat) (u:yg),us[j]? =some u->arr[j]? =some u) (hl:cs.length<=arr.size) (hex:ex=true->cs.length=arr.size) (gU:pu=true->aH cs=true)
  (m':Mp) (hm:cR m m') (hi:m' i=some ⟨w.heap.size,0,arr.size,sz⟩):eM O m' S (w.alloc (.cells arr t)) i (.cells true pu ex sz cs):=by
 refine ⟨⟨w.heap.size,0,arr.size,sz⟩,arr,t,hi,heap_alloc_new w _,rfl,hl,by simp,hex,?_,gU,?_,by simp⟩
 ·exact JD (heap_alloc_new w _) cs us 0 (fZ hm (fun _ h=>h) (FD hh _) _ _ hr) (by simpa using hu)
 ·intro _ hS
  have:=hh.slt _ hS
  simp at this
def BA (O:bh) (m:Mp) (S:Nat->Prop) (w:yi) (a:Act) (ct:Nat) (o:y9) (v:AV) (b:Obj):Prop:=
 ∃u g p,(execOp a.eval o).run O.P w= .ok (.value u) (w.alloc g)/\p.b=w.heap.size/\¬gO b/\
  ∀m',cR m m'->m' ct=some p->eM O m' S (w.alloc g) ct b/\ah O.af m' S (w.alloc g) v u
def OD {o:y9} {arr:Array yg} {t:yx} {cs:List AV} {us:List yg} {pu ex:Bool} {sz:Nat} {v:AV} {u:yg} (hh:aO O m S w hp cq)
  (he:(execOp a.eval o).run O.P w= .ok (.value u) (w.alloc (.cells arr t))) (hr:av O.af m S w cs us)
  (hu:∀(j:Nat) (u:yg),us[j]? =some u->arr[j]? =some u) (hl:cs.length<=arr.size) (hex:ex=true->cs.length=arr.size) (gU:pu=true->aH cs=true)
  (hv:∀m':Mp,m' ct=some ⟨w.heap.size,0,arr.size,sz⟩->ah O.af m' S (w.alloc (.cells arr t)) v u):BA O m S w a ct o v (.cells true pu ex sz cs):=
 ⟨u,_,⟨w.heap.size,0,arr.size,sz⟩,he,rfl,by simp [gO],fun m' hm hi=>⟨aqM hh hr hu hl hex gU m' hm hi,hv m' hi⟩⟩
def aah {o:y9} {t:yx} {x:yg} {vx v:AV} {b:Obj} {sz:Nat} (hh:aO O m S w hp cq) (he:(execOp a.eval o).run O.P w= .ok (.value (.pointer (some ⟨w.heap.size,0,none⟩))) (w.alloc (.cells x.cells t))) (hx:av O.af m S w (cellsOf vx) x.cells.toList)
  (hv:(bif yp (cellsOf vx).length sz&&cK (cellsOf vx) then some (AV.ptr ct 0,Obj.cells true (aH (cellsOf vx)) true sz (cellsOf vx)) else none)=some (v,b)):BA O m S w a ct o v b:=by
 cases hc:(yp (cellsOf vx).length sz&&cK (cellsOf vx)) with
 | false=>rw [hc] at hv;cases hv
 | true=>
  rw [hc] at hv;obtain ⟨rfl,rfl⟩:=hv;have hlen:=gh _ _ hx;refine OD hh he hx (fun j u hj=>by simpa using hj) (by rw [<-hlen];simp) (fun _=>by rw [<-hlen];simp) (fun h=>h) (fun m' hi=>?_)
  simp only [ah];exact ⟨_,hi,by simp⟩
def aox {o:y9} {t:yx} {r:Option xq} (hh:aO O m S w hp cq) (ho:o.op= .makeMap t r) (hr:r=none):BA O m S w a ct o (.map ct) (.mp true [] []):=by
 subst hr;refine ⟨.map (some w.heap.size),.map #[] 0,⟨w.heap.size,0,0,0⟩,by simp [execOp,ho,Instr.makeMap],rfl,by simp [gO],fun m' _ hi=>⟨?_,?_⟩⟩
 ·refine ⟨_,#[],0,hi,heap_alloc_new w _,by simp [av],by simp [av],?_,by simp⟩;intro _ hS
  have:=hh.slt _ hS
  simp at this
 ·simp only [ah];exact ⟨_,hi,rfl⟩
def amR {o:y9} {t:yx} {x:xq} {s:List Nat} (hh:aO O m S w hp cq) (ho:o.op= .range t x) (hu:O.P.underlying t=some .string) (hx:ah O.af m S w (.str s) (a.eval x)):
  BA O m S w a ct o (.it ct) (.si s 0):=by
 obtain ⟨b,e,rfl⟩:=hx;refine ⟨.pointer (some ⟨w.heap.size,0,none⟩),.stringIter b 0,⟨w.heap.size,0,0,0⟩,by simp [execOp,ho,Instr.range,run_underlying hu,e],rfl,by simp [gO],fun m' _ hi=>⟨?_,?_⟩⟩
 ·refine ⟨_,b,hi,heap_alloc_new w _,rfl,?_⟩;intro hS
  have:=hh.slt _ hS
  simp at this
 ·simp only [ah];exact ⟨_,hi,rfl⟩
end
def amS (zero:Array yg):(ve zero.size).map (fun j=>zero[j]!)=zero.toList:=by
 apply List.ext_getElem
 ·simp
 ·grind
def YM (zero:Array yg):∀n:Nat,(ve (n*zero.size)).map (fun i=>zero[i%zero.size]!)=(yK n zero.toList).flatten
 | 0=>by simp
 | n+1=>by
  rw [xU,ybE,List.range_add,List.map_append,YM zero n,List.replicate_succ',yaz]
  congr 1
  simp only [List.map_map,uv,List.flatten_nil,List.append_nil];rw [<-amS zero];apply List.map_congr_left;intro j hj;simp at hj;simp [Function.comp,xg n,Nat.mod_eq_of_lt hj]
def OZ {af:Nat->Nat} {m:Mp} {S:Nat->Prop} {w:yi} {cs:List AV} {us:List yg} (h:av af m S w cs us):∀n,av af m S w (yK n cs).flatten (yK n us).flatten
 | 0=>by simp [av]
 | n+1=>by rw [vC,vC,uv,uv];exact j9 h (OZ h n)
section
variable {O:bh} {H:Hint} {m:Mp} {S:Nat->Prop} {w:yi} {tm:Env} {a:Act} {hp:Hp} {ct cq:Nat}
def Zu (zero:Array yg) (n:Nat):(Array.map (fun i=>zero[i%zero.size]!) (tj (n*zero.size))).toList=(yK n zero.toList).flatten:=by
 rw [<-YM zero n]
 simp
def aai (tm:Env):∀(ps:List (Nat×Nat×X)) (zero cs:List AV),fill tm zero ps=some cs->cs.length=zero.length
 | [],zero,cs,h=>by simp only [fill,yb] at h;rw [h]
 | (o,sz,x)::r,zero,cs,h=>by
  simp only [fill] at h
  cases hc:(yp (cellsOf (ay tm x)).length sz&&yy (o+sz) zero.length&&cK (cellsOf (ay tm x))) with
  | false=>rw [hc] at h;cases h
  | true=>
   rw [hc] at h;simp only [yf] at hc;have h1:=yj hc.1.1;have h2:=yo hc.1.2;rw [aai tm r _ _ h];simp only [over,yY,yW,xN];omega
def JT {α:Type} (l:List α):∀n,(yK n l).flatten.length=n*l.length
 | 0=>by simp
 | n+1=>by simp [vC,JT l n,xU,Nat.add_comm]
def amT {o:y9} {t e:yx} {n s:Nat} {z:AV} {parts:Array (Nat×xq)} {ps:List (Nat×Nat×X)} {v:AV} {b:Obj} (hH:eT O H) (ht:bW O m S w tm a.tmps) (hh:aO O m S w hp cq)
  (ho:o.op= .buildSlice t n parts) (hu:O.P.underlying t=some (.slice e)) (hs:cu O.P e=some s) (hz:kD O.P e=some z) (hn:n*s<=16777216)
  (gI:partsOf H (fun i=>some (i*s,s)) parts.toList=some ps)
  (hv:cG tm hp ct (.lm n s (yK n (cellsOf z)).flatten ps)=some (v,b)):BA O m S w a ct o v b:=by
 simp only [cG] at hv
 cases hf:fill tm (yK n (cellsOf z)).flatten ps with
 | none=>simp [hf] at hv
 | some cs=>
  simp only [hf] at hv
  cases hc:yp cs.length (n*s) with
  | false=>rw [hc] at hv;cases hv
  | true=>
   rw [hc] at hv;simp only [yz,yb,yk] at hv;obtain ⟨rfl,rfl⟩:=hv;have hlen:=yj hc;obtain ⟨zv,kQ,rfl⟩:=CO (w:=w) hz;have sH:av O.af m S w (cellsOf (eh zv)) zv.cells.toList:=AU zv;have pE:=gh _ _ sH;have D5:=aai tm ps _ _ hf;rw [JT] at D5;have D6:n*s=n*zv.cells.size:=by
    rw [<-hlen,D5,<-pE];simp
   have key:∃zr:Array yg,(n*s=0->zr=#[])/\(n*s≠0->zr=zv.cells)/\av O.af m S w (yK n (cellsOf (eh zv))).flatten ((tj (n*s)).map (fun x=>zr[x%zr.size]!)).toList:=by
    by_cases h0:n*s=0
    ·refine ⟨#[],fun _=>rfl,fun h=>(h h0).elim,?_⟩
     have:(yK n (cellsOf (eh zv))).flatten=[]:=by
      apply yD;rw [JT,<-pE];simp only [vt];omega
     rw [this];simp [av,h0]
    ·refine ⟨zv.cells,fun h=>(h0 h).elim,fun _=>rfl,?_⟩;rw [D6,Zu];exact OZ sH n
   obtain ⟨zr,Nh,fg,iy⟩:=key;obtain ⟨out,h1,h2⟩:=Kd hH ht (place:=fun i=>some (i*s,s)) parts.toList ps _ cs _ gI iy hf;have qQ:=gh _ _ h2
   refine OD (arr:=out) (t:=e) (us:=out.toList) hh ?_ h2 (fun j u hj=>by simpa using hj) (by rw [<-qQ];simp) (fun _=>by rw [<-qQ];simp) (fun h=>h) (u:= .slice (some ⟨w.heap.size,0,none⟩) n n) ?_
   ·have fU:¬(n*s>2^24):=by omega
    by_cases h0:n*s=0
    ·have:=Nh h0
     subst this;simp only [h0] at h1;simp [execOp,ho,Instr.buildSlice,run_underlying hu,mw hs,h0,newRow] at h1 ⊢;simp [h1]
    ·have:=fg h0
     subst this;simp [execOp,ho,Instr.buildSlice,run_underlying hu,mw hs,h0,fU,kQ,newRow] at h1 ⊢;simp [h1]
   ·intro m' hi;simp only [ah];refine ⟨_,n,hi,by simp,yA _,?_⟩;simp only [yh];rw [<-hlen,<-qQ];simp
def AW:∀{a b:List AV},aH a=true->aH b=true->aH (a++b)=true
 | [],_,_,h=>h
 | c::r,b,h,k=>by
  simp only [aH,yf] at h;simp only [xi,aH,yf];exact ⟨h.1,AW h.2 k⟩
def Zv {z:List AV} (h:aH z=true):∀n,aH (yK n z).flatten=true
 | 0=>by simp [aH]
 | n+1=>by rw [vC,uv];exact AW h (Zv h n)
def aoy {o:y9} {t e:yx} {s bY:Nat} {z:AV} {l c:xq} {v:AV} {b:Obj} (hH:eT O H) (ht:bW O m S w tm a.tmps) (hh:aO O m S w hp cq)
  (ho:o.op= .makeSlice t l c) (hu:O.P.underlying t=some (.slice e)) (hs:cu O.P e=some s) (hb:qM O.P e=some bY) (hz:kD O.P e=some z)
  (hv:cG tm hp ct (.nc s bY (cellsOf z) (aK H l) (aK H c))=some (v,b)):BA O m S w a ct o v b:=by
 simp only [cG] at hv
 cases hl:dD (ay tm (aK H l)) with
 | none=>simp [hl] at hv
 | some ln=>
  cases hc:dD (ay tm (aK H c)) with
  | none=>simp [hl,hc] at hv
  | some cn=>
   simp only [hl,hc] at hv
   cases hk:(yy ln cn&&(yy cn room&&(yy (cn*bY) room&&(yp (cellsOf z).length s&&cK (cellsOf z))))) with
   | false=>rw [hk] at hv;cases hv
   | true=>
    rw [hk] at hv;simp only [yz,yb,yk] at hv;obtain ⟨rfl,rfl⟩:=hv;simp only [yf] at hk;have h1:=yo hk.1;have h2:=yo hk.2.1;have h3:=yo hk.2.2.1;have h4:=yj hk.2.2.2.1;simp only [room] at h2 h3;obtain ⟨kl,el⟩:=rJ (cf hH ht l) hl;obtain ⟨kc,ec⟩:=rJ (cf hH ht c) hc;obtain ⟨zv,kQ,rfl⟩:=CO (w:=w) hz;have sH:av O.af m S w (cellsOf (eh zv)) zv.cells.toList:=AU zv;have pE:=gh _ _ sH;have B8:zv.cells.size=s:=by rw [<-h4,<-pE];simp
    have wrapN:∀k:Nat,k<=1099511627776->IntKind.i64.wrap (k:Int)=k:=fun k hk=>IntWalk.i64_in _ (by omega)
    obtain ⟨ti,pG,ez,WR⟩:∃ti,O.P.info? e=some ti/\ti.size=s/\ti.bytes=bY:=by
     unfold cu at hs;unfold qM at hb
     cases hi:O.P.info? e with
     | none=>simp [hi] at hs
     | some ti=>simp only [hi,yb] at hs hb;exact ⟨ti,rfl,hs,hb⟩
    have BG:((tj (cn*s)).map (zv.cells[·%zv.cells.size]!)).toList=(yK ln zv.cells.toList).flatten++(yK (cn-ln) zv.cells.toList).flatten:=by
     rw [<-B8,Zu,<-yaz,List.replicate_append_replicate]
     grind
    have gV:(yK ln (cellsOf (eh zv))).flatten.length=ln*s:=by rw [JT,h4]
    have hmul:ln*s<=cn*s:=yT _ h1
    refine OD (arr:=(tj (cn*s)).map (zv.cells[·%zv.cells.size]!)) (t:=e) (us:=(yK ln zv.cells.toList).flatten) hh (u:= .slice (some ⟨w.heap.size,0,none⟩) ln cn) ?_
     (OZ sH ln) ?_ ?_ ?_ (fun h=>?_) ?_
    ·have aF2:bY*cn<=1099511627776:=by rw [xg];exact h3
     have pH:((bY*cn:Nat):Int)<=1099511627776:=by omega
     rw [Int.natCast_mul] at pH;have hlc:(ln:Int)<=(cn:Int):=by omega
     have g1:¬(281474976710656<(bY:Int)*(cn:Int)):=by omega
     have g2:¬(((ln:Int)<0)):=by omega
     have g3:¬(((cn:Int)<0)):=by omega
     have g4:¬((ln:Int)>(cn:Int)):=by omega
     by_cases h0:cn*s=0
     ·simp [execOp,ho,Instr.makeSlice,run_underlying hu,el,ec,asInt,asIntOf,typeInfo,pG,WR,wrapN ln (by omega),wrapN cn h2,g1,g2,g3,g4,mw hs,h0,newRow,askRoom,roomBytes]
      grind
     ·simp [execOp,ho,Instr.makeSlice,run_underlying hu,el,ec,asInt,asIntOf,typeInfo,pG,WR,wrapN ln (by omega),wrapN cn h2,g1,g2,g3,g4,mw hs,h0,newRow,askRoom,roomBytes,kQ]
    ·intro j u hj
     have:((tj (cn*s)).map (zv.cells[·%zv.cells.size]!)).toList[j]? =some u:=by
      grind
     grind
    ·grind
    ·simp_all
    ·exact Zv h ln
    ·intro m' hi;simp only [ah];refine ⟨_,cn,hi,by simp,h1,?_⟩
     simp
def aqN {o:y9} {k:Nat} {v:AV} {b:Obj} (hH:eT O H) (ht:bW O m S w tm a.tmps) (hh:aO O m S w hp cq)
  (hv:cG tm hp ct (aQ O.P H k o)=some (v,b)):BA O m S w a ct o v b:=by
 cases ho:o.op with
 | call c=>
  obtain ⟨callee,args,ts⟩:=c;simp only [aQ,ho] at hv
  repeat' split at hv
  all_goals first
   | (simp [cG,bad] at hv;done)
   | (revert hv;generalize yp _ _=bb;intro hv;cases bb<;>simp [cG,bad] at hv)
 | alloc t=>
  simp only [aQ,ho] at hv
  split at hv
  ·rename_i s z hs hz;obtain ⟨zv,kQ,rfl⟩:=CO (w:=w) hz
   exact aah (x:=zv) (t:=t) hh (by simp [execOp,ho,Instr.alloc,kQ,newVar,newRow]) (AU zv) (by simpa only [cG,ay] using hv)
  ·simp [cG,bad] at hv
 | box t x=>
  simp only [aQ,ho] at hv
  split at hv
  ·rename_i s hs;simp only [cG] at hv
   cases hc:(yp (cellsOf (ay tm (aK H x))).length s&&cK (cellsOf (ay tm (aK H x)))) with
   | false=>rw [hc] at hv;cases hv
   | true=>
    have h1:=hc;simp only [yf] at h1
    exact aah (x:=a.eval x) (t:=t) hh (by simp [execOp,ho,Instr.box,newVar,newRow]) (OC (cf hH ht x) h1.2) hv
  ·simp [cG,bad] at hv
 | buildSlice t n parts=>
  simp only [aQ,ho] at hv
  split at hv
  ·rename_i e hu
   split at hv
   ·rename_i s z hs hz
    cases hc:yy (n*s) 16777216 with
    | false=>rw [hc] at hv;simp [cG,bad] at hv
    | true=>
     rw [hc] at hv;simp only [yz] at hv
     split at hv
     ·rename_i ps gI;exact amT hH ht hh ho hu hs hz (yo hc) gI hv
     ·simp [cG,bad] at hv
   ·simp [cG,bad] at hv
  ·simp [cG,bad] at hv
 | makeSlice t l c=>
  simp only [aQ,ho] at hv
  split at hv
  ·rename_i e hu
   split at hv
   ·rename_i s bY z hs hb hz
    exact aoy hH ht hh ho hu hs hb hz hv
   ·simp [cG,bad] at hv
  ·simp [cG,bad] at hv
 | makeMap t r=>
  cases r with
  | some x=>simp [aQ,ho,cG,bad] at hv
  | none=>
   simp only [aQ,ho] at hv
   repeat' split at hv
   all_goals first
    | (simp [cG,bad] at hv;done)
    | (
      simp only [cG,yb,yk] at hv;obtain ⟨rfl,rfl⟩:=hv
      exact aox hh ho rfl)
 | range t x=>
  simp only [aQ,ho] at hv
  split at hv
  ·rename_i hu;simp only [cG] at hv;have rx:=cf hH ht x;cases hx:ay tm (aK H x)<;>rw [hx] at hv rx<;>simp only [reduceCtorEq] at hv
   simp only [yb,yk] at hv;obtain ⟨rfl,rfl⟩:=hv;exact amR hh ho hu rx
  ·simp [cG,bad] at hv
 | next x b=>cases b<;>simp [aQ,ho,cG,bad] at hv
 | binOp op t x y ty=>
  cases op<;>simp only [aQ,ho,mF,nL] at hv
  case eql=>
        repeat' split at hv
        all_goals first
         | (simp [cG,bad] at hv;done)
         | (cases hb:(O.P.stoodInHeld t||O.P.eqGuardType O.P.depth t)<;>rw [hb] at hv<;>simp [cG,bad] at hv)
  case neq=>
        repeat' split at hv
        all_goals first
         | (simp [cG,bad] at hv;done)
         | (cases hb:(O.P.stoodInHeld t||O.P.eqGuardType O.P.depth t)<;>rw [hb] at hv<;>simp [cG,bad] at hv)
  all_goals simp [cG] at hv
 | _=>
  simp only [aQ,ho] at hv
  (repeat' split at hv)
  all_goals first
   | contradiction
   | (simp [cG,bad] at hv;done)
end
end
section
open Go
def pU {hp:Hp} {id i:Nat} {o:Obj}:aA (bi hp id o) i=if id=i then (if (aA hp id).isSome then some o else none) else aA hp i:=by
 induction hp with
 | nil=>simp [bi,aA]
 | cons x r ih=>
  obtain ⟨j,q⟩:=x;simp only [bi];by_cases hj:j=id
  ·subst hj;simp only [wy,yz,aA];by_cases hi:j=i
   ·simp_all
   ·have:yp j i=false:=by
     cases hq:yp j i with
     | false=>rfl
     | true=>exact absurd (yj hq) hi
    grind
  ·have hb:yp j id=false:=by
    cases hq:yp j id with
    | false=>rfl
    | true=>exact absurd (yj hq) hj
   simp only [hb,yX];rw [show aA ((j,q)::bi r id o) i=bif yp j i then some q else aA (bi r id o) i from rfl,ih];by_cases hi:j=i
   ·subst hi
    have:¬id=j:=fun h=>hj h.symm
    simp [wy,this,aA]
   ·have pH:yp j i=false:=by
     cases hq:yp j i with
     | false=>rfl
     | true=>exact absurd (yj hq) hi
    simp [pH,aA,hb]
def jk (hp ap:Hp):Prop:=∀id,(aA ap id).isSome=(aA hp id).isSome
def jk.refl {hp:Hp}:jk hp hp:=fun _=>rfl
def jk.trans {a b c:Hp} (h:jk a b) (k:jk b c):jk a c:=fun id=>(k id).trans (h id)
def Po {hp:Hp} {id:Nat} {o o':Obj} (h:aA hp id=some o) (hl:ix o o'):cL hp (bi hp id o')/\jk hp (bi hp id o'):=by
 constructor
 ·intro i q hq;rw [pU];by_cases hi:id=i
  ·grind
  ·exact ⟨q,by simp [hi,hq],ix.refl q⟩
 ·intro i;rw [pU]
  grind
def Zw {hp H:Hp} {id:Nat} {pu ex:Bool} {sz:Nat} {cs:List AV} (hl:cL hp H) (h:aA hp id=some (.cells false pu ex sz cs)):aA H id=some (.cells false pu ex sz cs):=by
 obtain ⟨o',h1,eY,rfl,h2⟩:=hl id _ h
 cases eY with
 | false=>exact h1
 | true=>exact absurd (h2 rfl) (by simp)
section
variable {O:bh}
def axi (O:bh) (m:Mp) (S:Nat->Prop) (w:yi) (p:Pl) (ex:Bool) (sz:Nat) (cs:List AV):Prop:=
 p.z=sz/\cs.length<=p.e/\(ex=true->cs.length=p.e)/\S p.b/\aH cs=true/\bN O.af m S w cs p.b p.o
def QL (O:bh) (ap:Hp) (v v':AV):Prop:=∀H m S w ct,cL ap H->aO O m S w H ct->(∀u,ah O.af m S w v u->ah O.af m S w v' u)/\bk v'=true
def ag5 (O:bh) (ap:Hp) (vs dM:List AV):Prop:=∀H m S w ct,cL ap H->aO O m S w H ct->(∀us,av O.af m S w vs us->av O.af m S w dM us)/\aH dM=true
def ayN (O:bh) (ap:Hp) (id:Nat) (ex:Bool) (sz:Nat) (cs:List AV):Prop:=∀H m S w ct,cL ap H->aO O m S w H ct->∀p,m id=some p->axi O m S w p ex sz cs
def CK {af:Nat->Nat} {m:Mp} {S:Nat->Prop} {w:yi} {b:Nat}:∀(cs:List AV) (us:List yg) (o:Nat),av af m S w cs us->
  (∀(j:Nat) (u:yg),us[j]? =some u->w.cell? ⟨b,o+j,none⟩=some u)->bN af m S w cs b o
 | [],us,o,_,_=>by simp only [bN]
 | c::cs,us,o,h,hu=>by
  obtain ⟨u,r,rfl,h2,h3⟩:=h;refine ⟨⟨u,by simpa using hu 0 u (by simp),h2⟩,CK cs r (o+1) h3 (fun j v hv=>?_)⟩;rw [show o+1+j=o+(j+1) by omega]
  simp_all
def axj {m:Mp} {S:Nat->Prop} {w:yi} {cs dL:List AV} (h:∀us,av O.af m S w cs us->av O.af m S w dL us) {b o:Nat} (hr:bN O.af m S w cs b o):bN O.af m S w dL b o:=by
 obtain ⟨us,h1,_,h3⟩:=pQ cs b o hr;exact CK dL us o (h us h1) h3
def sW:∀(k:Nat) {cs:List AV},aH cs=true->aH (cs.take k)=true
 | 0,_,_=>by simp [aH]
 | k+1,[],_=>by simp [aH]
 | k+1,c::cs,h=>by
  simp only [aH,yf,xY] at h ⊢;exact ⟨h.1,sW k h.2⟩
def aoz {ap:Hp} {vs dM:List AV}:∀{n:Nat} {hp:Hp},cF n hp vs=some (dM,ap)->dM.length=vs.length:=by
 intro n
 induction n generalizing vs dM ap with
 | zero=>intro hp h;simp [cF] at h
 | succ n ih=>
  intro hp h
  cases vs with
  | nil=>simp only [cF,yb,yk] at h;rw [<-h.1]
  | cons v r=>
   simp only [cF] at h
   cases h1:freeze n hp v with
   | none=>simp [h1] at h
   | some q=>
    obtain ⟨v',bm⟩:=q;simp only [h1] at h
    cases h2:cF n bm r with
    | none=>simp [h2] at h
    | some q2=>
     grind
def YN:∀n:Nat,
  (∀hp v v' ap,freeze n hp v=some (v',ap)->cL hp ap/\jk hp ap/\QL O ap v v')/\
  (∀hp id ex sz cs ap,pR n hp id=some (ex,sz,cs,ap)->cL hp ap/\jk hp ap/\ayN O ap id ex sz cs)/\
  (∀hp vs dM ap,cF n hp vs=some (dM,ap)->cL hp ap/\jk hp ap/\ag5 O ap vs dM):=by
 intro n
 induction n with
 | zero=>refine ⟨?_,?_,?_⟩<;>intros<;>simp_all [freeze,pR,cF]
 | succ n ih=>
  obtain ⟨ihV,ihB,D7⟩:=ih;refine ⟨?_,?_,?_⟩
  ·intro hp v v' ap h;have plain:∀{v v':AV} {hp ap:Hp},(bif bk v then some (v,hp) else none)=some (v',ap)->cL hp ap/\jk hp ap/\QL O ap v v':=by
    intro v v' hp ap h
    cases hc:bk v with
    | false=>rw [hc] at h;cases h
    | true=>
     rw [hc] at h;simp only [yz,yb,yk] at h;obtain ⟨rfl,rfl⟩:=h;exact ⟨cL.refl,jk.refl,fun _ _ _ _ _ _ _=>⟨fun _ h=>h,hc⟩⟩
   cases v<;>simp only [freeze] at h<;>first | exact plain h | skip
   case aD id o k=>
    cases hb:pR n hp id with
    | none=>simp [hb] at h
    | some q=>
     obtain ⟨ex,sz,cs,bm⟩:=q;simp only [hb] at h
     cases hc:yy (o+k*sz) cs.length with
     | false=>rw [hc] at h;cases h
     | true=>
      rw [hc] at h;simp only [yz,yb,yk] at h;obtain ⟨rfl,rfl⟩:=h;have hle:=yo hc;obtain ⟨h1,h2,h3⟩:=ihB _ _ _ _ _ _ hb;refine ⟨h1,h2,fun H m S w ct hl hh=>⟨fun u hu=>?_,by simp only [bk]⟩⟩;simp only [ah] at hu ⊢;obtain ⟨p,c,hm,rfl,sI,Nf⟩:=hu;obtain ⟨g1,g2,g3,g4,g5,g6⟩:=h3 H m S w ct hl hh p hm;refine .inl ⟨p.b,p.o+o,c,rfl,sI,?_,.inr g4,sW _ (rz _ _ g5),sZ _ _ _ _ (oT _ _ _ _ g6)⟩;intro hx;simp only [yf] at hx;have e1:=yj hx.2;have e2:0<sz:=by
       simp_all
      have e3:=g3 hx.1.1;rw [g1] at Nf
      have:c*sz=k*sz:=by omega
      exact Nat.eq_of_mul_eq_mul_right e2 this
   case ptr id o=>
    cases hb:pR n hp id with
    | none=>simp [hb] at h
    | some q=>
     obtain ⟨ex,sz,cs,bm⟩:=q;simp only [hb,yb,yk] at h;obtain ⟨rfl,rfl⟩:=h;obtain ⟨h1,h2,h3⟩:=ihB _ _ _ _ _ _ hb;refine ⟨h1,h2,fun H m S w ct hl hh=>⟨fun u hu=>?_,by simp only [bk]⟩⟩;simp only [ah] at hu ⊢;obtain ⟨p,hm,rfl⟩:=hu;obtain ⟨g1,g2,g3,g4,g5,g6⟩:=h3 H m S w ct hl hh p hm;exact ⟨p.b,p.o+o,rfl,.inr g4,rz _ _ g5,oT _ _ _ _ g6⟩
   case map id=>
    cases hg:aA hp id with
    | none=>simp [hg] at h
    | some ob=>
     cases ob<;>simp only [hg,reduceCtorEq] at h
     rename_i rw ks vs
     cases hc:(aH ks&&aH vs) with
     | false=>rw [hc] at h;cases h
     | true=>
      rw [hc] at h;simp only [yz,yb,yk] at h;obtain ⟨rfl,rfl⟩:=h;simp only [yf] at hc;obtain ⟨h1,h2⟩:=Po hg (o':= .mp false ks vs) ⟨false,rfl,by simp⟩;refine ⟨h1,h2,fun H m S w ct hl hh=>⟨fun u hu=>?_,by simp only [bk]⟩⟩;simp only [ah] at hu ⊢;obtain ⟨p,hm,rfl⟩:=hu;have hq:aA (bi hp id (.mp false ks vs)) id=some (.mp false ks vs):=by rw [pU];simp [hg]
      obtain ⟨o',h3,eY,rfl,h4⟩:=hl id _ hq;have pD:eY=false:=by cases eY with | false=>rfl | true=>exact absurd (h4 rfl) (by simp)
      subst pD;obtain ⟨p',es,clock,g1,g2,g3,g4,g5,g6⟩:=hh.obj id _ _ h3 hm;rw [hm] at g1;injection g1 with g1
      subst g1;exact ⟨p.b,es,clock,rfl,g6 rfl,hc.1,hc.2,g2,g3,g4⟩
   case fn f first cap=>
    cases f with
    | y l=>simp only [bk,yX,reduceCtorEq] at h
    | f g=>
     simp only at h
     cases h1:cF n hp first with
     | none=>simp [h1] at h
     | some q=>
      obtain ⟨aev,bm⟩:=q;simp only [h1] at h
      cases h2:cF n bm cap with
      | none=>simp [h2] at h
      | some q2=>
       obtain ⟨Lh,iS⟩:=q2;simp only [h2,yb,yk] at h;obtain ⟨rfl,rfl⟩:=h;obtain ⟨a1,a2,a3⟩:=D7 _ _ _ _ h1;obtain ⟨b1,b2,b3⟩:=D7 _ _ _ _ h2;refine ⟨a1.trans b1,a2.trans b2,fun H m S w ct hl hh=>?_⟩;obtain ⟨c1,c2⟩:=a3 H m S w ct (b1.trans hl) hh;obtain ⟨d1,d2⟩:=b3 H m S w ct hl hh;refine ⟨fun u hu=>?_,by simp [bk,c2,d2]⟩;simp only [ah] at hu ⊢;obtain ⟨fi,ca,rfl,e1,e2⟩:=hu;exact ⟨fi,ca,rfl,c1 _ e1,d1 _ e2⟩
   case agg cs=>
    cases h1:cF n hp cs with
    | none=>simp [h1] at h
    | some q=>
     obtain ⟨dL,bm⟩:=q;simp only [h1,yb,yk] at h;obtain ⟨rfl,rfl⟩:=h;obtain ⟨a1,a2,a3⟩:=D7 _ _ _ _ h1;refine ⟨a1,a2,fun H m S w ct hl hh=>?_⟩;obtain ⟨c1,c2⟩:=a3 H m S w ct hl hh;refine ⟨fun u hu=>?_,by simpa [bk] using c2⟩;simp only [ah] at hu ⊢;obtain ⟨xs,rfl,e1⟩:=hu;exact ⟨xs,rfl,c1 _ e1⟩
   case aa cs=>
    cases h1:cF n hp cs with
    | none=>simp [h1] at h
    | some q=>
     obtain ⟨dL,bm⟩:=q;simp only [h1,yb,yk] at h;obtain ⟨rfl,rfl⟩:=h;obtain ⟨a1,a2,a3⟩:=D7 _ _ _ _ h1;refine ⟨a1,a2,fun H m S w ct hl hh=>?_⟩;obtain ⟨c1,c2⟩:=a3 H m S w ct hl hh;refine ⟨fun u hu=>?_,by simpa [bk] using c2⟩;simp only [ah] at hu ⊢;obtain ⟨xs,rfl,e1⟩:=hu;exact ⟨xs,rfl,c1 _ e1⟩
  ·intro hp id ex sz dL ap h;simp only [pR] at h
   cases hg:aA hp id with
   | none=>simp [hg] at h
   | some ob=>
    cases ob<;>simp only [hg,reduceCtorEq] at h
    rename_i rw pu qO At cs
    cases pu with
    | true=>
     simp only [yz,yb,yk] at h;obtain ⟨rfl,rfl,rfl,rfl⟩:=h;have hq:cL hp (bif rw then bi hp id (.cells false true qO At cs) else hp)/\jk hp (bif rw then bi hp id (.cells false true qO At cs) else hp)/\aA (bif rw then bi hp id (.cells false true qO At cs) else hp) id=some (.cells false true qO At cs):=by
      cases rw with
      | true=>
       obtain ⟨h1,h2⟩:=Po hg (o':= .cells false true qO At cs) ⟨false,rfl,by simp⟩;exact ⟨h1,h2,by simp [pU,hg]⟩
      | false=>exact ⟨cL.refl,jk.refl,hg⟩
     refine ⟨hq.1,hq.2.1,fun H m S w ct hl hh p hm=>?_⟩;obtain ⟨p',arr,t,g1,g2,g3,g4,g5,g6,g7,g8,g9,g10⟩:=hh.obj id _ _ (Zw hl hq.2.2) hm;rw [hm] at g1;injection g1 with g1
     subst g1;exact ⟨g3,g4,g6,g10 rfl,g8 rfl,g7⟩
    | false=>
     simp only [yX] at h
     cases h1:cF n hp cs with
     | none=>simp [h1] at h
     | some q=>
      obtain ⟨qS,bm⟩:=q;simp only [h1,yb,yk] at h;obtain ⟨rfl,rfl,rfl,rfl⟩:=h;obtain ⟨a1,a2,a3⟩:=D7 _ _ _ _ h1;obtain ⟨o1,gK,rw1,rfl,_⟩:=a1 id _ hg;obtain ⟨b1,b2⟩:=Po gK (o':= .cells false false qO At cs) ⟨false,rfl,by simp⟩;refine ⟨a1.trans b1,a2.trans b2,fun H m S w ct hl hh p hm=>?_⟩;have hq:aA (bi bm id (.cells false false qO At cs)) id=some (.cells false false qO At cs):=by simp [pU,gK]
      obtain ⟨p',arr,t,g1,g2,g3,g4,g5,g6,g7,g8,g9,g10⟩:=hh.obj id _ _ (Zw hl hq) hm;rw [hm] at g1;injection g1 with g1
      subst g1;obtain ⟨c1,c2⟩:=a3 H m S w ct (b1.trans hl) hh;have hlen:=aoz h1
      exact ⟨g3,by omega,fun hx=>by have:=g6 hx;omega,g10 rfl,c2,axj c1 g7⟩
  ·intro hp vs dM ap h
   cases vs with
   | nil=>
    simp only [cF,yb,yk] at h;obtain ⟨rfl,rfl⟩:=h;exact ⟨cL.refl,jk.refl,fun _ _ _ _ _ _ _=>⟨fun _ h=>h,rfl⟩⟩
   | cons v r=>
    simp only [cF] at h
    cases h1:freeze n hp v with
    | none=>simp [h1] at h
    | some q=>
     obtain ⟨v1,bm⟩:=q;simp only [h1] at h
     cases h2:cF n bm r with
     | none=>simp [h2] at h
     | some q2=>
      obtain ⟨r1,iS⟩:=q2;simp only [h2,yb,yk] at h;obtain ⟨rfl,rfl⟩:=h;obtain ⟨a1,a2,a3⟩:=ihV _ _ _ _ h1;obtain ⟨b1,b2,b3⟩:=D7 _ _ _ _ h2;refine ⟨a1.trans b1,a2.trans b2,fun H m S w ct hl hh=>?_⟩;obtain ⟨c1,c2⟩:=a3 H m S w ct (b1.trans hl) hh;obtain ⟨d1,d2⟩:=b3 H m S w ct hl hh;refine ⟨fun us hu=>?_,by simp [aH,c2,d2]⟩;simp only [av] at hu ⊢;obtain ⟨u,t,rfl,e1,e2⟩:=hu;exact ⟨u,t,rfl,c1 _ e1,d1 _ e2⟩
def Ol {n:Nat} {hp ap:Hp} {vs dM:List AV} (h:cF n hp vs=some (dM,ap)):cL hp ap/\jk hp ap/\ag5 O ap vs dM:=(YN n).2.2 _ _ _ _ h
def OE {n:Nat} {hp ap:Hp} {v v':AV} (h:freeze n hp v=some (v',ap)):cL hp ap/\jk hp ap/\QL O ap v v':=(YN n).1 _ _ _ _ h
end
end
section
open Go
section
variable {O:bh} {H:Hint} {m:Mp} {S:Nat->Prop} {w:yi} {tm:Env} {a:Act} {hp:Hp} {ct:Nat}
structure One (w w':yi) (g:Nat):Prop where
 os:w'.os=w.os
 tape:w'.tape=w.tape
 output:w'.output=w.output
 size:w'.heap.size=w.heap.size
 other:∀b,b≠g->w'.heap[b]? =w.heap[b]?
def Om (w:yi) (g:Nat) (cs:Array yg):One w (w.setRow g cs) g:=
 ⟨rfl,rfl,rfl,by simp,fun b hb=>setRow_other w g b cs hb⟩
def Gh {id:Nat} {o:Obj} {p:Pl} (h:aA hp id=some o) (hm:m id=some p):dN m hp p.b:=⟨id,o,p,h,hm,rfl⟩
def aoA {id:Nat} {o':Obj} {b:Nat} (h:dN m (bi hp id o') b):dN m hp b:=by
 obtain ⟨i,o,p,h1,h2,h3⟩:=h;rw [pU] at h1;by_cases hi:id=i
 ·subst hi
  cases hq:aA hp id with
  | none=>simp [hq] at h1
  | some q=>exact ⟨id,q,p,hq,h2,h3⟩
 ·simp only [hi,xk] at h1;exact ⟨i,o,p,h1,h2,h3⟩
def FT (hh:aO O m S w hp ct) {id:Nat} {o o':Obj} {p:Pl} {w':yi} (ho:aA hp id=some o) (hm:m id=some p) (hn:¬S p.b) (hw:One w w' p.b) (h':eM O m S w' id o') (hk:∀r:uo,w.heap[p.b]? =some (.loop r)->∃r':uo,w'.heap[p.b]? =some (.loop r')):
  aO O m S w' (bi hp id o') ct/\b6 m S w hp m S w' (bi hp id o') ct:=by
 have aT:fp S w w':=fun b hb=>hw.other b (fun e=>hn (e▸hb))
 refine ⟨⟨?_,hh.lt,?_,?_,?_,hh.low,?_,?_,fun i q hq=>(by
  rw [pU] at hq;by_cases hc:id=i
  ·subst hc;exact hh.aF _ _ ho
  ·simp only [hc,xk] at hq;exact hh.aF _ _ hq)⟩,⟨hw.os,hw.tape,hw.output,by rw [hw.size];exact yA _,?_,fun _ h=>h,fun b hb=>aT b hb,fun b hb=> .inl hb,fun b hb=> .inl (aoA hb),fun _ _ _ h=>h,fun b r hb=>?_⟩⟩
 rotate_right
 ·by_cases hc:b=p.b
  ·subst hc;exact hk r hb
  ·exact ⟨r,(hw.other b hc).trans hb⟩
 ·intro i q pi hi bH;rw [pU] at hi;by_cases hc:id=i
  ·subst hc;simp only [xR,ho,Option.isSome_some] at hi;injection hi with hi
   subst hi;exact h'
  ·simp only [hc,xk] at hi;refine pT (fun _ _ h=>h) (fun _ h=>h) aT (fun q' bL=>?_) (fun _ _ h=>h) (hh.obj i q pi hi bH);exact hw.other _ (fun e=>hc (hh.inj i id q o q' p hi ho bL hm e).symm)
 ·intro i j oi oj pi pj hi hj bH fP e;have key:∀{i:Nat} {oi:Obj},aA (bi hp id o') i=some oi->∃Is,aA hp i=some Is:=by
   intro i oi hi;rw [pU] at hi;by_cases hc:id=i
   ·subst hc;exact ⟨o,ho⟩
   ·simp only [hc,xk] at hi;exact ⟨oi,hi⟩
  obtain ⟨Is,jT⟩:=key hi;obtain ⟨Ir,WQ⟩:=key hj;exact hh.inj i j Is Ir pi pj jT WQ bH fP e
 ·intro b hb;rw [hw.size];exact hh.slt b hb
 ·intro i q hq;rw [hw.size];exact hh.blt i q hq
 ·intro b hb
  rw [hw.other b (fun e=>by have:=hh.low id p hm;omega)];exact hh.ju b hb
 ·rw [hw.size];exact hh.fB
 ·intro b _ hb;exact hw.other b (fun e=>hb (e▸Gh ho hm))
def rS (O:bh) (m:Mp) (S:Nat->Prop) (w:yi) (a:Act) (hp:Hp) (ct:Nat) (o:y9) (v:AV) (ap:Hp) (aV:Nat):Prop:=
 ∃n u w' m' S',(execOp a.eval o).run O.P w= .ok n w'/\(n= .value u\/(n= .skip/\u=undef))/\aO O m' S' w' ap aV/\ah O.af m' S' w' v u/\cR m m'/\b6 m S w hp m' S' w' ap ct
def aoB {af:Nat->Nat} {v:AV} {u:yg} (h:ah af m S w v u) (ho:eb v=true):u.oneCell'=true:=by
 cases v with
 | fn f a b=>
  cases f with
  | f g=>simp only [ah] at h;obtain ⟨_,_,rfl,_⟩:=h;rfl
  | y l=>simp only [ah] at h;obtain ⟨_,_,rfl⟩:=h;rfl
 | int k n=>simp only [ah] at h;subst h;rfl
 | bool b=>simp only [ah] at h;subst h;rfl
 | aw k n=>simp only [ah] at h;subst h;rfl
 | str s=>simp only [ah] at h;obtain ⟨_,rfl,_⟩:=h;rfl
 | kG=>simp only [ah] at h;subst h;rfl
 | ptr i k=>simp only [ah] at h;obtain ⟨_,_,rfl⟩:=h;rfl
 | cg cs=>simp only [ah] at h;obtain ⟨_,_,rfl,_⟩:=h;rfl
 | ae=>simp only [ah] at h;subst h;rfl
 | aB e n cs=>simp only [ah] at h;rcases h with ⟨_,_,_,rfl,_⟩ | ⟨_,rfl,_,_⟩<;>rfl
 | bI _ _ _ _=>simp [eb] at ho
 | aD i k n=>simp only [ah] at h;obtain ⟨_,_,_,rfl,_⟩:=h;rfl
 | ik=>simp only [ah] at h;subst h;rfl
 | jt=>simp only [ah] at h;subst h;rfl
 | map i=>simp only [ah] at h;obtain ⟨_,_,rfl⟩:=h;rfl
 | iQ ks vs=>simp only [ah] at h;obtain ⟨_,_,_,rfl,_⟩:=h;rfl
 | it i=>simp only [ah] at h;obtain ⟨_,_,rfl⟩:=h;rfl
 | agg cs=>simp [eb] at ho
 | aa cs=>simp [eb] at ho
 | undef=>simp [eb] at ho
def JE {af:Nat->Nat}:∀{vs:List AV} {us:List yg},av af m S w vs us->cK vs=true->∀u∈us,u.oneCell'=true
 | [],us,h,_,u,hu=>by simp only [av] at h;subst h;cases hu
 | v::r,us,h,ho,u,hu=>by
  obtain ⟨u',t,rfl,h1,h2⟩:=h;simp only [cK,yf] at ho;rcases List.mem_cons.1 hu with rfl | hu
  ·exact aoB h1 ho.1
  ·exact JE h2 ho.2 u hu
def aaj {arr:Array yg} {t:yx} {p:Pl} {cs new:List AV} {vs:List yg} {o:Nat} {S':Nat->Prop} {m':Mp} (hb:w.heap[p.b]? =some (.cells arr t (0,0))) (hr:bN O.af m S w cs p.b p.o)
  (hv:av O.af m S w new vs) (hl:o+new.length<=cs.length) (hs:p.o+cs.length<=arr.size) {w':yi} (hm:cR m m') (hS:∀b,S b->S' b) (aT:fp S w w')
  (hw:w'.heap[p.b]? =some (.cells (arr.toList.take (p.o+o)++vs++arr.toList.drop (p.o+o+vs.length)).toArray t (0,0))):bN O.af m' S' w' (over o new cs) p.b p.o:=by
 obtain ⟨us,h1,h2,h3⟩:=pQ cs p.b p.o hr;have hvl:=gh _ _ hv;have h4:av O.af m S w (over o new cs) (us.take o++vs++us.drop (o+new.length)):=j9 (j9 (CH o h1) hv) (FJ _ h1);refine CK _ _ _ (fZ hm hS aT _ _ h4) (fun j u hj=>?_);have BB:∀k u,us[k]? =some u->arr[p.o+k]? =some u:=by
  intro k u hk
  have:=h3 k u hk
  simpa [World.cell?,hb] using this
 simp only [World.cell?,hw,tx,yB,xk];rw [yan];have e1:(arr.toList.take (p.o+o)).length=p.o+o:=by rw [yW,vt];omega
 have e2:(us.take o).length=o:=by rw [yW];omega
 by_cases c1:j<o
 ·have g1:(us.take o++vs++us.drop (o+new.length))[j]? =us[j]? :=by
   rw [xt,we (by omega),uA c1]
  rw [g1] at hj;rw [xt,we (by omega),uA (by omega)];simpa using BB j u hj
 ·by_cases c2:j<o+vs.length
  ·have g1:(us.take o++vs++us.drop (o+new.length))[j]? =vs[j-o]? :=by
    rw [xt,xS (by omega),e2,we (by omega)]
   rw [g1] at hj;rw [xt,xS (by omega),e1,we (by omega),show p.o+j-(p.o+o)=j-o by omega];exact hj
  ·have g1:(us.take o++vs++us.drop (o+new.length))[j]? =us[j]? :=by
    rw [xt,xS (by omega),e2,xS (by omega),yaH]
    congr 1
    omega
   rw [g1] at hj;rw [xt,xS (by omega),e1,xS (by omega),yaH,show p.o+o+vs.length+(p.o+j-(p.o+o)-vs.length)=p.o+j by omega];simpa using BB j u hj
def JU {o:Nat} {new cs:List AV} (hl:o+new.length<=cs.length):(over o new cs).length=cs.length:=by
 simp only [over,yY,yW,xN];omega
def YO {o:Nat} {new cs:List AV} (h:aH cs=true) (h':aH new=true):aH (over o new cs)=true:=
 AW (AW (sW _ h) h') (rz _ _ h)
def aqO {o:y9} {t:yx} {x y:xq} {sz:Nat} {v:AV} {ap:Hp} {aV:Nat} (hH:eT O H) (ht:bW O m S w tm a.tmps) (hh:aO O m S w hp ct)
  (ho:o.op= .store t x y) (hz:cu O.P t=some sz) (hv:cA tm hp ct (.st sz (aK H x) (aK H y))=some (v,ap,aV)):rS O m S w a hp ct o v ap aV:=by
 simp only [cA] at hv;have rx:=cf hH ht x;cases hx:ay tm (aK H x)<;>rw [hx] at hv rx<;>simp only [reduceCtorEq] at hv
 rename_i id k;simp only [ah] at rx;obtain ⟨p,hm,ex⟩:=rx
 split at hv
 case h_2=>cases hv
 rename_i pu Ni z cs hg
 cases hc:(yp (cellsOf (ay tm (aK H y))).length sz&&yy (k+sz) cs.length&&cK (cellsOf (ay tm (aK H y)))) with
 | false=>rw [hc] at hv;cases hv
 | true=>
  rw [hc] at hv;simp only [yz,yb,yk] at hv;obtain ⟨rfl,rfl,rfl⟩:=hv;simp only [yf] at hc;have c1:=yj hc.1.1;have c2:=yo hc.1.2;have ry:=OC (cf hH ht y) hc.2;have hl:=gh _ _ ry;obtain ⟨p',arr,t',g1,g2,g3,g4,g5,g6,g7,g8,g9,g10⟩:=hh.obj id _ _ hg hm;rw [hm] at g1;injection g1 with g1
  subst g1;have fK:=JE ry hc.2;have fe:=run_storeCells_at O.P p.b (p.o+k) t' (a.eval y).cells.toList 0 arr w g2 (by rw [hl];omega) fK;simp only [yZ] at fe;have axk:(a.eval y).cells.size=sz:=by simp_all
  have ni:eM O m S (w.setRow p.b (arr.toList.take (p.o+k)++(a.eval y).cells.toList++arr.toList.drop (p.o+k+(a.eval y).cells.toList.length)).toArray) id
    (.cells true (pu&&aH (cellsOf (ay tm (aK H y)))) Ni z (over k (cellsOf (ay tm (aK H y))) cs)):=by
   refine ⟨p,_,t',hm,setRow_heap w p.b arr _ t' _ g2,g3,by rw [JU (by omega)];exact g4,?_,fun h=>by rw [JU (by omega)];exact g6 h,?_,?_,fun _=>g9 rfl,by simp⟩
   ·grind
   ·exact aaj g2 g7 ry (by omega) (by omega) cR.refl (fun _ h=>h) (fun b hb=>setRow_other w p.b b _ (fun e=>g9 rfl (e▸hb))) (setRow_heap w p.b arr _ t' _ g2)
   ·intro h;simp only [yf] at h;exact YO (g8 h.1) h.2
  obtain ⟨e1,e2⟩:=FT hh hg hm (g9 rfl) (Om w p.b _) ni (fun r hr=>by rw [g2] at hr;cases hr);refine ⟨.skip,undef,_,m,S,?_,.inr ⟨rfl,rfl⟩,e1,by simp [ah,av,undef],cR.refl,e2⟩;simp only [execOp,ho,Instr.storeAt,ex,Instr.sureAddr,Sem.run_bind,Sem.run_pure,Result.andThen_ok,storeVar,mw hz,axk,ne_eq,ycx,xk];simp [fe]
def YP {d:wS} {k k':yg} (h:Instr.sameNow d k k'=some true):k=k':=by
 unfold Instr.sameNow at h
 split at h
 ·grind
 ·rename_i p q;simp only [yb] at h;have h2:(p.data==q.data)=true:=by cases p;exact h
  cases p;cases q
  grind
 ·grind
 ·cases h
def sameBits_self {d:wS} {k k':yg} (h:Instr.sameNow d k k'=some true) (n:Nat):Instr.sameBits n k' k=true:=by
 have e:=YP h;subst e;unfold Instr.sameNow at h
 split at h
 ·simp [Instr.sameBits]
 ·simp only [yb] at h;simp [Instr.sameBits,h]
 ·simp [Instr.sameBits]
 ·cases h
def Put (af:Nat->Nat) (m:Mp) (S:Nat->Prop) (w:yi) (d:wS) (k x:yg) (es:List vT) (i:Nat) (jw dM:List AV):Prop:=
 (Instr.findNow d k es i=some none/\av af m S w jw (es.map (·.key)++[k])/\av af m S w dM (es.map (·.val)++[x]))\/
 ∃(j:Nat) (e0:vT),Instr.findNow d k es i=some (some (i+j,e0.val))/\es[j]? =some e0/\Instr.sameNow d k e0.key=some true/\av af m S w jw (es.map (·.key))/\av af m S w dM ((es.map (·.val)).set j x)
def abg {af:Nat->Nat} {vk vx:AV} {k x:yg} {d:wS} (hk:ah af m S w vk k) (hx:ah af m S w vx x) (hd:fits d vk=true):∀(ks vs:List AV) (es:List vT) (i:Nat) (jw dM:List AV),
  av af m S w ks (es.map (·.key))->av af m S w vs (es.map (·.val))->zS vk vx ks vs=some (jw,dM)->Put af m S w d k x es i jw dM
 | [],[],es,i,jw,dM,h1,h2,h=>by
  simp only [av,yay] at h1;subst h1;obtain ⟨rfl,rfl⟩:=h;exact .inl ⟨rfl,by simp [av,hk],by simp [av,hx]⟩
 | [],_::_,es,i,jw,dM,h1,h2,h=>by simp [zS] at h
 | _::_,[],es,i,jw,dM,h1,h2,h=>by simp [zS] at h
 | c::ks,v::vs,es,i,jw,dM,h1,h2,h=>by
  cases es with
  | nil=>simp [av] at h1
  | cons e es=>
   obtain ⟨u,t,⟨rfl,rfl⟩,hc,Ng⟩:=h1;obtain ⟨u',t',⟨rfl,rfl⟩,hv,sF⟩:=h2;simp only [zS] at h
   cases sG:C7 vk c with
   | none=>simp [sG] at h
   | some b=>
    have hs:=aag (d:=d) hk hc sG hd
    cases b with
    | true=>
     simp only [sG,yb,yk] at h;obtain ⟨rfl,rfl⟩:=h;refine .inr ⟨0,e,by simp [Instr.findNow,hs],rfl,hs,?_,?_⟩
     ·simp only [xm,av];exact ⟨_,_,rfl,hc,Ng⟩
     ·simp only [xm,List.set_cons_zero,av];exact ⟨_,_,rfl,hx,sF⟩
    | false=>
     simp only [sG] at h
     cases hm:zS vk vx ks vs with
     | none=>simp [hm] at h
     | some q=>
      obtain ⟨k1,v1⟩:=q;simp only [hm,yb,yk] at h;obtain ⟨rfl,rfl⟩:=h;rcases abg hk hx hd ks vs es (i+1) k1 v1 Ng sF hm with ⟨g1,g2,g3⟩ | ⟨j,e0,g1,g2,g3,g4,g5⟩
      ·refine .inl ⟨by simp [Instr.findNow,hs,g1],?_,?_⟩
       ·simp only [xm,xi,av];exact ⟨_,_,rfl,hc,g2⟩
       ·simp only [xm,xi,av];exact ⟨_,_,rfl,hv,g3⟩
      ·refine .inr ⟨j+1,e0,?_,by simpa using g2,g3,?_,?_⟩
       ·simp only [Instr.findNow,hs,g1]
        grind
       ·simp only [xm,av];exact ⟨_,_,rfl,hc,g4⟩
       ·simp only [xm,List.set_cons_succ,av];exact ⟨_,_,rfl,hv,g5⟩
def CE (w:yi) (g:Nat) (o:tR):One w {w with heap:=w.heap.setIfInBounds g o} g:=
 ⟨rfl,rfl,rfl,by simp,fun b hb=>by simp [Array.getElem?_setIfInBounds_ne (fun e=>hb e.symm)]⟩
def Jp {g:Nat} {o q:tR} (h:w.heap[g]? =some q):({w with heap:=w.heap.setIfInBounds g o}:yi).heap[g]? =some o:=by grind
def aak {o:y9} {t kt e:yx} {x k y:xq} {kk:Nat} {v:AV} {ap:Hp} {aV:Nat} (hH:eT O H) (ht:bW O m S w tm a.tmps) (hh:aO O m S w hp ct)
  (ho:o.op= .mapUpdate t x k y\/o.op= .insert t x k y) (hu:O.P.underlying t=some (.map kt e)) (pC:VE.keyOf O.P kt=some kk) (hv:cA tm hp ct (.ox kk (aK H x) (aK H k) (aK H y))=some (v,ap,aV)):rS O m S w a hp ct o v ap aV:=by
 simp only [cA] at hv;have rx:=cf hH ht x;cases hx:ay tm (aK H x)<;>rw [hx] at hv rx<;>simp only [reduceCtorEq] at hv
 rename_i id;simp only [ah] at rx;obtain ⟨p,hm,ex⟩:=rx
 split at hv
 case h_2=>cases hv
 rename_i ks vs hg
 cases hc:rH kk (ay tm (aK H k)) with
 | false=>simp [hc] at hv
 | true=>
  simp only [hc,Bool.not_true,yX] at hv
  cases bm:zS (ay tm (aK H k)) (ay tm (aK H y)) ks vs with
  | none=>simp [bm] at hv
  | some q=>
   obtain ⟨jw,dM⟩:=q;simp only [bm,yb,yk] at hv;obtain ⟨rfl,rfl,rfl⟩:=hv;obtain ⟨d,jy,fN,WL⟩:=YL pC hc;obtain ⟨p',es,clock,g1,g2,g3,g4,g5,g6⟩:=hh.obj id _ _ hg hm;rw [hm] at g1;injection g1 with g1
   subst g1;have ayO:=abg (d:=d) (cf hH ht k) (cf hH ht y) WL ks vs es.toList 0 jw dM g3 g4 bm
   have fin:∀(B9:Array vT) (c':Nat),(Instr.mapUpdate t (a.eval x) (a.eval k) (a.eval y)).run O.P w= .ok () {w with heap:=w.heap.setIfInBounds p.b (.map B9 c')}->
     av O.af m S w jw (B9.toList.map (·.key))->av O.af m S w dM (B9.toList.map (·.val))->rS O m S w a hp ct o (.aa []) (bi hp id (.mp true jw dM)) ct:=by
    intro B9 c' fe h1 h2
    have aT:fp S w {w with heap:=w.heap.setIfInBounds p.b (.map B9 c')}:=fun b hb=>(CE w p.b _).other b (fun e=>g5 rfl (e▸hb))
    have ni:eM O m S {w with heap:=w.heap.setIfInBounds p.b (.map B9 c')} id (.mp true jw dM):=
     ⟨p,B9,c',hm,Jp g2,fZ (fun _ _ h=>h) (fun _ h=>h) aT _ _ h1,fZ (fun _ _ h=>h) (fun _ h=>h) aT _ _ h2,fun _=>g5 rfl,by simp⟩
    obtain ⟨e1,e2⟩:=FT hh hg hm (g5 rfl) (CE w p.b _) ni (fun r hr=>by rw [g2] at hr;cases hr);refine ⟨.skip,undef,_,m,S,?_,.inr ⟨rfl,rfl⟩,e1,by simp [ah,av,undef],cR.refl,e2⟩;rcases ho with ho | ho<;>simp [execOp,ho,fe]
   have mj:=Jf (P:=O.P) (w:=w) jy fN false (a.eval k);rcases ayO with ⟨h1,h2,h3⟩ | ⟨j,e0,h1,h2,h3,h4,h5⟩
   ·refine fin (es.push ⟨a.eval k,a.eval y,clock⟩) (clock+1) ?_ (by simpa using h2) (by simpa using h3);rw [ex];simp [Instr.mapUpdate,run_underlying hu,MapKept.run_getObj_map g2,mj,Instr.findKey,run_underlying jy,h1,MapKept.run_setObj_map _ g2]
   ·have hj:es[j]? =some e0:=by simp_all
    simp only [yh] at h1;have ag6:=YP h3
    refine fin (es.modify j fun e=>{e with key:=a.eval k,val:=a.eval y}) clock ?_ ?_ ?_
    ·rw [ex];have hsb:Instr.sameBits 10000 (a.eval k) (a.eval k)=true:=by have:=sameBits_self h3 10000;rwa [<-ag6] at this
     simp [Instr.mapUpdate,run_underlying hu,MapKept.run_getObj_map g2,mj,Instr.findKey,run_underlying jy,h1,MapKept.run_setObj_map _ g2,hj,Instr.keyThatStays,hsb,ag6.symm]
    ·have:(es.modify j fun e=>{e with key:=a.eval k,val:=a.eval y}).toList.map (·.key)=es.toList.map (·.key):=by
      apply yaN
      grind
     grind
    ·have:(es.modify j fun e=>{e with key:=a.eval k,val:=a.eval y}).toList.map (·.val)=(es.toList.map (·.val)).set j (a.eval y):=by
      apply yaN
      grind
     grind
def aqP (t:ByteArray) (i:Nat):(t.get! i).toNat=(t.data.toList.map xf).getD i 0:=by
 have:t.get! i=t.data[i]! :=by cases t;rfl
 rw [this];by_cases h:i<t.data.size
 ·grind
 ·simp only [Array.getElem!_eq_getD,Array.getD_eq_getD_getElem?,List.getD_eq_getElem?_getD,yaM,Array.getElem?_toList];rw [Array.getElem?_eq_none (by omega)];rfl
def amU (t:ByteArray) (i:Nat):decodeL (t.data.toList.map xf) i=Utf8.decode t i:=by
 have ez:(t.data.toList.map xf).length=t.size:=by simp
 simp only [decodeL,Utf8.decode,aqP,ez]
def aoC {o:y9} {x:xq} {v:AV} {ap:Hp} {aV:Nat} (hH:eT O H) (ht:bW O m S w tm a.tmps) (hh:aO O m S w hp ct)
  (ho:o.op= .next x true) (hv:cA tm hp ct (.oA (aK H x))=some (v,ap,aV)):rS O m S w a hp ct o v ap aV:=by
 simp only [cA] at hv;have rx:=cf hH ht x;cases hx:ay tm (aK H x)<;>rw [hx] at hv rx<;>simp only [reduceCtorEq] at hv
 rename_i id;simp only [ah] at rx;obtain ⟨p,hm,ex⟩:=rx
 split at hv
 case h_2=>cases hv
 rename_i s pos hg;obtain ⟨p',t,g1,g2,g3,g4⟩:=hh.obj id _ _ hg hm;rw [hm] at g1;injection g1 with g1
 subst g1;have aA:(getObj p.b).run O.P w= .ok (.stringIter t pos) w:=by simp [getObj,Sem.run,g2]
 have hlen:s.length=t.size:=by rw [<-g3];simp
 cases hc:yI pos s.length with
 | false=>
  rw [hc] at hv;simp only [yX,yb,yk] at hv;obtain ⟨rfl,rfl,rfl⟩:=hv;have aF:¬pos<t.size:=by
   intro h
   have:yI pos s.length=true:=by simp [yI];omega
   grind
  refine ⟨.value (.tuple #[.bool false]),.tuple #[.bool false],w,m,S,?_,.inl rfl,hh,by simp [ah,av],cR.refl,b6.refl⟩;simp [execOp,ho,ex,Instr.next,aA,aF]
 | true=>
  rw [hc] at hv;simp only [yz] at hv;have aF:pos<t.size:=by
   simp_all
  cases hdc:decodeL s pos with | mk c wd=>
  rw [hdc] at hv;simp only [yb,yk] at hv;obtain ⟨rfl,rfl,rfl⟩:=hv;have hd:Utf8.decode t pos=(c,wd):=by rw [<-amU,g3,hdc]
  have ni:eM O m S {w with heap:=w.heap.setIfInBounds p.b (.stringIter t (pos+wd))} id (.si s (pos+wd)):=⟨p,t,hm,Jp g2,g3,g4⟩;obtain ⟨e1,e2⟩:=FT hh hg hm g4 (CE w p.b _) ni (fun r hr=>by rw [g2] at hr;cases hr);refine ⟨.value (.tuple #[.bool true,goInt pos,.int .i32 c]),_,_,m,S,?_,.inl rfl,e1,by simp [ah,av,goInt],cR.refl,e2⟩
  have bi:(setObj p.b (.stringIter t (pos+wd))).run O.P w= .ok () {w with heap:=w.heap.setIfInBounds p.b (.stringIter t (pos+wd))}:=by simp [setObj,Sem.run,g2]
  simp [execOp,ho,ex,Instr.next,aA,aF,hd,bi]
end
end
section
open Go
def FK {hp:Hp} {id i:Nat}:aA (ej hp id) i=if id=i then none else aA hp i:=by
 induction hp with
 | nil=>simp [ej,aA]
 | cons x r ih=>
  obtain ⟨j,q⟩:=x;simp only [ej];by_cases hj:j=id
  ·subst hj;simp only [wy,yz,ih,aA];by_cases hi:j=i
   ·grind
   ·have:yp j i=false:=by
     cases hq:yp j i with
     | false=>rfl
     | true=>exact absurd (yj hq) hi
    grind
  ·have hb:yp j id=false:=by
    cases hq:yp j id with
    | false=>rfl
    | true=>exact absurd (yj hq) hj
   simp only [hb,yX];rw [show aA ((j,q)::ej r id) i=bif yp j i then some q else aA (ej r id) i from rfl,ih];by_cases hi:j=i
   ·subst hi
    have:¬id=j:=fun h=>hj h.symm
    simp [wy,this,aA]
   ·have pH:yp j i=false:=by
     cases hq:yp j i with
     | false=>rfl
     | true=>exact absurd (yj hq) hi
    simp [pH,aA]
section
variable {O:bh} {H:Hint} {m:Mp} {S:Nat->Prop} {w:yi} {tm:Env} {a:Act} {hp:Hp} {ct:Nat}
def Src (P:xa) (w:yi) (size n:Nat) (news:List yg) (x:yg):Prop:=
 (∀w',(Builtin.lenOf x).run P w'= .ok n w')/\news.length=n*size/\
 ∀w',w'.heap=w.heap->∀k,k<=n->(Builtin.firstCells size k x).run P w'= .ok (news.take (k*size)).toArray w'
def CI {P:xa} {size n c:Nat} {b:vX} {news:List yg} (hl:news.length=n*size) (hc:∀j u,news[j]? =some u->w.cell? (b.add j)=some u):
  Src P w size n news (.slice (some b) n c):=by
 refine ⟨fun w'=>by simp [Builtin.lenOf],hl,fun w' hw k hk=>?_⟩;have hle:k*size<=news.length:=by rw [hl];exact yT _ hk
 refine run_firstCells_some (P:=P) w' size k b n c (news.take (k*size)) (by rw [yW];omega) (fun j v hv=>?_);rw [List.getElem?_take] at hv
 split at hv
 ·have:=hc j v hv
  simpa [World.cell?,hw] using this
 ·cases hv
def abh {P:xa} {size:Nat}:Src P w size 0 [] (.slice none 0 0):=
 ⟨fun w'=>by simp [Builtin.lenOf],by simp,fun w' _ k hk=>by simp [Builtin.firstCells]⟩
def alZ (s:ByteArray) (k:Nat):(s.extract 0 k).data.map (fun b=>Value.int .u8 b.toNat)=((s.data.toList.map fun b=>Value.int .u8 (b.toNat:Int)).take k).toArray:=by
 have:(s.extract 0 k).data=s.data.extract 0 k:=by simp
 grind
def aqQ {P:xa} {s:ByteArray}:Src P w 1 s.size (s.data.toList.map fun b=>Value.int .u8 (b.toNat:Int)) (.string s):=by
 refine ⟨fun w'=>by simp [Builtin.lenOf],by simp,fun w' _ k hk=>?_⟩;simp only [Builtin.firstCells,Sem.run_pure,Nat.mul_one];rw [alZ]
def Ys {af:Nat->Nat}:∀l:List UInt8,av af m S w (J9 (l.map xf)) (l.map fun b=>Value.int .u8 (b.toNat:Int))
 | []=>by simp [J9,av]
 | b::r=>by
  exact ⟨_,_,rfl,by simp [ah],Ys r⟩
def YQ {size n:Nat} {vx:AV} {x:yg} {cs:List AV} (hh:aO O m S w hp ct) (hx:ah O.af m S w vx x) (h:kW hp size vx=some (n,cs)):
  ∃us,av O.af m S w cs us/\Src O.P w size n us x:=by
 cases vx<;>simp only [kW,reduceCtorEq] at h
 case ae=>
  obtain ⟨rfl,rfl⟩:=h;subst hx;exact ⟨[],by simp [av],abh⟩
 case aB ex n' dL=>
  cases hc:yp dL.length (n'*size) with
  | false=>rw [hc] at h;cases h
  | true=>
   rw [hc] at h;obtain ⟨rfl,rfl⟩:=h;have hl:=yj hc;rcases hx with ⟨b,o,c,rfl,h1,h2,h3,h4,h5⟩ | ⟨ad,rfl,rfl,rfl⟩
   ·obtain ⟨us,g1,g2,g3⟩:=pQ _ b o h5;exact ⟨us,g1,CI (by omega) (fun j u hj=>by rw [mG];exact g3 j u hj)⟩
   ·exact ⟨[],by simp [av],CI (by simp) (fun j u hj=>by simp at hj)⟩
 case aD id o n'=>
  cases hg:aA hp id with
  | none=>simp [hg] at h
  | some ob=>
   cases ob<;>simp only [hg,reduceCtorEq] at h
   rename_i rw pu ex z dL
   cases hc:yy (o+n'*size) dL.length with
   | false=>rw [hc] at h;cases h
   | true=>
    rw [hc] at h;simp only [yz,yb,yk] at h;obtain ⟨rfl,rfl⟩:=h;have hl:=yo hc;obtain ⟨p,c,hm,rfl,h1,h2⟩:=hx;have hr:=OV (o:=0) (n:=0) hh hg hm;have lK:=sZ (n'*size) _ _ _ (oT o _ _ _ hr);obtain ⟨us,g1,g2,g3⟩:=pQ _ p.b (p.o+o) lK;refine ⟨us,g1,CI ?_ (fun j u hj=>by rw [mG];exact g3 j u hj)⟩
    grind
def Zx {size n:Nat} {vx:AV} {x:yg} {cs:List AV} (hh:aO O m S w hp ct) (hx:ah O.af m S w vx x) (h:iL hp size vx=some (n,cs)):
  ∃us,av O.af m S w cs us/\Src O.P w size n us x:=by
 cases vx<;>try exact YQ hh hx h
 simp only [iL] at h
 cases hc:yp size 1 with
 | false=>rw [hc] at h;cases h
 | true=>
  rw [hc] at h;obtain ⟨rfl,rfl⟩:=h
  have:=yj hc
  subst this;obtain ⟨t,rfl,rfl⟩:=hx;refine ⟨_,Ys _,?_⟩
  have:(List.map xf t.data.toList).length=t.size:=by simp
  rw [this];exact aqQ
def ald {P:xa} {t u ty e:yx} {i:ycy} (ht:P.underlying t=some (.slice e)) (hu:(∃e',P.underlying u=some (.slice e'))\/P.underlying u=some .string) (hi:P.info? e=some i)
  {g o gR pk:Nat} {Iu:Array yg} {te:yx} (hg:w.heap[g]? =some (.cells Iu te (0,0))) {x:yg} {n:Nat} {news:List yg} (hs:Src P w i.size n news x) (h1:∀u∈news,u.oneCell'=true)
  (C9:gR+n<=pk) (QM:o+gR*i.size+news.length<=Iu.size):
  (Builtin.append_ #[t,u] ty #[.slice (some ⟨g,o,none⟩) gR pk,x]).run P w=
   .ok (.slice (some ⟨g,o,none⟩) (gR+n) pk) (w.setRow g (Iu.toList.take (o+gR*i.size)++news++Iu.toList.drop (o+gR*i.size+news.length)).toArray):=by
 obtain ⟨kP,sJ,WS⟩:=hs;have hf:=WS w rfl n (yA _);rw [yQ (by omega)] at hf;have aT:=run_storeCells_at P g (o+gR*i.size) te news 0 Iu w hg (by omega) h1;rcases hu with ⟨e',hd⟩ | hd<;>
  simp [Builtin.append_,run_underlying ht,run_underlying hd,vc,typeInfo,hi,kP,C9,hf,mG,aT]
def Ji {P:xa} {t u ty e:yx} {i:ycy} {z:yg} (ht:P.underlying t=some (.slice e)) (hu:(∃e',P.underlying u=some (.slice e'))\/P.underlying u=some .string) (hi:P.info? e=some i) (hz:i.zero=some z)
  {s:yg} {base:Option vX} {gR pk:Nat} (es:s= .slice base gR pk) {kJ:List yg} (ho:Src P w i.size gR kJ s) {x:yg} {n:Nat} {news:List yg} (hs:Src P w i.size n news x)
  (hg:pk<gR+n) (h63:gR+n<=1099511627776) (WR:(gR+n)*i.bytes<=1099511627776):
  (Builtin.append_ #[t,u] ty #[s,x]).run P w=
   .ok (.slice (some ⟨w.heap.size,0,none⟩) (gR+n) (grownCap w (gR+n) pk e))
    (w.drew.alloc (.cells ((kJ++news).toArray++Builtin.zeroCells z.cells (grownCap w (gR+n) pk e-(gR+n))) e)):=by
 obtain ⟨kP,sJ,WS⟩:=hs;obtain ⟨ho1,WT,ho3⟩:=ho;have hf:=WS w.drew rfl n (yA _);rw [yQ (by omega)] at hf;have hfo:=ho3 w.drew rfl gR (yA _);have hn:¬(gR+n<=pk):=by omega
 have ayP:¬(9223372036854775807<((gR:Int)+(n:Int))):=by omega
 have QM:=growslice_fits (need:=gR+n) (old:=pk) (bytes:=i.bytes) hg (by omega);have ayQ:¬(281474976710656<Builtin.nextslicecap (gR+n) pk*i.bytes):=by omega
 subst es;rcases hu with ⟨e',hd⟩ | hd
 all_goals
  simp [Builtin.append_,run_underlying ht,run_underlying hd,vc,typeInfo,zeroValue,hi,hz,kP,hn,ayP,ayQ,Question.forced,hf,hfo,newRow,askRoom,grownCap]
  grind
def OF {e:yx} {z:yg} {sz need cap:Nat} {cs:List AV} {us:List yg} (hh:aO O m S w hp ct) (hr:av O.af m S w cs us) (hl:us.length=need*sz) (hz:z.cells.size=sz)
  (By:Bool) (WU:By=true->aH cs=true) (hc:need<=cap):
  let w':=w.drew.alloc (.cells (us.toArray++Builtin.zeroCells z.cells (cap-need)) e)
  let p:Pl:=⟨w.heap.size,0,cap*sz,sz⟩
  ∀m',cR m m'->m' ct=some p->eM O m' S w' ct (.cells true By false sz cs):=by
 intro w' p m' hm hi;have aT:fp S w w':=fun b hb=>by
  have:=hh.slt b hb
  exact RowKit.Below.heap_alloc w.drew _ b (by simpa using this)
 have im:w'.heap[w.heap.size]? =some (.cells (us.toArray++Builtin.zeroCells z.cells (cap-need)) e (0,0)):=heap_alloc_new w.drew _;have gV:=gh _ _ hr;refine ⟨p,_,e,hi,im,rfl,?_,?_,by simp,?_,WU,?_,by simp⟩
 ·show cs.length<=cap*sz
  rw [<-gV,hl];exact yT _ hc
 ·show 0+cap*sz<=_
  rw [Array.size_append,uT,size_zeroCells,hz,hl,<-xU]
  grind
 ·refine JD im cs us 0 (fZ hm (fun _ h=>h) aT _ _ hr) (fun j u hj=>?_)
  grind
 ·intro _ hS
  have:=hh.slt _ hS
  grind
def ak1 (hh:aO O m S w hp ct) (g:tR):fp S w (w.drew.alloc g):=fun b hb=>by
 have:=hh.slt b hb
 exact RowKit.Below.heap_alloc w.drew _ b (by simpa using this)
def OG (hh:aO O m S w hp ct) {hp0:Hp} {g:tR} {p:Pl} {o:Obj} (Lk:∀i q,aA hp0 i=some q->aA hp i=some q) (hb:p.b=w.heap.size)
  (ho:∀m',cR m m'->m' ct=some p->eM O m' S (w.drew.alloc g) ct o):
  aO O (ff m ct p) S (w.drew.alloc g) ((ct,o)::hp0) (ct+1)/\b6 m S w hp (ff m ct p) S (w.drew.alloc g) ((ct,o)::hp0) ct:=by
 have hn:m ct=none:=by
  cases h:m ct with
  | none=>rfl
  | some q=>have:=hh.lt _ _ h;omega
 have hle:=iJ hn (p:=p);have aT:=ak1 hh g;have hold:∀b,b<w.heap.size->(w.drew.alloc g).heap[b]? =w.heap[b]? :=fun b hb=>RowKit.Below.heap_alloc w.drew _ b (by simpa using hb)
 have ez:(w.drew.alloc g).heap.size=w.heap.size+1:=by simp
 have gL:∀i q,aA ((ct,o)::hp0) i=some q->i≠ct->aA hp i=some q:=fun i q h hi=>by
  rw [fm,yu (fun e=>hi e.symm)] at h
  grind
 refine ⟨⟨?_,?_,?_,?_,?_,?_,?_,?_,fun i q hq=>(by
  by_cases hc:i=ct
  ·omega
  ·have:=hh.aF _ _ (gL i q hq hc);omega)⟩,⟨rfl,rfl,rfl,by omega,?_,fun _ h=>h,fun b hb=>aT b hb,fun b hb=> .inl hb,?_,fun i q _ h=>hle i q h,fun b r hb=>⟨r,(hold b (xo.1 hb).1).trans hb⟩⟩⟩
 ·intro i q pi hi bH;by_cases hc:i=ct
  ·subst hc;rw [fm] at hi;simp only [xR,yb] at hi;subst hi;exact ho _ hle dC
  ·rw [dP hc] at bH;exact pT hle (fun _ h=>h) aT (fun q' bL=>hold _ (hh.blt i q' bL)) (fun _ _ h=>h) (hh.obj i q pi (gL i q hi hc) bH)
 ·intro i q bH;by_cases hc:i=ct
  ·omega
  ·rw [dP hc] at bH;have:=hh.lt i q bH;omega
 ·intro i j oi oj pi pj hi hj bH fP e;by_cases ci:i=ct
  ·by_cases cj:j=ct
   ·grind
   ·subst ci;rw [dC] at bH;rw [dP cj] at fP;injection bH with bH
    subst bH
    have:=hh.blt j pj fP
    omega
  ·rw [dP ci] at bH;by_cases cj:j=ct
   ·subst cj;rw [dC] at fP;injection fP with fP
    subst fP
    have:=hh.blt i pi bH
    omega
   ·rw [dP cj] at fP;exact hh.inj i j oi oj pi pj (gL i oi hi ci) (gL j oj hj cj) bH fP e
 ·intro b hb;have:=hh.slt b hb;omega
 ·intro i q bH;by_cases hc:i=ct
  ·subst hc;rw [dC] at bH;injection bH with bH
   subst bH;omega
  ·rw [dP hc] at bH;have:=hh.blt i q bH;omega
 ·intro i q bH;have h0:=hh.fB;by_cases hc:i=ct
  ·subst hc;rw [dC] at bH;injection bH with bH
   subst bH;omega
  ·rw [dP hc] at bH;exact hh.low i q bH
 ·intro b hb;have h0:=hh.fB;exact (hold b (by omega)).trans (hh.ju b hb)
 ·have h0:=hh.fB;omega
 ·intro b hb _;exact hold b hb
 ·rintro b ⟨i,q,pi,h1,h2,h3⟩;by_cases hc:i=ct
  ·subst hc;rw [dC] at h2;injection h2 with h2
   subst h2;exact .inr (by omega)
  ·rw [dP hc] at h2;exact .inl ⟨i,q,pi,gL i q h1 hc,h2,h3⟩
def amV (hh:aO O m S w hp ct) {id:Nat} {o o':Obj} {p p':Pl} {w':yi} (hg:aA hp id=some o) (hm:m id=some p) (hn:¬S p.b) (hw:One w w' p.b) (hk:∀r:uo,w.heap[p.b]? =some (.loop r)->∃r':uo,w'.heap[p.b]? =some (.loop r')) (hb:p'.b=p.b)
  (ho:∀m',cR m m'->m' ct=some p'->eM O m' S w' ct o'):
  aO O (ff m ct p') S w' ((ct,o')::ej hp id) (ct+1)/\b6 m S w hp (ff m ct p') S w' ((ct,o')::ej hp id) ct:=by
 have fU:m ct=none:=by
  cases h:m ct with
  | none=>rfl
  | some q=>have:=hh.lt _ _ h;omega
 have hle:=iJ fU (p:=p');have aT:fp S w w':=fun b hb=>hw.other b (fun e=>hn (e▸hb))
 have gL:∀i q,aA ((ct,o')::ej hp id) i=some q->i≠ct->aA hp i=some q/\i≠id:=fun i q h hi=>by
  rw [fm,yu (fun e=>hi e.symm),FK] at h
  grind
 have ag7:∀i q pi,aA hp i=some q->i≠id->m i=some pi->pi.b≠p.b:=fun i q pi h hi bH e=>hi (hh.inj i id q o pi p h hg bH hm e)
 refine ⟨⟨?_,?_,?_,?_,?_,?_,?_,?_,fun i q hq=>(by
  by_cases hc:i=ct
  ·omega
  ·have:=hh.aF _ _ (gL i q hq hc).1;omega)⟩,⟨hw.os,hw.tape,hw.output,by rw [hw.size];exact yA _,?_,fun _ h=>h,fun b hb=>aT b hb,fun b hb=> .inl hb,?_,fun i q _ h=>hle i q h,fun b r hb=>(by
  by_cases hc:b=p.b
  ·grind
  ·exact ⟨r,(hw.other b hc).trans hb⟩)⟩⟩
 ·intro i q pi hi bH;by_cases hc:i=ct
  ·subst hc;rw [fm] at hi;simp only [xR,yb] at hi;subst hi;exact ho _ hle dC
  ·rw [dP hc] at bH;obtain ⟨h1,h2⟩:=gL i q hi hc;exact pT hle (fun _ h=>h) aT (fun q' bL=>hw.other _ (ag7 i q q' h1 h2 bL)) (fun _ _ h=>h) (hh.obj i q pi h1 bH)
 ·intro i q bH;by_cases hc:i=ct
  ·omega
  ·rw [dP hc] at bH;have:=hh.lt i q bH;omega
 ·intro i j oi oj pi pj hi hj bH fP e;by_cases ci:i=ct
  ·by_cases cj:j=ct
   ·grind
   ·subst ci;rw [dC] at bH;rw [dP cj] at fP
    grind
  ·rw [dP ci] at bH;obtain ⟨h1,h2⟩:=gL i oi hi ci;by_cases cj:j=ct
   ·subst cj;rw [dC] at fP;injection fP with fP
    subst fP;exact (ag7 i oi pi h1 h2 bH (by rw [e,hb])).elim
   ·rw [dP cj] at fP;exact hh.inj i j oi oj pi pj h1 (gL j oj hj cj).1 bH fP e
 ·intro b hb;rw [hw.size];exact hh.slt b hb
 ·intro i q bH;rw [hw.size];by_cases hc:i=ct
  ·subst hc;rw [dC] at bH;injection bH with bH
   subst bH;rw [hb];exact hh.blt id p hm
  ·rw [dP hc] at bH;exact hh.blt i q bH
 ·intro i q bH;by_cases hc:i=ct
  ·subst hc;rw [dC] at bH;injection bH with bH
   subst bH;rw [hb];exact hh.low id p hm
  ·rw [dP hc] at bH;exact hh.low i q bH
 ·intro b hb
  rw [hw.other b (fun e=>by have:=hh.low id p hm;omega)];exact hh.ju b hb
 ·rw [hw.size];exact hh.fB
 ·intro b _ bJ;exact hw.other b (fun e=>bJ (e▸Gh hg hm))
 ·rintro b ⟨i,q,pi,h1,h2,h3⟩;by_cases hc:i=ct
  ·subst hc;rw [dC] at h2;injection h2 with h2
   subst h2;exact .inl ⟨id,o,p,hg,hm,by rw [<-h3,hb]⟩
  ·rw [dP hc] at h2;exact .inl ⟨i,q,pi,(gL i q h1 hc).1,h2,h3⟩
def abi {P:xa} {e:yx} {s bY:Nat} {z:AV} (hs:cu P e=some s) (hb:qM P e=some bY) (hz:kD P e=some z):
  ∃ti zv,P.info? e=some ti/\ti.size=s/\ti.bytes=bY/\ti.zero=some zv/\z=eh zv:=by
 unfold cu at hs;unfold qM at hb;unfold kD at hz
 cases hi:P.info? e with
 | none=>simp [hi] at hs
 | some ti=>
  simp only [hi,yb] at hs hb hz
  cases gX:ti.zero with
  | none=>simp [gX] at hz
  | some zv=>
   grind
def FU {o:y9} {v:AV} {u:yg} {w':yi} {m':Mp} {S':Nat->Prop} {ap:Hp} {aV:Nat} (h1:(execOp a.eval o).run O.P w= .ok (.value u) w') (h2:aO O m' S' w' ap aV) (h3:ah O.af m' S' w' v u)
  (h4:cR m m') (h5:b6 m S w hp m' S' w' ap ct):rS O m S w a hp ct o v ap aV:=⟨_,u,w',m',S',h1,.inl rfl,h2,h3,h4,h5⟩
def aoD {o:y9} {b':yx} {t u e:yx} {sz bY:Nat} {z:AV} {x y:xq} {v:AV} {ap:Hp} {aV:Nat} (hH:eT O H) (ht:bW O m S w tm a.tmps) (hh:aO O m S w hp ct)
  (fe:(execOp a.eval o).run O.P w=((do pure (.value (<-Builtin.append_ #[t,u] b' #[a.eval x,a.eval y])):Sem yaj)).run O.P w)
  (qU:O.P.underlying t=some (.slice e)) (hu:(∃e',O.P.underlying u=some (.slice e'))\/O.P.underlying u=some .string) (hs:cu O.P e=some sz) (hb:qM O.P e=some bY) (hz:kD O.P e=some z) (pE:(cellsOf z).length=sz)
  (hv:cA tm hp ct (.aS sz bY (aK H x) (aK H y))=some (v,ap,aV)):rS O m S w a hp ct o v ap aV:=by
 simp only [cA] at hv;obtain ⟨ti,zv,pG,rfl,rfl,Iv,rfl⟩:=abi hs hb hz;have aI:∀u' w',(Builtin.append_ #[t,u] b' #[a.eval x,a.eval y]).run O.P w= .ok u' w'->(execOp a.eval o).run O.P w= .ok (.value u') w':=fun u' w' h=>by
  rw [fe,Sem.run_bind,h];rfl
 have qg:m ct=none:=by
  cases h:m ct with
  | none=>rfl
  | some q=>have:=hh.lt _ _ h;omega
 have B8:zv.cells.size=ti.size:=by
  have:=gh _ _ (AU (af:=O.af) (m:=m) (S:=S) (w:=w) zv)
  rw [<-pE,<-this];simp
 cases pn:iL hp ti.size (ay tm (aK H y)) with
 | none=>simp [pn] at hv
 | some q=>
  obtain ⟨n,new⟩:=q;simp only [pn] at hv;obtain ⟨news,jz,cX⟩:=Zx hh (cf hH ht y) pn;have Iw:=gh _ _ jz;have rx:=cf hH ht x
  cases hx:ay tm (aK H x) with
  | ae=>
   rw [hx] at hv rx;simp only at hv;simp only [ah] at rx
   cases h0:yp n 0 with
   | true=>
    rw [h0] at hv;simp only [yz,yb,yk] at hv;obtain ⟨rfl,rfl,rfl⟩:=hv;have oD:=yj h0;subst oD;have Qd:news=[]:=yD (by rw [cX.2.1];simp)
    subst Qd;have hf:=cX.2.2 w rfl 0 (yA _);have jx:=cX.1 w;refine ⟨.value (.slice none 0 0),.slice none 0 0,w,m,S,?_,.inl rfl,hh,by simp [ah],cR.refl,b6.refl⟩;rw [fe,rx];rcases hu with ⟨e',hu⟩ | hu<;>
     simp [Builtin.append_,run_underlying qU,run_underlying hu,vc,typeInfo,pG,jx,hf]
   | false=>
    rw [h0] at hv;simp only [yX] at hv
    cases hc:(yy n room&&(yy (n*ti.bytes) room&&yI 0 ti.size)) with
    | false=>rw [hc] at hv;cases hv
    | true=>
     rw [hc] at hv;simp only [yz,yb,yk] at hv;obtain ⟨rfl,rfl,rfl⟩:=hv;simp only [yf] at hc;have c1:=yo hc.1;have c2:=yo hc.2.1;simp only [room] at c1 c2;have oD:0<n:=by
      rcases xh n with h | h
      ·subst h;simp at h0
      ·exact h
     have hr:=Ji (P:=O.P) (ty:=b') (w:=w) qU hu pG Iv (s:= .slice none 0 0) rfl (abh (P:=O.P) (size:=ti.size)) cX (by omega) (by omega) (by simpa using c2);simp only [yh,List.nil_append] at hr;have iz:=grownCap_ge w n 0 e;have im:=OF (e:=e) (z:=zv) (cap:=grownCap w n 0 e) hh jz (need:=n) (sz:=ti.size) cX.2.1 B8 (aH new) (fun h=>h) iz;obtain ⟨k1,k2⟩:=OG hh (hp0:=hp) (p:=⟨w.heap.size,0,grownCap w n 0 e*ti.size,ti.size⟩) (fun _ _ h=>h) rfl im;exact FU (aI _ _ (by rw [rx];exact hr)) k1 (by simp only [ah];exact ⟨_,_,dC,rfl,iz,by simp⟩) (iJ qg) k2
  | aB ex k cs=>
   rw [hx] at hv rx
   cases ex with
   | false=>simp at hv
   | true=>
    simp only at hv;have rx0:=rx;simp only [ah] at rx;have rx1:∃ad kJ,a.eval x= .slice (some ad) k k/\av O.af m S w cs kJ/\kJ.length=cs.length/\(∀(j:Nat) (u:yg),kJ[j]? =some u->w.cell? (ad.add j)=some u)/\aH cs=true:=by
     rcases rx with ⟨bb,oo,c,ex,h1,h2,h3,h4,h5⟩ | ⟨ad,ex,rfl,rfl⟩
     ·have mj:c=k:=h2 (by trivial);subst mj;obtain ⟨kJ,g1,g2,g3⟩:=pQ cs bb oo h5;exact ⟨_,kJ,ex,g1,g2,fun j u hj=>by rw [mG];exact g3 j u hj,h4⟩
     ·exact ⟨ad,[],ex,by simp [av],rfl,fun j u hj=>by simp at hj,rfl⟩
    obtain ⟨ad,kJ,ex,g1,g2,g3,h4⟩:=rx1
    cases h0:yp n 0 with
    | true=>
     rw [h0] at hv;simp only [yz,yb,yk] at hv;obtain ⟨rfl,rfl,rfl⟩:=hv;have oD:=yj h0;subst oD;have Qd:news=[]:=yD (by rw [cX.2.1];simp)
     subst Qd;have hf:=cX.2.2 w rfl 0 (yA _);have jx:=cX.1 w;refine ⟨.value (a.eval x),a.eval x,w,m,S,?_,.inl rfl,hh,rx0,cR.refl,b6.refl⟩;rw [fe,ex];rcases hu with ⟨e',hu⟩ | hu<;>
      simp [Builtin.append_,run_underlying qU,run_underlying hu,vc,typeInfo,pG,jx,hf,storeCells]
    | false=>
     rw [h0] at hv;simp only [yX] at hv
     cases hc:(yy (k+n) room&&(yy ((k+n)*ti.bytes) room&&(yp cs.length (k*ti.size)&&yI 0 ti.size))) with
     | false=>rw [hc] at hv;cases hv
     | true=>
      rw [hc] at hv;simp only [yz,yb,yk] at hv;obtain ⟨rfl,rfl,rfl⟩:=hv;simp only [yf] at hc;have c1:=yo hc.1;have c2:=yo hc.2.1;have c3:=yj hc.2.2.1;simp only [room] at c1 c2;have oD:0<n:=by
       rcases xh n with h | h
       ·subst h;simp at h0
       ·exact h
      have Ix:Src O.P w ti.size k kJ (.slice (some ad) k k):=CI (by omega) g3;have hr:=Ji (P:=O.P) (ty:=b') (w:=w) qU hu pG Iv rfl Ix cX (by omega) c1 c2;have iz:=grownCap_ge w (k+n) k e;have im:=OF (e:=e) (z:=zv) (cap:=grownCap w (k+n) k e) hh (j9 g1 jz) (need:=k+n) (sz:=ti.size) (by rw [yY,g2,c3,cX.2.1,xU]) B8 (aH cs&&aH new)
       (fun h=>by simp only [yf] at h;exact AW h.1 h.2) iz
      obtain ⟨k1,k2⟩:=OG hh (hp0:=hp) (p:=⟨w.heap.size,0,grownCap w (k+n) k e*ti.size,ti.size⟩) (fun _ _ h=>h) rfl im;exact FU (aI _ _ (by rw [ex];exact hr)) k1 (by simp only [ah];exact ⟨_,_,dC,rfl,iz,by simp⟩) (iJ qg) k2
  | aD id o0 k=>
   rw [hx] at hv rx;simp only at hv;simp only [ah] at rx;obtain ⟨p,c,hm,ex,h1,h2⟩:=rx
   split at hv
   case h_2=>cases hv
   rename_i pu Ni zz cs hg
   cases hc:(yp zz ti.size&&(yy (k+n) room&&(yy ((k+n)*ti.bytes) room&&(yy (o0+k*ti.size) cs.length&&(yI 0 ti.size&&cK new))))) with
   | false=>rw [hc] at hv;cases hv
   | true=>
    rw [hc] at hv;simp only [yz,yb,yk] at hv;obtain ⟨rfl,rfl,rfl⟩:=hv;simp only [yf] at hc;have c0:=yj hc.1;have c1:=yo hc.2.1;have c2:=yo hc.2.2.1;have c3:=yo hc.2.2.2.1;have c4:=hc.2.2.2.2.2;simp only [room] at c1 c2;obtain ⟨p',arr,t',g1,g2,g3,g4,g5,g6,g7,g8,g9,g10⟩:=hh.obj id _ _ hg hm;rw [hm] at g1;injection g1 with g1
    subst g1;subst c0;rw [g3] at h2;have D8:bN O.af m S w (slice o0 (k*ti.size) cs) p.b (p.o+o0):=sZ _ _ _ _ (oT _ _ _ _ g7);obtain ⟨kJ,f1,f2,f3⟩:=pQ _ _ _ D8;have Ll:(slice o0 (k*ti.size) cs).length=k*ti.size:=by simp only [slice,yW,xN];omega
    have mh:(pu&&aH new)=true->aH (slice o0 (k*ti.size) cs++new)=true:=fun h=>by
     simp only [yf] at h;exact AW (sW _ (rz _ _ (g8 h.1))) h.2
    by_cases C9:k+n<=c
    ·have fK:=JE jz c4;have QM:p.o+o0+k*ti.size+news.length<=arr.size:=by
      rw [cX.2.1]
      have:(k+n)*ti.size<=c*ti.size:=yT _ C9
      rw [xU] at this;omega
     have hr:=ald (P:=O.P) (ty:=b') (w:=w) qU hu pG g2 cX fK C9 QM;have ho:∀m',cR m m'->m' ct=some ⟨p.b,p.o+o0,c*ti.size,ti.size⟩->
       eM O m' S (w.setRow p.b (arr.toList.take (p.o+o0+k*ti.size)++news++arr.toList.drop (p.o+o0+k*ti.size+news.length)).toArray) ct
        (.cells true (pu&&aH new) false ti.size (slice o0 (k*ti.size) cs++new)):=by
      intro m' hle hi;have aT:fp S w (w.setRow p.b (arr.toList.take (p.o+o0+k*ti.size)++news++arr.toList.drop (p.o+o0+k*ti.size+news.length)).toArray):=fun b hb=>setRow_other w p.b b _ (fun e=>g9 rfl (e▸hb))
      refine ⟨_,_,t',hi,setRow_heap w p.b arr _ t' _ g2,rfl,?_,?_,by simp,?_,mh,fun _=>g9 rfl,by simp⟩
      ·show (slice o0 (k*ti.size) cs++new).length<=c*ti.size
       rw [yY,Ll,<-Iw,cX.2.1,<-xU];exact yT _ C9
      ·show p.o+o0+c*ti.size<=_
       rw [uT,yY,yY,yW,xN,vt];omega
      ·refine CK _ (kJ++news) _ (j9 (fZ hle (fun _ h=>h) aT _ _ f1) (fZ hle (fun _ h=>h) aT _ _ jz)) (fun j u hj=>?_);show World.cell? _ ⟨p.b,p.o+o0+j,none⟩=some u
       simp only [World.cell?,setRow_heap w p.b arr _ t' _ g2,tx,yB,xk];rw [yan];have e1:(arr.toList.take (p.o+o0+k*ti.size)).length=p.o+o0+k*ti.size:=by rw [yW,vt];omega
       by_cases B6:j<k*ti.size
       ·rw [we (by omega)] at hj;rw [xt,we (by omega),uA (by omega)]
        have:=f3 j u hj
        simpa [World.cell?,g2] using this
       ·rw [xS (by omega)] at hj;have hjl:=(List.getElem?_eq_some_iff.1 hj).1;rw [xt,xS (by omega),e1,we (by omega),show p.o+o0+j-(p.o+o0+k*ti.size)=j-kJ.length by omega];exact hj
     obtain ⟨k1,k2⟩:=amV (p':=⟨p.b,p.o+o0,c*ti.size,ti.size⟩) hh hg hm (g9 rfl) (Om w p.b _) (fun r hr=>by rw [g2] at hr;cases hr) rfl ho;exact FU (aI _ _ (by rw [ex];exact hr)) k1 (by simp only [ah];exact ⟨_,c,dC,rfl,C9,by simp⟩) (iJ qg) k2
    ·have Ix:Src O.P w ti.size k kJ (.slice (some ⟨p.b,p.o+o0,none⟩) k c):=CI (by omega) (fun j u hj=>by rw [mG];exact f3 j u hj)
     have hr:=Ji (P:=O.P) (ty:=b') (w:=w) qU hu pG Iv rfl Ix cX (by omega) c1 c2;have iz:=grownCap_ge w (k+n) c e;have im:=OF (e:=e) (z:=zv) (cap:=grownCap w (k+n) c e) hh (j9 f1 jz) (need:=k+n) (sz:=ti.size) (by rw [yY,f2,Ll,cX.2.1,xU]) B8 (pu&&aH new) mh iz;obtain ⟨k1,k2⟩:=OG hh (hp0:=ej hp id) (p:=⟨w.heap.size,0,grownCap w (k+n) c e*ti.size,ti.size⟩) (fun i q h=>by
      rw [FK] at h;by_cases hi:id=i
      ·simp [hi] at h
      ·simpa only [hi,xk] using h) rfl im
     exact FU (aI _ _ (by rw [ex];exact hr)) k1 (by simp only [ah];exact ⟨_,_,dC,rfl,iz,by simp⟩) (iJ qg) k2
  | _=>rw [hx] at hv;simp at hv
end
end
section
open Go
section
variable {O:bh} {H:Hint} {m:Mp} {S:Nat->Prop} {w:yi} {tm:Env} {a:Act} {hp:Hp} {ct:Nat}
def als {n:Nat} {cs:List AV} (h:aH cs=true):aH (cs.take n)=true:=sW n h
def Yh:∀(n:Nat) {cs:List AV},cK cs=true->cK (cs.take n)=true
 | 0,_,_=>by simp [cK]
 | n+1,[],_=>by simp [cK]
 | n+1,c::cs,h=>by
  simp only [xY,cK,yf] at h ⊢;exact ⟨h.1,Yh n h.2⟩
def aoE {o:y9} {b':yx} {t u e:yx} {sz:Nat} {x y:xq} {v:AV} {ap:Hp} {aV:Nat} (hH:eT O H) (ht:bW O m S w tm a.tmps) (hh:aO O m S w hp ct)
  (fe:(execOp a.eval o).run O.P w=((do pure (.value (<-Builtin.copy_ #[t,u] b' #[a.eval x,a.eval y])):Sem yaj)).run O.P w)
  (qU:O.P.underlying t=some (.slice e)) (hs:cu O.P e=some sz)
  (hv:cA tm hp ct (.oC sz (aK H x) (aK H y))=some (v,ap,aV)):rS O m S w a hp ct o v ap aV:=by
 simp only [cA] at hv
 cases pn:kW hp sz (ay tm (aK H y)) with
 | none=>simp [pn] at hv
 | some q=>
  obtain ⟨n,new⟩:=q;simp only [pn] at hv;obtain ⟨news,jz,cX⟩:=YQ hh (cf hH ht y) pn;have Iw:=gh _ _ jz;have rx:=cf hH ht x;cases hx:ay tm (aK H x)<;>rw [hx] at hv rx<;>simp only [reduceCtorEq] at hv
  rename_i id o0 k;simp only [ah] at rx;obtain ⟨p,c,hm,ex,h1,h2⟩:=rx
  split at hv
  case h_2=>cases hv
  rename_i pu Ni zz cs hg
  cases hc:(yp zz sz&&(yy (o0+k*sz) cs.length&&cK new)) with
  | false=>rw [hc] at hv;cases hv
  | true=>
   rw [hc] at hv;simp only [yz,yb,yk] at hv;obtain ⟨rfl,rfl,rfl⟩:=hv;simp only [yf] at hc;have c0:=yj hc.1;have c1:=yo hc.2.1;subst c0;obtain ⟨p',arr,t',g1,g2,g3,g4,g5,g6,g7,g8,g9,g10⟩:=hh.obj id _ _ hg hm;rw [hm] at g1;injection g1 with g1
   subst g1;have ag8:min n k*zz<=k*zz:=yT _ (Nat.min_le_right _ _);have aFU:min n k*zz<=n*zz:=yT _ (ybm _ _);have rt:=CH (min n k*zz) jz;have qV:(news.take (min n k*zz)).length=min n k*zz:=by rw [yW,cX.2.1];omega
   have aF3:(new.take (min n k*zz)).length=min n k*zz:=by rw [yW,<-Iw,cX.2.1];omega
   have fK:=JE rt (Yh _ hc.2.2);have hf:=cX.2.2 w rfl (min n k) (ybm _ _);have aT:=run_storeCells_at O.P p.b (p.o+o0) t' (news.take (min n k*zz)) 0 arr w g2 (by rw [qV];omega) fK;simp only [yZ] at aT;have ni:eM O m S (w.setRow p.b (arr.toList.take (p.o+o0)++news.take (min n k*zz)++arr.toList.drop (p.o+o0+(news.take (min n k*zz)).length)).toArray) id
     (.cells true (pu&&aH new) Ni zz (over o0 (new.take (min n k*zz)) cs)):=by
    refine ⟨p,_,t',hm,setRow_heap w p.b arr _ t' _ g2,g3,by rw [JU (by omega)];exact g4,?_,fun h=>by rw [JU (by omega)];exact g6 h,?_,?_,fun _=>g9 rfl,by simp⟩
    ·rw [uT,yY,yY,yW,xN,vt,qV];omega
    ·exact aaj g2 g7 rt (by omega) (by omega) cR.refl (fun _ h=>h) (fun b hb=>setRow_other w p.b b _ (fun e=>g9 rfl (e▸hb))) (setRow_heap w p.b arr _ t' _ g2)
    ·intro h;simp only [yf] at h;exact YO (g8 h.1) (als h.2)
   obtain ⟨e1,e2⟩:=FT hh hg hm (g9 rfl) (Om w p.b _) ni (fun r hr=>by rw [g2] at hr;cases hr)
   refine FU (u:=goInt ((min n k:Nat):Int)) (m':=m) (S':=S) ?_ e1 (by simp [ah,goInt]) cR.refl e2;rw [fe,ex];simp [Builtin.copy_,run_underlying qU,cX.1 w,mw hs,show Nat.min n k=min n k from rfl,hf,aT]
def aqR {o:y9} {k:Nat} {v:AV} {ap:Hp} {aV:Nat} (hH:eT O H) (ht:bW O m S w tm a.tmps) (hh:aO O m S w hp ct)
  (hv:cA tm hp ct (aQ O.P H k o)=some (v,ap,aV)):rS O m S w a hp ct o v ap aV:=by
 have gE:∀{r:AV×Hp×Nat},cA tm hp ct bad=some r->False:=fun h=>by simp [bad,cA] at h
 cases ho:o.op with
 | call c=>
  obtain ⟨callee,args,ts⟩:=c;simp only [aQ,ho] at hv
  split at hv
  ·cases B5:H.mode k<;>simp [B5,cA] at hv
  ·rename_i _ b
   split at hv
   ·rename_i x y t u fC lJ;obtain ⟨al⟩:=args;obtain ⟨tl⟩:=ts;simp only at fC lJ;subst fC;subst lJ;obtain ⟨cs,fe⟩:=CB (O:=O) (w:=w) (a:=a) ho;have G0:(execOp a.eval o).run O.P w=((do pure (.value (<-Builtin.append_ #[t,u] o.type #[a.eval x,a.eval y])):Sem yaj)).run O.P w:=by
     rw [fe];simp [builtin]
    have key:∀{z:AV} {sz bY:Nat} {e:yx},O.P.underlying t=some (.slice e)->((∃e',O.P.underlying u=some (.slice e'))\/O.P.underlying u=some .string)->cu O.P e=some sz->qM O.P e=some bY->kD O.P e=some z->
      cA tm hp ct (bif yp (cellsOf z).length sz then .aS sz bY (aK H x) (aK H y) else bad)=some (v,ap,aV)->rS O m S w a hp ct o v ap aV:=by
     intro z sz bY e h1 h2 h3 h4 h5 h
     cases hb:yp (cellsOf z).length sz with
     | false=>rw [hb] at h;exact (gE h).elim
     | true=>
      rw [hb] at h;exact aoD hH ht hh G0 h1 h2 h3 h4 h5 (yj hb) h
    split at hv
    ·rename_i e e' h1 h2
     split at hv
     ·rename_i sz bY z h3 h4 h5
      exact key h1 (.inl ⟨_,h2⟩) h3 h4 h5 hv
     ·exact (gE hv).elim
    ·rename_i e h1 h2
     split at hv
     ·rename_i sz bY z h3 h4 h5
      exact key h1 (.inr h2) h3 h4 h5 hv
     ·exact (gE hv).elim
    ·exact (gE hv).elim
   ·repeat' split at hv
    all_goals simp [cA,bad] at hv
   ·rename_i x y t u fC lJ;obtain ⟨al⟩:=args;obtain ⟨tl⟩:=ts;simp only at fC lJ;subst fC;subst lJ;obtain ⟨cs,fe⟩:=CB (O:=O) (w:=w) (a:=a) ho;have G0:(execOp a.eval o).run O.P w=((do pure (.value (<-Builtin.copy_ #[t,u] o.type #[a.eval x,a.eval y])):Sem yaj)).run O.P w:=by
     rw [fe];simp [builtin]
    split at hv
    ·rename_i e h1
     split at hv
     ·rename_i sz h3;exact aoE hH ht hh G0 h1 h3 hv
     ·exact (gE hv).elim
    ·exact (gE hv).elim
   ·simp [cA] at hv
   ·simp [cA] at hv
   ·exact (gE hv).elim
  ·exact (gE hv).elim
 | store t x y=>
  simp only [aQ,ho] at hv
  split at hv
  ·rename_i s hs;exact aqO hH ht hh ho hs hv
  ·exact (gE hv).elim
 | mapUpdate t x k y=>
  simp only [aQ,ho] at hv
  split at hv
  ·rename_i kt e hu
   split at hv
   ·rename_i kk pC;exact aak hH ht hh (.inl ho) hu pC hv
   ·exact (gE hv).elim
  ·exact (gE hv).elim
 | insert t x k y=>
  simp only [aQ,ho] at hv
  split at hv
  ·rename_i kt e hu
   split at hv
   ·rename_i kk pC;exact aak hH ht hh (.inr ho) hu pC hv
   ·exact (gE hv).elim
  ·exact (gE hv).elim
 | next x b=>
  cases b with
  | false=>simp only [aQ,ho] at hv;exact (gE hv).elim
  | true=>exact aoC hH ht hh ho (by simpa only [aQ,ho] using hv)
 | binOp op t x y ty=>
  cases op<;>simp only [aQ,ho,mF,nL] at hv
  case eql=>
        repeat' split at hv
        all_goals first
         | (simp [cA,bad] at hv;done)
         | (cases hb:(O.P.stoodInHeld t||O.P.eqGuardType O.P.depth t)<;>rw [hb] at hv<;>simp [cA,bad] at hv)
  case neq=>
        repeat' split at hv
        all_goals first
         | (simp [cA,bad] at hv;done)
         | (cases hb:(O.P.stoodInHeld t||O.P.eqGuardType O.P.depth t)<;>rw [hb] at hv<;>simp [cA,bad] at hv)
  all_goals simp [cA] at hv
 | buildSlice t n parts=>
  simp only [aQ,ho] at hv
  repeat' split at hv
  all_goals first
   | (simp [cA,bad] at hv;done)
   | (
     revert hv;generalize yy _ _=bb;intro hv;cases bb<;>simp [cA,bad] at hv
     try (split at hv<;>simp [cA,bad] at hv))
 | makeMap t r=>
  cases r<;>simp only [aQ,ho] at hv
  ·repeat' split at hv
   all_goals simp [cA,bad] at hv
  ·exact (gE hv).elim
 | _=>
  simp only [aQ,ho] at hv
  (repeat' split at hv)
  all_goals first
   | contradiction
   | (simp [cA,bad] at hv;done)
end
end
section
variable {hp H:Hp} {tm bG:Env}
def abj (hl:cL hp H) {id:Nat} {rw pu ex:Bool} {sz:Nat} {cs:List AV} (h:aA hp id=some (.cells rw pu ex sz cs)):∃eY,aA H id=some (.cells eY pu ex sz cs):=by
 obtain ⟨o',h1,eY,rfl,_⟩:=hl id _ h;exact ⟨eY,h1⟩
def abk (hl:cL hp H) {id:Nat} {rw:Bool} {ks vs:List AV} (h:aA hp id=some (.mp rw ks vs)):∃eY,aA H id=some (.mp eY ks vs):=by
 obtain ⟨o',h1,eY,rfl,_⟩:=hl id _ h;exact ⟨eY,h1⟩
def abl (hl:cL hp H) {sz:Nat} {ag:Bool} {x v:AV} (h:iR hp sz ag x=some v):iR H sz ag x=some v:=by
 cases x<;>simp only [iR,reduceCtorEq] at h ⊢
 ·rename_i id o
  cases hg:aA hp id with
  | none=>simp [hg] at h
  | some ob=>
   cases ob<;>simp only [hg,reduceCtorEq] at h
   obtain ⟨r,h1⟩:=abj hl hg;simp only [h1];exact h
 ·exact h
def aoF (hl:cL hp H) {k x:AV} {v:Option AV} (h:zJ hp k x=some v):zJ H k x=some v:=by
 cases x<;>simp only [zJ,reduceCtorEq] at h ⊢
 ·exact h
 ·rename_i id
  cases hg:aA hp id with
  | none=>simp [hg] at h
  | some ob=>
   cases ob<;>simp only [hg,reduceCtorEq] at h
   obtain ⟨r,h1⟩:=abk hl hg;simp only [h1];exact h
 ·exact h
def aoG (hl:cL hp H) {k:Nat} {x v:AV} (h:jI hp k x=some v):jI H k x=some v:=by
 unfold jI at h ⊢
 split at h
 all_goals first
  | exact h
  | cases h
  | skip
 rename_i id
 cases hg:aA hp id with
 | none=>simp [hg] at h
 | some ob=>
  cases ob<;>simp only [hg,reduceCtorEq] at h
  obtain ⟨r,h1⟩:=abk hl hg;simp only [h1];exact h
def aoH (hl:cL hp H) {k:Cut} {x v:AV} {lo hi:Option X} (h:fb hp k x tm lo hi=some v):fb H k x tm lo hi=some v:=by
 unfold fb at h ⊢
 split at h
 all_goals first
  | exact h
  | cases h
  | skip
 rename_i sz id o n
 cases hg:aA hp id with
 | none=>simp [hg] at h
 | some ob=>
  cases ob<;>simp only [hg,reduceCtorEq] at h
  obtain ⟨r,h1⟩:=abj hl hg;simp only [h1];exact h
def amW (hl:cL hp H) {o:Op} {v:AV} (h:br tm hp o=some v):br tm H o=some v:=by
 cases o<;>simp only [br,reduceCtorEq] at h ⊢<;>first
  | exact h
  | exact abl hl h
  | exact aoG hl h
  | exact aoH hl h
  | skip
 rename_i kk zero ok m k
 cases hk:rH kk (ay tm k) with
 | false=>rw [hk] at h;cases h
 | true=>
  rw [hk] at h;simp only [yz] at h ⊢
  cases hr:zJ hp (ay tm k) (ay tm m) with
  | none=>simp [hr] at h
  | some r=>rw [aoF hl hr];simpa only [hr] using h
def amX {o:Op} (hk:bt o=0) (hp H:Hp):br tm hp o=br tm H o:=by
 cases o with
 | ow k x lo hi=>
  cases k with
  | str=>simp only [br,fb];cases ay tm x<;>rfl
  | sl sz=>simp [bt] at hk
  | ar n sz=>simp [bt] at hk
 | len k x=>
  match k,hk with
  | 0,_=>simp only [br];unfold jI;split<;>simp_all
  | 1,_=>simp only [br];unfold jI;split<;>simp_all
  | k+2,hk=>simp [bt] at hk
 | call md f xs=>cases md<;>simp [bt] at hk
 | _=>first
  | rfl
  | simp [bt] at hk
end
section
variable {tm bG:Env}
def dl {x:X} (h:∀t,t∈ic x->aj bG t=aj tm t):ay bG x=ay tm x:=by
 cases x with
 | t i=>exact h i (by simp [ic])
 | c v=>rfl
def AZ:∀{xs:List X},(∀t,t∈rL xs->aj bG t=aj tm t)->da bG xs=da tm xs
 | [],_=>rfl
 | x::r,h=>by
  simp only [da]
  rw [dl (x:=x) (fun t ht=>h t (by simp [rL,ht])),AZ (fun t ht=>h t (by simp [rL,ht]))]
def OH:∀{ps:List (Nat×Nat×X)} {z:List AV},(∀t,t∈GW ps->aj bG t=aj tm t)->fill bG z ps=fill tm z ps
 | [],_,_=>rfl
 | (o,s,x)::r,z,h=>by
  simp only [fill]
  rw [dl (x:=x) (fun t ht=>h t (by simp [GW,ht]))]
  rw [OH (ps:=r) (fun t ht=>h t (by simp [GW,ht]))]
def YR {d:Nat} {x:Option X} (h:∀t,t∈GV x->aj bG t=aj tm t):cP bG d x=cP tm d x:=by
 cases x with
 | none=>rfl
 | some x=>simp only [cP];rw [dl h]
def al0 {hp:Hp} {k:Cut} {x:AV} {lo hi:Option X} (h1:∀t,t∈GV lo->aj bG t=aj tm t) (h2:∀t,t∈GV hi->aj bG t=aj tm t):
  fb hp k x bG lo hi=fb hp k x tm lo hi:=by
 unfold fb;simp only [YR h1,YR h2]
def alt {hp:Hp} {o:Op} (h:∀t,t∈jm o->aj bG t=aj tm t):br bG hp o=br tm hp o:=by
 cases o<;>simp only [jm,wB] at h<;>simp only [br]
 case pick c a b=>rw [dl (x:=c) fun t ht=>h t (.inl ht),dl (x:=a) fun t ht=>h t (.inr (.inl ht)),dl (x:=b) fun t ht=>h t (.inr (.inr ht))]
 case Bt z ps=>rw [OH h]
 case DZ f a b=>rw [AZ (xs:=a) fun t ht=>h t (.inl ht),AZ (xs:=b) fun t ht=>h t (.inr ht)]
 case ow k x lo hi=>rw [dl (x:=x) fun t ht=>h t (.inl ht),al0 (fun t ht=>h t (.inr (.inl ht))) (fun t ht=>h t (.inr (.inr ht)))]
 case mn xs=>rw [AZ h]
 case mx xs=>rw [AZ h]
 case bin op x y=>rw [dl (x:=x) fun t ht=>h t (.inl ht),dl (x:=y) fun t ht=>h t (.inr ht)]
 case eq n k x y=>rw [dl (x:=x) fun t ht=>h t (.inl ht),dl (x:=y) fun t ht=>h t (.inr ht)]
 case cB s x y=>rw [dl (x:=x) fun t ht=>h t (.inl ht),dl (x:=y) fun t ht=>h t (.inr ht)]
 case D0 l s x y=>rw [dl (x:=x) fun t ht=>h t (.inl ht),dl (x:=y) fun t ht=>h t (.inr ht)]
 case D1 x y=>rw [dl (x:=x) fun t ht=>h t (.inl ht),dl (x:=y) fun t ht=>h t (.inr ht)]
 case D2 l s g x y=>rw [dl (x:=x) fun t ht=>h t (.inl ht),dl (x:=y) fun t ht=>h t (.inr ht)]
 case Nb kk z ok x y=>rw [dl (x:=x) fun t ht=>h t (.inl ht),dl (x:=y) fun t ht=>h t (.inr ht)]
 all_goals first
  | rfl
  | (rename_i x;rw [dl (x:=x) h])
def Fz {hp ap:Hp} {ct:Nat} {o:Op} (h:∀t,t∈jm o->aj bG t=aj tm t):cG bG ap ct o=cG tm hp ct o:=by
 cases o<;>simp only [jm,wB] at h<;>simp only [cG]
 case box s x=>rw [dl (x:=x) h]
 case lm n s z ps=>rw [OH h]
 case nc s b z x y=>rw [dl (x:=x) fun t ht=>h t (.inl ht),dl (x:=y) fun t ht=>h t (.inr ht)]
 case oy x=>rw [dl (x:=x) h]
def AX {hp:Hp} {ct:Nat} {o:Op} (h:∀t,t∈jm o->aj bG t=aj tm t):cA bG hp ct o=cA tm hp ct o:=by
 cases o<;>simp only [jm,wB] at h<;>simp only [cA]
 case st s x y=>rw [dl (x:=x) fun t ht=>h t (.inl ht),dl (x:=y) fun t ht=>h t (.inr ht)]
 case ox kk c a b=>rw [dl (x:=c) fun t ht=>h t (.inl ht),dl (x:=a) fun t ht=>h t (.inr (.inl ht)),dl (x:=b) fun t ht=>h t (.inr (.inr ht))]
 case oA x=>rw [dl (x:=x) h]
 case aS s b x y=>rw [dl (x:=x) fun t ht=>h t (.inl ht),dl (x:=y) fun t ht=>h t (.inr ht)]
 case oC s x y=>rw [dl (x:=x) fun t ht=>h t (.inl ht),dl (x:=y) fun t ht=>h t (.inr ht)]
end
section
open Go
structure Calm (w w':yi):Prop where
 os:w'.os=w.os
 tape:w'.tape=w.tape
 output:w'.output=w.output
 size:w.heap.size<=w'.heap.size
 same:∀b,b<w.heap.size->w'.heap[b]? =w.heap[b]?
def Calm.refl {w:yi}:Calm w w:=⟨rfl,rfl,rfl,yA _,fun _ _=>rfl⟩
def zK (O:bh) (w:yi):Prop:=(∀b,b<O.w0.heap.size->w.heap[b]? =O.w0.heap[b]?)/\O.w0.heap.size<=w.heap.size
def eF:Mp:=fun _=>none
def gF (af:Nat->Nat) (S:Nat->Prop) (w:yi) (lo:Nat):AV->yg->List Nat->Prop
 | .bI ex sz n cs,u,bs=>∃b o c arr t,bs=[b]/\u= .slice (some ⟨b,o,none⟩) n c/\n<=c/\(ex=true->c=n)/\lo<=b/\¬S b/\w.heap[b]? =some (.cells arr t (0,0))/\cs.length=n*sz/\
   o+c*sz<=arr.size/\bN af eF S w cs b o/\aH cs=true
 | r,u,bs=>bs=[]/\ah af eF S w r u/\bk r=true
def jP (af:Nat->Nat) (S:Nat->Prop) (w:yi) (lo:Nat):List AV->List yg->List Nat->Prop
 | [],us,bs=>us=[]/\bs=[]
 | v::r,us,bs=>∃u t b1 b2,us=u::t/\bs=b1++b2/\gF af S w lo v u b1/\jP af S w lo r t b2
def mb (af:Nat->Nat) (S:Nat->Prop) (w:yi) (lo:Nat) (r:AV) (u:yg):Prop:=
 match r with
 | .aa vs=>∃(us:Array yg) (bs:List Nat),u= .tuple us/\jP af S w lo vs us.toList bs/\bs.Nodup
 | r=>∃bs,gF af S w lo r u bs
def zp (P:xa) (f:tA) (args:Array yg) (w:yi) (R:yau->yi->Prop):Prop:=
 ((callFunc f args).run P w= .ok (.enter f args) w/\CallsIn Fence.wide 0 P f args w R)\/∃u w',(callFunc f args).run P w= .ok (.value u) w'/\R (.returned u) w'
def aal (O:bh) (w:yi) (S:Nat->Prop) (r:AV) (e:yau) (w':yi):Prop:=
 ∃u S',e= .returned u/\Calm w w'/\(∀b,S b->S' b)/\(∀b,S' b->S b\/w.heap.size<=b)/\(∀b,S' b->b<w'.heap.size)/\mb O.af S' w' w.heap.size r u
def dS (O:bh) (n:Nat) (ao:List AV) (r:AV):Prop:=
 ∀(w:yi) (S:Nat->Prop) (args:Array yg),zK O w->(∀b,S b->b<w.heap.size)->av O.af eF S w ao args.toList->aH ao=true->
  zp O.P (O.af n) args w (aal O w S r)
def rD (O:bh) (m:Mp) (S:Nat->Prop) (w:yi) (hp:Hp) (ct:Nat) (v:AV) (ap:Hp) (aV:Nat) (e:yau) (w':yi):Prop:=
 ∃u m' S',e= .returned u/\aO O m' S' w' ap aV/\ct<=aV/\ah O.af m' S' w' v u/\b6 m S w hp m' S' w' ap ct
def zL (O:bh) (n:Nat) (hp:Hp) (ct:Nat) (ao:List AV) (v:AV) (ap:Hp) (aV:Nat):Prop:=
 ∀(m:Mp) (S:Nat->Prop) (w:yi) (args:Array yg),aO O m S w hp ct->av O.af m S w ao args.toList->zp O.P (O.af n) args w (rD O m S w hp ct v ap aV)
section
variable {af:Nat->Nat} {m m':Mp} {S S':Nat->Prop} {w w':yi}
mutual
def oW (hS:∀b,S b->S' b) (hw:fp S w w'):∀(v:AV) (u:yg),bk v=true->ah af m S w v u->ah af m' S' w' v u
 | .int _ _,_,_,h | .bool _,_,_,h | .aw _ _,_,_,h | .str _,_,_,h | .kG,_,_,h | .ae,_,_,h | .ik,_,_,h | .jt,_,_,h | .undef,_,_,h=>by
  simpa only [ah] using h
 | .ptr id o,u,hp,h=>by simp [bk] at hp
 | .cg cs,u,hp,h=>by
  simp only [ah] at h ⊢;obtain ⟨b,o,h1,h2,h3,h4⟩:=h;refine ⟨b,o,h1,h2.imp id (hS b),h3,?_⟩;rcases h2 with rfl | h2
  ·simp only [bN]
  ·exact On hS hw cs b o h3 h2 h4
 | .aB ex n cs,u,hp,h=>by
  simp only [ah] at h ⊢;rcases h with ⟨b,o,c,h1,h2,h3,h4,h5,h6⟩ | h
  ·refine .inl ⟨b,o,c,h1,h2,h3,h4.imp id (hS b),h5,?_⟩;rcases h4 with rfl | h4
   ·simp only [bN]
   ·exact On hS hw cs b o h5 h4 h6
  ·exact .inr h
 | .bI _ _ _ _,u,hp,h=>by simp [bk] at hp
 | .aD id o n,u,hp,h=>by simp [bk] at hp
 | .fn (.f g) first cap,u,hp,h=>by
  simp only [ah] at h ⊢;simp only [bk,yf] at hp;obtain ⟨fi,ca,h1,h2,h3⟩:=h;exact ⟨fi,ca,h1,rA hS hw first _ hp.1 h2,rA hS hw cap _ hp.2 h3⟩
 | .fn (.y l) _ _,u,hp,h=>by simp [bk] at hp
 | .map id,u,hp,h=>by simp [bk] at hp
 | .iQ ks vs,u,hp,h=>by
  simp only [ah] at h ⊢;obtain ⟨b,es,clock,h1,h2,h3,h4,h5,h6,h7⟩:=h;exact ⟨b,es,clock,h1,hS b h2,h3,h4,(hw b h2).trans h5,rA hS hw ks _ h3 h6,rA hS hw vs _ h4 h7⟩
 | .it id,u,hp,h=>by simp [bk] at hp
 | .agg cs,u,hp,h=>by
  simp only [ah] at h ⊢;simp only [bk] at hp;obtain ⟨xs,h1,h2⟩:=h;exact ⟨xs,h1,rA hS hw cs _ hp h2⟩
 | .aa cs,u,hp,h=>by
  simp only [ah] at h ⊢;simp only [bk] at hp;obtain ⟨xs,h1,h2⟩:=h;exact ⟨xs,h1,rA hS hw cs _ hp h2⟩
def rA (hS:∀b,S b->S' b) (hw:fp S w w'):∀(vs:List AV) (us:List yg),aH vs=true->av af m S w vs us->av af m' S' w' vs us
 | [],us,_,h=>by simpa only [av] using h
 | v::r,us,hp,h=>by
  simp only [av] at h ⊢;simp only [aH,yf] at hp;obtain ⟨u,t,h1,h2,h3⟩:=h;exact ⟨u,t,h1,oW hS hw v u hp.1 h2,rA hS hw r t hp.2 h3⟩
def On (hS:∀b,S b->S' b) (hw:fp S w w'):∀(cs:List AV) (b o:Nat),aH cs=true->S b->bN af m S w cs b o->bN af m' S' w' cs b o
 | [],_,_,_,_,_=>by simp only [bN]
 | c::cs,b,o,hp,hb,h=>by
  simp only [bN] at h ⊢;simp only [aH,yf] at hp;obtain ⟨⟨u,h1,h2⟩,h3⟩:=h;exact ⟨⟨u,(Jh (hw b hb)).trans h1,oW hS hw c u hp.1 h2⟩,On hS hw cs b (o+1) hp.2 hb h3⟩
end
def AY (hS:∀b,S b->S' b) (hw:fp S w w'):∀(cs:List AV) (b o:Nat),aH cs=true->w'.heap[b]? =w.heap[b]? ->bN af m S w cs b o->bN af m' S' w' cs b o
 | [],_,_,_,_,_=>by simp only [bN]
 | c::cs,b,o,hp,hb,h=>by
  simp only [aH,yf] at hp;obtain ⟨⟨u,h1,h2⟩,h3⟩:=h;exact ⟨⟨u,(Jh hb).trans h1,oW hS hw c u hp.1 h2⟩,AY hS hw cs b (o+1) hp.2 hb h3⟩
end
section
variable {O:bh} {m:Mp} {S S':Nat->Prop} {w w':yi} {hp:Hp} {ct:Nat}
def amY (hh:aO O m S w hp ct) (hw:Calm w w'):fp S w w':=fun b hb=>hw.same b (hh.slt b hb)
def A2 (hh:aO O m S w hp ct) (hw:Calm w w') (hS:∀b,S b->S' b) (hn:∀b,S' b->S b\/w.heap.size<=b) (hl:∀b,S' b->b<w'.heap.size):aO O m S' w' hp ct where
 obj id o p ho hm:=pT (fun _ _ h=>h) hS (amY hh hw) (fun q hq=>hw.same _ (hh.blt id q hq)) (fun q hq hs=>(hn _ hs).resolve_right (by have:=hh.blt id q hq;omega)) (hh.obj id o p ho hm)
 lt:=hh.lt
 inj:=hh.inj
 slt:=hl
 blt id p h:=yE (hh.blt id p h) hw.size
 low:=hh.low
 ju b hb:=(hw.same b (yE hb hh.fB)).trans (hh.ju b hb)
 fB:=xe hh.fB hw.size
 aF:=hh.aF
def zg {base:Nat} (hh:aO O m S w hp ct) (hw:Calm w w') (hS:∀b,S b->S' b) (hn:∀b,S' b->S b\/w.heap.size<=b):b6 m S w hp m S' w' hp base where
 os:=hw.os
 tape:=hw.tape
 output:=hw.output
 size:=hw.size
 same b hb _:=hw.same b hb
 sub:=hS
 still b hb:=hw.same b (hh.slt b hb)
 new b hb:=(hn b hb).imp id .inr
 own b hb:= .inl hb
 old _ _ _ h:=h
 loops b r hb:=⟨r,(hw.same b (xo.1 hb).1).trans hb⟩
def aoI {i:Nat} (hh:aO O m S w hp ct) (hi:m i=none) (D4:i<ct) {p:Pl} (hb:p.b<w.heap.size) (aY:O.w0.heap.size<=p.b) (D6:¬S p.b) (nj:∀j q,m j=some q->q.b≠p.b)
  (hf:∀o,aA hp i=some o->(eM O (ff m i p) S w i o/\¬gO o)\/(gO o/\eM O (ff m i p) (fun b=>S b\/b=p.b) w i o)):
  ∃S',aO O (ff m i p) S' w hp ct/\(∀b,S b->S' b)/\∀b,S' b->S b\/b=p.b:=by
 have aT:fp S w w:=fun _ _=>rfl
 have gen:∀S':Nat->Prop,(∀b,S b->S' b)->(∀b,S' b->S b\/b=p.b)->(∀o,aA hp i=some o->eM O (ff m i p) S' w i o)->aO O (ff m i p) S' w hp ct:=by
  intro S' h1 h2 h3;refine ⟨?_,?_,?_,?_,?_,?_,hh.ju,hh.fB,hh.aF⟩
  ·intro id o q ho hm;by_cases hc:id=i
   ·grind
   ·rw [dP hc] at hm;refine pT (iJ hi) h1 aT (fun _ _=>rfl) (fun q' bL hs=>?_) (hh.obj id o q ho hm)
    grind
  ·intro id q hm;by_cases hc:id=i
   ·grind
   ·rw [dP hc] at hm;exact hh.lt id q hm
  ·intro a b oa ob pa pb ha bJ B7 r7 e;by_cases ca:a=i
   ·by_cases cb:b=i
    ·grind
    ·subst ca;rw [dC] at B7;rw [dP cb] at r7
     grind
   ·rw [dP ca] at B7;by_cases cb:b=i
    ·subst cb;rw [dC] at r7
     grind
    ·rw [dP cb] at r7;exact hh.inj a b oa ob pa pb ha bJ B7 r7 e
  ·intro b hs;rcases h2 b hs with h | h
   ·exact hh.slt b h
   ·grind
  ·intro id q hm;by_cases hc:id=i
   ·subst hc;rw [dC] at hm
    grind
   ·rw [dP hc] at hm;exact hh.blt id q hm
  ·intro id q hm;by_cases hc:id=i
   ·subst hc;rw [dC] at hm
    grind
   ·rw [dP hc] at hm;exact hh.low id q hm
 cases ho:aA hp i with
 | none=>exact ⟨S,gen S (fun _ h=>h) (fun _ h=> .inl h) (fun o h=>by rw [ho] at h;cases h),fun _ h=>h,fun _ h=> .inl h⟩
 | some o=>
  rcases hf o ho with ⟨h1,_⟩ | ⟨_,h1⟩
  ·exact ⟨S,gen S (fun _ h=>h) (fun _ h=> .inl h) (fun o' h=>by rw [ho] at h;injection h with h;subst h;exact h1),fun _ h=>h,fun _ h=> .inl h⟩
  ·exact ⟨_,gen (fun b=>S b\/b=p.b) (fun _ h=> .inl h) (fun _ h=>h) (fun o' h=>by rw [ho] at h;injection h with h;subst h;exact h1),fun _ h=> .inl h,fun _ h=>h⟩
def Zy {af:Nat->Nat} {lo:Nat} {r:AV} {u:yg} {bs:List Nat} (h:gF af S w lo r u bs) (m:Mp) (hS:∀b,S b->S' b) (hbs:∀b,b∈bs->S' b):ah af m S' w (b9 r) u:=by
 have aT:fp S w w:=fun _ _=>rfl
 cases r with
 | bI ex sz n cs=>
  obtain ⟨b,o,c,arr,t,rfl,rfl,h1,h2,h3,h4,h5,h6,h7,h8,h9⟩:=h;exact .inl ⟨b,o,c,rfl,h1,h2,.inr (hbs b (by simp)),h9,AY hS aT cs b o h9 rfl h8⟩
 | _=>simp only [gF] at h;exact oW hS aT _ _ h.2.2 h.2.1
def Zz {af:Nat->Nat} {lo:Nat} (m:Mp) (hS:∀b,S b->S' b):∀{vs:List AV} {us:List yg} {bs:List Nat},jP af S w lo vs us bs->(∀b,b∈bs->S' b)->av af m S' w (Bu vs) us
 | [],us,bs,h,_=>by simp only [jP] at h;exact h.1
 | v::r,us,bs,h,hb=>by
  obtain ⟨u,t,b1,b2,rfl,rfl,h1,h2⟩:=h;exact ⟨u,t,rfl,Zy h1 m hS (fun b bJ=>hb b (by simp [bJ])),Zz m hS h2 (fun b bJ=>hb b (by simp [bJ]))⟩
def Pp {af:Nat->Nat} {lo:Nat} {r:AV} {u:yg} {bs:List Nat} (h:gF af S w lo r u bs):∀b,b∈bs->lo<=b/\b<w.heap.size:=by
 intro b hb
 cases r with
 | bI ex sz n cs=>
  simp only [gF] at h
  grind
 | _=>simp only [gF] at h;rw [h.1] at hb;cases hb
def Pq {af:Nat->Nat} {lo:Nat}:∀{vs:List AV} {us:List yg} {bs:List Nat},jP af S w lo vs us bs->∀b,b∈bs->lo<=b/\b<w.heap.size
 | [],us,bs,h,b,hb=>by simp only [jP] at h;rw [h.2] at hb;cases hb
 | v::r,us,bs,h,b,hb=>by
  obtain ⟨u,t,b1,b2,rfl,rfl,h1,h2⟩:=h;rcases wB.1 hb with hb | hb
  ·exact Pp h1 b hb
  ·exact Pq h2 b hb
def ZA {af:Nat->Nat} {lo:Nat} {r:AV} {u:yg} (h:mb af S w lo r u) (m:Mp):∃S',(∀b,S b->S' b)/\(∀b,S' b->S b\/(lo<=b/\b<w.heap.size))/\ah af m S' w (shut r) u:=by
 have one:∀(r:AV) (bs:List Nat),shut r=b9 r->gF af S w lo r u bs->∃S',(∀b,S b->S' b)/\(∀b,S' b->S b\/(lo<=b/\b<w.heap.size))/\ah af m S' w (shut r) u:=by
  intro r bs hs h;refine ⟨fun b=>S b\/b∈bs,fun _ h=> .inl h,fun b hb=>hb.imp (fun x=>x) (fun hb=>Pp h b hb),?_⟩;rw [hs];exact Zy h m (fun _ h=> .inl h) (fun _ h=> .inr h)
 cases r with
 | aa vs=>
  obtain ⟨us,bs,rfl,h1,h2⟩:=h;refine ⟨fun b=>S b\/b∈bs,fun _ h=> .inl h,fun b hb=>hb.imp (fun x=>x) (fun hb=>Pq h1 b hb),?_⟩;exact ⟨us,rfl,Zz m (fun _ h=> .inl h) h1 (fun _ h=> .inr h)⟩
 | _=>
  obtain ⟨bs,h⟩:=h;exact one _ bs rfl h
end
end
section
open Go
section
variable {O:bh} {m:Mp} {S:Nat->Prop} {w:yi} {H:Hp} {cH:Nat}
def Ke {hp:Hp} {ct:Nat} {r:AV}:ct<=(eU hp ct r).2.2:=by
 cases r<;>simp only [eU]<;>omega
def Kf:∀{vs:List AV} {hp:Hp} {ct:Nat},ct<=(iY hp ct vs).2.2
 | [],hp,ct=>by simp [iY]
 | v::r,hp,ct=>by
  simp only [iY];have h1:=Ke (hp:=hp) (ct:=ct) (r:=v);have h2:=Kf (vs:=r) (hp:=(eU hp ct v).2.1) (ct:=(eU hp ct v).2.2);omega
def Pr {hp:Hp} {ct:Nat} {r:AV} (hf:∀id o,aA hp id=some o->id<ct):∀id o,aA hp id=some o->aA (eU hp ct r).2.1 id=some o:=by
 intro id o h;cases r<;>simp only [eU]<;>try exact h
 rw [fm,yu (by have:=hf id o h;omega)];exact h
def abm {hp:Hp} {ct lo:Nat} {r:AV} {u:yg} {bs:List Nat} (hh:aO O m S w H cH) (hl:cL (eU hp ct r).2.1 H) (fO:(eU hp ct r).2.2<=cH) (hn:∀id,ct<=id->id<(eU hp ct r).2.2->m id=none)
  (hr:gF O.af S w lo r u bs) (aY:O.w0.heap.size<=lo) (nj:∀j q,m j=some q->q.b∉bs):
  ∃m' S',aO O m' S' w H cH/\cR m m'/\(∀id p,m' id=some p->m id=some p\/(ct<=id/\id<(eU hp ct r).2.2/\p.b∈bs))/\ah O.af m' S' w (eU hp ct r).1 u/\(∀b,S b->S' b)/\(∀b,S' b->S b\/b∈bs):=by
 have aT:fp S w w:=fun _ _=>rfl
 cases r with
 | bI ex sz n cs=>
  simp only [eU] at hl fO hn;obtain ⟨b,o,c,arr,t,rfl,rfl,h1,h2,h3,h4,h5,h6,h7,h8,h9⟩:=hr;have bH:m ct=none:=hn ct (yA _) (Nat.lt_succ_self _);have ayR:b<w.heap.size:=(xo.1 h5).1;have ni:eM O (ff m ct ⟨b,o,c*sz,sz⟩) S w ct (.cells true true ex sz cs):=by
   refine ⟨_,arr,t,dC,h5,rfl,?_,h7,fun hx=>?_,AY (fun _ h=>h) aT cs b o h9 rfl h8,fun _=>h9,fun _=>h4,by simp⟩
   ·show cs.length<=c*sz
    rw [h6];exact yT _ h1
   ·grind
  obtain ⟨S',k1,k2,k3⟩:=aoI (p:=⟨b,o,c*sz,sz⟩) hh bH (by omega) ayR (by show _<=b;omega) h4 (fun j q hq e=>nj j q hq (by rw [e];simp)) (fun o' jb=>by
   obtain ⟨WO,g1,g2⟩:=hl ct (.cells true true ex sz cs) (by rw [fm];simp)
   rw [jb] at g1;injection g1 with g1
   subst g1
   exact Od (p:=⟨b,o,c*sz,sz⟩) g2 dC ni (by simp [gO]))
  refine ⟨_,S',k1,iJ bH,fun id p ap=>?_,?_,k2,fun b' bJ=>(k3 b' bJ).imp (fun h=>h) (fun h=>by rw [h];simp)⟩
  ·by_cases hc:id=ct
   ·subst hc;rw [dC] at ap;injection ap with ap
    subst ap;exact .inr ⟨yA _,by simp [eU],by simp⟩
   ·rw [dP hc] at ap;exact .inl ap
  ·simp only [eU,ah];exact ⟨_,c,dC,by simp,h1,by simp⟩
 | _=>
  exact ⟨m,S,hh,cR.refl,fun _ _ h=> .inl h,oW (fun _ h=>h) aT _ _ hr.2.2 hr.2.1,fun _ h=>h,fun _ h=> .inl h⟩
def F5 {hp:Hp} {ct:Nat} {r:AV} (hf:∀id o,aA hp id=some o->id<ct):∀id o,aA (eU hp ct r).2.1 id=some o->id<(eU hp ct r).2.2:=by
 intro id o h;cases r<;>simp only [eU] at h ⊢<;>try exact hf id o h
 rw [fm] at h
 grind
def Kg:∀{vs:List AV} {hp:Hp} {ct:Nat},(∀id o,aA hp id=some o->id<ct)->∀id o,aA hp id=some o->aA (iY hp ct vs).2.1 id=some o
 | [],hp,ct,_,id,o,h=>by simpa [iY] using h
 | v::r,hp,ct,hf,id,o,h=>by
  exact Kg (F5 hf) id o (Pr hf id o h)
def abn {lo:Nat} (aY:O.w0.heap.size<=lo):∀{vs:List AV} {us:List yg} {bs:List Nat} {hp:Hp} {ct:Nat} {m:Mp} {S:Nat->Prop},aO O m S w H cH->cL (iY hp ct vs).2.1 H->(iY hp ct vs).2.2<=cH->
  (∀id o,aA hp id=some o->id<ct)->(∀id,ct<=id->id<(iY hp ct vs).2.2->m id=none)->
  jP O.af S w lo vs us bs->bs.Nodup->(∀j q,m j=some q->q.b∉bs)->
  ∃m' S',aO O m' S' w H cH/\cR m m'/\(∀id p,m' id=some p->m id=some p\/(ct<=id/\id<(iY hp ct vs).2.2/\p.b∈bs))/\av O.af m' S' w (iY hp ct vs).1 us/\(∀b,S b->S' b)/\(∀b,S' b->S b\/b∈bs)
 | [],us,bs,hp,ct,m,S,hh,hl,fO,hf,hn,hr,kR,nj=>by
  simp only [jP] at hr;exact ⟨m,S,hh,cR.refl,fun _ _ h=> .inl h,by simp only [iY,av];exact hr.1,fun _ h=>h,fun _ h=> .inl h⟩
 | v::r,us,bs,hp,ct,m,S,hh,hl,fO,hf,hn,hr,kR,nj=>by
  simp only [jP] at hr;obtain ⟨u,t,b1,b2,rfl,rfl,h1,h2⟩:=hr;simp only [iY] at hl fO hn ⊢;have dU:=Ke (hp:=hp) (ct:=ct) (r:=v);have qW:=Kf (vs:=r) (hp:=(eU hp ct v).2.1) (ct:=(eU hp ct v).2.2);rw [List.nodup_append] at kR;obtain ⟨m1,S1,k1,k2,k3,k4,k5,k6⟩:=abm (hp:=hp) (ct:=ct) (lo:=lo) hh ((fun id o h=>hl id o (Kg (F5 hf) id o h))) (by omega) (fun id g1 g2=>hn id g1 (by omega)) h1 aY
   (fun j q hq hb=>nj j q hq (by simp [hb]))
  have WV:jP O.af S1 w lo r t b2:=by
   clear k4;have QN:∀b,S1 b->S b\/b∈b1:=k6;have hd:∀b,b∈b2->b∉b1:=fun b hb jU=>kR.2.2 b jU b hb rfl
   have one:∀{v:AV} {u:yg} {bb:List Nat},(∀b,b∈bb->b∉b1)->gF O.af S w lo v u bb->gF O.af S1 w lo v u bb:=by
    intro v u bb qR h
    cases v with
    | bI ex sz n cs=>
     simp only [gF] at h ⊢;obtain ⟨b,o,c,arr,tt,rfl,rfl,g1,g2,g3,g4,g5,g6,g7,g8,g9⟩:=h;exact ⟨b,o,c,arr,tt,rfl,rfl,g1,g2,g3,fun hs=>(QN b hs).elim g4 (qR b (by simp)),g5,g6,g7,AY k5 (fun _ _=>rfl) cs b o g9 rfl g8,g9⟩
    | _=>simp only [gF] at h ⊢;exact ⟨h.1,oW k5 (fun _ _=>rfl) _ _ h.2.2 h.2.1,h.2.2⟩
   clear k1 k2 k3 hl fO hn nj kR;revert hd h2;generalize b2=bb
   induction r generalizing t bb with
   | nil=>intro h2 hd;simpa only [jP] using h2
   | cons v' r ih=>
    intro h2 hd;simp only [jP] at h2 ⊢;obtain ⟨u',t',c1,c2,rfl,rfl,g1,g2⟩:=h2
    exact ⟨u',t',c1,c2,rfl,rfl,one (fun b hb=>hd b (by simp [hb])) g1,ih _ (by
     have:=Kf (vs:=r) (hp:=(eU hp ct v).2.1) (ct:=(eU hp ct v).2.2)
     exact this) _ g2 (fun b hb=>hd b (by simp [hb]))⟩
  obtain ⟨m2,S2,g1,g2,g3,g4,g5,g6⟩:=abn aY (vs:=r) (us:=t) (bs:=b2) (m:=m1) (S:=S1) k1 hl fO (F5 hf) (fun id q1 q2=>by
   cases hq:m1 id with
   | none=>rfl
   | some p=>
    rcases k3 id p hq with h | ⟨_,h,_⟩
    ·rw [hn id (by omega) q2] at h;cases h
    ·omega) WV kR.2.1 (fun j q hq hb=>by
     rcases k3 j q hq with h | ⟨_,_,h⟩
     ·exact nj j q h (by simp [hb])
     ·exact kR.2.2 q.b h q.b hb rfl)
  refine ⟨m2,S2,g1,k2.trans g2,fun id p ap=>?_,?_,fun b hb=>g5 b (k5 b hb),fun b hb=>?_⟩
  ·rcases g3 id p ap with h | ⟨a1,a2,a3⟩
   ·rcases k3 id p h with h | ⟨a1,a2,a3⟩
    ·exact .inl h
    ·exact .inr ⟨a1,by omega,by simp [a3]⟩
   ·exact .inr ⟨by omega,a2,by simp [a3]⟩
  ·simp only [av];exact ⟨u,t,rfl,kj g2 g5 (fun _ _=>rfl) _ _ k4,g4⟩
  ·rcases g6 b hb with h | h
   ·exact (k6 b h).imp (fun h=>h) (fun h=>by simp [h])
   ·exact .inr (by simp [h])
def as7 {hp:Hp} {ct lo:Nat} {r:AV} {u:yg} (hh:aO O m S w H cH) (hl:cL (own hp ct r).2.1 H) (fO:(own hp ct r).2.2<=cH) (hf:∀id o,aA hp id=some o->id<ct)
  (hn:∀id,ct<=id->id<(own hp ct r).2.2->m id=none) (hr:mb O.af S w lo r u) (aY:O.w0.heap.size<=lo) (It:∀j q,m j=some q->q.b<lo):
  ∃m' S',aO O m' S' w H cH/\cR m m'/\(∀id p,m' id=some p->m id=some p\/(ct<=id/\id<(own hp ct r).2.2/\lo<=p.b))/\ah O.af m' S' w (own hp ct r).1 u/\(∀b,S b->S' b)/\(∀b,S' b->S b\/lo<=b):=by
 have one:∀(r:AV) (bs:List Nat),own hp ct r=eU hp ct r->gF O.af S w lo r u bs->cL (own hp ct r).2.1 H->(own hp ct r).2.2<=cH->(∀id,ct<=id->id<(own hp ct r).2.2->m id=none)->
   ∃m' S',aO O m' S' w H cH/\cR m m'/\(∀id p,m' id=some p->m id=some p\/(ct<=id/\id<(own hp ct r).2.2/\lo<=p.b))/\ah O.af m' S' w (own hp ct r).1 u/\(∀b,S b->S' b)/\(∀b,S' b->S b\/lo<=b):=by
  intro r bs he hr hl fO hn;rw [he] at hl fO hn ⊢;have BH:=Pp hr;obtain ⟨m',S',k1,k2,k3,k4,k5,k6⟩:=abm hh hl fO hn hr aY (fun j q hq hb=>by have:=It j q hq;have:=(BH _ hb).1;omega)
  exact ⟨m',S',k1,k2,fun id p h=>(k3 id p h).imp (fun h=>h) (fun h=>⟨h.1,h.2.1,(BH _ h.2.2).1⟩),k4,k5,fun b hb=>(k6 b hb).imp (fun h=>h) (fun h=>(BH _ h).1)⟩
 cases r with
 | aa vs=>
  simp only [own] at hl fO hn ⊢;simp only [mb] at hr;obtain ⟨us,bs,rfl,h1,h2⟩:=hr;have BH:=Pq h1;obtain ⟨m',S',k1,k2,k3,k4,k5,k6⟩:=abn aY hh hl fO hf hn h1 h2 (fun j q hq hb=>by have:=It j q hq;have:=(BH _ hb).1;omega)
  exact ⟨m',S',k1,k2,fun id p h=>(k3 id p h).imp (fun h=>h) (fun h=>⟨h.1,h.2.1,(BH _ h.2.2).1⟩),by simp only [ah];exact ⟨us,rfl,k4⟩,k5,fun b hb=>(k6 b hb).imp (fun h=>h) (fun h=>(BH _ h).1)⟩
 | _=>
  simp only [mb] at hr;obtain ⟨bs,hr⟩:=hr;exact one _ bs rfl hr hl fO hn
end
end
end VE
