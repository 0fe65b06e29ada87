import GoSem.Core.Code
import GoSem.Core.Float
import GoSem.Core.Utf8
import Derived.CallsIn
import Derived.Laws.World
import GoSem.Op.Equal
import GoSem.Core.Region
import Derived.Below
import Derived.Laws.AppendOwn
import Derived.Laws.Rows
import Derived.WalkKit
import Derived.Laws.CopyRow
import Derived.Laws.Cells
import Derived.Laws.Strings
import Derived.Lib.Strings
import Derived.WideLaws
import Derived.Maps.Keyed
import Derived.ChangeKeysEq
set_option linter.all false
set_option maxRecDepth 100000
open BitVec renaming ofInt→xQ
open Bool renaming and_assoc→tE,and_eq_true→yg,eq_iff_iff→uB,false_eq_true→yI,not_eq_true'→uC
open Go renaming Addr→uA,BinOp→wZ,Code→wY,Field→uM,FloatKind→ub,IntKind→y7,MapEntry→uS,Oper→yX,Operand→xu,Program→y5,TypeDesc→vI,TypeId→yC,UnOp→ybJ,Value→yh,World→yi,binOp→xO,sizeOf→vK
open Go.Utf8 renaming runeError→uh,valid→yaL
open List renaming cons_append→xk,drop_drop→vX,extract_eq_take_drop→tJ,getElem?_eq_getElem→xM,length_cons→yz,length_take→yE,map_cons→xa,replicate→yj,take_succ_cons→wD,take_zero→yah
open Nat renaming add_assoc→uW,add_mul→wJ,beq→yv,beq_eq→ybT,ble→yF,ble_eq→ybU,blt→yQ,eq_of_beq_eq_true→yp,le_of_ble_eq_true→yy,le_refl→yu,le_trans→xm,testBit→uJ
open Option renaming map_none→vW,map_some→wM
open Option.some renaming injEq→yd
open UInt8 renaming toNat→xc,toNat_inj→yaM
def vz:=@and_true
def yav:=@beq_iff_eq
def tY:=@beq_self_eq_true
def yT:=@cond_false
def yA:=@cond_true
def tZ:=@decide_eq_decide
def y8:=@decide_eq_false
def vl:=@decide_eq_false_iff_not
def xn:=@decide_eq_true
def wh:=@decide_eq_true_eq
def yt:=@decide_false
def yq:=@decide_true
def ybC:=@false_or
def xg:=@if_false
def yx:=@if_neg
def yM:=@if_pos
def xE:=@if_true
def ug:=@ne_eq
def xq:=@not_false_eq_true
def ybV:=@not_true_eq_false
def tn:=@true_and
namespace VE
section
open Go (IntKind FloatKind BinOp UnOp)
inductive Fr where
 | f (n:Nat)
 | y (l:Nat)
 deriving DecidableEq,Inhabited
inductive AV where
 | int (k:y7) (n:Int)
 | bool (b:Bool)
 | bQ (k:ub) (bits:Nat)
 | str (s:List Nat)
 | kQ
 | ptr (id off:Nat)
 | b6 (cells:List AV)
 | aa
 | aw (ex:Bool) (n:Nat) (cells:List AV)
 | bn (ex:Bool) (sz n:Nat) (cells:List AV)
 | ao (id off n:Nat)
 | fn (f:Fr) (first cap:List AV)
 | jb
 | km
 | map (id:Nat)
 | jy (ks vs:List AV)
 | it (id:Nat)
 | agg (cells:List AV)
 | ae (vs:List AV)
 | undef
 deriving Inhabited
inductive X where
 | t (i:Nat)
 | c (v:AV)
 deriving Inhabited
inductive Conv where
 | toInt (k:y7)
 | toFlt (k:ub)
 | str
 deriving Inhabited
inductive Md where
 | pure | own | heap | dyn
 deriving Inhabited
inductive Cut where
 | str
 | sl (sz:Nat)
 | ar (len sz:Nat)
 deriving Inhabited
inductive PH where
 | b | sl | fn | ag (ks:List Nat)
 deriving Inhabited
inductive Op where
 | cz (x:X)
 | pick (c a b:X)
 | box (sz:Nat) (x:X)
 | gk (zero:List AV) (parts:List (Nat×Nat×X))
 | cW (n sz:Nat) (zero:List AV) (parts:List (Nat×Nat×X))
 | ld (sz:Nat) (ag:Bool) (x:X)
 | st (sz:Nat) (x v:X)
 | Jw (x:X)
 | bin (op:wZ) (x y:X)
 | eq (ne:Bool) (k:PH) (x y:X)
 | un (op:ybJ) (x:X)
 | cv (k:Conv) (x:X)
 | DF (f:Fr) (first cap:List X)
 | Ah
 | gO (sz bytes:Nat) (zero:List AV) (len cap:X)
 | dO (k:Cut) (x:X) (lo hi:Option X)
 | off (k:Nat) (x:X)
 | KC (o sz:Nat) (ag:Bool) (x:X)
 | aY (sz:Nat) (x i:X)
 | Gc (len sz:Nat) (x i:X)
 | kU (x i:X)
 | Gd (len sz:Nat) (ag:Bool) (x i:X)
 | PI (kk:Nat) (zero:AV) (ok:Bool) (m k:X)
 | pR (kk:Nat) (m k v:X)
 | pT (x:X)
 | pU (x:X)
 | ext (i:Nat) (x:X)
 | call (m:Md) (f:X) (xs:List X)
 | iW (rs:List (Nat×Bool×Nat)) (f:X) (xs:List X)
 | jC (rs:List (Nat×Bool×Nat)) (sz:Nat) (x v:X)
 | kV (rs:List (Nat×Bool×Nat)) (sz bytes:Nat) (s x:X)
 | aR (sz bytes:Nat) (s x:X)
 | nn (sz bytes:Nat) (s x:X)
 | mD (sz:Nat) (d s:X)
 | len (k:Nat) (x:X)
 | mn (xs:List X)
 | mx (xs:List X)
 deriving Inhabited
structure a8 where
 dst:Option Nat
 guard:Option (Nat×Bool)
 op:Op
 deriving Inhabited
inductive VC where
 | skip
 | aJ (ops:List a8)
 | seq (a b:VC)
 | cond (x:X) (a b:VC)
 | aF (id:Nat) (a:VC)
 | kp (live:List Nat)
 | fz (ts:List Nat)
 | loop (live:List Nat) (a:VC)
 | rf (f:X) (ps:List Nat) (assign body:VC)
 | exit (id:Nat)
 | ret
 deriving Inhabited
inductive RV where
 | t (i:Nat)
 | cell (i sz:Nat) (ag:Bool)
 deriving Inhabited
structure aV where
 fO:List RV
 body:VC
 deriving Inhabited
inductive zQ where
 | none | ret | exit (id:Nat)
 deriving Inhabited,DecidableEq
abbrev Env:=List (Nat×AV)
inductive Obj where
 | cells (rw pu ex:Bool) (sz:Nat) (cs:List AV)
 | mp (rw:Bool) (ks vs:List AV)
 | si (s:List Nat) (pos:Nat)
 | lp (tm:Env) (ps:List Nat) (assign body:VC) (state:Nat) (pending:zQ)
 deriving Inhabited
abbrev Hp:=List (Nat×Obj)
structure St where
 tm:Env
 hp:Hp
 ct:Nat
 base:Nat
 deriving Inhabited
inductive Ex where
 | normal
 | ret
 | exit (id:Nat)
 deriving Inhabited,DecidableEq
def ai:Env->Nat->AV
 | [],_=> .undef
 | (j,v)::r,i=>bif yv j i then v else ai r i
def au:Hp->Nat->Option Obj
 | [],_=>none
 | (j,o)::r,i=>bif yv j i then some o else au r i
def a7:Hp->Nat->Obj->Hp
 | [],_,_=>[]
 | (j,o)::r,i,u=>bif yv j i then (j,u)::r else (j,o)::a7 r i u
def dJ:Hp->Nat->Hp
 | [],_=>[]
 | (j,o)::r,i=>bif yv j i then dJ r i else (j,o)::dJ r i
mutual
def bg:AV->Bool
 | .ptr _ _ | .ao _ _ _ | .map _ | .it _ | .bn _ _ _ _=>false
 | .fn (.y _) _ _=>false
 | .fn (.f _) first cap=>aG first&&aG cap
 | .agg cs=>aG cs
 | .ae vs=>aG vs
 | _=>true
def aG:List AV->Bool
 | []=>true
 | v::r=>bg v&&aG r
end
def cellsOf:AV->List AV
 | .agg cs=>cs
 | v=>[v]
def dt:AV->Bool
 | .agg _ | .ae _ | .undef | .bn _ _ _ _=>false
 | _=>true
def cp:List AV->Bool
 | []=>true
 | v::r=>dt v&&cp r
def aA (tm:Env):X->AV
 | .t i=>ai tm i
 | .c v=>v
def dD (tm:Env):List X->List AV
 | []=>[]
 | x::r=>aA tm x::dD tm r
def slice (o n:Nat) (cs:List AV):List AV:=(cs.drop o).take n
def over (o:Nat) (new cs:List AV):List AV:=cs.take o++new++cs.drop (o+new.length)
mutual
def freeze:Nat->Hp->AV->Option (AV×Hp)
 | 0,_,_=>none
 | n+1,hp,v=>
  match v with
  | .ao id o k=>
   match nN n hp id with
   | some (ex,sz,cs,aj)=>
    bif yF (o+k*sz) cs.length then
     some (.aw (ex&&yQ 0 sz&&yv (o+k*sz) cs.length) k (slice o (k*sz) cs),aj)
    else none
   | none=>none
  | .ptr id o=>
   match nN n hp id with
   | some (_,_,cs,aj)=>some (.b6 (cs.drop o),aj)
   | none=>none
  | .map id=>
   match au hp id with
   | some (.mp _ ks vs)=>bif aG ks&&aG vs then some (.jy ks vs,a7 hp id (.mp false ks vs)) else none
   | _=>none
  | .fn (.f g) first cap=>
   match cB n hp first with
   | some (ahL,bc)=>
    match cB n bc cap with
    | some (NS,fX)=>some (.fn (.f g) ahL NS,fX)
    | none=>none
   | none=>none
  | .agg cs=>match cB n hp cs with | some (dG,aj)=>some (.agg dG,aj) | none=>none
  | .ae cs=>match cB n hp cs with | some (dG,aj)=>some (.ae dG,aj) | none=>none
  | v=>bif bg v then some (v,hp) else none
def nN:Nat->Hp->Nat->Option (Bool×Nat×List AV×Hp)
 | 0,_,_=>none
 | n+1,hp,id=>
  match au hp id with
  | some (.cells rw pu ex sz cs)=>
   bif pu then some (ex,sz,cs,bif rw then a7 hp id (.cells false true ex sz cs) else hp)
   else match cB n hp cs with
    | some (dG,aj)=>some (ex,sz,dG,a7 aj id (.cells false false ex sz cs))
    | none=>none
  | _=>none
def cB:Nat->Hp->List AV->Option (List AV×Hp)
 | 0,_,_=>none
 | _+1,hp,[]=>some ([],hp)
 | n+1,hp,v::r=>
  match freeze n hp v with
  | some (v',bc)=>
   match cB n bc r with
   | some (r',fX)=>some (v'::r',fX)
   | none=>none
  | none=>none
end
def j0 (n:Nat) (hp:Hp) (v:AV):Option (AV×Hp):=
 match v with
 | .ao id o k=>
  match au hp id with
  | some (.cells true true ex sz cs)=>
   bif yF (o+k*sz) cs.length then
    some (.bn (ex&&yQ 0 sz&&yv (o+k*sz) cs.length) sz k (slice o (k*sz) cs),dJ hp id)
   else none
  | _=>freeze n hp v
 | _=>freeze n hp v
def zt:List AV->Option (List Nat)
 | []=>some []
 | .ao id _ _::r=>match zt r with | some l=>bif l.any (yv id) then none else some (id::l) | none=>none
 | v::r=>bif bg v then zt r else none
def oZ (n:Nat):Hp->List AV->Option (List AV×Hp)
 | hp,[]=>some ([],hp)
 | hp,v::r=>
  match j0 n hp v with
  | some (v',bc)=>match oZ n bc r with | some (r',fX)=>some (v'::r',fX) | none=>none
  | none=>none
def deep:Nat:=1000
def result (hp:Hp) (v:AV):Option AV:=
 match v with
 | .ae vs=>
  match zt vs with
  | some _=>match oZ deep hp vs with | some (ej,_)=>some (.ae ej) | none=>none
  | none=>match freeze deep hp v with | some (v',_)=>some v' | none=>none
 | v=>match j0 deep hp v with | some (v',_)=>some v' | none=>none
def bK:AV->AV
 | .bn ex _ n cs=> .aw ex n cs
 | v=>v
def C6:List AV->List AV
 | []=>[]
 | v::r=>bK v::C6 r
def shut:AV->AV
 | .bn ex _ n cs=> .aw ex n cs
 | .ae vs=> .ae (C6 vs)
 | v=>v
def fy (hp:Hp) (ct:Nat):AV->AV×Hp×Nat
 | .bn ex sz n cs=>(.ao ct 0 n,(ct,.cells true true ex sz cs)::hp,ct+1)
 | v=>(v,hp,ct)
def jL:Hp->Nat->List AV->List AV×Hp×Nat
 | hp,ct,[]=>([],hp,ct)
 | hp,ct,v::r=>((fy hp ct v).1::(jL (fy hp ct v).2.1 (fy hp ct v).2.2 r).1,(jL (fy hp ct v).2.1 (fy hp ct v).2.2 r).2)
def own (hp:Hp) (ct:Nat):AV->AV×Hp×Nat
 | .ae vs=>(.ae (jL hp ct vs).1,(jL hp ct vs).2)
 | v=>fy hp ct v
mutual
def refs:AV->List Nat
 | .ptr id _=>[id]
 | .ao id _ _=>[id]
 | .map id=>[id]
 | .it id=>[id]
 | .fn (.f _) first cap=>fT first++fT cap
 | .fn (.y l) _ _=>[l]
 | .agg cs=>fT cs
 | .ae cs=>fT cs
 | _=>[]
def fT:List AV->List Nat
 | []=>[]
 | v::r=>refs v++fT r
end
def fc:Env->List Nat
 | []=>[]
 | (_,v)::r=>refs v++fc r
def iX:Obj->List Nat
 | .cells _ pu _ _ cs=>bif pu then [] else fT cs
 | .mp _ ks vs=>fT ks++fT vs
 | .si _ _=>[]
 | .lp tm _ _ _ _ _=>fc tm
mutual
def b7 (f:Nat->Option Nat):AV->AV
 | .ptr id o=>match f id with | some j=> .ptr j o | none=> .undef
 | .ao id o n=>match f id with | some j=> .ao j o n | none=> .undef
 | .map id=>match f id with | some j=> .map j | none=> .undef
 | .it id=>match f id with | some j=> .it j | none=> .undef
 | .fn (.f g) first cap=> .fn (.f g) (eE f first) (eE f cap)
 | .fn (.y l) first cap=>match f l with | some j=> .fn (.y j) (eE f first) (eE f cap) | none=> .undef
 | .agg cs=> .agg (eE f cs)
 | .ae cs=> .ae (eE f cs)
 | v=>v
def eE (f:Nat->Option Nat):List AV->List AV
 | []=>[]
 | v::r=>b7 f v::eE f r
end
def fC (f:Nat->Option Nat):Env->Env
 | []=>[]
 | (i,v)::r=>(i,b7 f v)::fC f r
def iH (f:Nat->Option Nat):Obj->Obj
 | .cells rw pu ex sz cs=> .cells rw pu ex sz (bif pu then cs else eE f cs)
 | .mp rw ks vs=> .mp rw (eE f ks) (eE f vs)
 | .si s pos=> .si s pos
 | .lp tm ps cM body st pe=> .lp (fC f tm) ps cM body st pe
def cg (tm:Env):List Nat->Env
 | []=>[]
 | i::r=>(i,ai tm i)::cg tm r
def jz (i:Nat):List Nat->Bool
 | []=>false
 | j::r=>bif yv j i then true else jz i r
def reach (hp:Hp) (base:Nat):Nat->List Nat->List Nat->List Nat
 | 0,_,seen=>seen
 | _+1,[],seen=>seen
 | n+1,id::fL,seen=>
  bif yQ id base||jz id seen then reach hp base n fL seen
  else match au hp id with
   | some o=>reach hp base n (iX o++fL) (seen++[id])
   | none=>reach hp base n fL seen
def js (base:Nat):Hp->List Nat
 | []=>[]
 | (id,o)::r=>bif yQ id base then iX o++js base r else js base r
def ef (i:Nat):List Nat->Nat->Option Nat
 | [],_=>none
 | j::r,k=>bif yv j i then some k else ef i r (k+1)
def kL (base:Nat) (seen:List Nat) (id:Nat):Option Nat:=bif yQ id base then some id else ef id seen base
def mq (base:Nat) (f:Nat->Option Nat):Hp->Hp
 | []=>[]
 | (id,o)::r=>bif yQ id base then (id,iH f o)::mq base f r else mq base f r
def gW (hp:Hp) (f:Nat->Option Nat):List Nat->Nat->Hp->Hp
 | [],_,acc=>acc
 | id::r,k,acc=>match au hp id with | some o=>gW hp f r (k+1) ((k,iH f o)::acc) | none=>gW hp f r (k+1) acc
def aI (live:List Nat) (s:St):St:=
 let tm:=cg s.tm live
 let seen:=reach s.hp s.base 100000 (fc tm++js s.base s.hp) []
 let f:=kL s.base seen
 {tm:=fC f tm,hp:=gW s.hp f seen s.base (mq s.base f s.hp),ct:=s.base+seen.length,base:=s.base}
def iE (hp:Hp) (sz:Nat):AV->Option (Nat×List AV)
 | .aa=>some (0,[])
 | .aw _ n cs=>bif yv cs.length (n*sz) then some (n,cs) else none
 | .ao id o n=>
  match au hp id with
  | some (.cells _ _ _ _ cs)=>bif yF (o+n*sz) cs.length then some (n,slice o (n*sz) cs) else none
  | _=>none
 | _=>none
def MM:List Nat->List AV
 | []=>[]
 | b::r=> .int .u8 b::MM r
def BN:List Nat->List Nat->Bool
 | _,[]=>false
 | [],_::_=>true
 | a::x,b::y=>yQ a b||(yv a b&&BN x y)
def cY:List Nat->List Nat->Bool
 | [],[]=>true
 | a::x,b::y=>yv a b&&cY x y
 | _,_=>false
def eA:List Nat->List AV->List AV->Option Bool
 | [],[],[]=>some true
 | 0::ks,.bool a::x,.bool b::y=>match eA ks x y with | some r=>some ((a==b)&&r) | none=>none
 | 1::ks,.int k a::x,.int k' b::y=>if k=k' then (match eA ks x y with | some r=>some ((a==b)&&r) | none=>none) else none
 | 2::ks,.str a::x,.str b::y=>match eA ks x y with | some r=>some (cY a b&&r) | none=>none
 | _,_,_=>none
def jM:PH->AV->AV->Option Bool
 | .b,.bool a,.bool b=>some (a==b)
 | .sl,.aa,.aa=>some true
 | .sl,.aa,.aw _ _ _=>some false
 | .sl,.aa,.ao _ _ _=>some false
 | .sl,.aw _ _ _,.aa=>some false
 | .sl,.ao _ _ _,.aa=>some false
 | .fn,.jb,.jb=>some true
 | .fn,.jb,.fn _ _ _=>some false
 | .fn,.fn _ _ _,.jb=>some false
 | .ag ks,.agg a,.agg b=>eA ks a b
 | _,_,_=>none
def intCmp (op:wZ) (x y:Int):Option Bool:=
 match op with
 | .eql=>some (x==y)
 | .neq=>some (x !=y)
 | .lss=>some (decide (x<y))
 | .leq=>some (decide (x<=y))
 | .gtr=>some (decide (x>y))
 | .geq=>some (decide (x>=y))
 | _=>none
def lF (op:wZ) (k:y7) (x y:Int):Option AV:=
 match op with
 | .add=>some (.int k (k.wrap (x+y)))
 | .sub=>some (.int k (k.wrap (x-y)))
 | .mul=>some (.int k (k.wrap (x*y)))
 | .quo=>if y=0 then none else some (.int k (k.wrap (x.tdiv y)))
 | .rem=>if y=0 then none else some (.int k (x.tmod y))
 | .and=>some (.int k (k.wrap (xQ k.bits x&&&xQ k.bits y).toNat))
 | .or=>some (.int k (k.wrap (xQ k.bits x|||xQ k.bits y).toNat))
 | .xor=>some (.int k (k.wrap (xQ k.bits x^^^xQ k.bits y).toNat))
 | .andNot=>some (.int k (k.wrap (xQ k.bits x&&&~~~(xQ k.bits y)).toNat))
 | .shl | .shr=>none
 | op=>match intCmp op x y with | some b=>some (.bool b) | none=>none
def CB (op:wZ) (k:y7) (x y:Int):Option AV:=
 if y<0 then none else
 match op with
 | .shl=>some (.int k (k.wrap (x*2^(min y.toNat k.bits))))
 | .shr=>some (.int k (x.fdiv (2^(min y.toNat k.bits))))
 | _=>none
def I7 (op:wZ) (x y:List Nat):Option AV:=
 match op with
 | .add=>bif yF (x.length+y.length) 9223372036854775807 then some (.str (x++y)) else none
 | .eql=>some (.bool (cY x y))
 | .neq=>some (.bool (!cY x y))
 | .lss=>some (.bool (BN x y))
 | .leq=>some (.bool (BN x y||cY x y))
 | .gtr=>some (.bool (!(BN x y||cY x y)))
 | .geq=>some (.bool (!BN x y))
 | _=>none
def Tm (op:wZ) (k:ub) (x y:Nat):Option AV:=
 let c:=k.format.order x y
 let ar (r:Option Nat):Option AV:=match r with | some b=>some (.bQ k b) | none=>none
 match op with
 | .add=>ar (k.format.add x y)
 | .sub=>ar (k.format.sub x y)
 | .mul=>ar (k.format.mul x y)
 | .quo=>ar (k.format.div x y)
 | .eql=>some (.bool (c==some .eq))
 | .neq=>some (.bool (c !=some .eq))
 | .lss=>some (.bool (c==some .lt))
 | .leq=>some (.bool (c==some .lt||c==some .eq))
 | .gtr=>some (.bool (c==some .gt))
 | .geq=>some (.bool (c==some .gt||c==some .eq))
 | _=>none
def binOp (op:wZ) (x y:AV):Option AV:=
 match x,y with
 | .int k a,.int k' b=>
  match op with
  | .shl | .shr=>CB op k a b
  | _=>if k=k' then lF op k a b else none
 | .bQ k a,.bQ k' b=>if k=k' then Tm op k a b else none
 | .str a,.str b=>I7 op a b
 | _,_=>none
def unOp (op:ybJ) (x:AV):Option AV:=
 match op,x with
 | .neg,.int k n=>some (.int k (k.wrap (0-n)))
 | .xor,.int k n=>lF .xor k (if k.signed then -1 else k.max) n
 | .not,.bool b=>some (.bool !b)
 | .neg,.bQ k b=>some (.bQ k (b^^^2^(k.format.exponentBits+k.format.fractionBits)))
 | _,_=>none
def pG (c:Conv) (x:AV):Option AV:=
 match c,x with
 | .toInt k,.int _ n=>some (.int k (k.wrap n))
 | .toFlt k,.int _ n=>some (.bQ k (k.nearest n))
 | .toInt k,.bQ s b=>
  match (s.decode b).toInt .zero with
  | some n=>if k.min<=n/\n<=k.max then some (.int k n) else none
  | none=>none
 | .toFlt k,.bQ s b=>
  if s=k then some (.bQ k b) else
  match s.decode b with
  | .number sg m e=>if (k.decode (k.encode (.number sg m e))).isInfinity then none else some (.bQ k (k.encode (.number sg m e)))
  | _=>none
 | .str,.str s=>some (.str s)
 | _,_=>none
def iy (sz:Nat) (ag:Bool) (cs:List AV):Option AV:=
 bif ag then (bif yF sz cs.length then some (.agg (cs.take sz)) else none)
 else match cs with | v::_=>some v | []=>none
def dE (x:AV):Option Nat:=
 match x with
 | .int _ n=>match n with | .ofNat k=>some k | .negSucc _=>none
 | _=>none
def dc (tm:Env) (d:Nat):Option X->Option Nat
 | none=>some d
 | some x=>dE (aA tm x)
def ff (hp:Hp) (k:Cut) (x:AV) (tm:Env) (lo hi:Option X):Option AV:=
 match k,x with
 | .str,.str s=>
  match dc tm 0 lo,dc tm s.length hi with
  | some l,some h=>bif yF l h&&yF h s.length then some (.str ((s.take h).drop l)) else none
  | _,_=>none
 | .sl _,.aa=>
  match dc tm 0 lo,dc tm 0 hi with
  | some 0,some 0=>some .aa
  | _,_=>none
 | .sl sz,.aw ex n cs=>
  match dc tm 0 lo,dc tm n hi with
  | some l,some h=>bif yF l h&&yF h n then some (.aw (ex&&yv h n) (h-l) (slice (l*sz) ((h-l)*sz) cs)) else none
  | _,_=>none
 | .sl sz,.ao id o n=>
  match au hp id with
  | some (.cells _ _ _ z _)=>
   match dc tm 0 lo,dc tm n hi with
   | some l,some h=>
    bif yF l h&&yF h n&&yv z sz then
     bif yv l h&& !yv l 0 then some (.aw false 0 []) else some (.ao id (o+l*sz) (h-l))
    else none
   | _,_=>none
  | _=>none
 | _,_=>none
def fill (tm:Env):List AV->List (Nat×Nat×X)->Option (List AV)
 | cs,[]=>some cs
 | cs,(o,sz,x)::r=>
  let new:=cellsOf (aA tm x)
  bif yv new.length sz&&yF (o+sz) cs.length&&cp new then fill tm (over o new cs) r else none
def E6:AV->AV->Option Bool
 | .int k a,.int k' b=>if k=k' then some (a==b) else none
 | .str a,.str b=>some (cY a b)
 | .bool a,.bool b=>some (a==b)
 | _,_=>none
def zk:Nat->AV->Bool
 | 0,.bool _=>true
 | 1,.int _ _=>true
 | 2,.str _=>true
 | _,_=>false
def C7 (k:AV):List AV->List AV->Option (Option AV)
 | [],_=>some none
 | k'::ks,v::vs=>match E6 k k' with | some true=>some (some v) | some false=>C7 k ks vs | none=>none
 | _::_,[]=>none
def Bn (k v:AV):List AV->List AV->Option (List AV×List AV)
 | [],[]=>some ([k],[v])
 | k'::ks,u::us=>
  match E6 k k' with
  | some true=>some (k'::ks,v::us)
  | some false=>match Bn k v ks us with | some (kw,Zi)=>some (k'::kw,u::Zi) | none=>none
  | none=>none
 | _,_=>none
def min2:AV->AV->Option AV
 | .int k x,.int _ y=>some (.int k (if y<x then y else x))
 | .bQ k x,.bQ _ y=>
  match k.format.order x y with
  | none=>none
  | some .lt=>some (.bQ k x)
  | some .gt=>some (.bQ k y)
  | some .eq=>some (.bQ k (if (k.decode x).neg then x else y))
 | _,_=>none
def max2:AV->AV->Option AV
 | .int k x,.int _ y=>some (.int k (if y>x then y else x))
 | .bQ k x,.bQ _ y=>
  match k.format.order x y with
  | none=>none
  | some .lt=>some (.bQ k y)
  | some .gt=>some (.bQ k x)
  | some .eq=>some (.bQ k (if (k.decode x).neg then y else x))
 | _,_=>none
def Bc (f:AV->AV->Option AV):AV->List AV->Option AV
 | a,[]=>some a
 | a,b::r=>match f a b with | some c=>Bc f c r | none=>none
def room:Nat:=1099511627776
abbrev fY:=Option (AV×Hp×Nat)
def jc (hp:Hp) (sz:Nat) (ag:Bool):AV->Option AV
 | .ptr id o=>match au hp id with | some (.cells _ _ _ _ cs)=>iy sz ag (cs.drop o) | _=>none
 | .b6 cs=>iy sz ag cs
 | _=>none
def I8 (k:Nat):AV->Option AV
 | .ptr id o=>some (.ptr id (o+k))
 | .b6 cs=>bif yF k cs.length then some (.b6 (cs.drop k)) else none
 | _=>none
def Nx (o sz:Nat) (ag:Bool):AV->Option AV
 | .agg cs=>iy sz ag (cs.drop o)
 | _=>none
def jG (sz i:Nat):AV->Option AV
 | .ao id o n=>bif yQ i n then some (.ptr id (o+i*sz)) else none
 | .aw _ n cs=>bif yQ i n then some (.b6 (cs.drop (i*sz))) else none
 | _=>none
def Ny (len sz i:Nat):AV->Option AV
 | .ptr id o=>bif yQ i len then some (.ptr id (o+i*sz)) else none
 | .b6 cs=>bif yQ i len then some (.b6 (cs.drop (i*sz))) else none
 | _=>none
def mT (i:Nat):AV->Option AV
 | .str s=>match s[i]? with | some b=>some (.int .u8 b) | none=>none
 | _=>none
def Nz (len sz:Nat) (ag:Bool) (i:Nat):AV->Option AV
 | .agg cs=>bif yQ i len then iy sz ag (cs.drop (i*sz)) else none
 | _=>none
def Be (hp:Hp) (k:AV):AV->Option (Option AV)
 | .km=>some none
 | .map id=>match au hp id with | some (.mp _ ks vs)=>C7 k ks vs | _=>none
 | .jy ks vs=>C7 k ks vs
 | _=>none
def gI (hp:Hp):Nat->AV->Option AV
 | 0,.str s=>some (.int .i64 s.length)
 | 1,.aa=>some (.int .i64 0)
 | 1,.aw _ n _=>some (.int .i64 n)
 | 1,.ao _ _ n=>some (.int .i64 n)
 | 2,.km=>some (.int .i64 0)
 | 2,.jy ks _=>some (.int .i64 ks.length)
 | 2,.map id=>match au hp id with | some (.mp _ ks _)=>some (.int .i64 ks.length) | _=>none
 | _,_=>none
def bA (tm:Env) (hp:Hp):Op->Option AV
 | .cz x=>some (aA tm x)
 | .pick c a b=>match aA tm c with | .bool t=>some (bif t then aA tm a else aA tm b) | _=>none
 | .gk zero parts=>match fill tm zero parts with | some cs=>some (.agg cs) | none=>none
 | .ld sz ag x=>jc hp sz ag (aA tm x)
 | .Jw x=>
  match aA tm x with
  | .ptr id o=>some (.ptr id o)
  | .b6 cs=>some (.b6 cs)
  | .fn f a b=>some (.fn f a b)
  | _=>none
 | .bin op x y=>binOp op (aA tm x) (aA tm y)
 | .eq ne k x y=>match jM k (aA tm x) (aA tm y) with | some r=>some (.bool (ne !=r)) | none=>none
 | .un op x=>unOp op (aA tm x)
 | .cv k x=>pG k (aA tm x)
 | .DF f first cap=>some (.fn f (dD tm first) (dD tm cap))
 | .dO k x lo hi=>ff hp k (aA tm x) tm lo hi
 | .off k x=>I8 k (aA tm x)
 | .KC o sz ag x=>Nx o sz ag (aA tm x)
 | .aY sz x i=>match dE (aA tm i) with | some j=>jG sz j (aA tm x) | none=>none
 | .Gc len sz x i=>match dE (aA tm i) with | some j=>Ny len sz j (aA tm x) | none=>none
 | .kU x i=>match dE (aA tm i) with | some j=>mT j (aA tm x) | none=>none
 | .Gd len sz ag x i=>match dE (aA tm i) with | some j=>Nz len sz ag j (aA tm x) | none=>none
 | .PI kk zero ok m k=>
  bif zk kk (aA tm k) then
   match Be hp (aA tm k) (aA tm m) with
   | some (some v)=>some (bif ok then .ae [v,.bool true] else v)
   | some none=>some (bif ok then .ae [zero,.bool false] else zero)
   | none=>none
  else none
 | .ext i x=>match aA tm x with | .ae vs=>vs[i]? | _=>none
 | .len k x=>gI hp k (aA tm x)
 | .mn xs=>match dD tm xs with | a::r=>Bc min2 a r | []=>none
 | .mx xs=>match dD tm xs with | a::r=>Bc max2 a r | []=>none
 | _=>none
def cR (tm:Env) (hp:Hp) (ct:Nat):Op->Option (AV×Obj)
 | .box sz x=>
  let cs:=cellsOf (aA tm x)
  bif yv cs.length sz&&cp cs then some (.ptr ct 0,.cells true (aG cs) true sz cs) else none
 | .cW n sz zero parts=>
  match fill tm zero parts with
  | some cs=>bif yv cs.length (n*sz) then some (.ao ct 0 n,.cells true (aG cs) true sz cs) else none
  | none=>none
 | .gO sz bytes zero len cap=>
  match dE (aA tm len),dE (aA tm cap) with
  | some l,some c=>
   bif yF l c&&(yF c room&&(yF (c*bytes) room&&(yv zero.length sz&&cp zero))) then
    some (.ao ct 0 l,.cells true (aG zero) (yv l c) sz (yj l zero).flatten)
   else none
  | _,_=>none
 | .Ah=>some (.map ct,.mp true [] [])
 | .pT x=>match aA tm x with | .str s=>some (.it ct,.si s 0) | _=>none
 | _=>none
def decodeL (s:List Nat) (i:Nat):Nat×Nat:=
 let at' (k:Nat):Nat:=s.getD (i+k) 0
 let cont (k:Nat):Bool:=decide (i+k<s.length)&&at' k/64==2
 let b0:=at' 0
 if b0<0x80 then (b0,1)
 else if b0/32==6&&cont 1 then
  let c:=(b0%32)*64+at' 1%64
  if c>=0x80 then (c,2) else (uh,1)
 else if b0/16==14&&cont 1&&cont 2 then
  let c:=(b0%16)*4096+(at' 1%64)*64+at' 2%64
  if c>=0x800&&yaL c then (c,3) else (uh,1)
 else if b0/8==30&&cont 1&&cont 2&&cont 3 then
  let c:=(b0%8)*262144+(at' 1%64)*4096+(at' 2%64)*64+at' 3%64
  if c>=0x10000&&yaL c then (c,4) else (uh,1)
 else (uh,1)
def ik (hp:Hp) (sz:Nat):AV->Option (Nat×List AV)
 | .str b=>bif yv sz 1 then some (b.length,MM b) else none
 | v=>iE hp sz v
def mU (hp:Hp) (ct sz bytes:Nat) (s:AV) (src:Option (Nat×List AV)):Option (AV×Obj):=
 match src with
 | none=>none
 | some (m,new)=>
  match s with
  | .ao id o n=>
   match au hp id with
   | some (.cells _ pu true z cs)=>
    bif yv z sz&&(yQ 0 m&&(yF (n+m) room&&(yF ((n+m)*bytes) room&&(yv (o+n*sz) cs.length&&yQ 0 sz)))) then
     some (.ao ct 0 (n+m),.cells true (pu&&aG new) false sz (slice o (n*sz) cs++new))
    else none
   | _=>none
  | _=>none
def cI (tm:Env) (hp:Hp) (ct:Nat):Op->fY
 | .st sz x v=>
  let new:=cellsOf (aA tm v)
  match aA tm x with
  | .ptr id o=>
   match au hp id with
   | some (.cells true pu ex z cs)=>
    bif yv new.length sz&&yF (o+sz) cs.length&&cp new then
     some (.ae [],a7 hp id (.cells true (pu&&aG new) ex z (over o new cs)),ct)
    else none
   | _=>none
  | _=>none
 | .pR kk m k v=>
  match aA tm m with
  | .map id=>
   match au hp id with
   | some (.mp true ks vs)=>bif !zk kk (aA tm k) then none else match Bn (aA tm k) (aA tm v) ks vs with | some (kw,ej)=>some (.ae [],a7 hp id (.mp true kw ej),ct) | none=>none
   | _=>none
  | _=>none
 | .pU x=>
  match aA tm x with
  | .it id=>
   match au hp id with
   | some (.si s pos)=>
    bif yQ pos s.length then
     match decodeL s pos with
     | (c,wd)=>some (.ae [.bool true,.int .i64 pos,.int .i32 c],a7 hp id (.si s (pos+wd)),ct)
    else some (.ae [.bool false],hp,ct)
   | _=>none
  | _=>none
 | .aR sz bytes s x=>
  match ik hp sz (aA tm x) with
  | none=>none
  | some (m,new)=>
   match aA tm s with
   | .aa=>
    bif yv m 0 then some (.aa,hp,ct)
    else bif yF m room&&(yF (m*bytes) room&&yQ 0 sz) then some (.ao ct 0 m,(ct,.cells true (aG new) false sz new)::hp,ct+1) else none
   | .aw true n cs=>
    bif yv m 0 then some (.aw true n cs,hp,ct)
    else bif yF (n+m) room&&(yF ((n+m)*bytes) room&&(yv cs.length (n*sz)&&yQ 0 sz)) then some (.ao ct 0 (n+m),(ct,.cells true (aG cs&&aG new) false sz (cs++new))::hp,ct+1) else none
   | .ao id o n=>
    match au hp id with
    | some (.cells true pu _ z cs)=>
     bif yv z sz&&(yF (n+m) room&&(yF ((n+m)*bytes) room&&(yF (o+n*sz) cs.length&&(yQ 0 sz&&cp new)))) then
      some (.ao ct 0 (n+m),(ct,.cells true (pu&&aG new) false sz (slice o (n*sz) cs++new))::dJ hp id,ct+1)
     else none
    | _=>none
   | _=>none
 | .mD sz d s=>
  match iE hp sz (aA tm s),aA tm d with
  | some (m,new),.ao id o n=>
   match au hp id with
   | some (.cells true pu ex z cs)=>
    bif yv z sz&&(yF (o+n*sz) cs.length&&cp new) then
     some (.int .i64 (min m n:Nat),a7 hp id (.cells true (pu&&aG new) ex z (over o (new.take (min m n*sz)) cs)),ct)
    else none
   | _=>none
  | _,_=>none
 | _=>none
def iY:X->List Nat | .t i=>[i] | .c _=>[]
def zu:List X->List Nat
 | []=>[]
 | x::r=>iY x++zu r
def I9:Option X->List Nat | some x=>iY x | none=>[]
def Ja:List (Nat×Nat×X)->List Nat
 | []=>[]
 | (_,_,x)::r=>iY x++Ja r
def j8:Op->List Nat
 | .cz x | .box _ x | .ld _ _ x | .Jw x | .un _ x | .cv _ x | .off _ x | .KC _ _ _ x | .pT x | .pU x | .ext _ x | .len _ x=>iY x
 | .pick a b c | .pR _ a b c=>iY a++(iY b++iY c)
 | .gk _ ps | .cW _ _ _ ps=>Ja ps
 | .st _ a b | .bin _ a b | .eq _ _ a b | .aY _ a b | .Gc _ _ a b | .kU a b | .Gd _ _ _ a b | .PI _ _ _ a b | .aR _ _ a b | .nn _ _ a b | .mD _ a b=>iY a++iY b
 | .DF _ a b=>zu a++zu b
 | .Ah=>[]
 | .gO _ _ _ a b=>iY a++iY b
 | .dO _ x a b=>iY x++(I9 a++I9 b)
 | .call _ f xs=>iY f++zu xs
 | .iW _ f xs=>iY f++zu xs
 | .jC _ _ a b=>iY a++iY b
 | .kV _ _ _ a b=>iY a++iY b
 | .mn xs | .mx xs=>zu xs
def bB:Op->Nat
 | .cz _ | .pick _ _ _ | .gk _ _ | .Jw _ | .bin _ _ _ | .eq _ _ _ _ | .un _ _ | .cv _ _ | .DF _ _ _ | .off _ _ | .KC _ _ _ _ | .aY _ _ _ | .Gc _ _ _ _ | .kU _ _ | .Gd _ _ _ _ _ | .ext _ _ | .mn _ | .mx _=>0
 | .dO .str _ _ _ | .len 0 _ | .len 1 _=>0
 | .st _ _ _ | .pR _ _ _ _ | .pU _ | .aR _ _ _ _ | .mD _ _ _ | .iW _ _ _ | .jC _ _ _ _ | .kV _ _ _ _ _ | .call .heap _ _ | .call .dyn _ _=>2
 | _=>1
def Tn:Option (Nat×Bool)->List Nat | some (t,_)=>[t] | none=>[]
def CI (o:a8):List Nat:=Tn o.guard++j8 o.op
def Fi (d:Option Nat) (l:List Nat):Bool:=match d with | some i=>jz i l | none=>false
def aiX (d e:Option Nat):Bool:=match d,e with | some i,some j=>yv i j | _,_=>false
def Mn (a b:a8):Bool:=Fi a.dst (CI b)||Fi b.dst (CI a)||aiX a.dst b.dst
def Dg (sz:Nat) (ag:Bool) (t:Nat):List (Nat×Bool×Nat)->Bool
 | []=>false
 | (s,g,u)::r=>(yv s sz&&(g==ag&&yv u t))||Dg sz ag t r
def C8 (t:Nat):List a8->Bool
 | []=>true
 | o::r=> !Fi o.dst [t]&&C8 t r
def Im (a b:a8) (r:List a8):Bool:=
 match a.guard,a.op,b.op with
 | none,.ld sz ag (.t t),.iW rs _ _=>Dg sz ag t rs&&C8 t (a::r)
 | none,.ld sz ag (.t t),.jC rs _ _ _=>Dg sz ag t rs&&C8 t (a::r)
 | none,.ld sz ag (.t t),.kV rs _ _ _ _=>Dg sz ag t rs&&C8 t (a::r)
 | _,_,_=>false
def HY (a b:a8):Bool:=
 match bB a.op,bB b.op with
 | 1,2 | 2,1 | 2,2=>true
 | _,_=>false
def Mo (m:Nat) (b:a8):List a8->Nat->Bool
 | [],_=>true
 | a::r,i=>(uJ m i|| !(Mn a b||(HY a b&& !Im a b r)))&&Mo m b r (i+1)
def zm (done:List a8):List a8->List Nat->Bool
 | [],_=>true
 | b::r,m::ms=>Mo m b done 0&&zm (done++[b]) r ms
 | _::_,[]=>false
def Io (m:Nat):List a8->Nat->List (Nat×Bool×Nat)
 | [],_=>[]
 | a::r,i=>
  match uJ m i,a with
  | false,⟨_,none,.ld sz ag (.t t)⟩=>(sz,ag,t)::Io m r (i+1)
  | _,_=>Io m r (i+1)
def stOp (rs:List (Nat×Bool×Nat)) (sz:Nat) (x v:X):Op:=match rs with | []=> .st sz x v | rs=> .jC rs sz x v
def ajO (rs:List (Nat×Bool×Nat)) (sz b:Nat) (x v:X):Op:=match rs with | []=> .aR sz b x v | rs=> .kV rs sz b x v
def mV (done:List a8):List a8->List Nat->List a8
 | ⟨d,g,.iW _ f xs⟩::r,m::ms=>let o:a8:=⟨d,g,.iW (Io m done 0) f xs⟩;o::mV (done++[o]) r ms
 | ⟨d,g,.st sz x v⟩::r,m::ms=>let o:a8:=⟨d,g,stOp (Io m done 0) sz x v⟩;o::mV (done++[o]) r ms
 | ⟨d,g,.aR sz b x v⟩::r,m::ms=>let o:a8:=⟨d,g,ajO (Io m done 0) sz b x v⟩;o::mV (done++[o]) r ms
 | o::r,_::ms=>o::mV (done++[o]) r ms
 | l,_=>l
def ahM (done:List a8):X->Bool
 | .t i=>done.any fun o=>match o.dst,o.op with | some j,.cW _ _ _ _=>yv i j | _,_=>false
 | _=>false
def E7 (done:List a8):List a8->List a8
 | []=>[]
 | o::r=>(match o.op with | .aR sz b x v=>bif ahM done x then ⟨o.dst,o.guard,.nn sz b x v⟩ else o | _=>o)::E7 (done++[o]) r
abbrev aK:=Nat->Option aV
structure Lib where
 pure:Nat->Option (List AV->Option AV)
 heap:Nat->Option (Hp->Nat->List AV->fY)
abbrev cA:=VC->St->Option (Ex×St)
def dX:Nat->List AV->Env
 | _,[]=>[]
 | i,v::r=>(i,v)::dX (i+1) r
def results1 (s:St):RV->Option AV
 | .t i=>some (ai s.tm i)
 | .cell i sz ag=>
  match ai s.tm i with
  | .ptr id o=>match au s.hp id with | some (.cells _ _ _ _ cs)=>iy sz ag (cs.drop o) | _=>none
  | .b6 cs=>iy sz ag cs
  | _=>none
def lk (s:St):List RV->Option (List AV)
 | []=>some []
 | r::rest=>match results1 s r,lk s rest with | some v,some vs=>some (v::vs) | _,_=>none
def iU (s:St) (rs:List RV):Option AV:=
 match lk s rs with
 | some [v]=>some v
 | some vs=>some (.ae vs)
 | none=>none
def bL (P:aK) (L:Lib) (self:cA) (n:Nat) (av:List AV):Option AV:=
 match L.pure n with
 | some sp=>sp av
 | none=>
  match P n with
  | none=>none
  | some F=>
   match self F.body ⟨dX 0 av,[],0,0⟩ with
   | some (.normal,s) | some (.ret,s)=>match iU s F.fO with | some v=>result s.hp v | none=>none
   | _=>none
def SJ:Ex->zQ
 | .normal=> .none
 | .ret=> .ret
 | .exit id=> .exit id
def rS:Env->List Nat->List AV->Option Env
 | tm,[],[]=>some tm
 | tm,p::ps,v::vs=>rS ((p,v)::tm) ps vs
 | _,_,_=>none
def il (P:aK) (L:Lib) (self:cA) (hp:Hp) (ct:Nat) (n:Nat) (av:List AV):fY:=
 match L.heap n with
 | some sp=>sp hp ct av
 | none=>
  match P n with
  | none=>none
  | some F=>
   match self F.body ⟨dX 0 av,hp,ct,ct⟩ with
   | some (.normal,s) | some (.ret,s)=>match iU s F.fO with | some v=>some (v,s.hp,s.ct) | none=>none
   | _=>none
def nQ (self:cA) (hp:Hp) (ct:Nat) (l:Nat) (xs:List AV):fY:=
 match au hp l with
 | some (.lp tm ps cM body 0 _)=>
  match rS tm ps xs with
  | none=>none
  | some tm'=>
   match self cM ⟨tm',hp,ct,ct⟩ with
   | some (.normal,s1)=>
    match au s1.hp l with
    | some (.lp jP DG BO C9 0 Ai)=>
     match self body ⟨s1.tm,a7 s1.hp l (.lp jP DG BO C9 1 Ai),s1.ct,s1.ct⟩ with
     | some (ex,s2)=>
      match au s2.hp l with
      | some (.lp sE KD KE Jb 1 _)=>
       match ex with
       | .normal=>some (.bool true,a7 s2.hp l (.lp sE KD KE Jb 0 .none),s2.ct)
       | ex=>some (.bool false,a7 s2.hp l (.lp sE KD KE Jb 2 (SJ ex)),s2.ct)
      | _=>none
     | none=>none
    | _=>none
   | _=>none
 | _=>none
def eB (P:aK) (L:Lib) (self:cA) (hp:Hp) (ct:Nat) (m:Md) (fv:AV) (xs:List AV):fY:=
 match fv with
 | .fn (.f n) first cap=>
  match m with
  | .pure=>
   match cB deep hp (first++(xs++cap)) with
   | some (av,bc)=>match bL P L self n av with | some r=>some (shut r,bc,ct) | none=>none
   | none=>none
  | .own=>
   match cB deep hp (first++(xs++cap)) with
   | some (av,bc)=>match bL P L self n av with | some r=>some (own bc ct r) | none=>none
   | none=>none
  | .heap=>il P L self hp ct n (first++(xs++cap))
  | .dyn=>
   bif aG (first++(xs++cap)) then
    match bL P L self n (first++(xs++cap)) with | some r=>some (shut r,hp,ct) | none=>none
   else il P L self hp ct n (first++(xs++cap))
 | .fn (.y l) _ _=>
  match m with
  | .heap | .dyn=>nQ self hp ct l xs
  | _=>none
 | _=>none
def TM:AV->AV->Bool
 | .int k a,.int k' b=>decide (k=k')&&a==b
 | .bool a,.bool b=>a==b
 | .str a,.str b=>cY a b
 | .aa,.aa=>true
 | .kQ,.kQ=>true
 | .ptr i o,.ptr j p=>yv i j&&yv o p
 | .ao i o n,.ao j p m=>yv i j&&(yv o p&&yv n m)
 | .map i,.map j=>yv i j
 | _,_=>false
def pc (tm:Env) (hp aj:Hp):List (Nat×Bool×Nat)->Bool
 | []=>true
 | (sz,ag,x)::r=>
  match jc hp sz ag (ai tm x),jc aj sz ag (ai tm x) with
  | some a,some b=>TM a b&&pc tm hp aj r
  | _,_=>false
def nS (tm:Env) (id:Nat):List (Nat×Bool×Nat)->Bool
 | []=>true
 | (_,_,x)::r=>(match ai tm x with | .ptr j _=> !yv j id | .b6 _=>true | _=>false)&&nS tm id r
def bf (P:aK) (L:Lib) (self:cA) (tm:Env) (hp:Hp) (ct:Nat) (o:Op):fY:=
 match o with
 | .call m f xs=>eB P L self hp ct m (aA tm f) (dD tm xs)
 | .iW rs f xs=>
  match eB P L self hp ct .dyn (aA tm f) (dD tm xs) with
  | some (v,aj,aM)=>bif pc tm hp aj rs then some (v,aj,aM) else none
  | none=>none
 | .jC rs sz x v=>
  match aA tm x with
  | .ptr id _=>bif nS tm id rs then cI tm hp ct (.st sz x v) else none
  | _=>none
 | .nn sz b x v=>
  match mU hp ct sz b (aA tm x) (ik hp sz (aA tm v)) with
  | some (v,b)=>some (v,(ct,b)::hp,ct+1)
  | none=>none
 | .kV rs sz b x v=>
  match cI tm hp ct (.aR sz b x v) with
  | some (v,aj,aM)=>bif pc tm hp aj rs then some (v,aj,aM) else none
  | none=>none
 | .st .. | .pR .. | .pU .. | .aR .. | .mD .. =>cI tm hp ct o
 | .box .. | .cW .. | .gO .. | .Ah | .pT .. =>match cR tm hp ct o with | some (v,b)=>some (v,(ct,b)::hp,ct+1) | none=>none
 | o=>match bA tm hp o with | some v=>some (v,hp,ct) | none=>none
def put (d:Option Nat) (v:AV) (tm:Env):Env:=
 match d with
 | some i=>(i,v)::tm
 | none=>tm
def dI (P:aK) (L:Lib) (self:cA):List a8->St->Option St
 | [],s=>some s
 | ⟨d,g,o⟩::r,s=>
  let want:=match g with | none=>some true | some (t,b)=>match ai s.tm t with | .bool c=>some (c==b) | .ae []=>some false | _=>none
  match want with
  | some true=>
   match bf P L self s.tm s.hp s.ct o with
   | some (v,hp,ct)=>dI P L self r {s with tm:=put d v s.tm,hp:=hp,ct:=ct}
   | none=>none
  | some false=>dI P L self r {s with tm:=put d (.ae []) s.tm}
  | none=>none
def py:List Nat->St->Option St
 | [],s=>some s
 | t::r,s=>
  match freeze deep s.hp (ai s.tm t) with
  | some (v,hp)=>py r {s with tm:=(t,v)::s.tm,hp:=hp}
  | none=>none
def bH (P:aK) (L:Lib) (self:cA):VC->St->Option (Ex×St)
 | .skip,s=>some (.normal,s)
 | .aJ ops,s=>match dI P L self ops s with | some s'=>some (.normal,s') | none=>none
 | .seq a b,s=>
  match bH P L self a s with
  | some (.normal,s1)=>bH P L self b s1
  | r=>r
 | .cond x a b,s=>
  match aA s.tm x with
  | .bool t=>bif t then bH P L self a s else bH P L self b s
  | _=>none
 | .aF id a,s=>
  match bH P L self a s with
  | some (.exit j,s1)=>bif yv j id then some (.normal,s1) else some (.exit j,s1)
  | r=>r
 | .kp live,s=>some (.normal,aI live s)
 | .fz ts,s=>match py ts s with | some s'=>some (.normal,s') | none=>none
 | .loop live a,s=>
  match bH P L self a (aI live s) with
  | some (.normal,s1)=>self (.loop live a) s1
  | r=>r
 | .rf f ps cM body,s=>
  match aA s.tm f with
  | .fn (.f n) first cap=>
   match L.heap n with
   | some _=>none
   | none=>
    match il P L self ((s.ct,.lp s.tm ps cM body 0 .none)::s.hp) (s.ct+1) n (first++(.fn (.y s.ct) [] []::cap)) with
    | some (_,hp,ct)=>
     match au hp s.ct with
     | some (.lp _ _ _ _ st pe)=>
      bif yv st 1 then none else
      match pe with
      | .none=>some (.normal,{s with hp:=dJ hp s.ct,ct:=ct})
      | .ret=>some (.ret,{s with hp:=dJ hp s.ct,ct:=ct})
      | .exit id=>some (.exit id,{s with hp:=dJ hp s.ct,ct:=ct})
     | _=>none
    | none=>none
  | _=>none
 | .exit id,s=>some (.exit id,s)
 | .ret,s=>some (.ret,s)
def ev (P:aK) (L:Lib) (n:Nat):cA:=Nat.rec (fun _ _=>none) (fun _ ih=>bH P L ih) n
def Zj (P:aK) (L:Lib) (n:Nat) (f:Nat) (av:List AV):Option AV:=bL P L (ev P L n) f av
end
section
open Go
structure Pl where
 b:Nat
 o:Nat
 e:Nat
 z:Nat
abbrev Mp:=Nat->Option Pl
section
variable (af:Nat->Nat) (m:Mp) (S:Nat->Prop) (w:yi)
mutual
def ah:AV->yh->Prop
 | .int k n,v=>v= .int k n
 | .bool b,v=>v= .bool b
 | .bQ k b,v=>v= .float k b
 | .str s,v=>∃t:ByteArray,v= .string t/\t.data.toList.map xc=s
 | .kQ,v=>v= .pointer none
 | .ptr id o,v=>∃p,m id=some p/\v= .pointer (some ⟨p.b,p.o+o,none⟩)
 | .b6 cs,v=>∃b o,v= .pointer (some ⟨b,o,none⟩)/\(cs=[]\/S b)/\aG cs=true/\bU cs b o
 | .aa,v=>v= .slice none 0 0
 | .aw ex n cs,v=>(∃b o c,v= .slice (some ⟨b,o,none⟩) n c/\n<=c/\(ex=true->c=n)/\(cs=[]\/S b)/\aG cs=true/\bU cs b o)\/(∃a,v= .slice (some a) 0 0/\n=0/\cs=[])
 | .bn _ _ _ _,_=>False
 | .ao id o n,v=>∃p c,m id=some p/\v= .slice (some ⟨p.b,p.o+o,none⟩) n c/\n<=c/\o+c*p.z=p.e
 | .fn (.f g) first cap,v=>∃fi ca:Array yh,v= .func (.func (af g)) fi ca/\ay first fi.toList/\ay cap ca.toList
 | .fn (.y l) _ _,v=>∃p,m l=some p/\v= .func (.yield p.b) #[] #[]
 | .jb,v=>v= .nilFunc
 | .km,v=>v= .map none
 | .map id,v=>∃p,m id=some p/\v= .map (some p.b)
 | .jy ks vs,v=>∃b es clock,v= .map (some b)/\S b/\aG ks=true/\aG vs=true/\w.heap[b]? =some (.map es clock)/\
   ay ks (es.toList.map (·.key))/\ay vs (es.toList.map (·.val))
 | .it id,v=>∃p,m id=some p/\v= .pointer (some ⟨p.b,0,none⟩)
 | .agg cs,v=>∃xs:Array yh,v= .agg xs/\ay cs xs.toList
 | .ae cs,v=>∃xs:Array yh,v= .tuple xs/\ay cs xs.toList
 | .undef,_=>True
def ay:List AV->List yh->Prop
 | [],us=>us=[]
 | c::cs,us=>∃u r,us=u::r/\ah c u/\ay cs r
def bU:List AV->Nat->Nat->Prop
 | [],_,_=>True
 | c::cs,b,o=>(∃u,w.cell? ⟨b,o,none⟩=some u/\ah c u)/\bU cs b (o+1)
end
end
def fK (S:Nat->Prop) (w w':yi):Prop:=∀b,S b->w'.heap[b]? =w.heap[b]?
def LJ {w w':yi} {b o:Nat} (h:w'.heap[b]? =w.heap[b]?):w'.cell? ⟨b,o,none⟩=w.cell? ⟨b,o,none⟩:=by
 simp only [World.cell?,h]
section
variable {af:Nat->Nat} {m m':Mp} {S S':Nat->Prop} {w w':yi}
mutual
def lz (hm:∀id p,m id=some p->m' id=some p) (hS:∀b,S b->S' b) (hw:fK S w w'):
  ∀(v:AV) (u:yh),ah af m S w v u->ah af m' S' w' v u
 | .int _ _,_,h | .bool _,_,h | .bQ _ _,_,h | .str _,_,h | .kQ,_,h | .aa,_,h | .jb,_,h | .km,_,h | .undef,_,h=>by
  simpa only [ah] using h
 | .ptr id o,u,h=>by
  simp only [ah] at h ⊢;obtain ⟨p,h1,h2⟩:=h;exact ⟨p,hm _ _ h1,h2⟩
 | .b6 cs,u,h=>by
  simp only [ah] at h ⊢;obtain ⟨b,o,h1,h2,h3,h4⟩:=h;refine ⟨b,o,h1,h2.imp id (hS b),h3,?_⟩;rcases h2 with rfl | h2
  ·simp only [bU]
  ·exact QV hm hS hw cs b o h2 h4
 | .aw ex n cs,u,h=>by
  simp only [ah] at h ⊢;rcases h with ⟨b,o,c,h1,h2,h3,h4,h5,h6⟩ | h
  ·refine .inl ⟨b,o,c,h1,h2,h3,h4.imp id (hS b),h5,?_⟩;rcases h4 with rfl | h4
   ·simp only [bU]
   ·exact QV hm hS hw cs b o h4 h6
  ·exact .inr h
 | .bn _ _ _ _,u,h=>by simp only [ah] at h
 | .ao id o n,u,h=>by
  simp only [ah] at h ⊢;obtain ⟨p,c,h1,h2⟩:=h;exact ⟨p,c,hm _ _ h1,h2⟩
 | .fn (.f g) first cap,u,h=>by
  simp only [ah] at h ⊢;obtain ⟨fi,ca,h1,h2,h3⟩:=h;exact ⟨fi,ca,h1,gS hm hS hw first _ h2,gS hm hS hw cap _ h3⟩
 | .fn (.y l) _ _,u,h=>by
  simp only [ah] at h ⊢;obtain ⟨p,h1,h2⟩:=h;exact ⟨p,hm _ _ h1,h2⟩
 | .map id,u,h=>by
  simp only [ah] at h ⊢;obtain ⟨p,h1,h2⟩:=h;exact ⟨p,hm _ _ h1,h2⟩
 | .jy ks vs,u,h=>by
  simp only [ah] at h ⊢;obtain ⟨b,es,clock,h1,h2,h3,h4,h5,h6,h7⟩:=h;exact ⟨b,es,clock,h1,hS b h2,h3,h4,(hw b h2).trans h5,gS hm hS hw ks _ h6,gS hm hS hw vs _ h7⟩
 | .it id,u,h=>by
  simp only [ah] at h ⊢;obtain ⟨p,h1,h2⟩:=h;exact ⟨p,hm _ _ h1,h2⟩
 | .agg cs,u,h=>by
  simp only [ah] at h ⊢;obtain ⟨xs,h1,h2⟩:=h;exact ⟨xs,h1,gS hm hS hw cs _ h2⟩
 | .ae cs,u,h=>by
  simp only [ah] at h ⊢;obtain ⟨xs,h1,h2⟩:=h;exact ⟨xs,h1,gS hm hS hw cs _ h2⟩
def gS (hm:∀id p,m id=some p->m' id=some p) (hS:∀b,S b->S' b) (hw:fK S w w'):
  ∀(vs:List AV) (us:List yh),ay af m S w vs us->ay af m' S' w' vs us
 | [],us,h=>by simpa only [ay] using h
 | v::r,us,h=>by
  simp only [ay] at h ⊢;obtain ⟨u,t,h1,h2,h3⟩:=h;exact ⟨u,t,h1,lz hm hS hw v u h2,gS hm hS hw r t h3⟩
def QV (hm:∀id p,m id=some p->m' id=some p) (hS:∀b,S b->S' b) (hw:fK S w w'):
  ∀(cs:List AV) (b o:Nat),S b->bU af m S w cs b o->bU af m' S' w' cs b o
 | [],_,_,_,_=>by simp only [bU]
 | c::cs,b,o,hb,h=>by
  simp only [bU] at h ⊢;obtain ⟨⟨u,h1,h2⟩,h3⟩:=h;exact ⟨⟨u,(LJ (hw b hb)).trans h1,lz hm hS hw c u h2⟩,QV hm hS hw cs b (o+1) hb h3⟩
end
end
end
section
open Go
structure Hint where
 n:Nat
 b7:FuncId->Option Nat
 live:Nat->List Nat
 out:Nat->Option (List Nat)
 mode:Nat->Md
 fz:Nat->List Nat
section
variable (P:y5) (H:Hint)
mutual
def eK:yh->AV
 | .int k n=> .int k n
 | .bool b=> .bool b
 | .float k b=> .bQ k b
 | .string s=> .str (s.data.toList.map xc)
 | .pointer none=> .kQ
 | .slice none 0 0=> .aa
 | .map none=> .km
 | .nilFunc=> .jb
 | .agg ⟨cs⟩=> .agg (EH cs)
 | .tuple ⟨cs⟩=> .ae (EH cs)
 | _=> .undef
def EH:List yh->List AV
 | []=>[]
 | v::r=>eK v::EH r
end
def aQ:xu->X
 | .tmp t=> .t t
 | .const v=> .c (eK v)
 | .global _=> .c .undef
 | .func f=>match H.b7 f with | some g=> .c (.fn (.f g) [] []) | none=> .c .undef
def gY:List xu->List X
 | []=>[]
 | x::r=>aQ H x::gY r
def cF (t:yC):Option Nat:=match P.info? t with | some i=>some i.size | none=>none
def sF (t:yC):Option Nat:=match P.info? t with | some i=>some i.bytes | none=>none
def lG (t:yC):Option AV:=match P.info? t with | some i=>(match i.zero with | some v=>some (eK v) | none=>none) | none=>none
def dT (t:yC):Option Bool:=match P.underlying t with | some (.struct _) | some (.array _ _)=>some true | some _=>some false | none=>none
def bad:Op:= .call .pure (.c .undef) []
def partsOf (place:Nat->Option (Nat×Nat)):List (Nat×xu)->Option (List (Nat×Nat×X))
 | []=>some []
 | (i,x)::r=>
  match place i,partsOf place r with
  | some (o,s),some l=>some ((o,s,aQ H x)::l)
  | _,_=>none
def Ej (self:yC->Option (List Nat)):List uM->Nat->Option (List Nat)
 | [],_=>some []
 | f::r,o=>
  match self f.type,cF P f.type with
  | some ks,some s=>
   bif f.name != "_"&&yv f.offset o&&yv ks.length s&& !P.stoodInHeld f.type then
    (match Ej self r (o+s) with | some l=>some (ks++l) | none=>none)
   else none
  | _,_=>none
def kinds:Nat->yC->Option (List Nat)
 | 0,_=>none
 | n+1,t=>
  match P.underlying t with
  | some .bool=>some [0]
  | some (.int _)=>some [1]
  | some .string=>some [2]
  | some (.struct fs)=>Ej P (fun u=>kinds n u) fs.toList 0
  | some (.array k e)=>
   match kinds n e,cF P e with
   | some ks,some s=>bif yv ks.length s&& !P.stoodInHeld e then some (yj k ks).flatten else none
   | _,_=>none
  | _=>none
def keyOf (t:yC):Option Nat:=
 match P.underlying t with
 | some .bool=>some 0
 | some (.int _)=>some 1
 | some .string=>some 2
 | _=>none
def pg (ne:Bool) (t:yC) (a b:xu):Op:=
 match kinds P 20 t with
 | some ks=>bif P.stoodInHeld t||P.eqGuardType P.depth t then bad else .eq ne (.ag ks) (aQ H a) (aQ H b)
 | none=>bad
def nT (ne:Bool) (op:wZ) (t:yC) (a b:xu):Op:=
 match P.underlying t with
 | some (.int _) | some .string | some (.float _)=> .bin op (aQ H a) (aQ H b)
 | some .bool=> .eq ne .b (aQ H a) (aQ H b)
 | some (.slice _)=> .eq ne .sl (aQ H a) (aQ H b)
 | some (.func _ _ _)=> .eq ne .fn (aQ H a) (aQ H b)
 | some (.struct _) | some (.array _ _)=>pg P H ne t a b
 | _=>bad
def aX (k:Nat) (o:yX):Op:=
 let x (y:xu):X:=aQ H y
 match o.op with
 | .move a | .assign a=> .cz (x a)
 | .pick c a b=> .pick (x c) (x a) (x b)
 | .alloc t=>match cF P t,lG P t with | some s,some z=> .box s (.c z) | _,_=>bad
 | .box t v=>match cF P t with | some s=> .box s (x v) | none=>bad
 | .build t parts=>
  match P.underlying t,lG P t with
  | some (.struct fs),some (.agg z)=>
   match fs.toList.mapM (fun f=>(P.info? f.type).map fun i=>(f.offset,i.size)) with
   | some pl=>(match partsOf H (fun i=>pl[i]?) parts.toList with | some ps=> .gk z ps | none=>bad)
   | none=>bad
  | some (.array _ e),some (.agg z)=>
   match cF P e with
   | some s=>(match partsOf H (fun i=>some (i*s,s)) parts.toList with | some ps=> .gk z ps | none=>bad)
   | none=>bad
  | _,_=>bad
 | .buildSlice t n parts=>
  match P.underlying t with
  | some (.slice e)=>
   match cF P e,lG P e with
   | some s,some z=>
    bif yF (n*s) 16777216 then
     (match partsOf H (fun i=>some (i*s,s)) parts.toList with | some ps=> .cW n s (yj n (cellsOf z)).flatten ps | none=>bad)
    else bad
   | _,_=>bad
  | _=>bad
 | .load t a=>match cF P t,dT P t with | some s,some ag=> .ld s ag (x a) | _,_=>bad
 | .store t a v=>match cF P t with | some s=> .st s (x a) (x v) | none=>bad
 | .nilCheck a=> .Jw (x a)
 | .binOp op t a b _=>
  match op with
  | .eql=>nT P H false op t a b
  | .neq=>nT P H true op t a b
  | _=> .bin op (x a) (x b)
 | .unOp op _ a=> .un op (x a)
 | .convert s d a=>
  match P.underlying s,P.underlying d with
  | some (.int _),some (.int k) | some (.float _),some (.int k)=> .cv (.toInt k) (x a)
  | some (.int _),some (.float k) | some (.float _),some (.float k)=> .cv (.toFlt k) (x a)
  | some .string,some .string=> .cv .str (x a)
  | _,_=>bad
 | .makeFunc (.func f) first cap=>match H.b7 f with | some g=> .DF (.f g) (gY H first.toList) (gY H cap.toList) | none=>bad
 | .makeMap t none=>match P.underlying t with | some (.map ke _)=>(match keyOf P ke with | some _=> .Ah | none=>bad) | _=>bad
 | .makeSlice t l c=>
  match P.underlying t with
  | some (.slice e)=>(match cF P e,sF P e,lG P e with | some s,some b,some z=> .gO s b (cellsOf z) (x l) (x c) | _,_,_=>bad)
  | _=>bad
 | .slice t a lo hi none=>
  match P.underlying t with
  | some .string=> .dO .str (x a) (lo.map x) (hi.map x)
  | some (.slice e)=>(match cF P e with | some s=> .dO (.sl s) (x a) (lo.map x) (hi.map x) | none=>bad)
  | some (.array n e)=>(match cF P e with | some s=> .dO (.ar n s) (x a) (lo.map x) (hi.map x) | none=>bad)
  | _=>bad
 | .fieldAddr t a i=>
  match P.underlying t with
  | some (.struct fs)=>
   match fs[i]? with
   | some f=>(match cF P f.type with | some (_+1)=> .off f.offset (x a) | _=>bad)
   | none=>bad
  | _=>bad
 | .field t a i=>
  match P.underlying t with
  | some (.struct fs)=>
   match fs[i]? with
   | some f=>(match cF P f.type,dT P f.type with | some s,some ag=> .KC f.offset s ag (x a) | _,_=>bad)
   | none=>bad
  | _=>bad
 | .indexAddr t a i=>
  match P.underlying t with
  | some (.slice e)=>(match cF P e with | some s=> .aY s (x a) (x i) | none=>bad)
  | some (.array n e)=>(match cF P e with | some s=> .Gc n s (x a) (x i) | none=>bad)
  | _=>bad
 | .index t a i=>
  match P.underlying t with
  | some .string=> .kU (x a) (x i)
  | some (.array n e)=>(match cF P e,dT P e with | some s,some ag=> .Gd n s ag (x a) (x i) | _,_=>bad)
  | _=>bad
 | .lookup t a i ok=>
  match P.underlying t with
  | some (.map ke e)=>(match keyOf P ke,lG P e with | some kk,some z=> .PI kk z ok (x a) (x i) | _,_=>bad)
  | _=>bad
 | .mapUpdate t a i v | .insert t a i v=>
  match P.underlying t with
  | some (.map ke _)=>(match keyOf P ke with | some kk=> .pR kk (x a) (x i) (x v) | none=>bad)
  | _=>bad
 | .range t a=>match P.underlying t with | some .string=> .pT (x a) | _=>bad
 | .next it true=> .pU (x it)
 | .extract t i=> .ext i (x t)
 | .call c=>
  match c.callee with
  | .value f=>(match H.mode k with | .dyn=> .iW [] (x f) (gY H c.args.toList) | md=> .call md (x f) (gY H c.args.toList))
  | .builtin b=>
   match b,c.args.toList,c.argTypes.toList with
   | .append,[s,a],[t,u]=>
    match P.underlying t,P.underlying u with
    | some (.slice e),some (.slice _) | some (.slice e),some .string=>
     (match cF P e,sF P e,lG P e with | some sz,some by',some z=>(bif yv (cellsOf z).length sz then .aR sz by' (x s) (x a) else bad) | _,_,_=>bad)
    | _,_=>bad
   | .len,[a],[t]=>
    match P.underlying t with
    | some (.array n _)=> .cz (.c (.int .i64 n))
    | some .string=> .len 0 (x a)
    | some (.slice _)=> .len 1 (x a)
    | some (.map _ _)=> .len 2 (x a)
    | _=>bad
   | .copy,[d,s],[t,_]=>
    match P.underlying t with
    | some (.slice e)=>(match cF P e with | some sz=> .mD sz (x d) (x s) | none=>bad)
    | _=>bad
   | .min,l,_=> .mn (gY H l)
   | .max,l,_=> .mx (gY H l)
   | _,_,_=>bad
  | _=>bad
 | _=>bad
def SK (o:yX):Bool:=match o.op with | .call {callee:= .value _,..}=>true | _=>false
def Jc (d:Option Nat):Bool:=match d with | some i=>yQ i H.n | none=>true
def zF (n:Nat):List Nat->Bool
 | []=>true
 | i::r=>yQ i n&&zF n r
def CC (ops:Array yX):List yX->Nat->List a8×Nat
 | [],k=>([],k)
 | o::r,k=>
  let g:=match o.guard with
   | none=>some none
   | some (j,b)=>match (ops[j]?).bind (·.dst) with | some t=>some (some (t,b)) | none=>none
  match CC ops r (k+(bif SK o then 1 else 0)) with
  | (l,k')=>
   match g,Jc H o.dst with
   | some g,true=>(⟨o.dst,g,aX P H k o⟩::l,k')
   | _,_=>(⟨o.dst,none,bad⟩::l,k')
def A2 (acc:List Nat):List Edge->Nat
 | []=>0
 | e::r=>bif Region.binds .any e then (2^e.on|||acc.getD e.on 0)|||A2 acc r else A2 acc r
def kM (acc:List Nat):List yX->List Nat
 | []=>acc
 | o::r=>kM (acc++[A2 acc o.after.toList]) r
def AM:List yX->Nat->Bool
 | [],_=>true
 | o::r,i=>o.after.toList.all (fun e=> !Region.binds .any e||yQ e.on i)&&AM r (i+1)
def MN (ops:Array yX) (draw:Bool) (k:Nat):List a8×Nat:=
 match CC P H ops ops.toList k with
 | (l,k')=>
  bif draw then
   (let ms:=kM [] ops.toList
    let l':=mV [] l ms
    bif AM ops.toList 0&&zm [] l' ms then (l',k') else bif AM ops.toList 0&&zm [] (E7 [] l') ms then (E7 [] l',k') else ([⟨none,none,bad⟩],k'))
  else (l,k')
def avO:wY->Bool
 | .loop _=>true
 | _=>false
def comp:wY->Nat->Nat->VC×Nat×Nat
 | .skip,l,k | .label _,l,k=>(.skip,l,k)
 | .region i ops d,l,k=>match MN P H ops d k with | (r,k')=>((match H.fz i with | []=> .aJ r | t::ts=> .seq (.fz (t::ts)) (.aJ r)),l,k')
 | .seq a b,l,k=>match comp a l k with | (a',l1,k1)=>match comp b l1 k1 with | (b',l2,k2)=>(.seq a' b',l2,k2)
 | .cond c a b,l,k=>
  match comp a (l+1) k with
  | (a',l1,k1)=>
   match comp b l1 k1 with
   | (b',l2,k2)=>(match H.out l with | some o=> .seq (.cond (aQ H c) a' b') (.kp o) | none=> .cond (aQ H c) a' b',l2,k2)
 | .block id a,l,k=>
  match comp a l k with
  | (a',r)=>(match avO a,H.out l with | true,some o=> .seq (.aF id a') (.kp o) | _,_=> .aF id a',r)
 | .loop a,l,k=>match comp a (l+1) k with | (a',r)=>(.loop (H.live l) a',r)
 | .rangeFunc f ps cM body,l,k=>
  match comp cM l k with | (as',l1,k1)=>match comp body l1 k1 with | (b',l2,k2)=>(bif zF H.n ps.toList then .rf (aQ H f) ps.toList as' b' else .aJ [⟨none,none,bad⟩],l2,k2)
 | .exit id,l,k=>(.exit id,l,k)
 | .scope a,l,k=>comp a l k
 | .ret,l,k=>(.ret,l,k)
 | .goto _,l,k | .refuse _,l,k=>(.aJ [⟨none,none,bad⟩],l,k)
def ph:List ResultVar->Option (List RV)
 | []=>some []
 | .tmp t::r=>match ph r with | some l=>some (.t t::l) | none=>none
 | .cell a t::r=>match cF P t,dT P t,ph r with | some s,some ag,some l=>some (.cell a s ag::l) | _,_,_=>none
def EI (fn:Func):Option aV:=
 match fn.body,ph P fn.results.toList with
 | some c,some rs=>bif yF H.n fn.ntmps then some ⟨rs,(comp P H c 0 0).1⟩ else none
 | _,_=>none
end
end
section
open Go
structure bl where
 P:y5
 aC:Lib
 af:Nat->Nat
 prog:aK
 hint:Nat->Hint
 w0:yi
def BP (P:y5) (H:Hint) (v:VC) (c:wY):Prop:=∃l k,(comp P H c l k).1=v
def Bo:Nat->LoopState
 | 0=> .ready
 | 1=> .busy
 | 2=> .done
 | _=> .exhausted
def zx:zQ->Option wY
 | .none=>none
 | .ret=>some .ret
 | .exit id=>some (.exit id)
section
variable (O:bl) (m:Mp) (S:Nat->Prop) (w:yi)
def b8 (tm:Env) (tmps:Array yh):Prop:=∀i,ah O.af m S w (ai tm i) (tmps.getD i undef)
def fg (id:Nat):Obj->Prop
 | .cells rw pu ex sz cs=>∃p arr t,m id=some p/\w.heap[p.b]? =some (.cells arr t (0,0))/\p.z=sz/\cs.length<=p.e/\p.o+p.e<=arr.size/\
   (ex=true->cs.length=p.e)/\bU O.af m S w cs p.b p.o/\(pu=true->aG cs=true)/\(rw=true->¬S p.b)/\(rw=false->S p.b)
 | .mp rw ks vs=>∃p es clock,m id=some p/\w.heap[p.b]? =some (.map es clock)/\ay O.af m S w ks (es.toList.map (·.key))/\ay O.af m S w vs (es.toList.map (·.val))/\
   (rw=true->¬S p.b)/\(rw=false->S p.b)
 | .si s pos=>∃p t,m id=some p/\w.heap[p.b]? =some (.stringIter t pos)/\t.data.toList.map xc=s/\¬S p.b
 | .lp tm ps cM body st pe=>∃p l h,m id=some p/\w.heap[p.b]? =some (.loop l)/\¬S p.b/\l.state=Bo st/\st<=2/\l.pending=zx pe/\b8 O m S w tm l.tmps/\
   l.params.toList=ps/\BP O.P (O.hint h) cM l.assign/\BP O.P (O.hint h) body l.body/\(O.hint h).n<=l.tmps.size/\zF (O.hint h).n ps=true
structure aU (hp:Hp) (ct:Nat):Prop where
 obj:∀id o p,au hp id=some o->m id=some p->fg O m S w id o
 lt:∀id p,m id=some p->id<ct
 inj:∀i j oi oj pi pj,au hp i=some oi->au hp j=some oj->m i=some pi->m j=some pj->pi.b=pj.b->i=j
 slt:∀b,S b->b<w.heap.size
 blt:∀id p,m id=some p->p.b<w.heap.size
 low:∀id p,m id=some p->O.w0.heap.size<=p.b
 lJ:∀b,b<O.w0.heap.size->w.heap[b]? =O.w0.heap[b]?
 fU:O.w0.heap.size<=w.heap.size
 aW:∀id o,au hp id=some o->id<ct
end
def ek (m:Mp) (hp:Hp) (b:Nat):Prop:=∃id o p,au hp id=some o/\m id=some p/\p.b=b
structure ck (m:Mp) (S:Nat->Prop) (w:yi) (hp:Hp) (m':Mp) (S':Nat->Prop) (w':yi) (aj:Hp) (base:Nat):Prop where
 os:w'.os=w.os
 tape:w'.tape=w.tape
 output:w'.output=w.output
 size:w.heap.size<=w'.heap.size
 same:∀b,b<w.heap.size->¬ek m hp b->w'.heap[b]? =w.heap[b]?
 sub:∀b,S b->S' b
 still:∀b,S b->w'.heap[b]? =w.heap[b]?
 new:∀b,S' b->S b\/ek m hp b\/w.heap.size<=b
 own:∀b,ek m' aj b->ek m hp b\/w.heap.size<=b
 old:∀id p,id<base->m id=some p->m' id=some p
 loops:∀(b:Nat) (r:Loop),w.heap[b]? =some (.loop r)->∃r':Loop,w'.heap[b]? =some (.loop r')
def ck.refl {m:Mp} {S:Nat->Prop} {w:yi} {hp:Hp} {base:Nat}:ck m S w hp m S w hp base:=
 ⟨rfl,rfl,rfl,yu _,fun _ _ _=>rfl,fun _ h=>h,fun _ _=>rfl,fun _ h=> .inl h,fun _ h=> .inl h,fun _ _ _ h=>h,fun _ r h=>⟨r,h⟩⟩
def ck.trans {m m' KF:Mp} {S S' BQ:Nat->Prop} {w w' PJ:yi} {hp aj Jx:Hp} {base:Nat}
  (h:ck m S w hp m' S' w' aj base) (k:ck m' S' w' aj KF BQ PJ Jx base):ck m S w hp KF BQ PJ Jx base where
 os:=k.os.trans h.os
 tape:=k.tape.trans h.tape
 output:=k.output.trans h.output
 size:=xm h.size k.size
 same b hb ho:=(k.same b (Nat.lt_of_lt_of_le hb h.size) (fun jQ=>(h.own b jQ).elim ho (fun h1=>by omega))).trans (h.same b hb ho)
 sub b hb:=k.sub b (h.sub b hb)
 still b hb:=(k.still b (h.sub b hb)).trans (h.still b hb)
 new b hb:=by
  rcases k.new b hb with h1 | h1 | h1
  ·exact h.new b h1
  ·rcases h.own b h1 with h2 | h2
   ·exact .inr (.inl h2)
   ·exact .inr (.inr h2)
  ·exact .inr (.inr (xm h.size h1))
 own b hb:=by
  rcases k.own b hb with h1 | h1
  ·exact h.own b h1
  ·exact .inr (xm h.size h1)
 old id p hid hp:=k.old id p hid (h.old id p hid hp)
 loops b r hb:=let ⟨r',h1⟩:=h.loops b r hb;k.loops b r' h1
end
section
open Go
section
variable {af:Nat->Nat} {m:Mp} {S:Nat->Prop} {w:yi}
mutual
def MO:∀v:yh,ah af m S w (eK v) v
 | .int _ _ | .bool _ | .float _ _=>by simp only [eK,ah]
 | .string s=>by simp only [eK,ah];exact ⟨s,rfl,rfl⟩
 | .pointer none=>by simp only [eK,ah]
 | .pointer (some _)=>by simp only [eK,ah]
 | .slice none 0 0=>by simp only [eK,ah]
 | .slice none 0 (_+1)=>by simp only [eK,ah]
 | .slice none (_+1) _=>by simp only [eK,ah]
 | .slice (some _) _ _=>by simp only [eK,ah]
 | .map none=>by simp only [eK,ah]
 | .map (some _)=>by simp only [eK,ah]
 | .nilFunc=>by simp only [eK,ah]
 | .agg ⟨cs⟩=>by simp only [eK,ah];exact ⟨⟨cs⟩,rfl,RF cs⟩
 | .tuple ⟨cs⟩=>by simp only [eK,ah];exact ⟨⟨cs⟩,rfl,RF cs⟩
 | .complex _ _ _ | .chan _ | .func _ _ _ | .iface _ _ | .nilIface=>by simp only [eK,ah]
def RF:∀l:List yh,ay af m S w (EH l) l
 | []=>by simp only [EH,ay]
 | v::r=>by simp only [EH,ay];exact ⟨v,r,rfl,MO v,RF r⟩
end
end
def fw (O:bl) (H:Hint):Prop:=∀f g,H.b7 f=some g->O.af g=f
section
variable {O:bl} {H:Hint} {m:Mp} {S:Nat->Prop} {w:yi} {tm:Env} {a:Act}
def cy (hH:fw O H) (ht:b8 O m S w tm a.tmps) (x:xu):ah O.af m S w (aA tm (aQ H x)) (a.eval x):=by
 cases x with
 | tmp t=>exact ht t
 | const v=>simp only [aQ,aA,Act.eval];exact MO v
 | global g=>simp only [aQ,aA,ah]
 | func f=>
  simp only [aQ,Act.eval]
  cases hr:H.b7 f with
  | none=>simp only [aA,ah]
  | some g=>simp only [aA,ah,hH f g hr,ay];exact ⟨#[],#[],rfl,rfl,rfl⟩
def CJ (hH:fw O H) (ht:b8 O m S w tm a.tmps):∀l:List xu,ay O.af m S w (dD tm (gY H l)) (l.map a.eval)
 | []=>by simp only [gY,dD,List.map_nil,ay]
 | x::r=>by simp only [gY,dD,xa,ay];exact ⟨_,_,rfl,cy hH ht x,CJ hH ht r⟩
end
section
variable {O:bl} {m:Mp} {S:Nat->Prop} {w:yi}
def qw {af:Nat->Nat}:∀(k:Nat) (cs:List AV) (b o:Nat),bU af m S w cs b o->bU af m S w (cs.drop k) b (o+k)
 | 0,cs,b,o,h=>by simpa using h
 | k+1,[],b,o,_=>by simp only [List.drop_nil,bU]
 | k+1,c::cs,b,o,h=>by
  simp only [bU] at h
  have:=qw k cs b (o+1) h.2
  rw [List.drop_succ_cons,show o+(k+1)=o+1+k by omega];exact this
def AJ {af:Nat->Nat}:∀(k:Nat) (cs:List AV) (b o:Nat),bU af m S w cs b o->bU af m S w (cs.take k) b o
 | 0,cs,b,o,_=>by simp only [yah,bU]
 | k+1,[],b,o,_=>by simp only [List.take_nil,bU]
 | k+1,c::cs,b,o,h=>by
  simp only [bU,wD] at h ⊢;exact ⟨h.1,AJ k cs b (o+1) h.2⟩
def rD {af:Nat->Nat}:∀(cs:List AV) (b o:Nat),bU af m S w cs b o->
  ∃us:List yh,ay af m S w cs us/\us.length=cs.length/\∀j u,us[j]? =some u->w.cell? ⟨b,o+j,none⟩=some u
 | [],b,o,_=>⟨[],by simp only [ay],rfl,fun j u h=>by simp at h⟩
 | c::cs,b,o,h=>by
  simp only [bU] at h;obtain ⟨⟨u,h1,h2⟩,h3⟩:=h;obtain ⟨us,h4,h5,h6⟩:=rD cs b (o+1) h3;refine ⟨u::us,by simp only [ay];exact ⟨u,us,rfl,h2,h4⟩,by simp [h5],fun j v hv=>?_⟩
  cases j with
  | zero=>simp at hv;subst hv;simpa using h1
  | succ j=>simp at hv;have:=h6 j v hv;rw [show o+(j+1)=o+1+j by omega];exact this
def gU {af:Nat->Nat}:∀(cs:List AV) (us:List yh),ay af m S w cs us->us.length=cs.length
 | [],us,h=>by simp only [ay] at h;subst h;rfl
 | c::cs,us,h=>by
  simp only [ay] at h;obtain ⟨u,r,rfl,_,h3⟩:=h;simp [gU cs r h3]
end
end
section
open Go
def nU (b o j:Nat):(⟨b,o,none⟩:uA).add j=⟨b,o+j,none⟩:=by
 unfold Addr.add;split<;>simp_all
section
variable {P:y5} {w:yi}
def aoe (t:yC) (b o:Nat) (us:List yh) (ha:dT P t=some true) (hz:cF P t=some us.length)
  (h:∀j u,us[j]? =some u->w.cell? ⟨b,o+j,none⟩=some u):(loadVar t ⟨b,o,none⟩).run P w= .ok (.agg us.toArray) w:=by
 have hl:=run_loadCells_list (P:=P) w ⟨b,o,none⟩ us (fun j u hu=>by rw [nU];exact h j u hu)
 unfold cF at hz
 cases hi:P.info? t with
 | none=>simp [hi] at hz
 | some i=>
  simp only [hi,yd] at hz;unfold dT at ha
  cases hu:P.underlying t with
  | none=>simp [hu] at ha
  | some d=>cases d<;>simp_all [loadVar,isAgg,vK,typeInfo,underlying]
def aof (t:yC) (b o:Nat) (u:yh) (ha:dT P t=some false)
  (h:w.cell? ⟨b,o,none⟩=some u):(loadVar t ⟨b,o,none⟩).run P w= .ok u w:=by
 unfold dT at ha
 cases hu:P.underlying t with
 | none=>simp [hu] at ha
 | some d=>cases d<;>simp_all [loadVar,isAgg,underlying]
end
section
variable {O:bl} {m:Mp} {S:Nat->Prop} {w:yi}
def MP {t:yC} {sz:Nat} {ag:Bool} {cs:List AV} {b o:Nat} {v:AV} (hz:cF O.P t=some sz) (ha:dT O.P t=some ag)
  (hr:bU O.af m S w cs b o) (hv:iy sz ag cs=some v):∃u,(loadVar t ⟨b,o,none⟩).run O.P w= .ok u w/\ah O.af m S w v u:=by
 cases ag with
 | true=>
  simp only [iy,yA] at hv
  cases hle:yF sz cs.length with
  | false=>simp only [hle,yT] at hv;cases hv
  | true=>
   simp only [hle,yA,yd] at hv;subst hv;obtain ⟨us,h1,h2,h3⟩:=rD _ _ _ (AJ sz cs b o hr);have hlen:us.length=sz:=by
    rw [h2,yE];have:=yy hle;omega
   refine ⟨.agg us.toArray,aoe t b o us ha (by rw [hlen];exact hz) h3,?_⟩
   simp only [ah];exact ⟨us.toArray,rfl,by simpa using h1⟩
 | false=>
  simp only [iy,yT] at hv
  cases cs with
  | nil=>simp at hv
  | cons c cs=>
   simp only [yd] at hv;subst hv;simp only [bU] at hr;obtain ⟨⟨u,h1,h2⟩,_⟩:=hr;exact ⟨u,aof t b o u ha h1,h2⟩
def aeq {t:yC} {sz o:Nat} {ag:Bool} {cs:List AV} {xs:Array yh} {v:AV} (hz:cF O.P t=some sz) (ha:dT O.P t=some ag)
  (hr:ay O.af m S w cs xs.toList) (hv:iy sz ag (cs.drop o)=some v):∃u,(part t xs o).run O.P w= .ok u w/\ah O.af m S w v u:=by
 have hd:∀(k:Nat) (cs:List AV) (us:List yh),ay O.af m S w cs us->ay O.af m S w (cs.drop k) (us.drop k):=by
  intro k
  induction k with
  | zero=>intro cs us h;simpa using h
  | succ k ih=>
   intro cs us h
   cases cs with
   | nil=>simp only [ay] at h;subst h;simp [ay]
   | cons c cs=>simp only [ay] at h;obtain ⟨u,r,rfl,_,h3⟩:=h;simpa using ih cs r h3
 have eS:∀(k:Nat) (cs:List AV) (us:List yh),ay O.af m S w cs us->ay O.af m S w (cs.take k) (us.take k):=by
  intro k
  induction k with
  | zero=>intro cs us h;simp [ay]
  | succ k ih=>
   intro cs us h
   cases cs with
   | nil=>simp only [ay] at h;subst h;simp [ay]
   | cons c cs=>simp only [ay] at h;obtain ⟨u,r,rfl,h2,h3⟩:=h;simp only [wD,ay];exact ⟨u,_,rfl,h2,ih cs r h3⟩
 have ajP:(isAgg t).run O.P w= .ok ag w:=by
  unfold dT at ha
  cases hu:O.P.underlying t with
  | none=>simp [hu] at ha
  | some d=>cases d<;>simp_all [isAgg,underlying]
 have eT:(vK t).run O.P w= .ok sz w:=by
  unfold cF at hz
  cases hi:O.P.info? t with
  | none=>simp [hi] at hz
  | some i=>simp_all [vK,typeInfo]
 have bP:=hd o cs xs.toList hr
 cases ag with
 | true=>
  simp only [iy,yA] at hv
  cases hle:yF sz (cs.drop o).length with
  | false=>simp only [hle,yT] at hv;cases hv
  | true=>
   simp only [hle,yA,yd] at hv;subst hv;refine ⟨.agg (xs.extract o (o+sz)),by simp [part,Sem.run_bind,ajP,eT],?_⟩;simp only [ah];refine ⟨_,rfl,?_⟩
   have:=eS sz _ _ bP
   rw [show (xs.extract o (o+sz)).toList=(xs.toList.drop o).take sz by simp [Array.toList_extract,tJ]];exact this
 | false=>
  simp only [iy,yT] at hv
  cases hc:cs.drop o with
  | nil=>simp [hc] at hv
  | cons c r=>
   simp only [hc,yd] at hv;subst hv;rw [hc] at bP;simp only [ay] at bP;obtain ⟨u,us,h1,h2,_⟩:=bP;have hx:xs[o]? =some u:=by
    have:xs.toList[o]? =some u:=by
     have:=congrArg (fun l=>l[0]?) h1
     simpa using this
    simpa using this
   exact ⟨u,by simp [part,Sem.run_bind,ajP,hx],h2⟩
end
end
section
open Go
def mh (t:ByteArray):List Nat:=t.data.toList.map xc
def aer:∀a b:List UInt8,cY (a.map xc) (b.map xc)=(a==b)
 | [],[]=>rfl
 | [],_::_=>rfl
 | _::_,[]=>rfl
 | a::x,b::y=>by
  have h:yv a.toNat b.toNat=(a==b):=by
   rw [uB,ybT,yav];exact yaM
  simp only [xa,cY,aer x y,h,List.cons_beq_cons]
def aes:∀a b:List UInt8,BN (a.map xc) (b.map xc)=Op.bytesLess a b
 | [],[]=>rfl
 | [],_::_=>rfl
 | _::_,[]=>rfl
 | a::x,b::y=>by
  have h:yv a.toNat b.toNat=(a==b):=by
   rw [uB,ybT,yav];exact yaM
  have h2:yQ a.toNat b.toNat=decide (a<b):=by
   rw [uB];simp only [yQ,ybU,wh,UInt8.lt_iff_toNat_lt];omega
  simp only [xa,BN,Op.bytesLess,aes x y,h,h2]
def aca (s t:ByteArray):cY (mh s) (mh t)=(s.toList==t.toList):=by
 rw [mh,mh,aer,ByteArray.toList_eq,ByteArray.toList_eq]
def apD (s t:ByteArray):BN (mh s) (mh t)=Op.bytesLess s.toList t.toList:=by
 rw [mh,mh,aes,ByteArray.toList_eq,ByteArray.toList_eq]
def acb (s:ByteArray):(mh s).length=s.size:=by
 rw [mh,List.length_map,Lib.size_eq]
section
variable {af:Nat->Nat} {P:y5} {m:Mp} {S:Nat->Prop} {w:yi} {t:yC}
def arh {op:wZ} {k:y7} {x y:Int} {v:AV} (h:lF op k x y=some v):
  ∃u,(xO op t (.int k x) (.int k y)).run P w= .ok u w/\ah af m S w v u:=by
 cases op<;>simp only [lF,intCmp,yd] at h
 case add=>subst h;exact ⟨_,by simp [xO,Op.intArith];rfl,by simp [ah]⟩
 case sub=>subst h;exact ⟨_,by simp [xO,Op.intArith];rfl,by simp [ah]⟩
 case mul=>subst h;exact ⟨_,by simp [xO,Op.intArith];rfl,by simp [ah]⟩
 case quo=>
  by_cases hy:y=0
  ·simp [hy] at h
  ·simp only [hy,xg,yd] at h;subst h;exact ⟨_,by simp [xO,Op.intDiv,hy];rfl,by simp [ah]⟩
 case rem=>
  by_cases hy:y=0
  ·simp [hy] at h
  ·simp only [hy,xg,yd] at h;subst h;exact ⟨_,by simp [xO,Op.intDiv,hy];rfl,by simp [ah]⟩
 case and=>subst h;exact ⟨_,by simp [xO,Op.intBits];rfl,by simp [ah]⟩
 case or=>subst h;exact ⟨_,by simp [xO,Op.intBits];rfl,by simp [ah]⟩
 case xor=>subst h;exact ⟨_,by simp [xO,Op.intBits];rfl,by simp [ah]⟩
 case andNot=>subst h;exact ⟨_,by simp [xO,Op.intBits];rfl,by simp [ah]⟩
 case shl=>cases h
 case shr=>cases h
 all_goals
  subst h;exact ⟨_,by simp [xO,Op.intCmp];rfl,by simp [ah]⟩
def abu {op:wZ} {k k':y7} {x y:Int} {v:AV} (h:CB op k x y=some v):
  ∃u,(xO op t (.int k x) (.int k' y)).run P w= .ok u w/\ah af m S w v u:=by
 unfold CB at h;by_cases hy:y<0
 ·simp [hy] at h
 ·simp only [hy,xg] at h;cases op<;>simp only [yd] at h
  case shl=>subst h;exact ⟨_,by simp [xO,Op.shift,hy];rfl,by simp [ah]⟩
  case shr=>subst h;exact ⟨_,by simp [xO,Op.shift,hy];rfl,by simp [ah]⟩
  all_goals cases h
def ari {op:wZ} {x y:ByteArray} {v:AV} (h:I7 op (mh x) (mh y)=some v):
  ∃u,(xO op t (.string x) (.string y)).run P w= .ok u w/\ah af m S w v u:=by
 cases op<;>simp only [I7,aca,apD,acb,yd] at h
 case add=>
  cases hle:yF (x.size+y.size) 9223372036854775807 with
  | false=>rw [hle] at h;cases h
  | true=>
   rw [hle] at h;simp only [yA,yd] at h;subst h;have aIU:=yy hle;have aBj:¬(((x.size+y.size:Nat):Int)>IntKind.i64.max):=by
    have:IntKind.i64.max=9223372036854775807:=by decide
    rw [this];omega
   refine ⟨.string (x++y),?_,?_⟩
   ·simp only [xO,Op.stringOp,yx aBj,Sem.run_pure]
   ·simp only [ah];exact ⟨x++y,rfl,by simp [mh]⟩
 all_goals first
  | (cases h;done)
  | (subst h;exact ⟨_,by simp [xO,Op.stringOp];rfl,by simp [ah]⟩)
def arj {op:wZ} {k:ub} {x y:Nat} {v:AV} (h:Tm op k x y=some v):
  ∃u,(xO op t (.float k x) (.float k y)).run P w= .ok u w/\ah af m S w v u:=by
 cases op<;>simp only [Tm,yd] at h
 case add=>
  cases hr:k.format.add x y with
  | none=>simp [hr] at h
  | some r=>simp only [hr,yd] at h;subst h;exact ⟨.float k r,by simp [xO,Op.floatArith,hr],by simp [ah]⟩
 case sub=>
  cases hr:k.format.sub x y with
  | none=>simp [hr] at h
  | some r=>simp only [hr,yd] at h;subst h;exact ⟨.float k r,by simp [xO,Op.floatArith,hr],by simp [ah]⟩
 case mul=>
  cases hr:k.format.mul x y with
  | none=>simp [hr] at h
  | some r=>simp only [hr,yd] at h;subst h;exact ⟨.float k r,by simp [xO,Op.floatArith,hr],by simp [ah]⟩
 case quo=>
  cases hr:k.format.div x y with
  | none=>simp [hr] at h
  | some r=>simp only [hr,yd] at h;subst h;exact ⟨.float k r,by simp [xO,Op.floatArith,hr],by simp [ah]⟩
 all_goals first
  | (cases h;done)
  | (subst h;exact ⟨_,by simp [xO,Op.floatCmp];rfl,by simp [ah]⟩)
def ark {op:wZ} {vx vy v:AV} {x y:yh} (hx:ah af m S w vx x) (hy:ah af m S w vy y) (h:VE.binOp op vx vy=some v):
  ∃u,(xO op t x y).run P w= .ok u w/\ah af m S w v u:=by
 unfold VE.binOp at h
 split at h
 ·rename_i k a k' b;simp only [ah] at hx hy;subst hx;subst hy
  split at h
  ·exact abu h
  ·exact abu h
  ·by_cases hk:k=k'
   ·subst hk;simp only [xE] at h;exact arh h
   ·simp [hk] at h
 ·rename_i k a k' b;simp only [ah] at hx hy;subst hx;subst hy;by_cases hk:k=k'
  ·subst hk;simp only [xE] at h;exact arj h
  ·simp [hk] at h
 ·rename_i a b;simp only [ah] at hx hy;obtain ⟨s,rfl,rfl⟩:=hx;obtain ⟨s',rfl,rfl⟩:=hy;exact ari h
 ·cases h
end
end
section
open Go
section
variable {af:Nat->Nat} {P:y5} {m:Mp} {S:Nat->Prop} {w:yi} {t:yC}
def aoK {op:wZ} {x y:xu} {a b:yh} (h:P.eqGuardType P.depth t=false\/∀xs ys,¬(a= .agg xs/\b= .agg ys)) (hn:a≠.nilIface):
  (eqGuard op t x y a b).run P w= .ok () w:=by
 unfold eqGuard;cases op
 all_goals first
  | rfl
  | (
    cases a
    all_goals first
     | rfl
     | exact absurd rfl hn
     | (
      cases b
      all_goals first
       | rfl
       | (
         rcases h with h | h
         ·simp [h]
         ·exact absurd ⟨rfl,rfl⟩ (h _ _))))
def avP {d:Nat} {p q:Bool} (ht:P.underlying t=some .bool):(Op.equalIn (d+1) t (.bool p) (.bool q)).run P w= .ok (p==q) w:=by
 simp [Op.equalIn,underlying,ht]
def To {d:Nat} {e:yC} (ht:P.underlying t=some (.slice e)) (y:Option uA) (n c n' c':Nat):
  (Op.equalIn (d+1) t (.slice none n c) (.slice y n' c')).run P w= .ok y.isNone w:=by simp [Op.equalIn,underlying,ht]
def aiY {d:Nat} {e:yC} (ht:P.underlying t=some (.slice e)) (x:uA) (n c n' c':Nat):
  (Op.equalIn (d+1) t (.slice (some x) n c) (.slice none n' c')).run P w= .ok false w:=by simp [Op.equalIn,underlying,ht]
def azK {d:Nat} {ps rs:Array yC} {vr:Bool} (ht:P.underlying t=some (.func ps rs vr)):
  (Op.equalIn (d+1) t .nilFunc .nilFunc).run P w= .ok true w:=by simp [Op.equalIn,underlying,ht]
def aiZ {d:Nat} {ps rs:Array yC} {vr:Bool} (ht:P.underlying t=some (.func ps rs vr)) (f:Go.Fn) (a b:Array yh):
  (Op.equalIn (d+1) t .nilFunc (.func f a b)).run P w= .ok false w:=by simp [Op.equalIn,underlying,ht]
def ai0 {d:Nat} {ps rs:Array yC} {vr:Bool} (ht:P.underlying t=some (.func ps rs vr)) (f:Go.Fn) (a b:Array yh):
  (Op.equalIn (d+1) t (.func f a b) .nilFunc).run P w= .ok false w:=by simp [Op.equalIn,underlying,ht]
def Mq (x y:yh):Op.equal t x y=Op.equalIn (9999+1) t x y:=rfl
def att {vx vy:AV} {x y:yh} {r:Bool} {e:yC} (ht:P.underlying t=some (.slice e)) (hx:ah af m S w vx x) (hy:ah af m S w vy y)
  (h:jM .sl vx vy=some r):(Op.equal t x y).run P w= .ok r w:=by
 rw [Mq];unfold jM at h
 split at h<;>simp_all only [yd,reduceCtorEq]
 all_goals subst h
 all_goals simp only [ah] at hx hy
 ·subst hx;subst hy;exact To ht _ _ _ _ _
 ·rcases hy with ⟨b,o,c,rfl,_⟩ | ⟨_,rfl,_⟩<;>(subst hx;exact To ht _ _ _ _ _)
 ·obtain ⟨p,c,_,rfl,_⟩:=hy;subst hx;exact To ht _ _ _ _ _
 ·rcases hx with ⟨b,o,c,rfl,_⟩ | ⟨_,rfl,_⟩<;>(subst hy;exact aiY ht _ _ _ _ _)
 ·obtain ⟨p,c,_,rfl,_⟩:=hx;subst hy;exact aiY ht _ _ _ _ _
def atu {vx vy:AV} {x y:yh} {r:Bool} {ps rs:Array yC} {vr:Bool} (ht:P.underlying t=some (.func ps rs vr)) (hx:ah af m S w vx x) (hy:ah af m S w vy y)
  (h:jM .fn vx vy=some r):(Op.equal t x y).run P w= .ok r w:=by
 rw [Mq];unfold jM at h
 split at h<;>simp_all only [yd,reduceCtorEq]
 all_goals subst h
 ·simp only [ah] at hx hy;subst hx;subst hy;exact azK ht
 ·rename_i f _ _
  cases f with
  | f g=>simp only [ah] at hx hy;obtain ⟨fi,ca,rfl,_⟩:=hy;subst hx;exact aiZ ht _ _ _
  | y l=>simp only [ah] at hx hy;obtain ⟨p,_,rfl⟩:=hy;subst hx;exact aiZ ht _ _ _
 ·rename_i f _ _
  cases f with
  | f g=>simp only [ah] at hx hy;obtain ⟨fi,ca,rfl,_⟩:=hx;subst hy;exact ai0 ht _ _ _
  | y l=>simp only [ah] at hx hy;obtain ⟨p,_,rfl⟩:=hx;subst hy;exact ai0 ht _ _ _
def atv {op:ybJ} {vx v:AV} {x:yh} (hx:ah af m S w vx x) (h:VE.unOp op vx=some v):∃u,(Op.unary op x).run P w= .ok u w/\ah af m S w v u:=by
 unfold VE.unOp at h
 split at h
 ·rename_i k n;simp only [ah] at hx;subst hx;simp only [yd] at h;subst h;exact ⟨_,by simp [Op.unary,Op.intArith];rfl,by simp [ah]⟩
 ·rename_i k n;simp only [ah] at hx;subst hx;simp only [lF,yd] at h;subst h;exact ⟨_,by simp [Op.unary,Op.intBits];rfl,by simp [ah]⟩
 ·rename_i b;simp only [ah] at hx;subst hx;simp only [yd] at h;subst h;exact ⟨_,by simp [Op.unary];rfl,by simp [ah]⟩
 ·rename_i k b;simp only [ah] at hx;subst hx;simp only [yd] at h;subst h;exact ⟨_,by simp [Op.unary,Op.negFloat];rfl,by simp [ah]⟩
 ·cases h
def adg {s d:yC} {k:y7} {vx v:AV} {x:yh} (hd:P.underlying d=some (.int k)) (hs:(∃k',P.underlying s=some (.int k'))\/∃k',P.underlying s=some (.float k'))
  (hx:ah af m S w vx x) (h:pG (.toInt k) vx=some v):∃u,(convert s d x).run P w= .ok u w/\ah af m S w v u:=by
 cases vx<;>simp only [pG,reduceCtorEq] at h
 case int k0 n=>
  simp only [ah] at hx;subst hx;simp only [yd] at h;subst h;refine ⟨.int k (k.wrap n),?_,by simp [ah]⟩;rcases hs with ⟨k',h'⟩ | ⟨k',h'⟩<;>simp [convert,underlying,Conv.intToInt,hd,h']
 case bQ sk b=>
  simp only [ah] at hx;subst hx
  cases hi:(sk.decode b).toInt .zero with
  | none=>simp [hi] at h
  | some n=>
   simp only [hi] at h;by_cases hr:k.min<=n/\n<=k.max
   ·simp only [hr,and_self,xE,yd] at h;subst h;refine ⟨.int k n,?_,by simp [ah]⟩;rcases hs with ⟨k',h'⟩ | ⟨k',h'⟩<;>simp [convert,underlying,Conv.floatToInt,hd,h',hi,hr]
   ·simp [hr] at h
def adh {s d:yC} {k:ub} {vx v:AV} {x:yh} (hd:P.underlying d=some (.float k)) (hs:(∃k',P.underlying s=some (.int k'))\/∃k',P.underlying s=some (.float k'))
  (hx:ah af m S w vx x) (h:pG (.toFlt k) vx=some v):∃u,(convert s d x).run P w= .ok u w/\ah af m S w v u:=by
 cases vx<;>simp only [pG,reduceCtorEq] at h
 case int k0 n=>
  simp only [ah] at hx;subst hx;simp only [yd] at h;subst h;refine ⟨.float k (k.nearest n),?_,by simp [ah]⟩;rcases hs with ⟨k',h'⟩ | ⟨k',h'⟩<;>simp [convert,underlying,Conv.intToFloat,hd,h']
 case bQ sk b=>
  simp only [ah] at hx;subst hx;by_cases he:sk=k
  ·subst he;simp only [xE,yd] at h;subst h;refine ⟨.float sk b,?_,by simp [ah]⟩;rcases hs with ⟨k',h'⟩ | ⟨k',h'⟩<;>simp [convert,underlying,Conv.floatToFloat,hd,h']
  ·simp only [he,xg] at h
   cases NT:sk.decode b with
   | nan _ _=>simp [NT] at h
   | infinity _=>simp [NT] at h
   | number sg mm ee=>
    simp only [NT] at h
    cases TN:(k.decode (k.encode (.number sg mm ee))).isInfinity with
    | true=>simp [TN] at h
    | false=>
     simp only [TN,yI,xg,yd] at h;subst h;refine ⟨.float k (k.encode (.number sg mm ee)),?_,by simp [ah]⟩;rcases hs with ⟨k',h'⟩ | ⟨k',h'⟩<;>simp [convert,underlying,Conv.floatToFloat,hd,h',he,NT,TN]
def arl {s d:yC} {vx v:AV} {x:yh} (hd:P.underlying d=some .string) (hs:P.underlying s=some .string)
  (hx:ah af m S w vx x) (h:pG .str vx=some v):∃u,(convert s d x).run P w= .ok u w/\ah af m S w v u:=by
 cases vx<;>simp only [pG,reduceCtorEq] at h
 simp only [yd] at h;subst h;simp only [ah] at hx;obtain ⟨b,rfl,hb⟩:=hx;exact ⟨.string b,by simp [convert,underlying,hs,hd],by simp only [ah];exact ⟨b,rfl,hb⟩⟩
end
end
section
open Go
def apE {v:AV} {k:Nat} (h:dE v=some k):∃kd,v= .int kd (k:Int):=by
 cases v<;>simp only [dE,reduceCtorEq] at h
 rename_i kd n
 cases n with
 | ofNat j=>simp only [yd] at h;subst h;exact ⟨kd,rfl⟩
 | negSucc j=>cases h
section
variable {O:bl} {H:Hint} {m:Mp} {S:Nat->Prop} {w:yi} {tm:Env} {a:Act}
def zn {af:Nat->Nat} {v:AV} {x:yh} {k:Nat} (hx:ah af m S w v x) (h:dE v=some k):∃kd,x= .int kd (k:Int):=by
 obtain ⟨kd,rfl⟩:=apE h;simp only [ah] at hx
 grind
def run_sliceBound {P:y5} {kd:y7} {k y:Nat} {code:BoundsCode} (h:k<=y):(Instr.sliceBound (.int kd (k:Int)) y code).run P w= .ok k w:=by
 have:(0:Int)<=(k:Int)/\(k:Int)<=(y:Int):=by omega
 simp [Instr.sliceBound,asIntOf,this]
def acd {P:y5} {isSlice:Bool} {len cap l h:Nat} {lo hi:Option xu} (hH:fw O H) (ht:b8 O m S w tm a.tmps)
  (hl:dc tm 0 (lo.map (aQ H))=some l) (hh:dc tm len (hi.map (aQ H))=some h) (h1:l<=h) (h2:h<=cap):
  (Instr.sliceBounds isSlice len cap (lo.map a.eval) (hi.map a.eval) none).run P w= .ok (l,h,cap) w:=by
 cases lo with
 | none=>
  simp only [vW,dc,yd] at hl;subst hl
  cases hi with
  | none=>
   simp only [vW,dc,yd] at hh;subst hh;simp [Instr.sliceBounds]
  | some y=>
   obtain ⟨kd,e⟩:=zn (cy hH ht y) hh;simp only [Instr.sliceBounds,vW,wM,e,Sem.run_bind,Sem.run_pure,Result.andThen_ok,run_sliceBound h2]
 | some x=>
  obtain ⟨kd,e⟩:=zn (cy hH ht x) hl
  cases hi with
  | none=>
   simp only [vW,dc,yd] at hh;subst hh;simp only [Instr.sliceBounds,vW,wM,e,Sem.run_bind,Sem.run_pure,Result.andThen_ok,run_sliceBound h1]
  | some y=>
   obtain ⟨Zk,e'⟩:=zn (cy hH ht y) hh;simp only [Instr.sliceBounds,wM,e,e',Sem.run_bind,Sem.run_pure,Result.andThen_ok,run_sliceBound h2,run_sliceBound h1]
def apF {t:yC} {lo hi:Option xu} {vx v:AV} {x:yh} (hH:fw O H) (ht:b8 O m S w tm a.tmps) (hu:O.P.underlying t=some .string)
  (hx:ah O.af m S w vx x) {hp:Hp} (h:ff hp .str vx tm (lo.map (aQ H)) (hi.map (aQ H))=some v):
  ∃u,(Instr.sliceAt t x (lo.map a.eval) (hi.map a.eval) none).run O.P w= .ok u w/\ah O.af m S w v u:=by
 cases vx<;>simp only [ff,reduceCtorEq] at h
 obtain ⟨b,rfl,rfl⟩:=hx
 cases hl:dc tm 0 (lo.map (aQ H)) with
 | none=>simp [hl] at h
 | some l=>
  simp only [hl] at h
  cases hh:dc tm (b.data.toList.map xc).length (hi.map (aQ H)) with
  | none=>rw [hh] at h;cases h
  | some g=>
   rw [hh] at h;simp only at h
   cases hc:(yF l g&&yF g (b.data.toList.map xc).length) with
   | false=>rw [hc] at h;cases h
   | true=>
    rw [hc] at h;simp only [yA,yd] at h;subst h;simp only [yg] at hc;have h1:=yy hc.1;have h2:=yy hc.2;have hlen:(b.data.toList.map xc).length=b.size:=acb b;rw [hlen] at hh h2;refine ⟨.string (b.extract l g),?_,?_⟩
    ·simp only [Instr.sliceAt,Sem.run_bind,run_underlying hu,Result.andThen_ok,Instr.slice,Option.isSome_none,yI,xg,Sem.run_pure,
      acd (P:=O.P) (isSlice:=false) (len:=b.size) (cap:=b.size) hH ht hl hh h1 h2]
    ·simp only [ah];refine ⟨_,rfl,?_⟩;rw [Lib.extract_data,List.map_take,List.map_drop,List.drop_take]
def arm {t e:yC} {sz:Nat} {lo hi:Option xu} {vx v:AV} {x:yh} (hH:fw O H) (ht:b8 O m S w tm a.tmps) (hu:O.P.underlying t=some (.slice e)) (hz:cF O.P e=some sz)
  {hp:Hp} {ct:Nat} (hh:aU O m S w hp ct)
  (hx:ah O.af m S w vx x) (h:ff hp (.sl sz) vx tm (lo.map (aQ H)) (hi.map (aQ H))=some v):
  ∃u,(Instr.sliceAt t x (lo.map a.eval) (hi.map a.eval) none).run O.P w= .ok u w/\ah O.af m S w v u:=by
 have eT:(vK e).run O.P w= .ok sz w:=by
  unfold cF at hz
  cases hi:O.P.info? e with
  | none=>simp [hi] at hz
  | some i=>simp_all [vK,typeInfo]
 have IA:∀(ad:Option uA) (n c l g:Nat),dc tm 0 (lo.map (aQ H))=some l->dc tm n (hi.map (aQ H))=some g->l<=g->g<=c->
   (Instr.sliceAt t (.slice ad n c) (lo.map a.eval) (hi.map a.eval) none).run O.P w= .ok (.slice (if c=l then ad else ad.map (·.add (l*sz))) (g-l) (c-l)) w:=by
  intro ad n c l g hl hg h1 h2
  simp only [Instr.sliceAt,Sem.run_bind,run_underlying hu,Result.andThen_ok,Instr.slice,Sem.run_pure,eT,
   acd (P:=O.P) (isSlice:=true) (len:=n) (cap:=c) hH ht hl hg h1 h2]
 cases vx<;>simp only [ff,reduceCtorEq] at h
 case aa=>
  simp only [ah] at hx;subst hx
  cases hl:dc tm 0 (lo.map (aQ H)) with
  | none=>simp [hl] at h
  | some l=>
   cases l with
   | succ l=>simp [hl] at h
   | zero=>
    simp only [hl] at h
    cases hh:dc tm 0 (hi.map (aQ H)) with
    | none=>simp [hh] at h
    | some g=>
     cases g with
     | succ g=>simp [hh] at h
     | zero=>
      simp only [hh,yd] at h;subst h;exact ⟨_,IA none 0 0 0 0 hl hh (yu _) (yu _),by simp [ah]⟩
 case aw ex n cs=>
  simp only [ah] at hx;rcases hx with ⟨b,o,c,rfl,KG,hex,hS,iN,DH⟩ | ⟨ad,rfl,rfl,rfl⟩
  case inr=>
   cases hl:dc tm 0 (lo.map (aQ H)) with
   | none=>simp [hl] at h
   | some l=>
    simp only [hl] at h
    cases hh:dc tm 0 (hi.map (aQ H)) with
    | none=>simp [hh] at h
    | some g=>
     simp only [hh] at h
     cases hc:(yF l g&&yF g 0) with
     | false=>rw [hc] at h;cases h
     | true=>
      rw [hc] at h;simp only [yA,yd] at h;subst h;simp only [yg] at hc;have h1:=yy hc.1;have h2:=yy hc.2;have hg:g=0:=by omega
      subst hg;have kz:l=0:=by omega
      subst kz;refine ⟨_,IA (some ad) 0 0 0 0 hl hh h1 h2,?_⟩;simp only [ah];exact .inr ⟨ad,by simp,by simp,by simp [slice]⟩
  cases hl:dc tm 0 (lo.map (aQ H)) with
  | none=>simp [hl] at h
  | some l=>
   simp only [hl] at h
   cases hh:dc tm n (hi.map (aQ H)) with
   | none=>simp [hh] at h
   | some g=>
    simp only [hh] at h
    cases hc:(yF l g&&yF g n) with
    | false=>rw [hc] at h;cases h
    | true=>
     rw [hc] at h;simp only [yA,yd] at h;subst h;simp only [yg] at hc;have h1:=yy hc.1;have h2:=yy hc.2;refine ⟨_,IA (some ⟨b,o,none⟩) n c l g hl hh h1 (by omega),?_⟩;have Da:aG (slice (l*sz) ((g-l)*sz) cs)=true:=by
      have pd:∀(k:Nat) (cs:List AV),aG cs=true->aG (cs.drop k)=true:=by
       intro k
       induction k with
       | zero=>intro cs h;simpa using h
       | succ k ih=>intro cs h;cases cs with
        | nil=>simpa using h
        | cons c cs=>simp only [aG,yg] at h;simpa using ih cs h.2
      have pt:∀(k:Nat) (cs:List AV),aG cs=true->aG (cs.take k)=true:=by
       intro k
       induction k with
       | zero=>intro cs h;simp [aG]
       | succ k ih=>intro cs h;cases cs with
        | nil=>simp [aG]
        | cons c cs=>simp only [aG,yg,wD] at h ⊢;exact ⟨h.1,ih cs h.2⟩
      exact pt _ _ (pd _ _ iN)
     have ajQ:(ex&&yv g n)=true->c-l=g-l:=by
      intro hq;simp only [yg] at hq
      have:=hex hq.1
      have:=yp hq.2
      omega
     simp only [ah];by_cases fZ:c=l
     ·have h0:g-l=0:=by omega
      have Aj:slice (l*sz) ((g-l)*sz) cs=[]:=by simp [slice,h0]
      rw [Aj];exact .inl ⟨b,o,c-l,by simp [fZ],by omega,ajQ,.inl rfl,rfl,by simp [bU]⟩
     ·refine .inl ⟨b,o+l*sz,c-l,by simp [fZ,nU],by omega,ajQ,?_,Da,?_⟩
      ·rcases hS with rfl | hS
       ·exact .inl (by simp [slice])
       ·exact .inr hS
      ·exact AJ _ _ _ _ (qw _ _ _ _ DH)
 case ao id o n=>
  simp only [ah] at hx;obtain ⟨p,c,hm,rfl,KG,PK⟩:=hx
  split at h
  case h_2=>cases h
  rename_i Zl pu0 sG z0 cs0 Db;obtain ⟨p',arr,t',hZ,_,gC,_⟩:=hh.obj id _ _ Db hm;rw [hm] at hZ;injection hZ with hZ
  subst hZ
  cases hl:dc tm 0 (lo.map (aQ H)) with
  | none=>simp [hl] at h
  | some l=>
   simp only [hl] at h
   cases hh:dc tm n (hi.map (aQ H)) with
   | none=>simp [hh] at h
   | some g=>
    simp only [hh] at h
    cases hc:(yF l g&&yF g n&&yv z0 sz) with
    | false=>rw [hc] at h;cases h
    | true=>
     rw [hc] at h;simp only [yA] at h;simp only [yg] at hc;have h1:=yy hc.1.1;have h2:=yy hc.1.2;have hpz:p.z=sz:=gC.trans (yp hc.2)
     cases he:(yv l g&& !yv l 0) with
     | true=>
      rw [he] at h;simp only [yA,yd] at h;subst h;simp only [yg] at he;have Ak:=yp he.1;refine ⟨_,IA (some ⟨p.b,p.o+o,none⟩) n c l g hl hh h1 (by omega),?_⟩;simp only [ah];by_cases fZ:c=l
      ·exact .inl ⟨p.b,p.o+o,c-l,by simp [fZ];omega,by omega,by simp,by simp,by simp [aG],by simp [bU]⟩
      ·exact .inl ⟨p.b,p.o+o+l*sz,c-l,by simp [fZ,nU];omega,by omega,by simp,by simp,by simp [aG],by simp [bU]⟩
     | false=>
      rw [he] at h;simp only [yT,yd] at h;subst h;have fZ:c=l->l=0:=by
       intro fZ;have Ak:l=g:=by omega
       cases kz:yv l 0 with
       | true=>exact yp kz
       | false=>rw [Ak,Nat.beq_refl,<-Ak,kz] at he;cases he
      refine ⟨_,IA (some ⟨p.b,p.o+o,none⟩) n c l g hl hh h1 (by omega),?_⟩;simp only [ah];refine ⟨p,c-l,hm,?_,by omega,?_⟩
      ·by_cases TO:c=l
       ·have:=fZ TO;subst this;subst TO;simp
       ·simp [TO,nU,uW]
      ·rw [hpz] at PK ⊢
       have:c*sz=l*sz+(c-l)*sz:=by rw [<-wJ];congr 1;omega
       omega
end
end
section
open Go
def nM {P:y5} {w:yi} {t:yC} {sz:Nat} (hz:cF P t=some sz):(vK t).run P w= .ok sz w:=by
 unfold cF at hz
 cases hi:P.info? t with
 | none=>simp [hi] at hz
 | some i=>simp_all [vK,typeInfo]
section
variable {O:bl} {H:Hint} {m:Mp} {S:Nat->Prop} {w:yi} {tm:Env} {a:Act} {hp:Hp} {ct:Nat}
def RG {id o n:Nat} {rw pu ex:Bool} {sz:Nat} {cs:List AV} {p:Pl} (hh:aU O m S w hp ct) (hg:au hp id=some (.cells rw pu ex sz cs)) (hm:m id=some p):
  bU O.af m S w cs p.b p.o:=by
 obtain ⟨p',arr,t',hZ,_,_,_,_,_,hr,_⟩:=hh.obj id _ _ hg hm
 grind
def azL {t:yC} {sz:Nat} {ag:Bool} {vx v:AV} {x:yh} (hh:aU O m S w hp ct) (hz:cF O.P t=some sz) (ha:dT O.P t=some ag) (hx:ah O.af m S w vx x)
  (h:jc hp sz ag vx=some v):∃u,(Instr.loadAt t x).run O.P w= .ok u w/\ah O.af m S w v u:=by
 cases vx<;>simp only [jc,reduceCtorEq] at h
 case ptr id o=>
  obtain ⟨p,hm,rfl⟩:=hx
  split at h
  case h_2=>cases h
  rename_i Zl pu0 sG z0 cs0 Db;have hr:=RG (id:=id) (o:=0) (n:=0) hh Db hm;obtain ⟨u,h1,h2⟩:=MP hz ha (qw o cs0 p.b p.o hr) h;exact ⟨u,by simp only [Instr.loadAt,Instr.sureAddr,Sem.run_bind,Sem.run_pure,Result.andThen_ok];exact h1,h2⟩
 case b6 cs=>
  obtain ⟨b,o,rfl,_,_,hr⟩:=hx;obtain ⟨u,h1,h2⟩:=MP hz ha hr h;exact ⟨u,by simp only [Instr.loadAt,Instr.sureAddr,Sem.run_bind,Sem.run_pure,Result.andThen_ok];exact h1,h2⟩
def zc:∀(k:Nat) (cs:List AV),aG cs=true->aG (cs.drop k)=true
 | 0,cs,h=>by simpa using h
 | k+1,[],h=>by simpa using h
 | k+1,c::cs,h=>by simp only [aG,yg] at h;simpa using zc k cs h.2
def Q9 {cs:List AV} {b o k:Nat} (h2:cs=[]\/S b) (h3:aG cs=true) (h4:bU O.af m S w cs b o):ah O.af m S w (.b6 (cs.drop k)) (.pointer (some ⟨b,o+k,none⟩)):=by
 refine ⟨b,o+k,rfl,?_,zc k cs h3,qw k cs b o h4⟩
 grind
def avQ {t:yC} {fs:Array uM} {i:Nat} {f:uM} {sz:Nat} {vx v:AV} {x:yh} (hu:O.P.underlying t=some (.struct fs)) (hf:fs[i]? =some f) (hz:cF O.P f.type=some (sz+1))
  (hx:ah O.af m S w vx x)
  (h:I8 f.offset vx=some v):∃u,(Instr.fieldAt t x i).run O.P w= .ok u w/\ah O.af m S w v u:=by
 have ai1:∀(b o:Nat),(Instr.fieldAt t (.pointer (some ⟨b,o,none⟩)) i).run O.P w= .ok (.pointer (some ⟨b,o+f.offset,none⟩)) w:=by
  intro b o;simp only [Instr.fieldAt,Sem.run_bind,run_underlying hu,Result.andThen_ok,hf,Instr.sureAddr,Sem.run_pure,fieldPlace,nM hz,Nat.succ_ne_zero,xg,nU]
 cases vx<;>simp only [I8,reduceCtorEq] at h
 case ptr id o=>
  obtain ⟨p,hm,rfl⟩:=hx;simp only [yd] at h;subst h;exact ⟨_,ai1 _ _,by simp only [ah];exact ⟨p,hm,by rw [uW]⟩⟩
 case b6 cs=>
  obtain ⟨b,o,rfl,h2,h3,h4⟩:=hx
  cases hc:yF f.offset cs.length with
  | false=>rw [hc] at h;cases h
  | true=>
   rw [hc] at h;simp only [yA,yd] at h;subst h;exact ⟨_,ai1 _ _,Q9 h2 h3 h4⟩
def avR {t:yC} {fs:Array uM} {i:Nat} {f:uM} {sz:Nat} {ag:Bool} {vx v:AV} {x:yh} (hu:O.P.underlying t=some (.struct fs)) (hf:fs[i]? =some f)
  (hz:cF O.P f.type=some sz) (ha:dT O.P f.type=some ag) (hx:ah O.af m S w vx x)
  (h:Nx f.offset sz ag vx=some v):∃u,(Instr.field t x i).run O.P w= .ok u w/\ah O.af m S w v u:=by
 cases vx<;>simp only [Nx,reduceCtorEq] at h
 obtain ⟨xs,rfl,hr⟩:=hx;obtain ⟨u,h1,h2⟩:=aeq hz ha hr h;exact ⟨u,by simp only [Instr.field,Sem.run_bind,run_underlying hu,Result.andThen_ok,hf,asAgg,Sem.run_pure];exact h1,h2⟩
def avS {t e:yC} {sz k:Nat} {vx vi v:AV} {x i:yh} (hu:O.P.underlying t=some (.slice e)) (hz:cF O.P e=some sz) (hx:ah O.af m S w vx x) (hi:ah O.af m S w vi i)
  (hk:dE vi=some k)
  (h:jG sz k vx=some v):∃u,(Instr.indexAt t x i).run O.P w= .ok u w/\ah O.af m S w v u:=by
 obtain ⟨kd,rfl⟩:=zn hi hk;have Jd:∀(b o n c:Nat),k<n->(Instr.indexAt t (.slice (some ⟨b,o,none⟩) n c) (.int kd (k:Int))).run O.P w= .ok (.pointer (some ⟨b,o+k*sz,none⟩)) w:=by
  intro b o n c qZ;have hr:(0:Int)<=(k:Int)/\(k:Int)<(n:Int):=by omega
  simp [Instr.indexAt,asIntOf,run_underlying hu,nM hz,hr,nU]
  grind
 cases vx<;>simp only [jG,reduceCtorEq] at h
 case ao id o n=>
  obtain ⟨p,c,hm,rfl,KG,PK⟩:=hx
  cases hc:yQ k n with
  | false=>rw [hc] at h;cases h
  | true=>
   rw [hc] at h;simp only [yA,yd] at h;subst h;have qZ:k<n:=by simp_all
   exact ⟨_,Jd _ _ _ _ qZ,by simp only [ah];exact ⟨p,hm,by rw [uW]⟩⟩
 case aw ex n cs=>
  rcases hx with ⟨b,o,c,rfl,KG,hex,h2,h3,h4⟩ | ⟨a,rfl,rfl,rfl⟩
  case inr=>
   have:yQ k 0=false:=by cases hq:yQ k 0 with | false=>rfl | true=>simp only [yQ,ybU] at hq;omega
   grind
  cases hc:yQ k n with
  | false=>rw [hc] at h;cases h
  | true=>
   rw [hc] at h;simp only [yA,yd] at h;subst h;have qZ:k<n:=by simp_all
   exact ⟨_,Jd _ _ _ _ qZ,Q9 h2 h3 h4⟩
def avT {t e:yC} {len sz k:Nat} {vx vi v:AV} {x i:yh} (hu:O.P.underlying t=some (.array len e)) (hz:cF O.P e=some sz) (hx:ah O.af m S w vx x) (hi:ah O.af m S w vi i)
  (hk:dE vi=some k)
  (h:Ny len sz k vx=some v):∃u,(Instr.indexAt t x i).run O.P w= .ok u w/\ah O.af m S w v u:=by
 obtain ⟨kd,rfl⟩:=zn hi hk;have Jd:∀(b o:Nat),k<len->(Instr.indexAt t (.pointer (some ⟨b,o,none⟩)) (.int kd (k:Int))).run O.P w= .ok (.pointer (some ⟨b,o+k*sz,none⟩)) w:=by
  intro b o qZ;have hr:(0:Int)<=(k:Int)/\(k:Int)<(len:Int):=by omega
  simp [Instr.indexAt,asIntOf,run_underlying hu,nM hz,hr,nU,Instr.sureAddr]
  grind
 cases vx<;>simp only [Ny,reduceCtorEq] at h
 case ptr id o=>
  obtain ⟨p,hm,rfl⟩:=hx
  cases hc:yQ k len with
  | false=>rw [hc] at h;cases h
  | true=>
   rw [hc] at h;simp only [yA,yd] at h;subst h;have qZ:k<len:=by simp_all
   exact ⟨_,Jd _ _ qZ,by simp only [ah];exact ⟨p,hm,by rw [uW]⟩⟩
 case b6 cs=>
  obtain ⟨b,o,rfl,h2,h3,h4⟩:=hx
  cases hc:yQ k len with
  | false=>rw [hc] at h;cases h
  | true=>
   rw [hc] at h;simp only [yA,yd] at h;subst h;have qZ:k<len:=by simp_all
   exact ⟨_,Jd _ _ qZ,Q9 h2 h3 h4⟩
def avU {t e:yC} {len sz k:Nat} {ag:Bool} {vx vi v:AV} {x i:yh} (hu:O.P.underlying t=some (.array len e)) (hz:cF O.P e=some sz) (ha:dT O.P e=some ag)
  (hx:ah O.af m S w vx x) (hi:ah O.af m S w vi i) (hk:dE vi=some k)
  (h:Nz len sz ag k vx=some v):
  ∃u,(Instr.index t x i).run O.P w= .ok u w/\ah O.af m S w v u:=by
 obtain ⟨kd,rfl⟩:=zn hi hk;cases vx<;>simp only [Nz,reduceCtorEq] at h
 obtain ⟨xs,rfl,hr⟩:=hx
 cases hc:yQ k len with
 | false=>rw [hc] at h;cases h
 | true=>
  rw [hc] at h;have qZ:k<len:=by simp_all
  obtain ⟨u,h1,h2⟩:=aeq hz ha hr h;have bP:(0:Int)<=(k:Int)/\(k:Int)<(len:Int):=by omega
  exact ⟨u,by simp [Instr.index,asIntOf,run_underlying hu,nM hz,bP,h1];intro hle;exact absurd hle (by omega),h2⟩
def avV {t:yC} {k:Nat} {vx vi v:AV} {x i:yh} (hu:O.P.underlying t=some .string) (hx:ah O.af m S w vx x) (hi:ah O.af m S w vi i) (hk:dE vi=some k)
  (h:mT k vx=some v):
  ∃u,(Instr.index t x i).run O.P w= .ok u w/\ah O.af m S w v u:=by
 obtain ⟨kd,rfl⟩:=zn hi hk;cases vx<;>simp only [mT,reduceCtorEq] at h
 obtain ⟨b,rfl,rfl⟩:=hx
 cases hs:(b.data.toList.map xc)[k]? with
 | none=>rw [hs] at h;cases h
 | some q=>
  rw [hs] at h;simp only [yd] at h;subst h;rw [List.getElem?_map] at hs
  cases hb:b.data.toList[k]? with
  | none=>rw [hb] at hs;cases hs
  | some c=>
   rw [hb] at hs;simp only [wM,yd] at hs;subst hs;have cw:b[k]? =some c:=by
    have aW:k<b.data.toList.length:=by
     grind
    have eT:k<b.size:=by simp_all
    rw [getElem?_pos b k eT];rw [xM aW] at hb;rw [<-hb];rfl
   refine ⟨.int .u8 c.toNat,?_,by simp [ah]⟩;simp [Instr.index,asIntOf,run_underlying hu,cw]
end
end
section
open Go
section
variable {af:Nat->Nat} {m:Mp} {S:Nat->Prop} {w:yi}
def Rc:∀{v:AV} {u:yh},ah af m S w v u->cp (cellsOf v)=true->ay af m S w (cellsOf v) u.cells.toList:=by
 intro v u h h1;cases v
 case agg cs=>
  simp only [ah] at h;obtain ⟨xs,rfl,hr⟩:=h;exact hr
 case ae vs=>simp [cellsOf,cp,dt] at h1
 case undef=>simp [cellsOf,cp,dt] at h1
 case bn=>simp [cellsOf,cp,dt] at h1
 case fn f a b=>
  cases f with
  | f g=>have h':=h;simp only [ah] at h';obtain ⟨fi,ca,rfl,_⟩:=h';simp only [cellsOf,Value.cells,ay];exact ⟨_,_,rfl,h,rfl⟩
  | y l=>have h':=h;simp only [ah] at h';obtain ⟨p,_,rfl⟩:=h';simp only [cellsOf,Value.cells,ay];exact ⟨_,_,rfl,h,rfl⟩
 case str s=>have h':=h;simp only [ah] at h';obtain ⟨b,rfl,_⟩:=h';simp only [cellsOf,Value.cells,ay];exact ⟨_,_,rfl,h,rfl⟩
 case ptr id o=>have h':=h;simp only [ah] at h';obtain ⟨b,_,rfl⟩:=h';simp only [cellsOf,Value.cells,ay];exact ⟨_,_,rfl,h,rfl⟩
 case b6 cs=>have h':=h;simp only [ah] at h';obtain ⟨b,o,rfl,_⟩:=h';simp only [cellsOf,Value.cells,ay];exact ⟨_,_,rfl,h,rfl⟩
 case aw e n cs=>have h':=h;simp only [ah] at h';rcases h' with ⟨b,o,c,rfl,_⟩ | ⟨a,rfl,_,_⟩<;>(simp only [cellsOf,Value.cells,ay];exact ⟨_,_,rfl,h,rfl⟩)
 case ao id o n=>have h':=h;simp only [ah] at h';obtain ⟨p,c,_,rfl,_⟩:=h';simp only [cellsOf,Value.cells,ay];exact ⟨_,_,rfl,h,rfl⟩
 case map id=>have h':=h;simp only [ah] at h';obtain ⟨p,_,rfl⟩:=h';simp only [cellsOf,Value.cells,ay];exact ⟨_,_,rfl,h,rfl⟩
 case jy ks vs=>have h':=h;simp only [ah] at h';obtain ⟨b,es,cl,rfl,_⟩:=h';simp only [cellsOf,Value.cells,ay];exact ⟨_,_,rfl,h,rfl⟩
 case it id=>have h':=h;simp only [ah] at h';obtain ⟨p,_,rfl⟩:=h';simp only [cellsOf,Value.cells,ay];exact ⟨_,_,rfl,h,rfl⟩
 all_goals
  have h':=h;simp only [ah] at h';subst h';simp only [cellsOf,Value.cells,ay];exact ⟨_,_,rfl,h,rfl⟩
def Cp (v:yh):ay af m S w (cellsOf (eK v)) v.cells.toList:=by
 have h:=MO (af:=af) (m:=m) (S:=S) (w:=w) v;cases v
 case agg xs=>
  obtain ⟨l⟩:=xs;simp only [eK,ah] at h ⊢;obtain ⟨xs,e,hr⟩:=h;injection e with e
  subst e;exact hr
 case tuple xs=>obtain ⟨l⟩:=xs;simp only [eK] at h ⊢;simp only [cellsOf,Value.cells,ay];exact ⟨_,_,rfl,h,rfl⟩
 case pointer p=>cases p<;>(simp only [eK] at h ⊢;simp only [cellsOf,Value.cells,ay];exact ⟨_,_,rfl,h,rfl⟩)
 case map p=>cases p<;>(simp only [eK] at h ⊢;simp only [cellsOf,Value.cells,ay];exact ⟨_,_,rfl,h,rfl⟩)
 case slice p n c=>
  cases p
  ·cases n
   ·cases c<;>(simp only [eK] at h ⊢;simp only [cellsOf,Value.cells,ay];exact ⟨_,_,rfl,h,rfl⟩)
   ·simp only [eK] at h ⊢;simp only [cellsOf,Value.cells,ay];exact ⟨_,_,rfl,h,rfl⟩
  ·simp only [eK] at h ⊢;simp only [cellsOf,Value.cells,ay];exact ⟨_,_,rfl,h,rfl⟩
 all_goals (simp only [eK] at h ⊢;simp only [cellsOf,Value.cells,ay];exact ⟨_,_,rfl,h,rfl⟩)
def lj:∀{a b:List AV} {x y:List yh},ay af m S w a x->ay af m S w b y->ay af m S w (a++b) (x++y)
 | [],b,x,y,h,k=>by simp only [ay] at h;subst h;simpa using k
 | c::a,b,x,y,h,k=>by
  simp only [ay] at h;obtain ⟨u,r,rfl,h2,h3⟩:=h;simp only [xk,ay];exact ⟨u,r++y,rfl,h2,lj h3 k⟩
def HZ:∀(k:Nat) {cs:List AV} {us:List yh},ay af m S w cs us->ay af m S w (cs.drop k) (us.drop k)
 | 0,cs,us,h=>by simpa using h
 | k+1,[],us,h=>by simp only [ay] at h;subst h;simp [ay]
 | k+1,c::cs,us,h=>by simp only [ay] at h;obtain ⟨u,r,rfl,_,h3⟩:=h;simpa using HZ k h3
def Eo:∀(k:Nat) {cs:List AV} {us:List yh},ay af m S w cs us->ay af m S w (cs.take k) (us.take k)
 | 0,cs,us,h=>by simp [ay]
 | k+1,[],us,h=>by simp only [ay] at h;subst h;simp [ay]
 | k+1,c::cs,us,h=>by
  simp only [ay] at h;obtain ⟨u,r,rfl,h2,h3⟩:=h;simp only [wD,ay];exact ⟨u,_,rfl,h2,Eo k h3⟩
def RH:∀{cs:List AV} {us:List yh} {i:Nat} {v:AV},ay af m S w cs us->cs[i]? =some v->∃u,us[i]? =some u/\ah af m S w v u
 | [],us,i,v,_,h=>by simp at h
 | c::cs,us,0,v,h,e=>by
  simp only [ay] at h;obtain ⟨u,r,rfl,h2,h3⟩:=h;simp at e;subst e;exact ⟨u,rfl,h2⟩
 | c::cs,us,i+1,v,h,e=>by
  simp only [ay] at h;obtain ⟨u,r,rfl,h2,h3⟩:=h;simp at e;simpa using RH h3 e
end
def ace (off:Nat):∀(new:List yh) (j:Nat) (cells:Array yh),off+j+new.length<=cells.size->
  ((new.zipIdx j).foldl (fun (cs:Array yh) (p:yh×Nat)=>cs.setIfInBounds (off+p.2) p.1) cells).toList=
   cells.toList.take (off+j)++new++cells.toList.drop (off+j+new.length)
 | [],j,cells,_=>by simp
 | v::r,j,cells,h=>by
  simp only [yz] at h;have ih:=ace off r (j+1) (cells.setIfInBounds (off+j) v) (by simp;omega);simp only [List.zipIdx_cons,List.foldl_cons];rw [ih];have aW:off+j<cells.toList.length:=by simp;omega
  have h1:(cells.setIfInBounds (off+j) v).toList=cells.toList.set (off+j) v:=by simp
  rw [h1,show off+(j+1)=off+j+1 by omega];have h2:(cells.toList.set (off+j) v).take (off+j+1)=cells.toList.take (off+j)++[v]:=by
   rw [List.take_succ_eq_append_getElem (by simpa using aW)];simp [List.take_set_of_le]
  have h3:(cells.toList.set (off+j) v).drop (off+j+1+r.length)=cells.toList.drop (off+j+(r.length+1)):=by
   rw [List.drop_set_of_lt (by omega)];congr 1;omega
  rw [h2,h3]
  simp
section
variable {O:bl} {H:Hint} {m:Mp} {S:Nat->Prop} {w:yi} {tm:Env} {a:Act}
def MQ (hH:fw O H) (ht:b8 O m S w tm a.tmps) {place:Nat->Option (Nat×Nat)}:∀(parts:List (Nat×xu)) (ps:List (Nat×Nat×X)) (zero cs:List AV) (cells:Array yh),
  partsOf H place parts=some ps->ay O.af m S w zero cells.toList->fill tm zero ps=some cs->
  ∃out,Instr.fill place cells (parts.map fun p=>(p.1,a.eval p.2))=some out/\ay O.af m S w cs out.toList
 | [],ps,zero,cs,cells,hp,hz,hf=>by
  simp only [partsOf,yd] at hp;subst hp;simp only [fill,yd] at hf;subst hf;exact ⟨cells,rfl,hz⟩
 | (i,x)::r,ps,zero,cs,cells,hp,hz,hf=>by
  simp only [partsOf] at hp
  cases dP:place i with
  | none=>simp [dP] at hp
  | some q=>
   obtain ⟨o,s⟩:=q;simp only [dP] at hp
   cases eU:partsOf H place r with
   | none=>simp [eU] at hp
   | some l=>
    simp only [eU,yd] at hp;subst hp;simp only [fill] at hf
    cases hc:(yv (cellsOf (aA tm (aQ H x))).length s&&yF (o+s) zero.length&&cp (cellsOf (aA tm (aQ H x)))) with
    | false=>rw [hc] at hf;cases hf
    | true=>
     rw [hc] at hf;simp only [yA] at hf;simp only [yg] at hc;have hs:=yp hc.1.1;have hle:=yy hc.1.2;have hrx:=Rc (cy hH ht x) hc.2;have ns:=gU _ _ hrx;have oE:=gU _ _ hz;have eT:(a.eval x).cells.size=s:=by rw [<-hs,<-ns];simp
     have pV:cells.size=zero.length:=by rw [<-oE];simp
     have azM:=ace o (a.eval x).cells.toList 0 cells (by simp;omega);have gC:ay O.af m S w (over o (cellsOf (aA tm (aQ H x))) zero)
       ((a.eval x).cells.zipIdx.foldl (fun (cs:Array yh) (p:yh×Nat)=>cs.setIfInBounds (o+p.2) p.1) cells).toList:=by
      rw [<-Array.foldl_toList,Array.toList_zipIdx,azM];simp only [over,Nat.add_zero];rw [show (a.eval x).cells.toList.length=(cellsOf (aA tm (aQ H x))).length from ns];exact lj (lj (Eo o hz) hrx) (HZ _ hz)
     obtain ⟨out,h1,h2⟩:=MQ hH ht r l _ cs _ eU gC hf;refine ⟨out,?_,h2⟩;simp only [xa,Instr.fill,dP,eT];rw [yx (by simp;omega)];exact h1
end
end
section
open Go
def acf (p q:ByteArray):(p==q)=cY (mh p) (mh q):=by
 have h:(p==q)=(p.data==q.data):=by cases p;cases q;rfl
 rw [h,aca,ByteArray.toList_eq,ByteArray.toList_eq];rw [uB,yav,yav];constructor
 ·intro e;rw [e]
 ·intro e;have:=congrArg List.toArray e;simpa using this
def NU:vI->Bool
 | .bool | .int _ | .string=>true
 | _=>false
def fits (d:vI) (v:AV):Bool:=
 match d,v with
 | .int _,.int _ _ | .string,.str _ | .bool,.bool _=>true
 | _,_=>false
def Found (af:Nat->Nat) (m:Mp) (S:Nat->Prop) (w:yi) (f:Option (Option (Nat×yh))):Option AV->Prop
 | none=>f=some none
 | some v=>∃j u,f=some (some (j,u))/\ah af m S w v u
section
variable {O:bl} {af:Nat->Nat} {m:Mp} {S:Nat->Prop} {w:yi}
def adi {vk vk':AV} {k k':yh} {r:Bool} {d:vI} (hk:ah af m S w vk k) (nt:ah af m S w vk' k') (h:E6 vk vk'=some r)
  (hd:fits d vk=true):Instr.sameNow d k k'=some r:=by
 unfold E6 at h
 split at h
 ·rename_i j x j' y;simp only [ah] at hk nt;subst hk;subst nt;by_cases hj:j=j'
  ·simp only [hj,xE,yd] at h;subst hj;cases d<;>simp [fits] at hd
   simpa [Instr.sameNow] using h
  ·simp [hj] at h
 ·simp only [ah] at hk nt;obtain ⟨s,rfl,rfl⟩:=hk;obtain ⟨s',rfl,rfl⟩:=nt;simp only [yd] at h;cases d<;>simp [fits] at hd
  simp only [Instr.sameNow,acf];rw [<-h];rfl
 ·simp only [ah] at hk nt;subst hk;subst nt;simp only [yd] at h;cases d<;>simp [fits] at hd
  simp [Instr.sameNow,h]
 ·cases h
def RI {vk:AV} {k:yh} {d:vI} (hk:ah af m S w vk k)
  (hd:fits d vk=true):∀(ks vs:List AV) (es:List uS) (i:Nat) (r:Option AV),
  ay af m S w ks (es.map (·.key))->ay af m S w vs (es.map (·.val))->C7 vk ks vs=some r->Found af m S w (Instr.findNow d k es i) r
 | [],vs,es,i,r,h1,h2,h=>by
  simp only [ay,List.map_eq_nil_iff] at h1;subst h1;simp only [C7,yd] at h;subst h;rfl
 | c::ks,[],es,i,r,h1,h2,h=>by simp only [C7] at h;cases h
 | c::ks,v::vs,es,i,r,h1,h2,h=>by
  cases es with
  | nil=>simp [ay] at h1
  | cons e es=>
   simp only [xa,ay,List.cons.injEq] at h1 h2;obtain ⟨u,t,⟨rfl,rfl⟩,hc,PL⟩:=h1;obtain ⟨u',t',⟨rfl,rfl⟩,hv,Al⟩:=h2;simp only [C7] at h
   cases mE:E6 vk c with
   | none=>simp [mE] at h
   | some b=>
    have hs:=adi (d:=d) hk hc mE hd
    cases b with
    | true=>
     simp only [mE,yd] at h;subst h;exact ⟨i,e.val,by simp [Instr.findNow,hs],hv⟩
    | false=>
     simp only [mE] at h;have ih:=RI hk hd ks vs es (i+1) r PL Al h;simpa [Instr.findNow,hs] using ih
def LH {P:y5} {kt:yC} {d:vI} (hu:P.underlying kt=some d) (hd:NU d=true) (b:Bool) (k:yh):(Instr.checkKey b 10000 kt k).run P w= .ok () w:=by
 have:∀n,(Instr.checkKey b (n+1) kt k).run P w= .ok () w:=by
  intro n;cases d<;>simp [NU] at hd<;>simp [Instr.checkKey,run_underlying hu]
 exact this 9999
def avW {t kt e:yC} {d:vI} {ok:Bool} {hp:Hp} {ct:Nat} {vx vk v:AV} {x k zero:yh} (hh:aU O m S w hp ct) (hu:O.P.underlying t=some (.map kt e)) (hk:O.P.underlying kt=some d) (hd:NU d=true)
  (hdk:fits d vk=true)
  (hz:(zeroValue e).run O.P w= .ok zero w) (hx:ah O.af m S w vx x) (Ge:ah O.af m S w vk k) {z:AV} (Zm:ah O.af m S w z zero)
  {r:Option AV}
  (hr:Be hp vk vx=some r)
  (hv:(match r with | some u=>(bif ok then AV.ae [u,.bool true] else u) | none=>(bif ok then AV.ae [z,.bool false] else z))=v):
  ∃u,(Instr.lookup t x k ok).run O.P w= .ok u w/\ah O.af m S w v u:=by
 have fin:∀(u:AV) (uu:yh) (b:Bool),ah O.af m S w u uu->ah O.af m S w (bif ok then AV.ae [u,.bool b] else u) (if ok then .tuple #[uu,.bool b] else uu):=by
  intro u uu b h
  cases ok with
  | true=>simp only [yA,xE,ah,ay];exact ⟨_,rfl,_,_,rfl,h,_,_,rfl,rfl,rfl⟩
  | false=>simpa using h
 have body:∀(x':yh) (es:Array uS),((x'= .map none/\es=#[])\/∃b clock,x'= .map (some b)/\w.heap[b]? =some (.map es clock))->Found O.af m S w (Instr.findNow d k es.toList 0) r->
   ∃u,(Instr.lookup t x' k ok).run O.P w= .ok u w/\ah O.af m S w v u:=by
  intro x' es hl hf
  cases r with
  | none=>
   have BR:Instr.findNow d k es.toList 0=some none:=hf;refine ⟨if ok then .tuple #[zero,.bool false] else zero,?_,by rw [<-hv];exact fin z zero false Zm⟩
   rcases hl with ⟨rfl,rfl⟩ | ⟨b,clock,rfl,hb⟩
   ·have TP:Instr.findNow d k [] 0=some none:=rfl;simp [Instr.lookup,run_underlying hu,LH hk hd,Instr.findKey,run_underlying hk,TP,hz]
   ·simp [Instr.lookup,run_underlying hu,getObj,Sem.run,hb,LH hk hd,Instr.findKey,run_underlying hk,BR,hz]
  | some v'=>
   obtain ⟨j,u,h1,h2⟩:=hf;refine ⟨if ok then .tuple #[u,.bool true] else u,?_,by rw [<-hv];exact fin v' u true h2⟩
   rcases hl with ⟨rfl,rfl⟩ | ⟨b,clock,rfl,hb⟩
   ·have TP:Instr.findNow d k [] 0=some none:=rfl;rw [show (#[]:Array uS).toList=[] from rfl,TP] at h1;cases h1
   ·simp [Instr.lookup,run_underlying hu,getObj,Sem.run,hb,LH hk hd,Instr.findKey,run_underlying hk,h1]
 cases vx<;>simp only [Be,reduceCtorEq] at hr
 case km=>
  simp only [yd] at hr;subst hr;simp only [ah] at hx;subst hx;exact body _ #[] (.inl ⟨rfl,rfl⟩) rfl
 case map id=>
  simp only [ah] at hx;obtain ⟨p,hm,rfl⟩:=hx
  split at hr
  case h_2=>cases hr
  rename_i Zl ks vs Db;obtain ⟨p',es,clock,hZ,hb,h1,h2,_⟩:=hh.obj id _ _ Db hm;rw [hm] at hZ;injection hZ with hZ;subst hZ
  exact body _ es (.inr ⟨_,_,rfl,hb⟩) (RI Ge hdk ks vs es.toList 0 r h1 h2 hr)
 case jy ks vs=>
  simp only [ah] at hx;obtain ⟨b,es,clock,rfl,_,_,_,hb,h1,h2⟩:=hx;exact body _ es (.inr ⟨_,_,rfl,hb⟩) (RI Ge hdk ks vs es.toList 0 r h1 h2 hr)
end
end
section
open Go
def HN:∀(k1 k2:List Nat) (a b:List AV) (r:Bool),eA (k1++k2) a b=some r->
  ∃r1 r2,eA k1 (a.take k1.length) (b.take k1.length)=some r1/\eA k2 (a.drop k1.length) (b.drop k1.length)=some r2/\r=(r1&&r2)
 | [],k2,a,b,r,h=>⟨true,r,by simp [eA],by simpa using h,by simp⟩
 | k::k1,k2,[],b,r,h=>by
  simp only [xk] at h;unfold eA at h
  grind
 | k::k1,k2,x::a,[],r,h=>by
  unfold eA at h
  grind
 | k::k1,k2,x::a,y::b,r,h=>by
  have step:∀(q:Bool) (f:Bool->Bool),(match eA (k1++k2) a b with | some r=>some (f r) | none=>none)=some q->∃r0,eA (k1++k2) a b=some r0/\q=f r0:=by grind
  unfold eA at h
  split at h
  ·grind
  ·rename_i e1 e2 e3;obtain ⟨rfl,rfl⟩:=e1;obtain ⟨rfl,rfl⟩:=e2;obtain ⟨rfl,rfl⟩:=e3;obtain ⟨r0,h0,rfl⟩:=step r _ h;obtain ⟨r1,r2,h1,h2,rfl⟩:=HN k1 k2 _ _ r0 h0;exact ⟨_,r2,by simp only [yz,wD,eA,h1],by simpa using h2,(tE _ _ _).symm⟩
  ·rename_i e1 e2 e3;obtain ⟨rfl,rfl⟩:=e1;obtain ⟨rfl,rfl⟩:=e2;obtain ⟨rfl,rfl⟩:=e3
   split at h
   ·rename_i hk;obtain ⟨r0,h0,rfl⟩:=step r _ h;obtain ⟨r1,r2,h1,h2,rfl⟩:=HN k1 k2 _ _ r0 h0;exact ⟨_,r2,by simp only [yz,wD,eA,h1,hk,xE],by simpa using h2,(tE _ _ _).symm⟩
   ·cases h
  ·rename_i e1 e2 e3;obtain ⟨rfl,rfl⟩:=e1;obtain ⟨rfl,rfl⟩:=e2;obtain ⟨rfl,rfl⟩:=e3;obtain ⟨r0,h0,rfl⟩:=step r _ h;obtain ⟨r1,r2,h1,h2,rfl⟩:=HN k1 k2 _ _ r0 h0;exact ⟨_,r2,by simp only [yz,wD,eA,h1],by simpa using h2,(tE _ _ _).symm⟩
  ·cases h
def aa9:∀(ks:List Nat) (a b:List AV) (r:Bool),eA ks a b=some r->a.length=ks.length/\b.length=ks.length
 | [],a,b,r,h=>by
  unfold eA at h
  grind
 | k::ks,[],b,r,h=>by
  unfold eA at h
  grind
 | k::ks,x::a,[],r,h=>by
  unfold eA at h
  grind
 | k::ks,x::a,y::b,r,h=>by
  have:∃r0,eA ks a b=some r0:=by
   cases he:eA ks a b with
   | some r0=>exact ⟨r0,rfl⟩
   | none=>unfold eA at h;split at h<;>simp_all
  obtain ⟨r0,h0⟩:=this
  have:=aa9 ks a b r0 h0
  simp [this]
def Gf (P:y5) (t:yC) (x:yh) (xs:List yh):Prop:=(dT P t=some true/\x= .agg xs.toArray)\/(dT P t=some false/\xs=[x])
section
variable {P:y5} {af:Nat->Nat} {m:Mp} {S:Nat->Prop} {w:yi}
def QW {t:yC} {ag:Bool} (ha:dT P t=some ag):(isAgg t).run P w= .ok ag w:=by
 unfold dT at ha
 cases hu:P.underlying t with
 | none=>simp [hu] at ha
 | some d=>cases d<;>simp_all [isAgg,underlying]
def arn {t:yC} {s o:Nat} {xs:List yh} (hz:cF P t=some s) (ha:∃ag,dT P t=some ag) (h1:dT P t=some false->s=1) (hl:o+s<=xs.length):
  ∃u,(part t xs.toArray o).run P w= .ok u w/\Gf P t u ((xs.drop o).take s):=by
 obtain ⟨ag,ha⟩:=ha
 cases ag with
 | true=>
  refine ⟨.agg ((xs.drop o).take s).toArray,?_,.inl ⟨ha,rfl⟩⟩;simp [part,QW ha,nM hz,tJ]
 | false=>
  have hs:=h1 ha;subst hs;have aW:o<xs.length:=by omega
  refine ⟨xs[o],?_,.inr ⟨ha,?_⟩⟩
  ·simp [part,QW ha,xM aW]
  ·rw [List.drop_eq_getElem_cons aW,wD,yah]
def apG {n:Nat} {t:yC} {ks:List Nat} (h:kinds P n t=some ks):∃ag,dT P t=some ag/\(ag=false->ks.length=1):=by
 cases n with
 | zero=>simp [kinds] at h
 | succ n=>
  unfold kinds at h;unfold dT
  split at h<;>simp_all
  all_goals (rw [<-h];rfl)
def Tp (P:y5) (af:Nat->Nat) (m:Mp) (S:Nat->Prop) (w:yi) (n:Nat):Prop:=
 ∀(t:yC) (ks:List Nat),kinds P n t=some ks->P.stoodInHeld t=false->∀(d:Nat),n<=d->∀(xs ys:List yh) (cs dG:List AV) (r:Bool) (x y:yh),
  ay af m S w cs xs->ay af m S w dG ys->eA ks cs dG=some r->Gf P t x xs->Gf P t y ys->(Op.equalIn d t x y).run P w= .ok r w
def acg {n:Nat} (ih:Tp P af m S w n) {t:yC} {ks:List Nat} {s o d:Nat} (hk:kinds P n t=some ks) (aO:P.stoodInHeld t=false) (hz:cF P t=some s) (hs:ks.length=s) (hd:n<=d)
  {xs ys:List yh} {cs dG:List AV} (h1:ay af m S w cs xs) (h2:ay af m S w dG ys) {r:Bool} (he:eA ks ((cs.drop o).take s) ((dG.drop o).take s)=some r):
  ∃u u',(part t xs.toArray o).run P w= .ok u w/\(part t ys.toArray o).run P w= .ok u' w/\(Op.equalIn d t u u').run P w= .ok r w:=by
 obtain ⟨ag,ha,h1s⟩:=apG hk;obtain ⟨l1,l2⟩:=aa9 _ _ _ _ he;have q1:=gU _ _ h1;have q2:=gU _ _ h2;simp only [yE,List.length_drop] at l1 l2;have nv:dT P t=some false->s=1:=fun h=>by
  grind
 have ns:o+s<=xs.length\/s=0:=by omega
 have oE:o+s<=ys.length\/s=0:=by omega
 have get:∀(zs:List yh),(o+s<=zs.length\/s=0)->∃u,(part t zs.toArray o).run P w= .ok u w/\Gf P t u ((zs.drop o).take s):=by
  intro zs hl;rcases hl with hl | hl
  ·exact arn hz ⟨ag,ha⟩ nv hl
  ·subst hl
   cases ag with
   | false=>have:=nv ha;omega
   | true=>
    refine ⟨.agg ((zs.drop o).take 0).toArray,?_,.inl ⟨ha,rfl⟩⟩;simp [part,QW ha,nM hz]
 obtain ⟨u,p1,v1⟩:=get xs ns;obtain ⟨u',p2,v2⟩:=get ys oE;exact ⟨u,u',p1,p2,ih t ks hk aO d hd _ _ _ _ r u u' (Eo s (HZ o h1)) (Eo s (HZ o h2)) he v1 v2⟩
def aba {n:Nat} (ih:Tp P af m S w n) {d:Nat} (hd:n<=d) {xs ys:List yh} {cs dG:List AV} (h1:ay af m S w cs xs) (h2:ay af m S w dG ys):
  ∀(fs:List uM) (o:Nat) (ks:List Nat) (r:Bool),Ej P (fun u=>kinds P n u) fs o=some ks->eA ks (cs.drop o) (dG.drop o)=some r->(Op.eqFields d xs.toArray ys.toArray fs).run P w= .ok r w
 | [],o,ks,r,h,he=>by
  simp only [Ej,yd] at h;unfold eA at he
  split at he<;>simp_all [Op.eqFields]
 | f::fs,o,ks,r,h,he=>by
  simp only [Ej] at h
  cases hk:kinds P n f.type with
  | none=>simp [hk] at h
  | some kf=>
   cases hz:cF P f.type with
   | none=>simp [hk,hz] at h
   | some s=>
    simp only [hk,hz] at h
    cases hc:(f.name != "_"&&yv f.offset o&&yv kf.length s&& !P.stoodInHeld f.type) with
    | false=>rw [hc] at h;cases h
    | true=>
     rw [hc] at h;simp only [yA] at h;simp only [yg,bne_iff_ne,uC] at hc;obtain ⟨⟨⟨hn,ho⟩,hl⟩,aO⟩:=hc;have ho:=yp ho;have hl:=yp hl
     cases hr:Ej P (fun u=>kinds P n u) fs (o+s) with
     | none=>simp [hr] at h
     | some kr=>
      simp only [hr,yd] at h;subst h;obtain ⟨r1,r2,e1,e2,rfl⟩:=HN _ _ _ _ _ he;rw [hl] at e1 e2;rw [vX,vX] at e2;obtain ⟨u,u',p1,p2,p3⟩:=acg ih (o:=o) hk aO hz hl hd h1 h2 e1;have rest:=aba ih hd h1 h2 fs (o+s) kr r2 hr e2;subst ho;simp only [Op.eqFields]
      cases r1 with
      | true=>simp [hn,p1,p2,p3,rest]
      | false=>simp [hn,p1,p2,p3]
def abv {n:Nat} (ih:Tp P af m S w n) {d:Nat} (hd:n<=d) {xs ys:List yh} {cs dG:List AV} (h1:ay af m S w cs xs) (h2:ay af m S w dG ys)
  {e:yC} {ks:List Nat} {s:Nat} (hk:kinds P n e=some ks) (aO:P.stoodInHeld e=false) (hz:cF P e=some s) (hl:ks.length=s):
  ∀(k j:Nat) (r:Bool),eA (yj k ks).flatten (cs.drop (j*s)) (dG.drop (j*s))=some r->(Op.eqItems d e s xs.toArray ys.toArray (List.range' j k)).run P w= .ok r w
 | 0,j,r,he=>by
  unfold eA at he
  split at he<;>simp_all [Op.eqItems]
 | k+1,j,r,he=>by
  obtain ⟨r1,r2,e1,e2,rfl⟩:=HN _ _ _ _ _ he;rw [hl] at e1 e2;rw [vX,vX,show j*s+s=(j+1)*s by rw [wJ,Nat.one_mul]] at e2;obtain ⟨u,u',p1,p2,p3⟩:=acg ih (o:=j*s) hk aO hz hl hd h1 h2 e1;have rest:=abv ih hd h1 h2 hk aO hz hl k (j+1) r2 e2;rw [List.range'_succ];simp only [Op.eqItems]
  cases r1 with
  | true=>simp [p1,p2,p3,rest]
  | false=>simp [p1,p2,p3]
def SL:∀(n:Nat) (t:yC) (ks:List Nat),kinds P n t=some ks->P.stoodInHeld t=false->∀(d:Nat),n<=d->∀(xs ys:List yh) (cs dG:List AV) (r:Bool) (x y:yh),
  ay af m S w cs xs->ay af m S w dG ys->eA ks cs dG=some r->Gf P t x xs->Gf P t y ys->(Op.equalIn d t x y).run P w= .ok r w
 | 0,t,ks,h,_,_,_,_,_,_,_,_,_,_,_,_,_,_,_=>by simp [kinds] at h
 | n+1,t,ks,h,aO,0,hd,_,_,_,_,_,_,_,_,_,_,_,_=>by omega
 | n+1,t,ks,h,aO,d+1,hd,xs,ys,cs,dG,r,x,y,h1,h2,he,hx,hy=>by
  unfold kinds at h;have one:∀{k:Nat},ks=[k]->dT P t=some false->∃c c',cs=[c]/\dG=[c']/\ah af m S w c x/\ah af m S w c' y:=by
   intro k hk ha;rcases hx with ⟨hx,_⟩ | ⟨_,rfl⟩
   ·grind
   rcases hy with ⟨hy,_⟩ | ⟨_,rfl⟩
   ·grind
   have l1:=gU _ _ h1;have l2:=gU _ _ h2
   match cs,dG,l1,l2 with
   | [c],[c'],_,_=>
    simp only [ay] at h1 h2
    grind
  split at h
  ·rename_i hu;simp only [yd] at h;have ha:dT P t=some false:=by simp [dT,hu]
   obtain ⟨c,c',rfl,rfl,r1,r2⟩:=one h.symm ha;subst h;unfold eA at he
   split at he<;>simp_all [eA]
   subst he;simp only [ah] at r1 r2;subst r1;subst r2;simp [Op.equalIn,run_underlying hu]
  ·rename_i k0 hu;simp only [yd] at h;have ha:dT P t=some false:=by simp [dT,hu]
   obtain ⟨c,c',rfl,rfl,r1,r2⟩:=one h.symm ha;subst h;unfold eA at he
   split at he<;>simp_all [eA]
   obtain ⟨hk,he⟩:=he;subst he;simp only [ah] at r1 r2;subst r1;subst r2;simp [Op.equalIn,run_underlying hu]
  ·rename_i hu;simp only [yd] at h;have ha:dT P t=some false:=by simp [dT,hu]
   obtain ⟨c,c',rfl,rfl,r1,r2⟩:=one h.symm ha;subst h;unfold eA at he
   split at he<;>simp_all [eA]
   subst he;simp only [ah] at r1 r2;obtain ⟨s,rfl,rfl⟩:=r1;obtain ⟨s',rfl,rfl⟩:=r2;simp only [Op.equalIn,Sem.run_bind,run_underlying hu,Result.andThen_ok,Sem.run_pure,acf];rfl
  ·rename_i fs hu;have ha:dT P t=some true:=by simp [dT,hu]
   rcases hx with ⟨_,rfl⟩ | ⟨hx,_⟩
   ·rcases hy with ⟨_,rfl⟩ | ⟨hy,_⟩
    ·have hf:P.fieldsOf t=fs:=by simp [Program.fieldsOf,hu]
     rw [run_equalIn_struct w d t _ _ (by rw [hf];exact hu) aO,hf]
     exact aba (SL n) (by omega) h1 h2 fs.toList 0 ks r h (by simpa using he)
    ·rw [ha] at hy;cases hy
   ·rw [ha] at hx;cases hx
  ·rename_i k e hu;have ha:dT P t=some true:=by simp [dT,hu]
   rcases hx with ⟨_,rfl⟩ | ⟨hx,_⟩
   ·rcases hy with ⟨_,rfl⟩ | ⟨hy,_⟩
    ·cases hk:kinds P n e with
     | none=>simp [hk] at h
     | some ke=>
      cases hz:cF P e with
      | none=>simp [hk,hz] at h
      | some s=>
       simp only [hk,hz] at h
       cases hc:(yv ke.length s&& !P.stoodInHeld e) with
       | false=>rw [hc] at h;cases h
       | true=>
        rw [hc] at h;simp only [yA,yd] at h;subst h;simp only [yg,uC] at hc;have gC:=hz;unfold cF at gC
        cases hi:P.info? e with
        | none=>simp [hi] at gC
        | some i=>
         simp only [hi,yd] at gC;have pV:P.cellsOf e=s:=by simp [Program.cellsOf,hi,gC]
         rw [run_equalIn_array w d _ _ hu hi,pV,List.range_eq_range'];exact abv (SL n) (by omega) h1 h2 hk hc.2 hz (yp hc.1) k 0 r (by simpa using he)
    ·rw [ha] at hy;cases hy
   ·rw [ha] at hx;cases hx
  ·cases h
end
end
section
open Go
def dL {tm:Env} {hp:Hp} {v:AV} (h:bA tm hp bad=some v):False:=by simp [bad,bA] at h
section
variable {O:bl} {H:Hint} {m:Mp} {S:Nat->Prop} {w:yi} {tm:Env} {a:Act} {hp:Hp} {ct:Nat}
def atw {af:Nat->Nat} {va vb v:AV} {x y:yh} (hx:ah af m S w va x) (hy:ah af m S w vb y) (h:VE.min2 va vb=some v):∃u,(Builtin.min2 x y).run O.P w= .ok u w/\ah af m S w v u:=by
 unfold VE.min2 at h
 split at h
 ·simp only [ah] at hx hy;subst hx;subst hy;simp only [yd] at h;subst h;exact ⟨_,by simp only [Builtin.min2,Sem.run_pure];rfl,by simp only [ah]⟩
 ·rename_i k p k' q;simp only [ah] at hx hy;subst hx;subst hy
  cases ho:k.format.order p q with
  | none=>simp [ho] at h
  | some c=>cases c<;>(simp only [ho,yd] at h;subst h;exact ⟨_,by simp only [Builtin.min2,ho,Sem.run_pure];rfl,by simp only [ah]⟩)
 ·cases h
def atx {af:Nat->Nat} {va vb v:AV} {x y:yh} (hx:ah af m S w va x) (hy:ah af m S w vb y) (h:VE.max2 va vb=some v):∃u,(Builtin.max2 x y).run O.P w= .ok u w/\ah af m S w v u:=by
 unfold VE.max2 at h
 split at h
 ·simp only [ah] at hx hy;subst hx;subst hy;simp only [yd] at h;subst h;exact ⟨_,by simp only [Builtin.max2,Sem.run_pure];rfl,by simp only [ah]⟩
 ·rename_i k p k' q;simp only [ah] at hx hy;subst hx;subst hy
  cases ho:k.format.order p q with
  | none=>simp [ho] at h
  | some c=>cases c<;>(simp only [ho,yd] at h;subst h;exact ⟨_,by simp only [Builtin.max2,ho,Sem.run_pure];rfl,by simp only [ah]⟩)
 ·cases h
def Sf {af:Nat->Nat} {f:AV->AV->Option AV} {g:yh->yh->Sem yh} (hfg:∀va vb v x y,ah af m S w va x->ah af m S w vb y->f va vb=some v->∃u,(g x y).run O.P w= .ok u w/\ah af m S w v u):
  ∀(l:List AV) (us:List yh) (va v:AV) (x:yh),ah af m S w va x->ay af m S w l us->Bc f va l=some v->∃u,(us.foldlM g x).run O.P w= .ok u w/\ah af m S w v u
 | [],us,va,v,x,hx,hl,h=>by
  simp only [ay] at hl;subst hl;simp only [Bc,yd] at h;subst h;exact ⟨x,by simp,hx⟩
 | b::l,us,va,v,x,hx,hl,h=>by
  simp only [ay] at hl;obtain ⟨u,r,rfl,hu,hr⟩:=hl;simp only [Bc] at h
  cases hf:f va b with
  | none=>simp [hf] at h
  | some c=>
   simp only [hf] at h;obtain ⟨u1,h1,h2⟩:=hfg _ _ _ _ _ hx hu hf;obtain ⟨u2,h3,h4⟩:=Sf hfg l r c v u1 h2 hr h;exact ⟨u2,by simp [h1,h3],h4⟩
def SM {t:yC} {vx v:AV} {x:yh} {ty:yC} (hh:aU O m S w hp ct) (hx:ah O.af m S w vx x)
  {k:Nat} (hu:(k=0/\O.P.underlying t=some .string)\/(k=1/\∃e,O.P.underlying t=some (.slice e))\/(k=2/\∃kt e,O.P.underlying t=some (.map kt e)))
  (h:gI hp k vx=some v):∃u,(Builtin.len_ #[t] ty #[x]).run O.P w= .ok u w/\ah O.af m S w v u:=by
 rcases hu with ⟨rfl,hu⟩ | ⟨rfl,e,hu⟩ | ⟨rfl,kt,e,hu⟩
 all_goals cases vx<;>simp only [gI,reduceCtorEq] at h
 case inl.str s=>
  simp only [ah] at hx;obtain ⟨b,rfl,rfl⟩:=hx;simp only [yd] at h;subst h;refine ⟨_,by simp [Builtin.len_,run_underlying hu];rfl,?_⟩
  simp only [ah,goInt];rw [Lib.size_eq];simp
 case inr.inl.aa=>
  simp only [ah] at hx;subst hx;simp only [yd] at h;subst h;exact ⟨_,by simp [Builtin.len_,run_underlying hu];rfl,by simp [ah,goInt]⟩
 case inr.inl.aw ex n cs=>
  simp only [ah] at hx;rcases hx with ⟨b,o,c,rfl,_⟩ | ⟨a,rfl,rfl,rfl⟩
  all_goals
   simp only [yd] at h;subst h;exact ⟨_,by simp [Builtin.len_,run_underlying hu];rfl,by simp [ah,goInt]⟩
 case inr.inl.ao id o n=>
  simp only [ah] at hx;obtain ⟨p,c,_,rfl,_⟩:=hx;simp only [yd] at h;subst h;exact ⟨_,by simp [Builtin.len_,run_underlying hu];rfl,by simp [ah,goInt]⟩
 case inr.inr.km=>
  simp only [ah] at hx;subst hx;simp only [yd] at h;subst h;exact ⟨_,by simp [Builtin.len_,run_underlying hu];rfl,by simp [ah,goInt]⟩
 case inr.inr.jy ks vs=>
  simp only [ah] at hx;obtain ⟨b,es,clock,rfl,_,_,_,hb,h1,_⟩:=hx;simp only [yd] at h;subst h;refine ⟨_,by simp [Builtin.len_,run_underlying hu,getObj,Sem.run,hb];rfl,?_⟩
  have:=gU _ _ h1
  simp only [ah,goInt];rw [<-this];simp
 case inr.inr.map id=>
  simp only [ah] at hx;obtain ⟨p,hm,rfl⟩:=hx
  split at h
  case h_2=>cases h
  rename_i Zl ks vs Db;simp only [yd] at h;subst h;obtain ⟨p',es,clock,hZ,hb,h1,_⟩:=hh.obj id _ _ Db hm;rw [hm] at hZ;injection hZ with hZ;subst hZ
  refine ⟨_,by simp [Builtin.len_,run_underlying hu,getObj,Sem.run,hb];rfl,?_⟩
  have:=gU _ _ h1
  simp only [ah,goInt];rw [<-this];simp
end
end
section
open Go
section
variable {O:bl} {H:Hint} {m:Mp} {S:Nat->Prop} {w:yi} {tm:Env} {a:Act} {hp:Hp} {ct:Nat}
def Ew {t:yC} {z:AV} (h:lG O.P t=some z):∃v,(zeroValue t).run O.P w= .ok v w/\z=eK v:=by
 unfold lG at h
 cases hi:O.P.info? t with
 | none=>simp [hi] at h
 | some i=>
  simp only [hi] at h
  cases hz:i.zero with
  | none=>simp [hz] at h
  | some v=>
   simp only [hz,yd] at h;exact ⟨v,by simp [zeroValue,typeInfo,hi,hz],h.symm⟩
def Reads (O:bl) (m:Mp) (S:Nat->Prop) (w:yi) (a:Act) (o:yX) (v:AV):Prop:=
 ∃u,(execOp a.eval o).run O.P w= .ok (.value u) w/\ah O.af m S w v u
def jY {o:yX} {v:AV} {s:Sem yh} (he:execOp a.eval o=(do pure (.value (<-s)):Sem Next)) (h:∃u,s.run O.P w= .ok u w/\ah O.af m S w v u):Reads O m S w a o v:=by
 obtain ⟨u,h1,h2⟩:=h;exact ⟨u,by rw [he];simp [h1],h2⟩
def aro {o:yX} {op:wZ} {t ty:yC} {x y:xu} {k:Nat} {v:AV} (hH:fw O H) (ht:b8 O m S w tm a.tmps) (ho:o.op= .binOp op t x y ty)
  (hv:bA tm hp (aX O.P H k o)=some v):Reads O m S w a o v:=by
 have rx:=cy hH ht x;have ry:=cy hH ht y;have guard:∀{u:yh},(∀xs ys,¬(a.eval x= .agg xs/\a.eval y= .agg ys))\/O.P.eqGuardType O.P.depth t=false->a.eval x≠.nilIface->(xO op t (a.eval x) (a.eval y)).run O.P w= .ok u w->
   (do eqGuard op t x y (a.eval x) (a.eval y);xO op t (a.eval x) (a.eval y):Sem yh).run O.P w= .ok u w:=by
  intro u h1 h2 h3
  simp only [Sem.run_bind,aoK (P:=O.P) (w:=w) (t:=t) (op:=op) (x:=x) (y:=y) (h1.symm) h2,Result.andThen_ok,h3]
 have plain:bA tm hp (.bin op (aQ H x) (aQ H y))=some v->Reads O m S w a o v:=by
  intro hv;simp only [bA] at hv;obtain ⟨u,h1,h2⟩:=ark (P:=O.P) (t:=t) rx ry hv
  refine jY (s:=do eqGuard op t x y (a.eval x) (a.eval y);xO op t (a.eval x) (a.eval y)) (by simp only [execOp,ho]) ⟨u,guard (.inl ?_) ?_ h1,h2⟩
  ·rintro xs ys ⟨e1,e2⟩;rw [e1] at rx;unfold VE.binOp at hv
   split at hv
   ·rename_i h3 _;rw [h3] at rx;simp [ah] at rx
   ·rename_i h3 _;rw [h3] at rx;simp [ah] at rx
   ·rename_i h3 _;rw [h3] at rx;simp [ah] at rx
   ·cases hv
  ·intro e1;rw [e1] at rx;unfold VE.binOp at hv
   split at hv
   ·rename_i h3 _;rw [h3] at rx;simp [ah] at rx
   ·rename_i h3 _;rw [h3] at rx;simp [ah] at rx
   ·rename_i h3 _;rw [h3] at rx;simp [ah] at rx
   ·cases hv
 have other:∀(ne:Bool) (kd:VE.PH),(op= .eql/\ne=false\/op= .neq/\ne=true)->(∀r,jM kd (aA tm (aQ H x)) (aA tm (aQ H y))=some r->(Op.equal t (a.eval x) (a.eval y)).run O.P w= .ok r w/\
    ((∀xs ys,¬(a.eval x= .agg xs/\a.eval y= .agg ys))\/O.P.eqGuardType O.P.depth t=false)/\a.eval x≠.nilIface/\
    ∀q:Bool,(op= .eql->xO op t (a.eval x) (a.eval y)=(do pure (.bool (<-Op.equal t (a.eval x) (a.eval y)))))/\(op= .neq->xO op t (a.eval x) (a.eval y)=(do pure (.bool (!(<-Op.equal t (a.eval x) (a.eval y)))))))->
   bA tm hp (.eq ne kd (aQ H x) (aQ H y))=some v->Reads O m S w a o v:=by
  intro ne kd jg mu hv;simp only [bA] at hv
  cases he:jM kd (aA tm (aQ H x)) (aA tm (aQ H y)) with
  | none=>simp [he] at hv
  | some r=>
   simp only [he,yd] at hv;subst hv;obtain ⟨h1,h2,h3,h4⟩:=mu r he;obtain ⟨h5,h6⟩:=h4 true
   refine jY (s:=do eqGuard op t x y (a.eval x) (a.eval y);xO op t (a.eval x) (a.eval y)) (by simp only [execOp,ho]) ⟨.bool (ne !=r),guard h2 h3 ?_,by simp [ah]⟩
   rcases jg with ⟨rfl,rfl⟩ | ⟨rfl,rfl⟩
   ·rw [h5 rfl];simp [h1]
   ·rw [h6 rfl];simp [h1]
 have pB:O.P.underlying t=some .bool->∀r,jM .b (aA tm (aQ H x)) (aA tm (aQ H y))=some r->∃p q,a.eval x= .bool p/\a.eval y= .bool q/\(Op.equal t (a.eval x) (a.eval y)).run O.P w= .ok r w:=by
  intro hu r he;cases hx:aA tm (aQ H x)<;>cases hy:aA tm (aQ H y)<;>rw [hx,hy] at he<;>simp only [jM,reduceCtorEq] at he
  rw [hx] at rx;rw [hy] at ry;simp only [ah] at rx ry;simp only [yd] at he;refine ⟨_,_,rx,ry,?_⟩;rw [rx,ry,Mq,<-he];exact avP hu
 have pS:∀e,O.P.underlying t=some (.slice e)->∀r,jM .sl (aA tm (aQ H x)) (aA tm (aQ H y))=some r->∃p n c q n' c',a.eval x= .slice p n c/\a.eval y= .slice q n' c'/\(Op.equal t (a.eval x) (a.eval y)).run O.P w= .ok r w:=by
  intro e hu r he;have h1:=att hu rx ry he;have sl:∀{v:AV} {u:yh},ah O.af m S w v u->(v= .aa\/(∃a b c,v= .aw a b c)\/∃a b c,v= .ao a b c)->∃p n c,u= .slice p n c:=by
   intro v u hr hv;rcases hv with rfl | ⟨_,_,_,rfl⟩ | ⟨_,_,_,rfl⟩
   ·simp only [ah] at hr;exact ⟨_,_,_,hr⟩
   ·simp only [ah] at hr;rcases hr with ⟨b,o,c,hr,_⟩ | ⟨_,hr,_⟩<;>exact ⟨_,_,_,hr⟩
   ·simp only [ah] at hr;obtain ⟨b,c,_,hr,_⟩:=hr;exact ⟨_,_,_,hr⟩
  have dH:(aA tm (aQ H x)= .aa\/(∃a b c,aA tm (aQ H x)= .aw a b c)\/∃a b c,aA tm (aQ H x)= .ao a b c)/\
    (aA tm (aQ H y)= .aa\/(∃a b c,aA tm (aQ H y)= .aw a b c)\/∃a b c,aA tm (aQ H y)= .ao a b c):=by
   cases hx:aA tm (aQ H x)<;>cases hy:aA tm (aQ H y)<;>rw [hx,hy] at he<;>simp [jM] at he ⊢
  obtain ⟨p,n,c,e1⟩:=sl rx dH.1;obtain ⟨q,n',c',e2⟩:=sl ry dH.2;exact ⟨p,n,c,q,n',c',e1,e2,h1⟩
 have pF:∀ps rs vr,O.P.underlying t=some (.func ps rs vr)->∀r,jM .fn (aA tm (aQ H x)) (aA tm (aQ H y))=some r->
   ((a.eval x= .nilFunc\/∃f p q,a.eval x= .func f p q)/\(a.eval y= .nilFunc\/∃f p q,a.eval y= .func f p q))/\(Op.equal t (a.eval x) (a.eval y)).run O.P w= .ok r w:=by
  intro ps rs vr hu r he;have h1:=atu hu rx ry he;have sl:∀{v:AV} {u:yh},ah O.af m S w v u->(v= .jb\/(∃a b c,v= .fn a b c))->(u= .nilFunc\/∃f p q,u= .func f p q):=by
   intro v u hr hv;rcases hv with rfl | ⟨f,_,_,rfl⟩
   ·simp only [ah] at hr;exact .inl hr
   ·cases f with
    | f g=>simp only [ah] at hr;obtain ⟨b,c,hr,_⟩:=hr;exact .inr ⟨_,_,_,hr⟩
    | y l=>simp only [ah] at hr;obtain ⟨b,_,hr⟩:=hr;exact .inr ⟨_,_,_,hr⟩
  have dH:(aA tm (aQ H x)= .jb\/(∃a b c,aA tm (aQ H x)= .fn a b c))/\(aA tm (aQ H y)= .jb\/(∃a b c,aA tm (aQ H y)= .fn a b c)):=by
   cases hx:aA tm (aQ H x)<;>cases hy:aA tm (aQ H y)<;>rw [hx,hy] at he<;>simp [jM] at he ⊢
  exact ⟨⟨sl rx dH.1,sl ry dH.2⟩,h1⟩
 have pA:∀ks,kinds O.P 20 t=some ks->dT O.P t=some true->O.P.stoodInHeld t=false->∀r,jM (.ag ks) (aA tm (aQ H x)) (aA tm (aQ H y))=some r->∃p q,a.eval x= .agg p/\a.eval y= .agg q/\(Op.equal t (a.eval x) (a.eval y)).run O.P w= .ok r w:=by
  intro ks hk ha aO r he;cases hx:aA tm (aQ H x)<;>cases hy:aA tm (aQ H y)<;>rw [hx,hy] at he<;>simp only [jM,reduceCtorEq] at he
  rw [hx] at rx;rw [hy] at ry;simp only [ah] at rx ry;obtain ⟨p,e1,h1⟩:=rx;obtain ⟨q,e2,h2⟩:=ry;refine ⟨p,q,e1,e2,?_⟩;rw [e1,e2,Mq];exact SL 20 t ks hk aO 10000 (by omega) _ _ _ _ r _ _ h1 h2 he (.inl ⟨ha,by simp⟩) (.inl ⟨ha,by simp⟩)
 have eqs:∀(ne:Bool),(op= .eql/\ne=false\/op= .neq/\ne=true)->bA tm hp (nT O.P H ne op t x y)=some v->Reads O m S w a o v:=by
  intro ne jg hv;have agg:dT O.P t=some true->bA tm hp (pg O.P H ne t x y)=some v->Reads O m S w a o v:=by
   intro ha hv;unfold pg at hv
   cases hk:kinds O.P 20 t with
   | none=>rw [hk] at hv;exact (dL hv).elim
   | some ks=>
    simp only [hk] at hv
    cases hc:(O.P.stoodInHeld t||O.P.eqGuardType O.P.depth t) with
    | true=>rw [hc] at hv;exact (dL hv).elim
    | false=>
     rw [hc] at hv;simp only [yT] at hv;simp only [Bool.or_eq_false_iff] at hc;refine other ne (.ag ks) jg (fun r hr=>?_) hv;obtain ⟨p,q,e1,e2,h1⟩:=pA ks hk ha hc.1 r hr;refine ⟨h1,.inr hc.2,by rw [e1];simp,fun _=>?_⟩
     rw [e1,e2];exact ⟨fun e=>by subst e;rfl,fun e=>by subst e;rfl⟩
  unfold nT at hv
  split at hv
  ·exact plain hv
  ·exact plain hv
  ·exact plain hv
  ·rename_i hu;refine other ne .b jg (fun r hr=>?_) hv;obtain ⟨p,q,e1,e2,h1⟩:=pB hu r hr;refine ⟨h1,.inl (by rw [e1];simp),by rw [e1];simp,fun _=>?_⟩
   rw [e1,e2];exact ⟨fun e=>by subst e;rfl,fun e=>by subst e;rfl⟩
  ·rename_i e hu;refine other ne .sl jg (fun r hr=>?_) hv;obtain ⟨p,n,c,q,n',c',e1,e2,h1⟩:=pS e hu r hr;refine ⟨h1,.inl (by rw [e1];simp),by rw [e1];simp,fun _=>?_⟩
   rw [e1,e2];exact ⟨fun e=>by subst e;rfl,fun e=>by subst e;rfl⟩
  ·rename_i ps rs vr hu;refine other ne .fn jg (fun r hr=>?_) hv;obtain ⟨⟨e1,e2⟩,h1⟩:=pF ps rs vr hu r hr;refine ⟨h1,.inl ?_,?_,fun _=>?_⟩
   ·rcases e1 with e1 | ⟨_,_,_,e1⟩<;>rw [e1]<;>simp
   ·rcases e1 with e1 | ⟨_,_,_,e1⟩<;>rw [e1]<;>simp
   ·rcases e1 with e1 | ⟨_,_,_,e1⟩<;>rcases e2 with e2 | ⟨_,_,_,e2⟩<;>rw [e1,e2]<;>exact ⟨fun e=>by subst e;rfl,fun e=>by subst e;rfl⟩
  ·rename_i fs hu;exact agg (by simp [dT,hu]) hv
  ·rename_i k0 e hu;exact agg (by simp [dT,hu]) hv
  ·exact (dL hv).elim
 cases op
 case eql=>exact eqs false (.inl ⟨rfl,rfl⟩) (by simpa only [aX,ho] using hv)
 case neq=>exact eqs true (.inr ⟨rfl,rfl⟩) (by simpa only [aX,ho] using hv)
 all_goals exact plain (by simpa only [aX,ho] using hv)
end
end
end VE
