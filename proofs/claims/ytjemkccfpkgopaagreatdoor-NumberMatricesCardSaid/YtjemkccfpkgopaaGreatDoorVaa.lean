import GoSem.Core.Code
import GoSem.Core.Float
import GoSem.Core.Utf8
import Derived.CallsIn
import Derived.Laws.World
import GoSem.Op.Equal
import GoSem.Core.Region
import Derived.Below
import Derived.Laws.AppendOwn
import Derived.Laws.Rows
import Derived.WalkKit
import Derived.Laws.CopyRow
import Derived.Laws.Cells
import Derived.Laws.Strings
import Derived.Lib.Strings
import Derived.WideLaws
import Derived.Maps.Keyed
import Derived.ChangeKeysEq
import Derived.Laws.Tables
set_option linter.all false
set_option maxRecDepth 100000
open BitVec renaming ofInt→xM
open Bool renaming and_assoc→tB,and_eq_true→yh,eq_iff_iff→uy,false_eq_true→yL,not_eq_true'→uz
open Go renaming Addr→uv,BinOp→wW,Code→wU,Field→uJ,FloatKind→vY,IntKind→y7,MapEntry→uQ,Oper→y8,Operand→xz,Program→y9,TypeDesc→vC,TypeId→yB,UnOp→ybH,Value→yg,World→yi,binOp→xK,sizeOf→vG
open Go.Utf8 renaming runeError→ud,valid→yaE
open List renaming cons_append→xk,drop_drop→vS,extract_eq_take_drop→tF,getElem?_eq_getElem→xS,length_cons→yI,length_take→yy,map_cons→xc,replicate→yk,take_succ_cons→wg,take_zero→uK
open Nat renaming add_assoc→uV,add_mul→wE,beq→yx,beq_eq→ybS,ble→yG,ble_eq→ybT,blt→yR,eq_of_beq_eq_true→yt,le_of_ble_eq_true→yz,le_refl→yv,le_trans→xj,testBit→uF
open Option renaming map_none→vR,map_some→wD
open Option.some renaming injEq→yd
open UInt8 renaming toNat→xb,toNat_inj→yaF
def vl:=@and_true
def yas:=@beq_iff_eq
def tY:=@beq_self_eq_true
def yV:=@cond_false
def yA:=@cond_true
def tZ:=@decide_eq_decide
def xa:=@decide_eq_false
def vQ:=@decide_eq_false_iff_not
def xx:=@decide_eq_true
def xW:=@decide_eq_true_eq
def ym:=@decide_false
def yr:=@decide_true
def yby:=@false_or
def xi:=@if_false
def yD:=@if_neg
def yT:=@if_pos
def xD:=@if_true
def ub:=@ne_eq
def xt:=@not_false_eq_true
def ybU:=@not_true_eq_false
def tj:=@true_and
namespace VE
section
open Go (IntKind FloatKind BinOp UnOp)
inductive Fr where
 | f (n:Nat)
 | y (l:Nat)
 deriving DecidableEq,Inhabited
inductive AV where
 | int (k:y7) (n:Int)
 | bool (b:Bool)
 | bU (k:vY) (bits:Nat)
 | str (s:List Nat)
 | kR
 | ptr (id off:Nat)
 | cg (cells:List AV)
 | aa
 | aB (ex:Bool) (n:Nat) (cells:List AV)
 | bw (ex:Bool) (sz n:Nat) (cells:List AV)
 | aw (id off n:Nat)
 | fn (f:Fr) (first cap:List AV)
 | iZ
 | kh
 | map (id:Nat)
 | jw (ks vs:List AV)
 | it (id:Nat)
 | agg (cells:List AV)
 | ae (vs:List AV)
 | undef
 deriving Inhabited
inductive X where
 | t (i:Nat)
 | c (v:AV)
 deriving Inhabited
inductive Conv where
 | toInt (k:y7)
 | toFlt (k:vY)
 | str
 deriving Inhabited
inductive Md where
 | pure | own | heap | dyn
 deriving Inhabited
inductive Cut where
 | str
 | sl (sz:Nat)
 | ar (len sz:Nat)
 deriving Inhabited
inductive P3 where
 | b | sl | fn | ag (ks:List Nat)
 deriving Inhabited
inductive Op where
 | cw (x:X)
 | pick (c a b:X)
 | box (sz:Nat) (x:X)
 | gk (zero:List AV) (parts:List (Nat×Nat×X))
 | dd (n sz:Nat) (zero:List AV) (parts:List (Nat×Nat×X))
 | ld (sz:Nat) (ag:Bool) (x:X)
 | st (sz:Nat) (x v:X)
 | JZ (x:X)
 | bin (op:wW) (x y:X)
 | eq (ne:Bool) (k:P3) (x y:X)
 | un (op:ybH) (x:X)
 | cv (k:Conv) (x:X)
 | DT (f:Fr) (first cap:List X)
 | Aq
 | gE (sz bytes:Nat) (zero:List AV) (len cap:X)
 | dR (k:Cut) (x:X) (lo hi:Option X)
 | off (k:Nat) (x:X)
 | K3 (o sz:Nat) (ag:Bool) (x:X)
 | aU (sz:Nat) (x i:X)
 | Gy (len sz:Nat) (x i:X)
 | kW (x i:X)
 | Gz (len sz:Nat) (ag:Bool) (x i:X)
 | P4 (kk:Nat) (zero:AV) (ok:Bool) (m k:X)
 | pT (kk:Nat) (m k v:X)
 | pU (x:X)
 | pV (x:X)
 | ext (i:Nat) (x:X)
 | call (m:Md) (f:X) (xs:List X)
 | iW (rs:List (Nat×Bool×Nat)) (f:X) (xs:List X)
 | jB (rs:List (Nat×Bool×Nat)) (sz:Nat) (x v:X)
 | kX (rs:List (Nat×Bool×Nat)) (sz bytes:Nat) (s x:X)
 | aR (sz bytes:Nat) (s x:X)
 | mz (sz:Nat) (d s:X)
 | len (k:Nat) (x:X)
 | mn (xs:List X)
 | mx (xs:List X)
 deriving Inhabited
structure bh where
 dst:Option Nat
 guard:Option (Nat×Bool)
 op:Op
 deriving Inhabited
inductive VC where
 | skip
 | aH (ops:List bh)
 | seq (a b:VC)
 | cond (x:X) (a b:VC)
 | aG (id:Nat) (a:VC)
 | kp (live:List Nat)
 | fz (ts:List Nat)
 | loop (live:List Nat) (a:VC)
 | rf (f:X) (ps:List Nat) (assign body:VC)
 | exit (id:Nat)
 | ret
 deriving Inhabited
inductive RV where
 | t (i:Nat)
 | cell (i sz:Nat) (ag:Bool)
 deriving Inhabited
structure aV where
 fO:List RV
 body:VC
 deriving Inhabited
inductive zY where
 | none | ret | exit (id:Nat)
 deriving Inhabited,DecidableEq
abbrev Env:=List (Nat×AV)
inductive Obj where
 | cells (rw pu ex:Bool) (sz:Nat) (cs:List AV)
 | mp (rw:Bool) (ks vs:List AV)
 | si (s:List Nat) (pos:Nat)
 | lp (tm:Env) (ps:List Nat) (assign body:VC) (state:Nat) (pending:zY)
 deriving Inhabited
abbrev Hp:=List (Nat×Obj)
structure St where
 tm:Env
 hp:Hp
 ct:Nat
 base:Nat
 deriving Inhabited
inductive Ex where
 | normal
 | ret
 | exit (id:Nat)
 deriving Inhabited,DecidableEq
def af:Env->Nat->AV
 | [],_=> .undef
 | (j,v)::r,i=>bif yx j i then v else af r i
def ay:Hp->Nat->Option Obj
 | [],_=>none
 | (j,o)::r,i=>bif yx j i then some o else ay r i
def a6:Hp->Nat->Obj->Hp
 | [],_,_=>[]
 | (j,o)::r,i,u=>bif yx j i then (j,u)::r else (j,o)::a6 r i u
def dK:Hp->Nat->Hp
 | [],_=>[]
 | (j,o)::r,i=>bif yx j i then dK r i else (j,o)::dK r i
mutual
def a7:AV->Bool
 | .ptr _ _ | .aw _ _ _ | .map _ | .it _ | .bw _ _ _ _=>false
 | .fn (.y _) _ _=>false
 | .fn (.f _) first cap=>aK first&&aK cap
 | .agg cs=>aK cs
 | .ae vs=>aK vs
 | _=>true
def aK:List AV->Bool
 | []=>true
 | v::r=>a7 v&&aK r
end
def cellsOf:AV->List AV
 | .agg cs=>cs
 | v=>[v]
def dt:AV->Bool
 | .agg _ | .ae _ | .undef | .bw _ _ _ _=>false
 | _=>true
def cu:List AV->Bool
 | []=>true
 | v::r=>dt v&&cu r
def aF (tm:Env):X->AV
 | .t i=>af tm i
 | .c v=>v
def dD (tm:Env):List X->List AV
 | []=>[]
 | x::r=>aF tm x::dD tm r
def slice (o n:Nat) (cs:List AV):List AV:=(cs.drop o).take n
def over (o:Nat) (new cs:List AV):List AV:=cs.take o++new++cs.drop (o+new.length)
mutual
def freeze:Nat->Hp->AV->Option (AV×Hp)
 | 0,_,_=>none
 | n+1,hp,v=>
  match v with
  | .aw id o k=>
   match oT n hp id with
   | some (ex,sz,cs,ak)=>
    bif yG (o+k*sz) cs.length then
     some (.aB (ex&&yR 0 sz&&yx (o+k*sz) cs.length) k (slice o (k*sz) cs),ak)
    else none
   | none=>none
  | .ptr id o=>
   match oT n hp id with
   | some (_,_,cs,ak)=>some (.cg (cs.drop o),ak)
   | none=>none
  | .map id=>
   match ay hp id with
   | some (.mp _ ks vs)=>bif aK ks&&aK vs then some (.jw ks vs,a6 hp id (.mp false ks vs)) else none
   | _=>none
  | .fn (.f g) first cap=>
   match cO n hp first with
   | some (ahP,bl)=>
    match cO n bl cap with
    | some (Oc,gU)=>some (.fn (.f g) ahP Oc,gU)
    | none=>none
   | none=>none
  | .agg cs=>match cO n hp cs with | some (dX,ak)=>some (.agg dX,ak) | none=>none
  | .ae cs=>match cO n hp cs with | some (dX,ak)=>some (.ae dX,ak) | none=>none
  | v=>bif a7 v then some (v,hp) else none
def oT:Nat->Hp->Nat->Option (Bool×Nat×List AV×Hp)
 | 0,_,_=>none
 | n+1,hp,id=>
  match ay hp id with
  | some (.cells rw pu ex sz cs)=>
   bif pu then some (ex,sz,cs,bif rw then a6 hp id (.cells false true ex sz cs) else hp)
   else match cO n hp cs with
    | some (dX,ak)=>some (ex,sz,dX,a6 ak id (.cells false false ex sz cs))
    | none=>none
  | _=>none
def cO:Nat->Hp->List AV->Option (List AV×Hp)
 | 0,_,_=>none
 | _+1,hp,[]=>some ([],hp)
 | n+1,hp,v::r=>
  match freeze n hp v with
  | some (v',bl)=>
   match cO n bl r with
   | some (r',gU)=>some (v'::r',gU)
   | none=>none
  | none=>none
end
def jY (n:Nat) (hp:Hp) (v:AV):Option (AV×Hp):=
 match v with
 | .aw id o k=>
  match ay hp id with
  | some (.cells true true ex sz cs)=>
   bif yG (o+k*sz) cs.length then
    some (.bw (ex&&yR 0 sz&&yx (o+k*sz) cs.length) sz k (slice o (k*sz) cs),dK hp id)
   else none
  | _=>freeze n hp v
 | _=>freeze n hp v
def A9:List AV->Option (List Nat)
 | []=>some []
 | .aw id _ _::r=>match A9 r with | some l=>bif l.any (yx id) then none else some (id::l) | none=>none
 | v::r=>bif a7 v then A9 r else none
def qM (n:Nat):Hp->List AV->Option (List AV×Hp)
 | hp,[]=>some ([],hp)
 | hp,v::r=>
  match jY n hp v with
  | some (v',bl)=>match qM n bl r with | some (r',gU)=>some (v'::r',gU) | none=>none
  | none=>none
def deep:Nat:=1000
def result (hp:Hp) (v:AV):Option AV:=
 match v with
 | .ae vs=>
  match A9 vs with
  | some _=>match qM deep hp vs with | some (ej,_)=>some (.ae ej) | none=>none
  | none=>match freeze deep hp v with | some (v',_)=>some v' | none=>none
 | v=>match jY deep hp v with | some (v',_)=>some v' | none=>none
def bQ:AV->AV
 | .bw ex _ n cs=> .aB ex n cs
 | v=>v
def Dj:List AV->List AV
 | []=>[]
 | v::r=>bQ v::Dj r
def shut:AV->AV
 | .bw ex _ n cs=> .aB ex n cs
 | .ae vs=> .ae (Dj vs)
 | v=>v
def fG (hp:Hp) (ct:Nat):AV->AV×Hp×Nat
 | .bw ex sz n cs=>(.aw ct 0 n,(ct,.cells true true ex sz cs)::hp,ct+1)
 | v=>(v,hp,ct)
def jM:Hp->Nat->List AV->List AV×Hp×Nat
 | hp,ct,[]=>([],hp,ct)
 | hp,ct,v::r=>((fG hp ct v).1::(jM (fG hp ct v).2.1 (fG hp ct v).2.2 r).1,(jM (fG hp ct v).2.1 (fG hp ct v).2.2 r).2)
def own (hp:Hp) (ct:Nat):AV->AV×Hp×Nat
 | .ae vs=>(.ae (jM hp ct vs).1,(jM hp ct vs).2)
 | v=>fG hp ct v
mutual
def refs:AV->List Nat
 | .ptr id _=>[id]
 | .aw id _ _=>[id]
 | .map id=>[id]
 | .it id=>[id]
 | .fn (.f _) first cap=>iI first++iI cap
 | .fn (.y l) _ _=>[l]
 | .agg cs=>iI cs
 | .ae cs=>iI cs
 | _=>[]
def iI:List AV->List Nat
 | []=>[]
 | v::r=>refs v++iI r
end
def fL:Env->List Nat
 | []=>[]
 | (_,v)::r=>refs v++fL r
def kM:Obj->List Nat
 | .cells _ pu _ _ cs=>bif pu then [] else iI cs
 | .mp _ ks vs=>iI ks++iI vs
 | .si _ _=>[]
 | .lp tm _ _ _ _ _=>fL tm
mutual
def ck (f:Nat->Option Nat):AV->AV
 | .ptr id o=>match f id with | some j=> .ptr j o | none=> .undef
 | .aw id o n=>match f id with | some j=> .aw j o n | none=> .undef
 | .map id=>match f id with | some j=> .map j | none=> .undef
 | .it id=>match f id with | some j=> .it j | none=> .undef
 | .fn (.f g) first cap=> .fn (.f g) (fo f first) (fo f cap)
 | .fn (.y l) first cap=>match f l with | some j=> .fn (.y j) (fo f first) (fo f cap) | none=> .undef
 | .agg cs=> .agg (fo f cs)
 | .ae cs=> .ae (fo f cs)
 | v=>v
def fo (f:Nat->Option Nat):List AV->List AV
 | []=>[]
 | v::r=>ck f v::fo f r
end
def gm (f:Nat->Option Nat):Env->Env
 | []=>[]
 | (i,v)::r=>(i,ck f v)::gm f r
def ja (f:Nat->Option Nat):Obj->Obj
 | .cells rw pu ex sz cs=> .cells rw pu ex sz (bif pu then cs else fo f cs)
 | .mp rw ks vs=> .mp rw (fo f ks) (fo f vs)
 | .si s pos=> .si s pos
 | .lp tm ps cQ body st pe=> .lp (gm f tm) ps cQ body st pe
def cC (tm:Env):List Nat->Env
 | []=>[]
 | i::r=>(i,af tm i)::cC tm r
def jx (i:Nat):List Nat->Bool
 | []=>false
 | j::r=>bif yx j i then true else jx i r
def reach (hp:Hp) (base:Nat):Nat->List Nat->List Nat->List Nat
 | 0,_,seen=>seen
 | _+1,[],seen=>seen
 | n+1,id::fS,seen=>
  bif yR id base||jx id seen then reach hp base n fS seen
  else match ay hp id with
   | some o=>reach hp base n (kM o++fS) (seen++[id])
   | none=>reach hp base n fS seen
def jr (base:Nat):Hp->List Nat
 | []=>[]
 | (id,o)::r=>bif yR id base then kM o++jr base r else jr base r
def fh (i:Nat):List Nat->Nat->Option Nat
 | [],_=>none
 | j::r,k=>bif yx j i then some k else fh i r (k+1)
def kN (base:Nat) (seen:List Nat) (id:Nat):Option Nat:=bif yR id base then some id else fh id seen base
def mh (base:Nat) (f:Nat->Option Nat):Hp->Hp
 | []=>[]
 | (id,o)::r=>bif yR id base then (id,ja f o)::mh base f r else mh base f r
def ib (hp:Hp) (f:Nat->Option Nat):List Nat->Nat->Hp->Hp
 | [],_,acc=>acc
 | id::r,k,acc=>match ay hp id with | some o=>ib hp f r (k+1) ((k,ja f o)::acc) | none=>ib hp f r (k+1) acc
def aJ (live:List Nat) (s:St):St:=
 let tm:=cC s.tm live
 let seen:=reach s.hp s.base 100000 (fL tm++jr s.base s.hp) []
 let f:=kN s.base seen
 {tm:=gm f tm,hp:=ib s.hp f seen s.base (mh s.base f s.hp),ct:=s.base+seen.length,base:=s.base}
def kJ (hp:Hp) (sz:Nat):AV->Option (Nat×List AV)
 | .aa=>some (0,[])
 | .aB _ n cs=>bif yx cs.length (n*sz) then some (n,cs) else none
 | .aw id o n=>
  match ay hp id with
  | some (.cells _ _ _ _ cs)=>bif yG (o+n*sz) cs.length then some (n,slice o (n*sz) cs) else none
  | _=>none
 | _=>none
def Na:List Nat->List AV
 | []=>[]
 | b::r=> .int .u8 b::Na r
def BZ:List Nat->List Nat->Bool
 | _,[]=>false
 | [],_::_=>true
 | a::x,b::y=>yR a b||(yx a b&&BZ x y)
def db:List Nat->List Nat->Bool
 | [],[]=>true
 | a::x,b::y=>yx a b&&db x y
 | _,_=>false
def eF:List Nat->List AV->List AV->Option Bool
 | [],[],[]=>some true
 | 0::ks,.bool a::x,.bool b::y=>match eF ks x y with | some r=>some ((a==b)&&r) | none=>none
 | 1::ks,.int k a::x,.int k' b::y=>if k=k' then (match eF ks x y with | some r=>some ((a==b)&&r) | none=>none) else none
 | 2::ks,.str a::x,.str b::y=>match eF ks x y with | some r=>some (db a b&&r) | none=>none
 | _,_,_=>none
def jN:P3->AV->AV->Option Bool
 | .b,.bool a,.bool b=>some (a==b)
 | .sl,.aa,.aa=>some true
 | .sl,.aa,.aB _ _ _=>some false
 | .sl,.aa,.aw _ _ _=>some false
 | .sl,.aB _ _ _,.aa=>some false
 | .sl,.aw _ _ _,.aa=>some false
 | .fn,.iZ,.iZ=>some true
 | .fn,.iZ,.fn _ _ _=>some false
 | .fn,.fn _ _ _,.iZ=>some false
 | .ag ks,.agg a,.agg b=>eF ks a b
 | _,_,_=>none
def intCmp (op:wW) (x y:Int):Option Bool:=
 match op with
 | .eql=>some (x==y)
 | .neq=>some (x !=y)
 | .lss=>some (decide (x<y))
 | .leq=>some (decide (x<=y))
 | .gtr=>some (decide (x>y))
 | .geq=>some (decide (x>=y))
 | _=>none
def lE (op:wW) (k:y7) (x y:Int):Option AV:=
 match op with
 | .add=>some (.int k (k.wrap (x+y)))
 | .sub=>some (.int k (k.wrap (x-y)))
 | .mul=>some (.int k (k.wrap (x*y)))
 | .quo=>if y=0 then none else some (.int k (k.wrap (x.tdiv y)))
 | .rem=>if y=0 then none else some (.int k (x.tmod y))
 | .and=>some (.int k (k.wrap (xM k.bits x&&&xM k.bits y).toNat))
 | .or=>some (.int k (k.wrap (xM k.bits x|||xM k.bits y).toNat))
 | .xor=>some (.int k (k.wrap (xM k.bits x^^^xM k.bits y).toNat))
 | .andNot=>some (.int k (k.wrap (xM k.bits x&&&~~~(xM k.bits y)).toNat))
 | .shl | .shr=>none
 | op=>match intCmp op x y with | some b=>some (.bool b) | none=>none
def CN (op:wW) (k:y7) (x y:Int):Option AV:=
 if y<0 then none else
 match op with
 | .shl=>some (.int k (k.wrap (x*2^(min y.toNat k.bits))))
 | .shr=>some (.int k (x.fdiv (2^(min y.toNat k.bits))))
 | _=>none
def Jz (op:wW) (x y:List Nat):Option AV:=
 match op with
 | .add=>bif yG (x.length+y.length) 9223372036854775807 then some (.str (x++y)) else none
 | .eql=>some (.bool (db x y))
 | .neq=>some (.bool (!db x y))
 | .lss=>some (.bool (BZ x y))
 | .leq=>some (.bool (BZ x y||db x y))
 | .gtr=>some (.bool (!(BZ x y||db x y)))
 | .geq=>some (.bool (!BZ x y))
 | _=>none
def TE (op:wW) (k:vY) (x y:Nat):Option AV:=
 let c:=k.format.order x y
 let ar (r:Option Nat):Option AV:=match r with | some b=>some (.bU k b) | none=>none
 match op with
 | .add=>ar (k.format.add x y)
 | .sub=>ar (k.format.sub x y)
 | .mul=>ar (k.format.mul x y)
 | .quo=>ar (k.format.div x y)
 | .eql=>some (.bool (c==some .eq))
 | .neq=>some (.bool (c !=some .eq))
 | .lss=>some (.bool (c==some .lt))
 | .leq=>some (.bool (c==some .lt||c==some .eq))
 | .gtr=>some (.bool (c==some .gt))
 | .geq=>some (.bool (c==some .gt||c==some .eq))
 | _=>none
def binOp (op:wW) (x y:AV):Option AV:=
 match x,y with
 | .int k a,.int k' b=>
  match op with
  | .shl | .shr=>CN op k a b
  | _=>if k=k' then lE op k a b else none
 | .bU k a,.bU k' b=>if k=k' then TE op k a b else none
 | .str a,.str b=>Jz op a b
 | _,_=>none
def unOp (op:ybH) (x:AV):Option AV:=
 match op,x with
 | .neg,.int k n=>some (.int k (k.wrap (0-n)))
 | .xor,.int k n=>lE .xor k (if k.signed then -1 else k.max) n
 | .not,.bool b=>some (.bool !b)
 | .neg,.bU k b=>some (.bU k (b^^^2^(k.format.exponentBits+k.format.fractionBits)))
 | _,_=>none
def pC (c:Conv) (x:AV):Option AV:=
 match c,x with
 | .toInt k,.int _ n=>some (.int k (k.wrap n))
 | .toFlt k,.int _ n=>some (.bU k (k.nearest n))
 | .toInt k,.bU s b=>
  match (s.decode b).toInt .zero with
  | some n=>if k.min<=n/\n<=k.max then some (.int k n) else none
  | none=>none
 | .toFlt k,.bU s b=>
  if s=k then some (.bU k b) else
  match s.decode b with
  | .number sg m e=>if (k.decode (k.encode (.number sg m e))).isInfinity then none else some (.bU k (k.encode (.number sg m e)))
  | _=>none
 | .str,.str s=>some (.str s)
 | _,_=>none
def iC (sz:Nat) (ag:Bool) (cs:List AV):Option AV:=
 bif ag then (bif yG sz cs.length then some (.agg (cs.take sz)) else none)
 else match cs with | v::_=>some v | []=>none
def du (x:AV):Option Nat:=
 match x with
 | .int _ n=>match n with | .ofNat k=>some k | .negSucc _=>none
 | _=>none
def df (tm:Env) (d:Nat):Option X->Option Nat
 | none=>some d
 | some x=>du (aF tm x)
def fg (hp:Hp) (k:Cut) (x:AV) (tm:Env) (lo hi:Option X):Option AV:=
 match k,x with
 | .str,.str s=>
  match df tm 0 lo,df tm s.length hi with
  | some l,some h=>bif yG l h&&yG h s.length then some (.str ((s.take h).drop l)) else none
  | _,_=>none
 | .sl _,.aa=>
  match df tm 0 lo,df tm 0 hi with
  | some 0,some 0=>some .aa
  | _,_=>none
 | .sl sz,.aB ex n cs=>
  match df tm 0 lo,df tm n hi with
  | some l,some h=>bif yG l h&&yG h n then some (.aB (ex&&yx h n) (h-l) (slice (l*sz) ((h-l)*sz) cs)) else none
  | _,_=>none
 | .sl sz,.aw id o n=>
  match ay hp id with
  | some (.cells _ _ _ z _)=>
   match df tm 0 lo,df tm n hi with
   | some l,some h=>
    bif yG l h&&yG h n&&yx z sz then
     bif yx l h&& !yx l 0 then some (.aB false 0 []) else some (.aw id (o+l*sz) (h-l))
    else none
   | _,_=>none
  | _=>none
 | _,_=>none
def fill (tm:Env):List AV->List (Nat×Nat×X)->Option (List AV)
 | cs,[]=>some cs
 | cs,(o,sz,x)::r=>
  let new:=cellsOf (aF tm x)
  bif yx new.length sz&&yG (o+sz) cs.length&&cu new then fill tm (over o new cs) r else none
def Fy:AV->AV->Option Bool
 | .int k a,.int k' b=>if k=k' then some (a==b) else none
 | .str a,.str b=>some (db a b)
 | .bool a,.bool b=>some (a==b)
 | _,_=>none
def zB:Nat->AV->Bool
 | 0,.bool _=>true
 | 1,.int _ _=>true
 | 2,.str _=>true
 | _,_=>false
def Dk (k:AV):List AV->List AV->Option (Option AV)
 | [],_=>some none
 | k'::ks,v::vs=>match Fy k k' with | some true=>some (some v) | some false=>Dk k ks vs | none=>none
 | _::_,[]=>none
def By (k v:AV):List AV->List AV->Option (List AV×List AV)
 | [],[]=>some ([k],[v])
 | k'::ks,u::us=>
  match Fy k k' with
  | some true=>some (k'::ks,v::us)
  | some false=>match By k v ks us with | some (km,Zx)=>some (k'::km,u::Zx) | none=>none
  | none=>none
 | _,_=>none
def min2:AV->AV->Option AV
 | .int k x,.int _ y=>some (.int k (if y<x then y else x))
 | .bU k x,.bU _ y=>
  match k.format.order x y with
  | none=>none
  | some .lt=>some (.bU k x)
  | some .gt=>some (.bU k y)
  | some .eq=>some (.bU k (if (k.decode x).neg then x else y))
 | _,_=>none
def max2:AV->AV->Option AV
 | .int k x,.int _ y=>some (.int k (if y>x then y else x))
 | .bU k x,.bU _ y=>
  match k.format.order x y with
  | none=>none
  | some .lt=>some (.bU k y)
  | some .gt=>some (.bU k x)
  | some .eq=>some (.bU k (if (k.decode x).neg then y else x))
 | _,_=>none
def Bl (f:AV->AV->Option AV):AV->List AV->Option AV
 | a,[]=>some a
 | a,b::r=>match f a b with | some c=>Bl f c r | none=>none
def room:Nat:=1099511627776
abbrev gF:=Option (AV×Hp×Nat)
def jb (hp:Hp) (sz:Nat) (ag:Bool):AV->Option AV
 | .ptr id o=>match ay hp id with | some (.cells _ _ _ _ cs)=>iC sz ag (cs.drop o) | _=>none
 | .cg cs=>iC sz ag cs
 | _=>none
def JA (k:Nat):AV->Option AV
 | .ptr id o=>some (.ptr id (o+k))
 | .cg cs=>bif yG k cs.length then some (.cg (cs.drop k)) else none
 | _=>none
def NQ (o sz:Nat) (ag:Bool):AV->Option AV
 | .agg cs=>iC sz ag (cs.drop o)
 | _=>none
def j0 (sz i:Nat):AV->Option AV
 | .aw id o n=>bif yR i n then some (.ptr id (o+i*sz)) else none
 | .aB _ n cs=>bif yR i n then some (.cg (cs.drop (i*sz))) else none
 | _=>none
def NR (len sz i:Nat):AV->Option AV
 | .ptr id o=>bif yR i len then some (.ptr id (o+i*sz)) else none
 | .cg cs=>bif yR i len then some (.cg (cs.drop (i*sz))) else none
 | _=>none
def mU (i:Nat):AV->Option AV
 | .str s=>match s[i]? with | some b=>some (.int .u8 b) | none=>none
 | _=>none
def NS (len sz:Nat) (ag:Bool) (i:Nat):AV->Option AV
 | .agg cs=>bif yR i len then iC sz ag (cs.drop (i*sz)) else none
 | _=>none
def Bm (hp:Hp) (k:AV):AV->Option (Option AV)
 | .kh=>some none
 | .map id=>match ay hp id with | some (.mp _ ks vs)=>Dk k ks vs | _=>none
 | .jw ks vs=>Dk k ks vs
 | _=>none
def fE (hp:Hp):Nat->AV->Option AV
 | 0,.str s=>some (.int .i64 s.length)
 | 1,.aa=>some (.int .i64 0)
 | 1,.aB _ n _=>some (.int .i64 n)
 | 1,.aw _ _ n=>some (.int .i64 n)
 | 2,.kh=>some (.int .i64 0)
 | 2,.jw ks _=>some (.int .i64 ks.length)
 | 2,.map id=>match ay hp id with | some (.mp _ ks _)=>some (.int .i64 ks.length) | _=>none
 | _,_=>none
def bG (tm:Env) (hp:Hp):Op->Option AV
 | .cw x=>some (aF tm x)
 | .pick c a b=>match aF tm c with | .bool t=>some (bif t then aF tm a else aF tm b) | _=>none
 | .gk zero parts=>match fill tm zero parts with | some cs=>some (.agg cs) | none=>none
 | .ld sz ag x=>jb hp sz ag (aF tm x)
 | .JZ x=>
  match aF tm x with
  | .ptr id o=>some (.ptr id o)
  | .cg cs=>some (.cg cs)
  | .fn f a b=>some (.fn f a b)
  | _=>none
 | .bin op x y=>binOp op (aF tm x) (aF tm y)
 | .eq ne k x y=>match jN k (aF tm x) (aF tm y) with | some r=>some (.bool (ne !=r)) | none=>none
 | .un op x=>unOp op (aF tm x)
 | .cv k x=>pC k (aF tm x)
 | .DT f first cap=>some (.fn f (dD tm first) (dD tm cap))
 | .dR k x lo hi=>fg hp k (aF tm x) tm lo hi
 | .off k x=>JA k (aF tm x)
 | .K3 o sz ag x=>NQ o sz ag (aF tm x)
 | .aU sz x i=>match du (aF tm i) with | some j=>j0 sz j (aF tm x) | none=>none
 | .Gy len sz x i=>match du (aF tm i) with | some j=>NR len sz j (aF tm x) | none=>none
 | .kW x i=>match du (aF tm i) with | some j=>mU j (aF tm x) | none=>none
 | .Gz len sz ag x i=>match du (aF tm i) with | some j=>NS len sz ag j (aF tm x) | none=>none
 | .P4 kk zero ok m k=>
  bif zB kk (aF tm k) then
   match Bm hp (aF tm k) (aF tm m) with
   | some (some v)=>some (bif ok then .ae [v,.bool true] else v)
   | some none=>some (bif ok then .ae [zero,.bool false] else zero)
   | none=>none
  else none
 | .ext i x=>match aF tm x with | .ae vs=>vs[i]? | _=>none
 | .len k x=>fE hp k (aF tm x)
 | .mn xs=>match dD tm xs with | a::r=>Bl min2 a r | []=>none
 | .mx xs=>match dD tm xs with | a::r=>Bl max2 a r | []=>none
 | _=>none
def cU (tm:Env) (hp:Hp) (ct:Nat):Op->Option (AV×Obj)
 | .box sz x=>
  let cs:=cellsOf (aF tm x)
  bif yx cs.length sz&&cu cs then some (.ptr ct 0,.cells true (aK cs) true sz cs) else none
 | .dd n sz zero parts=>
  match fill tm zero parts with
  | some cs=>bif yx cs.length (n*sz) then some (.aw ct 0 n,.cells true (aK cs) true sz cs) else none
  | none=>none
 | .gE sz bytes zero len cap=>
  match du (aF tm len),du (aF tm cap) with
  | some l,some c=>
   bif yG l c&&(yG c room&&(yG (c*bytes) room&&(yx zero.length sz&&cu zero))) then
    some (.aw ct 0 l,.cells true (aK zero) (yx l c) sz (yk l zero).flatten)
   else none
  | _,_=>none
 | .Aq=>some (.map ct,.mp true [] [])
 | .pU x=>match aF tm x with | .str s=>some (.it ct,.si s 0) | _=>none
 | _=>none
def decodeL (s:List Nat) (i:Nat):Nat×Nat:=
 let at' (k:Nat):Nat:=s.getD (i+k) 0
 let cont (k:Nat):Bool:=decide (i+k<s.length)&&at' k/64==2
 let b0:=at' 0
 if b0<0x80 then (b0,1)
 else if b0/32==6&&cont 1 then
  let c:=(b0%32)*64+at' 1%64
  if c>=0x80 then (c,2) else (ud,1)
 else if b0/16==14&&cont 1&&cont 2 then
  let c:=(b0%16)*4096+(at' 1%64)*64+at' 2%64
  if c>=0x800&&yaE c then (c,3) else (ud,1)
 else if b0/8==30&&cont 1&&cont 2&&cont 3 then
  let c:=(b0%8)*262144+(at' 1%64)*4096+(at' 2%64)*64+at' 3%64
  if c>=0x10000&&yaE c then (c,4) else (ud,1)
 else (ud,1)
def r5 (hp:Hp) (sz:Nat):AV->Option (Nat×List AV)
 | .str b=>bif yx sz 1 then some (b.length,Na b) else none
 | v=>kJ hp sz v
def cP (tm:Env) (hp:Hp) (ct:Nat):Op->gF
 | .st sz x v=>
  let new:=cellsOf (aF tm v)
  match aF tm x with
  | .ptr id o=>
   match ay hp id with
   | some (.cells true pu ex z cs)=>
    bif yx new.length sz&&yG (o+sz) cs.length&&cu new then
     some (.ae [],a6 hp id (.cells true (pu&&aK new) ex z (over o new cs)),ct)
    else none
   | _=>none
  | _=>none
 | .pT kk m k v=>
  match aF tm m with
  | .map id=>
   match ay hp id with
   | some (.mp true ks vs)=>bif !zB kk (aF tm k) then none else match By (aF tm k) (aF tm v) ks vs with | some (km,ej)=>some (.ae [],a6 hp id (.mp true km ej),ct) | none=>none
   | _=>none
  | _=>none
 | .pV x=>
  match aF tm x with
  | .it id=>
   match ay hp id with
   | some (.si s pos)=>
    bif yR pos s.length then
     match decodeL s pos with
     | (c,wd)=>some (.ae [.bool true,.int .i64 pos,.int .i32 c],a6 hp id (.si s (pos+wd)),ct)
    else some (.ae [.bool false],hp,ct)
   | _=>none
  | _=>none
 | .aR sz bytes s x=>
  match r5 hp sz (aF tm x) with
  | none=>none
  | some (m,new)=>
   match aF tm s with
   | .aa=>
    bif yx m 0 then some (.aa,hp,ct)
    else bif yG m room&&(yG (m*bytes) room&&yR 0 sz) then some (.aw ct 0 m,(ct,.cells true (aK new) false sz new)::hp,ct+1) else none
   | .aB true n cs=>
    bif yx m 0 then some (.aB true n cs,hp,ct)
    else bif yG (n+m) room&&(yG ((n+m)*bytes) room&&(yx cs.length (n*sz)&&yR 0 sz)) then some (.aw ct 0 (n+m),(ct,.cells true (aK cs&&aK new) false sz (cs++new))::hp,ct+1) else none
   | .aw id o n=>
    match ay hp id with
    | some (.cells true pu _ z cs)=>
     bif yx z sz&&(yG (n+m) room&&(yG ((n+m)*bytes) room&&(yG (o+n*sz) cs.length&&(yR 0 sz&&cu new)))) then
      some (.aw ct 0 (n+m),(ct,.cells true (pu&&aK new) false sz (slice o (n*sz) cs++new))::dK hp id,ct+1)
     else none
    | _=>none
   | _=>none
 | .mz sz d s=>
  match kJ hp sz (aF tm s),aF tm d with
  | some (m,new),.aw id o n=>
   match ay hp id with
   | some (.cells true pu ex z cs)=>
    bif yx z sz&&(yG (o+n*sz) cs.length&&cu new) then
     some (.int .i64 (min m n:Nat),a6 hp id (.cells true (pu&&aK new) ex z (over o (new.take (min m n*sz)) cs)),ct)
    else none
   | _=>none
  | _,_=>none
 | _=>none
def iX:X->List Nat | .t i=>[i] | .c _=>[]
def zH:List X->List Nat
 | []=>[]
 | x::r=>iX x++zH r
def JB:Option X->List Nat | some x=>iX x | none=>[]
def JC:List (Nat×Nat×X)->List Nat
 | []=>[]
 | (_,_,x)::r=>iX x++JC r
def kL:Op->List Nat
 | .cw x | .box _ x | .ld _ _ x | .JZ x | .un _ x | .cv _ x | .off _ x | .K3 _ _ _ x | .pU x | .pV x | .ext _ x | .len _ x=>iX x
 | .pick a b c | .pT _ a b c=>iX a++(iX b++iX c)
 | .gk _ ps | .dd _ _ _ ps=>JC ps
 | .st _ a b | .bin _ a b | .eq _ _ a b | .aU _ a b | .Gy _ _ a b | .kW a b | .Gz _ _ _ a b | .P4 _ _ _ a b | .aR _ _ a b | .mz _ a b=>iX a++iX b
 | .DT _ a b=>zH a++zH b
 | .Aq=>[]
 | .gE _ _ _ a b=>iX a++iX b
 | .dR _ x a b=>iX x++(JB a++JB b)
 | .call _ f xs=>iX f++zH xs
 | .iW _ f xs=>iX f++zH xs
 | .jB _ _ a b=>iX a++iX b
 | .kX _ _ _ a b=>iX a++iX b
 | .mn xs | .mx xs=>zH xs
def bH:Op->Nat
 | .cw _ | .pick _ _ _ | .gk _ _ | .JZ _ | .bin _ _ _ | .eq _ _ _ _ | .un _ _ | .cv _ _ | .DT _ _ _ | .off _ _ | .K3 _ _ _ _ | .aU _ _ _ | .Gy _ _ _ _ | .kW _ _ | .Gz _ _ _ _ _ | .ext _ _ | .mn _ | .mx _=>0
 | .dR .str _ _ _ | .len 0 _ | .len 1 _=>0
 | .st _ _ _ | .pT _ _ _ _ | .pV _ | .aR _ _ _ _ | .mz _ _ _ | .iW _ _ _ | .jB _ _ _ _ | .kX _ _ _ _ _ | .call .heap _ _ | .call .dyn _ _=>2
 | _=>1
def TF:Option (Nat×Bool)->List Nat | some (t,_)=>[t] | none=>[]
def CU (o:bh):List Nat:=TF o.guard++kL o.op
def FG (d:Option Nat) (l:List Nat):Bool:=match d with | some i=>jx i l | none=>false
def ai2 (d e:Option Nat):Bool:=match d,e with | some i,some j=>yx i j | _,_=>false
def MO (a b:bh):Bool:=FG a.dst (CU b)||FG b.dst (CU a)||ai2 a.dst b.dst
def Ds (sz:Nat) (ag:Bool) (t:Nat):List (Nat×Bool×Nat)->Bool
 | []=>false
 | (s,g,u)::r=>(yx s sz&&(g==ag&&yx u t))||Ds sz ag t r
def Dl (t:Nat):List bh->Bool
 | []=>true
 | o::r=> !FG o.dst [t]&&Dl t r
def IM (a b:bh) (r:List bh):Bool:=
 match a.guard,a.op,b.op with
 | none,.ld sz ag (.t t),.iW rs _ _=>Ds sz ag t rs&&Dl t (a::r)
 | none,.ld sz ag (.t t),.jB rs _ _ _=>Ds sz ag t rs&&Dl t (a::r)
 | none,.ld sz ag (.t t),.kX rs _ _ _ _=>Ds sz ag t rs&&Dl t (a::r)
 | _,_,_=>false
def Ip (a b:bh):Bool:=
 match bH a.op,bH b.op with
 | 1,2 | 2,1 | 2,2=>true
 | _,_=>false
def MP (m:Nat) (b:bh):List bh->Nat->Bool
 | [],_=>true
 | a::r,i=>(uF m i|| !(MO a b||(Ip a b&& !IM a b r)))&&MP m b r (i+1)
def EP (done:List bh):List bh->List Nat->Bool
 | [],_=>true
 | b::r,m::ms=>MP m b done 0&&EP (done++[b]) r ms
 | _::_,[]=>false
def IN (m:Nat):List bh->Nat->List (Nat×Bool×Nat)
 | [],_=>[]
 | a::r,i=>
  match uF m i,a with
  | false,⟨_,none,.ld sz ag (.t t)⟩=>(sz,ag,t)::IN m r (i+1)
  | _,_=>IN m r (i+1)
def stOp (rs:List (Nat×Bool×Nat)) (sz:Nat) (x v:X):Op:=match rs with | []=> .st sz x v | rs=> .jB rs sz x v
def ajS (rs:List (Nat×Bool×Nat)) (sz b:Nat) (x v:X):Op:=match rs with | []=> .aR sz b x v | rs=> .kX rs sz b x v
def mV (done:List bh):List bh->List Nat->List bh
 | ⟨d,g,.iW _ f xs⟩::r,m::ms=>let o:bh:=⟨d,g,.iW (IN m done 0) f xs⟩;o::mV (done++[o]) r ms
 | ⟨d,g,.st sz x v⟩::r,m::ms=>let o:bh:=⟨d,g,stOp (IN m done 0) sz x v⟩;o::mV (done++[o]) r ms
 | ⟨d,g,.aR sz b x v⟩::r,m::ms=>let o:bh:=⟨d,g,ajS (IN m done 0) sz b x v⟩;o::mV (done++[o]) r ms
 | o::r,_::ms=>o::mV (done++[o]) r ms
 | l,_=>l
abbrev aM:=Nat->Option aV
structure Lib where
 pure:Nat->Option (List AV->Option AV)
 heap:Nat->Option (Hp->Nat->List AV->gF)
abbrev cD:=VC->St->Option (Ex×St)
def dM:Nat->List AV->Env
 | _,[]=>[]
 | i,v::r=>(i,v)::dM (i+1) r
def results1 (s:St):RV->Option AV
 | .t i=>some (af s.tm i)
 | .cell i sz ag=>
  match af s.tm i with
  | .ptr id o=>match ay s.hp id with | some (.cells _ _ _ _ cs)=>iC sz ag (cs.drop o) | _=>none
  | .cg cs=>iC sz ag cs
  | _=>none
def lj (s:St):List RV->Option (List AV)
 | []=>some []
 | r::rest=>match results1 s r,lj s rest with | some v,some vs=>some (v::vs) | _,_=>none
def iT (s:St) (rs:List RV):Option AV:=
 match lj s rs with
 | some [v]=>some v
 | some vs=>some (.ae vs)
 | none=>none
def bP (P:aM) (L:Lib) (self:cD) (n:Nat) (az:List AV):Option AV:=
 match L.pure n with
 | some sp=>sp az
 | none=>
  match P n with
  | none=>none
  | some F=>
   match self F.body ⟨dM 0 az,[],0,0⟩ with
   | some (.normal,s) | some (.ret,s)=>match iT s F.fO with | some v=>result s.hp v | none=>none
   | _=>none
def S8:Ex->zY
 | .normal=> .none
 | .ret=> .ret
 | .exit id=> .exit id
def r7:Env->List Nat->List AV->Option Env
 | tm,[],[]=>some tm
 | tm,p::ps,v::vs=>r7 ((p,v)::tm) ps vs
 | _,_,_=>none
def hZ (P:aM) (L:Lib) (self:cD) (hp:Hp) (ct:Nat) (n:Nat) (az:List AV):gF:=
 match L.heap n with
 | some sp=>sp hp ct az
 | none=>
  match P n with
  | none=>none
  | some F=>
   match self F.body ⟨dM 0 az,hp,ct,ct⟩ with
   | some (.normal,s) | some (.ret,s)=>match iT s F.fO with | some v=>some (v,s.hp,s.ct) | none=>none
   | _=>none
def nM (self:cD) (hp:Hp) (ct:Nat) (l:Nat) (xs:List AV):gF:=
 match ay hp l with
 | some (.lp tm ps cQ body 0 _)=>
  match r7 tm ps xs with
  | none=>none
  | some tm'=>
   match self cQ ⟨tm',hp,ct,ct⟩ with
   | some (.normal,s1)=>
    match ay s1.hp l with
    | some (.lp jP DU B0 Dm 0 Ar)=>
     match self body ⟨s1.tm,a6 s1.hp l (.lp jP DU B0 Dm 1 Ar),s1.ct,s1.ct⟩ with
     | some (ex,s2)=>
      match ay s2.hp l with
      | some (.lp sR K4 K5 JD 1 _)=>
       match ex with
       | .normal=>some (.bool true,a6 s2.hp l (.lp sR K4 K5 JD 0 .none),s2.ct)
       | ex=>some (.bool false,a6 s2.hp l (.lp sR K4 K5 JD 2 (S8 ex)),s2.ct)
      | _=>none
     | none=>none
    | _=>none
   | _=>none
 | _=>none
def dO (P:aM) (L:Lib) (self:cD) (hp:Hp) (ct:Nat) (m:Md) (fv:AV) (xs:List AV):gF:=
 match fv with
 | .fn (.f n) first cap=>
  match m with
  | .pure=>
   match cO deep hp (first++(xs++cap)) with
   | some (az,bl)=>match bP P L self n az with | some r=>some (shut r,bl,ct) | none=>none
   | none=>none
  | .own=>
   match cO deep hp (first++(xs++cap)) with
   | some (az,bl)=>match bP P L self n az with | some r=>some (own bl ct r) | none=>none
   | none=>none
  | .heap=>hZ P L self hp ct n (first++(xs++cap))
  | .dyn=>
   bif aK (first++(xs++cap)) then
    match bP P L self n (first++(xs++cap)) with | some r=>some (shut r,hp,ct) | none=>none
   else hZ P L self hp ct n (first++(xs++cap))
 | .fn (.y l) _ _=>
  match m with
  | .heap | .dyn=>nM self hp ct l xs
  | _=>none
 | _=>none
def Ud:AV->AV->Bool
 | .int k a,.int k' b=>decide (k=k')&&a==b
 | .bool a,.bool b=>a==b
 | .str a,.str b=>db a b
 | .aa,.aa=>true
 | .kR,.kR=>true
 | .ptr i o,.ptr j p=>yx i j&&yx o p
 | .aw i o n,.aw j p m=>yx i j&&(yx o p&&yx n m)
 | .map i,.map j=>yx i j
 | _,_=>false
def oY (tm:Env) (hp ak:Hp):List (Nat×Bool×Nat)->Bool
 | []=>true
 | (sz,ag,x)::r=>
  match jb hp sz ag (af tm x),jb ak sz ag (af tm x) with
  | some a,some b=>Ud a b&&oY tm hp ak r
  | _,_=>false
def nO (tm:Env) (id:Nat):List (Nat×Bool×Nat)->Bool
 | []=>true
 | (_,_,x)::r=>(match af tm x with | .ptr j _=> !yx j id | .cg _=>true | _=>false)&&nO tm id r
def bf (P:aM) (L:Lib) (self:cD) (tm:Env) (hp:Hp) (ct:Nat) (o:Op):gF:=
 match o with
 | .call m f xs=>dO P L self hp ct m (aF tm f) (dD tm xs)
 | .iW rs f xs=>
  match dO P L self hp ct .dyn (aF tm f) (dD tm xs) with
  | some (v,ak,aP)=>bif oY tm hp ak rs then some (v,ak,aP) else none
  | none=>none
 | .jB rs sz x v=>
  match aF tm x with
  | .ptr id _=>bif nO tm id rs then cP tm hp ct (.st sz x v) else none
  | _=>none
 | .kX rs sz b x v=>
  match cP tm hp ct (.aR sz b x v) with
  | some (v,ak,aP)=>bif oY tm hp ak rs then some (v,ak,aP) else none
  | none=>none
 | .st .. | .pT .. | .pV .. | .aR .. | .mz .. =>cP tm hp ct o
 | .box .. | .dd .. | .gE .. | .Aq | .pU .. =>match cU tm hp ct o with | some (v,b)=>some (v,(ct,b)::hp,ct+1) | none=>none
 | o=>match bG tm hp o with | some v=>some (v,hp,ct) | none=>none
def put (d:Option Nat) (v:AV) (tm:Env):Env:=
 match d with
 | some i=>(i,v)::tm
 | none=>tm
def dP (P:aM) (L:Lib) (self:cD):List bh->St->Option St
 | [],s=>some s
 | ⟨d,g,o⟩::r,s=>
  let want:=match g with | none=>some true | some (t,b)=>match af s.tm t with | .bool c=>some (c==b) | .ae []=>some false | _=>none
  match want with
  | some true=>
   match bf P L self s.tm s.hp s.ct o with
   | some (v,hp,ct)=>dP P L self r {s with tm:=put d v s.tm,hp:=hp,ct:=ct}
   | none=>none
  | some false=>dP P L self r {s with tm:=put d (.ae []) s.tm}
  | none=>none
def pw:List Nat->St->Option St
 | [],s=>some s
 | t::r,s=>
  match freeze deep s.hp (af s.tm t) with
  | some (v,hp)=>pw r {s with tm:=(t,v)::s.tm,hp:=hp}
  | none=>none
def bO (P:aM) (L:Lib) (self:cD):VC->St->Option (Ex×St)
 | .skip,s=>some (.normal,s)
 | .aH ops,s=>match dP P L self ops s with | some s'=>some (.normal,s') | none=>none
 | .seq a b,s=>
  match bO P L self a s with
  | some (.normal,s1)=>bO P L self b s1
  | r=>r
 | .cond x a b,s=>
  match aF s.tm x with
  | .bool t=>bif t then bO P L self a s else bO P L self b s
  | _=>none
 | .aG id a,s=>
  match bO P L self a s with
  | some (.exit j,s1)=>bif yx j id then some (.normal,s1) else some (.exit j,s1)
  | r=>r
 | .kp live,s=>some (.normal,aJ live s)
 | .fz ts,s=>match pw ts s with | some s'=>some (.normal,s') | none=>none
 | .loop live a,s=>
  match bO P L self a (aJ live s) with
  | some (.normal,s1)=>self (.loop live a) s1
  | r=>r
 | .rf f ps cQ body,s=>
  match aF s.tm f with
  | .fn (.f n) first cap=>
   match L.heap n with
   | some _=>none
   | none=>
    match hZ P L self ((s.ct,.lp s.tm ps cQ body 0 .none)::s.hp) (s.ct+1) n (first++(.fn (.y s.ct) [] []::cap)) with
    | some (_,hp,ct)=>
     match ay hp s.ct with
     | some (.lp _ _ _ _ st pe)=>
      bif yx st 1 then none else
      match pe with
      | .none=>some (.normal,{s with hp:=dK hp s.ct,ct:=ct})
      | .ret=>some (.ret,{s with hp:=dK hp s.ct,ct:=ct})
      | .exit id=>some (.exit id,{s with hp:=dK hp s.ct,ct:=ct})
     | _=>none
    | none=>none
  | _=>none
 | .exit id,s=>some (.exit id,s)
 | .ret,s=>some (.ret,s)
def ev (P:aM) (L:Lib) (n:Nat):cD:=Nat.rec (fun _ _=>none) (fun _ ih=>bO P L ih) n
def Zy (P:aM) (L:Lib) (n:Nat) (f:Nat) (az:List AV):Option AV:=bP P L (ev P L n) f az
end
section
open Go
structure Pl where
 b:Nat
 o:Nat
 e:Nat
 z:Nat
abbrev Mp:=Nat->Option Pl
section
variable (ah:Nat->Nat) (m:Mp) (S:Nat->Prop) (w:yi)
mutual
def ai:AV->yg->Prop
 | .int k n,v=>v= .int k n
 | .bool b,v=>v= .bool b
 | .bU k b,v=>v= .float k b
 | .str s,v=>∃t:ByteArray,v= .string t/\t.data.toList.map xb=s
 | .kR,v=>v= .pointer none
 | .ptr id o,v=>∃p,m id=some p/\v= .pointer (some ⟨p.b,p.o+o,none⟩)
 | .cg cs,v=>∃b o,v= .pointer (some ⟨b,o,none⟩)/\(cs=[]\/S b)/\aK cs=true/\bW cs b o
 | .aa,v=>v= .slice none 0 0
 | .aB ex n cs,v=>(∃b o c,v= .slice (some ⟨b,o,none⟩) n c/\n<=c/\(ex=true->c=n)/\(cs=[]\/S b)/\aK cs=true/\bW cs b o)\/(∃a,v= .slice (some a) 0 0/\n=0/\cs=[])
 | .bw _ _ _ _,_=>False
 | .aw id o n,v=>∃p c,m id=some p/\v= .slice (some ⟨p.b,p.o+o,none⟩) n c/\n<=c/\o+c*p.z=p.e
 | .fn (.f g) first cap,v=>∃fi ca:Array yg,v= .func (.func (ah g)) fi ca/\aA first fi.toList/\aA cap ca.toList
 | .fn (.y l) _ _,v=>∃p,m l=some p/\v= .func (.yield p.b) #[] #[]
 | .iZ,v=>v= .nilFunc
 | .kh,v=>v= .map none
 | .map id,v=>∃p,m id=some p/\v= .map (some p.b)
 | .jw ks vs,v=>∃b es clock,v= .map (some b)/\S b/\aK ks=true/\aK vs=true/\w.heap[b]? =some (.map es clock)/\
   aA ks (es.toList.map (·.key))/\aA vs (es.toList.map (·.val))
 | .it id,v=>∃p,m id=some p/\v= .pointer (some ⟨p.b,0,none⟩)
 | .agg cs,v=>∃xs:Array yg,v= .agg xs/\aA cs xs.toList
 | .ae cs,v=>∃xs:Array yg,v= .tuple xs/\aA cs xs.toList
 | .undef,_=>True
def aA:List AV->List yg->Prop
 | [],us=>us=[]
 | c::cs,us=>∃u r,us=u::r/\ai c u/\aA cs r
def bW:List AV->Nat->Nat->Prop
 | [],_,_=>True
 | c::cs,b,o=>(∃u,w.cell? ⟨b,o,none⟩=some u/\ai c u)/\bW cs b (o+1)
end
end
def fX (S:Nat->Prop) (w w':yi):Prop:=∀b,S b->w'.heap[b]? =w.heap[b]?
def Me {w w':yi} {b o:Nat} (h:w'.heap[b]? =w.heap[b]?):w'.cell? ⟨b,o,none⟩=w.cell? ⟨b,o,none⟩:=by
 simp only [World.cell?,h]
section
variable {ah:Nat->Nat} {m m':Mp} {S S':Nat->Prop} {w w':yi}
mutual
def lY (hm:∀id p,m id=some p->m' id=some p) (hS:∀b,S b->S' b) (hw:fX S w w'):
  ∀(v:AV) (u:yg),ai ah m S w v u->ai ah m' S' w' v u
 | .int _ _,_,h | .bool _,_,h | .bU _ _,_,h | .str _,_,h | .kR,_,h | .aa,_,h | .iZ,_,h | .kh,_,h | .undef,_,h=>by
  simpa only [ai] using h
 | .ptr id o,u,h=>by
  simp only [ai] at h ⊢;obtain ⟨p,h1,h2⟩:=h;exact ⟨p,hm _ _ h1,h2⟩
 | .cg cs,u,h=>by
  simp only [ai] at h ⊢;obtain ⟨b,o,h1,h2,h3,h4⟩:=h;refine ⟨b,o,h1,h2.imp id (hS b),h3,?_⟩;rcases h2 with rfl | h2
  ·simp only [bW]
  ·exact Rw hm hS hw cs b o h2 h4
 | .aB ex n cs,u,h=>by
  simp only [ai] at h ⊢;rcases h with ⟨b,o,c,h1,h2,h3,h4,h5,h6⟩ | h
  ·refine .inl ⟨b,o,c,h1,h2,h3,h4.imp id (hS b),h5,?_⟩;rcases h4 with rfl | h4
   ·simp only [bW]
   ·exact Rw hm hS hw cs b o h4 h6
  ·exact .inr h
 | .bw _ _ _ _,u,h=>by simp only [ai] at h
 | .aw id o n,u,h=>by
  simp only [ai] at h ⊢;obtain ⟨p,c,h1,h2⟩:=h;exact ⟨p,c,hm _ _ h1,h2⟩
 | .fn (.f g) first cap,u,h=>by
  simp only [ai] at h ⊢;obtain ⟨fi,ca,h1,h2,h3⟩:=h;exact ⟨fi,ca,h1,iw hm hS hw first _ h2,iw hm hS hw cap _ h3⟩
 | .fn (.y l) _ _,u,h=>by
  simp only [ai] at h ⊢;obtain ⟨p,h1,h2⟩:=h;exact ⟨p,hm _ _ h1,h2⟩
 | .map id,u,h=>by
  simp only [ai] at h ⊢;obtain ⟨p,h1,h2⟩:=h;exact ⟨p,hm _ _ h1,h2⟩
 | .jw ks vs,u,h=>by
  simp only [ai] at h ⊢;obtain ⟨b,es,clock,h1,h2,h3,h4,h5,h6,h7⟩:=h;exact ⟨b,es,clock,h1,hS b h2,h3,h4,(hw b h2).trans h5,iw hm hS hw ks _ h6,iw hm hS hw vs _ h7⟩
 | .it id,u,h=>by
  simp only [ai] at h ⊢;obtain ⟨p,h1,h2⟩:=h;exact ⟨p,hm _ _ h1,h2⟩
 | .agg cs,u,h=>by
  simp only [ai] at h ⊢;obtain ⟨xs,h1,h2⟩:=h;exact ⟨xs,h1,iw hm hS hw cs _ h2⟩
 | .ae cs,u,h=>by
  simp only [ai] at h ⊢;obtain ⟨xs,h1,h2⟩:=h;exact ⟨xs,h1,iw hm hS hw cs _ h2⟩
def iw (hm:∀id p,m id=some p->m' id=some p) (hS:∀b,S b->S' b) (hw:fX S w w'):
  ∀(vs:List AV) (us:List yg),aA ah m S w vs us->aA ah m' S' w' vs us
 | [],us,h=>by simpa only [aA] using h
 | v::r,us,h=>by
  simp only [aA] at h ⊢;obtain ⟨u,t,h1,h2,h3⟩:=h;exact ⟨u,t,h1,lY hm hS hw v u h2,iw hm hS hw r t h3⟩
def Rw (hm:∀id p,m id=some p->m' id=some p) (hS:∀b,S b->S' b) (hw:fX S w w'):
  ∀(cs:List AV) (b o:Nat),S b->bW ah m S w cs b o->bW ah m' S' w' cs b o
 | [],_,_,_,_=>by simp only [bW]
 | c::cs,b,o,hb,h=>by
  simp only [bW] at h ⊢;obtain ⟨⟨u,h1,h2⟩,h3⟩:=h;exact ⟨⟨u,(Me (hw b hb)).trans h1,lY hm hS hw c u h2⟩,Rw hm hS hw cs b (o+1) hb h3⟩
end
end
end
section
open Go
structure Hint where
 n:Nat
 ck:FuncId->Option Nat
 live:Nat->List Nat
 out:Nat->Option (List Nat)
 mode:Nat->Md
 fz:Nat->List Nat
section
variable (P:y9) (H:Hint)
mutual
def eL:yg->AV
 | .int k n=> .int k n
 | .bool b=> .bool b
 | .float k b=> .bU k b
 | .string s=> .str (s.data.toList.map xb)
 | .pointer none=> .kR
 | .slice none 0 0=> .aa
 | .map none=> .kh
 | .nilFunc=> .iZ
 | .agg ⟨cs⟩=> .agg (E1 cs)
 | .tuple ⟨cs⟩=> .ae (E1 cs)
 | _=> .undef
def E1:List yg->List AV
 | []=>[]
 | v::r=>eL v::E1 r
end
def aS:xz->X
 | .tmp t=> .t t
 | .const v=> .c (eL v)
 | .global _=> .c .undef
 | .func f=>match H.ck f with | some g=> .c (.fn (.f g) [] []) | none=> .c .undef
def ig:List xz->List X
 | []=>[]
 | x::r=>aS H x::ig r
def cR (t:yB):Option Nat:=match P.info? t with | some i=>some i.size | none=>none
def B1 (t:yB):Option Nat:=match P.info? t with | some i=>some i.bytes | none=>none
def mW (t:yB):Option AV:=match P.info? t with | some i=>(match i.zero with | some v=>some (eL v) | none=>none) | none=>none
def dU (t:yB):Option Bool:=match P.underlying t with | some (.struct _) | some (.array _ _)=>some true | some _=>some false | none=>none
def bad:Op:= .call .pure (.c .undef) []
def partsOf (place:Nat->Option (Nat×Nat)):List (Nat×xz)->Option (List (Nat×Nat×X))
 | []=>some []
 | (i,x)::r=>
  match place i,partsOf place r with
  | some (o,s),some l=>some ((o,s,aS H x)::l)
  | _,_=>none
def ED (self:yB->Option (List Nat)):List uJ->Nat->Option (List Nat)
 | [],_=>some []
 | f::r,o=>
  match self f.type,cR P f.type with
  | some ks,some s=>
   bif f.name != "_"&&yx f.offset o&&yx ks.length s&& !P.stoodInHeld f.type then
    (match ED self r (o+s) with | some l=>some (ks++l) | none=>none)
   else none
  | _,_=>none
def kinds:Nat->yB->Option (List Nat)
 | 0,_=>none
 | n+1,t=>
  match P.underlying t with
  | some .bool=>some [0]
  | some (.int _)=>some [1]
  | some .string=>some [2]
  | some (.struct fs)=>ED P (fun u=>kinds n u) fs.toList 0
  | some (.array k e)=>
   match kinds n e,cR P e with
   | some ks,some s=>bif yx ks.length s&& !P.stoodInHeld e then some (yk k ks).flatten else none
   | _,_=>none
  | _=>none
def keyOf (t:yB):Option Nat:=
 match P.underlying t with
 | some .bool=>some 0
 | some (.int _)=>some 1
 | some .string=>some 2
 | _=>none
def rW (ne:Bool) (t:yB) (a b:xz):Op:=
 match kinds P 20 t with
 | some ks=>bif P.stoodInHeld t||P.eqGuardType P.depth t then bad else .eq ne (.ag ks) (aS H a) (aS H b)
 | none=>bad
def qQ (ne:Bool) (op:wW) (t:yB) (a b:xz):Op:=
 match P.underlying t with
 | some (.int _) | some .string | some (.float _)=> .bin op (aS H a) (aS H b)
 | some .bool=> .eq ne .b (aS H a) (aS H b)
 | some (.slice _)=> .eq ne .sl (aS H a) (aS H b)
 | some (.func _ _ _)=> .eq ne .fn (aS H a) (aS H b)
 | some (.struct _) | some (.array _ _)=>rW P H ne t a b
 | _=>bad
def bc (k:Nat) (o:y8):Op:=
 let x (y:xz):X:=aS H y
 match o.op with
 | .move a | .assign a=> .cw (x a)
 | .pick c a b=> .pick (x c) (x a) (x b)
 | .alloc t=>match cR P t,mW P t with | some s,some z=> .box s (.c z) | _,_=>bad
 | .box t v=>match cR P t with | some s=> .box s (x v) | none=>bad
 | .build t parts=>
  match P.underlying t,mW P t with
  | some (.struct fs),some (.agg z)=>
   match fs.toList.mapM (fun f=>(P.info? f.type).map fun i=>(f.offset,i.size)) with
   | some pl=>(match partsOf H (fun i=>pl[i]?) parts.toList with | some ps=> .gk z ps | none=>bad)
   | none=>bad
  | some (.array _ e),some (.agg z)=>
   match cR P e with
   | some s=>(match partsOf H (fun i=>some (i*s,s)) parts.toList with | some ps=> .gk z ps | none=>bad)
   | none=>bad
  | _,_=>bad
 | .buildSlice t n parts=>
  match P.underlying t with
  | some (.slice e)=>
   match cR P e,mW P e with
   | some s,some z=>
    bif yG (n*s) 16777216 then
     (match partsOf H (fun i=>some (i*s,s)) parts.toList with | some ps=> .dd n s (yk n (cellsOf z)).flatten ps | none=>bad)
    else bad
   | _,_=>bad
  | _=>bad
 | .load t a=>match cR P t,dU P t with | some s,some ag=> .ld s ag (x a) | _,_=>bad
 | .store t a v=>match cR P t with | some s=> .st s (x a) (x v) | none=>bad
 | .nilCheck a=> .JZ (x a)
 | .binOp op t a b _=>
  match op with
  | .eql=>qQ P H false op t a b
  | .neq=>qQ P H true op t a b
  | _=> .bin op (x a) (x b)
 | .unOp op _ a=> .un op (x a)
 | .convert s d a=>
  match P.underlying s,P.underlying d with
  | some (.int _),some (.int k) | some (.float _),some (.int k)=> .cv (.toInt k) (x a)
  | some (.int _),some (.float k) | some (.float _),some (.float k)=> .cv (.toFlt k) (x a)
  | some .string,some .string=> .cv .str (x a)
  | _,_=>bad
 | .makeFunc (.func f) first cap=>match H.ck f with | some g=> .DT (.f g) (ig H first.toList) (ig H cap.toList) | none=>bad
 | .makeMap t none=>match P.underlying t with | some (.map ke _)=>(match keyOf P ke with | some _=> .Aq | none=>bad) | _=>bad
 | .makeSlice t l c=>
  match P.underlying t with
  | some (.slice e)=>(match cR P e,B1 P e,mW P e with | some s,some b,some z=> .gE s b (cellsOf z) (x l) (x c) | _,_,_=>bad)
  | _=>bad
 | .slice t a lo hi none=>
  match P.underlying t with
  | some .string=> .dR .str (x a) (lo.map x) (hi.map x)
  | some (.slice e)=>(match cR P e with | some s=> .dR (.sl s) (x a) (lo.map x) (hi.map x) | none=>bad)
  | some (.array n e)=>(match cR P e with | some s=> .dR (.ar n s) (x a) (lo.map x) (hi.map x) | none=>bad)
  | _=>bad
 | .fieldAddr t a i=>
  match P.underlying t with
  | some (.struct fs)=>
   match fs[i]? with
   | some f=>(match cR P f.type with | some (_+1)=> .off f.offset (x a) | _=>bad)
   | none=>bad
  | _=>bad
 | .field t a i=>
  match P.underlying t with
  | some (.struct fs)=>
   match fs[i]? with
   | some f=>(match cR P f.type,dU P f.type with | some s,some ag=> .K3 f.offset s ag (x a) | _,_=>bad)
   | none=>bad
  | _=>bad
 | .indexAddr t a i=>
  match P.underlying t with
  | some (.slice e)=>(match cR P e with | some s=> .aU s (x a) (x i) | none=>bad)
  | some (.array n e)=>(match cR P e with | some s=> .Gy n s (x a) (x i) | none=>bad)
  | _=>bad
 | .index t a i=>
  match P.underlying t with
  | some .string=> .kW (x a) (x i)
  | some (.array n e)=>(match cR P e,dU P e with | some s,some ag=> .Gz n s ag (x a) (x i) | _,_=>bad)
  | _=>bad
 | .lookup t a i ok=>
  match P.underlying t with
  | some (.map ke e)=>(match keyOf P ke,mW P e with | some kk,some z=> .P4 kk z ok (x a) (x i) | _,_=>bad)
  | _=>bad
 | .mapUpdate t a i v | .insert t a i v=>
  match P.underlying t with
  | some (.map ke _)=>(match keyOf P ke with | some kk=> .pT kk (x a) (x i) (x v) | none=>bad)
  | _=>bad
 | .range t a=>match P.underlying t with | some .string=> .pU (x a) | _=>bad
 | .next it true=> .pV (x it)
 | .extract t i=> .ext i (x t)
 | .call c=>
  match c.callee with
  | .value f=>(match H.mode k with | .dyn=> .iW [] (x f) (ig H c.args.toList) | md=> .call md (x f) (ig H c.args.toList))
  | .builtin b=>
   match b,c.args.toList,c.argTypes.toList with
   | .append,[s,a],[t,u]=>
    match P.underlying t,P.underlying u with
    | some (.slice e),some (.slice _) | some (.slice e),some .string=>
     (match cR P e,B1 P e,mW P e with | some sz,some cJ,some z=>(bif yx (cellsOf z).length sz then .aR sz cJ (x s) (x a) else bad) | _,_,_=>bad)
    | _,_=>bad
   | .len,[a],[t]=>
    match P.underlying t with
    | some (.array n _)=> .cw (.c (.int .i64 n))
    | some .string=> .len 0 (x a)
    | some (.slice _)=> .len 1 (x a)
    | some (.map _ _)=> .len 2 (x a)
    | _=>bad
   | .copy,[d,s],[t,_]=>
    match P.underlying t with
    | some (.slice e)=>(match cR P e with | some sz=> .mz sz (x d) (x s) | none=>bad)
    | _=>bad
   | .min,l,_=> .mn (ig H l)
   | .max,l,_=> .mx (ig H l)
   | _,_,_=>bad
  | _=>bad
 | _=>bad
def S9 (o:y8):Bool:=match o.op with | .call {callee:= .value _,..}=>true | _=>false
def JE (d:Option Nat):Bool:=match d with | some i=>yR i H.n | none=>true
def zP (n:Nat):List Nat->Bool
 | []=>true
 | i::r=>yR i n&&zP n r
def CO (ops:Array y8):List y8->Nat->List bh×Nat
 | [],k=>([],k)
 | o::r,k=>
  let g:=match o.guard with
   | none=>some none
   | some (j,b)=>match (ops[j]?).bind (·.dst) with | some t=>some (some (t,b)) | none=>none
  match CO ops r (k+(bif S9 o then 1 else 0)) with
  | (l,k')=>
   match g,JE H o.dst with
   | some g,true=>(⟨o.dst,g,bc P H k o⟩::l,k')
   | _,_=>(⟨o.dst,none,bad⟩::l,k')
def Ba (acc:List Nat):List Edge->Nat
 | []=>0
 | e::r=>bif Region.binds .any e then (2^e.on|||acc.getD e.on 0)|||Ba acc r else Ba acc r
def mi (acc:List Nat):List y8->List Nat
 | []=>acc
 | o::r=>mi (acc++[Ba acc o.after.toList]) r
def Iq:List y8->Nat->Bool
 | [],_=>true
 | o::r,i=>o.after.toList.all (fun e=> !Region.binds .any e||yR e.on i)&&Iq r (i+1)
def Nb (ops:Array y8) (draw:Bool) (k:Nat):List bh×Nat:=
 match CO P H ops ops.toList k with
 | (l,k')=>
  bif draw then
   (let ms:=mi [] ops.toList
    let l':=mV [] l ms
    bif Iq ops.toList 0&&EP [] l' ms then (l',k') else ([⟨none,none,bad⟩],k'))
  else (l,k')
def avL:wU->Bool
 | .loop _=>true
 | _=>false
def comp:wU->Nat->Nat->VC×Nat×Nat
 | .skip,l,k | .label _,l,k=>(.skip,l,k)
 | .region i ops d,l,k=>match Nb P H ops d k with | (r,k')=>((match H.fz i with | []=> .aH r | t::ts=> .seq (.fz (t::ts)) (.aH r)),l,k')
 | .seq a b,l,k=>match comp a l k with | (a',l1,k1)=>match comp b l1 k1 with | (b',l2,k2)=>(.seq a' b',l2,k2)
 | .cond c a b,l,k=>
  match comp a (l+1) k with
  | (a',l1,k1)=>
   match comp b l1 k1 with
   | (b',l2,k2)=>(match H.out l with | some o=> .seq (.cond (aS H c) a' b') (.kp o) | none=> .cond (aS H c) a' b',l2,k2)
 | .block id a,l,k=>
  match comp a l k with
  | (a',r)=>(match avL a,H.out l with | true,some o=> .seq (.aG id a') (.kp o) | _,_=> .aG id a',r)
 | .loop a,l,k=>match comp a (l+1) k with | (a',r)=>(.loop (H.live l) a',r)
 | .rangeFunc f ps cQ body,l,k=>
  match comp cQ l k with | (as',l1,k1)=>match comp body l1 k1 with | (b',l2,k2)=>(bif zP H.n ps.toList then .rf (aS H f) ps.toList as' b' else .aH [⟨none,none,bad⟩],l2,k2)
 | .exit id,l,k=>(.exit id,l,k)
 | .scope a,l,k=>comp a l k
 | .ret,l,k=>(.ret,l,k)
 | .goto _,l,k | .refuse _,l,k=>(.aH [⟨none,none,bad⟩],l,k)
def oZ:List ResultVar->Option (List RV)
 | []=>some []
 | .tmp t::r=>match oZ r with | some l=>some (.t t::l) | none=>none
 | .cell a t::r=>match cR P t,dU P t,oZ r with | some s,some ag,some l=>some (.cell a s ag::l) | _,_,_=>none
def E2 (fn:Func):Option aV:=
 match fn.body,oZ P fn.results.toList with
 | some c,some rs=>bif yG H.n fn.ntmps then some ⟨rs,(comp P H c 0 0).1⟩ else none
 | _,_=>none
end
end
section
open Go
structure bA where
 P:y9
 aE:Lib
 ah:Nat->Nat
 prog:aM
 hint:Nat->Hint
 w0:yi
def B2 (P:y9) (H:Hint) (v:VC) (c:wU):Prop:=∃l k,(comp P H c l k).1=v
def Bz:Nat->LoopState
 | 0=> .ready
 | 1=> .busy
 | 2=> .done
 | _=> .exhausted
def zI:zY->Option wU
 | .none=>none
 | .ret=>some .ret
 | .exit id=>some (.exit id)
section
variable (O:bA) (m:Mp) (S:Nat->Prop) (w:yi)
def cm (tm:Env) (tmps:Array yg):Prop:=∀i,ai O.ah m S w (af tm i) (tmps.getD i undef)
def fM (id:Nat):Obj->Prop
 | .cells rw pu ex sz cs=>∃p arr t,m id=some p/\w.heap[p.b]? =some (.cells arr t (0,0))/\p.z=sz/\cs.length<=p.e/\p.o+p.e<=arr.size/\
   (ex=true->cs.length=p.e)/\bW O.ah m S w cs p.b p.o/\(pu=true->aK cs=true)/\(rw=true->¬S p.b)/\(rw=false->S p.b)
 | .mp rw ks vs=>∃p es clock,m id=some p/\w.heap[p.b]? =some (.map es clock)/\aA O.ah m S w ks (es.toList.map (·.key))/\aA O.ah m S w vs (es.toList.map (·.val))/\
   (rw=true->¬S p.b)/\(rw=false->S p.b)
 | .si s pos=>∃p t,m id=some p/\w.heap[p.b]? =some (.stringIter t pos)/\t.data.toList.map xb=s/\¬S p.b
 | .lp tm ps cQ body st pe=>∃p l h,m id=some p/\w.heap[p.b]? =some (.loop l)/\¬S p.b/\l.state=Bz st/\st<=2/\l.pending=zI pe/\cm O m S w tm l.tmps/\
   l.params.toList=ps/\B2 O.P (O.hint h) cQ l.assign/\B2 O.P (O.hint h) body l.body/\(O.hint h).n<=l.tmps.size/\zP (O.hint h).n ps=true
structure aW (hp:Hp) (ct:Nat):Prop where
 obj:∀id o p,ay hp id=some o->m id=some p->fM O m S w id o
 lt:∀id p,m id=some p->id<ct
 inj:∀i j oi oj pi pj,ay hp i=some oi->ay hp j=some oj->m i=some pi->m j=some pj->pi.b=pj.b->i=j
 slt:∀b,S b->b<w.heap.size
 blt:∀id p,m id=some p->p.b<w.heap.size
 low:∀id p,m id=some p->O.w0.heap.size<=p.b
 lG:∀b,b<O.w0.heap.size->w.heap[b]? =O.w0.heap[b]?
 fY:O.w0.heap.size<=w.heap.size
 aZ:∀id o,ay hp id=some o->id<ct
end
def ek (m:Mp) (hp:Hp) (b:Nat):Prop:=∃id o p,ay hp id=some o/\m id=some p/\p.b=b
structure cp (m:Mp) (S:Nat->Prop) (w:yi) (hp:Hp) (m':Mp) (S':Nat->Prop) (w':yi) (ak:Hp) (base:Nat):Prop where
 os:w'.os=w.os
 tape:w'.tape=w.tape
 output:w'.output=w.output
 size:w.heap.size<=w'.heap.size
 same:∀b,b<w.heap.size->¬ek m hp b->w'.heap[b]? =w.heap[b]?
 sub:∀b,S b->S' b
 still:∀b,S b->w'.heap[b]? =w.heap[b]?
 new:∀b,S' b->S b\/ek m hp b\/w.heap.size<=b
 own:∀b,ek m' ak b->ek m hp b\/w.heap.size<=b
 old:∀id p,id<base->m id=some p->m' id=some p
 loops:∀(b:Nat) (r:Loop),w.heap[b]? =some (.loop r)->∃r':Loop,w'.heap[b]? =some (.loop r')
def cp.refl {m:Mp} {S:Nat->Prop} {w:yi} {hp:Hp} {base:Nat}:cp m S w hp m S w hp base:=
 ⟨rfl,rfl,rfl,yv _,fun _ _ _=>rfl,fun _ h=>h,fun _ _=>rfl,fun _ h=> .inl h,fun _ h=> .inl h,fun _ _ _ h=>h,fun _ r h=>⟨r,h⟩⟩
def cp.trans {m m' K6:Mp} {S S' B3:Nat->Prop} {w w' P5:yi} {hp ak J5:Hp} {base:Nat}
  (h:cp m S w hp m' S' w' ak base) (k:cp m' S' w' ak K6 B3 P5 J5 base):cp m S w hp K6 B3 P5 J5 base where
 os:=k.os.trans h.os
 tape:=k.tape.trans h.tape
 output:=k.output.trans h.output
 size:=xj h.size k.size
 same b hb ho:=(k.same b (Nat.lt_of_lt_of_le hb h.size) (fun lP=>(h.own b lP).elim ho (fun h1=>by omega))).trans (h.same b hb ho)
 sub b hb:=k.sub b (h.sub b hb)
 still b hb:=(k.still b (h.sub b hb)).trans (h.still b hb)
 new b hb:=by
  rcases k.new b hb with h1 | h1 | h1
  ·exact h.new b h1
  ·rcases h.own b h1 with h2 | h2
   ·exact .inr (.inl h2)
   ·exact .inr (.inr h2)
  ·exact .inr (.inr (xj h.size h1))
 own b hb:=by
  rcases k.own b hb with h1 | h1
  ·exact h.own b h1
  ·exact .inr (xj h.size h1)
 old id p hid hp:=k.old id p hid (h.old id p hid hp)
 loops b r hb:=let ⟨r',h1⟩:=h.loops b r hb;k.loops b r' h1
end
section
open Go
section
variable {ah:Nat->Nat} {m:Mp} {S:Nat->Prop} {w:yi}
mutual
def Nc:∀v:yg,ai ah m S w (eL v) v
 | .int _ _ | .bool _ | .float _ _=>by simp only [eL,ai]
 | .string s=>by simp only [eL,ai];exact ⟨s,rfl,rfl⟩
 | .pointer none=>by simp only [eL,ai]
 | .pointer (some _)=>by simp only [eL,ai]
 | .slice none 0 0=>by simp only [eL,ai]
 | .slice none 0 (_+1)=>by simp only [eL,ai]
 | .slice none (_+1) _=>by simp only [eL,ai]
 | .slice (some _) _ _=>by simp only [eL,ai]
 | .map none=>by simp only [eL,ai]
 | .map (some _)=>by simp only [eL,ai]
 | .nilFunc=>by simp only [eL,ai]
 | .agg ⟨cs⟩=>by simp only [eL,ai];exact ⟨⟨cs⟩,rfl,R7 cs⟩
 | .tuple ⟨cs⟩=>by simp only [eL,ai];exact ⟨⟨cs⟩,rfl,R7 cs⟩
 | .complex _ _ _ | .chan _ | .func _ _ _ | .iface _ _ | .nilIface=>by simp only [eL,ai]
def R7:∀l:List yg,aA ah m S w (E1 l) l
 | []=>by simp only [E1,aA]
 | v::r=>by simp only [E1,aA];exact ⟨v,r,rfl,Nc v,R7 r⟩
end
end
def fR (O:bA) (H:Hint):Prop:=∀f g,H.ck f=some g->O.ah g=f
section
variable {O:bA} {H:Hint} {m:Mp} {S:Nat->Prop} {w:yi} {tm:Env} {a:Act}
def cB (hH:fR O H) (ht:cm O m S w tm a.tmps) (x:xz):ai O.ah m S w (aF tm (aS H x)) (a.eval x):=by
 cases x with
 | tmp t=>exact ht t
 | const v=>simp only [aS,aF,Act.eval];exact Nc v
 | global g=>simp only [aS,aF,ai]
 | func f=>
  simp only [aS,Act.eval]
  cases hr:H.ck f with
  | none=>simp only [aF,ai]
  | some g=>simp only [aF,ai,hH f g hr,aA];exact ⟨#[],#[],rfl,rfl,rfl⟩
def CV (hH:fR O H) (ht:cm O m S w tm a.tmps):∀l:List xz,aA O.ah m S w (dD tm (ig H l)) (l.map a.eval)
 | []=>by simp only [ig,dD,List.map_nil,aA]
 | x::r=>by simp only [ig,dD,xc,aA];exact ⟨_,_,rfl,cB hH ht x,CV hH ht r⟩
end
section
variable {O:bA} {m:Mp} {S:Nat->Prop} {w:yi}
def rM {ah:Nat->Nat}:∀(k:Nat) (cs:List AV) (b o:Nat),bW ah m S w cs b o->bW ah m S w (cs.drop k) b (o+k)
 | 0,cs,b,o,h=>by simpa using h
 | k+1,[],b,o,_=>by simp only [List.drop_nil,bW]
 | k+1,c::cs,b,o,h=>by
  simp only [bW] at h
  have:=rM k cs b (o+1) h.2
  rw [List.drop_succ_cons,show o+(k+1)=o+1+k by omega];exact this
def CF {ah:Nat->Nat}:∀(k:Nat) (cs:List AV) (b o:Nat),bW ah m S w cs b o->bW ah m S w (cs.take k) b o
 | 0,cs,b,o,_=>by simp only [uK,bW]
 | k+1,[],b,o,_=>by simp only [List.take_nil,bW]
 | k+1,c::cs,b,o,h=>by
  simp only [bW,wg] at h ⊢;exact ⟨h.1,CF k cs b (o+1) h.2⟩
def zo {ah:Nat->Nat}:∀(cs:List AV) (b o:Nat),bW ah m S w cs b o->
  ∃us:List yg,aA ah m S w cs us/\us.length=cs.length/\∀j u,us[j]? =some u->w.cell? ⟨b,o+j,none⟩=some u
 | [],b,o,_=>⟨[],by simp only [aA],rfl,fun j u h=>by simp at h⟩
 | c::cs,b,o,h=>by
  simp only [bW] at h;obtain ⟨⟨u,h1,h2⟩,h3⟩:=h;obtain ⟨us,h4,h5,h6⟩:=zo cs b (o+1) h3;refine ⟨u::us,by simp only [aA];exact ⟨u,us,rfl,h2,h4⟩,by simp [h5],fun j v hv=>?_⟩
  cases j with
  | zero=>simp at hv;subst hv;simpa using h1
  | succ j=>simp at hv;have:=h6 j v hv;rw [show o+(j+1)=o+1+j by omega];exact this
def iU {ah:Nat->Nat}:∀(cs:List AV) (us:List yg),aA ah m S w cs us->us.length=cs.length
 | [],us,h=>by simp only [aA] at h;subst h;rfl
 | c::cs,us,h=>by
  simp only [aA] at h;obtain ⟨u,r,rfl,_,h3⟩:=h;simp [iU cs r h3]
end
end
section
open Go
def pk (b o j:Nat):(⟨b,o,none⟩:uv).add j=⟨b,o+j,none⟩:=by
 unfold Addr.add;split<;>simp_all
section
variable {P:y9} {w:yi}
def aon (t:yB) (b o:Nat) (us:List yg) (ha:dU P t=some true) (hz:cR P t=some us.length)
  (h:∀j u,us[j]? =some u->w.cell? ⟨b,o+j,none⟩=some u):(loadVar t ⟨b,o,none⟩).run P w= .ok (.agg us.toArray) w:=by
 have hl:=run_loadCells_list (P:=P) w ⟨b,o,none⟩ us (fun j u hu=>by rw [pk];exact h j u hu)
 unfold cR at hz
 cases hi:P.info? t with
 | none=>simp [hi] at hz
 | some i=>
  simp only [hi,yd] at hz;unfold dU at ha
  cases hu:P.underlying t with
  | none=>simp [hu] at ha
  | some d=>cases d<;>simp_all [loadVar,isAgg,vG,typeInfo,underlying]
def aoo (t:yB) (b o:Nat) (u:yg) (ha:dU P t=some false)
  (h:w.cell? ⟨b,o,none⟩=some u):(loadVar t ⟨b,o,none⟩).run P w= .ok u w:=by
 unfold dU at ha
 cases hu:P.underlying t with
 | none=>simp [hu] at ha
 | some d=>cases d<;>simp_all [loadVar,isAgg,underlying]
end
section
variable {O:bA} {m:Mp} {S:Nat->Prop} {w:yi}
def Nf {t:yB} {sz:Nat} {ag:Bool} {cs:List AV} {b o:Nat} {v:AV} (hz:cR O.P t=some sz) (ha:dU O.P t=some ag)
  (hr:bW O.ah m S w cs b o) (hv:iC sz ag cs=some v):∃u,(loadVar t ⟨b,o,none⟩).run O.P w= .ok u w/\ai O.ah m S w v u:=by
 cases ag with
 | true=>
  simp only [iC,yA] at hv
  cases hle:yG sz cs.length with
  | false=>simp only [hle,yV] at hv;cases hv
  | true=>
   simp only [hle,yA,yd] at hv;subst hv;obtain ⟨us,h1,h2,h3⟩:=zo _ _ _ (CF sz cs b o hr);have hlen:us.length=sz:=by
    rw [h2,yy];have:=yz hle;omega
   refine ⟨.agg us.toArray,aon t b o us ha (by rw [hlen];exact hz) h3,?_⟩
   simp only [ai];exact ⟨us.toArray,rfl,by simpa using h1⟩
 | false=>
  simp only [iC,yV] at hv
  cases cs with
  | nil=>simp at hv
  | cons c cs=>
   simp only [yd] at hv;subst hv;simp only [bW] at hr;obtain ⟨⟨u,h1,h2⟩,_⟩:=hr;exact ⟨u,aoo t b o u ha h1,h2⟩
def aey {t:yB} {sz o:Nat} {ag:Bool} {cs:List AV} {xs:Array yg} {v:AV} (hz:cR O.P t=some sz) (ha:dU O.P t=some ag)
  (hr:aA O.ah m S w cs xs.toList) (hv:iC sz ag (cs.drop o)=some v):∃u,(part t xs o).run O.P w= .ok u w/\ai O.ah m S w v u:=by
 have hd:∀(k:Nat) (cs:List AV) (us:List yg),aA O.ah m S w cs us->aA O.ah m S w (cs.drop k) (us.drop k):=by
  intro k
  induction k with
  | zero=>intro cs us h;simpa using h
  | succ k ih=>
   intro cs us h
   cases cs with
   | nil=>simp only [aA] at h;subst h;simp [aA]
   | cons c cs=>simp only [aA] at h;obtain ⟨u,r,rfl,_,h3⟩:=h;simpa using ih cs r h3
 have eU:∀(k:Nat) (cs:List AV) (us:List yg),aA O.ah m S w cs us->aA O.ah m S w (cs.take k) (us.take k):=by
  intro k
  induction k with
  | zero=>intro cs us h;simp [aA]
  | succ k ih=>
   intro cs us h
   cases cs with
   | nil=>simp only [aA] at h;subst h;simp [aA]
   | cons c cs=>simp only [aA] at h;obtain ⟨u,r,rfl,h2,h3⟩:=h;simp only [wg,aA];exact ⟨u,_,rfl,h2,ih cs r h3⟩
 have ajT:(isAgg t).run O.P w= .ok ag w:=by
  unfold dU at ha
  cases hu:O.P.underlying t with
  | none=>simp [hu] at ha
  | some d=>cases d<;>simp_all [isAgg,underlying]
 have eV:(vG t).run O.P w= .ok sz w:=by
  unfold cR at hz
  cases hi:O.P.info? t with
  | none=>simp [hi] at hz
  | some i=>simp_all [vG,typeInfo]
 have bJ:=hd o cs xs.toList hr
 cases ag with
 | true=>
  simp only [iC,yA] at hv
  cases hle:yG sz (cs.drop o).length with
  | false=>simp only [hle,yV] at hv;cases hv
  | true=>
   simp only [hle,yA,yd] at hv;subst hv;refine ⟨.agg (xs.extract o (o+sz)),by simp [part,Sem.run_bind,ajT,eV],?_⟩;simp only [ai];refine ⟨_,rfl,?_⟩
   have:=eU sz _ _ bJ
   rw [show (xs.extract o (o+sz)).toList=(xs.toList.drop o).take sz by simp [Array.toList_extract,tF]];exact this
 | false=>
  simp only [iC,yV] at hv
  cases hc:cs.drop o with
  | nil=>simp [hc] at hv
  | cons c r=>
   simp only [hc,yd] at hv;subst hv;rw [hc] at bJ;simp only [aA] at bJ;obtain ⟨u,us,h1,h2,_⟩:=bJ;have hx:xs[o]? =some u:=by
    have:xs.toList[o]? =some u:=by
     have:=congrArg (fun l=>l[0]?) h1
     simpa using this
    simpa using this
   exact ⟨u,by simp [part,Sem.run_bind,ajT,hx],h2⟩
end
end
section
open Go
def mc (t:ByteArray):List Nat:=t.data.toList.map xb
def aez:∀a b:List UInt8,db (a.map xb) (b.map xb)=(a==b)
 | [],[]=>rfl
 | [],_::_=>rfl
 | _::_,[]=>rfl
 | a::x,b::y=>by
  have h:yx a.toNat b.toNat=(a==b):=by
   rw [uy,ybS,yas];exact yaF
  simp only [xc,db,aez x y,h,List.cons_beq_cons]
def aeA:∀a b:List UInt8,BZ (a.map xb) (b.map xb)=Op.bytesLess a b
 | [],[]=>rfl
 | [],_::_=>rfl
 | _::_,[]=>rfl
 | a::x,b::y=>by
  have h:yx a.toNat b.toNat=(a==b):=by
   rw [uy,ybS,yas];exact yaF
  have h2:yR a.toNat b.toNat=decide (a<b):=by
   rw [uy];simp only [yR,ybT,xW,UInt8.lt_iff_toNat_lt];omega
  simp only [xc,BZ,Op.bytesLess,aeA x y,h,h2]
def acr (s t:ByteArray):db (mc s) (mc t)=(s.toList==t.toList):=by
 rw [mc,mc,aez,ByteArray.toList_eq,ByteArray.toList_eq]
def apK (s t:ByteArray):BZ (mc s) (mc t)=Op.bytesLess s.toList t.toList:=by
 rw [mc,mc,aeA,ByteArray.toList_eq,ByteArray.toList_eq]
def acs (s:ByteArray):(mc s).length=s.size:=by
 rw [mc,List.length_map,Lib.size_eq]
section
variable {ah:Nat->Nat} {P:y9} {m:Mp} {S:Nat->Prop} {w:yi} {t:yB}
def arq {op:wW} {k:y7} {x y:Int} {v:AV} (h:lE op k x y=some v):
  ∃u,(xK op t (.int k x) (.int k y)).run P w= .ok u w/\ai ah m S w v u:=by
 cases op<;>simp only [lE,intCmp,yd] at h
 case add=>subst h;exact ⟨_,by simp [xK,Op.intArith];rfl,by simp [ai]⟩
 case sub=>subst h;exact ⟨_,by simp [xK,Op.intArith];rfl,by simp [ai]⟩
 case mul=>subst h;exact ⟨_,by simp [xK,Op.intArith];rfl,by simp [ai]⟩
 case quo=>
  by_cases hy:y=0
  ·simp [hy] at h
  ·simp only [hy,xi,yd] at h;subst h;exact ⟨_,by simp [xK,Op.intDiv,hy];rfl,by simp [ai]⟩
 case rem=>
  by_cases hy:y=0
  ·simp [hy] at h
  ·simp only [hy,xi,yd] at h;subst h;exact ⟨_,by simp [xK,Op.intDiv,hy];rfl,by simp [ai]⟩
 case and=>subst h;exact ⟨_,by simp [xK,Op.intBits];rfl,by simp [ai]⟩
 case or=>subst h;exact ⟨_,by simp [xK,Op.intBits];rfl,by simp [ai]⟩
 case xor=>subst h;exact ⟨_,by simp [xK,Op.intBits];rfl,by simp [ai]⟩
 case andNot=>subst h;exact ⟨_,by simp [xK,Op.intBits];rfl,by simp [ai]⟩
 case shl=>cases h
 case shr=>cases h
 all_goals
  subst h;exact ⟨_,by simp [xK,Op.intCmp];rfl,by simp [ai]⟩
def abM {op:wW} {k k':y7} {x y:Int} {v:AV} (h:CN op k x y=some v):
  ∃u,(xK op t (.int k x) (.int k' y)).run P w= .ok u w/\ai ah m S w v u:=by
 unfold CN at h;by_cases hy:y<0
 ·simp [hy] at h
 ·simp only [hy,xi] at h;cases op<;>simp only [yd] at h
  case shl=>subst h;exact ⟨_,by simp [xK,Op.shift,hy];rfl,by simp [ai]⟩
  case shr=>subst h;exact ⟨_,by simp [xK,Op.shift,hy];rfl,by simp [ai]⟩
  all_goals cases h
def ars {op:wW} {x y:ByteArray} {v:AV} (h:Jz op (mc x) (mc y)=some v):
  ∃u,(xK op t (.string x) (.string y)).run P w= .ok u w/\ai ah m S w v u:=by
 cases op<;>simp only [Jz,acr,apK,acs,yd] at h
 case add=>
  cases hle:yG (x.size+y.size) 9223372036854775807 with
  | false=>rw [hle] at h;cases h
  | true=>
   rw [hle] at h;simp only [yA,yd] at h;subst h;have aIR:=yz hle;have aBg:¬(((x.size+y.size:Nat):Int)>IntKind.i64.max):=by
    have:IntKind.i64.max=9223372036854775807:=by decide
    rw [this];omega
   refine ⟨.string (x++y),?_,?_⟩
   ·simp only [xK,Op.stringOp,yD aBg,Sem.run_pure]
   ·simp only [ai];exact ⟨x++y,rfl,by simp [mc]⟩
 all_goals first
  | (cases h;done)
  | (subst h;exact ⟨_,by simp [xK,Op.stringOp];rfl,by simp [ai]⟩)
def art {op:wW} {k:vY} {x y:Nat} {v:AV} (h:TE op k x y=some v):
  ∃u,(xK op t (.float k x) (.float k y)).run P w= .ok u w/\ai ah m S w v u:=by
 cases op<;>simp only [TE,yd] at h
 case add=>
  cases hr:k.format.add x y with
  | none=>simp [hr] at h
  | some r=>simp only [hr,yd] at h;subst h;exact ⟨.float k r,by simp [xK,Op.floatArith,hr],by simp [ai]⟩
 case sub=>
  cases hr:k.format.sub x y with
  | none=>simp [hr] at h
  | some r=>simp only [hr,yd] at h;subst h;exact ⟨.float k r,by simp [xK,Op.floatArith,hr],by simp [ai]⟩
 case mul=>
  cases hr:k.format.mul x y with
  | none=>simp [hr] at h
  | some r=>simp only [hr,yd] at h;subst h;exact ⟨.float k r,by simp [xK,Op.floatArith,hr],by simp [ai]⟩
 case quo=>
  cases hr:k.format.div x y with
  | none=>simp [hr] at h
  | some r=>simp only [hr,yd] at h;subst h;exact ⟨.float k r,by simp [xK,Op.floatArith,hr],by simp [ai]⟩
 all_goals first
  | (cases h;done)
  | (subst h;exact ⟨_,by simp [xK,Op.floatCmp];rfl,by simp [ai]⟩)
def aru {op:wW} {vx vy v:AV} {x y:yg} (hx:ai ah m S w vx x) (hy:ai ah m S w vy y) (h:VE.binOp op vx vy=some v):
  ∃u,(xK op t x y).run P w= .ok u w/\ai ah m S w v u:=by
 unfold VE.binOp at h
 split at h
 ·rename_i k a k' b;simp only [ai] at hx hy;subst hx;subst hy
  split at h
  ·exact abM h
  ·exact abM h
  ·by_cases hk:k=k'
   ·subst hk;simp only [xD] at h;exact arq h
   ·simp [hk] at h
 ·rename_i k a k' b;simp only [ai] at hx hy;subst hx;subst hy;by_cases hk:k=k'
  ·subst hk;simp only [xD] at h;exact art h
  ·simp [hk] at h
 ·rename_i a b;simp only [ai] at hx hy;obtain ⟨s,rfl,rfl⟩:=hx;obtain ⟨s',rfl,rfl⟩:=hy;exact ars h
 ·cases h
end
end
section
open Go
section
variable {ah:Nat->Nat} {P:y9} {m:Mp} {S:Nat->Prop} {w:yi} {t:yB}
def aoU {op:wW} {x y:xz} {a b:yg} (h:P.eqGuardType P.depth t=false\/∀xs ys,¬(a= .agg xs/\b= .agg ys)) (hn:a≠.nilIface):
  (eqGuard op t x y a b).run P w= .ok () w:=by
 unfold eqGuard;cases op
 all_goals first
  | rfl
  | (
    cases a
    all_goals first
     | rfl
     | exact absurd rfl hn
     | (
      cases b
      all_goals first
       | rfl
       | (
         rcases h with h | h
         ·simp [h]
         ·exact absurd ⟨rfl,rfl⟩ (h _ _))))
def avM {d:Nat} {p q:Bool} (ht:P.underlying t=some .bool):(Op.equalIn (d+1) t (.bool p) (.bool q)).run P w= .ok (p==q) w:=by
 simp [Op.equalIn,underlying,ht]
def TG {d:Nat} {e:yB} (ht:P.underlying t=some (.slice e)) (y:Option uv) (n c n' c':Nat):
  (Op.equalIn (d+1) t (.slice none n c) (.slice y n' c')).run P w= .ok y.isNone w:=by simp [Op.equalIn,underlying,ht]
def ai3 {d:Nat} {e:yB} (ht:P.underlying t=some (.slice e)) (x:uv) (n c n' c':Nat):
  (Op.equalIn (d+1) t (.slice (some x) n c) (.slice none n' c')).run P w= .ok false w:=by simp [Op.equalIn,underlying,ht]
def azJ {d:Nat} {ps rs:Array yB} {vr:Bool} (ht:P.underlying t=some (.func ps rs vr)):
  (Op.equalIn (d+1) t .nilFunc .nilFunc).run P w= .ok true w:=by simp [Op.equalIn,underlying,ht]
def ai4 {d:Nat} {ps rs:Array yB} {vr:Bool} (ht:P.underlying t=some (.func ps rs vr)) (f:Go.Fn) (a b:Array yg):
  (Op.equalIn (d+1) t .nilFunc (.func f a b)).run P w= .ok false w:=by simp [Op.equalIn,underlying,ht]
def ai5 {d:Nat} {ps rs:Array yB} {vr:Bool} (ht:P.underlying t=some (.func ps rs vr)) (f:Go.Fn) (a b:Array yg):
  (Op.equalIn (d+1) t (.func f a b) .nilFunc).run P w= .ok false w:=by simp [Op.equalIn,underlying,ht]
def MQ (x y:yg):Op.equal t x y=Op.equalIn (9999+1) t x y:=rfl
def atB {vx vy:AV} {x y:yg} {r:Bool} {e:yB} (ht:P.underlying t=some (.slice e)) (hx:ai ah m S w vx x) (hy:ai ah m S w vy y)
  (h:jN .sl vx vy=some r):(Op.equal t x y).run P w= .ok r w:=by
 rw [MQ];unfold jN at h
 split at h<;>simp_all only [yd,reduceCtorEq]
 all_goals subst h
 all_goals simp only [ai] at hx hy
 ·subst hx;subst hy;exact TG ht _ _ _ _ _
 ·rcases hy with ⟨b,o,c,rfl,_⟩ | ⟨_,rfl,_⟩<;>(subst hx;exact TG ht _ _ _ _ _)
 ·obtain ⟨p,c,_,rfl,_⟩:=hy;subst hx;exact TG ht _ _ _ _ _
 ·rcases hx with ⟨b,o,c,rfl,_⟩ | ⟨_,rfl,_⟩<;>(subst hy;exact ai3 ht _ _ _ _ _)
 ·obtain ⟨p,c,_,rfl,_⟩:=hx;subst hy;exact ai3 ht _ _ _ _ _
def atD {vx vy:AV} {x y:yg} {r:Bool} {ps rs:Array yB} {vr:Bool} (ht:P.underlying t=some (.func ps rs vr)) (hx:ai ah m S w vx x) (hy:ai ah m S w vy y)
  (h:jN .fn vx vy=some r):(Op.equal t x y).run P w= .ok r w:=by
 rw [MQ];unfold jN at h
 split at h<;>simp_all only [yd,reduceCtorEq]
 all_goals subst h
 ·simp only [ai] at hx hy;subst hx;subst hy;exact azJ ht
 ·rename_i f _ _
  cases f with
  | f g=>simp only [ai] at hx hy;obtain ⟨fi,ca,rfl,_⟩:=hy;subst hx;exact ai4 ht _ _ _
  | y l=>simp only [ai] at hx hy;obtain ⟨p,_,rfl⟩:=hy;subst hx;exact ai4 ht _ _ _
 ·rename_i f _ _
  cases f with
  | f g=>simp only [ai] at hx hy;obtain ⟨fi,ca,rfl,_⟩:=hx;subst hy;exact ai5 ht _ _ _
  | y l=>simp only [ai] at hx hy;obtain ⟨p,_,rfl⟩:=hx;subst hy;exact ai5 ht _ _ _
def atE {op:ybH} {vx v:AV} {x:yg} (hx:ai ah m S w vx x) (h:VE.unOp op vx=some v):∃u,(Op.unary op x).run P w= .ok u w/\ai ah m S w v u:=by
 unfold VE.unOp at h
 split at h
 ·rename_i k n;simp only [ai] at hx;subst hx;simp only [yd] at h;subst h;exact ⟨_,by simp [Op.unary,Op.intArith];rfl,by simp [ai]⟩
 ·rename_i k n;simp only [ai] at hx;subst hx;simp only [lE,yd] at h;subst h;exact ⟨_,by simp [Op.unary,Op.intBits];rfl,by simp [ai]⟩
 ·rename_i b;simp only [ai] at hx;subst hx;simp only [yd] at h;subst h;exact ⟨_,by simp [Op.unary];rfl,by simp [ai]⟩
 ·rename_i k b;simp only [ai] at hx;subst hx;simp only [yd] at h;subst h;exact ⟨_,by simp [Op.unary,Op.negFloat];rfl,by simp [ai]⟩
 ·cases h
def adq {s d:yB} {k:y7} {vx v:AV} {x:yg} (hd:P.underlying d=some (.int k)) (hs:(∃k',P.underlying s=some (.int k'))\/∃k',P.underlying s=some (.float k'))
  (hx:ai ah m S w vx x) (h:pC (.toInt k) vx=some v):∃u,(convert s d x).run P w= .ok u w/\ai ah m S w v u:=by
 cases vx<;>simp only [pC,reduceCtorEq] at h
 case int k0 n=>
  simp only [ai] at hx;subst hx;simp only [yd] at h;subst h;refine ⟨.int k (k.wrap n),?_,by simp [ai]⟩;rcases hs with ⟨k',h'⟩ | ⟨k',h'⟩<;>simp [convert,underlying,Conv.intToInt,hd,h']
 case bU sk b=>
  simp only [ai] at hx;subst hx
  cases hi:(sk.decode b).toInt .zero with
  | none=>simp [hi] at h
  | some n=>
   simp only [hi] at h;by_cases hr:k.min<=n/\n<=k.max
   ·simp only [hr,and_self,xD,yd] at h;subst h;refine ⟨.int k n,?_,by simp [ai]⟩;rcases hs with ⟨k',h'⟩ | ⟨k',h'⟩<;>simp [convert,underlying,Conv.floatToInt,hd,h',hi,hr]
   ·simp [hr] at h
def adr {s d:yB} {k:vY} {vx v:AV} {x:yg} (hd:P.underlying d=some (.float k)) (hs:(∃k',P.underlying s=some (.int k'))\/∃k',P.underlying s=some (.float k'))
  (hx:ai ah m S w vx x) (h:pC (.toFlt k) vx=some v):∃u,(convert s d x).run P w= .ok u w/\ai ah m S w v u:=by
 cases vx<;>simp only [pC,reduceCtorEq] at h
 case int k0 n=>
  simp only [ai] at hx;subst hx;simp only [yd] at h;subst h;refine ⟨.float k (k.nearest n),?_,by simp [ai]⟩;rcases hs with ⟨k',h'⟩ | ⟨k',h'⟩<;>simp [convert,underlying,Conv.intToFloat,hd,h']
 case bU sk b=>
  simp only [ai] at hx;subst hx;by_cases he:sk=k
  ·subst he;simp only [xD,yd] at h;subst h;refine ⟨.float sk b,?_,by simp [ai]⟩;rcases hs with ⟨k',h'⟩ | ⟨k',h'⟩<;>simp [convert,underlying,Conv.floatToFloat,hd,h']
  ·simp only [he,xi] at h
   cases Od:sk.decode b with
   | nan _ _=>simp [Od] at h
   | infinity _=>simp [Od] at h
   | number sg mm ee=>
    simp only [Od] at h
    cases Ue:(k.decode (k.encode (.number sg mm ee))).isInfinity with
    | true=>simp [Ue] at h
    | false=>
     simp only [Ue,yL,xi,yd] at h;subst h;refine ⟨.float k (k.encode (.number sg mm ee)),?_,by simp [ai]⟩;rcases hs with ⟨k',h'⟩ | ⟨k',h'⟩<;>simp [convert,underlying,Conv.floatToFloat,hd,h',he,Od,Ue]
def arv {s d:yB} {vx v:AV} {x:yg} (hd:P.underlying d=some .string) (hs:P.underlying s=some .string)
  (hx:ai ah m S w vx x) (h:pC .str vx=some v):∃u,(convert s d x).run P w= .ok u w/\ai ah m S w v u:=by
 cases vx<;>simp only [pC,reduceCtorEq] at h
 simp only [yd] at h;subst h;simp only [ai] at hx;obtain ⟨b,rfl,hb⟩:=hx;exact ⟨.string b,by simp [convert,underlying,hs,hd],by simp only [ai];exact ⟨b,rfl,hb⟩⟩
end
end
section
open Go
def apL {v:AV} {k:Nat} (h:du v=some k):∃kd,v= .int kd (k:Int):=by
 cases v<;>simp only [du,reduceCtorEq] at h
 rename_i kd n
 cases n with
 | ofNat j=>simp only [yd] at h;subst h;exact ⟨kd,rfl⟩
 | negSucc j=>cases h
section
variable {O:bA} {H:Hint} {m:Mp} {S:Nat->Prop} {w:yi} {tm:Env} {a:Act}
def zC {ah:Nat->Nat} {v:AV} {x:yg} {k:Nat} (hx:ai ah m S w v x) (h:du v=some k):∃kd,x= .int kd (k:Int):=by
 obtain ⟨kd,rfl⟩:=apL h;simp only [ai] at hx
 grind
def run_sliceBound {P:y9} {kd:y7} {k y:Nat} {code:BoundsCode} (h:k<=y):(Instr.sliceBound (.int kd (k:Int)) y code).run P w= .ok k w:=by
 have:(0:Int)<=(k:Int)/\(k:Int)<=(y:Int):=by omega
 simp [Instr.sliceBound,asIntOf,this]
def acu {P:y9} {isSlice:Bool} {len cap l h:Nat} {lo hi:Option xz} (hH:fR O H) (ht:cm O m S w tm a.tmps)
  (hl:df tm 0 (lo.map (aS H))=some l) (hh:df tm len (hi.map (aS H))=some h) (h1:l<=h) (h2:h<=cap):
  (Instr.sliceBounds isSlice len cap (lo.map a.eval) (hi.map a.eval) none).run P w= .ok (l,h,cap) w:=by
 cases lo with
 | none=>
  simp only [vR,df,yd] at hl;subst hl
  cases hi with
  | none=>
   simp only [vR,df,yd] at hh;subst hh;simp [Instr.sliceBounds]
  | some y=>
   obtain ⟨kd,e⟩:=zC (cB hH ht y) hh;simp only [Instr.sliceBounds,vR,wD,e,Sem.run_bind,Sem.run_pure,Result.andThen_ok,run_sliceBound h2]
 | some x=>
  obtain ⟨kd,e⟩:=zC (cB hH ht x) hl
  cases hi with
  | none=>
   simp only [vR,df,yd] at hh;subst hh;simp only [Instr.sliceBounds,vR,wD,e,Sem.run_bind,Sem.run_pure,Result.andThen_ok,run_sliceBound h1]
  | some y=>
   obtain ⟨Zz,e'⟩:=zC (cB hH ht y) hh;simp only [Instr.sliceBounds,wD,e,e',Sem.run_bind,Sem.run_pure,Result.andThen_ok,run_sliceBound h2,run_sliceBound h1]
def apM {t:yB} {lo hi:Option xz} {vx v:AV} {x:yg} (hH:fR O H) (ht:cm O m S w tm a.tmps) (hu:O.P.underlying t=some .string)
  (hx:ai O.ah m S w vx x) {hp:Hp} (h:fg hp .str vx tm (lo.map (aS H)) (hi.map (aS H))=some v):
  ∃u,(Instr.sliceAt t x (lo.map a.eval) (hi.map a.eval) none).run O.P w= .ok u w/\ai O.ah m S w v u:=by
 cases vx<;>simp only [fg,reduceCtorEq] at h
 obtain ⟨b,rfl,rfl⟩:=hx
 cases hl:df tm 0 (lo.map (aS H)) with
 | none=>simp [hl] at h
 | some l=>
  simp only [hl] at h
  cases hh:df tm (b.data.toList.map xb).length (hi.map (aS H)) with
  | none=>rw [hh] at h;cases h
  | some g=>
   rw [hh] at h;simp only at h
   cases hc:(yG l g&&yG g (b.data.toList.map xb).length) with
   | false=>rw [hc] at h;cases h
   | true=>
    rw [hc] at h;simp only [yA,yd] at h;subst h;simp only [yh] at hc;have h1:=yz hc.1;have h2:=yz hc.2;have hlen:(b.data.toList.map xb).length=b.size:=acs b;rw [hlen] at hh h2;refine ⟨.string (b.extract l g),?_,?_⟩
    ·simp only [Instr.sliceAt,Sem.run_bind,run_underlying hu,Result.andThen_ok,Instr.slice,Option.isSome_none,yL,xi,Sem.run_pure,
      acu (P:=O.P) (isSlice:=false) (len:=b.size) (cap:=b.size) hH ht hl hh h1 h2]
    ·simp only [ai];refine ⟨_,rfl,?_⟩;rw [Lib.extract_data,List.map_take,List.map_drop,List.drop_take]
def arw {t e:yB} {sz:Nat} {lo hi:Option xz} {vx v:AV} {x:yg} (hH:fR O H) (ht:cm O m S w tm a.tmps) (hu:O.P.underlying t=some (.slice e)) (hz:cR O.P e=some sz)
  {hp:Hp} {ct:Nat} (hh:aW O m S w hp ct)
  (hx:ai O.ah m S w vx x) (h:fg hp (.sl sz) vx tm (lo.map (aS H)) (hi.map (aS H))=some v):
  ∃u,(Instr.sliceAt t x (lo.map a.eval) (hi.map a.eval) none).run O.P w= .ok u w/\ai O.ah m S w v u:=by
 have eV:(vG e).run O.P w= .ok sz w:=by
  unfold cR at hz
  cases hi:O.P.info? e with
  | none=>simp [hi] at hz
  | some i=>simp_all [vG,typeInfo]
 have IZ:∀(ad:Option uv) (n c l g:Nat),df tm 0 (lo.map (aS H))=some l->df tm n (hi.map (aS H))=some g->l<=g->g<=c->
   (Instr.sliceAt t (.slice ad n c) (lo.map a.eval) (hi.map a.eval) none).run O.P w= .ok (.slice (if c=l then ad else ad.map (·.add (l*sz))) (g-l) (c-l)) w:=by
  intro ad n c l g hl hg h1 h2
  simp only [Instr.sliceAt,Sem.run_bind,run_underlying hu,Result.andThen_ok,Instr.slice,Sem.run_pure,eV,
   acu (P:=O.P) (isSlice:=true) (len:=n) (cap:=c) hH ht hl hg h1 h2]
 cases vx<;>simp only [fg,reduceCtorEq] at h
 case aa=>
  simp only [ai] at hx;subst hx
  cases hl:df tm 0 (lo.map (aS H)) with
  | none=>simp [hl] at h
  | some l=>
   cases l with
   | succ l=>simp [hl] at h
   | zero=>
    simp only [hl] at h
    cases hh:df tm 0 (hi.map (aS H)) with
    | none=>simp [hh] at h
    | some g=>
     cases g with
     | succ g=>simp [hh] at h
     | zero=>
      simp only [hh,yd] at h;subst h;exact ⟨_,IZ none 0 0 0 0 hl hh (yv _) (yv _),by simp [ai]⟩
 case aB ex n cs=>
  simp only [ai] at hx;rcases hx with ⟨b,o,c,rfl,K7,hex,hS,iP,oz⟩ | ⟨ad,rfl,rfl,rfl⟩
  case inr=>
   cases hl:df tm 0 (lo.map (aS H)) with
   | none=>simp [hl] at h
   | some l=>
    simp only [hl] at h
    cases hh:df tm 0 (hi.map (aS H)) with
    | none=>simp [hh] at h
    | some g=>
     simp only [hh] at h
     cases hc:(yG l g&&yG g 0) with
     | false=>rw [hc] at h;cases h
     | true=>
      rw [hc] at h;simp only [yA,yd] at h;subst h;simp only [yh] at hc;have h1:=yz hc.1;have h2:=yz hc.2;have hg:g=0:=by omega
      subst hg;have lR:l=0:=by omega
      subst lR;refine ⟨_,IZ (some ad) 0 0 0 0 hl hh h1 h2,?_⟩;simp only [ai];exact .inr ⟨ad,by simp,by simp,by simp [slice]⟩
  cases hl:df tm 0 (lo.map (aS H)) with
  | none=>simp [hl] at h
  | some l=>
   simp only [hl] at h
   cases hh:df tm n (hi.map (aS H)) with
   | none=>simp [hh] at h
   | some g=>
    simp only [hh] at h
    cases hc:(yG l g&&yG g n) with
    | false=>rw [hc] at h;cases h
    | true=>
     rw [hc] at h;simp only [yA,yd] at h;subst h;simp only [yh] at hc;have h1:=yz hc.1;have h2:=yz hc.2;refine ⟨_,IZ (some ⟨b,o,none⟩) n c l g hl hh h1 (by omega),?_⟩;have NT:aK (slice (l*sz) ((g-l)*sz) cs)=true:=by
      have pd:∀(k:Nat) (cs:List AV),aK cs=true->aK (cs.drop k)=true:=by
       intro k
       induction k with
       | zero=>intro cs h;simpa using h
       | succ k ih=>intro cs h;cases cs with
        | nil=>simpa using h
        | cons c cs=>simp only [aK,yh] at h;simpa using ih cs h.2
      have pt:∀(k:Nat) (cs:List AV),aK cs=true->aK (cs.take k)=true:=by
       intro k
       induction k with
       | zero=>intro cs h;simp [aK]
       | succ k ih=>intro cs h;cases cs with
        | nil=>simp [aK]
        | cons c cs=>simp only [aK,yh,wg] at h ⊢;exact ⟨h.1,ih cs h.2⟩
      exact pt _ _ (pd _ _ iP)
     have ajU:(ex&&yx g n)=true->c-l=g-l:=by
      intro hq;simp only [yh] at hq
      have:=hex hq.1
      have:=yt hq.2
      omega
     simp only [ai];by_cases jC:c=l
     ·have h0:g-l=0:=by omega
      have As:slice (l*sz) ((g-l)*sz) cs=[]:=by simp [slice,h0]
      rw [As];exact .inl ⟨b,o,c-l,by simp [jC],by omega,ajU,.inl rfl,rfl,by simp [bW]⟩
     ·refine .inl ⟨b,o+l*sz,c-l,by simp [jC,pk],by omega,ajU,?_,NT,?_⟩
      ·rcases hS with rfl | hS
       ·exact .inl (by simp [slice])
       ·exact .inr hS
      ·exact CF _ _ _ _ (rM _ _ _ _ oz)
 case aw id o n=>
  simp only [ai] at hx;obtain ⟨p,c,hm,rfl,K7,P6⟩:=hx
  split at h
  case h_2=>cases h
  rename_i ZA pu0 sS z0 cs0 Dn;obtain ⟨p',arr,t',gG,_,fq,_⟩:=hh.obj id _ _ Dn hm;rw [hm] at gG;injection gG with gG
  subst gG
  cases hl:df tm 0 (lo.map (aS H)) with
  | none=>simp [hl] at h
  | some l=>
   simp only [hl] at h
   cases hh:df tm n (hi.map (aS H)) with
   | none=>simp [hh] at h
   | some g=>
    simp only [hh] at h
    cases hc:(yG l g&&yG g n&&yx z0 sz) with
    | false=>rw [hc] at h;cases h
    | true=>
     rw [hc] at h;simp only [yA] at h;simp only [yh] at hc;have h1:=yz hc.1.1;have h2:=yz hc.1.2;have hpz:p.z=sz:=fq.trans (yt hc.2)
     cases he:(yx l g&& !yx l 0) with
     | true=>
      rw [he] at h;simp only [yA,yd] at h;subst h;simp only [yh] at he;have DV:=yt he.1;refine ⟨_,IZ (some ⟨p.b,p.o+o,none⟩) n c l g hl hh h1 (by omega),?_⟩;simp only [ai];by_cases jC:c=l
      ·exact .inl ⟨p.b,p.o+o,c-l,by simp [jC];omega,by omega,by simp,by simp,by simp [aK],by simp [bW]⟩
      ·exact .inl ⟨p.b,p.o+o+l*sz,c-l,by simp [jC,pk];omega,by omega,by simp,by simp,by simp [aK],by simp [bW]⟩
     | false=>
      rw [he] at h;simp only [yV,yd] at h;subst h;have jC:c=l->l=0:=by
       intro jC;have DV:l=g:=by omega
       cases lR:yx l 0 with
       | true=>exact yt lR
       | false=>rw [DV,Nat.beq_refl,<-DV,lR] at he;cases he
      refine ⟨_,IZ (some ⟨p.b,p.o+o,none⟩) n c l g hl hh h1 (by omega),?_⟩;simp only [ai];refine ⟨p,c-l,hm,?_,by omega,?_⟩
      ·by_cases Uf:c=l
       ·have:=jC Uf;subst this;subst Uf;simp
       ·simp [Uf,pk,uV]
      ·rw [hpz] at P6 ⊢
       have:c*sz=l*sz+(c-l)*sz:=by rw [<-wE];congr 1;omega
       omega
end
end
section
open Go
def nJ {P:y9} {w:yi} {t:yB} {sz:Nat} (hz:cR P t=some sz):(vG t).run P w= .ok sz w:=by
 unfold cR at hz
 cases hi:P.info? t with
 | none=>simp [hi] at hz
 | some i=>simp_all [vG,typeInfo]
section
variable {O:bA} {H:Hint} {m:Mp} {S:Nat->Prop} {w:yi} {tm:Env} {a:Act} {hp:Hp} {ct:Nat}
def R8 {id o n:Nat} {rw pu ex:Bool} {sz:Nat} {cs:List AV} {p:Pl} (hh:aW O m S w hp ct) (hg:ay hp id=some (.cells rw pu ex sz cs)) (hm:m id=some p):
  bW O.ah m S w cs p.b p.o:=by
 obtain ⟨p',arr,t',gG,_,_,_,_,_,hr,_⟩:=hh.obj id _ _ hg hm
 grind
def azK {t:yB} {sz:Nat} {ag:Bool} {vx v:AV} {x:yg} (hh:aW O m S w hp ct) (hz:cR O.P t=some sz) (ha:dU O.P t=some ag) (hx:ai O.ah m S w vx x)
  (h:jb hp sz ag vx=some v):∃u,(Instr.loadAt t x).run O.P w= .ok u w/\ai O.ah m S w v u:=by
 cases vx<;>simp only [jb,reduceCtorEq] at h
 case ptr id o=>
  obtain ⟨p,hm,rfl⟩:=hx
  split at h
  case h_2=>cases h
  rename_i ZA pu0 sS z0 cs0 Dn;have hr:=R8 (id:=id) (o:=0) (n:=0) hh Dn hm;obtain ⟨u,h1,h2⟩:=Nf hz ha (rM o cs0 p.b p.o hr) h;exact ⟨u,by simp only [Instr.loadAt,Instr.sureAddr,Sem.run_bind,Sem.run_pure,Result.andThen_ok];exact h1,h2⟩
 case cg cs=>
  obtain ⟨b,o,rfl,_,_,hr⟩:=hx;obtain ⟨u,h1,h2⟩:=Nf hz ha hr h;exact ⟨u,by simp only [Instr.loadAt,Instr.sureAddr,Sem.run_bind,Sem.run_pure,Result.andThen_ok];exact h1,h2⟩
def AR:∀(k:Nat) (cs:List AV),aK cs=true->aK (cs.drop k)=true
 | 0,cs,h=>by simpa using h
 | k+1,[],h=>by simpa using h
 | k+1,c::cs,h=>by simp only [aK,yh] at h;simpa using AR k cs h.2
def RL {cs:List AV} {b o k:Nat} (h2:cs=[]\/S b) (h3:aK cs=true) (h4:bW O.ah m S w cs b o):ai O.ah m S w (.cg (cs.drop k)) (.pointer (some ⟨b,o+k,none⟩)):=by
 refine ⟨b,o+k,rfl,?_,AR k cs h3,rM k cs b o h4⟩
 grind
def avN {t:yB} {fs:Array uJ} {i:Nat} {f:uJ} {sz:Nat} {vx v:AV} {x:yg} (hu:O.P.underlying t=some (.struct fs)) (hf:fs[i]? =some f) (hz:cR O.P f.type=some (sz+1))
  (hx:ai O.ah m S w vx x)
  (h:JA f.offset vx=some v):∃u,(Instr.fieldAt t x i).run O.P w= .ok u w/\ai O.ah m S w v u:=by
 have ai6:∀(b o:Nat),(Instr.fieldAt t (.pointer (some ⟨b,o,none⟩)) i).run O.P w= .ok (.pointer (some ⟨b,o+f.offset,none⟩)) w:=by
  intro b o;simp only [Instr.fieldAt,Sem.run_bind,run_underlying hu,Result.andThen_ok,hf,Instr.sureAddr,Sem.run_pure,fieldPlace,nJ hz,Nat.succ_ne_zero,xi,pk]
 cases vx<;>simp only [JA,reduceCtorEq] at h
 case ptr id o=>
  obtain ⟨p,hm,rfl⟩:=hx;simp only [yd] at h;subst h;exact ⟨_,ai6 _ _,by simp only [ai];exact ⟨p,hm,by rw [uV]⟩⟩
 case cg cs=>
  obtain ⟨b,o,rfl,h2,h3,h4⟩:=hx
  cases hc:yG f.offset cs.length with
  | false=>rw [hc] at h;cases h
  | true=>
   rw [hc] at h;simp only [yA,yd] at h;subst h;exact ⟨_,ai6 _ _,RL h2 h3 h4⟩
def avO {t:yB} {fs:Array uJ} {i:Nat} {f:uJ} {sz:Nat} {ag:Bool} {vx v:AV} {x:yg} (hu:O.P.underlying t=some (.struct fs)) (hf:fs[i]? =some f)
  (hz:cR O.P f.type=some sz) (ha:dU O.P f.type=some ag) (hx:ai O.ah m S w vx x)
  (h:NQ f.offset sz ag vx=some v):∃u,(Instr.field t x i).run O.P w= .ok u w/\ai O.ah m S w v u:=by
 cases vx<;>simp only [NQ,reduceCtorEq] at h
 obtain ⟨xs,rfl,hr⟩:=hx;obtain ⟨u,h1,h2⟩:=aey hz ha hr h;exact ⟨u,by simp only [Instr.field,Sem.run_bind,run_underlying hu,Result.andThen_ok,hf,asAgg,Sem.run_pure];exact h1,h2⟩
def avP {t e:yB} {sz k:Nat} {vx vi v:AV} {x i:yg} (hu:O.P.underlying t=some (.slice e)) (hz:cR O.P e=some sz) (hx:ai O.ah m S w vx x) (hi:ai O.ah m S w vi i)
  (hk:du vi=some k)
  (h:j0 sz k vx=some v):∃u,(Instr.indexAt t x i).run O.P w= .ok u w/\ai O.ah m S w v u:=by
 obtain ⟨kd,rfl⟩:=zC hi hk;have JF:∀(b o n c:Nat),k<n->(Instr.indexAt t (.slice (some ⟨b,o,none⟩) n c) (.int kd (k:Int))).run O.P w= .ok (.pointer (some ⟨b,o+k*sz,none⟩)) w:=by
  intro b o n c rq;have hr:(0:Int)<=(k:Int)/\(k:Int)<(n:Int):=by omega
  simp [Instr.indexAt,asIntOf,run_underlying hu,nJ hz,hr,pk]
  grind
 cases vx<;>simp only [j0,reduceCtorEq] at h
 case aw id o n=>
  obtain ⟨p,c,hm,rfl,K7,P6⟩:=hx
  cases hc:yR k n with
  | false=>rw [hc] at h;cases h
  | true=>
   rw [hc] at h;simp only [yA,yd] at h;subst h;have rq:k<n:=by simp_all
   exact ⟨_,JF _ _ _ _ rq,by simp only [ai];exact ⟨p,hm,by rw [uV]⟩⟩
 case aB ex n cs=>
  rcases hx with ⟨b,o,c,rfl,K7,hex,h2,h3,h4⟩ | ⟨a,rfl,rfl,rfl⟩
  case inr=>
   have:yR k 0=false:=by cases hq:yR k 0 with | false=>rfl | true=>simp only [yR,ybT] at hq;omega
   grind
  cases hc:yR k n with
  | false=>rw [hc] at h;cases h
  | true=>
   rw [hc] at h;simp only [yA,yd] at h;subst h;have rq:k<n:=by simp_all
   exact ⟨_,JF _ _ _ _ rq,RL h2 h3 h4⟩
def avQ {t e:yB} {len sz k:Nat} {vx vi v:AV} {x i:yg} (hu:O.P.underlying t=some (.array len e)) (hz:cR O.P e=some sz) (hx:ai O.ah m S w vx x) (hi:ai O.ah m S w vi i)
  (hk:du vi=some k)
  (h:NR len sz k vx=some v):∃u,(Instr.indexAt t x i).run O.P w= .ok u w/\ai O.ah m S w v u:=by
 obtain ⟨kd,rfl⟩:=zC hi hk;have JF:∀(b o:Nat),k<len->(Instr.indexAt t (.pointer (some ⟨b,o,none⟩)) (.int kd (k:Int))).run O.P w= .ok (.pointer (some ⟨b,o+k*sz,none⟩)) w:=by
  intro b o rq;have hr:(0:Int)<=(k:Int)/\(k:Int)<(len:Int):=by omega
  simp [Instr.indexAt,asIntOf,run_underlying hu,nJ hz,hr,pk,Instr.sureAddr]
  grind
 cases vx<;>simp only [NR,reduceCtorEq] at h
 case ptr id o=>
  obtain ⟨p,hm,rfl⟩:=hx
  cases hc:yR k len with
  | false=>rw [hc] at h;cases h
  | true=>
   rw [hc] at h;simp only [yA,yd] at h;subst h;have rq:k<len:=by simp_all
   exact ⟨_,JF _ _ rq,by simp only [ai];exact ⟨p,hm,by rw [uV]⟩⟩
 case cg cs=>
  obtain ⟨b,o,rfl,h2,h3,h4⟩:=hx
  cases hc:yR k len with
  | false=>rw [hc] at h;cases h
  | true=>
   rw [hc] at h;simp only [yA,yd] at h;subst h;have rq:k<len:=by simp_all
   exact ⟨_,JF _ _ rq,RL h2 h3 h4⟩
def avR {t e:yB} {len sz k:Nat} {ag:Bool} {vx vi v:AV} {x i:yg} (hu:O.P.underlying t=some (.array len e)) (hz:cR O.P e=some sz) (ha:dU O.P e=some ag)
  (hx:ai O.ah m S w vx x) (hi:ai O.ah m S w vi i) (hk:du vi=some k)
  (h:NS len sz ag k vx=some v):
  ∃u,(Instr.index t x i).run O.P w= .ok u w/\ai O.ah m S w v u:=by
 obtain ⟨kd,rfl⟩:=zC hi hk;cases vx<;>simp only [NS,reduceCtorEq] at h
 obtain ⟨xs,rfl,hr⟩:=hx
 cases hc:yR k len with
 | false=>rw [hc] at h;cases h
 | true=>
  rw [hc] at h;have rq:k<len:=by simp_all
  obtain ⟨u,h1,h2⟩:=aey hz ha hr h;have bJ:(0:Int)<=(k:Int)/\(k:Int)<(len:Int):=by omega
  exact ⟨u,by simp [Instr.index,asIntOf,run_underlying hu,nJ hz,bJ,h1];intro hle;exact absurd hle (by omega),h2⟩
def avS {t:yB} {k:Nat} {vx vi v:AV} {x i:yg} (hu:O.P.underlying t=some .string) (hx:ai O.ah m S w vx x) (hi:ai O.ah m S w vi i) (hk:du vi=some k)
  (h:mU k vx=some v):
  ∃u,(Instr.index t x i).run O.P w= .ok u w/\ai O.ah m S w v u:=by
 obtain ⟨kd,rfl⟩:=zC hi hk;cases vx<;>simp only [mU,reduceCtorEq] at h
 obtain ⟨b,rfl,rfl⟩:=hx
 cases hs:(b.data.toList.map xb)[k]? with
 | none=>rw [hs] at h;cases h
 | some q=>
  rw [hs] at h;simp only [yd] at h;subst h;rw [List.getElem?_map] at hs
  cases hb:b.data.toList[k]? with
  | none=>rw [hb] at hs;cases hs
  | some c=>
   rw [hb] at hs;simp only [wD,yd] at hs;subst hs;have cK:b[k]? =some c:=by
    have aZ:k<b.data.toList.length:=by
     grind
    have eV:k<b.size:=by simp_all
    rw [getElem?_pos b k eV];rw [xS aZ] at hb;rw [<-hb];rfl
   refine ⟨.int .u8 c.toNat,?_,by simp [ai]⟩;simp [Instr.index,asIntOf,run_underlying hu,cK]
end
end
section
open Go
section
variable {ah:Nat->Nat} {m:Mp} {S:Nat->Prop} {w:yi}
def RM:∀{v:AV} {u:yg},ai ah m S w v u->cu (cellsOf v)=true->aA ah m S w (cellsOf v) u.cells.toList:=by
 intro v u h h1;cases v
 case agg cs=>
  simp only [ai] at h;obtain ⟨xs,rfl,hr⟩:=h;exact hr
 case ae vs=>simp [cellsOf,cu,dt] at h1
 case undef=>simp [cellsOf,cu,dt] at h1
 case bw=>simp [cellsOf,cu,dt] at h1
 case fn f a b=>
  cases f with
  | f g=>have h':=h;simp only [ai] at h';obtain ⟨fi,ca,rfl,_⟩:=h';simp only [cellsOf,Value.cells,aA];exact ⟨_,_,rfl,h,rfl⟩
  | y l=>have h':=h;simp only [ai] at h';obtain ⟨p,_,rfl⟩:=h';simp only [cellsOf,Value.cells,aA];exact ⟨_,_,rfl,h,rfl⟩
 case str s=>have h':=h;simp only [ai] at h';obtain ⟨b,rfl,_⟩:=h';simp only [cellsOf,Value.cells,aA];exact ⟨_,_,rfl,h,rfl⟩
 case ptr id o=>have h':=h;simp only [ai] at h';obtain ⟨b,_,rfl⟩:=h';simp only [cellsOf,Value.cells,aA];exact ⟨_,_,rfl,h,rfl⟩
 case cg cs=>have h':=h;simp only [ai] at h';obtain ⟨b,o,rfl,_⟩:=h';simp only [cellsOf,Value.cells,aA];exact ⟨_,_,rfl,h,rfl⟩
 case aB e n cs=>have h':=h;simp only [ai] at h';rcases h' with ⟨b,o,c,rfl,_⟩ | ⟨a,rfl,_,_⟩<;>(simp only [cellsOf,Value.cells,aA];exact ⟨_,_,rfl,h,rfl⟩)
 case aw id o n=>have h':=h;simp only [ai] at h';obtain ⟨p,c,_,rfl,_⟩:=h';simp only [cellsOf,Value.cells,aA];exact ⟨_,_,rfl,h,rfl⟩
 case map id=>have h':=h;simp only [ai] at h';obtain ⟨p,_,rfl⟩:=h';simp only [cellsOf,Value.cells,aA];exact ⟨_,_,rfl,h,rfl⟩
 case jw ks vs=>have h':=h;simp only [ai] at h';obtain ⟨b,es,cl,rfl,_⟩:=h';simp only [cellsOf,Value.cells,aA];exact ⟨_,_,rfl,h,rfl⟩
 case it id=>have h':=h;simp only [ai] at h';obtain ⟨p,_,rfl⟩:=h';simp only [cellsOf,Value.cells,aA];exact ⟨_,_,rfl,h,rfl⟩
 all_goals
  have h':=h;simp only [ai] at h';subst h';simp only [cellsOf,Value.cells,aA];exact ⟨_,_,rfl,h,rfl⟩
def EA (v:yg):aA ah m S w (cellsOf (eL v)) v.cells.toList:=by
 have h:=Nc (ah:=ah) (m:=m) (S:=S) (w:=w) v;cases v
 case agg xs=>
  obtain ⟨l⟩:=xs;simp only [eL,ai] at h ⊢;obtain ⟨xs,e,hr⟩:=h;injection e with e
  subst e;exact hr
 case tuple xs=>obtain ⟨l⟩:=xs;simp only [eL] at h ⊢;simp only [cellsOf,Value.cells,aA];exact ⟨_,_,rfl,h,rfl⟩
 case pointer p=>cases p<;>(simp only [eL] at h ⊢;simp only [cellsOf,Value.cells,aA];exact ⟨_,_,rfl,h,rfl⟩)
 case map p=>cases p<;>(simp only [eL] at h ⊢;simp only [cellsOf,Value.cells,aA];exact ⟨_,_,rfl,h,rfl⟩)
 case slice p n c=>
  cases p
  ·cases n
   ·cases c<;>(simp only [eL] at h ⊢;simp only [cellsOf,Value.cells,aA];exact ⟨_,_,rfl,h,rfl⟩)
   ·simp only [eL] at h ⊢;simp only [cellsOf,Value.cells,aA];exact ⟨_,_,rfl,h,rfl⟩
  ·simp only [eL] at h ⊢;simp only [cellsOf,Value.cells,aA];exact ⟨_,_,rfl,h,rfl⟩
 all_goals (simp only [eL] at h ⊢;simp only [cellsOf,Value.cells,aA];exact ⟨_,_,rfl,h,rfl⟩)
def lX:∀{a b:List AV} {x y:List yg},aA ah m S w a x->aA ah m S w b y->aA ah m S w (a++b) (x++y)
 | [],b,x,y,h,k=>by simp only [aA] at h;subst h;simpa using k
 | c::a,b,x,y,h,k=>by
  simp only [aA] at h;obtain ⟨u,r,rfl,h2,h3⟩:=h;simp only [xk,aA];exact ⟨u,r++y,rfl,h2,lX h3 k⟩
def Ir:∀(k:Nat) {cs:List AV} {us:List yg},aA ah m S w cs us->aA ah m S w (cs.drop k) (us.drop k)
 | 0,cs,us,h=>by simpa using h
 | k+1,[],us,h=>by simp only [aA] at h;subst h;simp [aA]
 | k+1,c::cs,us,h=>by simp only [aA] at h;obtain ⟨u,r,rfl,_,h3⟩:=h;simpa using Ir k h3
def EI:∀(k:Nat) {cs:List AV} {us:List yg},aA ah m S w cs us->aA ah m S w (cs.take k) (us.take k)
 | 0,cs,us,h=>by simp [aA]
 | k+1,[],us,h=>by simp only [aA] at h;subst h;simp [aA]
 | k+1,c::cs,us,h=>by
  simp only [aA] at h;obtain ⟨u,r,rfl,h2,h3⟩:=h;simp only [wg,aA];exact ⟨u,_,rfl,h2,EI k h3⟩
def R9:∀{cs:List AV} {us:List yg} {i:Nat} {v:AV},aA ah m S w cs us->cs[i]? =some v->∃u,us[i]? =some u/\ai ah m S w v u
 | [],us,i,v,_,h=>by simp at h
 | c::cs,us,0,v,h,e=>by
  simp only [aA] at h;obtain ⟨u,r,rfl,h2,h3⟩:=h;simp at e;subst e;exact ⟨u,rfl,h2⟩
 | c::cs,us,i+1,v,h,e=>by
  simp only [aA] at h;obtain ⟨u,r,rfl,h2,h3⟩:=h;simp at e;simpa using R9 h3 e
end
def acv (off:Nat):∀(new:List yg) (j:Nat) (cells:Array yg),off+j+new.length<=cells.size->
  ((new.zipIdx j).foldl (fun (cs:Array yg) (p:yg×Nat)=>cs.setIfInBounds (off+p.2) p.1) cells).toList=
   cells.toList.take (off+j)++new++cells.toList.drop (off+j+new.length)
 | [],j,cells,_=>by simp
 | v::r,j,cells,h=>by
  simp only [yI] at h;have ih:=acv off r (j+1) (cells.setIfInBounds (off+j) v) (by simp;omega);simp only [List.zipIdx_cons,List.foldl_cons];rw [ih];have aZ:off+j<cells.toList.length:=by simp;omega
  have h1:(cells.setIfInBounds (off+j) v).toList=cells.toList.set (off+j) v:=by simp
  rw [h1,show off+(j+1)=off+j+1 by omega];have h2:(cells.toList.set (off+j) v).take (off+j+1)=cells.toList.take (off+j)++[v]:=by
   rw [List.take_succ_eq_append_getElem (by simpa using aZ)];simp [List.take_set_of_le]
  have h3:(cells.toList.set (off+j) v).drop (off+j+1+r.length)=cells.toList.drop (off+j+(r.length+1)):=by
   rw [List.drop_set_of_lt (by omega)];congr 1;omega
  rw [h2,h3]
  simp
section
variable {O:bA} {H:Hint} {m:Mp} {S:Nat->Prop} {w:yi} {tm:Env} {a:Act}
def Ng (hH:fR O H) (ht:cm O m S w tm a.tmps) {place:Nat->Option (Nat×Nat)}:∀(parts:List (Nat×xz)) (ps:List (Nat×Nat×X)) (zero cs:List AV) (cells:Array yg),
  partsOf H place parts=some ps->aA O.ah m S w zero cells.toList->fill tm zero ps=some cs->
  ∃out,Instr.fill place cells (parts.map fun p=>(p.1,a.eval p.2))=some out/\aA O.ah m S w cs out.toList
 | [],ps,zero,cs,cells,hp,hz,hf=>by
  simp only [partsOf,yd] at hp;subst hp;simp only [fill,yd] at hf;subst hf;exact ⟨cells,rfl,hz⟩
 | (i,x)::r,ps,zero,cs,cells,hp,hz,hf=>by
  simp only [partsOf] at hp
  cases ep:place i with
  | none=>simp [ep] at hp
  | some q=>
   obtain ⟨o,s⟩:=q;simp only [ep] at hp
   cases fk:partsOf H place r with
   | none=>simp [fk] at hp
   | some l=>
    simp only [fk,yd] at hp;subst hp;simp only [fill] at hf
    cases hc:(yx (cellsOf (aF tm (aS H x))).length s&&yG (o+s) zero.length&&cu (cellsOf (aF tm (aS H x)))) with
    | false=>rw [hc] at hf;cases hf
    | true=>
     rw [hc] at hf;simp only [yA] at hf;simp only [yh] at hc;have hs:=yt hc.1.1;have hle:=yz hc.1.2;have hrx:=RM (cB hH ht x) hc.2;have ns:=iU _ _ hrx;have oA:=iU _ _ hz;have eV:(a.eval x).cells.size=s:=by rw [<-hs,<-ns];simp
     have jQ:cells.size=zero.length:=by rw [<-oA];simp
     have azL:=acv o (a.eval x).cells.toList 0 cells (by simp;omega);have fq:aA O.ah m S w (over o (cellsOf (aF tm (aS H x))) zero)
       ((a.eval x).cells.zipIdx.foldl (fun (cs:Array yg) (p:yg×Nat)=>cs.setIfInBounds (o+p.2) p.1) cells).toList:=by
      rw [<-Array.foldl_toList,Array.toList_zipIdx,azL];simp only [over,Nat.add_zero];rw [show (a.eval x).cells.toList.length=(cellsOf (aF tm (aS H x))).length from ns];exact lX (lX (EI o hz) hrx) (Ir _ hz)
     obtain ⟨out,h1,h2⟩:=Ng hH ht r l _ cs _ fk fq hf;refine ⟨out,?_,h2⟩;simp only [xc,Instr.fill,ep,eV];rw [yD (by simp;omega)];exact h1
end
end
section
open Go
def acw (p q:ByteArray):(p==q)=db (mc p) (mc q):=by
 have h:(p==q)=(p.data==q.data):=by cases p;cases q;rfl
 rw [h,acr,ByteArray.toList_eq,ByteArray.toList_eq];rw [uy,yas,yas];constructor
 ·intro e;rw [e]
 ·intro e;have:=congrArg List.toArray e;simpa using this
def Oe:vC->Bool
 | .bool | .int _ | .string=>true
 | _=>false
def fits (d:vC) (v:AV):Bool:=
 match d,v with
 | .int _,.int _ _ | .string,.str _ | .bool,.bool _=>true
 | _,_=>false
def Found (ah:Nat->Nat) (m:Mp) (S:Nat->Prop) (w:yi) (f:Option (Option (Nat×yg))):Option AV->Prop
 | none=>f=some none
 | some v=>∃j u,f=some (some (j,u))/\ai ah m S w v u
section
variable {O:bA} {ah:Nat->Nat} {m:Mp} {S:Nat->Prop} {w:yi}
def ads {vk vk':AV} {k k':yg} {r:Bool} {d:vC} (hk:ai ah m S w vk k) (nt:ai ah m S w vk' k') (h:Fy vk vk'=some r)
  (hd:fits d vk=true):Instr.sameNow d k k'=some r:=by
 unfold Fy at h
 split at h
 ·rename_i j x j' y;simp only [ai] at hk nt;subst hk;subst nt;by_cases hj:j=j'
  ·simp only [hj,xD,yd] at h;subst hj;cases d<;>simp [fits] at hd
   simpa [Instr.sameNow] using h
  ·simp [hj] at h
 ·simp only [ai] at hk nt;obtain ⟨s,rfl,rfl⟩:=hk;obtain ⟨s',rfl,rfl⟩:=nt;simp only [yd] at h;cases d<;>simp [fits] at hd
  simp only [Instr.sameNow,acw];rw [<-h];rfl
 ·simp only [ai] at hk nt;subst hk;subst nt;simp only [yd] at h;cases d<;>simp [fits] at hd
  simp [Instr.sameNow,h]
 ·cases h
def Sa {vk:AV} {k:yg} {d:vC} (hk:ai ah m S w vk k)
  (hd:fits d vk=true):∀(ks vs:List AV) (es:List uQ) (i:Nat) (r:Option AV),
  aA ah m S w ks (es.map (·.key))->aA ah m S w vs (es.map (·.val))->Dk vk ks vs=some r->Found ah m S w (Instr.findNow d k es i) r
 | [],vs,es,i,r,h1,h2,h=>by
  simp only [aA,List.map_eq_nil_iff] at h1;subst h1;simp only [Dk,yd] at h;subst h;rfl
 | c::ks,[],es,i,r,h1,h2,h=>by simp only [Dk] at h;cases h
 | c::ks,v::vs,es,i,r,h1,h2,h=>by
  cases es with
  | nil=>simp [aA] at h1
  | cons e es=>
   simp only [xc,aA,List.cons.injEq] at h1 h2;obtain ⟨u,t,⟨rfl,rfl⟩,hc,P7⟩:=h1;obtain ⟨u',t',⟨rfl,rfl⟩,hv,At⟩:=h2;simp only [Dk] at h
   cases eZ:Fy vk c with
   | none=>simp [eZ] at h
   | some b=>
    have hs:=ads (d:=d) hk hc eZ hd
    cases b with
    | true=>
     simp only [eZ,yd] at h;subst h;exact ⟨i,e.val,by simp [Instr.findNow,hs],hv⟩
    | false=>
     simp only [eZ] at h;have ih:=Sa hk hd ks vs es (i+1) r P7 At h;simpa [Instr.findNow,hs] using ih
def Mb {P:y9} {kt:yB} {d:vC} (hu:P.underlying kt=some d) (hd:Oe d=true) (b:Bool) (k:yg):(Instr.checkKey b 10000 kt k).run P w= .ok () w:=by
 have:∀n,(Instr.checkKey b (n+1) kt k).run P w= .ok () w:=by
  intro n;cases d<;>simp [Oe] at hd<;>simp [Instr.checkKey,run_underlying hu]
 exact this 9999
def avT {t kt e:yB} {d:vC} {ok:Bool} {hp:Hp} {ct:Nat} {vx vk v:AV} {x k zero:yg} (hh:aW O m S w hp ct) (hu:O.P.underlying t=some (.map kt e)) (hk:O.P.underlying kt=some d) (hd:Oe d=true)
  (hdk:fits d vk=true)
  (hz:(zeroValue e).run O.P w= .ok zero w) (hx:ai O.ah m S w vx x) (GA:ai O.ah m S w vk k) {z:AV} (ZB:ai O.ah m S w z zero)
  {r:Option AV}
  (hr:Bm hp vk vx=some r)
  (hv:(match r with | some u=>(bif ok then AV.ae [u,.bool true] else u) | none=>(bif ok then AV.ae [z,.bool false] else z))=v):
  ∃u,(Instr.lookup t x k ok).run O.P w= .ok u w/\ai O.ah m S w v u:=by
 have fin:∀(u:AV) (uu:yg) (b:Bool),ai O.ah m S w u uu->ai O.ah m S w (bif ok then AV.ae [u,.bool b] else u) (if ok then .tuple #[uu,.bool b] else uu):=by
  intro u uu b h
  cases ok with
  | true=>simp only [yA,xD,ai,aA];exact ⟨_,rfl,_,_,rfl,h,_,_,rfl,rfl,rfl⟩
  | false=>simpa using h
 have body:∀(x':yg) (es:Array uQ),((x'= .map none/\es=#[])\/∃b clock,x'= .map (some b)/\w.heap[b]? =some (.map es clock))->Found O.ah m S w (Instr.findNow d k es.toList 0) r->
   ∃u,(Instr.lookup t x' k ok).run O.P w= .ok u w/\ai O.ah m S w v u:=by
  intro x' es hl hf
  cases r with
  | none=>
   have B4:Instr.findNow d k es.toList 0=some none:=hf;refine ⟨if ok then .tuple #[zero,.bool false] else zero,?_,by rw [<-hv];exact fin z zero false ZB⟩
   rcases hl with ⟨rfl,rfl⟩ | ⟨b,clock,rfl,hb⟩
   ·have Ug:Instr.findNow d k [] 0=some none:=rfl;simp [Instr.lookup,run_underlying hu,Mb hk hd,Instr.findKey,run_underlying hk,Ug,hz]
   ·simp [Instr.lookup,run_underlying hu,getObj,Sem.run,hb,Mb hk hd,Instr.findKey,run_underlying hk,B4,hz]
  | some v'=>
   obtain ⟨j,u,h1,h2⟩:=hf;refine ⟨if ok then .tuple #[u,.bool true] else u,?_,by rw [<-hv];exact fin v' u true h2⟩
   rcases hl with ⟨rfl,rfl⟩ | ⟨b,clock,rfl,hb⟩
   ·have Ug:Instr.findNow d k [] 0=some none:=rfl;rw [show (#[]:Array uQ).toList=[] from rfl,Ug] at h1;cases h1
   ·simp [Instr.lookup,run_underlying hu,getObj,Sem.run,hb,Mb hk hd,Instr.findKey,run_underlying hk,h1]
 cases vx<;>simp only [Bm,reduceCtorEq] at hr
 case kh=>
  simp only [yd] at hr;subst hr;simp only [ai] at hx;subst hx;exact body _ #[] (.inl ⟨rfl,rfl⟩) rfl
 case map id=>
  simp only [ai] at hx;obtain ⟨p,hm,rfl⟩:=hx
  split at hr
  case h_2=>cases hr
  rename_i ZA ks vs Dn;obtain ⟨p',es,clock,gG,hb,h1,h2,_⟩:=hh.obj id _ _ Dn hm;rw [hm] at gG;injection gG with gG;subst gG
  exact body _ es (.inr ⟨_,_,rfl,hb⟩) (Sa GA hdk ks vs es.toList 0 r h1 h2 hr)
 case jw ks vs=>
  simp only [ai] at hx;obtain ⟨b,es,clock,rfl,_,_,_,hb,h1,h2⟩:=hx;exact body _ es (.inr ⟨_,_,rfl,hb⟩) (Sa GA hdk ks vs es.toList 0 r h1 h2 hr)
end
end
section
open Go
def H9:∀(k1 k2:List Nat) (a b:List AV) (r:Bool),eF (k1++k2) a b=some r->
  ∃r1 r2,eF k1 (a.take k1.length) (b.take k1.length)=some r1/\eF k2 (a.drop k1.length) (b.drop k1.length)=some r2/\r=(r1&&r2)
 | [],k2,a,b,r,h=>⟨true,r,by simp [eF],by simpa using h,by simp⟩
 | k::k1,k2,[],b,r,h=>by
  simp only [xk] at h;unfold eF at h
  grind
 | k::k1,k2,x::a,[],r,h=>by
  unfold eF at h
  grind
 | k::k1,k2,x::a,y::b,r,h=>by
  have step:∀(q:Bool) (f:Bool->Bool),(match eF (k1++k2) a b with | some r=>some (f r) | none=>none)=some q->∃r0,eF (k1++k2) a b=some r0/\q=f r0:=by grind
  unfold eF at h
  split at h
  ·grind
  ·rename_i e1 e2 e3;obtain ⟨rfl,rfl⟩:=e1;obtain ⟨rfl,rfl⟩:=e2;obtain ⟨rfl,rfl⟩:=e3;obtain ⟨r0,h0,rfl⟩:=step r _ h;obtain ⟨r1,r2,h1,h2,rfl⟩:=H9 k1 k2 _ _ r0 h0;exact ⟨_,r2,by simp only [yI,wg,eF,h1],by simpa using h2,(tB _ _ _).symm⟩
  ·rename_i e1 e2 e3;obtain ⟨rfl,rfl⟩:=e1;obtain ⟨rfl,rfl⟩:=e2;obtain ⟨rfl,rfl⟩:=e3
   split at h
   ·rename_i hk;obtain ⟨r0,h0,rfl⟩:=step r _ h;obtain ⟨r1,r2,h1,h2,rfl⟩:=H9 k1 k2 _ _ r0 h0;exact ⟨_,r2,by simp only [yI,wg,eF,h1,hk,xD],by simpa using h2,(tB _ _ _).symm⟩
   ·cases h
  ·rename_i e1 e2 e3;obtain ⟨rfl,rfl⟩:=e1;obtain ⟨rfl,rfl⟩:=e2;obtain ⟨rfl,rfl⟩:=e3;obtain ⟨r0,h0,rfl⟩:=step r _ h;obtain ⟨r1,r2,h1,h2,rfl⟩:=H9 k1 k2 _ _ r0 h0;exact ⟨_,r2,by simp only [yI,wg,eF,h1],by simpa using h2,(tB _ _ _).symm⟩
  ·cases h
def abr:∀(ks:List Nat) (a b:List AV) (r:Bool),eF ks a b=some r->a.length=ks.length/\b.length=ks.length
 | [],a,b,r,h=>by
  unfold eF at h
  grind
 | k::ks,[],b,r,h=>by
  unfold eF at h
  grind
 | k::ks,x::a,[],r,h=>by
  unfold eF at h
  grind
 | k::ks,x::a,y::b,r,h=>by
  have:∃r0,eF ks a b=some r0:=by
   cases he:eF ks a b with
   | some r0=>exact ⟨r0,rfl⟩
   | none=>unfold eF at h;split at h<;>simp_all
  obtain ⟨r0,h0⟩:=this
  have:=abr ks a b r0 h0
  simp [this]
def GB (P:y9) (t:yB) (x:yg) (xs:List yg):Prop:=(dU P t=some true/\x= .agg xs.toArray)\/(dU P t=some false/\xs=[x])
section
variable {P:y9} {ah:Nat->Nat} {m:Mp} {S:Nat->Prop} {w:yi}
def Rx {t:yB} {ag:Bool} (ha:dU P t=some ag):(isAgg t).run P w= .ok ag w:=by
 unfold dU at ha
 cases hu:P.underlying t with
 | none=>simp [hu] at ha
 | some d=>cases d<;>simp_all [isAgg,underlying]
def arx {t:yB} {s o:Nat} {xs:List yg} (hz:cR P t=some s) (ha:∃ag,dU P t=some ag) (h1:dU P t=some false->s=1) (hl:o+s<=xs.length):
  ∃u,(part t xs.toArray o).run P w= .ok u w/\GB P t u ((xs.drop o).take s):=by
 obtain ⟨ag,ha⟩:=ha
 cases ag with
 | true=>
  refine ⟨.agg ((xs.drop o).take s).toArray,?_,.inl ⟨ha,rfl⟩⟩;simp [part,Rx ha,nJ hz,tF]
 | false=>
  have hs:=h1 ha;subst hs;have aZ:o<xs.length:=by omega
  refine ⟨xs[o],?_,.inr ⟨ha,?_⟩⟩
  ·simp [part,Rx ha,xS aZ]
  ·rw [List.drop_eq_getElem_cons aZ,wg,uK]
def apN {n:Nat} {t:yB} {ks:List Nat} (h:kinds P n t=some ks):∃ag,dU P t=some ag/\(ag=false->ks.length=1):=by
 cases n with
 | zero=>simp [kinds] at h
 | succ n=>
  unfold kinds at h;unfold dU
  split at h<;>simp_all
  all_goals (rw [<-h];rfl)
def TH (P:y9) (ah:Nat->Nat) (m:Mp) (S:Nat->Prop) (w:yi) (n:Nat):Prop:=
 ∀(t:yB) (ks:List Nat),kinds P n t=some ks->P.stoodInHeld t=false->∀(d:Nat),n<=d->∀(xs ys:List yg) (cs dX:List AV) (r:Bool) (x y:yg),
  aA ah m S w cs xs->aA ah m S w dX ys->eF ks cs dX=some r->GB P t x xs->GB P t y ys->(Op.equalIn d t x y).run P w= .ok r w
def acx {n:Nat} (ih:TH P ah m S w n) {t:yB} {ks:List Nat} {s o d:Nat} (hk:kinds P n t=some ks) (aO:P.stoodInHeld t=false) (hz:cR P t=some s) (hs:ks.length=s) (hd:n<=d)
  {xs ys:List yg} {cs dX:List AV} (h1:aA ah m S w cs xs) (h2:aA ah m S w dX ys) {r:Bool} (he:eF ks ((cs.drop o).take s) ((dX.drop o).take s)=some r):
  ∃u u',(part t xs.toArray o).run P w= .ok u w/\(part t ys.toArray o).run P w= .ok u' w/\(Op.equalIn d t u u').run P w= .ok r w:=by
 obtain ⟨ag,ha,h1s⟩:=apN hk;obtain ⟨l1,l2⟩:=abr _ _ _ _ he;have q1:=iU _ _ h1;have q2:=iU _ _ h2;simp only [yy,List.length_drop] at l1 l2;have nv:dU P t=some false->s=1:=fun h=>by
  grind
 have ns:o+s<=xs.length\/s=0:=by omega
 have oA:o+s<=ys.length\/s=0:=by omega
 have get:∀(zs:List yg),(o+s<=zs.length\/s=0)->∃u,(part t zs.toArray o).run P w= .ok u w/\GB P t u ((zs.drop o).take s):=by
  intro zs hl;rcases hl with hl | hl
  ·exact arx hz ⟨ag,ha⟩ nv hl
  ·subst hl
   cases ag with
   | false=>have:=nv ha;omega
   | true=>
    refine ⟨.agg ((zs.drop o).take 0).toArray,?_,.inl ⟨ha,rfl⟩⟩;simp [part,Rx ha,nJ hz]
 obtain ⟨u,p1,v1⟩:=get xs ns;obtain ⟨u',p2,v2⟩:=get ys oA;exact ⟨u,u',p1,p2,ih t ks hk aO d hd _ _ _ _ r u u' (EI s (Ir o h1)) (EI s (Ir o h2)) he v1 v2⟩
def abt {n:Nat} (ih:TH P ah m S w n) {d:Nat} (hd:n<=d) {xs ys:List yg} {cs dX:List AV} (h1:aA ah m S w cs xs) (h2:aA ah m S w dX ys):
  ∀(fs:List uJ) (o:Nat) (ks:List Nat) (r:Bool),ED P (fun u=>kinds P n u) fs o=some ks->eF ks (cs.drop o) (dX.drop o)=some r->(Op.eqFields d xs.toArray ys.toArray fs).run P w= .ok r w
 | [],o,ks,r,h,he=>by
  simp only [ED,yd] at h;unfold eF at he
  split at he<;>simp_all [Op.eqFields]
 | f::fs,o,ks,r,h,he=>by
  simp only [ED] at h
  cases hk:kinds P n f.type with
  | none=>simp [hk] at h
  | some kf=>
   cases hz:cR P f.type with
   | none=>simp [hk,hz] at h
   | some s=>
    simp only [hk,hz] at h
    cases hc:(f.name != "_"&&yx f.offset o&&yx kf.length s&& !P.stoodInHeld f.type) with
    | false=>rw [hc] at h;cases h
    | true=>
     rw [hc] at h;simp only [yA] at h;simp only [yh,bne_iff_ne,uz] at hc;obtain ⟨⟨⟨hn,ho⟩,hl⟩,aO⟩:=hc;have ho:=yt ho;have hl:=yt hl
     cases hr:ED P (fun u=>kinds P n u) fs (o+s) with
     | none=>simp [hr] at h
     | some kr=>
      simp only [hr,yd] at h;subst h;obtain ⟨r1,r2,e1,e2,rfl⟩:=H9 _ _ _ _ _ he;rw [hl] at e1 e2;rw [vS,vS] at e2;obtain ⟨u,u',p1,p2,p3⟩:=acx ih (o:=o) hk aO hz hl hd h1 h2 e1;have rest:=abt ih hd h1 h2 fs (o+s) kr r2 hr e2;subst ho;simp only [Op.eqFields]
      cases r1 with
      | true=>simp [hn,p1,p2,p3,rest]
      | false=>simp [hn,p1,p2,p3]
def abN {n:Nat} (ih:TH P ah m S w n) {d:Nat} (hd:n<=d) {xs ys:List yg} {cs dX:List AV} (h1:aA ah m S w cs xs) (h2:aA ah m S w dX ys)
  {e:yB} {ks:List Nat} {s:Nat} (hk:kinds P n e=some ks) (aO:P.stoodInHeld e=false) (hz:cR P e=some s) (hl:ks.length=s):
  ∀(k j:Nat) (r:Bool),eF (yk k ks).flatten (cs.drop (j*s)) (dX.drop (j*s))=some r->(Op.eqItems d e s xs.toArray ys.toArray (List.range' j k)).run P w= .ok r w
 | 0,j,r,he=>by
  unfold eF at he
  split at he<;>simp_all [Op.eqItems]
 | k+1,j,r,he=>by
  obtain ⟨r1,r2,e1,e2,rfl⟩:=H9 _ _ _ _ _ he;rw [hl] at e1 e2;rw [vS,vS,show j*s+s=(j+1)*s by rw [wE,Nat.one_mul]] at e2;obtain ⟨u,u',p1,p2,p3⟩:=acx ih (o:=j*s) hk aO hz hl hd h1 h2 e1;have rest:=abN ih hd h1 h2 hk aO hz hl k (j+1) r2 e2;rw [List.range'_succ];simp only [Op.eqItems]
  cases r1 with
  | true=>simp [p1,p2,p3,rest]
  | false=>simp [p1,p2,p3]
def Ta:∀(n:Nat) (t:yB) (ks:List Nat),kinds P n t=some ks->P.stoodInHeld t=false->∀(d:Nat),n<=d->∀(xs ys:List yg) (cs dX:List AV) (r:Bool) (x y:yg),
  aA ah m S w cs xs->aA ah m S w dX ys->eF ks cs dX=some r->GB P t x xs->GB P t y ys->(Op.equalIn d t x y).run P w= .ok r w
 | 0,t,ks,h,_,_,_,_,_,_,_,_,_,_,_,_,_,_,_=>by simp [kinds] at h
 | n+1,t,ks,h,aO,0,hd,_,_,_,_,_,_,_,_,_,_,_,_=>by omega
 | n+1,t,ks,h,aO,d+1,hd,xs,ys,cs,dX,r,x,y,h1,h2,he,hx,hy=>by
  unfold kinds at h;have one:∀{k:Nat},ks=[k]->dU P t=some false->∃c c',cs=[c]/\dX=[c']/\ai ah m S w c x/\ai ah m S w c' y:=by
   intro k hk ha;rcases hx with ⟨hx,_⟩ | ⟨_,rfl⟩
   ·grind
   rcases hy with ⟨hy,_⟩ | ⟨_,rfl⟩
   ·grind
   have l1:=iU _ _ h1;have l2:=iU _ _ h2
   match cs,dX,l1,l2 with
   | [c],[c'],_,_=>
    simp only [aA] at h1 h2
    grind
  split at h
  ·rename_i hu;simp only [yd] at h;have ha:dU P t=some false:=by simp [dU,hu]
   obtain ⟨c,c',rfl,rfl,r1,r2⟩:=one h.symm ha;subst h;unfold eF at he
   split at he<;>simp_all [eF]
   subst he;simp only [ai] at r1 r2;subst r1;subst r2;simp [Op.equalIn,run_underlying hu]
  ·rename_i k0 hu;simp only [yd] at h;have ha:dU P t=some false:=by simp [dU,hu]
   obtain ⟨c,c',rfl,rfl,r1,r2⟩:=one h.symm ha;subst h;unfold eF at he
   split at he<;>simp_all [eF]
   obtain ⟨hk,he⟩:=he;subst he;simp only [ai] at r1 r2;subst r1;subst r2;simp [Op.equalIn,run_underlying hu]
  ·rename_i hu;simp only [yd] at h;have ha:dU P t=some false:=by simp [dU,hu]
   obtain ⟨c,c',rfl,rfl,r1,r2⟩:=one h.symm ha;subst h;unfold eF at he
   split at he<;>simp_all [eF]
   subst he;simp only [ai] at r1 r2;obtain ⟨s,rfl,rfl⟩:=r1;obtain ⟨s',rfl,rfl⟩:=r2;simp only [Op.equalIn,Sem.run_bind,run_underlying hu,Result.andThen_ok,Sem.run_pure,acw];rfl
  ·rename_i fs hu;have ha:dU P t=some true:=by simp [dU,hu]
   rcases hx with ⟨_,rfl⟩ | ⟨hx,_⟩
   ·rcases hy with ⟨_,rfl⟩ | ⟨hy,_⟩
    ·have hf:P.fieldsOf t=fs:=by simp [Program.fieldsOf,hu]
     rw [run_equalIn_struct w d t _ _ (by rw [hf];exact hu) aO,hf]
     exact abt (Ta n) (by omega) h1 h2 fs.toList 0 ks r h (by simpa using he)
    ·rw [ha] at hy;cases hy
   ·rw [ha] at hx;cases hx
  ·rename_i k e hu;have ha:dU P t=some true:=by simp [dU,hu]
   rcases hx with ⟨_,rfl⟩ | ⟨hx,_⟩
   ·rcases hy with ⟨_,rfl⟩ | ⟨hy,_⟩
    ·cases hk:kinds P n e with
     | none=>simp [hk] at h
     | some ke=>
      cases hz:cR P e with
      | none=>simp [hk,hz] at h
      | some s=>
       simp only [hk,hz] at h
       cases hc:(yx ke.length s&& !P.stoodInHeld e) with
       | false=>rw [hc] at h;cases h
       | true=>
        rw [hc] at h;simp only [yA,yd] at h;subst h;simp only [yh,uz] at hc;have fq:=hz;unfold cR at fq
        cases hi:P.info? e with
        | none=>simp [hi] at fq
        | some i=>
         simp only [hi,yd] at fq;have jQ:P.cellsOf e=s:=by simp [Program.cellsOf,hi,fq]
         rw [run_equalIn_array w d _ _ hu hi,jQ,List.range_eq_range'];exact abN (Ta n) (by omega) h1 h2 hk hc.2 hz (yt hc.1) k 0 r (by simpa using he)
    ·rw [ha] at hy;cases hy
   ·rw [ha] at hx;cases hx
  ·cases h
end
end
section
open Go
def dN {tm:Env} {hp:Hp} {v:AV} (h:bG tm hp bad=some v):False:=by simp [bad,bG] at h
section
variable {O:bA} {H:Hint} {m:Mp} {S:Nat->Prop} {w:yi} {tm:Env} {a:Act} {hp:Hp} {ct:Nat}
def atF {ah:Nat->Nat} {va vb v:AV} {x y:yg} (hx:ai ah m S w va x) (hy:ai ah m S w vb y) (h:VE.min2 va vb=some v):∃u,(Builtin.min2 x y).run O.P w= .ok u w/\ai ah m S w v u:=by
 unfold VE.min2 at h
 split at h
 ·simp only [ai] at hx hy;subst hx;subst hy;simp only [yd] at h;subst h;exact ⟨_,by simp only [Builtin.min2,Sem.run_pure];rfl,by simp only [ai]⟩
 ·rename_i k p k' q;simp only [ai] at hx hy;subst hx;subst hy
  cases ho:k.format.order p q with
  | none=>simp [ho] at h
  | some c=>cases c<;>(simp only [ho,yd] at h;subst h;exact ⟨_,by simp only [Builtin.min2,ho,Sem.run_pure];rfl,by simp only [ai]⟩)
 ·cases h
def atG {ah:Nat->Nat} {va vb v:AV} {x y:yg} (hx:ai ah m S w va x) (hy:ai ah m S w vb y) (h:VE.max2 va vb=some v):∃u,(Builtin.max2 x y).run O.P w= .ok u w/\ai ah m S w v u:=by
 unfold VE.max2 at h
 split at h
 ·simp only [ai] at hx hy;subst hx;subst hy;simp only [yd] at h;subst h;exact ⟨_,by simp only [Builtin.max2,Sem.run_pure];rfl,by simp only [ai]⟩
 ·rename_i k p k' q;simp only [ai] at hx hy;subst hx;subst hy
  cases ho:k.format.order p q with
  | none=>simp [ho] at h
  | some c=>cases c<;>(simp only [ho,yd] at h;subst h;exact ⟨_,by simp only [Builtin.max2,ho,Sem.run_pure];rfl,by simp only [ai]⟩)
 ·cases h
def SB {ah:Nat->Nat} {f:AV->AV->Option AV} {g:yg->yg->Sem yg} (hfg:∀va vb v x y,ai ah m S w va x->ai ah m S w vb y->f va vb=some v->∃u,(g x y).run O.P w= .ok u w/\ai ah m S w v u):
  ∀(l:List AV) (us:List yg) (va v:AV) (x:yg),ai ah m S w va x->aA ah m S w l us->Bl f va l=some v->∃u,(us.foldlM g x).run O.P w= .ok u w/\ai ah m S w v u
 | [],us,va,v,x,hx,hl,h=>by
  simp only [aA] at hl;subst hl;simp only [Bl,yd] at h;subst h;exact ⟨x,by simp,hx⟩
 | b::l,us,va,v,x,hx,hl,h=>by
  simp only [aA] at hl;obtain ⟨u,r,rfl,hu,hr⟩:=hl;simp only [Bl] at h
  cases hf:f va b with
  | none=>simp [hf] at h
  | some c=>
   simp only [hf] at h;obtain ⟨u1,h1,h2⟩:=hfg _ _ _ _ _ hx hu hf;obtain ⟨u2,h3,h4⟩:=SB hfg l r c v u1 h2 hr h;exact ⟨u2,by simp [h1,h3],h4⟩
def Tb {t:yB} {vx v:AV} {x:yg} {ty:yB} (hh:aW O m S w hp ct) (hx:ai O.ah m S w vx x)
  {k:Nat} (hu:(k=0/\O.P.underlying t=some .string)\/(k=1/\∃e,O.P.underlying t=some (.slice e))\/(k=2/\∃kt e,O.P.underlying t=some (.map kt e)))
  (h:fE hp k vx=some v):∃u,(Builtin.len_ #[t] ty #[x]).run O.P w= .ok u w/\ai O.ah m S w v u:=by
 rcases hu with ⟨rfl,hu⟩ | ⟨rfl,e,hu⟩ | ⟨rfl,kt,e,hu⟩
 all_goals cases vx<;>simp only [fE,reduceCtorEq] at h
 case inl.str s=>
  simp only [ai] at hx;obtain ⟨b,rfl,rfl⟩:=hx;simp only [yd] at h;subst h;refine ⟨_,by simp [Builtin.len_,run_underlying hu];rfl,?_⟩
  simp only [ai,goInt];rw [Lib.size_eq];simp
 case inr.inl.aa=>
  simp only [ai] at hx;subst hx;simp only [yd] at h;subst h;exact ⟨_,by simp [Builtin.len_,run_underlying hu];rfl,by simp [ai,goInt]⟩
 case inr.inl.aB ex n cs=>
  simp only [ai] at hx;rcases hx with ⟨b,o,c,rfl,_⟩ | ⟨a,rfl,rfl,rfl⟩
  all_goals
   simp only [yd] at h;subst h;exact ⟨_,by simp [Builtin.len_,run_underlying hu];rfl,by simp [ai,goInt]⟩
 case inr.inl.aw id o n=>
  simp only [ai] at hx;obtain ⟨p,c,_,rfl,_⟩:=hx;simp only [yd] at h;subst h;exact ⟨_,by simp [Builtin.len_,run_underlying hu];rfl,by simp [ai,goInt]⟩
 case inr.inr.kh=>
  simp only [ai] at hx;subst hx;simp only [yd] at h;subst h;exact ⟨_,by simp [Builtin.len_,run_underlying hu];rfl,by simp [ai,goInt]⟩
 case inr.inr.jw ks vs=>
  simp only [ai] at hx;obtain ⟨b,es,clock,rfl,_,_,_,hb,h1,_⟩:=hx;simp only [yd] at h;subst h;refine ⟨_,by simp [Builtin.len_,run_underlying hu,getObj,Sem.run,hb];rfl,?_⟩
  have:=iU _ _ h1
  simp only [ai,goInt];rw [<-this];simp
 case inr.inr.map id=>
  simp only [ai] at hx;obtain ⟨p,hm,rfl⟩:=hx
  split at h
  case h_2=>cases h
  rename_i ZA ks vs Dn;simp only [yd] at h;subst h;obtain ⟨p',es,clock,gG,hb,h1,_⟩:=hh.obj id _ _ Dn hm;rw [hm] at gG;injection gG with gG;subst gG
  refine ⟨_,by simp [Builtin.len_,run_underlying hu,getObj,Sem.run,hb];rfl,?_⟩
  have:=iU _ _ h1
  simp only [ai,goInt];rw [<-this];simp
end
end
section
open Go
section
variable {O:bA} {H:Hint} {m:Mp} {S:Nat->Prop} {w:yi} {tm:Env} {a:Act} {hp:Hp} {ct:Nat}
def EQ {t:yB} {z:AV} (h:mW O.P t=some z):∃v,(zeroValue t).run O.P w= .ok v w/\z=eL v:=by
 unfold mW at h
 cases hi:O.P.info? t with
 | none=>simp [hi] at h
 | some i=>
  simp only [hi] at h
  cases hz:i.zero with
  | none=>simp [hz] at h
  | some v=>
   simp only [hz,yd] at h;exact ⟨v,by simp [zeroValue,typeInfo,hi,hz],h.symm⟩
def Reads (O:bA) (m:Mp) (S:Nat->Prop) (w:yi) (a:Act) (o:y8) (v:AV):Prop:=
 ∃u,(execOp a.eval o).run O.P w= .ok (.value u) w/\ai O.ah m S w v u
def jW {o:y8} {v:AV} {s:Sem yg} (he:execOp a.eval o=(do pure (.value (<-s)):Sem Next)) (h:∃u,s.run O.P w= .ok u w/\ai O.ah m S w v u):Reads O m S w a o v:=by
 obtain ⟨u,h1,h2⟩:=h;exact ⟨u,by rw [he];simp [h1],h2⟩
def ary {o:y8} {op:wW} {t ty:yB} {x y:xz} {k:Nat} {v:AV} (hH:fR O H) (ht:cm O m S w tm a.tmps) (ho:o.op= .binOp op t x y ty)
  (hv:bG tm hp (bc O.P H k o)=some v):Reads O m S w a o v:=by
 have rx:=cB hH ht x;have ry:=cB hH ht y;have guard:∀{u:yg},(∀xs ys,¬(a.eval x= .agg xs/\a.eval y= .agg ys))\/O.P.eqGuardType O.P.depth t=false->a.eval x≠.nilIface->(xK op t (a.eval x) (a.eval y)).run O.P w= .ok u w->
   (do eqGuard op t x y (a.eval x) (a.eval y);xK op t (a.eval x) (a.eval y):Sem yg).run O.P w= .ok u w:=by
  intro u h1 h2 h3
  simp only [Sem.run_bind,aoU (P:=O.P) (w:=w) (t:=t) (op:=op) (x:=x) (y:=y) (h1.symm) h2,Result.andThen_ok,h3]
 have plain:bG tm hp (.bin op (aS H x) (aS H y))=some v->Reads O m S w a o v:=by
  intro hv;simp only [bG] at hv;obtain ⟨u,h1,h2⟩:=aru (P:=O.P) (t:=t) rx ry hv
  refine jW (s:=do eqGuard op t x y (a.eval x) (a.eval y);xK op t (a.eval x) (a.eval y)) (by simp only [execOp,ho]) ⟨u,guard (.inl ?_) ?_ h1,h2⟩
  ·rintro xs ys ⟨e1,e2⟩;rw [e1] at rx;unfold VE.binOp at hv
   split at hv
   ·rename_i h3 _;rw [h3] at rx;simp [ai] at rx
   ·rename_i h3 _;rw [h3] at rx;simp [ai] at rx
   ·rename_i h3 _;rw [h3] at rx;simp [ai] at rx
   ·cases hv
  ·intro e1;rw [e1] at rx;unfold VE.binOp at hv
   split at hv
   ·rename_i h3 _;rw [h3] at rx;simp [ai] at rx
   ·rename_i h3 _;rw [h3] at rx;simp [ai] at rx
   ·rename_i h3 _;rw [h3] at rx;simp [ai] at rx
   ·cases hv
 have other:∀(ne:Bool) (kd:VE.P3),(op= .eql/\ne=false\/op= .neq/\ne=true)->(∀r,jN kd (aF tm (aS H x)) (aF tm (aS H y))=some r->(Op.equal t (a.eval x) (a.eval y)).run O.P w= .ok r w/\
    ((∀xs ys,¬(a.eval x= .agg xs/\a.eval y= .agg ys))\/O.P.eqGuardType O.P.depth t=false)/\a.eval x≠.nilIface/\
    ∀q:Bool,(op= .eql->xK op t (a.eval x) (a.eval y)=(do pure (.bool (<-Op.equal t (a.eval x) (a.eval y)))))/\(op= .neq->xK op t (a.eval x) (a.eval y)=(do pure (.bool (!(<-Op.equal t (a.eval x) (a.eval y)))))))->
   bG tm hp (.eq ne kd (aS H x) (aS H y))=some v->Reads O m S w a o v:=by
  intro ne kd jR ml hv;simp only [bG] at hv
  cases he:jN kd (aF tm (aS H x)) (aF tm (aS H y)) with
  | none=>simp [he] at hv
  | some r=>
   simp only [he,yd] at hv;subst hv;obtain ⟨h1,h2,h3,h4⟩:=ml r he;obtain ⟨h5,h6⟩:=h4 true
   refine jW (s:=do eqGuard op t x y (a.eval x) (a.eval y);xK op t (a.eval x) (a.eval y)) (by simp only [execOp,ho]) ⟨.bool (ne !=r),guard h2 h3 ?_,by simp [ai]⟩
   rcases jR with ⟨rfl,rfl⟩ | ⟨rfl,rfl⟩
   ·rw [h5 rfl];simp [h1]
   ·rw [h6 rfl];simp [h1]
 have pB:O.P.underlying t=some .bool->∀r,jN .b (aF tm (aS H x)) (aF tm (aS H y))=some r->∃p q,a.eval x= .bool p/\a.eval y= .bool q/\(Op.equal t (a.eval x) (a.eval y)).run O.P w= .ok r w:=by
  intro hu r he;cases hx:aF tm (aS H x)<;>cases hy:aF tm (aS H y)<;>rw [hx,hy] at he<;>simp only [jN,reduceCtorEq] at he
  rw [hx] at rx;rw [hy] at ry;simp only [ai] at rx ry;simp only [yd] at he;refine ⟨_,_,rx,ry,?_⟩;rw [rx,ry,MQ,<-he];exact avM hu
 have pS:∀e,O.P.underlying t=some (.slice e)->∀r,jN .sl (aF tm (aS H x)) (aF tm (aS H y))=some r->∃p n c q n' c',a.eval x= .slice p n c/\a.eval y= .slice q n' c'/\(Op.equal t (a.eval x) (a.eval y)).run O.P w= .ok r w:=by
  intro e hu r he;have h1:=atB hu rx ry he;have sl:∀{v:AV} {u:yg},ai O.ah m S w v u->(v= .aa\/(∃a b c,v= .aB a b c)\/∃a b c,v= .aw a b c)->∃p n c,u= .slice p n c:=by
   intro v u hr hv;rcases hv with rfl | ⟨_,_,_,rfl⟩ | ⟨_,_,_,rfl⟩
   ·simp only [ai] at hr;exact ⟨_,_,_,hr⟩
   ·simp only [ai] at hr;rcases hr with ⟨b,o,c,hr,_⟩ | ⟨_,hr,_⟩<;>exact ⟨_,_,_,hr⟩
   ·simp only [ai] at hr;obtain ⟨b,c,_,hr,_⟩:=hr;exact ⟨_,_,_,hr⟩
  have dF:(aF tm (aS H x)= .aa\/(∃a b c,aF tm (aS H x)= .aB a b c)\/∃a b c,aF tm (aS H x)= .aw a b c)/\
    (aF tm (aS H y)= .aa\/(∃a b c,aF tm (aS H y)= .aB a b c)\/∃a b c,aF tm (aS H y)= .aw a b c):=by
   cases hx:aF tm (aS H x)<;>cases hy:aF tm (aS H y)<;>rw [hx,hy] at he<;>simp [jN] at he ⊢
  obtain ⟨p,n,c,e1⟩:=sl rx dF.1;obtain ⟨q,n',c',e2⟩:=sl ry dF.2;exact ⟨p,n,c,q,n',c',e1,e2,h1⟩
 have pF:∀ps rs vr,O.P.underlying t=some (.func ps rs vr)->∀r,jN .fn (aF tm (aS H x)) (aF tm (aS H y))=some r->
   ((a.eval x= .nilFunc\/∃f p q,a.eval x= .func f p q)/\(a.eval y= .nilFunc\/∃f p q,a.eval y= .func f p q))/\(Op.equal t (a.eval x) (a.eval y)).run O.P w= .ok r w:=by
  intro ps rs vr hu r he;have h1:=atD hu rx ry he;have sl:∀{v:AV} {u:yg},ai O.ah m S w v u->(v= .iZ\/(∃a b c,v= .fn a b c))->(u= .nilFunc\/∃f p q,u= .func f p q):=by
   intro v u hr hv;rcases hv with rfl | ⟨f,_,_,rfl⟩
   ·simp only [ai] at hr;exact .inl hr
   ·cases f with
    | f g=>simp only [ai] at hr;obtain ⟨b,c,hr,_⟩:=hr;exact .inr ⟨_,_,_,hr⟩
    | y l=>simp only [ai] at hr;obtain ⟨b,_,hr⟩:=hr;exact .inr ⟨_,_,_,hr⟩
  have dF:(aF tm (aS H x)= .iZ\/(∃a b c,aF tm (aS H x)= .fn a b c))/\(aF tm (aS H y)= .iZ\/(∃a b c,aF tm (aS H y)= .fn a b c)):=by
   cases hx:aF tm (aS H x)<;>cases hy:aF tm (aS H y)<;>rw [hx,hy] at he<;>simp [jN] at he ⊢
  exact ⟨⟨sl rx dF.1,sl ry dF.2⟩,h1⟩
 have pA:∀ks,kinds O.P 20 t=some ks->dU O.P t=some true->O.P.stoodInHeld t=false->∀r,jN (.ag ks) (aF tm (aS H x)) (aF tm (aS H y))=some r->∃p q,a.eval x= .agg p/\a.eval y= .agg q/\(Op.equal t (a.eval x) (a.eval y)).run O.P w= .ok r w:=by
  intro ks hk ha aO r he;cases hx:aF tm (aS H x)<;>cases hy:aF tm (aS H y)<;>rw [hx,hy] at he<;>simp only [jN,reduceCtorEq] at he
  rw [hx] at rx;rw [hy] at ry;simp only [ai] at rx ry;obtain ⟨p,e1,h1⟩:=rx;obtain ⟨q,e2,h2⟩:=ry;refine ⟨p,q,e1,e2,?_⟩;rw [e1,e2,MQ];exact Ta 20 t ks hk aO 10000 (by omega) _ _ _ _ r _ _ h1 h2 he (.inl ⟨ha,by simp⟩) (.inl ⟨ha,by simp⟩)
 have eqs:∀(ne:Bool),(op= .eql/\ne=false\/op= .neq/\ne=true)->bG tm hp (qQ O.P H ne op t x y)=some v->Reads O m S w a o v:=by
  intro ne jR hv;have agg:dU O.P t=some true->bG tm hp (rW O.P H ne t x y)=some v->Reads O m S w a o v:=by
   intro ha hv;unfold rW at hv
   cases hk:kinds O.P 20 t with
   | none=>rw [hk] at hv;exact (dN hv).elim
   | some ks=>
    simp only [hk] at hv
    cases hc:(O.P.stoodInHeld t||O.P.eqGuardType O.P.depth t) with
    | true=>rw [hc] at hv;exact (dN hv).elim
    | false=>
     rw [hc] at hv;simp only [yV] at hv;simp only [Bool.or_eq_false_iff] at hc;refine other ne (.ag ks) jR (fun r hr=>?_) hv;obtain ⟨p,q,e1,e2,h1⟩:=pA ks hk ha hc.1 r hr;refine ⟨h1,.inr hc.2,by rw [e1];simp,fun _=>?_⟩
     rw [e1,e2];exact ⟨fun e=>by subst e;rfl,fun e=>by subst e;rfl⟩
  unfold qQ at hv
  split at hv
  ·exact plain hv
  ·exact plain hv
  ·exact plain hv
  ·rename_i hu;refine other ne .b jR (fun r hr=>?_) hv;obtain ⟨p,q,e1,e2,h1⟩:=pB hu r hr;refine ⟨h1,.inl (by rw [e1];simp),by rw [e1];simp,fun _=>?_⟩
   rw [e1,e2];exact ⟨fun e=>by subst e;rfl,fun e=>by subst e;rfl⟩
  ·rename_i e hu;refine other ne .sl jR (fun r hr=>?_) hv;obtain ⟨p,n,c,q,n',c',e1,e2,h1⟩:=pS e hu r hr;refine ⟨h1,.inl (by rw [e1];simp),by rw [e1];simp,fun _=>?_⟩
   rw [e1,e2];exact ⟨fun e=>by subst e;rfl,fun e=>by subst e;rfl⟩
  ·rename_i ps rs vr hu;refine other ne .fn jR (fun r hr=>?_) hv;obtain ⟨⟨e1,e2⟩,h1⟩:=pF ps rs vr hu r hr;refine ⟨h1,.inl ?_,?_,fun _=>?_⟩
   ·rcases e1 with e1 | ⟨_,_,_,e1⟩<;>rw [e1]<;>simp
   ·rcases e1 with e1 | ⟨_,_,_,e1⟩<;>rw [e1]<;>simp
   ·rcases e1 with e1 | ⟨_,_,_,e1⟩<;>rcases e2 with e2 | ⟨_,_,_,e2⟩<;>rw [e1,e2]<;>exact ⟨fun e=>by subst e;rfl,fun e=>by subst e;rfl⟩
  ·rename_i fs hu;exact agg (by simp [dU,hu]) hv
  ·rename_i k0 e hu;exact agg (by simp [dU,hu]) hv
  ·exact (dN hv).elim
 cases op
 case eql=>exact eqs false (.inl ⟨rfl,rfl⟩) (by simpa only [bc,ho] using hv)
 case neq=>exact eqs true (.inr ⟨rfl,rfl⟩) (by simpa only [bc,ho] using hv)
 all_goals exact plain (by simpa only [bc,ho] using hv)
end
end
section
open Go
section
variable {O:bA} {H:Hint} {m:Mp} {S:Nat->Prop} {w:yi} {tm:Env} {a:Act} {hp:Hp} {ct:Nat}
def Ic {o:y8} {b:Builtin} {args:Array xz} {ts:Array yB} (ho:o.op= .call {callee:= .builtin b,args:=args,argTypes:=ts}):
  ∃cs,(execOp a.eval o).run O.P w=(builtin b ts o.type cs (args.map a.eval)).run O.P w:=by
 exact ⟨_,by simp only [execOp,ho,resolve,Sem.run_bind,Sem.run_pure,Result.andThen_ok,invoke];rfl⟩
def apO {o:y8} {c:Call} {k:Nat} {v:AV} (hH:fR O H) (ht:cm O m S w tm a.tmps) (hh:aW O m S w hp ct) (ho:o.op= .call c)
  (hv:bG tm hp (bc O.P H k o)=some v):Reads O m S w a o v:=by
 obtain ⟨callee,args,ts⟩:=c;simp only [bc,ho] at hv
 split at hv
 ·cases ZC:H.mode k<;>simp [ZC,bG] at hv
 ·rename_i _ b
  split at hv
  ·have key:∀{bb:Bool} {sz cJ:Nat} {x y:X},bG tm hp (bif bb then .aR sz cJ x y else bad)=some v->False:=by
    intro bb sz cJ x y h
    cases bb
    ·exact dN h
    ·simp [bG] at h
   split at hv
   ·split at hv
    ·exact (key hv).elim
    ·simp_all
   ·split at hv
    ·exact (key hv).elim
    ·simp_all
   ·simp_all
  ·rename_i x t ic pW;obtain ⟨al⟩:=args;obtain ⟨tl⟩:=ts;simp only at ic pW;subst ic;subst pW;obtain ⟨cs,gQ⟩:=Ic (O:=O) (w:=w) (a:=a) ho;have fin:(∃u,(Builtin.len_ #[t] o.type #[a.eval x]).run O.P w= .ok u w/\ai O.ah m S w v u)->Reads O m S w a o v:=by
    rintro ⟨u,h1,h2⟩;refine ⟨u,?_,h2⟩;rw [gQ];simp [builtin,h1]
   split at hv
   ·rename_i n e hu;simp only [bG,aF,yd] at hv;subst hv;exact fin ⟨_,by simp [Builtin.len_,run_underlying hu];rfl,by simp [ai,goInt]⟩
   ·rename_i hu;simp only [bG] at hv;exact fin (Tb hh (cB hH ht x) (.inl ⟨rfl,hu⟩) hv)
   ·rename_i e hu;simp only [bG] at hv;exact fin (Tb hh (cB hH ht x) (.inr (.inl ⟨rfl,e,hu⟩)) hv)
   ·rename_i kt e hu;simp only [bG] at hv;exact fin (Tb hh (cB hH ht x) (.inr (.inr ⟨rfl,kt,e,hu⟩)) hv)
   ·exact (dN hv).elim
  ·split at hv
   ·split at hv
    ·simp [bG] at hv
    ·exact (dN hv).elim
   ·exact (dN hv).elim
  ·simp only [bG] at hv;obtain ⟨cs,gQ⟩:=Ic (O:=O) (w:=w) (a:=a) ho;have hl:=CV hH ht args.toList
   cases hx:dD tm (ig H args.toList) with
   | nil=>simp [hx] at hv
   | cons c r=>
    simp only [hx] at hv;rw [hx] at hl;simp only [aA] at hl;obtain ⟨u,us,h1,h2,h3⟩:=hl;obtain ⟨q,h4,h5⟩:=SB (O:=O) (g:=Builtin.min2) (fun va vb v x y hx hy h=>atF hx hy h) r us c v u h2 h3 hv;refine ⟨q,?_,h5⟩;rw [gQ];simp [builtin,Builtin.min_,h1,h4]
  ·simp only [bG] at hv;obtain ⟨cs,gQ⟩:=Ic (O:=O) (w:=w) (a:=a) ho;have hl:=CV hH ht args.toList
   cases hx:dD tm (ig H args.toList) with
   | nil=>simp [hx] at hv
   | cons c r=>
    simp only [hx] at hv;rw [hx] at hl;simp only [aA] at hl;obtain ⟨u,us,h1,h2,h3⟩:=hl;obtain ⟨q,h4,h5⟩:=SB (O:=O) (g:=Builtin.max2) (fun va vb v x y hx hy h=>atG hx hy h) r us c v u h2 h3 hv;refine ⟨q,?_,h5⟩;rw [gQ];simp [builtin,Builtin.max_,h1,h4]
  ·exact (dN hv).elim
 ·exact (dN hv).elim
def abO {kt:yB} {kk:Nat} {vk:AV} (hk:keyOf O.P kt=some kk) (h:zB kk vk=true):∃d,O.P.underlying kt=some d/\Oe d=true/\fits d vk=true:=by
 unfold keyOf at hk
 split at hk
 ·rename_i hu;simp only [yd] at hk;subst hk;refine ⟨_,hu,rfl,?_⟩;cases vk<;>simp_all [zB,fits]
 ·rename_i hu;simp only [yd] at hk;subst hk;refine ⟨_,hu,rfl,?_⟩;cases vk<;>simp_all [zB,fits]
 ·rename_i hu;simp only [yd] at hk;subst hk;refine ⟨_,hu,rfl,?_⟩;cases vk<;>simp_all [zB,fits]
 ·cases hk
def aeB {o:y8} {k:Nat} {v:AV} (hH:fR O H) (ht:cm O m S w tm a.tmps) (hh:aW O m S w hp ct)
  (hv:bG tm hp (bc O.P H k o)=some v):Reads O m S w a o v:=by
 cases ho:o.op with
 | call c=>exact apO hH ht hh ho hv
 | binOp op t x y ty=>exact ary hH ht ho hv
 | move x=>
  simp only [bc,ho,bG,yd] at hv;subst hv;exact ⟨_,by simp only [execOp,ho,Sem.run_pure],cB hH ht x⟩
 | assign x=>
  simp only [bc,ho,bG,yd] at hv;subst hv;exact ⟨_,by simp only [execOp,ho,Sem.run_pure],cB hH ht x⟩
 | pick c x y=>
  simp only [bc,ho,bG] at hv;have rc:=cB hH ht c;cases hc:aF tm (aS H c)<;>rw [hc] at hv<;>simp only [reduceCtorEq] at hv
  rename_i b;rw [hc] at rc;simp only [ai] at rc;simp only [yd] at hv;subst hv
  cases b with
  | true=>exact ⟨a.eval x,by simp [execOp,ho,rc,asBool],cB hH ht x⟩
  | false=>exact ⟨a.eval y,by simp [execOp,ho,rc,asBool],cB hH ht y⟩
 | load t x=>
  simp only [bc,ho] at hv
  split at hv
  ·rename_i s ag hz ha;simp only [bG] at hv;exact jW (by simp only [execOp,ho]) (azK hh hz ha (cB hH ht x) hv)
  ·exact (dN hv).elim
 | fieldAddr t x i=>
  simp only [bc,ho] at hv
  split at hv
  ·rename_i fs hu
   split at hv
   ·rename_i f hf
    split at hv
    ·rename_i s hz;simp only [bG] at hv;exact jW (by simp only [execOp,ho]) (avN hu hf hz (cB hH ht x) hv)
    ·exact (dN hv).elim
   ·exact (dN hv).elim
  ·exact (dN hv).elim
 | field t x i=>
  simp only [bc,ho] at hv
  split at hv
  ·rename_i fs hu
   split at hv
   ·rename_i f hf
    split at hv
    ·rename_i s ag hz ha;simp only [bG] at hv;exact jW (by simp only [execOp,ho]) (avO hu hf hz ha (cB hH ht x) hv)
    ·exact (dN hv).elim
   ·exact (dN hv).elim
  ·exact (dN hv).elim
 | nilCheck x=>
  simp only [bc,ho,bG] at hv;have rx:=cB hH ht x;cases hx:aF tm (aS H x)<;>rw [hx] at hv rx<;>simp only [reduceCtorEq,yd] at hv
  ·subst hv;have r':=rx;simp only [ai] at r';obtain ⟨p,_,e⟩:=r';exact ⟨a.eval x,by simp only [execOp,ho,e,Sem.run_pure],rx⟩
  ·subst hv;have r':=rx;simp only [ai] at r';obtain ⟨b,o',e,_⟩:=r';exact ⟨a.eval x,by simp only [execOp,ho,e,Sem.run_pure],rx⟩
  ·subst hv;rename_i f _ _
   cases f with
   | f g=>
    have r':=rx;simp only [ai] at r';obtain ⟨fi,ca,e,_⟩:=r';exact ⟨a.eval x,by simp only [execOp,ho,e,Sem.run_pure],rx⟩
   | y l=>
    have r':=rx;simp only [ai] at r';obtain ⟨p,_,e⟩:=r';exact ⟨a.eval x,by simp only [execOp,ho,e,Sem.run_pure],rx⟩
 | unOp op t x=>
  simp only [bc,ho,bG] at hv;exact jW (by simp only [execOp,ho]) (atE (cB hH ht x) hv)
 | convert s d x=>
  simp only [bc,ho] at hv
  split at hv
  ·rename_i k1 k2 hs hd;simp only [bG] at hv;exact jW (by simp only [execOp,ho]) (adq hd (.inl ⟨_,hs⟩) (cB hH ht x) hv)
  ·rename_i k1 k2 hs hd;simp only [bG] at hv;exact jW (by simp only [execOp,ho]) (adq hd (.inr ⟨_,hs⟩) (cB hH ht x) hv)
  ·rename_i k1 k2 hs hd;simp only [bG] at hv;exact jW (by simp only [execOp,ho]) (adr hd (.inl ⟨_,hs⟩) (cB hH ht x) hv)
  ·rename_i k1 k2 hs hd;simp only [bG] at hv;exact jW (by simp only [execOp,ho]) (adr hd (.inr ⟨_,hs⟩) (cB hH ht x) hv)
  ·rename_i hs hd;simp only [bG] at hv;exact jW (by simp only [execOp,ho]) (arv hd hs (cB hH ht x) hv)
  ·exact (dN hv).elim
 | makeFunc fn first cap=>
  cases fn with
  | func f=>
   simp only [bc,ho] at hv
   split at hv
   ·rename_i g hg;simp only [bG,yd] at hv;subst hv;refine ⟨.func (.func f) (first.map a.eval) (cap.map a.eval),by simp [execOp,ho,Instr.makeFunc],?_⟩;simp only [ai];exact ⟨_,_,by rw [hH f g hg],by simpa using CV hH ht first.toList,by simpa using CV hH ht cap.toList⟩
   ·exact (dN hv).elim
  | _=>simp only [bc,ho] at hv;exact (dN hv).elim
 | slice t x lo hi mx=>
  cases mx with
  | some q=>simp only [bc,ho] at hv;exact (dN hv).elim
  | none=>
   simp only [bc,ho] at hv
   split at hv
   ·rename_i hu;simp only [bG] at hv;exact jW (by simp only [execOp,ho];rfl) (apM hH ht hu (cB hH ht x) hv)
   ·rename_i e hu
    split at hv
    ·rename_i s hz;simp only [bG] at hv;exact jW (by simp only [execOp,ho];rfl) (arw hH ht hu hz hh (cB hH ht x) hv)
    ·exact (dN hv).elim
   ·split at hv
    ·simp only [bG] at hv;cases hx:aF tm (aS H x)<;>rw [hx] at hv<;>simp [fg] at hv
    ·exact (dN hv).elim
   ·exact (dN hv).elim
 | indexAddr t x i=>
  simp only [bc,ho] at hv
  split at hv
  ·rename_i e hu
   split at hv
   ·rename_i s hz;simp only [bG] at hv
    cases hk:du (aF tm (aS H i)) with
    | none=>simp [hk] at hv
    | some j=>
     simp only [hk] at hv;exact jW (by simp only [execOp,ho]) (avP hu hz (cB hH ht x) (cB hH ht i) hk hv)
   ·exact (dN hv).elim
  ·rename_i n e hu
   split at hv
   ·rename_i s hz;simp only [bG] at hv
    cases hk:du (aF tm (aS H i)) with
    | none=>simp [hk] at hv
    | some j=>
     simp only [hk] at hv;exact jW (by simp only [execOp,ho]) (avQ hu hz (cB hH ht x) (cB hH ht i) hk hv)
   ·exact (dN hv).elim
  ·exact (dN hv).elim
 | index t x i=>
  simp only [bc,ho] at hv
  split at hv
  ·rename_i hu;simp only [bG] at hv
   cases hk:du (aF tm (aS H i)) with
   | none=>simp [hk] at hv
   | some j=>
    simp only [hk] at hv;exact jW (by simp only [execOp,ho]) (avS hu (cB hH ht x) (cB hH ht i) hk hv)
  ·rename_i n e hu
   split at hv
   ·rename_i s ag hz ha;simp only [bG] at hv
    cases hk:du (aF tm (aS H i)) with
    | none=>simp [hk] at hv
    | some j=>
     simp only [hk] at hv;exact jW (by simp only [execOp,ho]) (avR hu hz ha (cB hH ht x) (cB hH ht i) hk hv)
   ·exact (dN hv).elim
  ·exact (dN hv).elim
 | lookup t x i ok=>
  simp only [bc,ho] at hv
  split at hv
  ·rename_i kt e hu
   split at hv
   ·rename_i kk z ru hz;simp only [bG] at hv
    cases hf:zB kk (aF tm (aS H i)) with
    | false=>simp [hf] at hv
    | true=>
     simp only [hf,yA] at hv;obtain ⟨d,jd,il,ZD⟩:=abO ru hf;obtain ⟨zv,mA,rfl⟩:=EQ (w:=w) hz
     cases hr:Bm hp (aF tm (aS H i)) (aF tm (aS H x)) with
     | none=>simp [hr] at hv
     | some r=>
      refine jW (by simp only [execOp,ho]) (avT (ok:=ok) (r:=r) (z:=eL zv) hh hu jd il ZD mA (cB hH ht x) (cB hH ht i) (Nc zv) hr ?_);cases r<;>simpa [hr] using hv
   ·exact (dN hv).elim
  ·exact (dN hv).elim
 | extract x i=>
  simp only [bc,ho,bG] at hv;have rx:=cB hH ht x;cases hx:aF tm (aS H x)<;>rw [hx] at hv rx<;>simp only [reduceCtorEq] at hv
  simp only [ai] at rx;obtain ⟨xs,e,hr⟩:=rx;obtain ⟨u,h1,h2⟩:=R9 hr hv;refine ⟨u,?_,h2⟩;have ZE:xs[i]? =some u:=by simpa using h1
  simp [execOp,ho,e,Instr.extract,ZE]
 | build t parts=>
  simp only [bc,ho] at hv
  split at hv
  ·rename_i fs z hu hz
   split at hv
   ·rename_i pl aBh;have ep:=run_places (P:=O.P) w fs.toList pl aBh
    split at hv
    case h_2=>exact (dN hv).elim
    rename_i ps iD;simp only [bG] at hv
    cases hf:fill tm z ps with
    | none=>simp [hf] at hv
    | some cs=>
     simp only [hf,yd] at hv;subst hv;obtain ⟨zv,mA,jS⟩:=EQ (w:=w) hz;have Au:aA O.ah m S w z zv.cells.toList:=by
      have:=EA (ah:=O.ah) (m:=m) (S:=S) (w:=w) zv
      rw [<-jS] at this;exact this
     obtain ⟨out,h1,h2⟩:=Ng hH ht (place:=fun i=>pl[i]?) parts.toList ps z cs zv.cells iD Au hf;refine ⟨.agg out,?_,by simp only [ai];exact ⟨out,rfl,h2⟩⟩
     have hm:(Array.mapM (fun f=>Functor.map (Prod.mk f.offset) (vG f.type)) fs:Sem (Array (Nat×Nat))).run O.P w= .ok pl.toArray w:=by
      rw [Array.mapM_eq_mapM_toList];simp [ep]
     simp [execOp,ho,Instr.build,mA,run_underlying hu,hm,h1]
   ·exact (dN hv).elim
  ·rename_i n e z hu hz
   split at hv
   ·rename_i s hs
    split at hv
    ·rename_i ps iD;simp only [bG] at hv
     cases hf:fill tm z ps with
     | none=>simp [hf] at hv
     | some cs=>
      simp only [hf,yd] at hv;subst hv;obtain ⟨zv,mA,jS⟩:=EQ (w:=w) hz;have Au:aA O.ah m S w z zv.cells.toList:=by
       have:=EA (ah:=O.ah) (m:=m) (S:=S) (w:=w) zv
       rw [<-jS] at this;exact this
      obtain ⟨out,h1,h2⟩:=Ng hH ht (place:=fun i=>some (i*s,s)) parts.toList ps z cs zv.cells iD Au hf;refine ⟨.agg out,?_,by simp only [ai];exact ⟨out,rfl,h2⟩⟩
      simp [execOp,ho,Instr.build,mA,run_underlying hu,nJ hs,h1]
    ·exact (dN hv).elim
   ·exact (dN hv).elim
  ·exact (dN hv).elim
 | alloc t=>simp only [bc,ho] at hv;split at hv<;>simp [bG,bad] at hv
 | box t x=>simp only [bc,ho] at hv;split at hv<;>simp [bG,bad] at hv
 | buildSlice t n parts=>
  simp only [bc,ho] at hv
  split at hv
  ·split at hv
   ·rename_i s z _ _
    cases hc:yG (n*s) 16777216 with
    | false=>rw [hc] at hv;exact (dN hv).elim
    | true=>
     rw [hc] at hv;simp only [yA] at hv
     split at hv
     ·simp [bG] at hv
     ·exact (dN hv).elim
   ·exact (dN hv).elim
  ·exact (dN hv).elim
 | makeMap t r=>
  cases r<;>simp only [bc,ho] at hv
  ·repeat' split at hv
   all_goals simp [bG,bad] at hv
  ·exact (dN hv).elim
 | makeSlice t l c=>
  simp only [bc,ho] at hv
  repeat' split at hv
  all_goals simp [bG,bad] at hv
 | insert t x k y=>
  simp only [bc,ho] at hv
  repeat' split at hv
  all_goals simp [bG,bad] at hv
 | mapUpdate t x k y=>
  simp only [bc,ho] at hv
  repeat' split at hv
  all_goals simp [bG,bad] at hv
 | store t x y=>simp only [bc,ho] at hv;split at hv<;>simp [bG,bad] at hv
 | range t x=>simp only [bc,ho] at hv;split at hv<;>simp [bG,bad] at hv
 | next x b=>cases b<;>simp [bc,ho,bG,bad] at hv
 | _=>simp [bc,ho,bG,bad] at hv
end
end
end VE
