import GoSem.Core.Code
import GoSem.Core.Float
import GoSem.Core.Utf8
import Derived.CallsIn
import Derived.Laws.World
import GoSem.Op.Equal
import GoSem.Core.Region
import Derived.Below
import Derived.Laws.AppendOwn
import Derived.Laws.Rows
import Derived.WalkKit
import Derived.Laws.CopyRow
import Derived.Laws.Cells
import Derived.Laws.Strings
import Derived.Lib.Strings
set_option linter.all false
set_option maxRecDepth 100000
open BitVec renaming ofInt→wg
open Bool renaming eq_iff_iff→vT
open Go renaming BinOp→wi,Code→vw,FloatKind→w8,IntKind→yG,Oper→yI,Operand→y8,Program→yJ,TypeId→yj,Value→yd,World→yf,binOp→xk,sizeOf→vl
open Go.Utf8 renaming runeError→wQ,valid→tE
open List renaming map_cons→yP,replicate→yu,take_succ_cons→xQ
open Nat renaming beq→yk,beq_eq→yaX,ble→yy,blt→yA,le_of_ble_eq_true→yo,le_trans→xz,testBit→vm
open Option.some renaming injEq→yb
open UInt8 renaming toNat→yK,toNat_inj→tF
def uY:=@beq_iff_eq
def yr:=@cond_false
def yi:=@cond_true
def w6:=@decide_eq_false
def wM:=@decide_eq_true
def yaY:=@decide_eq_true_eq
def yD:=@decide_false
def yz:=@decide_true
def yaF:=@false_or
def yM:=@if_false
def yE:=@if_neg
def yS:=@if_pos
def yR:=@if_true
def yap:=@ne_eq
def uj:=@not_false_eq_true
def vo:=@not_true_eq_false
namespace VE
section
open Go (IntKind FloatKind BinOp UnOp)
inductive Fr where
 | f (n:Nat)
 | y (l:Nat)
 deriving DecidableEq,Inhabited
inductive AV where
 | int (k:yG) (n:Int)
 | bool (b:Bool)
 | cx (k:w8) (bits:Nat)
 | str (s:List Nat)
 | gW
 | ptr (id off:Nat)
 | ay (cells:List AV)
 | aa
 | aB (ex:Bool) (n:Nat) (cells:List AV)
 | bX (ex:Bool) (sz n:Nat) (cells:List AV)
 | au (id off n:Nat)
 | fn (f:Fr) (first cap:List AV)
 | fk
 | gH
 | map (id:Nat)
 | gj (ks vs:List AV)
 | it (id:Nat)
 | agg (cells:List AV)
 | aw (vs:List AV)
 | undef
 deriving Inhabited
inductive X where
 | t (i:Nat)
 | c (v:AV)
 deriving Inhabited
inductive Conv where
 | toInt (k:yG)
 | toFlt (k:w8)
 | str
 deriving Inhabited
inductive Md where
 | pure | own | heap | dyn
 deriving Inhabited
inductive Cut where
 | str
 | sl (sz:Nat)
 | ar (len sz:Nat)
 deriving Inhabited
inductive FJ where
 | b | sl | fn | ag (ks:List Nat)
 deriving Inhabited
inductive Op where
 | br (x:X)
 | pick (c a b:X)
 | box (sz:Nat) (x:X)
 | cp (zero:List AV) (parts:List (Nat×Nat×X))
 | bw (n sz:Nat) (zero:List AV) (parts:List (Nat×Nat×X))
 | ld (sz:Nat) (ag:Bool) (x:X)
 | st (sz:Nat) (x v:X)
 | BW (x:X)
 | bin (op:wi) (x y:X)
 | eq (ne:Bool) (k:FJ) (x y:X)
 | un (op:UnOp) (x:X)
 | cv (k:Conv) (x:X)
 | iM (f:Fr) (first cap:List X)
 | nV
 | eY (sz bytes:Nat) (zero:List AV) (len cap:X)
 | cY (k:Cut) (x:X) (lo hi:Option X)
 | off (k:Nat) (x:X)
 | Cv (o sz:Nat) (ag:Bool) (x:X)
 | bt (sz:Nat) (x i:X)
 | pn (len sz:Nat) (x i:X)
 | iA (x i:X)
 | po (len sz:Nat) (ag:Bool) (x i:X)
 | FK (kk:Nat) (zero:AV) (ok:Bool) (m k:X)
 | kK (kk:Nat) (m k v:X)
 | kL (x:X)
 | kM (x:X)
 | ext (i:Nat) (x:X)
 | call (m:Md) (f:X) (xs:List X)
 | fg (rs:List (Nat×Bool×Nat)) (f:X) (xs:List X)
 | gZ (rs:List (Nat×Bool×Nat)) (sz:Nat) (x v:X)
 | cy (sz bytes:Nat) (s x:X)
 | kN (sz:Nat) (d s:X)
 | len (k:Nat) (x:X)
 | mn (xs:List X)
 | mx (xs:List X)
 deriving Inhabited
structure aU where
 dst:Option Nat
 guard:Option (Nat×Bool)
 op:Op
 deriving Inhabited
inductive VC where
 | skip
 | aG (ops:List aU)
 | seq (a b:VC)
 | cond (x:X) (a b:VC)
 | aC (id:Nat) (a:VC)
 | kp (live:List Nat)
 | fz (ts:List Nat)
 | loop (live:List Nat) (a:VC)
 | rf (f:X) (ps:List Nat) (assign body:VC)
 | exit (id:Nat)
 | ret
 deriving Inhabited
inductive RV where
 | t (i:Nat)
 | cell (i sz:Nat) (ag:Bool)
 deriving Inhabited
structure ax where
 dI:List RV
 body:VC
 deriving Inhabited
inductive mw where
 | none | ret | exit (id:Nat)
 deriving Inhabited,DecidableEq
abbrev Env:=List (Nat×AV)
inductive Obj where
 | cells (rw pu ex:Bool) (sz:Nat) (cs:List AV)
 | mp (rw:Bool) (ks vs:List AV)
 | si (s:List Nat) (pos:Nat)
 | lp (tm:Env) (ps:List Nat) (assign body:VC) (state:Nat) (pending:mw)
 deriving Inhabited
abbrev Hp:=List (Nat×Obj)
structure St where
 tm:Env
 hp:Hp
 ct:Nat
 base:Nat
 deriving Inhabited
inductive Ex where
 | normal
 | ret
 | exit (id:Nat)
 deriving Inhabited,DecidableEq
def ah:Env->Nat->AV
 | [],_=> .undef
 | (j,v)::r,i=>bif yk j i then v else ah r i
def ak:Hp->Nat->Option Obj
 | [],_=>none
 | (j,o)::r,i=>bif yk j i then some o else ak r i
def aY:Hp->Nat->Obj->Hp
 | [],_,_=>[]
 | (j,o)::r,i,u=>bif yk j i then (j,u)::r else (j,o)::aY r i u
def cw:Hp->Nat->Hp
 | [],_=>[]
 | (j,o)::r,i=>bif yk j i then cw r i else (j,o)::cw r i
mutual
def aI:AV->Bool
 | .ptr _ _ | .au _ _ _ | .map _ | .it _ | .bX _ _ _ _=>false
 | .fn (.y _) _ _=>false
 | .fn (.f _) first cap=>az first&&az cap
 | .agg cs=>az cs
 | .aw vs=>az vs
 | _=>true
def az:List AV->Bool
 | []=>true
 | v::r=>aI v&&az r
end
def cellsOf:AV->List AV
 | .agg cs=>cs
 | v=>[v]
def cm:AV->Bool
 | .agg _ | .aw _ | .undef | .bX _ _ _ _=>false
 | _=>true
def bY:List AV->Bool
 | []=>true
 | v::r=>cm v&&bY r
def aq (tm:Env):X->AV
 | .t i=>ah tm i
 | .c v=>v
def cA (tm:Env):List X->List AV
 | []=>[]
 | x::r=>aq tm x::cA tm r
def slice (o n:Nat) (cs:List AV):List AV:=(cs.drop o).take n
def over (o:Nat) (new cs:List AV):List AV:=cs.take o++new++cs.drop (o+new.length)
mutual
def freeze:Nat->Hp->AV->Option (AV×Hp)
 | 0,_,_=>none
 | n+1,hp,v=>
  match v with
  | .au id o k=>
   match lZ n hp id with
   | some (ex,sz,cs,ai)=>
    bif yy (o+k*sz) cs.length then
     some (.aB (ex&&yA 0 sz&&yk (o+k*sz) cs.length) k (slice o (k*sz) cs),ai)
    else none
   | none=>none
  | .ptr id o=>
   match lZ n hp id with
   | some (_,_,cs,ai)=>some (.ay (cs.drop o),ai)
   | none=>none
  | .map id=>
   match ak hp id with
   | some (.mp _ ks vs)=>bif az ks&&az vs then some (.gj ks vs,aY hp id (.mp false ks vs)) else none
   | _=>none
  | .fn (.f g) first cap=>
   match bS n hp first with
   | some (PO,bm)=>
    match bS n bm cap with
    | some (E2,lI)=>some (.fn (.f g) PO E2,lI)
    | none=>none
   | none=>none
  | .agg cs=>match bS n hp cs with | some (cF,ai)=>some (.agg cF,ai) | none=>none
  | .aw cs=>match bS n hp cs with | some (cF,ai)=>some (.aw cF,ai) | none=>none
  | v=>bif aI v then some (v,hp) else none
def lZ:Nat->Hp->Nat->Option (Bool×Nat×List AV×Hp)
 | 0,_,_=>none
 | n+1,hp,id=>
  match ak hp id with
  | some (.cells rw pu ex sz cs)=>
   bif pu then some (ex,sz,cs,bif rw then aY hp id (.cells false true ex sz cs) else hp)
   else match bS n hp cs with
    | some (cF,ai)=>some (ex,sz,cF,aY ai id (.cells false false ex sz cs))
    | none=>none
  | _=>none
def bS:Nat->Hp->List AV->Option (List AV×Hp)
 | 0,_,_=>none
 | _+1,hp,[]=>some ([],hp)
 | n+1,hp,v::r=>
  match freeze n hp v with
  | some (v',bm)=>
   match bS n bm r with
   | some (r',lI)=>some (v'::r',lI)
   | none=>none
  | none=>none
end
def oJ (n:Nat) (hp:Hp) (v:AV):Option (AV×Hp):=
 match v with
 | .au id o k=>
  match ak hp id with
  | some (.cells true true ex sz cs)=>
   bif yy (o+k*sz) cs.length then
    some (.bX (ex&&yA 0 sz&&yk (o+k*sz) cs.length) sz k (slice o (k*sz) cs),cw hp id)
   else none
  | _=>freeze n hp v
 | _=>freeze n hp v
def IV:List AV->Option (List Nat)
 | []=>some []
 | .au id _ _::r=>match IV r with | some l=>bif l.any (yk id) then none else some (id::l) | none=>none
 | v::r=>bif aI v then IV r else none
def sM (n:Nat):Hp->List AV->Option (List AV×Hp)
 | hp,[]=>some ([],hp)
 | hp,v::r=>
  match oJ n hp v with
  | some (v',bm)=>match sM n bm r with | some (r',lI)=>some (v'::r',lI) | none=>none
  | none=>none
def deep:Nat:=1000
def result (hp:Hp) (v:AV):Option AV:=
 match v with
 | .aw vs=>
  match IV vs with
  | some _=>match sM deep hp vs with | some (cZ,_)=>some (.aw cZ) | none=>none
  | none=>match freeze deep hp v with | some (v',_)=>some v' | none=>none
 | v=>match oJ deep hp v with | some (v',_)=>some v' | none=>none
def bW:AV->AV
 | .bX ex _ n cs=> .aB ex n cs
 | v=>v
def qR:List AV->List AV
 | []=>[]
 | v::r=>bW v::qR r
def shut:AV->AV
 | .bX ex _ n cs=> .aB ex n cs
 | .aw vs=> .aw (qR vs)
 | v=>v
def dO (hp:Hp) (ct:Nat):AV->AV×Hp×Nat
 | .bX ex sz n cs=>(.au ct 0 n,(ct,.cells true true ex sz cs)::hp,ct+1)
 | v=>(v,hp,ct)
def gI:Hp->Nat->List AV->List AV×Hp×Nat
 | hp,ct,[]=>([],hp,ct)
 | hp,ct,v::r=>((dO hp ct v).1::(gI (dO hp ct v).2.1 (dO hp ct v).2.2 r).1,(gI (dO hp ct v).2.1 (dO hp ct v).2.2 r).2)
def own (hp:Hp) (ct:Nat):AV->AV×Hp×Nat
 | .aw vs=>(.aw (gI hp ct vs).1,(gI hp ct vs).2)
 | v=>dO hp ct v
mutual
def refs:AV->List Nat
 | .ptr id _=>[id]
 | .au id _ _=>[id]
 | .map id=>[id]
 | .it id=>[id]
 | .fn (.f _) first cap=>dC first++dC cap
 | .fn (.y l) _ _=>[l]
 | .agg cs=>dC cs
 | .aw cs=>dC cs
 | _=>[]
def dC:List AV->List Nat
 | []=>[]
 | v::r=>refs v++dC r
end
def dP:Env->List Nat
 | []=>[]
 | (_,v)::r=>refs v++dP r
def dN:Obj->List Nat
 | .cells _ pu _ _ cs=>bif pu then [] else dC cs
 | .mp _ ks vs=>dC ks++dC vs
 | .si _ _=>[]
 | .lp tm _ _ _ _ _=>dP tm
mutual
def bH (f:Nat->Option Nat):AV->AV
 | .ptr id o=>match f id with | some j=> .ptr j o | none=> .undef
 | .au id o n=>match f id with | some j=> .au j o n | none=> .undef
 | .map id=>match f id with | some j=> .map j | none=> .undef
 | .it id=>match f id with | some j=> .it j | none=> .undef
 | .fn (.f g) first cap=> .fn (.f g) (eb f first) (eb f cap)
 | .fn (.y l) first cap=>match f l with | some j=> .fn (.y j) (eb f first) (eb f cap) | none=> .undef
 | .agg cs=> .agg (eb f cs)
 | .aw cs=> .aw (eb f cs)
 | v=>v
def eb (f:Nat->Option Nat):List AV->List AV
 | []=>[]
 | v::r=>bH f v::eb f r
end
def ir (f:Nat->Option Nat):Env->Env
 | []=>[]
 | (i,v)::r=>(i,bH f v)::ir f r
def iI (f:Nat->Option Nat):Obj->Obj
 | .cells rw pu ex sz cs=> .cells rw pu ex sz (bif pu then cs else eb f cs)
 | .mp rw ks vs=> .mp rw (eb f ks) (eb f vs)
 | .si s pos=> .si s pos
 | .lp tm ps as_ body st pe=> .lp (ir f tm) ps as_ body st pe
def cN (tm:Env):List Nat->Env
 | []=>[]
 | i::r=>(i,ah tm i)::cN tm r
def iJ (i:Nat):List Nat->Bool
 | []=>false
 | j::r=>bif yk j i then true else iJ i r
def reach (hp:Hp) (base:Nat):Nat->List Nat->List Nat->List Nat
 | 0,_,seen=>seen
 | _+1,[],seen=>seen
 | n+1,id::fN,seen=>
  bif yA id base||iJ id seen then reach hp base n fN seen
  else match ak hp id with
   | some o=>reach hp base n (dN o++fN) (seen++[id])
   | none=>reach hp base n fN seen
def cJ (base:Nat):Hp->List Nat
 | []=>[]
 | (id,o)::r=>bif yA id base then dN o++cJ base r else cJ base r
def iZ (i:Nat):List Nat->Nat->Option Nat
 | [],_=>none
 | j::r,k=>bif yk j i then some k else iZ i r (k+1)
def il (base:Nat) (seen:List Nat) (id:Nat):Option Nat:=bif yA id base then some id else iZ id seen base
def iX (base:Nat) (f:Nat->Option Nat):Hp->Hp
 | []=>[]
 | (id,o)::r=>bif yA id base then (id,iI f o)::iX base f r else iX base f r
def im (hp:Hp) (f:Nat->Option Nat):List Nat->Nat->Hp->Hp
 | [],_,acc=>acc
 | id::r,k,acc=>match ak hp id with | some o=>im hp f r (k+1) ((k,iI f o)::acc) | none=>im hp f r (k+1) acc
def bA (live:List Nat) (s:St):St:=
 let tm:=cN s.tm live
 let seen:=reach s.hp s.base 100000 (dP tm++cJ s.base s.hp) []
 let f:=il s.base seen
 {tm:=ir f tm,hp:=im s.hp f seen s.base (iX s.base f s.hp),ct:=s.base+seen.length,base:=s.base}
def lj (hp:Hp) (sz:Nat):AV->Option (Nat×List AV)
 | .aa=>some (0,[])
 | .aB _ n cs=>bif yk cs.length (n*sz) then some (n,cs) else none
 | .au id o n=>
  match ak hp id with
  | some (.cells _ _ _ _ cs)=>bif yy (o+n*sz) cs.length then some (n,slice o (n*sz) cs) else none
  | _=>none
 | _=>none
def D4:List Nat->List AV
 | []=>[]
 | b::r=> .int .u8 b::D4 r
def pq:List Nat->List Nat->Bool
 | _,[]=>false
 | [],_::_=>true
 | a::x,b::y=>yA a b||(yk a b&&pq x y)
def dA:List Nat->List Nat->Bool
 | [],[]=>true
 | a::x,b::y=>yk a b&&dA x y
 | _,_=>false
def dh:List Nat->List AV->List AV->Option Bool
 | [],[],[]=>some true
 | 0::ks,.bool a::x,.bool b::y=>match dh ks x y with | some r=>some ((a==b)&&r) | none=>none
 | 1::ks,.int k a::x,.int k' b::y=>if k=k' then (match dh ks x y with | some r=>some ((a==b)&&r) | none=>none) else none
 | 2::ks,.str a::x,.str b::y=>match dh ks x y with | some r=>some (dA a b&&r) | none=>none
 | _,_,_=>none
def gX:FJ->AV->AV->Option Bool
 | .b,.bool a,.bool b=>some (a==b)
 | .sl,.aa,.aa=>some true
 | .sl,.aa,.aB _ _ _=>some false
 | .sl,.aa,.au _ _ _=>some false
 | .sl,.aB _ _ _,.aa=>some false
 | .sl,.au _ _ _,.aa=>some false
 | .fn,.fk,.fk=>some true
 | .fn,.fk,.fn _ _ _=>some false
 | .fn,.fn _ _ _,.fk=>some false
 | .ag ks,.agg a,.agg b=>dh ks a b
 | _,_,_=>none
def intCmp (op:wi) (x y:Int):Option Bool:=
 match op with
 | .eql=>some (x==y)
 | .neq=>some (x !=y)
 | .lss=>some (decide (x<y))
 | .leq=>some (decide (x<=y))
 | .gtr=>some (decide (x>y))
 | .geq=>some (decide (x>=y))
 | _=>none
def iF (op:wi) (k:yG) (x y:Int):Option AV:=
 match op with
 | .add=>some (.int k (k.wrap (x+y)))
 | .sub=>some (.int k (k.wrap (x-y)))
 | .mul=>some (.int k (k.wrap (x*y)))
 | .quo=>if y=0 then none else some (.int k (k.wrap (x.tdiv y)))
 | .rem=>if y=0 then none else some (.int k (x.tmod y))
 | .and=>some (.int k (k.wrap (wg k.bits x&&&wg k.bits y).toNat))
 | .or=>some (.int k (k.wrap (wg k.bits x|||wg k.bits y).toNat))
 | .xor=>some (.int k (k.wrap (wg k.bits x^^^wg k.bits y).toNat))
 | .andNot=>some (.int k (k.wrap (wg k.bits x&&&~~~(wg k.bits y)).toNat))
 | .shl | .shr=>none
 | op=>match intCmp op x y with | some b=>some (.bool b) | none=>none
def Iu (op:wi) (k:yG) (x y:Int):Option AV:=
 if y<0 then none else
 match op with
 | .shl=>some (.int k (k.wrap (x*2^(min y.toNat k.bits))))
 | .shr=>some (.int k (x.fdiv (2^(min y.toNat k.bits))))
 | _=>none
def By (op:wi) (x y:List Nat):Option AV:=
 match op with
 | .add=>bif yy (x.length+y.length) 9223372036854775807 then some (.str (x++y)) else none
 | .eql=>some (.bool (dA x y))
 | .neq=>some (.bool (!dA x y))
 | .lss=>some (.bool (pq x y))
 | .leq=>some (.bool (pq x y||dA x y))
 | .gtr=>some (.bool (!(pq x y||dA x y)))
 | .geq=>some (.bool (!pq x y))
 | _=>none
def Je (op:wi) (k:w8) (x y:Nat):Option AV:=
 let c:=k.format.order x y
 let ar (r:Option Nat):Option AV:=match r with | some b=>some (.cx k b) | none=>none
 match op with
 | .add=>ar (k.format.add x y)
 | .sub=>ar (k.format.sub x y)
 | .mul=>ar (k.format.mul x y)
 | .quo=>ar (k.format.div x y)
 | .eql=>some (.bool (c==some .eq))
 | .neq=>some (.bool (c !=some .eq))
 | .lss=>some (.bool (c==some .lt))
 | .leq=>some (.bool (c==some .lt||c==some .eq))
 | .gtr=>some (.bool (c==some .gt))
 | .geq=>some (.bool (c==some .gt||c==some .eq))
 | _=>none
def binOp (op:wi) (x y:AV):Option AV:=
 match x,y with
 | .int k a,.int k' b=>
  match op with
  | .shl | .shr=>Iu op k a b
  | _=>if k=k' then iF op k a b else none
 | .cx k a,.cx k' b=>if k=k' then Je op k a b else none
 | .str a,.str b=>By op a b
 | _,_=>none
def unOp (op:UnOp) (x:AV):Option AV:=
 match op,x with
 | .neg,.int k n=>some (.int k (k.wrap (0-n)))
 | .xor,.int k n=>iF .xor k (if k.signed then -1 else k.max) n
 | .not,.bool b=>some (.bool !b)
 | .neg,.cx k b=>some (.cx k (b^^^2^(k.format.exponentBits+k.format.fractionBits)))
 | _,_=>none
def lC (c:Conv) (x:AV):Option AV:=
 match c,x with
 | .toInt k,.int _ n=>some (.int k (k.wrap n))
 | .toFlt k,.int _ n=>some (.cx k (k.nearest n))
 | .toInt k,.cx s b=>
  match (s.decode b).toInt .zero with
  | some n=>if k.min<=n/\n<=k.max then some (.int k n) else none
  | none=>none
 | .toFlt k,.cx s b=>
  if s=k then some (.cx k b) else
  match s.decode b with
  | .number sg m e=>if (k.decode (k.encode (.number sg m e))).isInfinity then none else some (.cx k (k.encode (.number sg m e)))
  | _=>none
 | .str,.str s=>some (.str s)
 | _,_=>none
def gK (sz:Nat) (ag:Bool) (cs:List AV):Option AV:=
 bif ag then (bif yy sz cs.length then some (.agg (cs.take sz)) else none)
 else match cs with | v::_=>some v | []=>none
def cQ (x:AV):Option Nat:=
 match x with
 | .int _ n=>match n with | .ofNat k=>some k | .negSucc _=>none
 | _=>none
def cR (tm:Env) (d:Nat):Option X->Option Nat
 | none=>some d
 | some x=>cQ (aq tm x)
def fu (hp:Hp) (k:Cut) (x:AV) (tm:Env) (lo hi:Option X):Option AV:=
 match k,x with
 | .str,.str s=>
  match cR tm 0 lo,cR tm s.length hi with
  | some l,some h=>bif yy l h&&yy h s.length then some (.str ((s.take h).drop l)) else none
  | _,_=>none
 | .sl _,.aa=>
  match cR tm 0 lo,cR tm 0 hi with
  | some 0,some 0=>some .aa
  | _,_=>none
 | .sl sz,.aB ex n cs=>
  match cR tm 0 lo,cR tm n hi with
  | some l,some h=>bif yy l h&&yy h n then some (.aB (ex&&yk h n) (h-l) (slice (l*sz) ((h-l)*sz) cs)) else none
  | _,_=>none
 | .sl sz,.au id o n=>
  match ak hp id with
  | some (.cells _ _ _ z _)=>
   match cR tm 0 lo,cR tm n hi with
   | some l,some h=>
    bif yy l h&&yy h n&&yk z sz then
     bif yk l h&& !yk l 0 then some (.aB false 0 []) else some (.au id (o+l*sz) (h-l))
    else none
   | _,_=>none
  | _=>none
 | _,_=>none
def fill (tm:Env):List AV->List (Nat×Nat×X)->Option (List AV)
 | cs,[]=>some cs
 | cs,(o,sz,x)::r=>
  let new:=cellsOf (aq tm x)
  bif yk new.length sz&&yy (o+sz) cs.length&&bY new then fill tm (over o new cs) r else none
def zc:AV->AV->Option Bool
 | .int k a,.int k' b=>if k=k' then some (a==b) else none
 | .str a,.str b=>some (dA a b)
 | .bool a,.bool b=>some (a==b)
 | _,_=>none
def nk:Nat->AV->Bool
 | 0,.bool _=>true
 | 1,.int _ _=>true
 | 2,.str _=>true
 | _,_=>false
def qS (k:AV):List AV->List AV->Option (Option AV)
 | [],_=>some none
 | k'::ks,v::vs=>match zc k k' with | some true=>some (some v) | some false=>qS k ks vs | none=>none
 | _::_,[]=>none
def oW (k v:AV):List AV->List AV->Option (List AV×List AV)
 | [],[]=>some ([k],[v])
 | k'::ks,u::us=>
  match zc k k' with
  | some true=>some (k'::ks,v::us)
  | some false=>match oW k v ks us with | some (hJ,Kk)=>some (k'::hJ,u::Kk) | none=>none
  | none=>none
 | _,_=>none
def min2:AV->AV->Option AV
 | .int k x,.int _ y=>some (.int k (if y<x then y else x))
 | .cx k x,.cx _ y=>
  match k.format.order x y with
  | none=>none
  | some .lt=>some (.cx k x)
  | some .gt=>some (.cx k y)
  | some .eq=>some (.cx k (if (k.decode x).neg then x else y))
 | _,_=>none
def max2:AV->AV->Option AV
 | .int k x,.int _ y=>some (.int k (if y>x then y else x))
 | .cx k x,.cx _ y=>
  match k.format.order x y with
  | none=>none
  | some .lt=>some (.cx k y)
  | some .gt=>some (.cx k x)
  | some .eq=>some (.cx k (if (k.decode x).neg then y else x))
 | _,_=>none
def oQ (f:AV->AV->Option AV):AV->List AV->Option AV
 | a,[]=>some a
 | a,b::r=>match f a b with | some c=>oQ f c r | none=>none
def room:Nat:=1099511627776
abbrev eF:=Option (AV×Hp×Nat)
def gk (hp:Hp) (sz:Nat) (ag:Bool):AV->Option AV
 | .ptr id o=>match ak hp id with | some (.cells _ _ _ _ cs)=>gK sz ag (cs.drop o) | _=>none
 | .ay cs=>gK sz ag cs
 | _=>none
def Bz (k:Nat):AV->Option AV
 | .ptr id o=>some (.ptr id (o+k))
 | .ay cs=>bif yy k cs.length then some (.ay (cs.drop k)) else none
 | _=>none
def EF (o sz:Nat) (ag:Bool):AV->Option AV
 | .agg cs=>gK sz ag (cs.drop o)
 | _=>none
def fw (sz i:Nat):AV->Option AV
 | .au id o n=>bif yA i n then some (.ptr id (o+i*sz)) else none
 | .aB _ n cs=>bif yA i n then some (.ay (cs.drop (i*sz))) else none
 | _=>none
def EG (len sz i:Nat):AV->Option AV
 | .ptr id o=>bif yA i len then some (.ptr id (o+i*sz)) else none
 | .ay cs=>bif yA i len then some (.ay (cs.drop (i*sz))) else none
 | _=>none
def kB (i:Nat):AV->Option AV
 | .str s=>match s[i]? with | some b=>some (.int .u8 b) | none=>none
 | _=>none
def BA (len sz:Nat) (ag:Bool) (i:Nat):AV->Option AV
 | .agg cs=>bif yA i len then gK sz ag (cs.drop (i*sz)) else none
 | _=>none
def oR (hp:Hp) (k:AV):AV->Option (Option AV)
 | .gH=>some none
 | .map id=>match ak hp id with | some (.mp _ ks vs)=>qS k ks vs | _=>none
 | .gj ks vs=>qS k ks vs
 | _=>none
def fh (hp:Hp):Nat->AV->Option AV
 | 0,.str s=>some (.int .i64 s.length)
 | 1,.aa=>some (.int .i64 0)
 | 1,.aB _ n _=>some (.int .i64 n)
 | 1,.au _ _ n=>some (.int .i64 n)
 | 2,.gH=>some (.int .i64 0)
 | 2,.gj ks _=>some (.int .i64 ks.length)
 | 2,.map id=>match ak hp id with | some (.mp _ ks _)=>some (.int .i64 ks.length) | _=>none
 | _,_=>none
def bf (tm:Env) (hp:Hp):Op->Option AV
 | .br x=>some (aq tm x)
 | .pick c a b=>match aq tm c with | .bool t=>some (bif t then aq tm a else aq tm b) | _=>none
 | .cp zero parts=>match fill tm zero parts with | some cs=>some (.agg cs) | none=>none
 | .ld sz ag x=>gk hp sz ag (aq tm x)
 | .BW x=>
  match aq tm x with
  | .ptr id o=>some (.ptr id o)
  | .ay cs=>some (.ay cs)
  | .fn f a b=>some (.fn f a b)
  | _=>none
 | .bin op x y=>binOp op (aq tm x) (aq tm y)
 | .eq ne k x y=>match gX k (aq tm x) (aq tm y) with | some r=>some (.bool (ne !=r)) | none=>none
 | .un op x=>unOp op (aq tm x)
 | .cv k x=>lC k (aq tm x)
 | .iM f first cap=>some (.fn f (cA tm first) (cA tm cap))
 | .cY k x lo hi=>fu hp k (aq tm x) tm lo hi
 | .off k x=>Bz k (aq tm x)
 | .Cv o sz ag x=>EF o sz ag (aq tm x)
 | .bt sz x i=>match cQ (aq tm i) with | some j=>fw sz j (aq tm x) | none=>none
 | .pn len sz x i=>match cQ (aq tm i) with | some j=>EG len sz j (aq tm x) | none=>none
 | .iA x i=>match cQ (aq tm i) with | some j=>kB j (aq tm x) | none=>none
 | .po len sz ag x i=>match cQ (aq tm i) with | some j=>BA len sz ag j (aq tm x) | none=>none
 | .FK kk zero ok m k=>
  bif nk kk (aq tm k) then
   match oR hp (aq tm k) (aq tm m) with
   | some (some v)=>some (bif ok then .aw [v,.bool true] else v)
   | some none=>some (bif ok then .aw [zero,.bool false] else zero)
   | none=>none
  else none
 | .ext i x=>match aq tm x with | .aw vs=>vs[i]? | _=>none
 | .len k x=>fh hp k (aq tm x)
 | .mn xs=>match cA tm xs with | a::r=>oQ min2 a r | []=>none
 | .mx xs=>match cA tm xs with | a::r=>oQ max2 a r | []=>none
 | _=>none
def b6 (tm:Env) (hp:Hp) (ct:Nat):Op->Option (AV×Obj)
 | .box sz x=>
  let cs:=cellsOf (aq tm x)
  bif yk cs.length sz&&bY cs then some (.ptr ct 0,.cells true (az cs) true sz cs) else none
 | .bw n sz zero parts=>
  match fill tm zero parts with
  | some cs=>bif yk cs.length (n*sz) then some (.au ct 0 n,.cells true (az cs) true sz cs) else none
  | none=>none
 | .eY sz bytes zero len cap=>
  match cQ (aq tm len),cQ (aq tm cap) with
  | some l,some c=>
   bif yy l c&&(yy c room&&(yy (c*bytes) room&&(yk zero.length sz&&bY zero))) then
    some (.au ct 0 l,.cells true (az zero) (yk l c) sz (yu l zero).flatten)
   else none
  | _,_=>none
 | .nV=>some (.map ct,.mp true [] [])
 | .kL x=>match aq tm x with | .str s=>some (.it ct,.si s 0) | _=>none
 | _=>none
def decodeL (s:List Nat) (i:Nat):Nat×Nat:=
 let at' (k:Nat):Nat:=s.getD (i+k) 0
 let cont (k:Nat):Bool:=decide (i+k<s.length)&&at' k/64==2
 let b0:=at' 0
 if b0<0x80 then (b0,1)
 else if b0/32==6&&cont 1 then
  let c:=(b0%32)*64+at' 1%64
  if c>=0x80 then (c,2) else (wQ,1)
 else if b0/16==14&&cont 1&&cont 2 then
  let c:=(b0%16)*4096+(at' 1%64)*64+at' 2%64
  if c>=0x800&&tE c then (c,3) else (wQ,1)
 else if b0/8==30&&cont 1&&cont 2&&cont 3 then
  let c:=(b0%8)*262144+(at' 1%64)*4096+(at' 2%64)*64+at' 3%64
  if c>=0x10000&&tE c then (c,4) else (wQ,1)
 else (wQ,1)
def nt (hp:Hp) (sz:Nat):AV->Option (Nat×List AV)
 | .str b=>bif yk sz 1 then some (b.length,D4 b) else none
 | v=>lj hp sz v
def cg (tm:Env) (hp:Hp) (ct:Nat):Op->eF
 | .st sz x v=>
  let new:=cellsOf (aq tm v)
  match aq tm x with
  | .ptr id o=>
   match ak hp id with
   | some (.cells true pu ex z cs)=>
    bif yk new.length sz&&yy (o+sz) cs.length&&bY new then
     some (.aw [],aY hp id (.cells true (pu&&az new) ex z (over o new cs)),ct)
    else none
   | _=>none
  | _=>none
 | .kK kk m k v=>
  match aq tm m with
  | .map id=>
   match ak hp id with
   | some (.mp true ks vs)=>bif !nk kk (aq tm k) then none else match oW (aq tm k) (aq tm v) ks vs with | some (hJ,cZ)=>some (.aw [],aY hp id (.mp true hJ cZ),ct) | none=>none
   | _=>none
  | _=>none
 | .kM x=>
  match aq tm x with
  | .it id=>
   match ak hp id with
   | some (.si s pos)=>
    bif yA pos s.length then
     match decodeL s pos with
     | (c,wd)=>some (.aw [.bool true,.int .i64 pos,.int .i32 c],aY hp id (.si s (pos+wd)),ct)
    else some (.aw [.bool false],hp,ct)
   | _=>none
  | _=>none
 | .cy sz bytes s x=>
  match nt hp sz (aq tm x) with
  | none=>none
  | some (m,new)=>
   match aq tm s with
   | .aa=>
    bif yk m 0 then some (.aa,hp,ct)
    else bif yy m room&&(yy (m*bytes) room&&yA 0 sz) then some (.au ct 0 m,(ct,.cells true (az new) false sz new)::hp,ct+1) else none
   | .aB true n cs=>
    bif yk m 0 then some (.aB true n cs,hp,ct)
    else bif yy (n+m) room&&(yy ((n+m)*bytes) room&&(yk cs.length (n*sz)&&yA 0 sz)) then some (.au ct 0 (n+m),(ct,.cells true (az cs&&az new) false sz (cs++new))::hp,ct+1) else none
   | .au id o n=>
    match ak hp id with
    | some (.cells true pu _ z cs)=>
     bif yk z sz&&(yy (n+m) room&&(yy ((n+m)*bytes) room&&(yy (o+n*sz) cs.length&&(yA 0 sz&&bY new)))) then
      some (.au ct 0 (n+m),(ct,.cells true (pu&&az new) false sz (slice o (n*sz) cs++new))::cw hp id,ct+1)
     else none
    | _=>none
   | _=>none
 | .kN sz d s=>
  match lj hp sz (aq tm s),aq tm d with
  | some (m,new),.au id o n=>
   match ak hp id with
   | some (.cells true pu ex z cs)=>
    bif yk z sz&&(yy (o+n*sz) cs.length&&bY new) then
     some (.int .i64 (min m n:Nat),aY hp id (.cells true (pu&&az new) ex z (over o (new.take (min m n*sz)) cs)),ct)
    else none
   | _=>none
  | _,_=>none
 | _=>none
def gD:X->List Nat | .t i=>[i] | .c _=>[]
def nu:List X->List Nat
 | []=>[]
 | x::r=>gD x++nu r
def BB:Option X->List Nat | some x=>gD x | none=>[]
def BC:List (Nat×Nat×X)->List Nat
 | []=>[]
 | (_,_,x)::r=>gD x++BC r
def ie:Op->List Nat
 | .br x | .box _ x | .ld _ _ x | .BW x | .un _ x | .cv _ x | .off _ x | .Cv _ _ _ x | .kL x | .kM x | .ext _ x | .len _ x=>gD x
 | .pick a b c | .kK _ a b c=>gD a++(gD b++gD c)
 | .cp _ ps | .bw _ _ _ ps=>BC ps
 | .st _ a b | .bin _ a b | .eq _ _ a b | .bt _ a b | .pn _ _ a b | .iA a b | .po _ _ _ a b | .FK _ _ _ a b | .cy _ _ a b | .kN _ a b=>gD a++gD b
 | .iM _ a b=>nu a++nu b
 | .nV=>[]
 | .eY _ _ _ a b=>gD a++gD b
 | .cY _ x a b=>gD x++(BB a++BB b)
 | .call _ f xs=>gD f++nu xs
 | .fg _ f xs=>gD f++nu xs
 | .gZ _ _ a b=>gD a++gD b
 | .mn xs | .mx xs=>nu xs
def bh:Op->Nat
 | .br _ | .pick _ _ _ | .cp _ _ | .BW _ | .bin _ _ _ | .eq _ _ _ _ | .un _ _ | .cv _ _ | .iM _ _ _ | .off _ _ | .Cv _ _ _ _ | .bt _ _ _ | .pn _ _ _ _ | .iA _ _ | .po _ _ _ _ _ | .ext _ _ | .mn _ | .mx _=>0
 | .cY .str _ _ _ | .len 0 _ | .len 1 _=>0
 | .st _ _ _ | .kK _ _ _ _ | .kM _ | .cy _ _ _ _ | .kN _ _ _ | .fg _ _ _ | .gZ _ _ _ _ | .call .heap _ _ | .call .dyn _ _=>2
 | _=>1
def Jf:Option (Nat×Bool)->List Nat | some (t,_)=>[t] | none=>[]
def qD (o:aU):List Nat:=Jf o.guard++ie o.op
def zn (d:Option Nat) (l:List Nat):Bool:=match d with | some i=>iJ i l | none=>false
def RB (d e:Option Nat):Bool:=match d,e with | some i,some j=>yk i j | _,_=>false
def DP (a b:aU):Bool:=zn a.dst (qD b)||zn b.dst (qD a)||RB a.dst b.dst
def zo (sz:Nat) (ag:Bool) (t:Nat):List (Nat×Bool×Nat)->Bool
 | []=>false
 | (s,g,u)::r=>(yk s sz&&(g==ag&&yk u t))||zo sz ag t r
def zd (t:Nat):List aU->Bool
 | []=>true
 | o::r=> !zn o.dst [t]&&zd t r
def AZ (a b:aU) (r:List aU):Bool:=
 match a.guard,a.op,b.op with
 | none,.ld sz ag (.t t),.fg rs _ _=>zo sz ag t rs&&zd t (a::r)
 | none,.ld sz ag (.t t),.gZ rs _ _ _=>zo sz ag t rs&&zd t (a::r)
 | _,_,_=>false
def AJ (a b:aU):Bool:=
 match bh a.op,bh b.op with
 | 1,2 | 2,1 | 2,2=>true
 | _,_=>false
def DQ (m:Nat) (b:aU):List aU->Nat->Bool
 | [],_=>true
 | a::r,i=>(vm m i|| !(DP a b||(AJ a b&& !AZ a b r)))&&DQ m b r (i+1)
def sN (done:List aU):List aU->List Nat->Bool
 | [],_=>true
 | b::r,m::ms=>DQ m b done 0&&sN (done++[b]) r ms
 | _::_,[]=>false
def D5 (m:Nat):List aU->Nat->List (Nat×Bool×Nat)
 | [],_=>[]
 | a::r,i=>
  match vm m i,a with
  | false,⟨_,none,.ld sz ag (.t t)⟩=>(sz,ag,t)::D5 m r (i+1)
  | _,_=>D5 m r (i+1)
def stOp (rs:List (Nat×Bool×Nat)) (sz:Nat) (x v:X):Op:=match rs with | []=> .st sz x v | rs=> .gZ rs sz x v
def nD (done:List aU):List aU->List Nat->List aU
 | ⟨d,g,.fg _ f xs⟩::r,m::ms=>let o:aU:=⟨d,g,.fg (D5 m done 0) f xs⟩;o::nD (done++[o]) r ms
 | ⟨d,g,.st sz x v⟩::r,m::ms=>let o:aU:=⟨d,g,stOp (D5 m done 0) sz x v⟩;o::nD (done++[o]) r ms
 | o::r,_::ms=>o::nD (done++[o]) r ms
 | l,_=>l
abbrev aF:=Nat->Option ax
structure Lib where
 pure:Nat->Option (List AV->Option AV)
 heap:Nat->Option (Hp->Nat->List AV->eF)
abbrev b9:=VC->St->Option (Ex×St)
def eV:Nat->List AV->Env
 | _,[]=>[]
 | i,v::r=>(i,v)::eV (i+1) r
def results1 (s:St):RV->Option AV
 | .t i=>some (ah s.tm i)
 | .cell i sz ag=>
  match ah s.tm i with
  | .ptr id o=>match ak s.hp id with | some (.cells _ _ _ _ cs)=>gK sz ag (cs.drop o) | _=>none
  | .ay cs=>gK sz ag cs
  | _=>none
def iE (s:St):List RV->Option (List AV)
 | []=>some []
 | r::rest=>match results1 s r,iE s rest with | some v,some vs=>some (v::vs) | _,_=>none
def fT (s:St) (rs:List RV):Option AV:=
 match iE s rs with
 | some [v]=>some v
 | some vs=>some (.aw vs)
 | none=>none
def b5 (P:aF) (L:Lib) (self:b9) (n:Nat) (ap:List AV):Option AV:=
 match L.pure n with
 | some sp=>sp ap
 | none=>
  match P n with
  | none=>none
  | some F=>
   match self F.body ⟨eV 0 ap,[],0,0⟩ with
   | some (.normal,s) | some (.ret,s)=>match fT s F.dI with | some v=>result s.hp v | none=>none
   | _=>none
def IW:Ex->mw
 | .normal=> .none
 | .ret=> .ret
 | .exit id=> .exit id
def lm:Env->List Nat->List AV->Option Env
 | tm,[],[]=>some tm
 | tm,p::ps,v::vs=>lm ((p,v)::tm) ps vs
 | _,_,_=>none
def fK (P:aF) (L:Lib) (self:b9) (hp:Hp) (ct:Nat) (n:Nat) (ap:List AV):eF:=
 match L.heap n with
 | some sp=>sp hp ct ap
 | none=>
  match P n with
  | none=>none
  | some F=>
   match self F.body ⟨eV 0 ap,hp,ct,ct⟩ with
   | some (.normal,s) | some (.ret,s)=>match fT s F.dI with | some v=>some (v,s.hp,s.ct) | none=>none
   | _=>none
def fV (self:b9) (hp:Hp) (ct:Nat) (l:Nat) (xs:List AV):eF:=
 match ak hp l with
 | some (.lp tm ps as_ body 0 _)=>
  match lm tm ps xs with
  | none=>none
  | some tm'=>
   match self as_ ⟨tm',hp,ct,ct⟩ with
   | some (.normal,s1)=>
    match ak s1.hp l with
    | some (.lp lJ mG rN qU 0 kO)=>
     match self body ⟨s1.tm,aY s1.hp l (.lp lJ mG rN qU 1 kO),s1.ct,s1.ct⟩ with
     | some (ex,s2)=>
      match ak s2.hp l with
      | some (.lp mH pv Cw BD 1 _)=>
       match ex with
       | .normal=>some (.bool true,aY s2.hp l (.lp mH pv Cw BD 0 .none),s2.ct)
       | ex=>some (.bool false,aY s2.hp l (.lp mH pv Cw BD 2 (IW ex)),s2.ct)
      | _=>none
     | none=>none
    | _=>none
   | _=>none
 | _=>none
def cK (P:aF) (L:Lib) (self:b9) (hp:Hp) (ct:Nat) (m:Md) (fv:AV) (xs:List AV):eF:=
 match fv with
 | .fn (.f n) first cap=>
  match m with
  | .pure=>
   match bS deep hp (first++(xs++cap)) with
   | some (ap,bm)=>match b5 P L self n ap with | some r=>some (shut r,bm,ct) | none=>none
   | none=>none
  | .own=>
   match bS deep hp (first++(xs++cap)) with
   | some (ap,bm)=>match b5 P L self n ap with | some r=>some (own bm ct r) | none=>none
   | none=>none
  | .heap=>fK P L self hp ct n (first++(xs++cap))
  | .dyn=>
   bif az (first++(xs++cap)) then
    match b5 P L self n (first++(xs++cap)) with | some r=>some (shut r,hp,ct) | none=>none
   else fK P L self hp ct n (first++(xs++cap))
 | .fn (.y l) _ _=>
  match m with
  | .heap | .dyn=>fV self hp ct l xs
  | _=>none
 | _=>none
def E3:AV->AV->Bool
 | .int k a,.int k' b=>decide (k=k')&&a==b
 | .bool a,.bool b=>a==b
 | .str a,.str b=>dA a b
 | .aa,.aa=>true
 | .gW,.gW=>true
 | .ptr i o,.ptr j p=>yk i j&&yk o p
 | .au i o n,.au j p m=>yk i j&&(yk o p&&yk n m)
 | .map i,.map j=>yk i j
 | _,_=>false
def lk (tm:Env) (hp ai:Hp):List (Nat×Bool×Nat)->Bool
 | []=>true
 | (sz,ag,x)::r=>
  match gk hp sz ag (ah tm x),gk ai sz ag (ah tm x) with
  | some a,some b=>E3 a b&&lk tm hp ai r
  | _,_=>false
def sT (tm:Env) (id:Nat):List (Nat×Bool×Nat)->Bool
 | []=>true
 | (_,_,x)::r=>(match ah tm x with | .ptr j _=> !yk j id | .ay _=>true | _=>false)&&sT tm id r
def aZ (P:aF) (L:Lib) (self:b9) (tm:Env) (hp:Hp) (ct:Nat) (o:Op):eF:=
 match o with
 | .call m f xs=>cK P L self hp ct m (aq tm f) (cA tm xs)
 | .fg rs f xs=>
  match cK P L self hp ct .dyn (aq tm f) (cA tm xs) with
  | some (v,ai,aO)=>bif lk tm hp ai rs then some (v,ai,aO) else none
  | none=>none
 | .gZ rs sz x v=>
  match aq tm x with
  | .ptr id _=>bif sT tm id rs then cg tm hp ct (.st sz x v) else none
  | _=>none
 | .st .. | .kK .. | .kM .. | .cy .. | .kN .. =>cg tm hp ct o
 | .box .. | .bw .. | .eY .. | .nV | .kL .. =>match b6 tm hp ct o with | some (v,b)=>some (v,(ct,b)::hp,ct+1) | none=>none
 | o=>match bf tm hp o with | some v=>some (v,hp,ct) | none=>none
def put (d:Option Nat) (v:AV) (tm:Env):Env:=
 match d with
 | some i=>(i,v)::tm
 | none=>tm
def cM (P:aF) (L:Lib) (self:b9):List aU->St->Option St
 | [],s=>some s
 | ⟨d,g,o⟩::r,s=>
  let want:=match g with | none=>some true | some (t,b)=>match ah s.tm t with | .bool c=>some (c==b) | .aw []=>some false | _=>none
  match want with
  | some true=>
   match aZ P L self s.tm s.hp s.ct o with
   | some (v,hp,ct)=>cM P L self r {s with tm:=put d v s.tm,hp:=hp,ct:=ct}
   | none=>none
  | some false=>cM P L self r {s with tm:=put d (.aw []) s.tm}
  | none=>none
def kC:List Nat->St->Option St
 | [],s=>some s
 | t::r,s=>
  match freeze deep s.hp (ah s.tm t) with
  | some (v,hp)=>kC r {s with tm:=(t,v)::s.tm,hp:=hp}
  | none=>none
def bj (P:aF) (L:Lib) (self:b9):VC->St->Option (Ex×St)
 | .skip,s=>some (.normal,s)
 | .aG ops,s=>match cM P L self ops s with | some s'=>some (.normal,s') | none=>none
 | .seq a b,s=>
  match bj P L self a s with
  | some (.normal,s1)=>bj P L self b s1
  | r=>r
 | .cond x a b,s=>
  match aq s.tm x with
  | .bool t=>bif t then bj P L self a s else bj P L self b s
  | _=>none
 | .aC id a,s=>
  match bj P L self a s with
  | some (.exit j,s1)=>bif yk j id then some (.normal,s1) else some (.exit j,s1)
  | r=>r
 | .kp live,s=>some (.normal,bA live s)
 | .fz ts,s=>match kC ts s with | some s'=>some (.normal,s') | none=>none
 | .loop live a,s=>
  match bj P L self a (bA live s) with
  | some (.normal,s1)=>self (.loop live a) s1
  | r=>r
 | .rf f ps as_ body,s=>
  match aq s.tm f with
  | .fn (.f n) first cap=>
   match L.heap n with
   | some _=>none
   | none=>
    match fK P L self ((s.ct,.lp s.tm ps as_ body 0 .none)::s.hp) (s.ct+1) n (first++(.fn (.y s.ct) [] []::cap)) with
    | some (_,hp,ct)=>
     match ak hp s.ct with
     | some (.lp _ _ _ _ st pe)=>
      bif yk st 1 then none else
      match pe with
      | .none=>some (.normal,{s with hp:=cw hp s.ct,ct:=ct})
      | .ret=>some (.ret,{s with hp:=cw hp s.ct,ct:=ct})
      | .exit id=>some (.exit id,{s with hp:=cw hp s.ct,ct:=ct})
     | _=>none
    | none=>none
  | _=>none
 | .exit id,s=>some (.exit id,s)
 | .ret,s=>some (.ret,s)
def ev (P:aF) (L:Lib) (n:Nat):b9:=Nat.rec (fun _ _=>none) (fun _ ih=>bj P L ih) n
def Kl (P:aF) (L:Lib) (n:Nat) (f:Nat) (ap:List AV):Option AV:=b5 P L (ev P L n) f ap
end
section
open Go
structure Pl where
 b:Nat
 o:Nat
 e:Nat
 z:Nat
abbrev Mp:=Nat->Option Pl
section
variable (ae:Nat->Nat) (m:Mp) (S:Nat->Prop) (w:yf)
mutual
def af:AV->yd->Prop
 | .int k n,v=>v= .int k n
 | .bool b,v=>v= .bool b
 | .cx k b,v=>v= .float k b
 | .str s,v=>∃t:ByteArray,v= .string t/\t.data.toList.map yK=s
 | .gW,v=>v= .pointer none
 | .ptr id o,v=>∃p,m id=some p/\v= .pointer (some ⟨p.b,p.o+o,none⟩)
 | .ay cs,v=>∃b o,v= .pointer (some ⟨b,o,none⟩)/\(cs=[]\/S b)/\az cs=true/\bC cs b o
 | .aa,v=>v= .slice none 0 0
 | .aB ex n cs,v=>(∃b o c,v= .slice (some ⟨b,o,none⟩) n c/\n<=c/\(ex=true->c=n)/\(cs=[]\/S b)/\az cs=true/\bC cs b o)\/(∃a,v= .slice (some a) 0 0/\n=0/\cs=[])
 | .bX _ _ _ _,_=>False
 | .au id o n,v=>∃p c,m id=some p/\v= .slice (some ⟨p.b,p.o+o,none⟩) n c/\n<=c/\o+c*p.z=p.e
 | .fn (.f g) first cap,v=>∃fi ca:Array yd,v= .func (.func (ae g)) fi ca/\an first fi.toList/\an cap ca.toList
 | .fn (.y l) _ _,v=>∃p,m l=some p/\v= .func (.yield p.b) #[] #[]
 | .fk,v=>v= .nilFunc
 | .gH,v=>v= .map none
 | .map id,v=>∃p,m id=some p/\v= .map (some p.b)
 | .gj ks vs,v=>∃b es clock,v= .map (some b)/\S b/\az ks=true/\az vs=true/\w.heap[b]? =some (.map es clock)/\
   an ks (es.toList.map (·.key))/\an vs (es.toList.map (·.val))
 | .it id,v=>∃p,m id=some p/\v= .pointer (some ⟨p.b,0,none⟩)
 | .agg cs,v=>∃xs:Array yd,v= .agg xs/\an cs xs.toList
 | .aw cs,v=>∃xs:Array yd,v= .tuple xs/\an cs xs.toList
 | .undef,_=>True
def an:List AV->List yd->Prop
 | [],us=>us=[]
 | c::cs,us=>∃u r,us=u::r/\af c u/\an cs r
def bC:List AV->Nat->Nat->Prop
 | [],_,_=>True
 | c::cs,b,o=>(∃u,w.cell? ⟨b,o,none⟩=some u/\af c u)/\bC cs b (o+1)
end
end
def ej (S:Nat->Prop) (w w':yf):Prop:=∀b,S b->w'.heap[b]? =w.heap[b]?
def Di {w w':yf} {b o:Nat} (h:w'.heap[b]? =w.heap[b]?):w'.cell? ⟨b,o,none⟩=w.cell? ⟨b,o,none⟩:=by
 simp only [World.cell?,h]
section
variable {ae:Nat->Nat} {m m':Mp} {S S':Nat->Prop} {w w':yf}
mutual
def iU (hm:∀id p,m id=some p->m' id=some p) (hS:∀b,S b->S' b) (hw:ej S w w'):
  ∀(v:AV) (u:yd),af ae m S w v u->af ae m' S' w' v u
 | .int _ _,_,h | .bool _,_,h | .cx _ _,_,h | .str _,_,h | .gW,_,h | .aa,_,h | .fk,_,h | .gH,_,h | .undef,_,h=>by
  simpa only [af] using h
 | .ptr id o,u,h=>by
  simp only [af] at h ⊢;obtain ⟨p,h1,h2⟩:=h;exact ⟨p,hm _ _ h1,h2⟩
 | .ay cs,u,h=>by
  simp only [af] at h ⊢;obtain ⟨b,o,h1,h2,h3,h4⟩:=h;refine ⟨b,o,h1,h2.imp id (hS b),h3,?_⟩;rcases h2 with rfl | h2
  ·simp only [bC]
  ·exact G7 hm hS hw cs b o h2 h4
 | .aB ex n cs,u,h=>by
  simp only [af] at h ⊢;rcases h with ⟨b,o,c,h1,h2,h3,h4,h5,h6⟩ | h
  ·refine .inl ⟨b,o,c,h1,h2,h3,h4.imp id (hS b),h5,?_⟩;rcases h4 with rfl | h4
   ·simp only [bC]
   ·exact G7 hm hS hw cs b o h4 h6
  ·exact .inr h
 | .bX _ _ _ _,u,h=>by simp only [af] at h
 | .au id o n,u,h=>by
  simp only [af] at h ⊢;obtain ⟨p,c,h1,h2⟩:=h;exact ⟨p,c,hm _ _ h1,h2⟩
 | .fn (.f g) first cap,u,h=>by
  simp only [af] at h ⊢;obtain ⟨fi,ca,h1,h2,h3⟩:=h;exact ⟨fi,ca,h1,fb hm hS hw first _ h2,fb hm hS hw cap _ h3⟩
 | .fn (.y l) _ _,u,h=>by
  simp only [af] at h ⊢;obtain ⟨p,h1,h2⟩:=h;exact ⟨p,hm _ _ h1,h2⟩
 | .map id,u,h=>by
  simp only [af] at h ⊢;obtain ⟨p,h1,h2⟩:=h;exact ⟨p,hm _ _ h1,h2⟩
 | .gj ks vs,u,h=>by
  simp only [af] at h ⊢;obtain ⟨b,es,clock,h1,h2,h3,h4,h5,h6,h7⟩:=h;exact ⟨b,es,clock,h1,hS b h2,h3,h4,(hw b h2).trans h5,fb hm hS hw ks _ h6,fb hm hS hw vs _ h7⟩
 | .it id,u,h=>by
  simp only [af] at h ⊢;obtain ⟨p,h1,h2⟩:=h;exact ⟨p,hm _ _ h1,h2⟩
 | .agg cs,u,h=>by
  simp only [af] at h ⊢;obtain ⟨xs,h1,h2⟩:=h;exact ⟨xs,h1,fb hm hS hw cs _ h2⟩
 | .aw cs,u,h=>by
  simp only [af] at h ⊢;obtain ⟨xs,h1,h2⟩:=h;exact ⟨xs,h1,fb hm hS hw cs _ h2⟩
def fb (hm:∀id p,m id=some p->m' id=some p) (hS:∀b,S b->S' b) (hw:ej S w w'):
  ∀(vs:List AV) (us:List yd),an ae m S w vs us->an ae m' S' w' vs us
 | [],us,h=>by simpa only [an] using h
 | v::r,us,h=>by
  simp only [an] at h ⊢;obtain ⟨u,t,h1,h2,h3⟩:=h;exact ⟨u,t,h1,iU hm hS hw v u h2,fb hm hS hw r t h3⟩
def G7 (hm:∀id p,m id=some p->m' id=some p) (hS:∀b,S b->S' b) (hw:ej S w w'):
  ∀(cs:List AV) (b o:Nat),S b->bC ae m S w cs b o->bC ae m' S' w' cs b o
 | [],_,_,_,_=>by simp only [bC]
 | c::cs,b,o,hb,h=>by
  simp only [bC] at h ⊢;obtain ⟨⟨u,h1,h2⟩,h3⟩:=h;exact ⟨⟨u,(Di (hw b hb)).trans h1,iU hm hS hw c u h2⟩,G7 hm hS hw cs b (o+1) hb h3⟩
end
end
end
section
open Go
structure Hint where
 n:Nat
 bH:FuncId->Option Nat
 live:Nat->List Nat
 out:Nat->Option (List Nat)
 mode:Nat->Md
 fz:Nat->List Nat
section
variable (P:yJ) (H:Hint)
mutual
def du:yd->AV
 | .int k n=> .int k n
 | .bool b=> .bool b
 | .float k b=> .cx k b
 | .string s=> .str (s.data.toList.map yK)
 | .pointer none=> .gW
 | .slice none 0 0=> .aa
 | .map none=> .gH
 | .nilFunc=> .fk
 | .agg ⟨cs⟩=> .agg (sU cs)
 | .tuple ⟨cs⟩=> .aw (sU cs)
 | _=> .undef
def sU:List yd->List AV
 | []=>[]
 | v::r=>du v::sU r
end
def aH:y8->X
 | .tmp t=> .t t
 | .const v=> .c (du v)
 | .global _=> .c .undef
 | .func f=>match H.bH f with | some g=> .c (.fn (.f g) [] []) | none=> .c .undef
def eW:List y8->List X
 | []=>[]
 | x::r=>aH H x::eW r
def bU (t:yj):Option Nat:=match P.info? t with | some i=>some i.size | none=>none
def pw (t:yj):Option Nat:=match P.info? t with | some i=>some i.bytes | none=>none
def ju (t:yj):Option AV:=match P.info? t with | some i=>(match i.zero with | some v=>some (du v) | none=>none) | none=>none
def cS (t:yj):Option Bool:=match P.underlying t with | some (.struct _) | some (.array _ _)=>some true | some _=>some false | none=>none
def bad:Op:= .call .pure (.c .undef) []
def partsOf (place:Nat->Option (Nat×Nat)):List (Nat×y8)->Option (List (Nat×Nat×X))
 | []=>some []
 | (i,x)::r=>
  match place i,partsOf place r with
  | some (o,s),some l=>some ((o,s,aH H x)::l)
  | _,_=>none
def sE (self:yj->Option (List Nat)):List Field->Nat->Option (List Nat)
 | [],_=>some []
 | f::r,o=>
  match self f.type,bU P f.type with
  | some ks,some s=>
   bif f.name != "_"&&yk f.offset o&&yk ks.length s&& !P.stoodInHeld f.type then
    (match sE self r (o+s) with | some l=>some (ks++l) | none=>none)
   else none
  | _,_=>none
def kinds:Nat->yj->Option (List Nat)
 | 0,_=>none
 | n+1,t=>
  match P.underlying t with
  | some .bool=>some [0]
  | some (.int _)=>some [1]
  | some .string=>some [2]
  | some (.struct fs)=>sE P (fun u=>kinds n u) fs.toList 0
  | some (.array k e)=>
   match kinds n e,bU P e with
   | some ks,some s=>bif yk ks.length s&& !P.stoodInHeld e then some (yu k ks).flatten else none
   | _,_=>none
  | _=>none
def keyOf (t:yj):Option Nat:=
 match P.underlying t with
 | some .bool=>some 0
 | some (.int _)=>some 1
 | some .string=>some 2
 | _=>none
def nl (ne:Bool) (t:yj) (a b:y8):Op:=
 match kinds P 20 t with
 | some ks=>bif P.stoodInHeld t||P.eqGuardType P.depth t then bad else .eq ne (.ag ks) (aH H a) (aH H b)
 | none=>bad
def mj (ne:Bool) (op:wi) (t:yj) (a b:y8):Op:=
 match P.underlying t with
 | some (.int _) | some .string | some (.float _)=> .bin op (aH H a) (aH H b)
 | some .bool=> .eq ne .b (aH H a) (aH H b)
 | some (.slice _)=> .eq ne .sl (aH H a) (aH H b)
 | some (.func _ _ _)=> .eq ne .fn (aH H a) (aH H b)
 | some (.struct _) | some (.array _ _)=>nl P H ne t a b
 | _=>bad
def aW (k:Nat) (o:yI):Op:=
 let x (y:y8):X:=aH H y
 match o.op with
 | .move a | .assign a=> .br (x a)
 | .pick c a b=> .pick (x c) (x a) (x b)
 | .alloc t=>match bU P t,ju P t with | some s,some z=> .box s (.c z) | _,_=>bad
 | .box t v=>match bU P t with | some s=> .box s (x v) | none=>bad
 | .build t parts=>
  match P.underlying t,ju P t with
  | some (.struct fs),some (.agg z)=>
   match fs.toList.mapM (fun f=>(P.info? f.type).map fun i=>(f.offset,i.size)) with
   | some pl=>(match partsOf H (fun i=>pl[i]?) parts.toList with | some ps=> .cp z ps | none=>bad)
   | none=>bad
  | some (.array _ e),some (.agg z)=>
   match bU P e with
   | some s=>(match partsOf H (fun i=>some (i*s,s)) parts.toList with | some ps=> .cp z ps | none=>bad)
   | none=>bad
  | _,_=>bad
 | .buildSlice t n parts=>
  match P.underlying t with
  | some (.slice e)=>
   match bU P e,ju P e with
   | some s,some z=>
    bif yy (n*s) 16777216 then
     (match partsOf H (fun i=>some (i*s,s)) parts.toList with | some ps=> .bw n s (yu n (cellsOf z)).flatten ps | none=>bad)
    else bad
   | _,_=>bad
  | _=>bad
 | .load t a=>match bU P t,cS P t with | some s,some ag=> .ld s ag (x a) | _,_=>bad
 | .store t a v=>match bU P t with | some s=> .st s (x a) (x v) | none=>bad
 | .nilCheck a=> .BW (x a)
 | .binOp op t a b _=>
  match op with
  | .eql=>mj P H false op t a b
  | .neq=>mj P H true op t a b
  | _=> .bin op (x a) (x b)
 | .unOp op _ a=> .un op (x a)
 | .convert s d a=>
  match P.underlying s,P.underlying d with
  | some (.int _),some (.int k) | some (.float _),some (.int k)=> .cv (.toInt k) (x a)
  | some (.int _),some (.float k) | some (.float _),some (.float k)=> .cv (.toFlt k) (x a)
  | some .string,some .string=> .cv .str (x a)
  | _,_=>bad
 | .makeFunc (.func f) first cap=>match H.bH f with | some g=> .iM (.f g) (eW H first.toList) (eW H cap.toList) | none=>bad
 | .makeMap t none=>match P.underlying t with | some (.map ke _)=>(match keyOf P ke with | some _=> .nV | none=>bad) | _=>bad
 | .makeSlice t l c=>
  match P.underlying t with
  | some (.slice e)=>(match bU P e,pw P e,ju P e with | some s,some b,some z=> .eY s b (cellsOf z) (x l) (x c) | _,_,_=>bad)
  | _=>bad
 | .slice t a lo hi none=>
  match P.underlying t with
  | some .string=> .cY .str (x a) (lo.map x) (hi.map x)
  | some (.slice e)=>(match bU P e with | some s=> .cY (.sl s) (x a) (lo.map x) (hi.map x) | none=>bad)
  | some (.array n e)=>(match bU P e with | some s=> .cY (.ar n s) (x a) (lo.map x) (hi.map x) | none=>bad)
  | _=>bad
 | .fieldAddr t a i=>
  match P.underlying t with
  | some (.struct fs)=>
   match fs[i]? with
   | some f=>(match bU P f.type with | some (_+1)=> .off f.offset (x a) | _=>bad)
   | none=>bad
  | _=>bad
 | .field t a i=>
  match P.underlying t with
  | some (.struct fs)=>
   match fs[i]? with
   | some f=>(match bU P f.type,cS P f.type with | some s,some ag=> .Cv f.offset s ag (x a) | _,_=>bad)
   | none=>bad
  | _=>bad
 | .indexAddr t a i=>
  match P.underlying t with
  | some (.slice e)=>(match bU P e with | some s=> .bt s (x a) (x i) | none=>bad)
  | some (.array n e)=>(match bU P e with | some s=> .pn n s (x a) (x i) | none=>bad)
  | _=>bad
 | .index t a i=>
  match P.underlying t with
  | some .string=> .iA (x a) (x i)
  | some (.array n e)=>(match bU P e,cS P e with | some s,some ag=> .po n s ag (x a) (x i) | _,_=>bad)
  | _=>bad
 | .lookup t a i ok=>
  match P.underlying t with
  | some (.map ke e)=>(match keyOf P ke,ju P e with | some kk,some z=> .FK kk z ok (x a) (x i) | _,_=>bad)
  | _=>bad
 | .mapUpdate t a i v | .insert t a i v=>
  match P.underlying t with
  | some (.map ke _)=>(match keyOf P ke with | some kk=> .kK kk (x a) (x i) (x v) | none=>bad)
  | _=>bad
 | .range t a=>match P.underlying t with | some .string=> .kL (x a) | _=>bad
 | .next it true=> .kM (x it)
 | .extract t i=> .ext i (x t)
 | .call c=>
  match c.callee with
  | .value f=>(match H.mode k with | .dyn=> .fg [] (x f) (eW H c.args.toList) | md=> .call md (x f) (eW H c.args.toList))
  | .builtin b=>
   match b,c.args.toList,c.argTypes.toList with
   | .append,[s,a],[t,u]=>
    match P.underlying t,P.underlying u with
    | some (.slice e),some (.slice _) | some (.slice e),some .string=>
     (match bU P e,pw P e,ju P e with | some sz,some by',some z=>(bif yk (cellsOf z).length sz then .cy sz by' (x s) (x a) else bad) | _,_,_=>bad)
    | _,_=>bad
   | .len,[a],[t]=>
    match P.underlying t with
    | some (.array n _)=> .br (.c (.int .i64 n))
    | some .string=> .len 0 (x a)
    | some (.slice _)=> .len 1 (x a)
    | some (.map _ _)=> .len 2 (x a)
    | _=>bad
   | .copy,[d,s],[t,_]=>
    match P.underlying t with
    | some (.slice e)=>(match bU P e with | some sz=> .kN sz (x d) (x s) | none=>bad)
    | _=>bad
   | .min,l,_=> .mn (eW H l)
   | .max,l,_=> .mx (eW H l)
   | _,_,_=>bad
  | _=>bad
 | _=>bad
def IX (o:yI):Bool:=match o.op with | .call {callee:= .value _,..}=>true | _=>false
def BE (d:Option Nat):Bool:=match d with | some i=>yA i H.n | none=>true
def nE (n:Nat):List Nat->Bool
 | []=>true
 | i::r=>yA i n&&nE n r
def qB (ops:Array yI):List yI->Nat->List aU×Nat
 | [],k=>([],k)
 | o::r,k=>
  let g:=match o.guard with
   | none=>some none
   | some (j,b)=>match (ops[j]?).bind (·.dst) with | some t=>some (some (t,b)) | none=>none
  match qB ops r (k+(bif IX o then 1 else 0)) with
  | (l,k')=>
   match g,BE H o.dst with
   | some g,true=>(⟨o.dst,g,aW P H k o⟩::l,k')
   | _,_=>(⟨o.dst,none,bad⟩::l,k')
def oK (acc:List Nat):List Edge->Nat
 | []=>0
 | e::r=>bif Region.binds .any e then (2^e.on|||acc.getD e.on 0)|||oK acc r else oK acc r
def iY (acc:List Nat):List yI->List Nat
 | []=>acc
 | o::r=>iY (acc++[oK acc o.after.toList]) r
def AK:List yI->Nat->Bool
 | [],_=>true
 | o::r,i=>o.after.toList.all (fun e=> !Region.binds .any e||yA e.on i)&&AK r (i+1)
def D6 (ops:Array yI) (draw:Bool) (k:Nat):List aU×Nat:=
 match qB P H ops ops.toList k with
 | (l,k')=>
  bif draw then
   (let ms:=iY [] ops.toList
    let l':=nD [] l ms
    bif AK ops.toList 0&&sN [] l' ms then (l',k') else ([⟨none,none,bad⟩],k'))
  else (l,k')
def aeI:vw->Bool
 | .loop _=>true
 | _=>false
def comp:vw->Nat->Nat->VC×Nat×Nat
 | .skip,l,k | .label _,l,k=>(.skip,l,k)
 | .region i ops d,l,k=>match D6 P H ops d k with | (r,k')=>((match H.fz i with | []=> .aG r | t::ts=> .seq (.fz (t::ts)) (.aG r)),l,k')
 | .seq a b,l,k=>match comp a l k with | (a',l1,k1)=>match comp b l1 k1 with | (b',l2,k2)=>(.seq a' b',l2,k2)
 | .cond c a b,l,k=>
  match comp a (l+1) k with
  | (a',l1,k1)=>
   match comp b l1 k1 with
   | (b',l2,k2)=>(match H.out l with | some o=> .seq (.cond (aH H c) a' b') (.kp o) | none=> .cond (aH H c) a' b',l2,k2)
 | .block id a,l,k=>
  match comp a l k with
  | (a',r)=>(match aeI a,H.out l with | true,some o=> .seq (.aC id a') (.kp o) | _,_=> .aC id a',r)
 | .loop a,l,k=>match comp a (l+1) k with | (a',r)=>(.loop (H.live l) a',r)
 | .rangeFunc f ps as_ body,l,k=>
  match comp as_ l k with | (as',l1,k1)=>match comp body l1 k1 with | (b',l2,k2)=>(bif nE H.n ps.toList then .rf (aH H f) ps.toList as' b' else .aG [⟨none,none,bad⟩],l2,k2)
 | .exit id,l,k=>(.exit id,l,k)
 | .scope a,l,k=>comp a l k
 | .ret,l,k=>(.ret,l,k)
 | .goto _,l,k | .refuse _,l,k=>(.aG [⟨none,none,bad⟩],l,k)
def kq:List ResultVar->Option (List RV)
 | []=>some []
 | .tmp t::r=>match kq r with | some l=>some (.t t::l) | none=>none
 | .cell a t::r=>match bU P t,cS P t,kq r with | some s,some ag,some l=>some (.cell a s ag::l) | _,_,_=>none
def sW (fn:Func):Option ax:=
 match fn.body,kq P fn.results.toList with
 | some c,some rs=>bif yy H.n fn.ntmps then some ⟨rs,(comp P H c 0 0).1⟩ else none
 | _,_=>none
end
end
section
open Go
structure a8 where
 P:yJ
 aK:Lib
 ae:Nat->Nat
 prog:aF
 hint:Nat->Hint
 w0:yf
def px (P:yJ) (H:Hint) (v:VC) (c:vw):Prop:=∃l k,(comp P H c l k).1=v
def oX:Nat->LoopState
 | 0=> .ready
 | 1=> .busy
 | 2=> .done
 | _=> .exhausted
def nv:mw->Option vw
 | .none=>none
 | .ret=>some .ret
 | .exit id=>some (.exit id)
section
variable (O:a8) (m:Mp) (S:Nat->Prop) (w:yf)
def bM (tm:Env) (tmps:Array yd):Prop:=∀i,af O.ae m S w (ah tm i) (tmps.getD i undef)
def dR (id:Nat):Obj->Prop
 | .cells rw pu ex sz cs=>∃p arr t,m id=some p/\w.heap[p.b]? =some (.cells arr t (0,0))/\p.z=sz/\cs.length<=p.e/\p.o+p.e<=arr.size/\
   (ex=true->cs.length=p.e)/\bC O.ae m S w cs p.b p.o/\(pu=true->az cs=true)/\(rw=true->¬S p.b)/\(rw=false->S p.b)
 | .mp rw ks vs=>∃p es clock,m id=some p/\w.heap[p.b]? =some (.map es clock)/\an O.ae m S w ks (es.toList.map (·.key))/\an O.ae m S w vs (es.toList.map (·.val))/\
   (rw=true->¬S p.b)/\(rw=false->S p.b)
 | .si s pos=>∃p t,m id=some p/\w.heap[p.b]? =some (.stringIter t pos)/\t.data.toList.map yK=s/\¬S p.b
 | .lp tm ps as_ body st pe=>∃p l h,m id=some p/\w.heap[p.b]? =some (.loop l)/\¬S p.b/\l.state=oX st/\st<=2/\l.pending=nv pe/\bM O m S w tm l.tmps/\
   l.params.toList=ps/\px O.P (O.hint h) as_ l.assign/\px O.P (O.hint h) body l.body/\(O.hint h).n<=l.tmps.size/\nE (O.hint h).n ps=true
structure aJ (hp:Hp) (ct:Nat):Prop where
 obj:∀id o p,ak hp id=some o->m id=some p->dR O m S w id o
 lt:∀id p,m id=some p->id<ct
 inj:∀i j oi oj pi pj,ak hp i=some oi->ak hp j=some oj->m i=some pi->m j=some pj->pi.b=pj.b->i=j
 slt:∀b,S b->b<w.heap.size
 blt:∀id p,m id=some p->p.b<w.heap.size
 low:∀id p,m id=some p->O.w0.heap.size<=p.b
 iK:∀b,b<O.w0.heap.size->w.heap[b]? =O.w0.heap[b]?
 eK:O.w0.heap.size<=w.heap.size
 aV:∀id o,ak hp id=some o->id<ct
end
def da (m:Mp) (hp:Hp) (b:Nat):Prop:=∃id o p,ak hp id=some o/\m id=some p/\p.b=b
structure bK (m:Mp) (S:Nat->Prop) (w:yf) (hp:Hp) (m':Mp) (S':Nat->Prop) (w':yf) (ai:Hp) (base:Nat):Prop where
 os:w'.os=w.os
 tape:w'.tape=w.tape
 output:w'.output=w.output
 size:w.heap.size<=w'.heap.size
 same:∀b,b<w.heap.size->¬da m hp b->w'.heap[b]? =w.heap[b]?
 sub:∀b,S b->S' b
 still:∀b,S b->w'.heap[b]? =w.heap[b]?
 new:∀b,S' b->S b\/da m hp b\/w.heap.size<=b
 own:∀b,da m' ai b->da m hp b\/w.heap.size<=b
 old:∀id p,id<base->m id=some p->m' id=some p
 loops:∀(b:Nat) (r:Loop),w.heap[b]? =some (.loop r)->∃r':Loop,w'.heap[b]? =some (.loop r')
def bK.refl {m:Mp} {S:Nat->Prop} {w:yf} {hp:Hp} {base:Nat}:bK m S w hp m S w hp base:=
 ⟨rfl,rfl,rfl,Nat.le_refl _,fun _ _ _=>rfl,fun _ h=>h,fun _ _=>rfl,fun _ h=> .inl h,fun _ h=> .inl h,fun _ _ _ h=>h,fun _ r h=>⟨r,h⟩⟩
def bK.trans {m m' Cx:Mp} {S S' py:Nat->Prop} {w w' rO:yf} {hp ai BX:Hp} {base:Nat}
  (h:bK m S w hp m' S' w' ai base) (k:bK m' S' w' ai Cx py rO BX base):bK m S w hp Cx py rO BX base where
 os:=k.os.trans h.os
 tape:=k.tape.trans h.tape
 output:=k.output.trans h.output
 size:=xz h.size k.size
 same b hb ho:=(k.same b (Nat.lt_of_lt_of_le hb h.size) (fun jz=>(h.own b jz).elim ho (fun h1=>by omega))).trans (h.same b hb ho)
 sub b hb:=k.sub b (h.sub b hb)
 still b hb:=(k.still b (h.sub b hb)).trans (h.still b hb)
 new b hb:=by
  rcases k.new b hb with h1 | h1 | h1
  ·exact h.new b h1
  ·rcases h.own b h1 with h2 | h2
   ·exact .inr (.inl h2)
   ·exact .inr (.inr h2)
  ·exact .inr (.inr (xz h.size h1))
 own b hb:=by
  rcases k.own b hb with h1 | h1
  ·exact h.own b h1
  ·exact .inr (xz h.size h1)
 old id p hid hp:=k.old id p hid (h.old id p hid hp)
 loops b r hb:=let ⟨r',h1⟩:=h.loops b r hb;k.loops b r' h1
end
section
open Go
section
variable {ae:Nat->Nat} {m:Mp} {S:Nat->Prop} {w:yf}
mutual
def D7:∀v:yd,af ae m S w (du v) v
 | .int _ _ | .bool _ | .float _ _=>by simp only [du,af]
 | .string s=>by simp only [du,af];exact ⟨s,rfl,rfl⟩
 | .pointer none=>by simp only [du,af]
 | .pointer (some _)=>by simp only [du,af]
 | .slice none 0 0=>by simp only [du,af]
 | .slice none 0 (_+1)=>by simp only [du,af]
 | .slice none (_+1) _=>by simp only [du,af]
 | .slice (some _) _ _=>by simp only [du,af]
 | .map none=>by simp only [du,af]
 | .map (some _)=>by simp only [du,af]
 | .nilFunc=>by simp only [du,af]
 | .agg ⟨cs⟩=>by simp only [du,af];exact ⟨⟨cs⟩,rfl,HR cs⟩
 | .tuple ⟨cs⟩=>by simp only [du,af];exact ⟨⟨cs⟩,rfl,HR cs⟩
 | .complex _ _ _ | .chan _ | .func _ _ _ | .iface _ _ | .nilIface=>by simp only [du,af]
def HR:∀l:List yd,an ae m S w (sU l) l
 | []=>by simp only [sU,an]
 | v::r=>by simp only [sU,an];exact ⟨v,r,rfl,D7 v,HR r⟩
end
end
def dY (O:a8) (H:Hint):Prop:=∀f g,H.bH f=some g->O.ae g=f
section
variable {O:a8} {H:Hint} {m:Mp} {S:Nat->Prop} {w:yf} {tm:Env} {a:Act}
def bQ (hH:dY O H) (ht:bM O m S w tm a.tmps) (x:y8):af O.ae m S w (aq tm (aH H x)) (a.eval x):=by
 cases x with
 | tmp t=>exact ht t
 | const v=>simp only [aH,aq,Act.eval];exact D7 v
 | global g=>simp only [aH,aq,af]
 | func f=>
  simp only [aH,Act.eval]
  cases hr:H.bH f with
  | none=>simp only [aq,af]
  | some g=>simp only [aq,af,hH f g hr,an];exact ⟨#[],#[],rfl,rfl,rfl⟩
def qF (hH:dY O H) (ht:bM O m S w tm a.tmps):∀l:List y8,an O.ae m S w (cA tm (eW H l)) (l.map a.eval)
 | []=>by simp only [eW,cA,List.map_nil,an]
 | x::r=>by simp only [eW,cA,yP,an];exact ⟨_,_,rfl,bQ hH ht x,qF hH ht r⟩
end
section
variable {O:a8} {m:Mp} {S:Nat->Prop} {w:yf}
def lY {ae:Nat->Nat}:∀(k:Nat) (cs:List AV) (b o:Nat),bC ae m S w cs b o->bC ae m S w (cs.drop k) b (o+k)
 | 0,cs,b,o,h=>by simpa using h
 | k+1,[],b,o,_=>by simp only [List.drop_nil,bC]
 | k+1,c::cs,b,o,h=>by
  simp only [bC] at h
  have:=lY k cs b (o+1) h.2
  rw [List.drop_succ_cons,show o+(k+1)=o+1+k by omega];exact this
def p9 {ae:Nat->Nat}:∀(k:Nat) (cs:List AV) (b o:Nat),bC ae m S w cs b o->bC ae m S w (cs.take k) b o
 | 0,cs,b,o,_=>by simp only [List.take_zero,bC]
 | k+1,[],b,o,_=>by simp only [List.take_nil,bC]
 | k+1,c::cs,b,o,h=>by
  simp only [bC,xQ] at h ⊢;exact ⟨h.1,p9 k cs b (o+1) h.2⟩
def nd {ae:Nat->Nat}:∀(cs:List AV) (b o:Nat),bC ae m S w cs b o->
  ∃us:List yd,an ae m S w cs us/\us.length=cs.length/\∀j u,us[j]? =some u->w.cell? ⟨b,o+j,none⟩=some u
 | [],b,o,_=>⟨[],by simp only [an],rfl,fun j u h=>by simp at h⟩
 | c::cs,b,o,h=>by
  simp only [bC] at h;obtain ⟨⟨u,h1,h2⟩,h3⟩:=h;obtain ⟨us,h4,h5,h6⟩:=nd cs b (o+1) h3;refine ⟨u::us,by simp only [an];exact ⟨u,us,rfl,h2,h4⟩,by simp [h5],fun j v hv=>?_⟩
  cases j with
  | zero=>simp at hv;subst hv;simpa using h1
  | succ j=>simp at hv;have:=h6 j v hv;rw [show o+(j+1)=o+1+j by omega];exact this
def fU {ae:Nat->Nat}:∀(cs:List AV) (us:List yd),an ae m S w cs us->us.length=cs.length
 | [],us,h=>by simp only [an] at h;subst h;rfl
 | c::cs,us,h=>by
  simp only [an] at h;obtain ⟨u,r,rfl,_,h3⟩:=h;simp [fU cs r h3]
end
end
section
open Go
def kx (b o j:Nat):(⟨b,o,none⟩:Addr).add j=⟨b,o+j,none⟩:=by
 unfold Addr.add;split<;>simp_all
section
variable {P:yJ} {w:yf}
def Xp (t:yj) (b o:Nat) (us:List yd) (ha:cS P t=some true) (hz:bU P t=some us.length)
  (h:∀j u,us[j]? =some u->w.cell? ⟨b,o+j,none⟩=some u):(loadVar t ⟨b,o,none⟩).run P w= .ok (.agg us.toArray) w:=by
 have hl:=run_loadCells_list (P:=P) w ⟨b,o,none⟩ us (fun j u hu=>by rw [kx];exact h j u hu)
 unfold bU at hz
 cases hi:P.info? t with
 | none=>simp [hi] at hz
 | some i=>
  simp only [hi,yb] at hz;unfold cS at ha
  cases hu:P.underlying t with
  | none=>simp [hu] at ha
  | some d=>cases d<;>simp_all [loadVar,isAgg,vl,typeInfo,underlying]
def Xq (t:yj) (b o:Nat) (u:yd) (ha:cS P t=some false)
  (h:w.cell? ⟨b,o,none⟩=some u):(loadVar t ⟨b,o,none⟩).run P w= .ok u w:=by
 unfold cS at ha
 cases hu:P.underlying t with
 | none=>simp [hu] at ha
 | some d=>cases d<;>simp_all [loadVar,isAgg,underlying]
end
section
variable {O:a8} {m:Mp} {S:Nat->Prop} {w:yf}
def D8 {t:yj} {sz:Nat} {ag:Bool} {cs:List AV} {b o:Nat} {v:AV} (hz:bU O.P t=some sz) (ha:cS O.P t=some ag)
  (hr:bC O.ae m S w cs b o) (hv:gK sz ag cs=some v):∃u,(loadVar t ⟨b,o,none⟩).run O.P w= .ok u w/\af O.ae m S w v u:=by
 cases ag with
 | true=>
  simp only [gK,yi] at hv
  cases hle:yy sz cs.length with
  | false=>simp only [hle,yr] at hv;cases hv
  | true=>
   simp only [hle,yi,yb] at hv;subst hv;obtain ⟨us,h1,h2,h3⟩:=nd _ _ _ (p9 sz cs b o hr);have hlen:us.length=sz:=by
    rw [h2,List.length_take];have:=yo hle;omega
   refine ⟨.agg us.toArray,Xp t b o us ha (by rw [hlen];exact hz) h3,?_⟩
   simp only [af];exact ⟨us.toArray,rfl,by simpa using h1⟩
 | false=>
  simp only [gK,yr] at hv
  cases cs with
  | nil=>simp at hv
  | cons c cs=>
   simp only [yb] at hv;subst hv;simp only [bC] at hr;obtain ⟨⟨u,h1,h2⟩,_⟩:=hr;exact ⟨u,Xq t b o u ha h1,h2⟩
def OT {t:yj} {sz o:Nat} {ag:Bool} {cs:List AV} {xs:Array yd} {v:AV} (hz:bU O.P t=some sz) (ha:cS O.P t=some ag)
  (hr:an O.ae m S w cs xs.toList) (hv:gK sz ag (cs.drop o)=some v):∃u,(part t xs o).run O.P w= .ok u w/\af O.ae m S w v u:=by
 have hd:∀(k:Nat) (cs:List AV) (us:List yd),an O.ae m S w cs us->an O.ae m S w (cs.drop k) (us.drop k):=by
  intro k
  induction k with
  | zero=>intro cs us h;simpa using h
  | succ k ih=>
   intro cs us h
   cases cs with
   | nil=>simp only [an] at h;subst h;simp [an]
   | cons c cs=>simp only [an] at h;obtain ⟨u,r,rfl,_,h3⟩:=h;simpa using ih cs r h3
 have jf:∀(k:Nat) (cs:List AV) (us:List yd),an O.ae m S w cs us->an O.ae m S w (cs.take k) (us.take k):=by
  intro k
  induction k with
  | zero=>intro cs us h;simp [an]
  | succ k ih=>
   intro cs us h
   cases cs with
   | nil=>simp only [an] at h;subst h;simp [an]
   | cons c cs=>simp only [an] at h;obtain ⟨u,r,rfl,h2,h3⟩:=h;simp only [xQ,an];exact ⟨u,_,rfl,h2,ih cs r h3⟩
 have Tg:(isAgg t).run O.P w= .ok ag w:=by
  unfold cS at ha
  cases hu:O.P.underlying t with
  | none=>simp [hu] at ha
  | some d=>cases d<;>simp_all [isAgg,underlying]
 have eZ:(vl t).run O.P w= .ok sz w:=by
  unfold bU at hz
  cases hi:O.P.info? t with
  | none=>simp [hi] at hz
  | some i=>simp_all [vl,typeInfo]
 have dG:=hd o cs xs.toList hr
 cases ag with
 | true=>
  simp only [gK,yi] at hv
  cases hle:yy sz (cs.drop o).length with
  | false=>simp only [hle,yr] at hv;cases hv
  | true=>
   simp only [hle,yi,yb] at hv;subst hv;refine ⟨.agg (xs.extract o (o+sz)),by simp [part,Sem.run_bind,Tg,eZ],?_⟩;simp only [af];refine ⟨_,rfl,?_⟩
   have:=jf sz _ _ dG
   rw [show (xs.extract o (o+sz)).toList=(xs.toList.drop o).take sz by simp [Array.toList_extract,List.extract_eq_take_drop]];exact this
 | false=>
  simp only [gK,yr] at hv
  cases hc:cs.drop o with
  | nil=>simp [hc] at hv
  | cons c r=>
   simp only [hc,yb] at hv;subst hv;rw [hc] at dG;simp only [an] at dG;obtain ⟨u,us,h1,h2,_⟩:=dG;have hx:xs[o]? =some u:=by
    have:xs.toList[o]? =some u:=by
     have:=congrArg (fun l=>l[0]?) h1
     simpa using this
    simpa using this
   exact ⟨u,by simp [part,Sem.run_bind,Tg,hx],h2⟩
end
end
section
open Go
def iV (t:ByteArray):List Nat:=t.data.toList.map yK
def OU:∀a b:List UInt8,dA (a.map yK) (b.map yK)=(a==b)
 | [],[]=>rfl
 | [],_::_=>rfl
 | _::_,[]=>rfl
 | a::x,b::y=>by
  have h:yk a.toNat b.toNat=(a==b):=by
   rw [vT,yaX,uY];exact tF
  simp only [yP,dA,OU x y,h,List.cons_beq_cons]
def OV:∀a b:List UInt8,pq (a.map yK) (b.map yK)=Op.bytesLess a b
 | [],[]=>rfl
 | [],_::_=>rfl
 | _::_,[]=>rfl
 | a::x,b::y=>by
  have h:yk a.toNat b.toNat=(a==b):=by
   rw [vT,yaX,uY];exact tF
  have h2:yA a.toNat b.toNat=decide (a<b):=by
   rw [vT];simp only [yA,Nat.ble_eq,yaY,UInt8.lt_iff_toNat_lt];omega
  simp only [yP,pq,Op.bytesLess,OV x y,h,h2]
def M5 (s t:ByteArray):dA (iV s) (iV t)=(s.toList==t.toList):=by
 rw [iV,iV,OU,ByteArray.toList_eq,ByteArray.toList_eq]
def YG (s t:ByteArray):pq (iV s) (iV t)=Op.bytesLess s.toList t.toList:=by
 rw [iV,iV,OV,ByteArray.toList_eq,ByteArray.toList_eq]
def M6 (s:ByteArray):(iV s).length=s.size:=by
 rw [iV,List.length_map,Lib.size_eq]
section
variable {ae:Nat->Nat} {P:yJ} {m:Mp} {S:Nat->Prop} {w:yf} {t:yj}
def aal {op:wi} {k:yG} {x y:Int} {v:AV} (h:iF op k x y=some v):
  ∃u,(xk op t (.int k x) (.int k y)).run P w= .ok u w/\af ae m S w v u:=by
 cases op<;>simp only [iF,intCmp,yb] at h
 case add=>subst h;exact ⟨_,by simp [xk,Op.intArith];rfl,by simp [af]⟩
 case sub=>subst h;exact ⟨_,by simp [xk,Op.intArith];rfl,by simp [af]⟩
 case mul=>subst h;exact ⟨_,by simp [xk,Op.intArith];rfl,by simp [af]⟩
 case quo=>
  by_cases hy:y=0
  ·simp [hy] at h
  ·simp only [hy,yM,yb] at h;subst h;exact ⟨_,by simp [xk,Op.intDiv,hy];rfl,by simp [af]⟩
 case rem=>
  by_cases hy:y=0
  ·simp [hy] at h
  ·simp only [hy,yM,yb] at h;subst h;exact ⟨_,by simp [xk,Op.intDiv,hy];rfl,by simp [af]⟩
 case and=>subst h;exact ⟨_,by simp [xk,Op.intBits];rfl,by simp [af]⟩
 case or=>subst h;exact ⟨_,by simp [xk,Op.intBits];rfl,by simp [af]⟩
 case xor=>subst h;exact ⟨_,by simp [xk,Op.intBits];rfl,by simp [af]⟩
 case andNot=>subst h;exact ⟨_,by simp [xk,Op.intBits];rfl,by simp [af]⟩
 case shl=>cases h
 case shr=>cases h
 all_goals
  subst h;exact ⟨_,by simp [xk,Op.intCmp];rfl,by simp [af]⟩
def Ml {op:wi} {k k':yG} {x y:Int} {v:AV} (h:Iu op k x y=some v):
  ∃u,(xk op t (.int k x) (.int k' y)).run P w= .ok u w/\af ae m S w v u:=by
 unfold Iu at h;by_cases hy:y<0
 ·simp [hy] at h
 ·simp only [hy,yM] at h;cases op<;>simp only [yb] at h
  case shl=>subst h;exact ⟨_,by simp [xk,Op.shift,hy];rfl,by simp [af]⟩
  case shr=>subst h;exact ⟨_,by simp [xk,Op.shift,hy];rfl,by simp [af]⟩
  all_goals cases h
def aam {op:wi} {x y:ByteArray} {v:AV} (h:By op (iV x) (iV y)=some v):
  ∃u,(xk op t (.string x) (.string y)).run P w= .ok u w/\af ae m S w v u:=by
 cases op<;>simp only [By,M5,YG,M6,yb] at h
 case add=>
  cases hle:yy (x.size+y.size) 9223372036854775807 with
  | false=>rw [hle] at h;cases h
  | true=>
   rw [hle] at h;simp only [yi,yb] at h;subst h;have ann:=yo hle;have ai0:¬(((x.size+y.size:Nat):Int)>IntKind.i64.max):=by
    have:IntKind.i64.max=9223372036854775807:=by decide
    rw [this];omega
   refine ⟨.string (x++y),?_,?_⟩
   ·simp only [xk,Op.stringOp,yE ai0,Sem.run_pure]
   ·simp only [af];exact ⟨x++y,rfl,by simp [iV]⟩
 all_goals first
  | (cases h;done)
  | (subst h;exact ⟨_,by simp [xk,Op.stringOp];rfl,by simp [af]⟩)
def aan {op:wi} {k:w8} {x y:Nat} {v:AV} (h:Je op k x y=some v):
  ∃u,(xk op t (.float k x) (.float k y)).run P w= .ok u w/\af ae m S w v u:=by
 cases op<;>simp only [Je,yb] at h
 case add=>
  cases hr:k.format.add x y with
  | none=>simp [hr] at h
  | some r=>simp only [hr,yb] at h;subst h;exact ⟨.float k r,by simp [xk,Op.floatArith,hr],by simp [af]⟩
 case sub=>
  cases hr:k.format.sub x y with
  | none=>simp [hr] at h
  | some r=>simp only [hr,yb] at h;subst h;exact ⟨.float k r,by simp [xk,Op.floatArith,hr],by simp [af]⟩
 case mul=>
  cases hr:k.format.mul x y with
  | none=>simp [hr] at h
  | some r=>simp only [hr,yb] at h;subst h;exact ⟨.float k r,by simp [xk,Op.floatArith,hr],by simp [af]⟩
 case quo=>
  cases hr:k.format.div x y with
  | none=>simp [hr] at h
  | some r=>simp only [hr,yb] at h;subst h;exact ⟨.float k r,by simp [xk,Op.floatArith,hr],by simp [af]⟩
 all_goals first
  | (cases h;done)
  | (subst h;exact ⟨_,by simp [xk,Op.floatCmp];rfl,by simp [af]⟩)
def aao {op:wi} {vx vy v:AV} {x y:yd} (hx:af ae m S w vx x) (hy:af ae m S w vy y) (h:VE.binOp op vx vy=some v):
  ∃u,(xk op t x y).run P w= .ok u w/\af ae m S w v u:=by
 unfold VE.binOp at h
 split at h
 ·rename_i k a k' b;simp only [af] at hx hy;subst hx;subst hy
  split at h
  ·exact Ml h
  ·exact Ml h
  ·by_cases hk:k=k'
   ·subst hk;simp only [yR] at h;exact aal h
   ·simp [hk] at h
 ·rename_i k a k' b;simp only [af] at hx hy;subst hx;subst hy;by_cases hk:k=k'
  ·subst hk;simp only [yR] at h;exact aan h
  ·simp [hk] at h
 ·rename_i a b;simp only [af] at hx hy;obtain ⟨s,rfl,rfl⟩:=hx;obtain ⟨s',rfl,rfl⟩:=hy;exact aam h
 ·cases h
end
end
end VE
