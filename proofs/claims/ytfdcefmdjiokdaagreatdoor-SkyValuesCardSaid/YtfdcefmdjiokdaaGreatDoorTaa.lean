import GoSem.Core.Code
import GoSem.Core.Float
import GoSem.Core.Utf8
import Derived.CallsIn
import Derived.Laws.World
import GoSem.Op.Equal
import GoSem.Core.Region
import Derived.Below
import Derived.Laws.AppendOwn
import Derived.Laws.Rows
import Derived.WalkKit
import Derived.Laws.CopyRow
import Derived.Laws.Cells
import Derived.Laws.Strings
import Derived.Lib.Strings
import Derived.WideLaws
import Derived.Maps.Keyed
import Derived.ChangeKeysEq
import Derived.Laws.Tables
import Derived.IntWalk
import Derived.Laws.CopyOwn
set_option linter.all false
set_option maxRecDepth 100000
open Array renaming getElem?_eq_some_iff→xv,length_toList→vC,range→uW
open BitVec renaming ofInt→xI
open Bool renaming and_assoc→tX,and_eq_true→yg,eq_iff_iff→uK,false_eq_true→yD,not_eq_true'→uL
open Go renaming Addr→uh,BinOp→wX,Code→wS,Ending→yaD,Field→uZ,FloatKind→vZ,FuncId→tq,IntKind→y8,Loop→uv,MapEntry→ua,Next→yar,Obj→tR,Oper→yZ,Operand→xy,Program→y7,TypeDesc→ve,TypeId→yF,TypeInfo→ycR,UnOp→ycE,Value→yh,World→yi,binOp→xT,sizeOf→vt
open Go.Utf8 renaming runeError→uk,valid→ybl
open List renaming append_assoc→xr,cons_append→yY,drop_drop→vN,eq_nil_of_length_eq_zero→yJ,ext_getElem?→ybb,extract_eq_take_drop→yab,flatten_append→yaK,flatten_cons→ux,getElem?_append_left→wo,getElem?_append_right→xU,getElem?_drop→yaS,getElem?_eq_getElem→xV,getElem?_map→yba,getElem?_take_of_lt→uA,getElem?_toArray→yav,length_append→yR,length_cons→yv,length_drop→xN,length_take→yT,map_cons→xj,map_eq_nil_iff→yaJ,mem_append→wx,range→xF,replicate→yC,replicate_succ→wj,size_toArray→uM,take_of_length_le→yN,take_succ_cons→wc,take_zero→ybD
open List.cons renaming injEq→tC
open Nat renaming add_assoc→uG,add_mul→we,add_zero→yW,beq→yt,beq_eq→ycP,beq_refl→xG,ble→yG,ble_eq→ycQ,blt→yK,eq_of_beq_eq_true→yk,eq_zero_or_pos→xn,le_of_ble_eq_true→yr,le_refl→yz,le_trans→xg,lt_of_lt_of_le→yA,min_le_left→ybF,mul_comm→xA,mul_le_mul_right→yS,one_mul→ybE,testBit→uU,zero_add→yf
open Option renaming isSome_none→tk,map_none→vU,map_some→wI
open Option.some renaming injEq→yd
open Prod.mk renaming injEq→yo
open UInt8 renaming toNat→xi,toNat_inj→ybm
def wZ:=@and_true
def yaR:=@beq_iff_eq
def yat:=@beq_self_eq_true
def yH:=@cond_false
def yx:=@cond_true
def yX:=@decide_eq_false
def xp:=@decide_eq_true
def uV:=@decide_eq_true_eq
def yu:=@decide_false
def yq:=@decide_true
def ycp:=@false_or
def xk:=@if_false
def yB:=@if_neg
def yM:=@if_pos
def xB:=@if_true
def ybY:=@ne_eq
def yal:=@not_false_eq_true
def uX:=@not_true_eq_false
def ycq:=@or_false
def tJ:=@true_and
namespace VE
section
open Go (IntKind FloatKind BinOp UnOp)
inductive Fr where
 | f (n:Nat)
 | y (l:Nat)
 deriving DecidableEq,Inhabited
inductive AV where
 | int (k:y8) (n:Int)
 | bool (b:Bool)
 | aB (k:vZ) (bits:Nat)
 | str (s:List Nat)
 | kQ
 | ptr (id off:Nat)
 | aJ (cells:List AV)
 | af
 | aC (ex:Bool) (n:Nat) (cells:List AV)
 | cf (ex:Bool) (sz n:Nat) (cells:List AV)
 | ay (id off n:Nat)
 | fn (f:Fr) (first cap:List AV)
 | iF
 | jQ
 | map (id:Nat)
 | jz (ks vs:List AV)
 | it (id:Nat)
 | agg (cells:List AV)
 | ap (vs:List AV)
 | undef
 deriving Inhabited
inductive X where
 | t (i:Nat)
 | c (v:AV)
 deriving Inhabited
inductive Conv where
 | toInt (k:y8)
 | toFlt (k:vZ)
 | str
 deriving Inhabited
inductive Md where
 | pure | own | heap | dyn
 deriving Inhabited
inductive Cut where
 | str
 | sl (sz:Nat)
 | ar (len sz:Nat)
 deriving Inhabited
inductive Ov where
 | b | sl | fn | ag (ks:List Nat)
 deriving Inhabited
inductive Op where
 | mC (x:X)
 | pick (c a b:X)
 | box (sz:Nat) (x:X)
 | AL (zero:List AV) (parts:List (Nat×Nat×X))
 | mT (n sz:Nat) (zero:List AV) (parts:List (Nat×Nat×X))
 | ld (sz:Nat) (ag:Bool) (x:X)
 | st (sz:Nat) (x v:X)
 | I3 (x:X)
 | bin (op:wX) (x y:X)
 | eq (ne:Bool) (k:Ov) (x y:X)
 | un (op:ycE) (x:X)
 | cv (k:Conv) (x:X)
 | Ff (f:Fr) (first cap:List X)
 | zG
 | nU (sz bytes:Nat) (zero:List AV) (len cap:X)
 | oY (k:Cut) (x:X) (lo hi:Option X)
 | off (k:Nat) (x:X)
 | JW (o sz:Nat) (ag:Bool) (x:X)
 | bn (sz:Nat) (x i:X)
 | Fg (len sz:Nat) (x i:X)
 | Fh (x i:X)
 | Bk (len sz:Nat) (ag:Bool) (x i:X)
 | Ow (kk:Nat) (zero:AV) (ok:Bool) (m k:X)
 | oZ (kk:Nat) (m k v:X)
 | pc (x:X)
 | pg (x:X)
 | ext (i:Nat) (x:X)
 | call (m:Md) (f:X) (xs:List X)
 | ia (rs:List (Nat×Bool×Nat)) (f:X) (xs:List X)
 | kC (rs:List (Nat×Bool×Nat)) (sz:Nat) (x v:X)
 | kV (rs:List (Nat×Bool×Nat)) (sz bytes:Nat) (s x:X)
 | cR (sz bytes:Nat) (s x:X)
 | ph (sz bytes:Nat) (s x:X)
 | pk (sz:Nat) (d s:X)
 | len (k:Nat) (x:X)
 | mn (xs:List X)
 | mx (xs:List X)
 deriving Inhabited
structure aY where
 dst:Option Nat
 guard:Option (Nat×Bool)
 op:Op
 deriving Inhabited
inductive VC where
 | skip
 | jB (ops:List aY)
 | seq (a b:VC)
 | cond (x:X) (a b:VC)
 | dD (id:Nat) (a:VC)
 | kp (live:List Nat)
 | fz (ts:List Nat)
 | loop (live:List Nat) (a:VC)
 | rf (f:X) (ps:List Nat) (assign body:VC)
 | exit (id:Nat)
 | ret
 deriving Inhabited
inductive RV where
 | t (i:Nat)
 | cell (i sz:Nat) (ag:Bool)
 deriving Inhabited
structure au where
 dd:List RV
 body:VC
 deriving Inhabited
inductive rq where
 | none | ret | exit (id:Nat)
 deriving Inhabited,DecidableEq
abbrev Env:=List (Nat×AV)
inductive Obj where
 | cells (rw pu ex:Bool) (sz:Nat) (cs:List AV)
 | mp (rw:Bool) (ks vs:List AV)
 | si (s:List Nat) (pos:Nat)
 | lp (tm:Env) (ps:List Nat) (assign body:VC) (state:Nat) (pending:rq)
 deriving Inhabited
abbrev Hp:=List (Nat×Obj)
structure St where
 tm:Env
 hp:Hp
 ct:Nat
 base:Nat
 deriving Inhabited
inductive Ex where
 | normal
 | ret
 | exit (id:Nat)
 deriving Inhabited,DecidableEq
def aj:Env->Nat->AV
 | [],_=> .undef
 | (j,v)::r,i=>bif yt j i then v else aj r i
def an:Hp->Nat->Option Obj
 | [],_=>none
 | (j,o)::r,i=>bif yt j i then some o else an r i
def aU:Hp->Nat->Obj->Hp
 | [],_,_=>[]
 | (j,o)::r,i,u=>bif yt j i then (j,u)::r else (j,o)::aU r i u
def da:Hp->Nat->Hp
 | [],_=>[]
 | (j,o)::r,i=>bif yt j i then da r i else (j,o)::da r i
mutual
def aV:AV->Bool
 | .ptr _ _ | .ay _ _ _ | .map _ | .it _ | .cf _ _ _ _=>false
 | .fn (.y _) _ _=>false
 | .fn (.f _) first cap=>aF first&&aF cap
 | .agg cs=>aF cs
 | .ap vs=>aF vs
 | _=>true
def aF:List AV->Bool
 | []=>true
 | v::r=>aV v&&aF r
end
def cellsOf:AV->List AV
 | .agg cs=>cs
 | v=>[v]
def bc:AV->Bool
 | .agg _ | .ap _ | .undef | .cf _ _ _ _=>false
 | _=>true
def bK:List AV->Bool
 | []=>true
 | v::r=>bc v&&bK r
def az (tm:Env):X->AV
 | .t i=>aj tm i
 | .c v=>v
def di (tm:Env):List X->List AV
 | []=>[]
 | x::r=>az tm x::di tm r
def slice (o n:Nat) (cs:List AV):List AV:=(cs.drop o).take n
def over (o:Nat) (new cs:List AV):List AV:=cs.take o++new++cs.drop (o+new.length)
mutual
def freeze:Nat->Hp->AV->Option (AV×Hp)
 | 0,_,_=>none
 | n+1,hp,v=>
  match v with
  | .ay id o k=>
   match qJ n hp id with
   | some (ex,sz,cs,ao)=>
    bif yG (o+k*sz) cs.length then
     some (.aC (ex&&yK 0 sz&&yt (o+k*sz) cs.length) k (slice o (k*sz) cs),ao)
    else none
   | none=>none
  | .ptr id o=>
   match qJ n hp id with
   | some (_,_,cs,ao)=>some (.aJ (cs.drop o),ao)
   | none=>none
  | .map id=>
   match an hp id with
   | some (.mp _ ks vs)=>bif aF ks&&aF vs then some (.jz ks vs,aU hp id (.mp false ks vs)) else none
   | _=>none
  | .fn (.f g) first cap=>
   match cB n hp first with
   | some (aaG,bj)=>
    match cB n bj cap with
    | some (M8,jC)=>some (.fn (.f g) aaG M8,jC)
    | none=>none
   | none=>none
  | .agg cs=>match cB n hp cs with | some (dE,ao)=>some (.agg dE,ao) | none=>none
  | .ap cs=>match cB n hp cs with | some (dE,ao)=>some (.ap dE,ao) | none=>none
  | v=>bif aV v then some (v,hp) else none
def qJ:Nat->Hp->Nat->Option (Bool×Nat×List AV×Hp)
 | 0,_,_=>none
 | n+1,hp,id=>
  match an hp id with
  | some (.cells rw pu ex sz cs)=>
   bif pu then some (ex,sz,cs,bif rw then aU hp id (.cells false true ex sz cs) else hp)
   else match cB n hp cs with
    | some (dE,ao)=>some (ex,sz,dE,aU ao id (.cells false false ex sz cs))
    | none=>none
  | _=>none
def cB:Nat->Hp->List AV->Option (List AV×Hp)
 | 0,_,_=>none
 | _+1,hp,[]=>some ([],hp)
 | n+1,hp,v::r=>
  match freeze n hp v with
  | some (v',bj)=>
   match cB n bj r with
   | some (r',jC)=>some (v'::r',jC)
   | none=>none
  | none=>none
end
def oF (n:Nat) (hp:Hp) (v:AV):Option (AV×Hp):=
 match v with
 | .ay id o k=>
  match an hp id with
  | some (.cells true true ex sz cs)=>
   bif yG (o+k*sz) cs.length then
    some (.cf (ex&&yK 0 sz&&yt (o+k*sz) cs.length) sz k (slice o (k*sz) cs),da hp id)
   else none
  | _=>freeze n hp v
 | _=>freeze n hp v
def Ce:List AV->Option (List Nat)
 | []=>some []
 | .ay id _ _::r=>match Ce r with | some l=>bif l.any (yt id) then none else some (id::l) | none=>none
 | v::r=>bif aV v then Ce r else none
def qS (n:Nat):Hp->List AV->Option (List AV×Hp)
 | hp,[]=>some ([],hp)
 | hp,v::r=>
  match oF n hp v with
  | some (v',bj)=>match qS n bj r with | some (r',jC)=>some (v'::r',jC) | none=>none
  | none=>none
def deep:Nat:=1000
def result (hp:Hp) (v:AV):Option AV:=
 match v with
 | .ap vs=>
  match Ce vs with
  | some _=>match qS deep hp vs with | some (dW,_)=>some (.ap dW) | none=>none
  | none=>match freeze deep hp v with | some (v',_)=>some v' | none=>none
 | v=>match oF deep hp v with | some (v',_)=>some v' | none=>none
def bP:AV->AV
 | .cf ex _ n cs=> .aC ex n cs
 | v=>v
def Cv:List AV->List AV
 | []=>[]
 | v::r=>bP v::Cv r
def shut:AV->AV
 | .cf ex _ n cs=> .aC ex n cs
 | .ap vs=> .ap (Cv vs)
 | v=>v
def fk (hp:Hp) (ct:Nat):AV->AV×Hp×Nat
 | .cf ex sz n cs=>(.ay ct 0 n,(ct,.cells true true ex sz cs)::hp,ct+1)
 | v=>(v,hp,ct)
def jR:Hp->Nat->List AV->List AV×Hp×Nat
 | hp,ct,[]=>([],hp,ct)
 | hp,ct,v::r=>((fk hp ct v).1::(jR (fk hp ct v).2.1 (fk hp ct v).2.2 r).1,(jR (fk hp ct v).2.1 (fk hp ct v).2.2 r).2)
def own (hp:Hp) (ct:Nat):AV->AV×Hp×Nat
 | .ap vs=>(.ap (jR hp ct vs).1,(jR hp ct vs).2)
 | v=>fk hp ct v
mutual
def refs:AV->List Nat
 | .ptr id _=>[id]
 | .ay id _ _=>[id]
 | .map id=>[id]
 | .it id=>[id]
 | .fn (.f _) first cap=>eT first++eT cap
 | .fn (.y l) _ _=>[l]
 | .agg cs=>eT cs
 | .ap cs=>eT cs
 | _=>[]
def eT:List AV->List Nat
 | []=>[]
 | v::r=>refs v++eT r
end
def fA:Env->List Nat
 | []=>[]
 | (_,v)::r=>refs v++fA r
def jt:Obj->List Nat
 | .cells _ pu _ _ cs=>bif pu then [] else eT cs
 | .mp _ ks vs=>eT ks++eT vs
 | .si _ _=>[]
 | .lp tm _ _ _ _ _=>fA tm
mutual
def bU (f:Nat->Option Nat):AV->AV
 | .ptr id o=>match f id with | some j=> .ptr j o | none=> .undef
 | .ay id o n=>match f id with | some j=> .ay j o n | none=> .undef
 | .map id=>match f id with | some j=> .map j | none=> .undef
 | .it id=>match f id with | some j=> .it j | none=> .undef
 | .fn (.f g) first cap=> .fn (.f g) (fJ f first) (fJ f cap)
 | .fn (.y l) first cap=>match f l with | some j=> .fn (.y j) (fJ f first) (fJ f cap) | none=> .undef
 | .agg cs=> .agg (fJ f cs)
 | .ap cs=> .ap (fJ f cs)
 | v=>v
def fJ (f:Nat->Option Nat):List AV->List AV
 | []=>[]
 | v::r=>bU f v::fJ f r
end
def kR (f:Nat->Option Nat):Env->Env
 | []=>[]
 | (i,v)::r=>(i,bU f v)::kR f r
def lE (f:Nat->Option Nat):Obj->Obj
 | .cells rw pu ex sz cs=> .cells rw pu ex sz (bif pu then cs else fJ f cs)
 | .mp rw ks vs=> .mp rw (fJ f ks) (fJ f vs)
 | .si s pos=> .si s pos
 | .lp tm ps as_ body st pe=> .lp (kR f tm) ps as_ body st pe
def cK (tm:Env):List Nat->Env
 | []=>[]
 | i::r=>(i,aj tm i)::cK tm r
def lF (i:Nat):List Nat->Bool
 | []=>false
 | j::r=>bif yt j i then true else lF i r
def reach (hp:Hp) (base:Nat):Nat->List Nat->List Nat->List Nat
 | 0,_,seen=>seen
 | _+1,[],seen=>seen
 | n+1,id::ja,seen=>
  bif yK id base||lF id seen then reach hp base n ja seen
  else match an hp id with
   | some o=>reach hp base n (jt o++ja) (seen++[id])
   | none=>reach hp base n ja seen
def ej (base:Nat):Hp->List Nat
 | []=>[]
 | (id,o)::r=>bif yK id base then jt o++ej base r else ej base r
def mj (i:Nat):List Nat->Nat->Option Nat
 | [],_=>none
 | j::r,k=>bif yt j i then some k else mj i r (k+1)
def jJ (base:Nat) (seen:List Nat) (id:Nat):Option Nat:=bif yK id base then some id else mj id seen base
def kh (base:Nat) (f:Nat->Option Nat):Hp->Hp
 | []=>[]
 | (id,o)::r=>bif yK id base then (id,lE f o)::kh base f r else kh base f r
def kL (hp:Hp) (f:Nat->Option Nat):List Nat->Nat->Hp->Hp
 | [],_,acc=>acc
 | id::r,k,acc=>match an hp id with | some o=>kL hp f r (k+1) ((k,lE f o)::acc) | none=>kL hp f r (k+1) acc
def aM (live:List Nat) (s:St):St:=
 let tm:=cK s.tm live
 let seen:=reach s.hp s.base 100000 (fA tm++ej s.base s.hp) []
 let f:=jJ s.base seen
 {tm:=kR f tm,hp:=kL s.hp f seen s.base (kh s.base f s.hp),ct:=s.base+seen.length,base:=s.base}
def lY (hp:Hp) (sz:Nat):AV->Option (Nat×List AV)
 | .af=>some (0,[])
 | .aC _ n cs=>bif yt cs.length (n*sz) then some (n,cs) else none
 | .ay id o n=>
  match an hp id with
  | some (.cells _ _ _ _ cs)=>bif yG (o+n*sz) cs.length then some (n,slice o (n*sz) cs) else none
  | _=>none
 | _=>none
def L4:List Nat->List AV
 | []=>[]
 | b::r=> .int .u8 b::L4 r
def Bl:List Nat->List Nat->Bool
 | _,[]=>false
 | [],_::_=>true
 | a::x,b::y=>yK a b||(yt a b&&Bl x y)
def cP:List Nat->List Nat->Bool
 | [],[]=>true
 | a::x,b::y=>yt a b&&cP x y
 | _,_=>false
def ek:List Nat->List AV->List AV->Option Bool
 | [],[],[]=>some true
 | 0::ks,.bool a::x,.bool b::y=>match ek ks x y with | some r=>some ((a==b)&&r) | none=>none
 | 1::ks,.int k a::x,.int k' b::y=>if k=k' then (match ek ks x y with | some r=>some ((a==b)&&r) | none=>none) else none
 | 2::ks,.str a::x,.str b::y=>match ek ks x y with | some r=>some (cP a b&&r) | none=>none
 | _,_,_=>none
def jS:Ov->AV->AV->Option Bool
 | .b,.bool a,.bool b=>some (a==b)
 | .sl,.af,.af=>some true
 | .sl,.af,.aC _ _ _=>some false
 | .sl,.af,.ay _ _ _=>some false
 | .sl,.aC _ _ _,.af=>some false
 | .sl,.ay _ _ _,.af=>some false
 | .fn,.iF,.iF=>some true
 | .fn,.iF,.fn _ _ _=>some false
 | .fn,.fn _ _ _,.iF=>some false
 | .ag ks,.agg a,.agg b=>ek ks a b
 | _,_,_=>none
def intCmp (op:wX) (x y:Int):Option Bool:=
 match op with
 | .eql=>some (x==y)
 | .neq=>some (x !=y)
 | .lss=>some (decide (x<y))
 | .leq=>some (decide (x<=y))
 | .gtr=>some (decide (x>y))
 | .geq=>some (decide (x>=y))
 | _=>none
def lA (op:wX) (k:y8) (x y:Int):Option AV:=
 match op with
 | .add=>some (.int k (k.wrap (x+y)))
 | .sub=>some (.int k (k.wrap (x-y)))
 | .mul=>some (.int k (k.wrap (x*y)))
 | .quo=>if y=0 then none else some (.int k (k.wrap (x.tdiv y)))
 | .rem=>if y=0 then none else some (.int k (x.tmod y))
 | .and=>some (.int k (k.wrap (xI k.bits x&&&xI k.bits y).toNat))
 | .or=>some (.int k (k.wrap (xI k.bits x|||xI k.bits y).toNat))
 | .xor=>some (.int k (k.wrap (xI k.bits x^^^xI k.bits y).toNat))
 | .andNot=>some (.int k (k.wrap (xI k.bits x&&&~~~(xI k.bits y)).toNat))
 | .shl | .shr=>none
 | op=>match intCmp op x y with | some b=>some (.bool b) | none=>none
def B6 (op:wX) (k:y8) (x y:Int):Option AV:=
 if y<0 then none else
 match op with
 | .shl=>some (.int k (k.wrap (x*2^(min y.toNat k.bits))))
 | .shr=>some (.int k (x.fdiv (2^(min y.toNat k.bits))))
 | _=>none
def IB (op:wX) (x y:List Nat):Option AV:=
 match op with
 | .add=>bif yG (x.length+y.length) 9223372036854775807 then some (.str (x++y)) else none
 | .eql=>some (.bool (cP x y))
 | .neq=>some (.bool (!cP x y))
 | .lss=>some (.bool (Bl x y))
 | .leq=>some (.bool (Bl x y||cP x y))
 | .gtr=>some (.bool (!(Bl x y||cP x y)))
 | .geq=>some (.bool (!Bl x y))
 | _=>none
def R6 (op:wX) (k:vZ) (x y:Nat):Option AV:=
 let c:=k.format.order x y
 let ar (r:Option Nat):Option AV:=match r with | some b=>some (.aB k b) | none=>none
 match op with
 | .add=>ar (k.format.add x y)
 | .sub=>ar (k.format.sub x y)
 | .mul=>ar (k.format.mul x y)
 | .quo=>ar (k.format.div x y)
 | .eql=>some (.bool (c==some .eq))
 | .neq=>some (.bool (c !=some .eq))
 | .lss=>some (.bool (c==some .lt))
 | .leq=>some (.bool (c==some .lt||c==some .eq))
 | .gtr=>some (.bool (c==some .gt))
 | .geq=>some (.bool (c==some .gt||c==some .eq))
 | _=>none
def binOp (op:wX) (x y:AV):Option AV:=
 match x,y with
 | .int k a,.int k' b=>
  match op with
  | .shl | .shr=>B6 op k a b
  | _=>if k=k' then lA op k a b else none
 | .aB k a,.aB k' b=>if k=k' then R6 op k a b else none
 | .str a,.str b=>IB op a b
 | _,_=>none
def unOp (op:ycE) (x:AV):Option AV:=
 match op,x with
 | .neg,.int k n=>some (.int k (k.wrap (0-n)))
 | .xor,.int k n=>lA .xor k (if k.signed then -1 else k.max) n
 | .not,.bool b=>some (.bool !b)
 | .neg,.aB k b=>some (.aB k (b^^^2^(k.format.exponentBits+k.format.fractionBits)))
 | _,_=>none
def iG (c:Conv) (x:AV):Option AV:=
 match c,x with
 | .toInt k,.int _ n=>some (.int k (k.wrap n))
 | .toFlt k,.int _ n=>some (.aB k (k.nearest n))
 | .toInt k,.aB s b=>
  match (s.decode b).toInt .zero with
  | some n=>if k.min<=n/\n<=k.max then some (.int k n) else none
  | none=>none
 | .toFlt k,.aB s b=>
  if s=k then some (.aB k b) else
  match s.decode b with
  | .number sg m e=>if (k.decode (k.encode (.number sg m e))).isInfinity then none else some (.aB k (k.encode (.number sg m e)))
  | _=>none
 | .str,.str s=>some (.str s)
 | _,_=>none
def gl (sz:Nat) (ag:Bool) (cs:List AV):Option AV:=
 bif ag then (bif yG sz cs.length then some (.agg (cs.take sz)) else none)
 else match cs with | v::_=>some v | []=>none
def dI (x:AV):Option Nat:=
 match x with
 | .int _ n=>match n with | .ofNat k=>some k | .negSucc _=>none
 | _=>none
def cC (tm:Env) (d:Nat):Option X->Option Nat
 | none=>some d
 | some x=>dI (az tm x)
def fB (hp:Hp) (k:Cut) (x:AV) (tm:Env) (lo hi:Option X):Option AV:=
 match k,x with
 | .str,.str s=>
  match cC tm 0 lo,cC tm s.length hi with
  | some l,some h=>bif yG l h&&yG h s.length then some (.str ((s.take h).drop l)) else none
  | _,_=>none
 | .sl _,.af=>
  match cC tm 0 lo,cC tm 0 hi with
  | some 0,some 0=>some .af
  | _,_=>none
 | .sl sz,.aC ex n cs=>
  match cC tm 0 lo,cC tm n hi with
  | some l,some h=>bif yG l h&&yG h n then some (.aC (ex&&yt h n) (h-l) (slice (l*sz) ((h-l)*sz) cs)) else none
  | _,_=>none
 | .sl sz,.ay id o n=>
  match an hp id with
  | some (.cells _ _ _ z _)=>
   match cC tm 0 lo,cC tm n hi with
   | some l,some h=>
    bif yG l h&&yG h n&&yt z sz then
     bif yt l h&& !yt l 0 then some (.aC false 0 []) else some (.ay id (o+l*sz) (h-l))
    else none
   | _,_=>none
  | _=>none
 | _,_=>none
def fill (tm:Env):List AV->List (Nat×Nat×X)->Option (List AV)
 | cs,[]=>some cs
 | cs,(o,sz,x)::r=>
  let new:=cellsOf (az tm x)
  bif yt new.length sz&&yG (o+sz) cs.length&&bK new then fill tm (over o new cs) r else none
def EB:AV->AV->Option Bool
 | .int k a,.int k' b=>if k=k' then some (a==b) else none
 | .str a,.str b=>some (cP a b)
 | .bool a,.bool b=>some (a==b)
 | _,_=>none
def sO:Nat->AV->Bool
 | 0,.bool _=>true
 | 1,.int _ _=>true
 | 2,.str _=>true
 | _,_=>false
def Cw (k:AV):List AV->List AV->Option (Option AV)
 | [],_=>some none
 | k'::ks,v::vs=>match EB k k' with | some true=>some (some v) | some false=>Cw k ks vs | none=>none
 | _::_,[]=>none
def AX (k v:AV):List AV->List AV->Option (List AV×List AV)
 | [],[]=>some ([k],[v])
 | k'::ks,u::us=>
  match EB k k' with
  | some true=>some (k'::ks,v::us)
  | some false=>match AX k v ks us with | some (kD,Uw)=>some (k'::kD,u::Uw) | none=>none
  | none=>none
 | _,_=>none
def min2:AV->AV->Option AV
 | .int k x,.int _ y=>some (.int k (if y<x then y else x))
 | .aB k x,.aB _ y=>
  match k.format.order x y with
  | none=>none
  | some .lt=>some (.aB k x)
  | some .gt=>some (.aB k y)
  | some .eq=>some (.aB k (if (k.decode x).neg then x else y))
 | _,_=>none
def max2:AV->AV->Option AV
 | .int k x,.int _ y=>some (.int k (if y>x then y else x))
 | .aB k x,.aB _ y=>
  match k.format.order x y with
  | none=>none
  | some .lt=>some (.aB k y)
  | some .gt=>some (.aB k x)
  | some .eq=>some (.aB k (if (k.decode x).neg then y else x))
 | _,_=>none
def AM (f:AV->AV->Option AV):AV->List AV->Option AV
 | a,[]=>some a
 | a,b::r=>match f a b with | some c=>AM f c r | none=>none
def room:Nat:=1099511627776
abbrev fS:=Option (AV×Hp×Nat)
def jb (hp:Hp) (sz:Nat) (ag:Bool):AV->Option AV
 | .ptr id o=>match an hp id with | some (.cells _ _ _ _ cs)=>gl sz ag (cs.drop o) | _=>none
 | .aJ cs=>gl sz ag cs
 | _=>none
def IC (k:Nat):AV->Option AV
 | .ptr id o=>some (.ptr id (o+k))
 | .aJ cs=>bif yG k cs.length then some (.aJ (cs.drop k)) else none
 | _=>none
def MI (o sz:Nat) (ag:Bool):AV->Option AV
 | .agg cs=>gl sz ag (cs.drop o)
 | _=>none
def ju (sz i:Nat):AV->Option AV
 | .ay id o n=>bif yK i n then some (.ptr id (o+i*sz)) else none
 | .aC _ n cs=>bif yK i n then some (.aJ (cs.drop (i*sz))) else none
 | _=>none
def ID (len sz i:Nat):AV->Option AV
 | .ptr id o=>bif yK i len then some (.ptr id (o+i*sz)) else none
 | .aJ cs=>bif yK i len then some (.aJ (cs.drop (i*sz))) else none
 | _=>none
def mP (i:Nat):AV->Option AV
 | .str s=>match s[i]? with | some b=>some (.int .u8 b) | none=>none
 | _=>none
def IE (len sz:Nat) (ag:Bool) (i:Nat):AV->Option AV
 | .agg cs=>bif yK i len then gl sz ag (cs.drop (i*sz)) else none
 | _=>none
def AN (hp:Hp) (k:AV):AV->Option (Option AV)
 | .jQ=>some none
 | .map id=>match an hp id with | some (.mp _ ks vs)=>Cw k ks vs | _=>none
 | .jz ks vs=>Cw k ks vs
 | _=>none
def jv (hp:Hp):Nat->AV->Option AV
 | 0,.str s=>some (.int .i64 s.length)
 | 1,.af=>some (.int .i64 0)
 | 1,.aC _ n _=>some (.int .i64 n)
 | 1,.ay _ _ n=>some (.int .i64 n)
 | 2,.jQ=>some (.int .i64 0)
 | 2,.jz ks _=>some (.int .i64 ks.length)
 | 2,.map id=>match an hp id with | some (.mp _ ks _)=>some (.int .i64 ks.length) | _=>none
 | _,_=>none
def bl (tm:Env) (hp:Hp):Op->Option AV
 | .mC x=>some (az tm x)
 | .pick c a b=>match az tm c with | .bool t=>some (bif t then az tm a else az tm b) | _=>none
 | .AL zero parts=>match fill tm zero parts with | some cs=>some (.agg cs) | none=>none
 | .ld sz ag x=>jb hp sz ag (az tm x)
 | .I3 x=>
  match az tm x with
  | .ptr id o=>some (.ptr id o)
  | .aJ cs=>some (.aJ cs)
  | .fn f a b=>some (.fn f a b)
  | _=>none
 | .bin op x y=>binOp op (az tm x) (az tm y)
 | .eq ne k x y=>match jS k (az tm x) (az tm y) with | some r=>some (.bool (ne !=r)) | none=>none
 | .un op x=>unOp op (az tm x)
 | .cv k x=>iG k (az tm x)
 | .Ff f first cap=>some (.fn f (di tm first) (di tm cap))
 | .oY k x lo hi=>fB hp k (az tm x) tm lo hi
 | .off k x=>IC k (az tm x)
 | .JW o sz ag x=>MI o sz ag (az tm x)
 | .bn sz x i=>match dI (az tm i) with | some j=>ju sz j (az tm x) | none=>none
 | .Fg len sz x i=>match dI (az tm i) with | some j=>ID len sz j (az tm x) | none=>none
 | .Fh x i=>match dI (az tm i) with | some j=>mP j (az tm x) | none=>none
 | .Bk len sz ag x i=>match dI (az tm i) with | some j=>IE len sz ag j (az tm x) | none=>none
 | .Ow kk zero ok m k=>
  bif sO kk (az tm k) then
   match AN hp (az tm k) (az tm m) with
   | some (some v)=>some (bif ok then .ap [v,.bool true] else v)
   | some none=>some (bif ok then .ap [zero,.bool false] else zero)
   | none=>none
  else none
 | .ext i x=>match az tm x with | .ap vs=>vs[i]? | _=>none
 | .len k x=>jv hp k (az tm x)
 | .mn xs=>match di tm xs with | a::r=>AM min2 a r | []=>none
 | .mx xs=>match di tm xs with | a::r=>AM max2 a r | []=>none
 | _=>none
def cN (tm:Env) (hp:Hp) (ct:Nat):Op->Option (AV×Obj)
 | .box sz x=>
  let cs:=cellsOf (az tm x)
  bif yt cs.length sz&&bK cs then some (.ptr ct 0,.cells true (aF cs) true sz cs) else none
 | .mT n sz zero parts=>
  match fill tm zero parts with
  | some cs=>bif yt cs.length (n*sz) then some (.ay ct 0 n,.cells true (aF cs) true sz cs) else none
  | none=>none
 | .nU sz bytes zero len cap=>
  match dI (az tm len),dI (az tm cap) with
  | some l,some c=>
   bif yG l c&&(yG c room&&(yG (c*bytes) room&&(yt zero.length sz&&bK zero))) then
    some (.ay ct 0 l,.cells true (aF zero) (yt l c) sz (yC l zero).flatten)
   else none
  | _,_=>none
 | .zG=>some (.map ct,.mp true [] [])
 | .pc x=>match az tm x with | .str s=>some (.it ct,.si s 0) | _=>none
 | _=>none
def decodeL (s:List Nat) (i:Nat):Nat×Nat:=
 let at' (k:Nat):Nat:=s.getD (i+k) 0
 let cont (k:Nat):Bool:=decide (i+k<s.length)&&at' k/64==2
 let b0:=at' 0
 if b0<0x80 then (b0,1)
 else if b0/32==6&&cont 1 then
  let c:=(b0%32)*64+at' 1%64
  if c>=0x80 then (c,2) else (uk,1)
 else if b0/16==14&&cont 1&&cont 2 then
  let c:=(b0%16)*4096+(at' 1%64)*64+at' 2%64
  if c>=0x800&&ybl c then (c,3) else (uk,1)
 else if b0/8==30&&cont 1&&cont 2&&cont 3 then
  let c:=(b0%8)*262144+(at' 1%64)*4096+(at' 2%64)*64+at' 3%64
  if c>=0x10000&&ybl c then (c,4) else (uk,1)
 else (uk,1)
def js (hp:Hp) (sz:Nat):AV->Option (Nat×List AV)
 | .str b=>bif yt sz 1 then some (b.length,L4 b) else none
 | v=>lY hp sz v
def q9 (hp:Hp) (ct sz bytes:Nat) (s:AV) (src:Option (Nat×List AV)):Option (AV×Obj):=
 match src with
 | none=>none
 | some (m,new)=>
  match s with
  | .ay id o n=>
   match an hp id with
   | some (.cells _ pu true z cs)=>
    bif yt z sz&&(yK 0 m&&(yG (n+m) room&&(yG ((n+m)*bytes) room&&(yt (o+n*sz) cs.length&&yK 0 sz)))) then
     some (.ay ct 0 (n+m),.cells true (pu&&aF new) false sz (slice o (n*sz) cs++new))
    else none
   | _=>none
  | _=>none
def cJ (tm:Env) (hp:Hp) (ct:Nat):Op->fS
 | .st sz x v=>
  let new:=cellsOf (az tm v)
  match az tm x with
  | .ptr id o=>
   match an hp id with
   | some (.cells true pu ex z cs)=>
    bif yt new.length sz&&yG (o+sz) cs.length&&bK new then
     some (.ap [],aU hp id (.cells true (pu&&aF new) ex z (over o new cs)),ct)
    else none
   | _=>none
  | _=>none
 | .oZ kk m k v=>
  match az tm m with
  | .map id=>
   match an hp id with
   | some (.mp true ks vs)=>bif !sO kk (az tm k) then none else match AX (az tm k) (az tm v) ks vs with | some (kD,dW)=>some (.ap [],aU hp id (.mp true kD dW),ct) | none=>none
   | _=>none
  | _=>none
 | .pg x=>
  match az tm x with
  | .it id=>
   match an hp id with
   | some (.si s pos)=>
    bif yK pos s.length then
     match decodeL s pos with
     | (c,wd)=>some (.ap [.bool true,.int .i64 pos,.int .i32 c],aU hp id (.si s (pos+wd)),ct)
    else some (.ap [.bool false],hp,ct)
   | _=>none
  | _=>none
 | .cR sz bytes s x=>
  match js hp sz (az tm x) with
  | none=>none
  | some (m,new)=>
   match az tm s with
   | .af=>
    bif yt m 0 then some (.af,hp,ct)
    else bif yG m room&&(yG (m*bytes) room&&yK 0 sz) then some (.ay ct 0 m,(ct,.cells true (aF new) false sz new)::hp,ct+1) else none
   | .aC true n cs=>
    bif yt m 0 then some (.aC true n cs,hp,ct)
    else bif yG (n+m) room&&(yG ((n+m)*bytes) room&&(yt cs.length (n*sz)&&yK 0 sz)) then some (.ay ct 0 (n+m),(ct,.cells true (aF cs&&aF new) false sz (cs++new))::hp,ct+1) else none
   | .ay id o n=>
    match an hp id with
    | some (.cells true pu _ z cs)=>
     bif yt z sz&&(yG (n+m) room&&(yG ((n+m)*bytes) room&&(yG (o+n*sz) cs.length&&(yK 0 sz&&bK new)))) then
      some (.ay ct 0 (n+m),(ct,.cells true (pu&&aF new) false sz (slice o (n*sz) cs++new))::da hp id,ct+1)
     else none
    | _=>none
   | _=>none
 | .pk sz d s=>
  match lY hp sz (az tm s),az tm d with
  | some (m,new),.ay id o n=>
   match an hp id with
   | some (.cells true pu ex z cs)=>
    bif yt z sz&&(yG (o+n*sz) cs.length&&bK new) then
     some (.int .i64 (min m n:Nat),aU hp id (.cells true (pu&&aF new) ex z (over o (new.take (min m n*sz)) cs)),ct)
    else none
   | _=>none
  | _,_=>none
 | _=>none
def iX:X->List Nat | .t i=>[i] | .c _=>[]
def sU:List X->List Nat
 | []=>[]
 | x::r=>iX x++sU r
def IF:Option X->List Nat | some x=>iX x | none=>[]
def IG:List (Nat×Nat×X)->List Nat
 | []=>[]
 | (_,_,x)::r=>iX x++IG r
def j0:Op->List Nat
 | .mC x | .box _ x | .ld _ _ x | .I3 x | .un _ x | .cv _ x | .off _ x | .JW _ _ _ x | .pc x | .pg x | .ext _ x | .len _ x=>iX x
 | .pick a b c | .oZ _ a b c=>iX a++(iX b++iX c)
 | .AL _ ps | .mT _ _ _ ps=>IG ps
 | .st _ a b | .bin _ a b | .eq _ _ a b | .bn _ a b | .Fg _ _ a b | .Fh a b | .Bk _ _ _ a b | .Ow _ _ _ a b | .cR _ _ a b | .ph _ _ a b | .pk _ a b=>iX a++iX b
 | .Ff _ a b=>sU a++sU b
 | .zG=>[]
 | .nU _ _ _ a b=>iX a++iX b
 | .oY _ x a b=>iX x++(IF a++IF b)
 | .call _ f xs=>iX f++sU xs
 | .ia _ f xs=>iX f++sU xs
 | .kC _ _ a b=>iX a++iX b
 | .kV _ _ _ a b=>iX a++iX b
 | .mn xs | .mx xs=>sU xs
def bm:Op->Nat
 | .mC _ | .pick _ _ _ | .AL _ _ | .I3 _ | .bin _ _ _ | .eq _ _ _ _ | .un _ _ | .cv _ _ | .Ff _ _ _ | .off _ _ | .JW _ _ _ _ | .bn _ _ _ | .Fg _ _ _ _ | .Fh _ _ | .Bk _ _ _ _ _ | .ext _ _ | .mn _ | .mx _=>0
 | .oY .str _ _ _ | .len 0 _ | .len 1 _=>0
 | .st _ _ _ | .oZ _ _ _ _ | .pg _ | .cR _ _ _ _ | .pk _ _ _ | .ia _ _ _ | .kC _ _ _ _ | .kV _ _ _ _ _ | .call .heap _ _ | .call .dyn _ _=>2
 | _=>1
def R7:Option (Nat×Bool)->List Nat | some (t,_)=>[t] | none=>[]
def Cf (o:aY):List Nat:=R7 o.guard++j0 o.op
def EL (d:Option Nat) (l:List Nat):Bool:=match d with | some i=>lF i l | none=>false
def abu (d e:Option Nat):Bool:=match d,e with | some i,some j=>yt i j | _,_=>false
def LH (a b:aY):Bool:=EL a.dst (Cf b)||EL b.dst (Cf a)||abu a.dst b.dst
def CL (sz:Nat) (ag:Bool) (t:Nat):List (Nat×Bool×Nat)->Bool
 | []=>false
 | (s,g,u)::r=>(yt s sz&&(g==ag&&yt u t))||CL sz ag t r
def Cx (t:Nat):List aY->Bool
 | []=>true
 | o::r=> !EL o.dst [t]&&Cx t r
def HG (a b:aY) (r:List aY):Bool:=
 match a.guard,a.op,b.op with
 | none,.ld sz ag (.t t),.ia rs _ _=>CL sz ag t rs&&Cx t (a::r)
 | none,.ld sz ag (.t t),.kC rs _ _ _=>CL sz ag t rs&&Cx t (a::r)
 | none,.ld sz ag (.t t),.kV rs _ _ _ _=>CL sz ag t rs&&Cx t (a::r)
 | _,_,_=>false
def Hg (a b:aY):Bool:=
 match bm a.op,bm b.op with
 | 1,2 | 2,1 | 2,2=>true
 | _,_=>false
def LI (m:Nat) (b:aY):List aY->Nat->Bool
 | [],_=>true
 | a::r,i=>(uU m i|| !(LH a b||(Hg a b&& !HG a b r)))&&LI m b r (i+1)
def sP (done:List aY):List aY->List Nat->Bool
 | [],_=>true
 | b::r,m::ms=>LI m b done 0&&sP (done++[b]) r ms
 | _::_,[]=>false
def HH (m:Nat):List aY->Nat->List (Nat×Bool×Nat)
 | [],_=>[]
 | a::r,i=>
  match uU m i,a with
  | false,⟨_,none,.ld sz ag (.t t)⟩=>(sz,ag,t)::HH m r (i+1)
  | _,_=>HH m r (i+1)
def stOp (rs:List (Nat×Bool×Nat)) (sz:Nat) (x v:X):Op:=match rs with | []=> .st sz x v | rs=> .kC rs sz x v
def acT (rs:List (Nat×Bool×Nat)) (sz b:Nat) (x v:X):Op:=match rs with | []=> .cR sz b x v | rs=> .kV rs sz b x v
def mQ (done:List aY):List aY->List Nat->List aY
 | ⟨d,g,.ia _ f xs⟩::r,m::ms=>let o:aY:=⟨d,g,.ia (HH m done 0) f xs⟩;o::mQ (done++[o]) r ms
 | ⟨d,g,.st sz x v⟩::r,m::ms=>let o:aY:=⟨d,g,stOp (HH m done 0) sz x v⟩;o::mQ (done++[o]) r ms
 | ⟨d,g,.cR sz b x v⟩::r,m::ms=>let o:aY:=⟨d,g,acT (HH m done 0) sz b x v⟩;o::mQ (done++[o]) r ms
 | o::r,_::ms=>o::mQ (done++[o]) r ms
 | l,_=>l
def aaH (done:List aY):X->Bool
 | .t i=>done.any fun o=>match o.dst,o.op with | some j,.mT _ _ _ _=>yt i j | _,_=>false
 | _=>false
def EC (done:List aY):List aY->List aY
 | []=>[]
 | o::r=>(match o.op with | .cR sz b x v=>bif aaH done x then ⟨o.dst,o.guard,.ph sz b x v⟩ else o | _=>o)::EC (done++[o]) r
abbrev aG:=Nat->Option au
structure Lib where
 pure:Nat->Option (List AV->Option AV)
 heap:Nat->Option (Hp->Nat->List AV->fS)
abbrev cw:=VC->St->Option (Ex×St)
def eh:Nat->List AV->Env
 | _,[]=>[]
 | i,v::r=>(i,v)::eh (i+1) r
def results1 (s:St):RV->Option AV
 | .t i=>some (aj s.tm i)
 | .cell i sz ag=>
  match aj s.tm i with
  | .ptr id o=>match an s.hp id with | some (.cells _ _ _ _ cs)=>gl sz ag (cs.drop o) | _=>none
  | .aJ cs=>gl sz ag cs
  | _=>none
def li (s:St):List RV->Option (List AV)
 | []=>some []
 | r::rest=>match results1 s r,li s rest with | some v,some vs=>some (v::vs) | _,_=>none
def gY (s:St) (rs:List RV):Option AV:=
 match li s rs with
 | some [v]=>some v
 | some vs=>some (.ap vs)
 | none=>none
def bF (P:aG) (L:Lib) (self:cw) (n:Nat) (vals:List AV):Option AV:=
 match L.pure n with
 | some sp=>sp vals
 | none=>
  match P n with
  | none=>none
  | some F=>
   match self F.body ⟨eh 0 vals,[],0,0⟩ with
   | some (.normal,s) | some (.ret,s)=>match gY s F.dd with | some v=>result s.hp v | none=>none
   | _=>none
def Rv:Ex->rq
 | .normal=> .none
 | .ret=> .ret
 | .exit id=> .exit id
def pV:Env->List Nat->List AV->Option Env
 | tm,[],[]=>some tm
 | tm,p::ps,v::vs=>pV ((p,v)::tm) ps vs
 | _,_,_=>none
def iC (P:aG) (L:Lib) (self:cw) (hp:Hp) (ct:Nat) (n:Nat) (vals:List AV):fS:=
 match L.heap n with
 | some sp=>sp hp ct vals
 | none=>
  match P n with
  | none=>none
  | some F=>
   match self F.body ⟨eh 0 vals,hp,ct,ct⟩ with
   | some (.normal,s) | some (.ret,s)=>match gY s F.dd with | some v=>some (v,s.hp,s.ct) | none=>none
   | _=>none
def kJ (self:cw) (hp:Hp) (ct:Nat) (l:Nat) (xs:List AV):fS:=
 match an hp l with
 | some (.lp tm ps as_ body 0 _)=>
  match pV tm ps xs with
  | none=>none
  | some tm'=>
   match self as_ ⟨tm',hp,ct,ct⟩ with
   | some (.normal,s1)=>
    match an s1.hp l with
    | some (.lp iL rO Bm Cy 0 pn)=>
     match self body ⟨s1.tm,aU s1.hp l (.lp iL rO Bm Cy 1 pn),s1.ct,s1.ct⟩ with
     | some (ex,s2)=>
      match an s2.hp l with
      | some (.lp nV Bn JX II 1 _)=>
       match ex with
       | .normal=>some (.bool true,aU s2.hp l (.lp nV Bn JX II 0 .none),s2.ct)
       | ex=>some (.bool false,aU s2.hp l (.lp nV Bn JX II 2 (Rv ex)),s2.ct)
      | _=>none
     | none=>none
    | _=>none
   | _=>none
 | _=>none
def dA (P:aG) (L:Lib) (self:cw) (hp:Hp) (ct:Nat) (m:Md) (fv:AV) (xs:List AV):fS:=
 match fv with
 | .fn (.f n) first cap=>
  match m with
  | .pure=>
   match cB deep hp (first++(xs++cap)) with
   | some (vals,bj)=>match bF P L self n vals with | some r=>some (shut r,bj,ct) | none=>none
   | none=>none
  | .own=>
   match cB deep hp (first++(xs++cap)) with
   | some (vals,bj)=>match bF P L self n vals with | some r=>some (own bj ct r) | none=>none
   | none=>none
  | .heap=>iC P L self hp ct n (first++(xs++cap))
  | .dyn=>
   bif aF (first++(xs++cap)) then
    match bF P L self n (first++(xs++cap)) with | some r=>some (shut r,hp,ct) | none=>none
   else iC P L self hp ct n (first++(xs++cap))
 | .fn (.y l) _ _=>
  match m with
  | .heap | .dyn=>kJ self hp ct l xs
  | _=>none
 | _=>none
def M9:AV->AV->Bool
 | .int k a,.int k' b=>decide (k=k')&&a==b
 | .bool a,.bool b=>a==b
 | .str a,.str b=>cP a b
 | .af,.af=>true
 | .kQ,.kQ=>true
 | .ptr i o,.ptr j p=>yt i j&&yt o p
 | .ay i o n,.ay j p m=>yt i j&&(yt o p&&yt n m)
 | .map i,.map j=>yt i j
 | _,_=>false
def lZ (tm:Env) (hp ao:Hp):List (Nat×Bool×Nat)->Bool
 | []=>true
 | (sz,ag,x)::r=>
  match jb hp sz ag (aj tm x),jb ao sz ag (aj tm x) with
  | some a,some b=>M9 a b&&lZ tm hp ao r
  | _,_=>false
def nv (tm:Env) (id:Nat):List (Nat×Bool×Nat)->Bool
 | []=>true
 | (_,_,x)::r=>(match aj tm x with | .ptr j _=> !yt j id | .aJ _=>true | _=>false)&&nv tm id r
def a7 (P:aG) (L:Lib) (self:cw) (tm:Env) (hp:Hp) (ct:Nat) (o:Op):fS:=
 match o with
 | .call m f xs=>dA P L self hp ct m (az tm f) (di tm xs)
 | .ia rs f xs=>
  match dA P L self hp ct .dyn (az tm f) (di tm xs) with
  | some (v,ao,aW)=>bif lZ tm hp ao rs then some (v,ao,aW) else none
  | none=>none
 | .kC rs sz x v=>
  match az tm x with
  | .ptr id _=>bif nv tm id rs then cJ tm hp ct (.st sz x v) else none
  | _=>none
 | .ph sz b x v=>
  match q9 hp ct sz b (az tm x) (js hp sz (az tm v)) with
  | some (v,b)=>some (v,(ct,b)::hp,ct+1)
  | none=>none
 | .kV rs sz b x v=>
  match cJ tm hp ct (.cR sz b x v) with
  | some (v,ao,aW)=>bif lZ tm hp ao rs then some (v,ao,aW) else none
  | none=>none
 | .st .. | .oZ .. | .pg .. | .cR .. | .pk .. =>cJ tm hp ct o
 | .box .. | .mT .. | .nU .. | .zG | .pc .. =>match cN tm hp ct o with | some (v,b)=>some (v,(ct,b)::hp,ct+1) | none=>none
 | o=>match bl tm hp o with | some v=>some (v,hp,ct) | none=>none
def put (d:Option Nat) (v:AV) (tm:Env):Env:=
 match d with
 | some i=>(i,v)::tm
 | none=>tm
def dB (P:aG) (L:Lib) (self:cw):List aY->St->Option St
 | [],s=>some s
 | ⟨d,g,o⟩::r,s=>
  let want:=match g with | none=>some true | some (t,b)=>match aj s.tm t with | .bool c=>some (c==b) | .ap []=>some false | _=>none
  match want with
  | some true=>
   match a7 P L self s.tm s.hp s.ct o with
   | some (v,hp,ct)=>dB P L self r {s with tm:=put d v s.tm,hp:=hp,ct:=ct}
   | none=>none
  | some false=>dB P L self r {s with tm:=put d (.ap []) s.tm}
  | none=>none
def oJ:List Nat->St->Option St
 | [],s=>some s
 | t::r,s=>
  match freeze deep s.hp (aj s.tm t) with
  | some (v,hp)=>oJ r {s with tm:=(t,v)::s.tm,hp:=hp}
  | none=>none
def bt (P:aG) (L:Lib) (self:cw):VC->St->Option (Ex×St)
 | .skip,s=>some (.normal,s)
 | .jB ops,s=>match dB P L self ops s with | some s'=>some (.normal,s') | none=>none
 | .seq a b,s=>
  match bt P L self a s with
  | some (.normal,s1)=>bt P L self b s1
  | r=>r
 | .cond x a b,s=>
  match az s.tm x with
  | .bool t=>bif t then bt P L self a s else bt P L self b s
  | _=>none
 | .dD id a,s=>
  match bt P L self a s with
  | some (.exit j,s1)=>bif yt j id then some (.normal,s1) else some (.exit j,s1)
  | r=>r
 | .kp live,s=>some (.normal,aM live s)
 | .fz ts,s=>match oJ ts s with | some s'=>some (.normal,s') | none=>none
 | .loop live a,s=>
  match bt P L self a (aM live s) with
  | some (.normal,s1)=>self (.loop live a) s1
  | r=>r
 | .rf f ps as_ body,s=>
  match az s.tm f with
  | .fn (.f n) first cap=>
   match L.heap n with
   | some _=>none
   | none=>
    match iC P L self ((s.ct,.lp s.tm ps as_ body 0 .none)::s.hp) (s.ct+1) n (first++(.fn (.y s.ct) [] []::cap)) with
    | some (_,hp,ct)=>
     match an hp s.ct with
     | some (.lp _ _ _ _ st pe)=>
      bif yt st 1 then none else
      match pe with
      | .none=>some (.normal,{s with hp:=da hp s.ct,ct:=ct})
      | .ret=>some (.ret,{s with hp:=da hp s.ct,ct:=ct})
      | .exit id=>some (.exit id,{s with hp:=da hp s.ct,ct:=ct})
     | _=>none
    | none=>none
  | _=>none
 | .exit id,s=>some (.exit id,s)
 | .ret,s=>some (.ret,s)
def ev (P:aG) (L:Lib) (n:Nat):cw:=Nat.rec (fun _ _=>none) (fun _ ih=>bt P L ih) n
def Ux (P:aG) (L:Lib) (n:Nat) (f:Nat) (vals:List AV):Option AV:=bF P L (ev P L n) f vals
end
section
open Go
structure Pl where
 b:Nat
 o:Nat
 e:Nat
 z:Nat
abbrev Mp:=Nat->Option Pl
section
variable (ae:Nat->Nat) (m:Mp) (S:Nat->Prop) (w:yi)
mutual
def ah:AV->yh->Prop
 | .int k n,v=>v= .int k n
 | .bool b,v=>v= .bool b
 | .aB k b,v=>v= .float k b
 | .str s,v=>∃t:ByteArray,v= .string t/\t.data.toList.map xi=s
 | .kQ,v=>v= .pointer none
 | .ptr id o,v=>∃p,m id=some p/\v= .pointer (some ⟨p.b,p.o+o,none⟩)
 | .aJ cs,v=>∃b o,v= .pointer (some ⟨b,o,none⟩)/\(cs=[]\/S b)/\aF cs=true/\bL cs b o
 | .af,v=>v= .slice none 0 0
 | .aC ex n cs,v=>(∃b o c,v= .slice (some ⟨b,o,none⟩) n c/\n<=c/\(ex=true->c=n)/\(cs=[]\/S b)/\aF cs=true/\bL cs b o)\/(∃a,v= .slice (some a) 0 0/\n=0/\cs=[])
 | .cf _ _ _ _,_=>False
 | .ay id o n,v=>∃p c,m id=some p/\v= .slice (some ⟨p.b,p.o+o,none⟩) n c/\n<=c/\o+c*p.z=p.e
 | .fn (.f g) first cap,v=>∃fi ca:Array yh,v= .func (.func (ae g)) fi ca/\av first fi.toList/\av cap ca.toList
 | .fn (.y l) _ _,v=>∃p,m l=some p/\v= .func (.yield p.b) #[] #[]
 | .iF,v=>v= .nilFunc
 | .jQ,v=>v= .map none
 | .map id,v=>∃p,m id=some p/\v= .map (some p.b)
 | .jz ks vs,v=>∃b es clock,v= .map (some b)/\S b/\aF ks=true/\aF vs=true/\w.heap[b]? =some (.map es clock)/\
   av ks (es.toList.map (·.key))/\av vs (es.toList.map (·.val))
 | .it id,v=>∃p,m id=some p/\v= .pointer (some ⟨p.b,0,none⟩)
 | .agg cs,v=>∃xs:Array yh,v= .agg xs/\av cs xs.toList
 | .ap cs,v=>∃xs:Array yh,v= .tuple xs/\av cs xs.toList
 | .undef,_=>True
def av:List AV->List yh->Prop
 | [],us=>us=[]
 | c::cs,us=>∃u r,us=u::r/\ah c u/\av cs r
def bL:List AV->Nat->Nat->Prop
 | [],_,_=>True
 | c::cs,b,o=>(∃u,w.cell? ⟨b,o,none⟩=some u/\ah c u)/\bL cs b (o+1)
end
end
def fG (S:Nat->Prop) (w w':yi):Prop:=∀b,S b->w'.heap[b]? =w.heap[b]?
def KU {w w':yi} {b o:Nat} (h:w'.heap[b]? =w.heap[b]?):w'.cell? ⟨b,o,none⟩=w.cell? ⟨b,o,none⟩:=by
 simp only [World.cell?,h]
section
variable {ae:Nat->Nat} {m m':Mp} {S S':Nat->Prop} {w w':yi}
mutual
def lj (hm:∀id p,m id=some p->m' id=some p) (hS:∀b,S b->S' b) (hw:fG S w w'):
  ∀(v:AV) (u:yh),ah ae m S w v u->ah ae m' S' w' v u
 | .int _ _,_,h | .bool _,_,h | .aB _ _,_,h | .str _,_,h | .kQ,_,h | .af,_,h | .iF,_,h | .jQ,_,h | .undef,_,h=>by
  simpa only [ah] using h
 | .ptr id o,u,h=>by
  simp only [ah] at h ⊢;obtain ⟨p,h1,h2⟩:=h;exact ⟨p,hm _ _ h1,h2⟩
 | .aJ cs,u,h=>by
  simp only [ah] at h ⊢;obtain ⟨b,o,h1,h2,h3,h4⟩:=h;refine ⟨b,o,h1,h2.imp id (hS b),h3,?_⟩;rcases h2 with rfl | h2
  ·simp only [bL]
  ·exact PO hm hS hw cs b o h2 h4
 | .aC ex n cs,u,h=>by
  simp only [ah] at h ⊢;rcases h with ⟨b,o,c,h1,h2,h3,h4,h5,h6⟩ | h
  ·refine .inl ⟨b,o,c,h1,h2,h3,h4.imp id (hS b),h5,?_⟩;rcases h4 with rfl | h4
   ·simp only [bL]
   ·exact PO hm hS hw cs b o h4 h6
  ·exact .inr h
 | .cf _ _ _ _,u,h=>by simp only [ah] at h
 | .ay id o n,u,h=>by
  simp only [ah] at h ⊢;obtain ⟨p,c,h1,h2⟩:=h;exact ⟨p,c,hm _ _ h1,h2⟩
 | .fn (.f g) first cap,u,h=>by
  simp only [ah] at h ⊢;obtain ⟨fi,ca,h1,h2,h3⟩:=h;exact ⟨fi,ca,h1,gK hm hS hw first _ h2,gK hm hS hw cap _ h3⟩
 | .fn (.y l) _ _,u,h=>by
  simp only [ah] at h ⊢;obtain ⟨p,h1,h2⟩:=h;exact ⟨p,hm _ _ h1,h2⟩
 | .map id,u,h=>by
  simp only [ah] at h ⊢;obtain ⟨p,h1,h2⟩:=h;exact ⟨p,hm _ _ h1,h2⟩
 | .jz ks vs,u,h=>by
  simp only [ah] at h ⊢;obtain ⟨b,es,clock,h1,h2,h3,h4,h5,h6,h7⟩:=h;exact ⟨b,es,clock,h1,hS b h2,h3,h4,(hw b h2).trans h5,gK hm hS hw ks _ h6,gK hm hS hw vs _ h7⟩
 | .it id,u,h=>by
  simp only [ah] at h ⊢;obtain ⟨p,h1,h2⟩:=h;exact ⟨p,hm _ _ h1,h2⟩
 | .agg cs,u,h=>by
  simp only [ah] at h ⊢;obtain ⟨xs,h1,h2⟩:=h;exact ⟨xs,h1,gK hm hS hw cs _ h2⟩
 | .ap cs,u,h=>by
  simp only [ah] at h ⊢;obtain ⟨xs,h1,h2⟩:=h;exact ⟨xs,h1,gK hm hS hw cs _ h2⟩
def gK (hm:∀id p,m id=some p->m' id=some p) (hS:∀b,S b->S' b) (hw:fG S w w'):
  ∀(vs:List AV) (us:List yh),av ae m S w vs us->av ae m' S' w' vs us
 | [],us,h=>by simpa only [av] using h
 | v::r,us,h=>by
  simp only [av] at h ⊢;obtain ⟨u,t,h1,h2,h3⟩:=h;exact ⟨u,t,h1,lj hm hS hw v u h2,gK hm hS hw r t h3⟩
def PO (hm:∀id p,m id=some p->m' id=some p) (hS:∀b,S b->S' b) (hw:fG S w w'):
  ∀(cs:List AV) (b o:Nat),S b->bL ae m S w cs b o->bL ae m' S' w' cs b o
 | [],_,_,_,_=>by simp only [bL]
 | c::cs,b,o,hb,h=>by
  simp only [bL] at h ⊢;obtain ⟨⟨u,h1,h2⟩,h3⟩:=h;exact ⟨⟨u,(KU (hw b hb)).trans h1,lj hm hS hw c u h2⟩,PO hm hS hw cs b (o+1) hb h3⟩
end
end
end
section
open Go
structure Hint where
 n:Nat
 bU:tq->Option Nat
 live:Nat->List Nat
 out:Nat->Option (List Nat)
 mode:Nat->Md
 fz:Nat->List Nat
section
variable (P:y7) (H:Hint)
mutual
def eD:yh->AV
 | .int k n=> .int k n
 | .bool b=> .bool b
 | .float k b=> .aB k b
 | .string s=> .str (s.data.toList.map xi)
 | .pointer none=> .kQ
 | .slice none 0 0=> .af
 | .map none=> .jQ
 | .nilFunc=> .iF
 | .agg ⟨cs⟩=> .agg (Eb cs)
 | .tuple ⟨cs⟩=> .ap (Eb cs)
 | _=> .undef
def Eb:List yh->List AV
 | []=>[]
 | v::r=>eD v::Eb r
end
def aK:xy->X
 | .tmp t=> .t t
 | .const v=> .c (eD v)
 | .global _=> .c .undef
 | .func f=>match H.bU f with | some g=> .c (.fn (.f g) [] []) | none=> .c .undef
def gO:List xy->List X
 | []=>[]
 | x::r=>aK H x::gO r
def cz (t:yF):Option Nat:=match P.info? t with | some i=>some i.size | none=>none
def rP (t:yF):Option Nat:=match P.info? t with | some i=>some i.bytes | none=>none
def lB (t:yF):Option AV:=match P.info? t with | some i=>(match i.zero with | some v=>some (eD v) | none=>none) | none=>none
def dO (t:yF):Option Bool:=match P.underlying t with | some (.struct _) | some (.array _ _)=>some true | some _=>some false | none=>none
def bad:Op:= .call .pure (.c .undef) []
def partsOf (place:Nat->Option (Nat×Nat)):List (Nat×xy)->Option (List (Nat×Nat×X))
 | []=>some []
 | (i,x)::r=>
  match place i,partsOf place r with
  | some (o,s),some l=>some ((o,s,aK H x)::l)
  | _,_=>none
def DR (self:yF->Option (List Nat)):List uZ->Nat->Option (List Nat)
 | [],_=>some []
 | f::r,o=>
  match self f.type,cz P f.type with
  | some ks,some s=>
   bif f.name != "_"&&yt f.offset o&&yt ks.length s&& !P.stoodInHeld f.type then
    (match DR self r (o+s) with | some l=>some (ks++l) | none=>none)
   else none
  | _,_=>none
def kinds:Nat->yF->Option (List Nat)
 | 0,_=>none
 | n+1,t=>
  match P.underlying t with
  | some .bool=>some [0]
  | some (.int _)=>some [1]
  | some .string=>some [2]
  | some (.struct fs)=>DR P (fun u=>kinds n u) fs.toList 0
  | some (.array k e)=>
   match kinds n e,cz P e with
   | some ks,some s=>bif yt ks.length s&& !P.stoodInHeld e then some (yC k ks).flatten else none
   | _,_=>none
  | _=>none
def keyOf (t:yF):Option Nat:=
 match P.underlying t with
 | some .bool=>some 0
 | some (.int _)=>some 1
 | some .string=>some 2
 | _=>none
def oA (ne:Bool) (t:yF) (a b:xy):Op:=
 match kinds P 20 t with
 | some ks=>bif P.stoodInHeld t||P.eqGuardType P.depth t then bad else .eq ne (.ag ks) (aK H a) (aK H b)
 | none=>bad
def nA (ne:Bool) (op:wX) (t:yF) (a b:xy):Op:=
 match P.underlying t with
 | some (.int _) | some .string | some (.float _)=> .bin op (aK H a) (aK H b)
 | some .bool=> .eq ne .b (aK H a) (aK H b)
 | some (.slice _)=> .eq ne .sl (aK H a) (aK H b)
 | some (.func _ _ _)=> .eq ne .fn (aK H a) (aK H b)
 | some (.struct _) | some (.array _ _)=>oA P H ne t a b
 | _=>bad
def aS (k:Nat) (o:yZ):Op:=
 let x (y:xy):X:=aK H y
 match o.op with
 | .move a | .assign a=> .mC (x a)
 | .pick c a b=> .pick (x c) (x a) (x b)
 | .alloc t=>match cz P t,lB P t with | some s,some z=> .box s (.c z) | _,_=>bad
 | .box t v=>match cz P t with | some s=> .box s (x v) | none=>bad
 | .build t parts=>
  match P.underlying t,lB P t with
  | some (.struct fs),some (.agg z)=>
   match fs.toList.mapM (fun f=>(P.info? f.type).map fun i=>(f.offset,i.size)) with
   | some pl=>(match partsOf H (fun i=>pl[i]?) parts.toList with | some ps=> .AL z ps | none=>bad)
   | none=>bad
  | some (.array _ e),some (.agg z)=>
   match cz P e with
   | some s=>(match partsOf H (fun i=>some (i*s,s)) parts.toList with | some ps=> .AL z ps | none=>bad)
   | none=>bad
  | _,_=>bad
 | .buildSlice t n parts=>
  match P.underlying t with
  | some (.slice e)=>
   match cz P e,lB P e with
   | some s,some z=>
    bif yG (n*s) 16777216 then
     (match partsOf H (fun i=>some (i*s,s)) parts.toList with | some ps=> .mT n s (yC n (cellsOf z)).flatten ps | none=>bad)
    else bad
   | _,_=>bad
  | _=>bad
 | .load t a=>match cz P t,dO P t with | some s,some ag=> .ld s ag (x a) | _,_=>bad
 | .store t a v=>match cz P t with | some s=> .st s (x a) (x v) | none=>bad
 | .nilCheck a=> .I3 (x a)
 | .binOp op t a b _=>
  match op with
  | .eql=>nA P H false op t a b
  | .neq=>nA P H true op t a b
  | _=> .bin op (x a) (x b)
 | .unOp op _ a=> .un op (x a)
 | .convert s d a=>
  match P.underlying s,P.underlying d with
  | some (.int _),some (.int k) | some (.float _),some (.int k)=> .cv (.toInt k) (x a)
  | some (.int _),some (.float k) | some (.float _),some (.float k)=> .cv (.toFlt k) (x a)
  | some .string,some .string=> .cv .str (x a)
  | _,_=>bad
 | .makeFunc (.func f) first cap=>match H.bU f with | some g=> .Ff (.f g) (gO H first.toList) (gO H cap.toList) | none=>bad
 | .makeMap t none=>match P.underlying t with | some (.map ke _)=>(match keyOf P ke with | some _=> .zG | none=>bad) | _=>bad
 | .makeSlice t l c=>
  match P.underlying t with
  | some (.slice e)=>(match cz P e,rP P e,lB P e with | some s,some b,some z=> .nU s b (cellsOf z) (x l) (x c) | _,_,_=>bad)
  | _=>bad
 | .slice t a lo hi none=>
  match P.underlying t with
  | some .string=> .oY .str (x a) (lo.map x) (hi.map x)
  | some (.slice e)=>(match cz P e with | some s=> .oY (.sl s) (x a) (lo.map x) (hi.map x) | none=>bad)
  | some (.array n e)=>(match cz P e with | some s=> .oY (.ar n s) (x a) (lo.map x) (hi.map x) | none=>bad)
  | _=>bad
 | .fieldAddr t a i=>
  match P.underlying t with
  | some (.struct fs)=>
   match fs[i]? with
   | some f=>(match cz P f.type with | some (_+1)=> .off f.offset (x a) | _=>bad)
   | none=>bad
  | _=>bad
 | .field t a i=>
  match P.underlying t with
  | some (.struct fs)=>
   match fs[i]? with
   | some f=>(match cz P f.type,dO P f.type with | some s,some ag=> .JW f.offset s ag (x a) | _,_=>bad)
   | none=>bad
  | _=>bad
 | .indexAddr t a i=>
  match P.underlying t with
  | some (.slice e)=>(match cz P e with | some s=> .bn s (x a) (x i) | none=>bad)
  | some (.array n e)=>(match cz P e with | some s=> .Fg n s (x a) (x i) | none=>bad)
  | _=>bad
 | .index t a i=>
  match P.underlying t with
  | some .string=> .Fh (x a) (x i)
  | some (.array n e)=>(match cz P e,dO P e with | some s,some ag=> .Bk n s ag (x a) (x i) | _,_=>bad)
  | _=>bad
 | .lookup t a i ok=>
  match P.underlying t with
  | some (.map ke e)=>(match keyOf P ke,lB P e with | some kk,some z=> .Ow kk z ok (x a) (x i) | _,_=>bad)
  | _=>bad
 | .mapUpdate t a i v | .insert t a i v=>
  match P.underlying t with
  | some (.map ke _)=>(match keyOf P ke with | some kk=> .oZ kk (x a) (x i) (x v) | none=>bad)
  | _=>bad
 | .range t a=>match P.underlying t with | some .string=> .pc (x a) | _=>bad
 | .next it true=> .pg (x it)
 | .extract t i=> .ext i (x t)
 | .call c=>
  match c.callee with
  | .value f=>(match H.mode k with | .dyn=> .ia [] (x f) (gO H c.args.toList) | md=> .call md (x f) (gO H c.args.toList))
  | .builtin b=>
   match b,c.args.toList,c.argTypes.toList with
   | .append,[s,a],[t,u]=>
    match P.underlying t,P.underlying u with
    | some (.slice e),some (.slice _) | some (.slice e),some .string=>
     (match cz P e,rP P e,lB P e with | some sz,some by',some z=>(bif yt (cellsOf z).length sz then .cR sz by' (x s) (x a) else bad) | _,_,_=>bad)
    | _,_=>bad
   | .len,[a],[t]=>
    match P.underlying t with
    | some (.array n _)=> .mC (.c (.int .i64 n))
    | some .string=> .len 0 (x a)
    | some (.slice _)=> .len 1 (x a)
    | some (.map _ _)=> .len 2 (x a)
    | _=>bad
   | .copy,[d,s],[t,_]=>
    match P.underlying t with
    | some (.slice e)=>(match cz P e with | some sz=> .pk sz (x d) (x s) | none=>bad)
    | _=>bad
   | .min,l,_=> .mn (gO H l)
   | .max,l,_=> .mx (gO H l)
   | _,_,_=>bad
  | _=>bad
 | _=>bad
def Rw (o:yZ):Bool:=match o.op with | .call {callee:= .value _,..}=>true | _=>false
def IJ (d:Option Nat):Bool:=match d with | some i=>yK i H.n | none=>true
def zb (n:Nat):List Nat->Bool
 | []=>true
 | i::r=>yK i n&&zb n r
def B7 (ops:Array yZ):List yZ->Nat->List aY×Nat
 | [],k=>([],k)
 | o::r,k=>
  let g:=match o.guard with
   | none=>some none
   | some (j,b)=>match (ops[j]?).bind (·.dst) with | some t=>some (some (t,b)) | none=>none
  match B7 ops r (k+(bif Rw o then 1 else 0)) with
  | (l,k')=>
   match g,IJ H o.dst with
   | some g,true=>(⟨o.dst,g,aS P H k o⟩::l,k')
   | _,_=>(⟨o.dst,none,bad⟩::l,k')
def Ay (acc:List Nat):List Edge->Nat
 | []=>0
 | e::r=>bif Region.binds .any e then (2^e.on|||acc.getD e.on 0)|||Ay acc r else Ay acc r
def kM (acc:List Nat):List yZ->List Nat
 | []=>acc
 | o::r=>kM (acc++[Ay acc o.after.toList]) r
def Ah:List yZ->Nat->Bool
 | [],_=>true
 | o::r,i=>o.after.toList.all (fun e=> !Region.binds .any e||yK e.on i)&&Ah r (i+1)
def L5 (ops:Array yZ) (draw:Bool) (k:Nat):List aY×Nat:=
 match B7 P H ops ops.toList k with
 | (l,k')=>
  bif draw then
   (let ms:=kM [] ops.toList
    let l':=mQ [] l ms
    bif Ah ops.toList 0&&sP [] l' ms then (l',k') else bif Ah ops.toList 0&&sP [] (EC [] l') ms then (EC [] l',k') else ([⟨none,none,bad⟩],k'))
  else (l,k')
def apj:wS->Bool
 | .loop _=>true
 | _=>false
def comp:wS->Nat->Nat->VC×Nat×Nat
 | .skip,l,k | .label _,l,k=>(.skip,l,k)
 | .region i ops d,l,k=>match L5 P H ops d k with | (r,k')=>((match H.fz i with | []=> .jB r | t::ts=> .seq (.fz (t::ts)) (.jB r)),l,k')
 | .seq a b,l,k=>match comp a l k with | (a',l1,k1)=>match comp b l1 k1 with | (b',l2,k2)=>(.seq a' b',l2,k2)
 | .cond c a b,l,k=>
  match comp a (l+1) k with
  | (a',l1,k1)=>
   match comp b l1 k1 with
   | (b',l2,k2)=>(match H.out l with | some o=> .seq (.cond (aK H c) a' b') (.kp o) | none=> .cond (aK H c) a' b',l2,k2)
 | .block id a,l,k=>
  match comp a l k with
  | (a',r)=>(match apj a,H.out l with | true,some o=> .seq (.dD id a') (.kp o) | _,_=> .dD id a',r)
 | .loop a,l,k=>match comp a (l+1) k with | (a',r)=>(.loop (H.live l) a',r)
 | .rangeFunc f ps as_ body,l,k=>
  match comp as_ l k with | (as',l1,k1)=>match comp body l1 k1 with | (b',l2,k2)=>(bif zb H.n ps.toList then .rf (aK H f) ps.toList as' b' else .jB [⟨none,none,bad⟩],l2,k2)
 | .exit id,l,k=>(.exit id,l,k)
 | .scope a,l,k=>comp a l k
 | .ret,l,k=>(.ret,l,k)
 | .goto _,l,k | .refuse _,l,k=>(.jB [⟨none,none,bad⟩],l,k)
def oB:List ResultVar->Option (List RV)
 | []=>some []
 | .tmp t::r=>match oB r with | some l=>some (.t t::l) | none=>none
 | .cell a t::r=>match cz P t,dO P t,oB r with | some s,some ag,some l=>some (.cell a s ag::l) | _,_,_=>none
def Ec (fn:Func):Option au:=
 match fn.body,oB P fn.results.toList with
 | some c,some rs=>bif yG H.n fn.ntmps then some ⟨rs,(comp P H c 0 0).1⟩ else none
 | _,_=>none
end
end
section
open Go
structure br where
 P:y7
 aX:Lib
 ae:Nat->Nat
 prog:aG
 hint:Nat->Hint
 w0:yi
def Bo (P:y7) (H:Hint) (v:VC) (c:wS):Prop:=∃l k,(comp P H c l k).1=v
def AY:Nat->LoopState
 | 0=> .ready
 | 1=> .busy
 | 2=> .done
 | _=> .exhausted
def sW:rq->Option wS
 | .none=>none
 | .ret=>some .ret
 | .exit id=>some (.exit id)
section
variable (O:br) (m:Mp) (S:Nat->Prop) (w:yi)
def bT (tm:Env) (tmps:Array yh):Prop:=∀i,ah O.ae m S w (aj tm i) (tmps.getD i undef)
def eX (id:Nat):Obj->Prop
 | .cells rw pu ex sz cs=>∃p arr t,m id=some p/\w.heap[p.b]? =some (.cells arr t (0,0))/\p.z=sz/\cs.length<=p.e/\p.o+p.e<=arr.size/\
   (ex=true->cs.length=p.e)/\bL O.ae m S w cs p.b p.o/\(pu=true->aF cs=true)/\(rw=true->¬S p.b)/\(rw=false->S p.b)
 | .mp rw ks vs=>∃p es clock,m id=some p/\w.heap[p.b]? =some (.map es clock)/\av O.ae m S w ks (es.toList.map (·.key))/\av O.ae m S w vs (es.toList.map (·.val))/\
   (rw=true->¬S p.b)/\(rw=false->S p.b)
 | .si s pos=>∃p t,m id=some p/\w.heap[p.b]? =some (.stringIter t pos)/\t.data.toList.map xi=s/\¬S p.b
 | .lp tm ps as_ body st pe=>∃p l h,m id=some p/\w.heap[p.b]? =some (.loop l)/\¬S p.b/\l.state=AY st/\st<=2/\l.pending=sW pe/\bT O m S w tm l.tmps/\
   l.params.toList=ps/\Bo O.P (O.hint h) as_ l.assign/\Bo O.P (O.hint h) body l.body/\(O.hint h).n<=l.tmps.size/\zb (O.hint h).n ps=true
structure aR (hp:Hp) (ct:Nat):Prop where
 obj:∀id o p,an hp id=some o->m id=some p->eX O m S w id o
 lt:∀id p,m id=some p->id<ct
 inj:∀i j oi oj pi pj,an hp i=some oi->an hp j=some oj->m i=some pi->m j=some pj->pi.b=pj.b->i=j
 slt:∀b,S b->b<w.heap.size
 blt:∀id p,m id=some p->p.b<w.heap.size
 low:∀id p,m id=some p->O.w0.heap.size<=p.b
 lG:∀b,b<O.w0.heap.size->w.heap[b]? =O.w0.heap[b]?
 fP:O.w0.heap.size<=w.heap.size
 aP:∀id o,an hp id=some o->id<ct
end
def dX (m:Mp) (hp:Hp) (b:Nat):Prop:=∃id o p,an hp id=some o/\m id=some p/\p.b=b
structure bZ (m:Mp) (S:Nat->Prop) (w:yi) (hp:Hp) (m':Mp) (S':Nat->Prop) (w':yi) (ao:Hp) (base:Nat):Prop where
 os:w'.os=w.os
 tape:w'.tape=w.tape
 output:w'.output=w.output
 size:w.heap.size<=w'.heap.size
 same:∀b,b<w.heap.size->¬dX m hp b->w'.heap[b]? =w.heap[b]?
 sub:∀b,S b->S' b
 still:∀b,S b->w'.heap[b]? =w.heap[b]?
 new:∀b,S' b->S b\/dX m hp b\/w.heap.size<=b
 own:∀b,dX m' ao b->dX m hp b\/w.heap.size<=b
 old:∀id p,id<base->m id=some p->m' id=some p
 loops:∀(b:Nat) (r:uv),w.heap[b]? =some (.loop r)->∃r':uv,w'.heap[b]? =some (.loop r')
def bZ.refl {m:Mp} {S:Nat->Prop} {w:yi} {hp:Hp} {base:Nat}:bZ m S w hp m S w hp base:=
 ⟨rfl,rfl,rfl,yz _,fun _ _ _=>rfl,fun _ h=>h,fun _ _=>rfl,fun _ h=> .inl h,fun _ h=> .inl h,fun _ _ _ h=>h,fun _ r h=>⟨r,h⟩⟩
def bZ.trans {m m' JY:Mp} {S S' Bp:Nat->Prop} {w w' Ox:yi} {hp ao I4:Hp} {base:Nat}
  (h:bZ m S w hp m' S' w' ao base) (k:bZ m' S' w' ao JY Bp Ox I4 base):bZ m S w hp JY Bp Ox I4 base where
 os:=k.os.trans h.os
 tape:=k.tape.trans h.tape
 output:=k.output.trans h.output
 size:=xg h.size k.size
 same b hb ho:=(k.same b (yA hb h.size) (fun iM=>(h.own b iM).elim ho (fun h1=>by omega))).trans (h.same b hb ho)
 sub b hb:=k.sub b (h.sub b hb)
 still b hb:=(k.still b (h.sub b hb)).trans (h.still b hb)
 new b hb:=by
  rcases k.new b hb with h1 | h1 | h1
  ·exact h.new b h1
  ·rcases h.own b h1 with h2 | h2
   ·exact .inr (.inl h2)
   ·exact .inr (.inr h2)
  ·exact .inr (.inr (xg h.size h1))
 own b hb:=by
  rcases k.own b hb with h1 | h1
  ·exact h.own b h1
  ·exact .inr (xg h.size h1)
 old id p hid hp:=k.old id p hid (h.old id p hid hp)
 loops b r hb:=let ⟨r',h1⟩:=h.loops b r hb;k.loops b r' h1
end
section
open Go
section
variable {ae:Nat->Nat} {m:Mp} {S:Nat->Prop} {w:yi}
mutual
def L6:∀v:yh,ah ae m S w (eD v) v
 | .int _ _ | .bool _ | .float _ _=>by simp only [eD,ah]
 | .string s=>by simp only [eD,ah];exact ⟨s,rfl,rfl⟩
 | .pointer none=>by simp only [eD,ah]
 | .pointer (some _)=>by simp only [eD,ah]
 | .slice none 0 0=>by simp only [eD,ah]
 | .slice none 0 (_+1)=>by simp only [eD,ah]
 | .slice none (_+1) _=>by simp only [eD,ah]
 | .slice (some _) _ _=>by simp only [eD,ah]
 | .map none=>by simp only [eD,ah]
 | .map (some _)=>by simp only [eD,ah]
 | .nilFunc=>by simp only [eD,ah]
 | .agg ⟨cs⟩=>by simp only [eD,ah];exact ⟨⟨cs⟩,rfl,Qp cs⟩
 | .tuple ⟨cs⟩=>by simp only [eD,ah];exact ⟨⟨cs⟩,rfl,Qp cs⟩
 | .complex _ _ _ | .chan _ | .func _ _ _ | .iface _ _ | .nilIface=>by simp only [eD,ah]
def Qp:∀l:List yh,av ae m S w (Eb l) l
 | []=>by simp only [Eb,av]
 | v::r=>by simp only [Eb,av];exact ⟨v,r,rfl,L6 v,Qp r⟩
end
end
def fj (O:br) (H:Hint):Prop:=∀f g,H.bU f=some g->O.ae g=f
section
variable {O:br} {H:Hint} {m:Mp} {S:Nat->Prop} {w:yi} {tm:Env} {a:Act}
def ck (hH:fj O H) (ht:bT O m S w tm a.tmps) (x:xy):ah O.ae m S w (az tm (aK H x)) (a.eval x):=by
 cases x with
 | tmp t=>exact ht t
 | const v=>simp only [aK,az,Act.eval];exact L6 v
 | global g=>simp only [aK,az,ah]
 | func f=>
  simp only [aK,Act.eval]
  cases hr:H.bU f with
  | none=>simp only [az,ah]
  | some g=>simp only [az,ah,hH f g hr,av];exact ⟨#[],#[],rfl,rfl,rfl⟩
def Cg (hH:fj O H) (ht:bT O m S w tm a.tmps):∀l:List xy,av O.ae m S w (di tm (gO H l)) (l.map a.eval)
 | []=>by simp only [gO,di,List.map_nil,av]
 | x::r=>by simp only [gO,di,xj,av];exact ⟨_,_,rfl,ck hH ht x,Cg hH ht r⟩
end
section
variable {O:br} {m:Mp} {S:Nat->Prop} {w:yi}
def pK {ae:Nat->Nat}:∀(k:Nat) (cs:List AV) (b o:Nat),bL ae m S w cs b o->bL ae m S w (cs.drop k) b (o+k)
 | 0,cs,b,o,h=>by simpa using h
 | k+1,[],b,o,_=>by simp only [List.drop_nil,bL]
 | k+1,c::cs,b,o,h=>by
  simp only [bL] at h
  have:=pK k cs b (o+1) h.2
  rw [List.drop_succ_cons,show o+(k+1)=o+1+k by omega];exact this
def Af {ae:Nat->Nat}:∀(k:Nat) (cs:List AV) (b o:Nat),bL ae m S w cs b o->bL ae m S w (cs.take k) b o
 | 0,cs,b,o,_=>by simp only [ybD,bL]
 | k+1,[],b,o,_=>by simp only [List.take_nil,bL]
 | k+1,c::cs,b,o,h=>by
  simp only [bL,wc] at h ⊢;exact ⟨h.1,Af k cs b (o+1) h.2⟩
def qI {ae:Nat->Nat}:∀(cs:List AV) (b o:Nat),bL ae m S w cs b o->
  ∃us:List yh,av ae m S w cs us/\us.length=cs.length/\∀j u,us[j]? =some u->w.cell? ⟨b,o+j,none⟩=some u
 | [],b,o,_=>⟨[],by simp only [av],rfl,fun j u h=>by simp at h⟩
 | c::cs,b,o,h=>by
  simp only [bL] at h;obtain ⟨⟨u,h1,h2⟩,h3⟩:=h;obtain ⟨us,h4,h5,h6⟩:=qI cs b (o+1) h3;refine ⟨u::us,by simp only [av];exact ⟨u,us,rfl,h2,h4⟩,by simp [h5],fun j v hv=>?_⟩
  cases j with
  | zero=>simp at hv;subst hv;simpa using h1
  | succ j=>simp at hv;have:=h6 j v hv;rw [show o+(j+1)=o+1+j by omega];exact this
def gM {ae:Nat->Nat}:∀(cs:List AV) (us:List yh),av ae m S w cs us->us.length=cs.length
 | [],us,h=>by simp only [av] at h;subst h;rfl
 | c::cs,us,h=>by
  simp only [av] at h;obtain ⟨u,r,rfl,_,h3⟩:=h;simp [gM cs r h3]
end
end
section
open Go
def nB (b o j:Nat):(⟨b,o,none⟩:uh).add j=⟨b,o+j,none⟩:=by
 unfold Addr.add;split<;>simp_all
section
variable {P:y7} {w:yi}
def ag1 (t:yF) (b o:Nat) (us:List yh) (ha:dO P t=some true) (hz:cz P t=some us.length)
  (h:∀j u,us[j]? =some u->w.cell? ⟨b,o+j,none⟩=some u):(loadVar t ⟨b,o,none⟩).run P w= .ok (.agg us.toArray) w:=by
 have hl:=run_loadCells_list (P:=P) w ⟨b,o,none⟩ us (fun j u hu=>by rw [nB];exact h j u hu)
 unfold cz at hz
 cases hi:P.info? t with
 | none=>simp [hi] at hz
 | some i=>
  simp only [hi,yd] at hz;unfold dO at ha
  cases hu:P.underlying t with
  | none=>simp [hu] at ha
  | some d=>cases d<;>simp_all [loadVar,isAgg,vt,typeInfo,underlying]
def ag2 (t:yF) (b o:Nat) (u:yh) (ha:dO P t=some false)
  (h:w.cell? ⟨b,o,none⟩=some u):(loadVar t ⟨b,o,none⟩).run P w= .ok u w:=by
 unfold dO at ha
 cases hu:P.underlying t with
 | none=>simp [hu] at ha
 | some d=>cases d<;>simp_all [loadVar,isAgg,underlying]
end
section
variable {O:br} {m:Mp} {S:Nat->Prop} {w:yi}
def L7 {t:yF} {sz:Nat} {ag:Bool} {cs:List AV} {b o:Nat} {v:AV} (hz:cz O.P t=some sz) (ha:dO O.P t=some ag)
  (hr:bL O.ae m S w cs b o) (hv:gl sz ag cs=some v):∃u,(loadVar t ⟨b,o,none⟩).run O.P w= .ok u w/\ah O.ae m S w v u:=by
 cases ag with
 | true=>
  simp only [gl,yx] at hv
  cases hle:yG sz cs.length with
  | false=>simp only [hle,yH] at hv;cases hv
  | true=>
   simp only [hle,yx,yd] at hv;subst hv;obtain ⟨us,h1,h2,h3⟩:=qI _ _ _ (Af sz cs b o hr);have hlen:us.length=sz:=by
    rw [h2,yT];have:=yr hle;omega
   refine ⟨.agg us.toArray,ag1 t b o us ha (by rw [hlen];exact hz) h3,?_⟩
   simp only [ah];exact ⟨us.toArray,rfl,by simpa using h1⟩
 | false=>
  simp only [gl,yH] at hv
  cases cs with
  | nil=>simp at hv
  | cons c cs=>
   simp only [yd] at hv;subst hv;simp only [bL] at hr;obtain ⟨⟨u,h1,h2⟩,_⟩:=hr;exact ⟨u,ag2 t b o u ha h1,h2⟩
def ZS {t:yF} {sz o:Nat} {ag:Bool} {cs:List AV} {xs:Array yh} {v:AV} (hz:cz O.P t=some sz) (ha:dO O.P t=some ag)
  (hr:av O.ae m S w cs xs.toList) (hv:gl sz ag (cs.drop o)=some v):∃u,(part t xs o).run O.P w= .ok u w/\ah O.ae m S w v u:=by
 have hd:∀(k:Nat) (cs:List AV) (us:List yh),av O.ae m S w cs us->av O.ae m S w (cs.drop k) (us.drop k):=by
  intro k
  induction k with
  | zero=>intro cs us h;simpa using h
  | succ k ih=>
   intro cs us h
   cases cs with
   | nil=>simp only [av] at h;subst h;simp [av]
   | cons c cs=>simp only [av] at h;obtain ⟨u,r,rfl,_,h3⟩:=h;simpa using ih cs r h3
 have dz:∀(k:Nat) (cs:List AV) (us:List yh),av O.ae m S w cs us->av O.ae m S w (cs.take k) (us.take k):=by
  intro k
  induction k with
  | zero=>intro cs us h;simp [av]
  | succ k ih=>
   intro cs us h
   cases cs with
   | nil=>simp only [av] at h;subst h;simp [av]
   | cons c cs=>simp only [av] at h;obtain ⟨u,r,rfl,h2,h3⟩:=h;simp only [wc,av];exact ⟨u,_,rfl,h2,ih cs r h3⟩
 have acU:(isAgg t).run O.P w= .ok ag w:=by
  unfold dO at ha
  cases hu:O.P.underlying t with
  | none=>simp [hu] at ha
  | some d=>cases d<;>simp_all [isAgg,underlying]
 have eH:(vt t).run O.P w= .ok sz w:=by
  unfold cz at hz
  cases hi:O.P.info? t with
  | none=>simp [hi] at hz
  | some i=>simp_all [vt,typeInfo]
 have bC:=hd o cs xs.toList hr
 cases ag with
 | true=>
  simp only [gl,yx] at hv
  cases hle:yG sz (cs.drop o).length with
  | false=>simp only [hle,yH] at hv;cases hv
  | true=>
   simp only [hle,yx,yd] at hv;subst hv;refine ⟨.agg (xs.extract o (o+sz)),by simp [part,Sem.run_bind,acU,eH],?_⟩;simp only [ah];refine ⟨_,rfl,?_⟩
   have:=dz sz _ _ bC
   rw [show (xs.extract o (o+sz)).toList=(xs.toList.drop o).take sz by simp [Array.toList_extract,yab]];exact this
 | false=>
  simp only [gl,yH] at hv
  cases hc:cs.drop o with
  | nil=>simp [hc] at hv
  | cons c r=>
   simp only [hc,yd] at hv;subst hv;rw [hc] at bC;simp only [av] at bC;obtain ⟨u,us,h1,h2,_⟩:=bC;have hx:xs[o]? =some u:=by
    have:xs.toList[o]? =some u:=by
     have:=congrArg (fun l=>l[0]?) h1
     simpa using this
    simpa using this
   exact ⟨u,by simp [part,Sem.run_bind,acU,hx],h2⟩
end
end
section
open Go
def mb (t:ByteArray):List Nat:=t.data.toList.map xi
def ZT:∀a b:List UInt8,cP (a.map xi) (b.map xi)=(a==b)
 | [],[]=>rfl
 | [],_::_=>rfl
 | _::_,[]=>rfl
 | a::x,b::y=>by
  have h:yt a.toNat b.toNat=(a==b):=by
   rw [uK,ycP,yaR];exact ybm
  simp only [xj,cP,ZT x y,h,List.cons_beq_cons]
def ZU:∀a b:List UInt8,Bl (a.map xi) (b.map xi)=Op.bytesLess a b
 | [],[]=>rfl
 | [],_::_=>rfl
 | _::_,[]=>rfl
 | a::x,b::y=>by
  have h:yt a.toNat b.toNat=(a==b):=by
   rw [uK,ycP,yaR];exact ybm
  have h2:yK a.toNat b.toNat=decide (a<b):=by
   rw [uK];simp only [yK,ycQ,uV,UInt8.lt_iff_toNat_lt];omega
  simp only [xj,Bl,Op.bytesLess,ZU x y,h,h2]
def XP (s t:ByteArray):cP (mb s) (mb t)=(s.toList==t.toList):=by
 rw [mb,mb,ZT,ByteArray.toList_eq,ByteArray.toList_eq]
def aiz (s t:ByteArray):Bl (mb s) (mb t)=Op.bytesLess s.toList t.toList:=by
 rw [mb,mb,ZU,ByteArray.toList_eq,ByteArray.toList_eq]
def XQ (s:ByteArray):(mb s).length=s.size:=by
 rw [mb,List.length_map,Lib.size_eq]
section
variable {ae:Nat->Nat} {P:y7} {m:Mp} {S:Nat->Prop} {w:yi} {t:yF}
def aks {op:wX} {k:y8} {x y:Int} {v:AV} (h:lA op k x y=some v):
  ∃u,(xT op t (.int k x) (.int k y)).run P w= .ok u w/\ah ae m S w v u:=by
 cases op<;>simp only [lA,intCmp,yd] at h
 case add=>subst h;exact ⟨_,by simp [xT,Op.intArith];rfl,by simp [ah]⟩
 case sub=>subst h;exact ⟨_,by simp [xT,Op.intArith];rfl,by simp [ah]⟩
 case mul=>subst h;exact ⟨_,by simp [xT,Op.intArith];rfl,by simp [ah]⟩
 case quo=>
  by_cases hy:y=0
  ·simp [hy] at h
  ·simp only [hy,xk,yd] at h;subst h;exact ⟨_,by simp [xT,Op.intDiv,hy];rfl,by simp [ah]⟩
 case rem=>
  by_cases hy:y=0
  ·simp [hy] at h
  ·simp only [hy,xk,yd] at h;subst h;exact ⟨_,by simp [xT,Op.intDiv,hy];rfl,by simp [ah]⟩
 case and=>subst h;exact ⟨_,by simp [xT,Op.intBits];rfl,by simp [ah]⟩
 case or=>subst h;exact ⟨_,by simp [xT,Op.intBits];rfl,by simp [ah]⟩
 case xor=>subst h;exact ⟨_,by simp [xT,Op.intBits];rfl,by simp [ah]⟩
 case andNot=>subst h;exact ⟨_,by simp [xT,Op.intBits];rfl,by simp [ah]⟩
 case shl=>cases h
 case shr=>cases h
 all_goals
  subst h;exact ⟨_,by simp [xT,Op.intCmp];rfl,by simp [ah]⟩
def W8 {op:wX} {k k':y8} {x y:Int} {v:AV} (h:B6 op k x y=some v):
  ∃u,(xT op t (.int k x) (.int k' y)).run P w= .ok u w/\ah ae m S w v u:=by
 unfold B6 at h;by_cases hy:y<0
 ·simp [hy] at h
 ·simp only [hy,xk] at h;cases op<;>simp only [yd] at h
  case shl=>subst h;exact ⟨_,by simp [xT,Op.shift,hy];rfl,by simp [ah]⟩
  case shr=>subst h;exact ⟨_,by simp [xT,Op.shift,hy];rfl,by simp [ah]⟩
  all_goals cases h
def akt {op:wX} {x y:ByteArray} {v:AV} (h:IB op (mb x) (mb y)=some v):
  ∃u,(xT op t (.string x) (.string y)).run P w= .ok u w/\ah ae m S w v u:=by
 cases op<;>simp only [IB,XP,aiz,XQ,yd] at h
 case add=>
  cases hle:yG (x.size+y.size) 9223372036854775807 with
  | false=>rw [hle] at h;cases h
  | true=>
   rw [hle] at h;simp only [yx,yd] at h;subst h;have azL:=yr hle;have zj:¬(((x.size+y.size:Nat):Int)>IntKind.i64.max):=by
    have:IntKind.i64.max=9223372036854775807:=by decide
    rw [this];omega
   refine ⟨.string (x++y),?_,?_⟩
   ·simp only [xT,Op.stringOp,yB zj,Sem.run_pure]
   ·simp only [ah];exact ⟨x++y,rfl,by simp [mb]⟩
 all_goals first
  | (cases h;done)
  | (subst h;exact ⟨_,by simp [xT,Op.stringOp];rfl,by simp [ah]⟩)
def aku {op:wX} {k:vZ} {x y:Nat} {v:AV} (h:R6 op k x y=some v):
  ∃u,(xT op t (.float k x) (.float k y)).run P w= .ok u w/\ah ae m S w v u:=by
 cases op<;>simp only [R6,yd] at h
 case add=>
  cases hr:k.format.add x y with
  | none=>simp [hr] at h
  | some r=>simp only [hr,yd] at h;subst h;exact ⟨.float k r,by simp [xT,Op.floatArith,hr],by simp [ah]⟩
 case sub=>
  cases hr:k.format.sub x y with
  | none=>simp [hr] at h
  | some r=>simp only [hr,yd] at h;subst h;exact ⟨.float k r,by simp [xT,Op.floatArith,hr],by simp [ah]⟩
 case mul=>
  cases hr:k.format.mul x y with
  | none=>simp [hr] at h
  | some r=>simp only [hr,yd] at h;subst h;exact ⟨.float k r,by simp [xT,Op.floatArith,hr],by simp [ah]⟩
 case quo=>
  cases hr:k.format.div x y with
  | none=>simp [hr] at h
  | some r=>simp only [hr,yd] at h;subst h;exact ⟨.float k r,by simp [xT,Op.floatArith,hr],by simp [ah]⟩
 all_goals first
  | (cases h;done)
  | (subst h;exact ⟨_,by simp [xT,Op.floatCmp];rfl,by simp [ah]⟩)
def akv {op:wX} {vx vy v:AV} {x y:yh} (hx:ah ae m S w vx x) (hy:ah ae m S w vy y) (h:VE.binOp op vx vy=some v):
  ∃u,(xT op t x y).run P w= .ok u w/\ah ae m S w v u:=by
 unfold VE.binOp at h
 split at h
 ·rename_i k a k' b;simp only [ah] at hx hy;subst hx;subst hy
  split at h
  ·exact W8 h
  ·exact W8 h
  ·by_cases hk:k=k'
   ·subst hk;simp only [xB] at h;exact aks h
   ·simp [hk] at h
 ·rename_i k a k' b;simp only [ah] at hx hy;subst hx;subst hy;by_cases hk:k=k'
  ·subst hk;simp only [xB] at h;exact aku h
  ·simp [hk] at h
 ·rename_i a b;simp only [ah] at hx hy;obtain ⟨s,rfl,rfl⟩:=hx;obtain ⟨s',rfl,rfl⟩:=hy;exact akt h
 ·cases h
end
end
section
open Go
section
variable {ae:Nat->Nat} {P:y7} {m:Mp} {S:Nat->Prop} {w:yi} {t:yF}
def ahA {op:wX} {x y:xy} {a b:yh} (h:P.eqGuardType P.depth t=false\/∀xs ys,¬(a= .agg xs/\b= .agg ys)) (hn:a≠.nilIface):
  (eqGuard op t x y a b).run P w= .ok () w:=by
 unfold eqGuard;cases op
 all_goals first
  | rfl
  | (
    cases a
    all_goals first
     | rfl
     | exact absurd rfl hn
     | (
      cases b
      all_goals first
       | rfl
       | (
         rcases h with h | h
         ·simp [h]
         ·exact absurd ⟨rfl,rfl⟩ (h _ _))))
def apk {d:Nat} {p q:Bool} (ht:P.underlying t=some .bool):(Op.equalIn (d+1) t (.bool p) (.bool q)).run P w= .ok (p==q) w:=by
 simp [Op.equalIn,underlying,ht]
def R8 {d:Nat} {e:yF} (ht:P.underlying t=some (.slice e)) (y:Option uh) (n c n' c':Nat):
  (Op.equalIn (d+1) t (.slice none n c) (.slice y n' c')).run P w= .ok y.isNone w:=by simp [Op.equalIn,underlying,ht]
def abv {d:Nat} {e:yF} (ht:P.underlying t=some (.slice e)) (x:uh) (n c n' c':Nat):
  (Op.equalIn (d+1) t (.slice (some x) n c) (.slice none n' c')).run P w= .ok false w:=by simp [Op.equalIn,underlying,ht]
def asn {d:Nat} {ps rs:Array yF} {vr:Bool} (ht:P.underlying t=some (.func ps rs vr)):
  (Op.equalIn (d+1) t .nilFunc .nilFunc).run P w= .ok true w:=by simp [Op.equalIn,underlying,ht]
def abw {d:Nat} {ps rs:Array yF} {vr:Bool} (ht:P.underlying t=some (.func ps rs vr)) (f:Go.Fn) (a b:Array yh):
  (Op.equalIn (d+1) t .nilFunc (.func f a b)).run P w= .ok false w:=by simp [Op.equalIn,underlying,ht]
def abx {d:Nat} {ps rs:Array yF} {vr:Bool} (ht:P.underlying t=some (.func ps rs vr)) (f:Go.Fn) (a b:Array yh):
  (Op.equalIn (d+1) t (.func f a b) .nilFunc).run P w= .ok false w:=by simp [Op.equalIn,underlying,ht]
def LJ (x y:yh):Op.equal t x y=Op.equalIn (9999+1) t x y:=rfl
def am4 {vx vy:AV} {x y:yh} {r:Bool} {e:yF} (ht:P.underlying t=some (.slice e)) (hx:ah ae m S w vx x) (hy:ah ae m S w vy y)
  (h:jS .sl vx vy=some r):(Op.equal t x y).run P w= .ok r w:=by
 rw [LJ];unfold jS at h
 split at h<;>simp_all only [yd,reduceCtorEq]
 all_goals subst h
 all_goals simp only [ah] at hx hy
 ·subst hx;subst hy;exact R8 ht _ _ _ _ _
 ·rcases hy with ⟨b,o,c,rfl,_⟩ | ⟨_,rfl,_⟩<;>(subst hx;exact R8 ht _ _ _ _ _)
 ·obtain ⟨p,c,_,rfl,_⟩:=hy;subst hx;exact R8 ht _ _ _ _ _
 ·rcases hx with ⟨b,o,c,rfl,_⟩ | ⟨_,rfl,_⟩<;>(subst hy;exact abv ht _ _ _ _ _)
 ·obtain ⟨p,c,_,rfl,_⟩:=hx;subst hy;exact abv ht _ _ _ _ _
def am5 {vx vy:AV} {x y:yh} {r:Bool} {ps rs:Array yF} {vr:Bool} (ht:P.underlying t=some (.func ps rs vr)) (hx:ah ae m S w vx x) (hy:ah ae m S w vy y)
  (h:jS .fn vx vy=some r):(Op.equal t x y).run P w= .ok r w:=by
 rw [LJ];unfold jS at h
 split at h<;>simp_all only [yd,reduceCtorEq]
 all_goals subst h
 ·simp only [ah] at hx hy;subst hx;subst hy;exact asn ht
 ·rename_i f _ _
  cases f with
  | f g=>simp only [ah] at hx hy;obtain ⟨fi,ca,rfl,_⟩:=hy;subst hx;exact abw ht _ _ _
  | y l=>simp only [ah] at hx hy;obtain ⟨p,_,rfl⟩:=hy;subst hx;exact abw ht _ _ _
 ·rename_i f _ _
  cases f with
  | f g=>simp only [ah] at hx hy;obtain ⟨fi,ca,rfl,_⟩:=hx;subst hy;exact abx ht _ _ _
  | y l=>simp only [ah] at hx hy;obtain ⟨p,_,rfl⟩:=hx;subst hy;exact abx ht _ _ _
def am6 {op:ycE} {vx v:AV} {x:yh} (hx:ah ae m S w vx x) (h:VE.unOp op vx=some v):∃u,(Op.unary op x).run P w= .ok u w/\ah ae m S w v u:=by
 unfold VE.unOp at h
 split at h
 ·rename_i k n;simp only [ah] at hx;subst hx;simp only [yd] at h;subst h;exact ⟨_,by simp [Op.unary,Op.intArith];rfl,by simp [ah]⟩
 ·rename_i k n;simp only [ah] at hx;subst hx;simp only [lA,yd] at h;subst h;exact ⟨_,by simp [Op.unary,Op.intBits];rfl,by simp [ah]⟩
 ·rename_i b;simp only [ah] at hx;subst hx;simp only [yd] at h;subst h;exact ⟨_,by simp [Op.unary];rfl,by simp [ah]⟩
 ·rename_i k b;simp only [ah] at hx;subst hx;simp only [yd] at h;subst h;exact ⟨_,by simp [Op.unary,Op.negFloat];rfl,by simp [ah]⟩
 ·cases h
def YO {s d:yF} {k:y8} {vx v:AV} {x:yh} (hd:P.underlying d=some (.int k)) (hs:(∃k',P.underlying s=some (.int k'))\/∃k',P.underlying s=some (.float k'))
  (hx:ah ae m S w vx x) (h:iG (.toInt k) vx=some v):∃u,(convert s d x).run P w= .ok u w/\ah ae m S w v u:=by
 cases vx<;>simp only [iG,reduceCtorEq] at h
 case int k0 n=>
  simp only [ah] at hx;subst hx;simp only [yd] at h;subst h;refine ⟨.int k (k.wrap n),?_,by simp [ah]⟩;rcases hs with ⟨k',h'⟩ | ⟨k',h'⟩<;>simp [convert,underlying,Conv.intToInt,hd,h']
 case aB sk b=>
  simp only [ah] at hx;subst hx
  cases hi:(sk.decode b).toInt .zero with
  | none=>simp [hi] at h
  | some n=>
   simp only [hi] at h;by_cases hr:k.min<=n/\n<=k.max
   ·simp only [hr,and_self,xB,yd] at h;subst h;refine ⟨.int k n,?_,by simp [ah]⟩;rcases hs with ⟨k',h'⟩ | ⟨k',h'⟩<;>simp [convert,underlying,Conv.floatToInt,hd,h',hi,hr]
   ·simp [hr] at h
def YP {s d:yF} {k:vZ} {vx v:AV} {x:yh} (hd:P.underlying d=some (.float k)) (hs:(∃k',P.underlying s=some (.int k'))\/∃k',P.underlying s=some (.float k'))
  (hx:ah ae m S w vx x) (h:iG (.toFlt k) vx=some v):∃u,(convert s d x).run P w= .ok u w/\ah ae m S w v u:=by
 cases vx<;>simp only [iG,reduceCtorEq] at h
 case int k0 n=>
  simp only [ah] at hx;subst hx;simp only [yd] at h;subst h;refine ⟨.float k (k.nearest n),?_,by simp [ah]⟩;rcases hs with ⟨k',h'⟩ | ⟨k',h'⟩<;>simp [convert,underlying,Conv.intToFloat,hd,h']
 case aB sk b=>
  simp only [ah] at hx;subst hx;by_cases he:sk=k
  ·subst he;simp only [xB,yd] at h;subst h;refine ⟨.float sk b,?_,by simp [ah]⟩;rcases hs with ⟨k',h'⟩ | ⟨k',h'⟩<;>simp [convert,underlying,Conv.floatToFloat,hd,h']
  ·simp only [he,xk] at h
   cases Na:sk.decode b with
   | nan _ _=>simp [Na] at h
   | infinity _=>simp [Na] at h
   | number sg mm ee=>
    simp only [Na] at h
    cases SH:(k.decode (k.encode (.number sg mm ee))).isInfinity with
    | true=>simp [SH] at h
    | false=>
     simp only [SH,yD,xk,yd] at h;subst h;refine ⟨.float k (k.encode (.number sg mm ee)),?_,by simp [ah]⟩;rcases hs with ⟨k',h'⟩ | ⟨k',h'⟩<;>simp [convert,underlying,Conv.floatToFloat,hd,h',he,Na,SH]
def akw {s d:yF} {vx v:AV} {x:yh} (hd:P.underlying d=some .string) (hs:P.underlying s=some .string)
  (hx:ah ae m S w vx x) (h:iG .str vx=some v):∃u,(convert s d x).run P w= .ok u w/\ah ae m S w v u:=by
 cases vx<;>simp only [iG,reduceCtorEq] at h
 simp only [yd] at h;subst h;simp only [ah] at hx;obtain ⟨b,rfl,hb⟩:=hx;exact ⟨.string b,by simp [convert,underlying,hs,hd],by simp only [ah];exact ⟨b,rfl,hb⟩⟩
end
end
section
open Go
def aiA {v:AV} {k:Nat} (h:dI v=some k):∃kd,v= .int kd (k:Int):=by
 cases v<;>simp only [dI,reduceCtorEq] at h
 rename_i kd n
 cases n with
 | ofNat j=>simp only [yd] at h;subst h;exact ⟨kd,rfl⟩
 | negSucc j=>cases h
section
variable {O:br} {H:Hint} {m:Mp} {S:Nat->Prop} {w:yi} {tm:Env} {a:Act}
def sQ {ae:Nat->Nat} {v:AV} {x:yh} {k:Nat} (hx:ah ae m S w v x) (h:dI v=some k):∃kd,x= .int kd (k:Int):=by
 obtain ⟨kd,rfl⟩:=aiA h;simp only [ah] at hx
 grind
def run_sliceBound {P:y7} {kd:y8} {k y:Nat} {code:BoundsCode} (h:k<=y):(Instr.sliceBound (.int kd (k:Int)) y code).run P w= .ok k w:=by
 have:(0:Int)<=(k:Int)/\(k:Int)<=(y:Int):=by omega
 simp [Instr.sliceBound,asIntOf,this]
def XR {P:y7} {isSlice:Bool} {len cap l h:Nat} {lo hi:Option xy} (hH:fj O H) (ht:bT O m S w tm a.tmps)
  (hl:cC tm 0 (lo.map (aK H))=some l) (hh:cC tm len (hi.map (aK H))=some h) (h1:l<=h) (h2:h<=cap):
  (Instr.sliceBounds isSlice len cap (lo.map a.eval) (hi.map a.eval) none).run P w= .ok (l,h,cap) w:=by
 cases lo with
 | none=>
  simp only [vU,cC,yd] at hl;subst hl
  cases hi with
  | none=>
   simp only [vU,cC,yd] at hh;subst hh;simp [Instr.sliceBounds]
  | some y=>
   obtain ⟨kd,e⟩:=sQ (ck hH ht y) hh;simp only [Instr.sliceBounds,vU,wI,e,Sem.run_bind,Sem.run_pure,Result.andThen_ok,run_sliceBound h2]
 | some x=>
  obtain ⟨kd,e⟩:=sQ (ck hH ht x) hl
  cases hi with
  | none=>
   simp only [vU,cC,yd] at hh;subst hh;simp only [Instr.sliceBounds,vU,wI,e,Sem.run_bind,Sem.run_pure,Result.andThen_ok,run_sliceBound h1]
  | some y=>
   obtain ⟨Uy,e'⟩:=sQ (ck hH ht y) hh;simp only [Instr.sliceBounds,wI,e,e',Sem.run_bind,Sem.run_pure,Result.andThen_ok,run_sliceBound h2,run_sliceBound h1]
def aiB {t:yF} {lo hi:Option xy} {vx v:AV} {x:yh} (hH:fj O H) (ht:bT O m S w tm a.tmps) (hu:O.P.underlying t=some .string)
  (hx:ah O.ae m S w vx x) {hp:Hp} (h:fB hp .str vx tm (lo.map (aK H)) (hi.map (aK H))=some v):
  ∃u,(Instr.sliceAt t x (lo.map a.eval) (hi.map a.eval) none).run O.P w= .ok u w/\ah O.ae m S w v u:=by
 cases vx<;>simp only [fB,reduceCtorEq] at h
 obtain ⟨b,rfl,rfl⟩:=hx
 cases hl:cC tm 0 (lo.map (aK H)) with
 | none=>simp [hl] at h
 | some l=>
  simp only [hl] at h
  cases hh:cC tm (b.data.toList.map xi).length (hi.map (aK H)) with
  | none=>rw [hh] at h;cases h
  | some g=>
   rw [hh] at h;simp only at h
   cases hc:(yG l g&&yG g (b.data.toList.map xi).length) with
   | false=>rw [hc] at h;cases h
   | true=>
    rw [hc] at h;simp only [yx,yd] at h;subst h;simp only [yg] at hc;have h1:=yr hc.1;have h2:=yr hc.2;have hlen:(b.data.toList.map xi).length=b.size:=XQ b;rw [hlen] at hh h2;refine ⟨.string (b.extract l g),?_,?_⟩
    ·simp only [Instr.sliceAt,Sem.run_bind,run_underlying hu,Result.andThen_ok,Instr.slice,tk,yD,xk,Sem.run_pure,
      XR (P:=O.P) (isSlice:=false) (len:=b.size) (cap:=b.size) hH ht hl hh h1 h2]
    ·simp only [ah];refine ⟨_,rfl,?_⟩;rw [Lib.extract_data,List.map_take,List.map_drop,List.drop_take]
def akx {t e:yF} {sz:Nat} {lo hi:Option xy} {vx v:AV} {x:yh} (hH:fj O H) (ht:bT O m S w tm a.tmps) (hu:O.P.underlying t=some (.slice e)) (hz:cz O.P e=some sz)
  {hp:Hp} {ct:Nat} (hh:aR O m S w hp ct)
  (hx:ah O.ae m S w vx x) (h:fB hp (.sl sz) vx tm (lo.map (aK H)) (hi.map (aK H))=some v):
  ∃u,(Instr.sliceAt t x (lo.map a.eval) (hi.map a.eval) none).run O.P w= .ok u w/\ah O.ae m S w v u:=by
 have eH:(vt e).run O.P w= .ok sz w:=by
  unfold cz at hz
  cases hi:O.P.info? e with
  | none=>simp [hi] at hz
  | some i=>simp_all [vt,typeInfo]
 have HU:∀(ad:Option uh) (n c l g:Nat),cC tm 0 (lo.map (aK H))=some l->cC tm n (hi.map (aK H))=some g->l<=g->g<=c->
   (Instr.sliceAt t (.slice ad n c) (lo.map a.eval) (hi.map a.eval) none).run O.P w= .ok (.slice (if c=l then ad else ad.map (·.add (l*sz))) (g-l) (c-l)) w:=by
  intro ad n c l g hl hg h1 h2
  simp only [Instr.sliceAt,Sem.run_bind,run_underlying hu,Result.andThen_ok,Instr.slice,Sem.run_pure,eH,
   XR (P:=O.P) (isSlice:=true) (len:=n) (cap:=c) hH ht hl hg h1 h2]
 cases vx<;>simp only [fB,reduceCtorEq] at h
 case af=>
  simp only [ah] at hx;subst hx
  cases hl:cC tm 0 (lo.map (aK H)) with
  | none=>simp [hl] at h
  | some l=>
   cases l with
   | succ l=>simp [hl] at h
   | zero=>
    simp only [hl] at h
    cases hh:cC tm 0 (hi.map (aK H)) with
    | none=>simp [hh] at h
    | some g=>
     cases g with
     | succ g=>simp [hh] at h
     | zero=>
      simp only [hh,yd] at h;subst h;exact ⟨_,HU none 0 0 0 0 hl hh (yz _) (yz _),by simp [ah]⟩
 case aC ex n cs=>
  simp only [ah] at hx;rcases hx with ⟨b,o,c,rfl,JZ,hex,hS,iN,Dd⟩ | ⟨ad,rfl,rfl,rfl⟩
  case inr=>
   cases hl:cC tm 0 (lo.map (aK H)) with
   | none=>simp [hl] at h
   | some l=>
    simp only [hl] at h
    cases hh:cC tm 0 (hi.map (aK H)) with
    | none=>simp [hh] at h
    | some g=>
     simp only [hh] at h
     cases hc:(yG l g&&yG g 0) with
     | false=>rw [hc] at h;cases h
     | true=>
      rw [hc] at h;simp only [yx,yd] at h;subst h;simp only [yg] at hc;have h1:=yr hc.1;have h2:=yr hc.2;have hg:g=0:=by omega
      subst hg;have iO:l=0:=by omega
      subst iO;refine ⟨_,HU (some ad) 0 0 0 0 hl hh h1 h2,?_⟩;simp only [ah];exact .inr ⟨ad,by simp,by simp,by simp [slice]⟩
  cases hl:cC tm 0 (lo.map (aK H)) with
  | none=>simp [hl] at h
  | some l=>
   simp only [hl] at h
   cases hh:cC tm n (hi.map (aK H)) with
   | none=>simp [hh] at h
   | some g=>
    simp only [hh] at h
    cases hc:(yG l g&&yG g n) with
    | false=>rw [hc] at h;cases h
    | true=>
     rw [hc] at h;simp only [yx,yd] at h;subst h;simp only [yg] at hc;have h1:=yr hc.1;have h2:=yr hc.2;refine ⟨_,HU (some ⟨b,o,none⟩) n c l g hl hh h1 (by omega),?_⟩;have Cz:aF (slice (l*sz) ((g-l)*sz) cs)=true:=by
      have pd:∀(k:Nat) (cs:List AV),aF cs=true->aF (cs.drop k)=true:=by
       intro k
       induction k with
       | zero=>intro cs h;simpa using h
       | succ k ih=>intro cs h;cases cs with
        | nil=>simpa using h
        | cons c cs=>simp only [aF,yg] at h;simpa using ih cs h.2
      have pt:∀(k:Nat) (cs:List AV),aF cs=true->aF (cs.take k)=true:=by
       intro k
       induction k with
       | zero=>intro cs h;simp [aF]
       | succ k ih=>intro cs h;cases cs with
        | nil=>simp [aF]
        | cons c cs=>simp only [aF,yg,wc] at h ⊢;exact ⟨h.1,ih cs h.2⟩
      exact pt _ _ (pd _ _ iN)
     have acV:(ex&&yt g n)=true->c-l=g-l:=by
      intro hq;simp only [yg] at hq
      have:=hex hq.1
      have:=yk hq.2
      omega
     simp only [ah];by_cases eZ:c=l
     ·have h0:g-l=0:=by omega
      have kE:slice (l*sz) ((g-l)*sz) cs=[]:=by simp [slice,h0]
      rw [kE];exact .inl ⟨b,o,c-l,by simp [eZ],by omega,acV,.inl rfl,rfl,by simp [bL]⟩
     ·refine .inl ⟨b,o+l*sz,c-l,by simp [eZ,nB],by omega,acV,?_,Cz,?_⟩
      ·rcases hS with rfl | hS
       ·exact .inl (by simp [slice])
       ·exact .inr hS
      ·exact Af _ _ _ _ (pK _ _ _ _ Dd)
 case ay id o n=>
  simp only [ah] at hx;obtain ⟨p,c,hm,rfl,JZ,Oy⟩:=hx
  split at h
  case h_2=>cases h
  rename_i Uz pu0 rQ z0 cs0 CA;obtain ⟨p',arr,t',gm,_,eN,_⟩:=hh.obj id _ _ CA hm;rw [hm] at gm;injection gm with gm
  subst gm
  cases hl:cC tm 0 (lo.map (aK H)) with
  | none=>simp [hl] at h
  | some l=>
   simp only [hl] at h
   cases hh:cC tm n (hi.map (aK H)) with
   | none=>simp [hh] at h
   | some g=>
    simp only [hh] at h
    cases hc:(yG l g&&yG g n&&yt z0 sz) with
    | false=>rw [hc] at h;cases h
    | true=>
     rw [hc] at h;simp only [yx] at h;simp only [yg] at hc;have h1:=yr hc.1.1;have h2:=yr hc.1.2;have hpz:p.z=sz:=eN.trans (yk hc.2)
     cases he:(yt l g&& !yt l 0) with
     | true=>
      rw [he] at h;simp only [yx,yd] at h;subst h;simp only [yg] at he;have Bq:=yk he.1;refine ⟨_,HU (some ⟨p.b,p.o+o,none⟩) n c l g hl hh h1 (by omega),?_⟩;simp only [ah];by_cases eZ:c=l
      ·exact .inl ⟨p.b,p.o+o,c-l,by simp [eZ];omega,by omega,by simp,by simp,by simp [aF],by simp [bL]⟩
      ·exact .inl ⟨p.b,p.o+o+l*sz,c-l,by simp [eZ,nB];omega,by omega,by simp,by simp,by simp [aF],by simp [bL]⟩
     | false=>
      rw [he] at h;simp only [yH,yd] at h;subst h;have eZ:c=l->l=0:=by
       intro eZ;have Bq:l=g:=by omega
       cases iO:yt l 0 with
       | true=>exact yk iO
       | false=>rw [Bq,xG,<-Bq,iO] at he;cases he
      refine ⟨_,HU (some ⟨p.b,p.o+o,none⟩) n c l g hl hh h1 (by omega),?_⟩;simp only [ah];refine ⟨p,c-l,hm,?_,by omega,?_⟩
      ·by_cases SI:c=l
       ·have:=eZ SI;subst this;subst SI;simp
       ·simp [SI,nB,uG]
      ·rw [hpz] at Oy ⊢
       have:c*sz=l*sz+(c-l)*sz:=by rw [<-we];congr 1;omega
       omega
end
end
section
open Go
def nl {P:y7} {w:yi} {t:yF} {sz:Nat} (hz:cz P t=some sz):(vt t).run P w= .ok sz w:=by
 unfold cz at hz
 cases hi:P.info? t with
 | none=>simp [hi] at hz
 | some i=>simp_all [vt,typeInfo]
section
variable {O:br} {H:Hint} {m:Mp} {S:Nat->Prop} {w:yi} {tm:Env} {a:Act} {hp:Hp} {ct:Nat}
def Qq {id o n:Nat} {rw pu ex:Bool} {sz:Nat} {cs:List AV} {p:Pl} (hh:aR O m S w hp ct) (hg:an hp id=some (.cells rw pu ex sz cs)) (hm:m id=some p):
  bL O.ae m S w cs p.b p.o:=by
 obtain ⟨p',arr,t',gm,_,_,_,_,_,hr,_⟩:=hh.obj id _ _ hg hm
 grind
def aso {t:yF} {sz:Nat} {ag:Bool} {vx v:AV} {x:yh} (hh:aR O m S w hp ct) (hz:cz O.P t=some sz) (ha:dO O.P t=some ag) (hx:ah O.ae m S w vx x)
  (h:jb hp sz ag vx=some v):∃u,(Instr.loadAt t x).run O.P w= .ok u w/\ah O.ae m S w v u:=by
 cases vx<;>simp only [jb,reduceCtorEq] at h
 case ptr id o=>
  obtain ⟨p,hm,rfl⟩:=hx
  split at h
  case h_2=>cases h
  rename_i Uz pu0 rQ z0 cs0 CA;have hr:=Qq (id:=id) (o:=0) (n:=0) hh CA hm;obtain ⟨u,h1,h2⟩:=L7 hz ha (pK o cs0 p.b p.o hr) h;exact ⟨u,by simp only [Instr.loadAt,Instr.sureAddr,Sem.run_bind,Sem.run_pure,Result.andThen_ok];exact h1,h2⟩
 case aJ cs=>
  obtain ⟨b,o,rfl,_,_,hr⟩:=hx;obtain ⟨u,h1,h2⟩:=L7 hz ha hr h;exact ⟨u,by simp only [Instr.loadAt,Instr.sureAddr,Sem.run_bind,Sem.run_pure,Result.andThen_ok];exact h1,h2⟩
def sH:∀(k:Nat) (cs:List AV),aF cs=true->aF (cs.drop k)=true
 | 0,cs,h=>by simpa using h
 | k+1,[],h=>by simpa using h
 | k+1,c::cs,h=>by simp only [aF,yg] at h;simpa using sH k cs h.2
def P4 {cs:List AV} {b o k:Nat} (h2:cs=[]\/S b) (h3:aF cs=true) (h4:bL O.ae m S w cs b o):ah O.ae m S w (.aJ (cs.drop k)) (.pointer (some ⟨b,o+k,none⟩)):=by
 refine ⟨b,o+k,rfl,?_,sH k cs h3,pK k cs b o h4⟩
 grind
def apl {t:yF} {fs:Array uZ} {i:Nat} {f:uZ} {sz:Nat} {vx v:AV} {x:yh} (hu:O.P.underlying t=some (.struct fs)) (hf:fs[i]? =some f) (hz:cz O.P f.type=some (sz+1))
  (hx:ah O.ae m S w vx x)
  (h:IC f.offset vx=some v):∃u,(Instr.fieldAt t x i).run O.P w= .ok u w/\ah O.ae m S w v u:=by
 have aby:∀(b o:Nat),(Instr.fieldAt t (.pointer (some ⟨b,o,none⟩)) i).run O.P w= .ok (.pointer (some ⟨b,o+f.offset,none⟩)) w:=by
  intro b o;simp only [Instr.fieldAt,Sem.run_bind,run_underlying hu,Result.andThen_ok,hf,Instr.sureAddr,Sem.run_pure,fieldPlace,nl hz,Nat.succ_ne_zero,xk,nB]
 cases vx<;>simp only [IC,reduceCtorEq] at h
 case ptr id o=>
  obtain ⟨p,hm,rfl⟩:=hx;simp only [yd] at h;subst h;exact ⟨_,aby _ _,by simp only [ah];exact ⟨p,hm,by rw [uG]⟩⟩
 case aJ cs=>
  obtain ⟨b,o,rfl,h2,h3,h4⟩:=hx
  cases hc:yG f.offset cs.length with
  | false=>rw [hc] at h;cases h
  | true=>
   rw [hc] at h;simp only [yx,yd] at h;subst h;exact ⟨_,aby _ _,P4 h2 h3 h4⟩
def apm {t:yF} {fs:Array uZ} {i:Nat} {f:uZ} {sz:Nat} {ag:Bool} {vx v:AV} {x:yh} (hu:O.P.underlying t=some (.struct fs)) (hf:fs[i]? =some f)
  (hz:cz O.P f.type=some sz) (ha:dO O.P f.type=some ag) (hx:ah O.ae m S w vx x)
  (h:MI f.offset sz ag vx=some v):∃u,(Instr.field t x i).run O.P w= .ok u w/\ah O.ae m S w v u:=by
 cases vx<;>simp only [MI,reduceCtorEq] at h
 obtain ⟨xs,rfl,hr⟩:=hx;obtain ⟨u,h1,h2⟩:=ZS hz ha hr h;exact ⟨u,by simp only [Instr.field,Sem.run_bind,run_underlying hu,Result.andThen_ok,hf,asAgg,Sem.run_pure];exact h1,h2⟩
def apo {t e:yF} {sz k:Nat} {vx vi v:AV} {x i:yh} (hu:O.P.underlying t=some (.slice e)) (hz:cz O.P e=some sz) (hx:ah O.ae m S w vx x) (hi:ah O.ae m S w vi i)
  (hk:dI vi=some k)
  (h:ju sz k vx=some v):∃u,(Instr.indexAt t x i).run O.P w= .ok u w/\ah O.ae m S w v u:=by
 obtain ⟨kd,rfl⟩:=sQ hi hk;have IK:∀(b o n c:Nat),k<n->(Instr.indexAt t (.slice (some ⟨b,o,none⟩) n c) (.int kd (k:Int))).run O.P w= .ok (.pointer (some ⟨b,o+k*sz,none⟩)) w:=by
  intro b o n c rR;have hr:(0:Int)<=(k:Int)/\(k:Int)<(n:Int):=by omega
  simp [Instr.indexAt,asIntOf,run_underlying hu,nl hz,hr,nB]
  grind
 cases vx<;>simp only [ju,reduceCtorEq] at h
 case ay id o n=>
  obtain ⟨p,c,hm,rfl,JZ,Oy⟩:=hx
  cases hc:yK k n with
  | false=>rw [hc] at h;cases h
  | true=>
   rw [hc] at h;simp only [yx,yd] at h;subst h;have rR:k<n:=by simp_all
   exact ⟨_,IK _ _ _ _ rR,by simp only [ah];exact ⟨p,hm,by rw [uG]⟩⟩
 case aC ex n cs=>
  rcases hx with ⟨b,o,c,rfl,JZ,hex,h2,h3,h4⟩ | ⟨a,rfl,rfl,rfl⟩
  case inr=>
   have:yK k 0=false:=by cases hq:yK k 0 with | false=>rfl | true=>simp only [yK,ycQ] at hq;omega
   grind
  cases hc:yK k n with
  | false=>rw [hc] at h;cases h
  | true=>
   rw [hc] at h;simp only [yx,yd] at h;subst h;have rR:k<n:=by simp_all
   exact ⟨_,IK _ _ _ _ rR,P4 h2 h3 h4⟩
def apq {t e:yF} {len sz k:Nat} {vx vi v:AV} {x i:yh} (hu:O.P.underlying t=some (.array len e)) (hz:cz O.P e=some sz) (hx:ah O.ae m S w vx x) (hi:ah O.ae m S w vi i)
  (hk:dI vi=some k)
  (h:ID len sz k vx=some v):∃u,(Instr.indexAt t x i).run O.P w= .ok u w/\ah O.ae m S w v u:=by
 obtain ⟨kd,rfl⟩:=sQ hi hk;have IK:∀(b o:Nat),k<len->(Instr.indexAt t (.pointer (some ⟨b,o,none⟩)) (.int kd (k:Int))).run O.P w= .ok (.pointer (some ⟨b,o+k*sz,none⟩)) w:=by
  intro b o rR;have hr:(0:Int)<=(k:Int)/\(k:Int)<(len:Int):=by omega
  simp [Instr.indexAt,asIntOf,run_underlying hu,nl hz,hr,nB,Instr.sureAddr]
  grind
 cases vx<;>simp only [ID,reduceCtorEq] at h
 case ptr id o=>
  obtain ⟨p,hm,rfl⟩:=hx
  cases hc:yK k len with
  | false=>rw [hc] at h;cases h
  | true=>
   rw [hc] at h;simp only [yx,yd] at h;subst h;have rR:k<len:=by simp_all
   exact ⟨_,IK _ _ rR,by simp only [ah];exact ⟨p,hm,by rw [uG]⟩⟩
 case aJ cs=>
  obtain ⟨b,o,rfl,h2,h3,h4⟩:=hx
  cases hc:yK k len with
  | false=>rw [hc] at h;cases h
  | true=>
   rw [hc] at h;simp only [yx,yd] at h;subst h;have rR:k<len:=by simp_all
   exact ⟨_,IK _ _ rR,P4 h2 h3 h4⟩
def apr {t e:yF} {len sz k:Nat} {ag:Bool} {vx vi v:AV} {x i:yh} (hu:O.P.underlying t=some (.array len e)) (hz:cz O.P e=some sz) (ha:dO O.P e=some ag)
  (hx:ah O.ae m S w vx x) (hi:ah O.ae m S w vi i) (hk:dI vi=some k)
  (h:IE len sz ag k vx=some v):
  ∃u,(Instr.index t x i).run O.P w= .ok u w/\ah O.ae m S w v u:=by
 obtain ⟨kd,rfl⟩:=sQ hi hk;cases vx<;>simp only [IE,reduceCtorEq] at h
 obtain ⟨xs,rfl,hr⟩:=hx
 cases hc:yK k len with
 | false=>rw [hc] at h;cases h
 | true=>
  rw [hc] at h;have rR:k<len:=by simp_all
  obtain ⟨u,h1,h2⟩:=ZS hz ha hr h;have bC:(0:Int)<=(k:Int)/\(k:Int)<(len:Int):=by omega
  exact ⟨u,by simp [Instr.index,asIntOf,run_underlying hu,nl hz,bC,h1];intro hle;exact absurd hle (by omega),h2⟩
def aps {t:yF} {k:Nat} {vx vi v:AV} {x i:yh} (hu:O.P.underlying t=some .string) (hx:ah O.ae m S w vx x) (hi:ah O.ae m S w vi i) (hk:dI vi=some k)
  (h:mP k vx=some v):
  ∃u,(Instr.index t x i).run O.P w= .ok u w/\ah O.ae m S w v u:=by
 obtain ⟨kd,rfl⟩:=sQ hi hk;cases vx<;>simp only [mP,reduceCtorEq] at h
 obtain ⟨b,rfl,rfl⟩:=hx
 cases hs:(b.data.toList.map xi)[k]? with
 | none=>rw [hs] at h;cases h
 | some q=>
  rw [hs] at h;simp only [yd] at h;subst h;rw [yba] at hs
  cases hb:b.data.toList[k]? with
  | none=>rw [hb] at hs;cases hs
  | some c=>
   rw [hb] at hs;simp only [wI,yd] at hs;subst hs;have bQ:b[k]? =some c:=by
    have aP:k<b.data.toList.length:=by
     grind
    have eH:k<b.size:=by simp_all
    rw [getElem?_pos b k eH];rw [xV aP] at hb;rw [<-hb];rfl
   refine ⟨.int .u8 c.toNat,?_,by simp [ah]⟩;simp [Instr.index,asIntOf,run_underlying hu,bQ]
end
end
section
open Go
section
variable {ae:Nat->Nat} {m:Mp} {S:Nat->Prop} {w:yi}
def P5:∀{v:AV} {u:yh},ah ae m S w v u->bK (cellsOf v)=true->av ae m S w (cellsOf v) u.cells.toList:=by
 intro v u h h1;cases v
 case agg cs=>
  simp only [ah] at h;obtain ⟨xs,rfl,hr⟩:=h;exact hr
 case ap vs=>simp [cellsOf,bK,bc] at h1
 case undef=>simp [cellsOf,bK,bc] at h1
 case cf=>simp [cellsOf,bK,bc] at h1
 case fn f a b=>
  cases f with
  | f g=>have h':=h;simp only [ah] at h';obtain ⟨fi,ca,rfl,_⟩:=h';simp only [cellsOf,Value.cells,av];exact ⟨_,_,rfl,h,rfl⟩
  | y l=>have h':=h;simp only [ah] at h';obtain ⟨p,_,rfl⟩:=h';simp only [cellsOf,Value.cells,av];exact ⟨_,_,rfl,h,rfl⟩
 case str s=>have h':=h;simp only [ah] at h';obtain ⟨b,rfl,_⟩:=h';simp only [cellsOf,Value.cells,av];exact ⟨_,_,rfl,h,rfl⟩
 case ptr id o=>have h':=h;simp only [ah] at h';obtain ⟨b,_,rfl⟩:=h';simp only [cellsOf,Value.cells,av];exact ⟨_,_,rfl,h,rfl⟩
 case aJ cs=>have h':=h;simp only [ah] at h';obtain ⟨b,o,rfl,_⟩:=h';simp only [cellsOf,Value.cells,av];exact ⟨_,_,rfl,h,rfl⟩
 case aC e n cs=>have h':=h;simp only [ah] at h';rcases h' with ⟨b,o,c,rfl,_⟩ | ⟨a,rfl,_,_⟩<;>(simp only [cellsOf,Value.cells,av];exact ⟨_,_,rfl,h,rfl⟩)
 case ay id o n=>have h':=h;simp only [ah] at h';obtain ⟨p,c,_,rfl,_⟩:=h';simp only [cellsOf,Value.cells,av];exact ⟨_,_,rfl,h,rfl⟩
 case map id=>have h':=h;simp only [ah] at h';obtain ⟨p,_,rfl⟩:=h';simp only [cellsOf,Value.cells,av];exact ⟨_,_,rfl,h,rfl⟩
 case jz ks vs=>have h':=h;simp only [ah] at h';obtain ⟨b,es,cl,rfl,_⟩:=h';simp only [cellsOf,Value.cells,av];exact ⟨_,_,rfl,h,rfl⟩
 case it id=>have h':=h;simp only [ah] at h';obtain ⟨p,_,rfl⟩:=h';simp only [cellsOf,Value.cells,av];exact ⟨_,_,rfl,h,rfl⟩
 all_goals
  have h':=h;simp only [ah] at h';subst h';simp only [cellsOf,Value.cells,av];exact ⟨_,_,rfl,h,rfl⟩
def BU (v:yh):av ae m S w (cellsOf (eD v)) v.cells.toList:=by
 have h:=L6 (ae:=ae) (m:=m) (S:=S) (w:=w) v;cases v
 case agg xs=>
  obtain ⟨l⟩:=xs;simp only [eD,ah] at h ⊢;obtain ⟨xs,e,hr⟩:=h;injection e with e
  subst e;exact hr
 case tuple xs=>obtain ⟨l⟩:=xs;simp only [eD] at h ⊢;simp only [cellsOf,Value.cells,av];exact ⟨_,_,rfl,h,rfl⟩
 case pointer p=>cases p<;>(simp only [eD] at h ⊢;simp only [cellsOf,Value.cells,av];exact ⟨_,_,rfl,h,rfl⟩)
 case map p=>cases p<;>(simp only [eD] at h ⊢;simp only [cellsOf,Value.cells,av];exact ⟨_,_,rfl,h,rfl⟩)
 case slice p n c=>
  cases p
  ·cases n
   ·cases c<;>(simp only [eD] at h ⊢;simp only [cellsOf,Value.cells,av];exact ⟨_,_,rfl,h,rfl⟩)
   ·simp only [eD] at h ⊢;simp only [cellsOf,Value.cells,av];exact ⟨_,_,rfl,h,rfl⟩
  ·simp only [eD] at h ⊢;simp only [cellsOf,Value.cells,av];exact ⟨_,_,rfl,h,rfl⟩
 all_goals (simp only [eD] at h ⊢;simp only [cellsOf,Value.cells,av];exact ⟨_,_,rfl,h,rfl⟩)
def lh:∀{a b:List AV} {x y:List yh},av ae m S w a x->av ae m S w b y->av ae m S w (a++b) (x++y)
 | [],b,x,y,h,k=>by simp only [av] at h;subst h;simpa using k
 | c::a,b,x,y,h,k=>by
  simp only [av] at h;obtain ⟨u,r,rfl,h2,h3⟩:=h;simp only [yY,av];exact ⟨u,r++y,rfl,h2,lh h3 k⟩
def Hh:∀(k:Nat) {cs:List AV} {us:List yh},av ae m S w cs us->av ae m S w (cs.drop k) (us.drop k)
 | 0,cs,us,h=>by simpa using h
 | k+1,[],us,h=>by simp only [av] at h;subst h;simp [av]
 | k+1,c::cs,us,h=>by simp only [av] at h;obtain ⟨u,r,rfl,_,h3⟩:=h;simpa using Hh k h3
def DV:∀(k:Nat) {cs:List AV} {us:List yh},av ae m S w cs us->av ae m S w (cs.take k) (us.take k)
 | 0,cs,us,h=>by simp [av]
 | k+1,[],us,h=>by simp only [av] at h;subst h;simp [av]
 | k+1,c::cs,us,h=>by
  simp only [av] at h;obtain ⟨u,r,rfl,h2,h3⟩:=h;simp only [wc,av];exact ⟨u,_,rfl,h2,DV k h3⟩
def Qr:∀{cs:List AV} {us:List yh} {i:Nat} {v:AV},av ae m S w cs us->cs[i]? =some v->∃u,us[i]? =some u/\ah ae m S w v u
 | [],us,i,v,_,h=>by simp at h
 | c::cs,us,0,v,h,e=>by
  simp only [av] at h;obtain ⟨u,r,rfl,h2,h3⟩:=h;simp at e;subst e;exact ⟨u,rfl,h2⟩
 | c::cs,us,i+1,v,h,e=>by
  simp only [av] at h;obtain ⟨u,r,rfl,h2,h3⟩:=h;simp at e;simpa using Qr h3 e
end
def XS (off:Nat):∀(new:List yh) (j:Nat) (cells:Array yh),off+j+new.length<=cells.size->
  ((new.zipIdx j).foldl (fun (cs:Array yh) (p:yh×Nat)=>cs.setIfInBounds (off+p.2) p.1) cells).toList=
   cells.toList.take (off+j)++new++cells.toList.drop (off+j+new.length)
 | [],j,cells,_=>by simp
 | v::r,j,cells,h=>by
  simp only [yv] at h;have ih:=XS off r (j+1) (cells.setIfInBounds (off+j) v) (by simp;omega);simp only [List.zipIdx_cons,List.foldl_cons];rw [ih];have aP:off+j<cells.toList.length:=by simp;omega
  have h1:(cells.setIfInBounds (off+j) v).toList=cells.toList.set (off+j) v:=by simp
  rw [h1,show off+(j+1)=off+j+1 by omega];have h2:(cells.toList.set (off+j) v).take (off+j+1)=cells.toList.take (off+j)++[v]:=by
   rw [List.take_succ_eq_append_getElem (by simpa using aP)];simp [List.take_set_of_le]
  have h3:(cells.toList.set (off+j) v).drop (off+j+1+r.length)=cells.toList.drop (off+j+(r.length+1)):=by
   rw [List.drop_set_of_lt (by omega)];congr 1;omega
  rw [h2,h3]
  simp
section
variable {O:br} {H:Hint} {m:Mp} {S:Nat->Prop} {w:yi} {tm:Env} {a:Act}
def L8 (hH:fj O H) (ht:bT O m S w tm a.tmps) {place:Nat->Option (Nat×Nat)}:∀(parts:List (Nat×xy)) (ps:List (Nat×Nat×X)) (zero cs:List AV) (cells:Array yh),
  partsOf H place parts=some ps->av O.ae m S w zero cells.toList->fill tm zero ps=some cs->
  ∃out,Instr.fill place cells (parts.map fun p=>(p.1,a.eval p.2))=some out/\av O.ae m S w cs out.toList
 | [],ps,zero,cs,cells,hp,hz,hf=>by
  simp only [partsOf,yd] at hp;subst hp;simp only [fill,yd] at hf;subst hf;exact ⟨cells,rfl,hz⟩
 | (i,x)::r,ps,zero,cs,cells,hp,hz,hf=>by
  simp only [partsOf] at hp
  cases mY:place i with
  | none=>simp [mY] at hp
  | some q=>
   obtain ⟨o,s⟩:=q;simp only [mY] at hp
   cases nW:partsOf H place r with
   | none=>simp [nW] at hp
   | some l=>
    simp only [nW,yd] at hp;subst hp;simp only [fill] at hf
    cases hc:(yt (cellsOf (az tm (aK H x))).length s&&yG (o+s) zero.length&&bK (cellsOf (az tm (aK H x)))) with
    | false=>rw [hc] at hf;cases hf
    | true=>
     rw [hc] at hf;simp only [yx] at hf;simp only [yg] at hc;have hs:=yk hc.1.1;have hle:=yr hc.1.2;have hrx:=P5 (ck hH ht x) hc.2;have mD:=gM _ _ hrx;have rS:=gM _ _ hz;have eH:(a.eval x).cells.size=s:=by rw [<-hs,<-mD];simp
     have qg:cells.size=zero.length:=by rw [<-rS];simp
     have asp:=XS o (a.eval x).cells.toList 0 cells (by simp;omega);have eN:av O.ae m S w (over o (cellsOf (az tm (aK H x))) zero)
       ((a.eval x).cells.zipIdx.foldl (fun (cs:Array yh) (p:yh×Nat)=>cs.setIfInBounds (o+p.2) p.1) cells).toList:=by
      rw [<-Array.foldl_toList,Array.toList_zipIdx,asp];simp only [over,yW];rw [show (a.eval x).cells.toList.length=(cellsOf (az tm (aK H x))).length from mD];exact lh (lh (DV o hz) hrx) (Hh _ hz)
     obtain ⟨out,h1,h2⟩:=L8 hH ht r l _ cs _ nW eN hf;refine ⟨out,?_,h2⟩;simp only [xj,Instr.fill,mY,eH];rw [yB (by simp;omega)];exact h1
end
end
section
open Go
def XT (p q:ByteArray):(p==q)=cP (mb p) (mb q):=by
 have h:(p==q)=(p.data==q.data):=by cases p;cases q;rfl
 rw [h,XP,ByteArray.toList_eq,ByteArray.toList_eq];rw [uK,yaR,yaR];constructor
 ·intro e;rw [e]
 ·intro e;have:=congrArg List.toArray e;simpa using this
def Nb:ve->Bool
 | .bool | .int _ | .string=>true
 | _=>false
def fits (d:ve) (v:AV):Bool:=
 match d,v with
 | .int _,.int _ _ | .string,.str _ | .bool,.bool _=>true
 | _,_=>false
def Found (ae:Nat->Nat) (m:Mp) (S:Nat->Prop) (w:yi) (f:Option (Option (Nat×yh))):Option AV->Prop
 | none=>f=some none
 | some v=>∃j u,f=some (some (j,u))/\ah ae m S w v u
section
variable {O:br} {ae:Nat->Nat} {m:Mp} {S:Nat->Prop} {w:yi}
def YQ {vk vk':AV} {k k':yh} {r:Bool} {d:ve} (hk:ah ae m S w vk k) (rT:ah ae m S w vk' k') (h:EB vk vk'=some r)
  (hd:fits d vk=true):Instr.sameNow d k k'=some r:=by
 unfold EB at h
 split at h
 ·rename_i j x j' y;simp only [ah] at hk rT;subst hk;subst rT;by_cases hj:j=j'
  ·simp only [hj,xB,yd] at h;subst hj;cases d<;>simp [fits] at hd
   simpa [Instr.sameNow] using h
  ·simp [hj] at h
 ·simp only [ah] at hk rT;obtain ⟨s,rfl,rfl⟩:=hk;obtain ⟨s',rfl,rfl⟩:=rT;simp only [yd] at h;cases d<;>simp [fits] at hd
  simp only [Instr.sameNow,XT];rw [<-h];rfl
 ·simp only [ah] at hk rT;subst hk;subst rT;simp only [yd] at h;cases d<;>simp [fits] at hd
  simp [Instr.sameNow,h]
 ·cases h
def Qs {vk:AV} {k:yh} {d:ve} (hk:ah ae m S w vk k)
  (hd:fits d vk=true):∀(ks vs:List AV) (es:List ua) (i:Nat) (r:Option AV),
  av ae m S w ks (es.map (·.key))->av ae m S w vs (es.map (·.val))->Cw vk ks vs=some r->Found ae m S w (Instr.findNow d k es i) r
 | [],vs,es,i,r,h1,h2,h=>by
  simp only [av,yaJ] at h1;subst h1;simp only [Cw,yd] at h;subst h;rfl
 | c::ks,[],es,i,r,h1,h2,h=>by simp only [Cw] at h;cases h
 | c::ks,v::vs,es,i,r,h1,h2,h=>by
  cases es with
  | nil=>simp [av] at h1
  | cons e es=>
   simp only [xj,av,tC] at h1 h2;obtain ⟨u,t,⟨rfl,rfl⟩,hc,Oz⟩:=h1;obtain ⟨u',t',⟨rfl,rfl⟩,hv,zH⟩:=h2;simp only [Cw] at h
   cases zI:EB vk c with
   | none=>simp [zI] at h
   | some b=>
    have hs:=YQ (d:=d) hk hc zI hd
    cases b with
    | true=>
     simp only [zI,yd] at h;subst h;exact ⟨i,e.val,by simp [Instr.findNow,hs],hv⟩
    | false=>
     simp only [zI] at h;have ih:=Qs hk hd ks vs es (i+1) r Oz zH h;simpa [Instr.findNow,hs] using ih
def KR {P:y7} {kt:yF} {d:ve} (hu:P.underlying kt=some d) (hd:Nb d=true) (b:Bool) (k:yh):(Instr.checkKey b 10000 kt k).run P w= .ok () w:=by
 have:∀n,(Instr.checkKey b (n+1) kt k).run P w= .ok () w:=by
  intro n;cases d<;>simp [Nb] at hd<;>simp [Instr.checkKey,run_underlying hu]
 exact this 9999
def apt {t kt e:yF} {d:ve} {ok:Bool} {hp:Hp} {ct:Nat} {vx vk v:AV} {x k zero:yh} (hh:aR O m S w hp ct) (hu:O.P.underlying t=some (.map kt e)) (hk:O.P.underlying kt=some d) (hd:Nb d=true)
  (hdk:fits d vk=true)
  (hz:(zeroValue e).run O.P w= .ok zero w) (hx:ah O.ae m S w vx x) (hkr:ah O.ae m S w vk k) {z:AV} (UA:ah O.ae m S w z zero)
  {r:Option AV}
  (hr:AN hp vk vx=some r)
  (hv:(match r with | some u=>(bif ok then AV.ap [u,.bool true] else u) | none=>(bif ok then AV.ap [z,.bool false] else z))=v):
  ∃u,(Instr.lookup t x k ok).run O.P w= .ok u w/\ah O.ae m S w v u:=by
 have fin:∀(u:AV) (uu:yh) (b:Bool),ah O.ae m S w u uu->ah O.ae m S w (bif ok then AV.ap [u,.bool b] else u) (if ok then .tuple #[uu,.bool b] else uu):=by
  intro u uu b h
  cases ok with
  | true=>simp only [yx,xB,ah,av];exact ⟨_,rfl,_,_,rfl,h,_,_,rfl,rfl,rfl⟩
  | false=>simpa using h
 have body:∀(x':yh) (es:Array ua),((x'= .map none/\es=#[])\/∃b clock,x'= .map (some b)/\w.heap[b]? =some (.map es clock))->Found O.ae m S w (Instr.findNow d k es.toList 0) r->
   ∃u,(Instr.lookup t x' k ok).run O.P w= .ok u w/\ah O.ae m S w v u:=by
  intro x' es hl hf
  cases r with
  | none=>
   have rU:Instr.findNow d k es.toList 0=some none:=hf;refine ⟨if ok then .tuple #[zero,.bool false] else zero,?_,by rw [<-hv];exact fin z zero false UA⟩
   rcases hl with ⟨rfl,rfl⟩ | ⟨b,clock,rfl,hb⟩
   ·have SJ:Instr.findNow d k [] 0=some none:=rfl;simp [Instr.lookup,run_underlying hu,KR hk hd,Instr.findKey,run_underlying hk,SJ,hz]
   ·simp [Instr.lookup,run_underlying hu,getObj,Sem.run,hb,KR hk hd,Instr.findKey,run_underlying hk,rU,hz]
  | some v'=>
   obtain ⟨j,u,h1,h2⟩:=hf;refine ⟨if ok then .tuple #[u,.bool true] else u,?_,by rw [<-hv];exact fin v' u true h2⟩
   rcases hl with ⟨rfl,rfl⟩ | ⟨b,clock,rfl,hb⟩
   ·have SJ:Instr.findNow d k [] 0=some none:=rfl;rw [show (#[]:Array ua).toList=[] from rfl,SJ] at h1;cases h1
   ·simp [Instr.lookup,run_underlying hu,getObj,Sem.run,hb,KR hk hd,Instr.findKey,run_underlying hk,h1]
 cases vx<;>simp only [AN,reduceCtorEq] at hr
 case jQ=>
  simp only [yd] at hr;subst hr;simp only [ah] at hx;subst hx;exact body _ #[] (.inl ⟨rfl,rfl⟩) rfl
 case map id=>
  simp only [ah] at hx;obtain ⟨p,hm,rfl⟩:=hx
  split at hr
  case h_2=>cases hr
  rename_i Uz ks vs CA;obtain ⟨p',es,clock,gm,hb,h1,h2,_⟩:=hh.obj id _ _ CA hm;rw [hm] at gm;injection gm with gm;subst gm
  exact body _ es (.inr ⟨_,_,rfl,hb⟩) (Qs hkr hdk ks vs es.toList 0 r h1 h2 hr)
 case jz ks vs=>
  simp only [ah] at hx;obtain ⟨b,es,clock,rfl,_,_,_,hb,h1,h2⟩:=hx;exact body _ es (.inr ⟨_,_,rfl,hb⟩) (Qs hkr hdk ks vs es.toList 0 r h1 h2 hr)
end
end
section
open Go
def G5:∀(k1 k2:List Nat) (a b:List AV) (r:Bool),ek (k1++k2) a b=some r->
  ∃r1 r2,ek k1 (a.take k1.length) (b.take k1.length)=some r1/\ek k2 (a.drop k1.length) (b.drop k1.length)=some r2/\r=(r1&&r2)
 | [],k2,a,b,r,h=>⟨true,r,by simp [ek],by simpa using h,by simp⟩
 | k::k1,k2,[],b,r,h=>by
  simp only [yY] at h;unfold ek at h
  grind
 | k::k1,k2,x::a,[],r,h=>by
  unfold ek at h
  grind
 | k::k1,k2,x::a,y::b,r,h=>by
  have step:∀(q:Bool) (f:Bool->Bool),(match ek (k1++k2) a b with | some r=>some (f r) | none=>none)=some q->∃r0,ek (k1++k2) a b=some r0/\q=f r0:=by grind
  unfold ek at h
  split at h
  ·grind
  ·rename_i e1 e2 e3;obtain ⟨rfl,rfl⟩:=e1;obtain ⟨rfl,rfl⟩:=e2;obtain ⟨rfl,rfl⟩:=e3;obtain ⟨r0,h0,rfl⟩:=step r _ h;obtain ⟨r1,r2,h1,h2,rfl⟩:=G5 k1 k2 _ _ r0 h0;exact ⟨_,r2,by simp only [yv,wc,ek,h1],by simpa using h2,(tX _ _ _).symm⟩
  ·rename_i e1 e2 e3;obtain ⟨rfl,rfl⟩:=e1;obtain ⟨rfl,rfl⟩:=e2;obtain ⟨rfl,rfl⟩:=e3
   split at h
   ·rename_i hk;obtain ⟨r0,h0,rfl⟩:=step r _ h;obtain ⟨r1,r2,h1,h2,rfl⟩:=G5 k1 k2 _ _ r0 h0;exact ⟨_,r2,by simp only [yv,wc,ek,h1,hk,xB],by simpa using h2,(tX _ _ _).symm⟩
   ·cases h
  ·rename_i e1 e2 e3;obtain ⟨rfl,rfl⟩:=e1;obtain ⟨rfl,rfl⟩:=e2;obtain ⟨rfl,rfl⟩:=e3;obtain ⟨r0,h0,rfl⟩:=step r _ h;obtain ⟨r1,r2,h1,h2,rfl⟩:=G5 k1 k2 _ _ r0 h0;exact ⟨_,r2,by simp only [yv,wc,ek,h1],by simpa using h2,(tX _ _ _).symm⟩
  ·cases h
def WL:∀(ks:List Nat) (a b:List AV) (r:Bool),ek ks a b=some r->a.length=ks.length/\b.length=ks.length
 | [],a,b,r,h=>by
  unfold ek at h
  grind
 | k::ks,[],b,r,h=>by
  unfold ek at h
  grind
 | k::ks,x::a,[],r,h=>by
  unfold ek at h
  grind
 | k::ks,x::a,y::b,r,h=>by
  have:∃r0,ek ks a b=some r0:=by
   cases he:ek ks a b with
   | some r0=>exact ⟨r0,rfl⟩
   | none=>unfold ek at h;split at h<;>simp_all
  obtain ⟨r0,h0⟩:=this
  have:=WL ks a b r0 h0
  simp [this]
def Fi (P:y7) (t:yF) (x:yh) (xs:List yh):Prop:=(dO P t=some true/\x= .agg xs.toArray)\/(dO P t=some false/\xs=[x])
section
variable {P:y7} {ae:Nat->Nat} {m:Mp} {S:Nat->Prop} {w:yi}
def PP {t:yF} {ag:Bool} (ha:dO P t=some ag):(isAgg t).run P w= .ok ag w:=by
 unfold dO at ha
 cases hu:P.underlying t with
 | none=>simp [hu] at ha
 | some d=>cases d<;>simp_all [isAgg,underlying]
def aky {t:yF} {s o:Nat} {xs:List yh} (hz:cz P t=some s) (ha:∃ag,dO P t=some ag) (h1:dO P t=some false->s=1) (hl:o+s<=xs.length):
  ∃u,(part t xs.toArray o).run P w= .ok u w/\Fi P t u ((xs.drop o).take s):=by
 obtain ⟨ag,ha⟩:=ha
 cases ag with
 | true=>
  refine ⟨.agg ((xs.drop o).take s).toArray,?_,.inl ⟨ha,rfl⟩⟩;simp [part,PP ha,nl hz,yab]
 | false=>
  have hs:=h1 ha;subst hs;have aP:o<xs.length:=by omega
  refine ⟨xs[o],?_,.inr ⟨ha,?_⟩⟩
  ·simp [part,PP ha,xV aP]
  ·rw [List.drop_eq_getElem_cons aP,wc,ybD]
def aiC {n:Nat} {t:yF} {ks:List Nat} (h:kinds P n t=some ks):∃ag,dO P t=some ag/\(ag=false->ks.length=1):=by
 cases n with
 | zero=>simp [kinds] at h
 | succ n=>
  unfold kinds at h;unfold dO
  split at h<;>simp_all
  all_goals (rw [<-h];rfl)
def R9 (P:y7) (ae:Nat->Nat) (m:Mp) (S:Nat->Prop) (w:yi) (n:Nat):Prop:=
 ∀(t:yF) (ks:List Nat),kinds P n t=some ks->P.stoodInHeld t=false->∀(d:Nat),n<=d->∀(xs ys:List yh) (cs dE:List AV) (r:Bool) (x y:yh),
  av ae m S w cs xs->av ae m S w dE ys->ek ks cs dE=some r->Fi P t x xs->Fi P t y ys->(Op.equalIn d t x y).run P w= .ok r w
def XU {n:Nat} (ih:R9 P ae m S w n) {t:yF} {ks:List Nat} {s o d:Nat} (hk:kinds P n t=some ks) (aQ:P.stoodInHeld t=false) (hz:cz P t=some s) (hs:ks.length=s) (hd:n<=d)
  {xs ys:List yh} {cs dE:List AV} (h1:av ae m S w cs xs) (h2:av ae m S w dE ys) {r:Bool} (he:ek ks ((cs.drop o).take s) ((dE.drop o).take s)=some r):
  ∃u u',(part t xs.toArray o).run P w= .ok u w/\(part t ys.toArray o).run P w= .ok u' w/\(Op.equalIn d t u u').run P w= .ok r w:=by
 obtain ⟨ag,ha,h1s⟩:=aiC hk;obtain ⟨l1,l2⟩:=WL _ _ _ _ he;have q1:=gM _ _ h1;have q2:=gM _ _ h2;simp only [yT,xN] at l1 l2;have mZ:dO P t=some false->s=1:=fun h=>by
  grind
 have mD:o+s<=xs.length\/s=0:=by omega
 have rS:o+s<=ys.length\/s=0:=by omega
 have get:∀(zs:List yh),(o+s<=zs.length\/s=0)->∃u,(part t zs.toArray o).run P w= .ok u w/\Fi P t u ((zs.drop o).take s):=by
  intro zs hl;rcases hl with hl | hl
  ·exact aky hz ⟨ag,ha⟩ mZ hl
  ·subst hl
   cases ag with
   | false=>have:=mZ ha;omega
   | true=>
    refine ⟨.agg ((zs.drop o).take 0).toArray,?_,.inl ⟨ha,rfl⟩⟩;simp [part,PP ha,nl hz]
 obtain ⟨u,p1,v1⟩:=get xs mD;obtain ⟨u',p2,v2⟩:=get ys rS;exact ⟨u,u',p1,p2,ih t ks hk aQ d hd _ _ _ _ r u u' (DV s (Hh o h1)) (DV s (Hh o h2)) he v1 v2⟩
def WM {n:Nat} (ih:R9 P ae m S w n) {d:Nat} (hd:n<=d) {xs ys:List yh} {cs dE:List AV} (h1:av ae m S w cs xs) (h2:av ae m S w dE ys):
  ∀(fs:List uZ) (o:Nat) (ks:List Nat) (r:Bool),DR P (fun u=>kinds P n u) fs o=some ks->ek ks (cs.drop o) (dE.drop o)=some r->(Op.eqFields d xs.toArray ys.toArray fs).run P w= .ok r w
 | [],o,ks,r,h,he=>by
  simp only [DR,yd] at h;unfold ek at he
  split at he<;>simp_all [Op.eqFields]
 | f::fs,o,ks,r,h,he=>by
  simp only [DR] at h
  cases hk:kinds P n f.type with
  | none=>simp [hk] at h
  | some kf=>
   cases hz:cz P f.type with
   | none=>simp [hk,hz] at h
   | some s=>
    simp only [hk,hz] at h
    cases hc:(f.name != "_"&&yt f.offset o&&yt kf.length s&& !P.stoodInHeld f.type) with
    | false=>rw [hc] at h;cases h
    | true=>
     rw [hc] at h;simp only [yx] at h;simp only [yg,bne_iff_ne,uL] at hc;obtain ⟨⟨⟨hn,ho⟩,hl⟩,aQ⟩:=hc;have ho:=yk ho;have hl:=yk hl
     cases hr:DR P (fun u=>kinds P n u) fs (o+s) with
     | none=>simp [hr] at h
     | some kr=>
      simp only [hr,yd] at h;subst h;obtain ⟨r1,r2,e1,e2,rfl⟩:=G5 _ _ _ _ _ he;rw [hl] at e1 e2;rw [vN,vN] at e2;obtain ⟨u,u',p1,p2,p3⟩:=XU ih (o:=o) hk aQ hz hl hd h1 h2 e1;have rest:=WM ih hd h1 h2 fs (o+s) kr r2 hr e2;subst ho;simp only [Op.eqFields]
      cases r1 with
      | true=>simp [hn,p1,p2,p3,rest]
      | false=>simp [hn,p1,p2,p3]
def W9 {n:Nat} (ih:R9 P ae m S w n) {d:Nat} (hd:n<=d) {xs ys:List yh} {cs dE:List AV} (h1:av ae m S w cs xs) (h2:av ae m S w dE ys)
  {e:yF} {ks:List Nat} {s:Nat} (hk:kinds P n e=some ks) (aQ:P.stoodInHeld e=false) (hz:cz P e=some s) (hl:ks.length=s):
  ∀(k j:Nat) (r:Bool),ek (yC k ks).flatten (cs.drop (j*s)) (dE.drop (j*s))=some r->(Op.eqItems d e s xs.toArray ys.toArray (List.range' j k)).run P w= .ok r w
 | 0,j,r,he=>by
  unfold ek at he
  split at he<;>simp_all [Op.eqItems]
 | k+1,j,r,he=>by
  obtain ⟨r1,r2,e1,e2,rfl⟩:=G5 _ _ _ _ _ he;rw [hl] at e1 e2;rw [vN,vN,show j*s+s=(j+1)*s by rw [we,ybE]] at e2;obtain ⟨u,u',p1,p2,p3⟩:=XU ih (o:=j*s) hk aQ hz hl hd h1 h2 e1;have rest:=W9 ih hd h1 h2 hk aQ hz hl k (j+1) r2 e2;rw [List.range'_succ];simp only [Op.eqItems]
  cases r1 with
  | true=>simp [p1,p2,p3,rest]
  | false=>simp [p1,p2,p3]
def Ry:∀(n:Nat) (t:yF) (ks:List Nat),kinds P n t=some ks->P.stoodInHeld t=false->∀(d:Nat),n<=d->∀(xs ys:List yh) (cs dE:List AV) (r:Bool) (x y:yh),
  av ae m S w cs xs->av ae m S w dE ys->ek ks cs dE=some r->Fi P t x xs->Fi P t y ys->(Op.equalIn d t x y).run P w= .ok r w
 | 0,t,ks,h,_,_,_,_,_,_,_,_,_,_,_,_,_,_,_=>by simp [kinds] at h
 | n+1,t,ks,h,aQ,0,hd,_,_,_,_,_,_,_,_,_,_,_,_=>by omega
 | n+1,t,ks,h,aQ,d+1,hd,xs,ys,cs,dE,r,x,y,h1,h2,he,hx,hy=>by
  unfold kinds at h;have one:∀{k:Nat},ks=[k]->dO P t=some false->∃c c',cs=[c]/\dE=[c']/\ah ae m S w c x/\ah ae m S w c' y:=by
   intro k hk ha;rcases hx with ⟨hx,_⟩ | ⟨_,rfl⟩
   ·grind
   rcases hy with ⟨hy,_⟩ | ⟨_,rfl⟩
   ·grind
   have l1:=gM _ _ h1;have l2:=gM _ _ h2
   match cs,dE,l1,l2 with
   | [c],[c'],_,_=>
    simp only [av] at h1 h2
    grind
  split at h
  ·rename_i hu;simp only [yd] at h;have ha:dO P t=some false:=by simp [dO,hu]
   obtain ⟨c,c',rfl,rfl,r1,r2⟩:=one h.symm ha;subst h;unfold ek at he
   split at he<;>simp_all [ek]
   subst he;simp only [ah] at r1 r2;subst r1;subst r2;simp [Op.equalIn,run_underlying hu]
  ·rename_i k0 hu;simp only [yd] at h;have ha:dO P t=some false:=by simp [dO,hu]
   obtain ⟨c,c',rfl,rfl,r1,r2⟩:=one h.symm ha;subst h;unfold ek at he
   split at he<;>simp_all [ek]
   obtain ⟨hk,he⟩:=he;subst he;simp only [ah] at r1 r2;subst r1;subst r2;simp [Op.equalIn,run_underlying hu]
  ·rename_i hu;simp only [yd] at h;have ha:dO P t=some false:=by simp [dO,hu]
   obtain ⟨c,c',rfl,rfl,r1,r2⟩:=one h.symm ha;subst h;unfold ek at he
   split at he<;>simp_all [ek]
   subst he;simp only [ah] at r1 r2;obtain ⟨s,rfl,rfl⟩:=r1;obtain ⟨s',rfl,rfl⟩:=r2;simp only [Op.equalIn,Sem.run_bind,run_underlying hu,Result.andThen_ok,Sem.run_pure,XT];rfl
  ·rename_i fs hu;have ha:dO P t=some true:=by simp [dO,hu]
   rcases hx with ⟨_,rfl⟩ | ⟨hx,_⟩
   ·rcases hy with ⟨_,rfl⟩ | ⟨hy,_⟩
    ·have hf:P.fieldsOf t=fs:=by simp [Program.fieldsOf,hu]
     rw [run_equalIn_struct w d t _ _ (by rw [hf];exact hu) aQ,hf]
     exact WM (Ry n) (by omega) h1 h2 fs.toList 0 ks r h (by simpa using he)
    ·rw [ha] at hy;cases hy
   ·rw [ha] at hx;cases hx
  ·rename_i k e hu;have ha:dO P t=some true:=by simp [dO,hu]
   rcases hx with ⟨_,rfl⟩ | ⟨hx,_⟩
   ·rcases hy with ⟨_,rfl⟩ | ⟨hy,_⟩
    ·cases hk:kinds P n e with
     | none=>simp [hk] at h
     | some ke=>
      cases hz:cz P e with
      | none=>simp [hk,hz] at h
      | some s=>
       simp only [hk,hz] at h
       cases hc:(yt ke.length s&& !P.stoodInHeld e) with
       | false=>rw [hc] at h;cases h
       | true=>
        rw [hc] at h;simp only [yx,yd] at h;subst h;simp only [yg,uL] at hc;have eN:=hz;unfold cz at eN
        cases hi:P.info? e with
        | none=>simp [hi] at eN
        | some i=>
         simp only [hi,yd] at eN;have qg:P.cellsOf e=s:=by simp [Program.cellsOf,hi,eN]
         rw [run_equalIn_array w d _ _ hu hi,qg,List.range_eq_range'];exact W9 (Ry n) (by omega) h1 h2 hk hc.2 hz (yk hc.1) k 0 r (by simpa using he)
    ·rw [ha] at hy;cases hy
   ·rw [ha] at hx;cases hx
  ·cases h
end
end
section
open Go
def dG {tm:Env} {hp:Hp} {v:AV} (h:bl tm hp bad=some v):False:=by simp [bad,bl] at h
section
variable {O:br} {H:Hint} {m:Mp} {S:Nat->Prop} {w:yi} {tm:Env} {a:Act} {hp:Hp} {ct:Nat}
def am7 {ae:Nat->Nat} {va vb v:AV} {x y:yh} (hx:ah ae m S w va x) (hy:ah ae m S w vb y) (h:VE.min2 va vb=some v):∃u,(Builtin.min2 x y).run O.P w= .ok u w/\ah ae m S w v u:=by
 unfold VE.min2 at h
 split at h
 ·simp only [ah] at hx hy;subst hx;subst hy;simp only [yd] at h;subst h;exact ⟨_,by simp only [Builtin.min2,Sem.run_pure];rfl,by simp only [ah]⟩
 ·rename_i k p k' q;simp only [ah] at hx hy;subst hx;subst hy
  cases ho:k.format.order p q with
  | none=>simp [ho] at h
  | some c=>cases c<;>(simp only [ho,yd] at h;subst h;exact ⟨_,by simp only [Builtin.min2,ho,Sem.run_pure];rfl,by simp only [ah]⟩)
 ·cases h
def am8 {ae:Nat->Nat} {va vb v:AV} {x y:yh} (hx:ah ae m S w va x) (hy:ah ae m S w vb y) (h:VE.max2 va vb=some v):∃u,(Builtin.max2 x y).run O.P w= .ok u w/\ah ae m S w v u:=by
 unfold VE.max2 at h
 split at h
 ·simp only [ah] at hx hy;subst hx;subst hy;simp only [yd] at h;subst h;exact ⟨_,by simp only [Builtin.max2,Sem.run_pure];rfl,by simp only [ah]⟩
 ·rename_i k p k' q;simp only [ah] at hx hy;subst hx;subst hy
  cases ho:k.format.order p q with
  | none=>simp [ho] at h
  | some c=>cases c<;>(simp only [ho,yd] at h;subst h;exact ⟨_,by simp only [Builtin.max2,ho,Sem.run_pure];rfl,by simp only [ah]⟩)
 ·cases h
def QT {ae:Nat->Nat} {f:AV->AV->Option AV} {g:yh->yh->Sem yh} (hfg:∀va vb v x y,ah ae m S w va x->ah ae m S w vb y->f va vb=some v->∃u,(g x y).run O.P w= .ok u w/\ah ae m S w v u):
  ∀(l:List AV) (us:List yh) (va v:AV) (x:yh),ah ae m S w va x->av ae m S w l us->AM f va l=some v->∃u,(us.foldlM g x).run O.P w= .ok u w/\ah ae m S w v u
 | [],us,va,v,x,hx,hl,h=>by
  simp only [av] at hl;subst hl;simp only [AM,yd] at h;subst h;exact ⟨x,by simp,hx⟩
 | b::l,us,va,v,x,hx,hl,h=>by
  simp only [av] at hl;obtain ⟨u,r,rfl,hu,hr⟩:=hl;simp only [AM] at h
  cases hf:f va b with
  | none=>simp [hf] at h
  | some c=>
   simp only [hf] at h;obtain ⟨u1,h1,h2⟩:=hfg _ _ _ _ _ hx hu hf;obtain ⟨u2,h3,h4⟩:=QT hfg l r c v u1 h2 hr h;exact ⟨u2,by simp [h1,h3],h4⟩
def Rz {t:yF} {vx v:AV} {x:yh} {ty:yF} (hh:aR O m S w hp ct) (hx:ah O.ae m S w vx x)
  {k:Nat} (hu:(k=0/\O.P.underlying t=some .string)\/(k=1/\∃e,O.P.underlying t=some (.slice e))\/(k=2/\∃kt e,O.P.underlying t=some (.map kt e)))
  (h:jv hp k vx=some v):∃u,(Builtin.len_ #[t] ty #[x]).run O.P w= .ok u w/\ah O.ae m S w v u:=by
 rcases hu with ⟨rfl,hu⟩ | ⟨rfl,e,hu⟩ | ⟨rfl,kt,e,hu⟩
 all_goals cases vx<;>simp only [jv,reduceCtorEq] at h
 case inl.str s=>
  simp only [ah] at hx;obtain ⟨b,rfl,rfl⟩:=hx;simp only [yd] at h;subst h;refine ⟨_,by simp [Builtin.len_,run_underlying hu];rfl,?_⟩
  simp only [ah,goInt];rw [Lib.size_eq];simp
 case inr.inl.af=>
  simp only [ah] at hx;subst hx;simp only [yd] at h;subst h;exact ⟨_,by simp [Builtin.len_,run_underlying hu];rfl,by simp [ah,goInt]⟩
 case inr.inl.aC ex n cs=>
  simp only [ah] at hx;rcases hx with ⟨b,o,c,rfl,_⟩ | ⟨a,rfl,rfl,rfl⟩
  all_goals
   simp only [yd] at h;subst h;exact ⟨_,by simp [Builtin.len_,run_underlying hu];rfl,by simp [ah,goInt]⟩
 case inr.inl.ay id o n=>
  simp only [ah] at hx;obtain ⟨p,c,_,rfl,_⟩:=hx;simp only [yd] at h;subst h;exact ⟨_,by simp [Builtin.len_,run_underlying hu];rfl,by simp [ah,goInt]⟩
 case inr.inr.jQ=>
  simp only [ah] at hx;subst hx;simp only [yd] at h;subst h;exact ⟨_,by simp [Builtin.len_,run_underlying hu];rfl,by simp [ah,goInt]⟩
 case inr.inr.jz ks vs=>
  simp only [ah] at hx;obtain ⟨b,es,clock,rfl,_,_,_,hb,h1,_⟩:=hx;simp only [yd] at h;subst h;refine ⟨_,by simp [Builtin.len_,run_underlying hu,getObj,Sem.run,hb];rfl,?_⟩
  have:=gM _ _ h1
  simp only [ah,goInt];rw [<-this];simp
 case inr.inr.map id=>
  simp only [ah] at hx;obtain ⟨p,hm,rfl⟩:=hx
  split at h
  case h_2=>cases h
  rename_i Uz ks vs CA;simp only [yd] at h;subst h;obtain ⟨p',es,clock,gm,hb,h1,_⟩:=hh.obj id _ _ CA hm;rw [hm] at gm;injection gm with gm;subst gm
  refine ⟨_,by simp [Builtin.len_,run_underlying hu,getObj,Sem.run,hb];rfl,?_⟩
  have:=gM _ _ h1
  simp only [ah,goInt];rw [<-this];simp
end
end
section
open Go
section
variable {O:br} {H:Hint} {m:Mp} {S:Nat->Prop} {w:yi} {tm:Env} {a:Act} {hp:Hp} {ct:Nat}
def D5 {t:yF} {z:AV} (h:lB O.P t=some z):∃v,(zeroValue t).run O.P w= .ok v w/\z=eD v:=by
 unfold lB at h
 cases hi:O.P.info? t with
 | none=>simp [hi] at h
 | some i=>
  simp only [hi] at h
  cases hz:i.zero with
  | none=>simp [hz] at h
  | some v=>
   simp only [hz,yd] at h;exact ⟨v,by simp [zeroValue,typeInfo,hi,hz],h.symm⟩
def Reads (O:br) (m:Mp) (S:Nat->Prop) (w:yi) (a:Act) (o:yZ) (v:AV):Prop:=
 ∃u,(execOp a.eval o).run O.P w= .ok (.value u) w/\ah O.ae m S w v u
def jV {o:yZ} {v:AV} {s:Sem yh} (he:execOp a.eval o=(do pure (.value (<-s)):Sem yar)) (h:∃u,s.run O.P w= .ok u w/\ah O.ae m S w v u):Reads O m S w a o v:=by
 obtain ⟨u,h1,h2⟩:=h;exact ⟨u,by rw [he];simp [h1],h2⟩
def akz {o:yZ} {op:wX} {t ty:yF} {x y:xy} {k:Nat} {v:AV} (hH:fj O H) (ht:bT O m S w tm a.tmps) (ho:o.op= .binOp op t x y ty)
  (hv:bl tm hp (aS O.P H k o)=some v):Reads O m S w a o v:=by
 have rx:=ck hH ht x;have ry:=ck hH ht y;have guard:∀{u:yh},(∀xs ys,¬(a.eval x= .agg xs/\a.eval y= .agg ys))\/O.P.eqGuardType O.P.depth t=false->a.eval x≠.nilIface->(xT op t (a.eval x) (a.eval y)).run O.P w= .ok u w->
   (do eqGuard op t x y (a.eval x) (a.eval y);xT op t (a.eval x) (a.eval y):Sem yh).run O.P w= .ok u w:=by
  intro u h1 h2 h3
  simp only [Sem.run_bind,ahA (P:=O.P) (w:=w) (t:=t) (op:=op) (x:=x) (y:=y) (h1.symm) h2,Result.andThen_ok,h3]
 have plain:bl tm hp (.bin op (aK H x) (aK H y))=some v->Reads O m S w a o v:=by
  intro hv;simp only [bl] at hv;obtain ⟨u,h1,h2⟩:=akv (P:=O.P) (t:=t) rx ry hv
  refine jV (s:=do eqGuard op t x y (a.eval x) (a.eval y);xT op t (a.eval x) (a.eval y)) (by simp only [execOp,ho]) ⟨u,guard (.inl ?_) ?_ h1,h2⟩
  ·rintro xs ys ⟨e1,e2⟩;rw [e1] at rx;unfold VE.binOp at hv
   split at hv
   ·rename_i h3 _;rw [h3] at rx;simp [ah] at rx
   ·rename_i h3 _;rw [h3] at rx;simp [ah] at rx
   ·rename_i h3 _;rw [h3] at rx;simp [ah] at rx
   ·cases hv
  ·intro e1;rw [e1] at rx;unfold VE.binOp at hv
   split at hv
   ·rename_i h3 _;rw [h3] at rx;simp [ah] at rx
   ·rename_i h3 _;rw [h3] at rx;simp [ah] at rx
   ·rename_i h3 _;rw [h3] at rx;simp [ah] at rx
   ·cases hv
 have other:∀(ne:Bool) (kd:VE.Ov),(op= .eql/\ne=false\/op= .neq/\ne=true)->(∀r,jS kd (az tm (aK H x)) (az tm (aK H y))=some r->(Op.equal t (a.eval x) (a.eval y)).run O.P w= .ok r w/\
    ((∀xs ys,¬(a.eval x= .agg xs/\a.eval y= .agg ys))\/O.P.eqGuardType O.P.depth t=false)/\a.eval x≠.nilIface/\
    ∀q:Bool,(op= .eql->xT op t (a.eval x) (a.eval y)=(do pure (.bool (<-Op.equal t (a.eval x) (a.eval y)))))/\(op= .neq->xT op t (a.eval x) (a.eval y)=(do pure (.bool (!(<-Op.equal t (a.eval x) (a.eval y)))))))->
   bl tm hp (.eq ne kd (aK H x) (aK H y))=some v->Reads O m S w a o v:=by
  intro ne kd jg jA hv;simp only [bl] at hv
  cases he:jS kd (az tm (aK H x)) (az tm (aK H y)) with
  | none=>simp [he] at hv
  | some r=>
   simp only [he,yd] at hv;subst hv;obtain ⟨h1,h2,h3,h4⟩:=jA r he;obtain ⟨h5,h6⟩:=h4 true
   refine jV (s:=do eqGuard op t x y (a.eval x) (a.eval y);xT op t (a.eval x) (a.eval y)) (by simp only [execOp,ho]) ⟨.bool (ne !=r),guard h2 h3 ?_,by simp [ah]⟩
   rcases jg with ⟨rfl,rfl⟩ | ⟨rfl,rfl⟩
   ·rw [h5 rfl];simp [h1]
   ·rw [h6 rfl];simp [h1]
 have pB:O.P.underlying t=some .bool->∀r,jS .b (az tm (aK H x)) (az tm (aK H y))=some r->∃p q,a.eval x= .bool p/\a.eval y= .bool q/\(Op.equal t (a.eval x) (a.eval y)).run O.P w= .ok r w:=by
  intro hu r he;cases hx:az tm (aK H x)<;>cases hy:az tm (aK H y)<;>rw [hx,hy] at he<;>simp only [jS,reduceCtorEq] at he
  rw [hx] at rx;rw [hy] at ry;simp only [ah] at rx ry;simp only [yd] at he;refine ⟨_,_,rx,ry,?_⟩;rw [rx,ry,LJ,<-he];exact apk hu
 have pS:∀e,O.P.underlying t=some (.slice e)->∀r,jS .sl (az tm (aK H x)) (az tm (aK H y))=some r->∃p n c q n' c',a.eval x= .slice p n c/\a.eval y= .slice q n' c'/\(Op.equal t (a.eval x) (a.eval y)).run O.P w= .ok r w:=by
  intro e hu r he;have h1:=am4 hu rx ry he;have sl:∀{v:AV} {u:yh},ah O.ae m S w v u->(v= .af\/(∃a b c,v= .aC a b c)\/∃a b c,v= .ay a b c)->∃p n c,u= .slice p n c:=by
   intro v u hr hv;rcases hv with rfl | ⟨_,_,_,rfl⟩ | ⟨_,_,_,rfl⟩
   ·simp only [ah] at hr;exact ⟨_,_,_,hr⟩
   ·simp only [ah] at hr;rcases hr with ⟨b,o,c,hr,_⟩ | ⟨_,hr,_⟩<;>exact ⟨_,_,_,hr⟩
   ·simp only [ah] at hr;obtain ⟨b,c,_,hr,_⟩:=hr;exact ⟨_,_,_,hr⟩
  have cA:(az tm (aK H x)= .af\/(∃a b c,az tm (aK H x)= .aC a b c)\/∃a b c,az tm (aK H x)= .ay a b c)/\
    (az tm (aK H y)= .af\/(∃a b c,az tm (aK H y)= .aC a b c)\/∃a b c,az tm (aK H y)= .ay a b c):=by
   cases hx:az tm (aK H x)<;>cases hy:az tm (aK H y)<;>rw [hx,hy] at he<;>simp [jS] at he ⊢
  obtain ⟨p,n,c,e1⟩:=sl rx cA.1;obtain ⟨q,n',c',e2⟩:=sl ry cA.2;exact ⟨p,n,c,q,n',c',e1,e2,h1⟩
 have pF:∀ps rs vr,O.P.underlying t=some (.func ps rs vr)->∀r,jS .fn (az tm (aK H x)) (az tm (aK H y))=some r->
   ((a.eval x= .nilFunc\/∃f p q,a.eval x= .func f p q)/\(a.eval y= .nilFunc\/∃f p q,a.eval y= .func f p q))/\(Op.equal t (a.eval x) (a.eval y)).run O.P w= .ok r w:=by
  intro ps rs vr hu r he;have h1:=am5 hu rx ry he;have sl:∀{v:AV} {u:yh},ah O.ae m S w v u->(v= .iF\/(∃a b c,v= .fn a b c))->(u= .nilFunc\/∃f p q,u= .func f p q):=by
   intro v u hr hv;rcases hv with rfl | ⟨f,_,_,rfl⟩
   ·simp only [ah] at hr;exact .inl hr
   ·cases f with
    | f g=>simp only [ah] at hr;obtain ⟨b,c,hr,_⟩:=hr;exact .inr ⟨_,_,_,hr⟩
    | y l=>simp only [ah] at hr;obtain ⟨b,_,hr⟩:=hr;exact .inr ⟨_,_,_,hr⟩
  have cA:(az tm (aK H x)= .iF\/(∃a b c,az tm (aK H x)= .fn a b c))/\(az tm (aK H y)= .iF\/(∃a b c,az tm (aK H y)= .fn a b c)):=by
   cases hx:az tm (aK H x)<;>cases hy:az tm (aK H y)<;>rw [hx,hy] at he<;>simp [jS] at he ⊢
  exact ⟨⟨sl rx cA.1,sl ry cA.2⟩,h1⟩
 have pA:∀ks,kinds O.P 20 t=some ks->dO O.P t=some true->O.P.stoodInHeld t=false->∀r,jS (.ag ks) (az tm (aK H x)) (az tm (aK H y))=some r->∃p q,a.eval x= .agg p/\a.eval y= .agg q/\(Op.equal t (a.eval x) (a.eval y)).run O.P w= .ok r w:=by
  intro ks hk ha aQ r he;cases hx:az tm (aK H x)<;>cases hy:az tm (aK H y)<;>rw [hx,hy] at he<;>simp only [jS,reduceCtorEq] at he
  rw [hx] at rx;rw [hy] at ry;simp only [ah] at rx ry;obtain ⟨p,e1,h1⟩:=rx;obtain ⟨q,e2,h2⟩:=ry;refine ⟨p,q,e1,e2,?_⟩;rw [e1,e2,LJ];exact Ry 20 t ks hk aQ 10000 (by omega) _ _ _ _ r _ _ h1 h2 he (.inl ⟨ha,by simp⟩) (.inl ⟨ha,by simp⟩)
 have eqs:∀(ne:Bool),(op= .eql/\ne=false\/op= .neq/\ne=true)->bl tm hp (nA O.P H ne op t x y)=some v->Reads O m S w a o v:=by
  intro ne jg hv;have agg:dO O.P t=some true->bl tm hp (oA O.P H ne t x y)=some v->Reads O m S w a o v:=by
   intro ha hv;unfold oA at hv
   cases hk:kinds O.P 20 t with
   | none=>rw [hk] at hv;exact (dG hv).elim
   | some ks=>
    simp only [hk] at hv
    cases hc:(O.P.stoodInHeld t||O.P.eqGuardType O.P.depth t) with
    | true=>rw [hc] at hv;exact (dG hv).elim
    | false=>
     rw [hc] at hv;simp only [yH] at hv;simp only [Bool.or_eq_false_iff] at hc;refine other ne (.ag ks) jg (fun r hr=>?_) hv;obtain ⟨p,q,e1,e2,h1⟩:=pA ks hk ha hc.1 r hr;refine ⟨h1,.inr hc.2,by rw [e1];simp,fun _=>?_⟩
     rw [e1,e2];exact ⟨fun e=>by subst e;rfl,fun e=>by subst e;rfl⟩
  unfold nA at hv
  split at hv
  ·exact plain hv
  ·exact plain hv
  ·exact plain hv
  ·rename_i hu;refine other ne .b jg (fun r hr=>?_) hv;obtain ⟨p,q,e1,e2,h1⟩:=pB hu r hr;refine ⟨h1,.inl (by rw [e1];simp),by rw [e1];simp,fun _=>?_⟩
   rw [e1,e2];exact ⟨fun e=>by subst e;rfl,fun e=>by subst e;rfl⟩
  ·rename_i e hu;refine other ne .sl jg (fun r hr=>?_) hv;obtain ⟨p,n,c,q,n',c',e1,e2,h1⟩:=pS e hu r hr;refine ⟨h1,.inl (by rw [e1];simp),by rw [e1];simp,fun _=>?_⟩
   rw [e1,e2];exact ⟨fun e=>by subst e;rfl,fun e=>by subst e;rfl⟩
  ·rename_i ps rs vr hu;refine other ne .fn jg (fun r hr=>?_) hv;obtain ⟨⟨e1,e2⟩,h1⟩:=pF ps rs vr hu r hr;refine ⟨h1,.inl ?_,?_,fun _=>?_⟩
   ·rcases e1 with e1 | ⟨_,_,_,e1⟩<;>rw [e1]<;>simp
   ·rcases e1 with e1 | ⟨_,_,_,e1⟩<;>rw [e1]<;>simp
   ·rcases e1 with e1 | ⟨_,_,_,e1⟩<;>rcases e2 with e2 | ⟨_,_,_,e2⟩<;>rw [e1,e2]<;>exact ⟨fun e=>by subst e;rfl,fun e=>by subst e;rfl⟩
  ·rename_i fs hu;exact agg (by simp [dO,hu]) hv
  ·rename_i k0 e hu;exact agg (by simp [dO,hu]) hv
  ·exact (dG hv).elim
 cases op
 case eql=>exact eqs false (.inl ⟨rfl,rfl⟩) (by simpa only [aS,ho] using hv)
 case neq=>exact eqs true (.inr ⟨rfl,rfl⟩) (by simpa only [aS,ho] using hv)
 all_goals exact plain (by simpa only [aS,ho] using hv)
end
end
section
open Go
section
variable {O:br} {H:Hint} {m:Mp} {S:Nat->Prop} {w:yi} {tm:Env} {a:Act} {hp:Hp} {ct:Nat}
def DN {o:yZ} {b:Builtin} {args:Array xy} {ts:Array yF} (ho:o.op= .call {callee:= .builtin b,args:=args,argTypes:=ts}):
  ∃cs,(execOp a.eval o).run O.P w=(builtin b ts o.type cs (args.map a.eval)).run O.P w:=by
 exact ⟨_,by simp only [execOp,ho,resolve,Sem.run_bind,Sem.run_pure,Result.andThen_ok,invoke];rfl⟩
def aiD {o:yZ} {c:Call} {k:Nat} {v:AV} (hH:fj O H) (ht:bT O m S w tm a.tmps) (hh:aR O m S w hp ct) (ho:o.op= .call c)
  (hv:bl tm hp (aS O.P H k o)=some v):Reads O m S w a o v:=by
 obtain ⟨callee,args,ts⟩:=c;simp only [aS,ho] at hv
 split at hv
 ·cases De:H.mode k<;>simp [De,bl] at hv
 ·rename_i _ b
  split at hv
  ·have key:∀{bb:Bool} {sz by':Nat} {x y:X},bl tm hp (bif bb then .cR sz by' x y else bad)=some v->False:=by
    intro bb sz by' x y h
    cases bb
    ·exact dG h
    ·simp [bl] at h
   split at hv
   ·split at hv
    ·exact (key hv).elim
    ·simp_all
   ·split at hv
    ·exact (key hv).elim
    ·simp_all
   ·simp_all
  ·rename_i x t fQ mE;obtain ⟨al⟩:=args;obtain ⟨tl⟩:=ts;simp only at fQ mE;subst fQ;subst mE;obtain ⟨cs,eL⟩:=DN (O:=O) (w:=w) (a:=a) ho;have fin:(∃u,(Builtin.len_ #[t] o.type #[a.eval x]).run O.P w= .ok u w/\ah O.ae m S w v u)->Reads O m S w a o v:=by
    rintro ⟨u,h1,h2⟩;refine ⟨u,?_,h2⟩;rw [eL];simp [builtin,h1]
   split at hv
   ·rename_i n e hu;simp only [bl,az,yd] at hv;subst hv;exact fin ⟨_,by simp [Builtin.len_,run_underlying hu];rfl,by simp [ah,goInt]⟩
   ·rename_i hu;simp only [bl] at hv;exact fin (Rz hh (ck hH ht x) (.inl ⟨rfl,hu⟩) hv)
   ·rename_i e hu;simp only [bl] at hv;exact fin (Rz hh (ck hH ht x) (.inr (.inl ⟨rfl,e,hu⟩)) hv)
   ·rename_i kt e hu;simp only [bl] at hv;exact fin (Rz hh (ck hH ht x) (.inr (.inr ⟨rfl,kt,e,hu⟩)) hv)
   ·exact (dG hv).elim
  ·split at hv
   ·split at hv
    ·simp [bl] at hv
    ·exact (dG hv).elim
   ·exact (dG hv).elim
  ·simp only [bl] at hv;obtain ⟨cs,eL⟩:=DN (O:=O) (w:=w) (a:=a) ho;have hl:=Cg hH ht args.toList
   cases hx:di tm (gO H args.toList) with
   | nil=>simp [hx] at hv
   | cons c r=>
    simp only [hx] at hv;rw [hx] at hl;simp only [av] at hl;obtain ⟨u,us,h1,h2,h3⟩:=hl;obtain ⟨q,h4,h5⟩:=QT (O:=O) (g:=Builtin.min2) (fun va vb v x y hx hy h=>am7 hx hy h) r us c v u h2 h3 hv;refine ⟨q,?_,h5⟩;rw [eL];simp [builtin,Builtin.min_,h1,h4]
  ·simp only [bl] at hv;obtain ⟨cs,eL⟩:=DN (O:=O) (w:=w) (a:=a) ho;have hl:=Cg hH ht args.toList
   cases hx:di tm (gO H args.toList) with
   | nil=>simp [hx] at hv
   | cons c r=>
    simp only [hx] at hv;rw [hx] at hl;simp only [av] at hl;obtain ⟨u,us,h1,h2,h3⟩:=hl;obtain ⟨q,h4,h5⟩:=QT (O:=O) (g:=Builtin.max2) (fun va vb v x y hx hy h=>am8 hx hy h) r us c v u h2 h3 hv;refine ⟨q,?_,h5⟩;rw [eL];simp [builtin,Builtin.max_,h1,h4]
  ·exact (dG hv).elim
 ·exact (dG hv).elim
def Xa {kt:yF} {kk:Nat} {vk:AV} (hk:keyOf O.P kt=some kk) (h:sO kk vk=true):∃d,O.P.underlying kt=some d/\Nb d=true/\fits d vk=true:=by
 unfold keyOf at hk
 split at hk
 ·rename_i hu;simp only [yd] at hk;subst hk;refine ⟨_,hu,rfl,?_⟩;cases vk<;>simp_all [sO,fits]
 ·rename_i hu;simp only [yd] at hk;subst hk;refine ⟨_,hu,rfl,?_⟩;cases vk<;>simp_all [sO,fits]
 ·rename_i hu;simp only [yd] at hk;subst hk;refine ⟨_,hu,rfl,?_⟩;cases vk<;>simp_all [sO,fits]
 ·cases hk
def ZV {o:yZ} {k:Nat} {v:AV} (hH:fj O H) (ht:bT O m S w tm a.tmps) (hh:aR O m S w hp ct)
  (hv:bl tm hp (aS O.P H k o)=some v):Reads O m S w a o v:=by
 cases ho:o.op with
 | call c=>exact aiD hH ht hh ho hv
 | binOp op t x y ty=>exact akz hH ht ho hv
 | move x=>
  simp only [aS,ho,bl,yd] at hv;subst hv;exact ⟨_,by simp only [execOp,ho,Sem.run_pure],ck hH ht x⟩
 | assign x=>
  simp only [aS,ho,bl,yd] at hv;subst hv;exact ⟨_,by simp only [execOp,ho,Sem.run_pure],ck hH ht x⟩
 | pick c x y=>
  simp only [aS,ho,bl] at hv;have rc:=ck hH ht c;cases hc:az tm (aK H c)<;>rw [hc] at hv<;>simp only [reduceCtorEq] at hv
  rename_i b;rw [hc] at rc;simp only [ah] at rc;simp only [yd] at hv;subst hv
  cases b with
  | true=>exact ⟨a.eval x,by simp [execOp,ho,rc,asBool],ck hH ht x⟩
  | false=>exact ⟨a.eval y,by simp [execOp,ho,rc,asBool],ck hH ht y⟩
 | load t x=>
  simp only [aS,ho] at hv
  split at hv
  ·rename_i s ag hz ha;simp only [bl] at hv;exact jV (by simp only [execOp,ho]) (aso hh hz ha (ck hH ht x) hv)
  ·exact (dG hv).elim
 | fieldAddr t x i=>
  simp only [aS,ho] at hv
  split at hv
  ·rename_i fs hu
   split at hv
   ·rename_i f hf
    split at hv
    ·rename_i s hz;simp only [bl] at hv;exact jV (by simp only [execOp,ho]) (apl hu hf hz (ck hH ht x) hv)
    ·exact (dG hv).elim
   ·exact (dG hv).elim
  ·exact (dG hv).elim
 | field t x i=>
  simp only [aS,ho] at hv
  split at hv
  ·rename_i fs hu
   split at hv
   ·rename_i f hf
    split at hv
    ·rename_i s ag hz ha;simp only [bl] at hv;exact jV (by simp only [execOp,ho]) (apm hu hf hz ha (ck hH ht x) hv)
    ·exact (dG hv).elim
   ·exact (dG hv).elim
  ·exact (dG hv).elim
 | nilCheck x=>
  simp only [aS,ho,bl] at hv;have rx:=ck hH ht x;cases hx:az tm (aK H x)<;>rw [hx] at hv rx<;>simp only [reduceCtorEq,yd] at hv
  ·subst hv;have r':=rx;simp only [ah] at r';obtain ⟨p,_,e⟩:=r';exact ⟨a.eval x,by simp only [execOp,ho,e,Sem.run_pure],rx⟩
  ·subst hv;have r':=rx;simp only [ah] at r';obtain ⟨b,o',e,_⟩:=r';exact ⟨a.eval x,by simp only [execOp,ho,e,Sem.run_pure],rx⟩
  ·subst hv;rename_i f _ _
   cases f with
   | f g=>
    have r':=rx;simp only [ah] at r';obtain ⟨fi,ca,e,_⟩:=r';exact ⟨a.eval x,by simp only [execOp,ho,e,Sem.run_pure],rx⟩
   | y l=>
    have r':=rx;simp only [ah] at r';obtain ⟨p,_,e⟩:=r';exact ⟨a.eval x,by simp only [execOp,ho,e,Sem.run_pure],rx⟩
 | unOp op t x=>
  simp only [aS,ho,bl] at hv;exact jV (by simp only [execOp,ho]) (am6 (ck hH ht x) hv)
 | convert s d x=>
  simp only [aS,ho] at hv
  split at hv
  ·rename_i k1 k2 hs hd;simp only [bl] at hv;exact jV (by simp only [execOp,ho]) (YO hd (.inl ⟨_,hs⟩) (ck hH ht x) hv)
  ·rename_i k1 k2 hs hd;simp only [bl] at hv;exact jV (by simp only [execOp,ho]) (YO hd (.inr ⟨_,hs⟩) (ck hH ht x) hv)
  ·rename_i k1 k2 hs hd;simp only [bl] at hv;exact jV (by simp only [execOp,ho]) (YP hd (.inl ⟨_,hs⟩) (ck hH ht x) hv)
  ·rename_i k1 k2 hs hd;simp only [bl] at hv;exact jV (by simp only [execOp,ho]) (YP hd (.inr ⟨_,hs⟩) (ck hH ht x) hv)
  ·rename_i hs hd;simp only [bl] at hv;exact jV (by simp only [execOp,ho]) (akw hd hs (ck hH ht x) hv)
  ·exact (dG hv).elim
 | makeFunc fn first cap=>
  cases fn with
  | func f=>
   simp only [aS,ho] at hv
   split at hv
   ·rename_i g hg;simp only [bl,yd] at hv;subst hv;refine ⟨.func (.func f) (first.map a.eval) (cap.map a.eval),by simp [execOp,ho,Instr.makeFunc],?_⟩;simp only [ah];exact ⟨_,_,by rw [hH f g hg],by simpa using Cg hH ht first.toList,by simpa using Cg hH ht cap.toList⟩
   ·exact (dG hv).elim
  | _=>simp only [aS,ho] at hv;exact (dG hv).elim
 | slice t x lo hi mx=>
  cases mx with
  | some q=>simp only [aS,ho] at hv;exact (dG hv).elim
  | none=>
   simp only [aS,ho] at hv
   split at hv
   ·rename_i hu;simp only [bl] at hv;exact jV (by simp only [execOp,ho];rfl) (aiB hH ht hu (ck hH ht x) hv)
   ·rename_i e hu
    split at hv
    ·rename_i s hz;simp only [bl] at hv;exact jV (by simp only [execOp,ho];rfl) (akx hH ht hu hz hh (ck hH ht x) hv)
    ·exact (dG hv).elim
   ·split at hv
    ·simp only [bl] at hv;cases hx:az tm (aK H x)<;>rw [hx] at hv<;>simp [fB] at hv
    ·exact (dG hv).elim
   ·exact (dG hv).elim
 | indexAddr t x i=>
  simp only [aS,ho] at hv
  split at hv
  ·rename_i e hu
   split at hv
   ·rename_i s hz;simp only [bl] at hv
    cases hk:dI (az tm (aK H i)) with
    | none=>simp [hk] at hv
    | some j=>
     simp only [hk] at hv;exact jV (by simp only [execOp,ho]) (apo hu hz (ck hH ht x) (ck hH ht i) hk hv)
   ·exact (dG hv).elim
  ·rename_i n e hu
   split at hv
   ·rename_i s hz;simp only [bl] at hv
    cases hk:dI (az tm (aK H i)) with
    | none=>simp [hk] at hv
    | some j=>
     simp only [hk] at hv;exact jV (by simp only [execOp,ho]) (apq hu hz (ck hH ht x) (ck hH ht i) hk hv)
   ·exact (dG hv).elim
  ·exact (dG hv).elim
 | index t x i=>
  simp only [aS,ho] at hv
  split at hv
  ·rename_i hu;simp only [bl] at hv
   cases hk:dI (az tm (aK H i)) with
   | none=>simp [hk] at hv
   | some j=>
    simp only [hk] at hv;exact jV (by simp only [execOp,ho]) (aps hu (ck hH ht x) (ck hH ht i) hk hv)
  ·rename_i n e hu
   split at hv
   ·rename_i s ag hz ha;simp only [bl] at hv
    cases hk:dI (az tm (aK H i)) with
    | none=>simp [hk] at hv
    | some j=>
     simp only [hk] at hv;exact jV (by simp only [execOp,ho]) (apr hu hz ha (ck hH ht x) (ck hH ht i) hk hv)
   ·exact (dG hv).elim
  ·exact (dG hv).elim
 | lookup t x i ok=>
  simp only [aS,ho] at hv
  split at hv
  ·rename_i kt e hu
   split at hv
   ·rename_i kk z qh hz;simp only [bl] at hv
    cases hf:sO kk (az tm (aK H i)) with
    | false=>simp [hf] at hv
    | true=>
     simp only [hf,yx] at hv;obtain ⟨d,kF,gT,UB⟩:=Xa qh hf;obtain ⟨zv,lP,rfl⟩:=D5 (w:=w) hz
     cases hr:AN hp (az tm (aK H i)) (az tm (aK H x)) with
     | none=>simp [hr] at hv
     | some r=>
      refine jV (by simp only [execOp,ho]) (apt (ok:=ok) (r:=r) (z:=eD zv) hh hu kF gT UB lP (ck hH ht x) (ck hH ht i) (L6 zv) hr ?_);cases r<;>simpa [hr] using hv
   ·exact (dG hv).elim
  ·exact (dG hv).elim
 | extract x i=>
  simp only [aS,ho,bl] at hv;have rx:=ck hH ht x;cases hx:az tm (aK H x)<;>rw [hx] at hv rx<;>simp only [reduceCtorEq] at hv
  simp only [ah] at rx;obtain ⟨xs,e,hr⟩:=rx;obtain ⟨u,h1,h2⟩:=Qr hr hv;refine ⟨u,?_,h2⟩;have Br:xs[i]? =some u:=by simpa using h1
  simp [execOp,ho,e,Instr.extract,Br]
 | build t parts=>
  simp only [aS,ho] at hv
  split at hv
  ·rename_i fs z hu hz
   split at hv
   ·rename_i pl at5;have mY:=run_places (P:=O.P) w fs.toList pl at5
    split at hv
    case h_2=>exact (dG hv).elim
    rename_i ps fa;simp only [bl] at hv
    cases hf:fill tm z ps with
    | none=>simp [hf] at hv
    | some cs=>
     simp only [hf,yd] at hv;subst hv;obtain ⟨zv,lP,iP⟩:=D5 (w:=w) hz;have zJ:av O.ae m S w z zv.cells.toList:=by
      have:=BU (ae:=O.ae) (m:=m) (S:=S) (w:=w) zv
      rw [<-iP] at this;exact this
     obtain ⟨out,h1,h2⟩:=L8 hH ht (place:=fun i=>pl[i]?) parts.toList ps z cs zv.cells fa zJ hf;refine ⟨.agg out,?_,by simp only [ah];exact ⟨out,rfl,h2⟩⟩
     have hm:(Array.mapM (fun f=>Functor.map (Prod.mk f.offset) (vt f.type)) fs:Sem (Array (Nat×Nat))).run O.P w= .ok pl.toArray w:=by
      rw [Array.mapM_eq_mapM_toList];simp [mY]
     simp [execOp,ho,Instr.build,lP,run_underlying hu,hm,h1]
   ·exact (dG hv).elim
  ·rename_i n e z hu hz
   split at hv
   ·rename_i s hs
    split at hv
    ·rename_i ps fa;simp only [bl] at hv
     cases hf:fill tm z ps with
     | none=>simp [hf] at hv
     | some cs=>
      simp only [hf,yd] at hv;subst hv;obtain ⟨zv,lP,iP⟩:=D5 (w:=w) hz;have zJ:av O.ae m S w z zv.cells.toList:=by
       have:=BU (ae:=O.ae) (m:=m) (S:=S) (w:=w) zv
       rw [<-iP] at this;exact this
      obtain ⟨out,h1,h2⟩:=L8 hH ht (place:=fun i=>some (i*s,s)) parts.toList ps z cs zv.cells fa zJ hf;refine ⟨.agg out,?_,by simp only [ah];exact ⟨out,rfl,h2⟩⟩
      simp [execOp,ho,Instr.build,lP,run_underlying hu,nl hs,h1]
    ·exact (dG hv).elim
   ·exact (dG hv).elim
  ·exact (dG hv).elim
 | alloc t=>simp only [aS,ho] at hv;split at hv<;>simp [bl,bad] at hv
 | box t x=>simp only [aS,ho] at hv;split at hv<;>simp [bl,bad] at hv
 | buildSlice t n parts=>
  simp only [aS,ho] at hv
  split at hv
  ·split at hv
   ·rename_i s z _ _
    cases hc:yG (n*s) 16777216 with
    | false=>rw [hc] at hv;exact (dG hv).elim
    | true=>
     rw [hc] at hv;simp only [yx] at hv
     split at hv
     ·simp [bl] at hv
     ·exact (dG hv).elim
   ·exact (dG hv).elim
  ·exact (dG hv).elim
 | makeMap t r=>
  cases r<;>simp only [aS,ho] at hv
  ·repeat' split at hv
   all_goals simp [bl,bad] at hv
  ·exact (dG hv).elim
 | makeSlice t l c=>
  simp only [aS,ho] at hv
  repeat' split at hv
  all_goals simp [bl,bad] at hv
 | insert t x k y=>
  simp only [aS,ho] at hv
  repeat' split at hv
  all_goals simp [bl,bad] at hv
 | mapUpdate t x k y=>
  simp only [aS,ho] at hv
  repeat' split at hv
  all_goals simp [bl,bad] at hv
 | store t x y=>simp only [aS,ho] at hv;split at hv<;>simp [bl,bad] at hv
 | range t x=>simp only [aS,ho] at hv;split at hv<;>simp [bl,bad] at hv
 | next x b=>cases b<;>simp [aS,ho,bl,bad] at hv
 | _=>simp [aS,ho,bl,bad] at hv
end
end
section
open Go
def fC (m:Mp) (id:Nat) (p:Pl):Mp:=fun i=>if i=id then some p else m i
def dN {m:Mp} {id:Nat} {p:Pl}:fC m id p id=some p:=by simp [fC]
def dZ {m:Mp} {id i:Nat} {p:Pl} (h:i≠id):fC m id p i=m i:=by simp [fC,h]
section
variable {O:br} {m:Mp} {S:Nat->Prop} {w:yi} {hp:Hp} {ct:Nat}
def de (m m':Mp):Prop:=∀id p,m id=some p->m' id=some p
def de.refl {m:Mp}:de m m:=fun _ _ h=>h
def de.trans {m m' JY:Mp} (h:de m m') (k:de m' JY):de m JY:=fun id p hp=>k id p (h id p hp)
def jr {i:Nat} (h:m i=none) {p:Pl}:de m (fC m i p):=by
 intro id q hq;rw [dZ]
 ·grind
 ·grind
def Ai {tm:Env} {tmps:Array yh} {m':Mp} {S':Nat->Prop} {w':yi} (hm:∀id p,m id=some p->m' id=some p) (hS:∀b,S b->S' b) (hw:fG S w w')
  (h:bT O m S w tm tmps):bT O m' S' w' tm tmps:=fun i=>lj hm hS hw _ _ (h i)
def alloc_old {o:tR} {b:Nat} (hb:b<w.heap.size):(w.alloc o).heap[b]? =w.heap[b]? :=RowKit.Below.heap_alloc w o b hb
def qK {m':Mp} {S':Nat->Prop} {w':yi} {id:Nat} {o:Obj} (hm:∀id p,m id=some p->m' id=some p) (hS:∀b,S b->S' b) (hw:fG S w w') (hb:∀p,m id=some p->w'.heap[p.b]? =w.heap[p.b]?)
  (hn:∀p,m id=some p->S' p.b->S p.b) (h:eX O m S w id o):eX O m' S' w' id o:=by
 have rowAt:∀(cs:List AV) (b k:Nat),w'.heap[b]? =w.heap[b]? ->bL O.ae m S w cs b k->bL O.ae m' S' w' cs b k:=by
  intro cs
  induction cs with
  | nil=>intro b k _ _;simp only [bL]
  | cons c cs ih=>
   intro b k rV hr;obtain ⟨⟨u,h1,h2⟩,h3⟩:=hr;exact ⟨⟨u,(KU rV).trans h1,lj hm hS hw _ _ h2⟩,ih b (k+1) rV h3⟩
 cases o with
 | cells rw pu ex sz cs=>
  obtain ⟨p,arr,t,h1,h2,h3,h4,h5,h6,h7,h8,h9,iQ⟩:=h;exact ⟨p,arr,t,hm _ _ h1,(hb p h1).trans h2,h3,h4,h5,h6,rowAt cs p.b p.o (hb p h1) h7,h8,fun hr hs=>h9 hr (hn p h1 hs),fun hr=>hS _ (iQ hr)⟩
 | mp rw ks vs=>
  obtain ⟨p,es,clock,h1,h2,h3,h4,h5,h6⟩:=h;exact ⟨p,es,clock,hm _ _ h1,(hb p h1).trans h2,gK hm hS hw _ _ h3,gK hm hS hw _ _ h4,fun hr hs=>h5 hr (hn p h1 hs),fun hr=>hS _ (h6 hr)⟩
 | si s pos=>
  obtain ⟨p,t,h1,h2,h3,h4⟩:=h;exact ⟨p,t,hm _ _ h1,(hb p h1).trans h2,h3,fun hs=>h4 (hn p h1 hs)⟩
 | lp tm ps as_ body st pe=>
  obtain ⟨p,l,hi,h1,h2,h3,h4,h5,h6,h7,h8⟩:=h;exact ⟨p,l,hi,hm _ _ h1,(hb p h1).trans h2,fun hs=>h3 (hn p h1 hs),h4,h5,h6,Ai hm hS hw h7,h8⟩
def fE {id i:Nat} {o:Obj}:an ((id,o)::hp) i=if id=i then some o else an hp i:=by
 simp only [an]
 simp_all
def Hb (hh:aR O m S w hp ct) (g:tR):fG S w (w.alloc g):=fun b hb=>alloc_old (hh.slt b hb)
def jh:Obj->Obj->Prop
 | .cells rw pu ex sz cs,o'=>∃et,o'= .cells et pu ex sz cs/\(et=true->rw=true)
 | .mp rw ks vs,o'=>∃et,o'= .mp et ks vs/\(et=true->rw=true)
 | .si s pos,o'=>o'= .si s pos
 | .lp tm ps as_ body st pe,o'=>o'= .lp tm ps as_ body st pe
def jh.refl:∀o,jh o o
 | .cells rw _ _ _ _=>⟨rw,rfl,fun h=>h⟩
 | .mp rw _ _=>⟨rw,rfl,fun h=>h⟩
 | .si _ _=>rfl
 | .lp _ _ _ _ _ _=>rfl
def jh.trans {a b c:Obj} (h:jh a b) (k:jh b c):jh a c:=by
 cases a with
 | cells rw pu ex sz cs=>
  obtain ⟨r1,rfl,h1⟩:=h;obtain ⟨r2,rfl,h2⟩:=k;exact ⟨r2,rfl,fun h=>h1 (h2 h)⟩
 | mp rw ks vs=>
  obtain ⟨r1,rfl,h1⟩:=h;obtain ⟨r2,rfl,h2⟩:=k;exact ⟨r2,rfl,fun h=>h1 (h2 h)⟩
 | si s pos=>simp only [jh] at h;subst h;exact k
 | lp tm ps as_ body st pe=>simp only [jh] at h;subst h;exact k
def cQ (hp ao:Hp):Prop:=∀id o,an hp id=some o->∃o',an ao id=some o'/\jh o o'
def cQ.refl {hp:Hp}:cQ hp hp:=fun _ o h=>⟨o,h,jh.refl o⟩
def cQ.trans {a b c:Hp} (h:cQ a b) (k:cQ b c):cQ a c:=fun id o ho=>
 let ⟨o1,h1,l1⟩:=h id o ho
 let ⟨o2,h2,l2⟩:=k id o1 h1
 ⟨o2,h2,l1.trans l2⟩
def iB:Obj->Prop
 | .cells rw _ _ _ _=>rw=false
 | .mp rw _ _=>rw=false
 | _=>False
def ZW {ao:Hp} {aW:Nat} (hh:aR O m S w hp ct) (hl:cQ hp ao) (hd:∀id o p,an ao id=some o->m id=some p->∃o',an hp id=some o') (fp:ct<=aW) (at6:∀id o,an ao id=some o->id<aW):
  ∃S',aR O m S' w ao aW/\(∀b,S b->S' b)/\∀b,S' b->S b\/dX m hp b:=by
 refine ⟨fun b=>S b\/∃id p o,m id=some p/\p.b=b/\an ao id=some o/\iB o,?_,fun b h=> .inl h,?_⟩
 ·refine ⟨?_,fun id p h=>yA (hh.lt id p h) fp,?_,?_,hh.blt,hh.low,hh.lG,hh.fP,at6⟩
  ·intro id o' p iM hm;obtain ⟨o,ho⟩:=hd id o' p iM hm;obtain ⟨UC,h1,h2⟩:=hl id o ho;rw [iM] at h1;injection h1 with h1
   subst h1;have h3:=hh.obj id o p ho hm;have hS:∀b,S b->(S b\/∃id p o,m id=some p/\p.b=b/\an ao id=some o/\iB o):=fun b h=> .inl h
   have nX:∀q,m id=some q->(∃id p o,m id=some p/\p.b=q.b/\an ao id=some o/\iB o)->iB o':=by
    rintro q hq ⟨j,pj,oj,J0,hj2,hj3,hj4⟩;obtain ⟨J3,hj5⟩:=hd j oj pj hj3 J0
    have:=hh.inj id j o J3 q pj ho hj5 hq J0 hj2.symm
    grind
   have aQ:fG S w w:=fun _ _=>rfl
   cases o with
   | cells rw pu ex sz cs=>
    obtain ⟨et,rfl,nY⟩:=h2;obtain ⟨q,arr,t,h1,h2,h3,h4,h5,h6,h7,h8,h9,iQ⟩:=h3;refine ⟨q,arr,t,h1,h2,h3,h4,h5,h6,?_,h8,?_,?_⟩
    ·clear h4 h6 h8;revert h7;generalize q.o=k
     induction cs generalizing k with
     | nil=>intro _;simp only [bL]
     | cons c cs ih=>
      intro hr;simp only [bL] at hr ⊢;obtain ⟨⟨u,g1,g2⟩,g3⟩:=hr
      exact ⟨⟨u,g1,lj (fun _ _ h=>h) hS aQ _ _ g2⟩,by
       have Dd:∀(cs:List AV) (b k:Nat),bL O.ae m S w cs b k->bL O.ae m (fun b=>S b\/∃id p o,m id=some p/\p.b=b/\an ao id=some o/\iB o) w cs b k:=by
        intro cs
        induction cs with
        | nil=>intro b k _;simp only [bL]
        | cons c cs ih=>
         intro b k hr;simp only [bL] at hr ⊢;obtain ⟨⟨u,g1,g2⟩,g3⟩:=hr;exact ⟨⟨u,g1,lj (fun _ _ h=>h) hS aQ _ _ g2⟩,ih b (k+1) g3⟩
       exact Dd _ _ _ g3⟩
    ·rintro hr (hs | hs)
     ·grind
     ·have:=nX q h1 hs
      simp only [iB] at this
      grind
    ·intro hr;exact .inr ⟨id,q,_,h1,rfl,iM,hr⟩
   | mp rw ks vs=>
    obtain ⟨et,rfl,nY⟩:=h2;obtain ⟨q,es,clock,h1,h2,h3,h4,h5,h6⟩:=h3;refine ⟨q,es,clock,h1,h2,gK (fun _ _ h=>h) hS aQ _ _ h3,gK (fun _ _ h=>h) hS aQ _ _ h4,?_,?_⟩
    ·rintro hr (hs | hs)
     ·grind
     ·have:=nX q h1 hs
      simp only [iB] at this
      grind
    ·intro hr;exact .inr ⟨id,q,_,h1,rfl,iM,hr⟩
   | si s pos=>
    simp only [jh] at h2;subst h2;refine qK (fun _ _ h=>h) hS aQ (fun _ _=>rfl) (fun q hq hs=>?_) h3;rcases hs with hs | hs
    ·grind
    ·exact (nX q hq hs).elim
   | lp tm ps as_ body st pe=>
    simp only [jh] at h2;subst h2;refine qK (fun _ _ h=>h) hS aQ (fun _ _=>rfl) (fun q hq hs=>?_) h3;rcases hs with hs | hs
    ·grind
    ·exact (nX q hq hs).elim
  ·intro i j oi oj pi pj hi hj bD gA e;obtain ⟨J4,cD⟩:=hd i oi pi hi bD;obtain ⟨J3,rW⟩:=hd j oj pj hj gA;exact hh.inj i j J4 J3 pi pj cD rW bD gA e
  ·rintro b (hb | ⟨id,p,o,h1,rfl,_,_⟩)
   ·exact hh.slt b hb
   ·exact hh.blt id p h1
 ·rintro b (hb | ⟨id,p,o,h1,rfl,h3,_⟩)
  ·exact .inl hb
  ·obtain ⟨o',iM⟩:=hd id o p h3 h1;exact .inr ⟨id,o',p,iM,h1,rfl⟩
def Qt {i:Nat} (hh:aR O m S w hp ct) (hi:m i=none) (Fj:i<ct) {g:tR} {p:Pl} (hb:p.b=w.heap.size)
  (hf:∀o,an hp i=some o->(eX O (fC m i p) S (w.alloc g) i o/\¬iB o)\/
   (iB o/\eX O (fC m i p) (fun b=>S b\/b=w.heap.size) (w.alloc g) i o)):
  ∃S',aR O (fC m i p) S' (w.alloc g) hp ct/\(∀b,S b->S' b)/\∀b,S' b->S b\/b=w.heap.size:=by
 have eH:(w.alloc g).heap.size=w.heap.size+1:=by simp
 have aZ:O.w0.heap.size<=w.heap.size:=hh.fP;have gen:∀S':Nat->Prop,(∀b,S b->S' b)->(∀b,S' b->S b\/b=w.heap.size)->(∀o,an hp i=some o->eX O (fC m i p) S' (w.alloc g) i o)->aR O (fC m i p) S' (w.alloc g) hp ct:=by
  intro S' h1 h2 h3;have J5:∀id q,m id=some q->¬q.b=w.heap.size:=fun id q hq=>by have:=hh.blt id q hq;omega
  refine ⟨?_,?_,?_,?_,?_,?_,?_,?_,hh.aP⟩
  ·intro id o q ho hm;by_cases hc:id=i
   ·grind
   ·rw [dZ hc] at hm;refine qK (jr hi) h1 (Hb hh g) (fun q' bJ=>alloc_old (hh.blt id q' bJ)) (fun q' bJ hs=>?_) (hh.obj id o q ho hm)
    grind
  ·intro id q hm;by_cases hc:id=i
   ·grind
   ·rw [dZ hc] at hm;exact hh.lt id q hm
  ·intro a b oa ob pa pb ha bQ Df zk e;by_cases ca:a=i
   ·by_cases cb:b=i
    ·grind
    ·subst ca;rw [dN] at Df;rw [dZ cb] at zk
     grind
   ·rw [dZ ca] at Df;by_cases cb:b=i
    ·subst cb;rw [dN] at zk
     grind
    ·rw [dZ cb] at zk;exact hh.inj a b oa ob pa pb ha bQ Df zk e
  ·intro b hs;rcases h2 b hs with h | h
   ·have:=hh.slt b h;omega
   ·omega
  ·intro id q hm;by_cases hc:id=i
   ·subst hc;rw [dN] at hm
    grind
   ·rw [dZ hc] at hm
    have:=hh.blt id q hm
    omega
  ·intro id q hm;by_cases hc:id=i
   ·subst hc;rw [dN] at hm
    grind
   ·rw [dZ hc] at hm;exact hh.low id q hm
  ·intro b rV;exact (alloc_old (by omega)).trans (hh.lG b rV)
  ·omega
 cases ho:an hp i with
 | none=>exact ⟨S,gen S (fun _ h=>h) (fun _ h=> .inl h) (fun o h=>by rw [ho] at h;cases h),fun _ h=>h,fun _ h=> .inl h⟩
 | some o=>
  rcases hf o ho with ⟨h1,_⟩ | ⟨_,h1⟩
  ·exact ⟨S,gen S (fun _ h=>h) (fun _ h=> .inl h) (fun o' h=>by rw [ho] at h;injection h with h;subst h;exact h1),fun _ h=>h,fun _ h=> .inl h⟩
  ·exact ⟨_,gen (fun b=>S b\/b=w.heap.size) (fun _ h=> .inl h) (fun _ h=>h) (fun o' h=>by rw [ho] at h;injection h with h;subst h;exact h1),fun _ h=> .inl h,fun _ h=>h⟩
def PE {id:Nat} {o o':Obj} {p:Pl} (hl:jh o o') (hm:m id=some p) (h:eX O m S w id o) (hn:¬iB o):
  (eX O m S w id o'/\¬iB o')\/(iB o'/\eX O m (fun b=>S b\/b=p.b) w id o'):=by
 have hS:∀b,S b->(S b\/b=p.b):=fun _ h=> .inl h
 have aQ:fG S w w:=fun _ _=>rfl
 cases o with
 | cells rw pu ex sz cs=>
  obtain ⟨et,rfl,nY⟩:=hl
  cases et with
  | true=>
   grind
  | false=>
   refine .inr ⟨rfl,?_⟩;obtain ⟨q,arr,t,h1,h2,h3,h4,h5,h6,h7,h8,h9,iQ⟩:=h;rw [hm] at h1;injection h1 with h1
   subst h1;have Dd:∀(cs:List AV) (b k:Nat),bL O.ae m S w cs b k->bL O.ae m (fun b=>S b\/b=p.b) w cs b k:=by
    intro cs
    induction cs with
    | nil=>intro b k _;simp only [bL]
    | cons c cs ih=>
     intro b k hr;obtain ⟨⟨u,g1,g2⟩,g3⟩:=hr;exact ⟨⟨u,g1,lj (fun _ _ h=>h) hS aQ _ _ g2⟩,ih b (k+1) g3⟩
   exact ⟨p,arr,t,hm,h2,h3,h4,h5,h6,Dd _ _ _ h7,h8,by simp,fun _=> .inr rfl⟩
 | mp rw ks vs=>
  obtain ⟨et,rfl,nY⟩:=hl
  cases et with
  | true=>
   grind
  | false=>
   refine .inr ⟨rfl,?_⟩;obtain ⟨q,es,clock,h1,h2,h3,h4,h5,h6⟩:=h;rw [hm] at h1;injection h1 with h1
   subst h1;exact ⟨p,es,clock,hm,h2,gK (fun _ _ h=>h) hS aQ _ _ h3,gK (fun _ _ h=>h) hS aQ _ _ h4,by simp,fun _=> .inr rfl⟩
 | si s pos=>simp only [jh] at hl;subst hl;exact .inl ⟨h,hn⟩
 | lp tm ps as_ body st pe=>simp only [jh] at hl;subst hl;exact .inl ⟨h,hn⟩
end
end
section
open Go
section
variable {O:br} {H:Hint} {m:Mp} {S:Nat->Prop} {w:yi} {tm:Env} {a:Act} {hp:Hp} {ct cq:Nat}
def Lr {ae:Nat->Nat} {b:Nat} {arr:Array yh} {t:yF} {fr:Nat×Nat} (hb:w.heap[b]? =some (.cells arr t fr)):∀(cs:List AV) (us:List yh) (o:Nat),
  av ae m S w cs us->(∀(j:Nat) (u:yh),us[j]? =some u->arr[o+j]? =some u)->bL ae m S w cs b o
 | [],us,o,_,_=>by simp only [bL]
 | c::cs,us,o,h,hu=>by
  simp only [av] at h;obtain ⟨u,r,rfl,h2,h3⟩:=h;simp only [bL];refine ⟨⟨u,?_,h2⟩,Lr hb cs r (o+1) h3 (fun j v hv=>?_)⟩
  ·have:=hu 0 u (by simp)
   simpa [World.cell?,hb] using this
  ·have:=hu (j+1) v (by simpa using hv)
   rw [show o+1+j=o+(j+1) by omega];exact this
def am9 (hh:aR O m S w hp cq) {i:Nat} {arr:Array yh} {t:yF} {cs:List AV} {us:List yh} {pu ex:Bool} {sz:Nat} (hr:av O.ae m S w cs us)
  (hu:∀(j:Nat) (u:yh),us[j]? =some u->arr[j]? =some u) (hl:cs.length<=arr.size) (hex:ex=true->cs.length=arr.size) (iN:pu=true->aF cs=true)
  (m':Mp) (hm:de m m') (hi:m' i=some ⟨w.heap.size,0,arr.size,sz⟩):eX O m' S (w.alloc (.cells arr t)) i (.cells true pu ex sz cs):=by
 refine ⟨⟨w.heap.size,0,arr.size,sz⟩,arr,t,hi,heap_alloc_new w _,rfl,hl,by simp,hex,?_,iN,?_,by simp⟩
 ·exact Lr (heap_alloc_new w _) cs us 0 (gK hm (fun _ h=>h) (Hb hh _) _ _ hr) (by simpa using hu)
 ·intro _ hS
  have:=hh.slt _ hS
  simp at this
def CB (O:br) (m:Mp) (S:Nat->Prop) (w:yi) (a:Act) (ct:Nat) (o:yZ) (v:AV) (b:Obj):Prop:=
 ∃u g p,(execOp a.eval o).run O.P w= .ok (.value u) (w.alloc g)/\p.b=w.heap.size/\¬iB b/\
  ∀m',de m m'->m' ct=some p->eX O m' S (w.alloc g) ct b/\ah O.ae m' S (w.alloc g) v u
def P6 {o:yZ} {arr:Array yh} {t:yF} {cs:List AV} {us:List yh} {pu ex:Bool} {sz:Nat} {v:AV} {u:yh} (hh:aR O m S w hp cq)
  (he:(execOp a.eval o).run O.P w= .ok (.value u) (w.alloc (.cells arr t))) (hr:av O.ae m S w cs us)
  (hu:∀(j:Nat) (u:yh),us[j]? =some u->arr[j]? =some u) (hl:cs.length<=arr.size) (hex:ex=true->cs.length=arr.size) (iN:pu=true->aF cs=true)
  (hv:∀m':Mp,m' ct=some ⟨w.heap.size,0,arr.size,sz⟩->ah O.ae m' S (w.alloc (.cells arr t)) v u):CB O m S w a ct o v (.cells true pu ex sz cs):=
 ⟨u,_,⟨w.heap.size,0,arr.size,sz⟩,he,rfl,by simp [iB],fun m' hm hi=>⟨am9 hh hr hu hl hex iN m' hm hi,hv m' hi⟩⟩
def YR {o:yZ} {t:yF} {x:yh} {vx v:AV} {b:Obj} {sz:Nat} (hh:aR O m S w hp cq) (he:(execOp a.eval o).run O.P w= .ok (.value (.pointer (some ⟨w.heap.size,0,none⟩))) (w.alloc (.cells x.cells t))) (hx:av O.ae m S w (cellsOf vx) x.cells.toList)
  (hv:(bif yt (cellsOf vx).length sz&&bK (cellsOf vx) then some (AV.ptr ct 0,Obj.cells true (aF (cellsOf vx)) true sz (cellsOf vx)) else none)=some (v,b)):CB O m S w a ct o v b:=by
 cases hc:(yt (cellsOf vx).length sz&&bK (cellsOf vx)) with
 | false=>rw [hc] at hv;cases hv
 | true=>
  rw [hc] at hv;obtain ⟨rfl,rfl⟩:=hv;have hlen:=gM _ _ hx;refine P6 hh he hx (fun j u hj=>by simpa using hj) (by rw [<-hlen];simp) (fun _=>by rw [<-hlen];simp) (fun h=>h) (fun m' hi=>?_)
  simp only [ah];exact ⟨_,hi,by simp⟩
def akA {o:yZ} {t:yF} {r:Option xy} (hh:aR O m S w hp cq) (ho:o.op= .makeMap t r) (hr:r=none):CB O m S w a ct o (.map ct) (.mp true [] []):=by
 subst hr;refine ⟨.map (some w.heap.size),.map #[] 0,⟨w.heap.size,0,0,0⟩,by simp [execOp,ho,Instr.makeMap],rfl,by simp [iB],fun m' _ hi=>⟨?_,?_⟩⟩
 ·refine ⟨_,#[],0,hi,heap_alloc_new w _,by simp [av],by simp [av],?_,by simp⟩;intro _ hS
  have:=hh.slt _ hS
  simp at this
 ·simp only [ah];exact ⟨_,hi,rfl⟩
def aiE {o:yZ} {t:yF} {x:xy} {s:List Nat} (hh:aR O m S w hp cq) (ho:o.op= .range t x) (hu:O.P.underlying t=some .string) (hx:ah O.ae m S w (.str s) (a.eval x)):
  CB O m S w a ct o (.it ct) (.si s 0):=by
 obtain ⟨b,e,rfl⟩:=hx;refine ⟨.pointer (some ⟨w.heap.size,0,none⟩),.stringIter b 0,⟨w.heap.size,0,0,0⟩,by simp [execOp,ho,Instr.range,run_underlying hu,e],rfl,by simp [iB],fun m' _ hi=>⟨?_,?_⟩⟩
 ·refine ⟨_,b,hi,heap_alloc_new w _,rfl,?_⟩;intro hS
  have:=hh.slt _ hS
  simp at this
 ·simp only [ah];exact ⟨_,hi,rfl⟩
end
def aiF (zero:Array yh):(xF zero.size).map (fun j=>zero[j]!)=zero.toList:=by
 apply List.ext_getElem
 ·simp
 ·grind
def Xb (zero:Array yh):∀n:Nat,(xF (n*zero.size)).map (fun i=>zero[i%zero.size]!)=(yC n zero.toList).flatten
 | 0=>by simp
 | n+1=>by
  rw [we,ybE,List.range_add,List.map_append,Xb zero n,List.replicate_succ',yaK]
  congr 1
  simp only [List.map_map,ux,List.flatten_nil,List.append_nil];rw [<-aiF zero];apply List.map_congr_left;intro j hj;simp at hj;simp [Function.comp,xA n,Nat.mod_eq_of_lt hj]
def Qu {ae:Nat->Nat} {m:Mp} {S:Nat->Prop} {w:yi} {cs:List AV} {us:List yh} (h:av ae m S w cs us):∀n,av ae m S w (yC n cs).flatten (yC n us).flatten
 | 0=>by simp [av]
 | n+1=>by rw [wj,wj,ux,ux];exact lh h (Qu h n)
section
variable {O:br} {H:Hint} {m:Mp} {S:Nat->Prop} {w:yi} {tm:Env} {a:Act} {hp:Hp} {ct cq:Nat}
def XV (zero:Array yh) (n:Nat):(Array.map (fun i=>zero[i%zero.size]!) (uW (n*zero.size))).toList=(yC n zero.toList).flatten:=by
 rw [<-Xb zero n]
 simp
def YS (tm:Env):∀(ps:List (Nat×Nat×X)) (zero cs:List AV),fill tm zero ps=some cs->cs.length=zero.length
 | [],zero,cs,h=>by simp only [fill,yd] at h;rw [h]
 | (o,sz,x)::r,zero,cs,h=>by
  simp only [fill] at h
  cases hc:(yt (cellsOf (az tm x)).length sz&&yG (o+sz) zero.length&&bK (cellsOf (az tm x))) with
  | false=>rw [hc] at h;cases h
  | true=>
   rw [hc] at h;simp only [yg] at hc;have h1:=yk hc.1.1;have h2:=yr hc.1.2;rw [YS tm r _ _ h];simp only [over,yR,yT,xN];omega
def LK {α:Type} (l:List α):∀n,(yC n l).flatten.length=n*l.length
 | 0=>by simp
 | n+1=>by simp [wj,LK l n,we,Nat.add_comm]
def aiG {o:yZ} {t e:yF} {n s:Nat} {z:AV} {parts:Array (Nat×xy)} {ps:List (Nat×Nat×X)} {v:AV} {b:Obj} (hH:fj O H) (ht:bT O m S w tm a.tmps) (hh:aR O m S w hp cq)
  (ho:o.op= .buildSlice t n parts) (hu:O.P.underlying t=some (.slice e)) (hs:cz O.P e=some s) (hz:lB O.P e=some z) (hn:n*s<=16777216)
  (fa:partsOf H (fun i=>some (i*s,s)) parts.toList=some ps)
  (hv:cN tm hp ct (.mT n s (yC n (cellsOf z)).flatten ps)=some (v,b)):CB O m S w a ct o v b:=by
 simp only [cN] at hv
 cases hf:fill tm (yC n (cellsOf z)).flatten ps with
 | none=>simp [hf] at hv
 | some cs=>
  simp only [hf] at hv
  cases hc:yt cs.length (n*s) with
  | false=>rw [hc] at hv;cases hv
  | true=>
   rw [hc] at hv;simp only [yx,yd,yo] at hv;obtain ⟨rfl,rfl⟩:=hv;have hlen:=yk hc;obtain ⟨zv,lP,rfl⟩:=D5 (w:=w) hz;have zJ:av O.ae m S w (cellsOf (eD zv)) zv.cells.toList:=BU zv;have qj:=gM _ _ zJ;have mF:=YS tm ps _ _ hf;rw [LK] at mF;have Fk:n*s=n*zv.cells.size:=by
    rw [<-hlen,mF,<-qj];simp
   have key:∃zr:Array yh,(n*s=0->zr=#[])/\(n*s≠0->zr=zv.cells)/\av O.ae m S w (yC n (cellsOf (eD zv))).flatten ((uW (n*s)).map (fun x=>zr[x%zr.size]!)).toList:=by
    by_cases h0:n*s=0
    ·refine ⟨#[],fun _=>rfl,fun h=>(h h0).elim,?_⟩
     have:(yC n (cellsOf (eD zv))).flatten=[]:=by
      apply yJ;rw [LK,<-qj];simp only [vC];omega
     rw [this];simp [av,h0]
    ·refine ⟨zv.cells,fun h=>(h0 h).elim,fun _=>rfl,?_⟩;rw [Fk,XV];exact Qu zJ n
   obtain ⟨zr,OA,fT,iR⟩:=key;obtain ⟨out,h1,h2⟩:=L8 hH ht (place:=fun i=>some (i*s,s)) parts.toList ps _ cs _ fa iR hf;have rS:=gM _ _ h2
   refine P6 (arr:=out) (t:=e) (us:=out.toList) hh ?_ h2 (fun j u hj=>by simpa using hj) (by rw [<-rS];simp) (fun _=>by rw [<-rS];simp) (fun h=>h) (u:= .slice (some ⟨w.heap.size,0,none⟩) n n) ?_
   ·have gU:¬(n*s>2^24):=by omega
    by_cases h0:n*s=0
    ·have:=OA h0
     subst this;simp only [h0] at h1;simp [execOp,ho,Instr.buildSlice,run_underlying hu,nl hs,h0,newRow] at h1 ⊢;simp [h1]
    ·have:=fT h0
     subst this;simp [execOp,ho,Instr.buildSlice,run_underlying hu,nl hs,h0,gU,lP,newRow] at h1 ⊢;simp [h1]
   ·intro m' hi;simp only [ah];refine ⟨_,n,hi,by simp,yz _,?_⟩;simp only [yf];rw [<-hlen,<-rS];simp
def BV:∀{a b:List AV},aF a=true->aF b=true->aF (a++b)=true
 | [],_,_,h=>h
 | c::r,b,h,k=>by
  simp only [aF,yg] at h;simp only [yY,aF,yg];exact ⟨h.1,BV h.2 k⟩
def XW {z:List AV} (h:aF z=true):∀n,aF (yC n z).flatten=true
 | 0=>by simp [aF]
 | n+1=>by rw [wj,ux];exact BV h (XW h n)
def akB {o:yZ} {t e:yF} {s by':Nat} {z:AV} {l c:xy} {v:AV} {b:Obj} (hH:fj O H) (ht:bT O m S w tm a.tmps) (hh:aR O m S w hp cq)
  (ho:o.op= .makeSlice t l c) (hu:O.P.underlying t=some (.slice e)) (hs:cz O.P e=some s) (hb:rP O.P e=some by') (hz:lB O.P e=some z)
  (hv:cN tm hp ct (.nU s by' (cellsOf z) (aK H l) (aK H c))=some (v,b)):CB O m S w a ct o v b:=by
 simp only [cN] at hv
 cases hl:dI (az tm (aK H l)) with
 | none=>simp [hl] at hv
 | some ln=>
  cases hc:dI (az tm (aK H c)) with
  | none=>simp [hl,hc] at hv
  | some cn=>
   simp only [hl,hc] at hv
   cases hk:(yG ln cn&&(yG cn room&&(yG (cn*by') room&&(yt (cellsOf z).length s&&bK (cellsOf z))))) with
   | false=>rw [hk] at hv;cases hv
   | true=>
    rw [hk] at hv;simp only [yx,yd,yo] at hv;obtain ⟨rfl,rfl⟩:=hv;simp only [yg] at hk;have h1:=yr hk.1;have h2:=yr hk.2.1;have h3:=yr hk.2.2.1;have h4:=yk hk.2.2.2.1;simp only [room] at h2 h3;obtain ⟨kl,el⟩:=sQ (ck hH ht l) hl;obtain ⟨kc,ec⟩:=sQ (ck hH ht c) hc;obtain ⟨zv,lP,rfl⟩:=D5 (w:=w) hz;have zJ:av O.ae m S w (cellsOf (eD zv)) zv.cells.toList:=BU zv;have qj:=gM _ _ zJ;have Dg:zv.cells.size=s:=by rw [<-h4,<-qj];simp
    have wrapN:∀k:Nat,k<=1099511627776->IntKind.i64.wrap (k:Int)=k:=fun k hk=>IntWalk.i64_in _ (by omega)
    obtain ⟨ti,qt,eH,UD⟩:∃ti,O.P.info? e=some ti/\ti.size=s/\ti.bytes=by':=by
     unfold cz at hs;unfold rP at hb
     cases hi:O.P.info? e with
     | none=>simp [hi] at hs
     | some ti=>simp only [hi,yd] at hs hb;exact ⟨ti,rfl,hs,hb⟩
    have CM:((uW (cn*s)).map (zv.cells[·%zv.cells.size]!)).toList=(yC ln zv.cells.toList).flatten++(yC (cn-ln) zv.cells.toList).flatten:=by
     rw [<-Dg,XV,<-yaK,List.replicate_append_replicate]
     grind
    have eZ:(yC ln (cellsOf (eD zv))).flatten.length=ln*s:=by rw [LK,h4]
    have hmul:ln*s<=cn*s:=yS _ h1
    refine P6 (arr:=(uW (cn*s)).map (zv.cells[·%zv.cells.size]!)) (t:=e) (us:=(yC ln zv.cells.toList).flatten) hh (u:= .slice (some ⟨w.heap.size,0,none⟩) ln cn) ?_
     (Qu zJ ln) ?_ ?_ ?_ (fun h=>?_) ?_
    ·have azM:by'*cn<=1099511627776:=by rw [xA];exact h3
     have rX:((by'*cn:Nat):Int)<=1099511627776:=by omega
     rw [Int.natCast_mul] at rX;have hlc:(ln:Int)<=(cn:Int):=by omega
     have g1:¬(281474976710656<(by':Int)*(cn:Int)):=by omega
     have g2:¬(((ln:Int)<0)):=by omega
     have g3:¬(((cn:Int)<0)):=by omega
     have g4:¬((ln:Int)>(cn:Int)):=by omega
     by_cases h0:cn*s=0
     ·simp [execOp,ho,Instr.makeSlice,run_underlying hu,el,ec,asInt,asIntOf,typeInfo,qt,UD,wrapN ln (by omega),wrapN cn h2,g1,g2,g3,g4,nl hs,h0,newRow,askRoom,roomBytes]
      grind
     ·simp [execOp,ho,Instr.makeSlice,run_underlying hu,el,ec,asInt,asIntOf,typeInfo,qt,UD,wrapN ln (by omega),wrapN cn h2,g1,g2,g3,g4,nl hs,h0,newRow,askRoom,roomBytes,lP]
    ·intro j u hj
     have:((uW (cn*s)).map (zv.cells[·%zv.cells.size]!)).toList[j]? =some u:=by
      grind
     grind
    ·grind
    ·simp_all
    ·exact XW h ln
    ·intro m' hi;simp only [ah];refine ⟨_,cn,hi,by simp,h1,?_⟩
     simp
def ana {o:yZ} {k:Nat} {v:AV} {b:Obj} (hH:fj O H) (ht:bT O m S w tm a.tmps) (hh:aR O m S w hp cq)
  (hv:cN tm hp ct (aS O.P H k o)=some (v,b)):CB O m S w a ct o v b:=by
 cases ho:o.op with
 | call c=>
  obtain ⟨callee,args,ts⟩:=c;simp only [aS,ho] at hv
  repeat' split at hv
  all_goals first
   | (simp [cN,bad] at hv;done)
   | (revert hv;generalize yt _ _=bb;intro hv;cases bb<;>simp [cN,bad] at hv)
 | alloc t=>
  simp only [aS,ho] at hv
  split at hv
  ·rename_i s z hs hz;obtain ⟨zv,lP,rfl⟩:=D5 (w:=w) hz
   exact YR (x:=zv) (t:=t) hh (by simp [execOp,ho,Instr.alloc,lP,newVar,newRow]) (BU zv) (by simpa only [cN,az] using hv)
  ·simp [cN,bad] at hv
 | box t x=>
  simp only [aS,ho] at hv
  split at hv
  ·rename_i s hs;simp only [cN] at hv
   cases hc:(yt (cellsOf (az tm (aK H x))).length s&&bK (cellsOf (az tm (aK H x)))) with
   | false=>rw [hc] at hv;cases hv
   | true=>
    have h1:=hc;simp only [yg] at h1
    exact YR (x:=a.eval x) (t:=t) hh (by simp [execOp,ho,Instr.box,newVar,newRow]) (P5 (ck hH ht x) h1.2) hv
  ·simp [cN,bad] at hv
 | buildSlice t n parts=>
  simp only [aS,ho] at hv
  split at hv
  ·rename_i e hu
   split at hv
   ·rename_i s z hs hz
    cases hc:yG (n*s) 16777216 with
    | false=>rw [hc] at hv;simp [cN,bad] at hv
    | true=>
     rw [hc] at hv;simp only [yx] at hv
     split at hv
     ·rename_i ps fa;exact aiG hH ht hh ho hu hs hz (yr hc) fa hv
     ·simp [cN,bad] at hv
   ·simp [cN,bad] at hv
  ·simp [cN,bad] at hv
 | makeSlice t l c=>
  simp only [aS,ho] at hv
  split at hv
  ·rename_i e hu
   split at hv
   ·rename_i s by' z hs hb hz
    exact akB hH ht hh ho hu hs hb hz hv
   ·simp [cN,bad] at hv
  ·simp [cN,bad] at hv
 | makeMap t r=>
  cases r with
  | some x=>simp [aS,ho,cN,bad] at hv
  | none=>
   simp only [aS,ho] at hv
   repeat' split at hv
   all_goals first
    | (simp [cN,bad] at hv;done)
    | (
      simp only [cN,yd,yo] at hv;obtain ⟨rfl,rfl⟩:=hv
      exact akA hh ho rfl)
 | range t x=>
  simp only [aS,ho] at hv
  split at hv
  ·rename_i hu;simp only [cN] at hv;have rx:=ck hH ht x;cases hx:az tm (aK H x)<;>rw [hx] at hv rx<;>simp only [reduceCtorEq] at hv
   simp only [yd,yo] at hv;obtain ⟨rfl,rfl⟩:=hv;exact aiE hh ho hu rx
  ·simp [cN,bad] at hv
 | next x b=>cases b<;>simp [aS,ho,cN,bad] at hv
 | binOp op t x y ty=>
  cases op<;>simp only [aS,ho,nA,oA] at hv
  case eql=>
        repeat' split at hv
        all_goals first
         | (simp [cN,bad] at hv;done)
         | (cases hb:(O.P.stoodInHeld t||O.P.eqGuardType O.P.depth t)<;>rw [hb] at hv<;>simp [cN,bad] at hv)
  case neq=>
        repeat' split at hv
        all_goals first
         | (simp [cN,bad] at hv;done)
         | (cases hb:(O.P.stoodInHeld t||O.P.eqGuardType O.P.depth t)<;>rw [hb] at hv<;>simp [cN,bad] at hv)
  all_goals simp [cN] at hv
 | _=>
  simp only [aS,ho] at hv
  (repeat' split at hv)
  all_goals first
   | contradiction
   | (simp [cN,bad] at hv;done)
end
end
section
open Go
def qM {hp:Hp} {id i:Nat} {o:Obj}:an (aU hp id o) i=if id=i then (if (an hp id).isSome then some o else none) else an hp i:=by
 induction hp with
 | nil=>simp [aU,an]
 | cons x r ih=>
  obtain ⟨j,q⟩:=x;simp only [aU];by_cases hj:j=id
  ·subst hj;simp only [xG,yx,an];by_cases hi:j=i
   ·simp_all
   ·have:yt j i=false:=by
     cases hq:yt j i with
     | false=>rfl
     | true=>exact absurd (yk hq) hi
    grind
  ·have hb:yt j id=false:=by
    cases hq:yt j id with
    | false=>rfl
    | true=>exact absurd (yk hq) hj
   simp only [hb,yH];rw [show an ((j,q)::aU r id o) i=bif yt j i then some q else an (aU r id o) i from rfl,ih];by_cases hi:j=i
   ·subst hi
    have:¬id=j:=fun h=>hj h.symm
    simp [xG,this,an]
   ·have rX:yt j i=false:=by
     cases hq:yt j i with
     | false=>rfl
     | true=>exact absurd (yk hq) hi
    simp [rX,an,hb]
def jY (hp ao:Hp):Prop:=∀id,(an ao id).isSome=(an hp id).isSome
def jY.refl {hp:Hp}:jY hp hp:=fun _=>rfl
def jY.trans {a b c:Hp} (h:jY a b) (k:jY b c):jY a c:=fun id=>(k id).trans (h id)
def QU {hp:Hp} {id:Nat} {o o':Obj} (h:an hp id=some o) (hl:jh o o'):cQ hp (aU hp id o')/\jY hp (aU hp id o'):=by
 constructor
 ·intro i q hq;rw [qM];by_cases hi:id=i
  ·grind
  ·exact ⟨q,by simp [hi,hq],jh.refl q⟩
 ·intro i;rw [qM]
  grind
def XX {hp H:Hp} {id:Nat} {pu ex:Bool} {sz:Nat} {cs:List AV} (hl:cQ hp H) (h:an hp id=some (.cells false pu ex sz cs)):an H id=some (.cells false pu ex sz cs):=by
 obtain ⟨o',h1,et,rfl,h2⟩:=hl id _ h
 cases et with
 | false=>exact h1
 | true=>exact absurd (h2 rfl) (by simp)
section
variable {O:br}
def asq (O:br) (m:Mp) (S:Nat->Prop) (w:yi) (p:Pl) (ex:Bool) (sz:Nat) (cs:List AV):Prop:=
 p.z=sz/\cs.length<=p.e/\(ex=true->cs.length=p.e)/\S p.b/\aF cs=true/\bL O.ae m S w cs p.b p.o
def SK (O:br) (ao:Hp) (v v':AV):Prop:=∀H m S w ct,cQ ao H->aR O m S w H ct->(∀u,ah O.ae m S w v u->ah O.ae m S w v' u)/\aV v'=true
def acW (O:br) (ao:Hp) (vs dW:List AV):Prop:=∀H m S w ct,cQ ao H->aR O m S w H ct->(∀us,av O.ae m S w vs us->av O.ae m S w dW us)/\aF dW=true
def at7 (O:br) (ao:Hp) (id:Nat) (ex:Bool) (sz:Nat) (cs:List AV):Prop:=∀H m S w ct,cQ ao H->aR O m S w H ct->∀p,m id=some p->asq O m S w p ex sz cs
def D0 {ae:Nat->Nat} {m:Mp} {S:Nat->Prop} {w:yi} {b:Nat}:∀(cs:List AV) (us:List yh) (o:Nat),av ae m S w cs us->
  (∀(j:Nat) (u:yh),us[j]? =some u->w.cell? ⟨b,o+j,none⟩=some u)->bL ae m S w cs b o
 | [],us,o,_,_=>by simp only [bL]
 | c::cs,us,o,h,hu=>by
  obtain ⟨u,r,rfl,h2,h3⟩:=h;refine ⟨⟨u,by simpa using hu 0 u (by simp),h2⟩,D0 cs r (o+1) h3 (fun j v hv=>?_)⟩;rw [show o+1+j=o+(j+1) by omega]
  simp_all
def asr {m:Mp} {S:Nat->Prop} {w:yi} {cs dE:List AV} (h:∀us,av O.ae m S w cs us->av O.ae m S w dE us) {b o:Nat} (hr:bL O.ae m S w cs b o):bL O.ae m S w dE b o:=by
 obtain ⟨us,h1,_,h3⟩:=qI cs b o hr;exact D0 dE us o (h us h1) h3
def Ab:∀(k:Nat) {cs:List AV},aF cs=true->aF (cs.take k)=true
 | 0,_,_=>by simp [aF]
 | k+1,[],_=>by simp [aF]
 | k+1,c::cs,h=>by
  simp only [aF,yg,wc] at h ⊢;exact ⟨h.1,Ab k h.2⟩
def akC {ao:Hp} {vs dW:List AV}:∀{n:Nat} {hp:Hp},cB n hp vs=some (dW,ao)->dW.length=vs.length:=by
 intro n
 induction n generalizing vs dW ao with
 | zero=>intro hp h;simp [cB] at h
 | succ n ih=>
  intro hp h
  cases vs with
  | nil=>simp only [cB,yd,yo] at h;rw [<-h.1]
  | cons v r=>
   simp only [cB] at h
   cases h1:freeze n hp v with
   | none=>simp [h1] at h
   | some q=>
    obtain ⟨v',bj⟩:=q;simp only [h1] at h
    cases h2:cB n bj r with
    | none=>simp [h2] at h
    | some q2=>
     grind
def Xc:∀n:Nat,
  (∀hp v v' ao,freeze n hp v=some (v',ao)->cQ hp ao/\jY hp ao/\SK O ao v v')/\
  (∀hp id ex sz cs ao,qJ n hp id=some (ex,sz,cs,ao)->cQ hp ao/\jY hp ao/\at7 O ao id ex sz cs)/\
  (∀hp vs dW ao,cB n hp vs=some (dW,ao)->cQ hp ao/\jY hp ao/\acW O ao vs dW):=by
 intro n
 induction n with
 | zero=>refine ⟨?_,?_,?_⟩<;>intros<;>simp_all [freeze,qJ,cB]
 | succ n ih=>
  obtain ⟨ihV,ihB,Fm⟩:=ih;refine ⟨?_,?_,?_⟩
  ·intro hp v v' ao h;have plain:∀{v v':AV} {hp ao:Hp},(bif aV v then some (v,hp) else none)=some (v',ao)->cQ hp ao/\jY hp ao/\SK O ao v v':=by
    intro v v' hp ao h
    cases hc:aV v with
    | false=>rw [hc] at h;cases h
    | true=>
     rw [hc] at h;simp only [yx,yd,yo] at h;obtain ⟨rfl,rfl⟩:=h;exact ⟨cQ.refl,jY.refl,fun _ _ _ _ _ _ _=>⟨fun _ h=>h,hc⟩⟩
   cases v<;>simp only [freeze] at h<;>first | exact plain h | skip
   case ay id o k=>
    cases hb:qJ n hp id with
    | none=>simp [hb] at h
    | some q=>
     obtain ⟨ex,sz,cs,bj⟩:=q;simp only [hb] at h
     cases hc:yG (o+k*sz) cs.length with
     | false=>rw [hc] at h;cases h
     | true=>
      rw [hc] at h;simp only [yx,yd,yo] at h;obtain ⟨rfl,rfl⟩:=h;have hle:=yr hc;obtain ⟨h1,h2,h3⟩:=ihB _ _ _ _ _ _ hb;refine ⟨h1,h2,fun H m S w ct hl hh=>⟨fun u hu=>?_,by simp only [aV]⟩⟩;simp only [ah] at hu ⊢;obtain ⟨p,c,hm,rfl,zK,Oy⟩:=hu;obtain ⟨g1,g2,g3,g4,g5,g6⟩:=h3 H m S w ct hl hh p hm;refine .inl ⟨p.b,p.o+o,c,rfl,zK,?_,.inr g4,Ab _ (sH _ _ g5),Af _ _ _ _ (pK _ _ _ _ g6)⟩;intro hx;simp only [yg] at hx;have e1:=yk hx.2;have e2:0<sz:=by
       simp_all
      have e3:=g3 hx.1.1;rw [g1] at Oy
      have:c*sz=k*sz:=by omega
      exact Nat.eq_of_mul_eq_mul_right e2 this
   case ptr id o=>
    cases hb:qJ n hp id with
    | none=>simp [hb] at h
    | some q=>
     obtain ⟨ex,sz,cs,bj⟩:=q;simp only [hb,yd,yo] at h;obtain ⟨rfl,rfl⟩:=h;obtain ⟨h1,h2,h3⟩:=ihB _ _ _ _ _ _ hb;refine ⟨h1,h2,fun H m S w ct hl hh=>⟨fun u hu=>?_,by simp only [aV]⟩⟩;simp only [ah] at hu ⊢;obtain ⟨p,hm,rfl⟩:=hu;obtain ⟨g1,g2,g3,g4,g5,g6⟩:=h3 H m S w ct hl hh p hm;exact ⟨p.b,p.o+o,rfl,.inr g4,sH _ _ g5,pK _ _ _ _ g6⟩
   case map id=>
    cases hg:an hp id with
    | none=>simp [hg] at h
    | some ob=>
     cases ob<;>simp only [hg,reduceCtorEq] at h
     rename_i rw ks vs
     cases hc:(aF ks&&aF vs) with
     | false=>rw [hc] at h;cases h
     | true=>
      rw [hc] at h;simp only [yx,yd,yo] at h;obtain ⟨rfl,rfl⟩:=h;simp only [yg] at hc;obtain ⟨h1,h2⟩:=QU hg (o':= .mp false ks vs) ⟨false,rfl,by simp⟩;refine ⟨h1,h2,fun H m S w ct hl hh=>⟨fun u hu=>?_,by simp only [aV]⟩⟩;simp only [ah] at hu ⊢;obtain ⟨p,hm,rfl⟩:=hu;have hq:an (aU hp id (.mp false ks vs)) id=some (.mp false ks vs):=by rw [qM];simp [hg]
      obtain ⟨o',h3,et,rfl,h4⟩:=hl id _ hq;have nY:et=false:=by cases et with | false=>rfl | true=>exact absurd (h4 rfl) (by simp)
      subst nY;obtain ⟨p',es,clock,g1,g2,g3,g4,g5,g6⟩:=hh.obj id _ _ h3 hm;rw [hm] at g1;injection g1 with g1
      subst g1;exact ⟨p.b,es,clock,rfl,g6 rfl,hc.1,hc.2,g2,g3,g4⟩
   case fn f first cap=>
    cases f with
    | y l=>simp only [aV,yH,reduceCtorEq] at h
    | f g=>
     simp only at h
     cases h1:cB n hp first with
     | none=>simp [h1] at h
     | some q=>
      obtain ⟨aaG,bj⟩:=q;simp only [h1] at h
      cases h2:cB n bj cap with
      | none=>simp [h2] at h
      | some q2=>
       obtain ⟨M8,jC⟩:=q2;simp only [h2,yd,yo] at h;obtain ⟨rfl,rfl⟩:=h;obtain ⟨a1,a2,a3⟩:=Fm _ _ _ _ h1;obtain ⟨b1,b2,b3⟩:=Fm _ _ _ _ h2;refine ⟨a1.trans b1,a2.trans b2,fun H m S w ct hl hh=>?_⟩;obtain ⟨c1,c2⟩:=a3 H m S w ct (b1.trans hl) hh;obtain ⟨d1,d2⟩:=b3 H m S w ct hl hh;refine ⟨fun u hu=>?_,by simp [aV,c2,d2]⟩;simp only [ah] at hu ⊢;obtain ⟨fi,ca,rfl,e1,e2⟩:=hu;exact ⟨fi,ca,rfl,c1 _ e1,d1 _ e2⟩
   case agg cs=>
    cases h1:cB n hp cs with
    | none=>simp [h1] at h
    | some q=>
     obtain ⟨dE,bj⟩:=q;simp only [h1,yd,yo] at h;obtain ⟨rfl,rfl⟩:=h;obtain ⟨a1,a2,a3⟩:=Fm _ _ _ _ h1;refine ⟨a1,a2,fun H m S w ct hl hh=>?_⟩;obtain ⟨c1,c2⟩:=a3 H m S w ct hl hh;refine ⟨fun u hu=>?_,by simpa [aV] using c2⟩;simp only [ah] at hu ⊢;obtain ⟨xs,rfl,e1⟩:=hu;exact ⟨xs,rfl,c1 _ e1⟩
   case ap cs=>
    cases h1:cB n hp cs with
    | none=>simp [h1] at h
    | some q=>
     obtain ⟨dE,bj⟩:=q;simp only [h1,yd,yo] at h;obtain ⟨rfl,rfl⟩:=h;obtain ⟨a1,a2,a3⟩:=Fm _ _ _ _ h1;refine ⟨a1,a2,fun H m S w ct hl hh=>?_⟩;obtain ⟨c1,c2⟩:=a3 H m S w ct hl hh;refine ⟨fun u hu=>?_,by simpa [aV] using c2⟩;simp only [ah] at hu ⊢;obtain ⟨xs,rfl,e1⟩:=hu;exact ⟨xs,rfl,c1 _ e1⟩
  ·intro hp id ex sz dE ao h;simp only [qJ] at h
   cases hg:an hp id with
   | none=>simp [hg] at h
   | some ob=>
    cases ob<;>simp only [hg,reduceCtorEq] at h
    rename_i rw pu rQ Bs cs
    cases pu with
    | true=>
     simp only [yx,yd,yo] at h;obtain ⟨rfl,rfl,rfl,rfl⟩:=h;have hq:cQ hp (bif rw then aU hp id (.cells false true rQ Bs cs) else hp)/\jY hp (bif rw then aU hp id (.cells false true rQ Bs cs) else hp)/\an (bif rw then aU hp id (.cells false true rQ Bs cs) else hp) id=some (.cells false true rQ Bs cs):=by
      cases rw with
      | true=>
       obtain ⟨h1,h2⟩:=QU hg (o':= .cells false true rQ Bs cs) ⟨false,rfl,by simp⟩;exact ⟨h1,h2,by simp [qM,hg]⟩
      | false=>exact ⟨cQ.refl,jY.refl,hg⟩
     refine ⟨hq.1,hq.2.1,fun H m S w ct hl hh p hm=>?_⟩;obtain ⟨p',arr,t,g1,g2,g3,g4,g5,g6,g7,g8,g9,g10⟩:=hh.obj id _ _ (XX hl hq.2.2) hm;rw [hm] at g1;injection g1 with g1
     subst g1;exact ⟨g3,g4,g6,g10 rfl,g8 rfl,g7⟩
    | false=>
     simp only [yH] at h
     cases h1:cB n hp cs with
     | none=>simp [h1] at h
     | some q=>
      obtain ⟨rY,bj⟩:=q;simp only [h1,yd,yo] at h;obtain ⟨rfl,rfl,rfl,rfl⟩:=h;obtain ⟨a1,a2,a3⟩:=Fm _ _ _ _ h1;obtain ⟨o1,ik,rw1,rfl,_⟩:=a1 id _ hg;obtain ⟨b1,b2⟩:=QU ik (o':= .cells false false rQ Bs cs) ⟨false,rfl,by simp⟩;refine ⟨a1.trans b1,a2.trans b2,fun H m S w ct hl hh p hm=>?_⟩;have hq:an (aU bj id (.cells false false rQ Bs cs)) id=some (.cells false false rQ Bs cs):=by simp [qM,ik]
      obtain ⟨p',arr,t,g1,g2,g3,g4,g5,g6,g7,g8,g9,g10⟩:=hh.obj id _ _ (XX hl hq) hm;rw [hm] at g1;injection g1 with g1
      subst g1;obtain ⟨c1,c2⟩:=a3 H m S w ct (b1.trans hl) hh;have hlen:=akC h1
      exact ⟨g3,by omega,fun hx=>by have:=g6 hx;omega,g10 rfl,c2,asr c1 g7⟩
  ·intro hp vs dW ao h
   cases vs with
   | nil=>
    simp only [cB,yd,yo] at h;obtain ⟨rfl,rfl⟩:=h;exact ⟨cQ.refl,jY.refl,fun _ _ _ _ _ _ _=>⟨fun _ h=>h,rfl⟩⟩
   | cons v r=>
    simp only [cB] at h
    cases h1:freeze n hp v with
    | none=>simp [h1] at h
    | some q=>
     obtain ⟨v1,bj⟩:=q;simp only [h1] at h
     cases h2:cB n bj r with
     | none=>simp [h2] at h
     | some q2=>
      obtain ⟨r1,jC⟩:=q2;simp only [h2,yd,yo] at h;obtain ⟨rfl,rfl⟩:=h;obtain ⟨a1,a2,a3⟩:=ihV _ _ _ _ h1;obtain ⟨b1,b2,b3⟩:=Fm _ _ _ _ h2;refine ⟨a1.trans b1,a2.trans b2,fun H m S w ct hl hh=>?_⟩;obtain ⟨c1,c2⟩:=a3 H m S w ct (b1.trans hl) hh;obtain ⟨d1,d2⟩:=b3 H m S w ct hl hh;refine ⟨fun us hu=>?_,by simp [aF,c2,d2]⟩;simp only [av] at hu ⊢;obtain ⟨u,t,rfl,e1,e2⟩:=hu;exact ⟨u,t,rfl,c1 _ e1,d1 _ e2⟩
def PQ {n:Nat} {hp ao:Hp} {vs dW:List AV} (h:cB n hp vs=some (dW,ao)):cQ hp ao/\jY hp ao/\acW O ao vs dW:=(Xc n).2.2 _ _ _ _ h
def P7 {n:Nat} {hp ao:Hp} {v v':AV} (h:freeze n hp v=some (v',ao)):cQ hp ao/\jY hp ao/\SK O ao v v':=(Xc n).1 _ _ _ _ h
end
end
section
open Go
section
variable {O:br} {H:Hint} {m:Mp} {S:Nat->Prop} {w:yi} {tm:Env} {a:Act} {hp:Hp} {ct:Nat}
structure One (w w':yi) (g:Nat):Prop where
 os:w'.os=w.os
 tape:w'.tape=w.tape
 output:w'.output=w.output
 size:w'.heap.size=w.heap.size
 other:∀b,b≠g->w'.heap[b]? =w.heap[b]?
def PR (w:yi) (g:Nat) (cs:Array yh):One w (w.setRow g cs) g:=
 ⟨rfl,rfl,rfl,by simp,fun b hb=>setRow_other w g b cs hb⟩
def HV {id:Nat} {o:Obj} {p:Pl} (h:an hp id=some o) (hm:m id=some p):dX m hp p.b:=⟨id,o,p,h,hm,rfl⟩
def akD {id:Nat} {o':Obj} {b:Nat} (h:dX m (aU hp id o') b):dX m hp b:=by
 obtain ⟨i,o,p,h1,h2,h3⟩:=h;rw [qM] at h1;by_cases hi:id=i
 ·subst hi
  cases hq:an hp id with
  | none=>simp [hq] at h1
  | some q=>exact ⟨id,q,p,hq,h2,h3⟩
 ·simp only [hi,xk] at h1;exact ⟨i,o,p,h1,h2,h3⟩
def Hu (hh:aR O m S w hp ct) {id:Nat} {o o':Obj} {p:Pl} {w':yi} (ho:an hp id=some o) (hm:m id=some p) (hn:¬S p.b) (hw:One w w' p.b) (h':eX O m S w' id o') (hk:∀r:uv,w.heap[p.b]? =some (.loop r)->∃r':uv,w'.heap[p.b]? =some (.loop r')):
  aR O m S w' (aU hp id o') ct/\bZ m S w hp m S w' (aU hp id o') ct:=by
 have aQ:fG S w w':=fun b hb=>hw.other b (fun e=>hn (e▸hb))
 refine ⟨⟨?_,hh.lt,?_,?_,?_,hh.low,?_,?_,fun i q hq=>(by
  rw [qM] at hq;by_cases hc:id=i
  ·subst hc;exact hh.aP _ _ ho
  ·simp only [hc,xk] at hq;exact hh.aP _ _ hq)⟩,⟨hw.os,hw.tape,hw.output,by rw [hw.size];exact yz _,?_,fun _ h=>h,fun b hb=>aQ b hb,fun b hb=> .inl hb,fun b hb=> .inl (akD hb),fun _ _ _ h=>h,fun b r hb=>?_⟩⟩
 rotate_right
 ·by_cases hc:b=p.b
  ·subst hc;exact hk r hb
  ·exact ⟨r,(hw.other b hc).trans hb⟩
 ·intro i q pi hi bD;rw [qM] at hi;by_cases hc:id=i
  ·subst hc;simp only [xB,ho,Option.isSome_some] at hi;injection hi with hi
   subst hi;exact h'
  ·simp only [hc,xk] at hi;refine qK (fun _ _ h=>h) (fun _ h=>h) aQ (fun q' bJ=>?_) (fun _ _ h=>h) (hh.obj i q pi hi bD);exact hw.other _ (fun e=>hc (hh.inj i id q o q' p hi ho bJ hm e).symm)
 ·intro i j oi oj pi pj hi hj bD gA e;have key:∀{i:Nat} {oi:Obj},an (aU hp id o') i=some oi->∃J4,an hp i=some J4:=by
   intro i oi hi;rw [qM] at hi;by_cases hc:id=i
   ·subst hc;exact ⟨o,ho⟩
   ·simp only [hc,xk] at hi;exact ⟨oi,hi⟩
  obtain ⟨J4,cD⟩:=key hi;obtain ⟨J3,rW⟩:=key hj;exact hh.inj i j J4 J3 pi pj cD rW bD gA e
 ·intro b hb;rw [hw.size];exact hh.slt b hb
 ·intro i q hq;rw [hw.size];exact hh.blt i q hq
 ·intro b hb
  rw [hw.other b (fun e=>by have:=hh.low id p hm;omega)];exact hh.lG b hb
 ·rw [hw.size];exact hh.fP
 ·intro b _ hb;exact hw.other b (fun e=>hb (e▸HV ho hm))
def zc (O:br) (m:Mp) (S:Nat->Prop) (w:yi) (a:Act) (hp:Hp) (ct:Nat) (o:yZ) (v:AV) (ao:Hp) (aW:Nat):Prop:=
 ∃n u w' m' S',(execOp a.eval o).run O.P w= .ok n w'/\(n= .value u\/(n= .skip/\u=undef))/\aR O m' S' w' ao aW/\ah O.ae m' S' w' v u/\de m m'/\bZ m S w hp m' S' w' ao ct
def akE {ae:Nat->Nat} {v:AV} {u:yh} (h:ah ae m S w v u) (ho:bc v=true):u.oneCell'=true:=by
 cases v with
 | fn f a b=>
  cases f with
  | f g=>simp only [ah] at h;obtain ⟨_,_,rfl,_⟩:=h;rfl
  | y l=>simp only [ah] at h;obtain ⟨_,_,rfl⟩:=h;rfl
 | int k n=>simp only [ah] at h;subst h;rfl
 | bool b=>simp only [ah] at h;subst h;rfl
 | aB k n=>simp only [ah] at h;subst h;rfl
 | str s=>simp only [ah] at h;obtain ⟨_,rfl,_⟩:=h;rfl
 | kQ=>simp only [ah] at h;subst h;rfl
 | ptr i k=>simp only [ah] at h;obtain ⟨_,_,rfl⟩:=h;rfl
 | aJ cs=>simp only [ah] at h;obtain ⟨_,_,rfl,_⟩:=h;rfl
 | af=>simp only [ah] at h;subst h;rfl
 | aC e n cs=>simp only [ah] at h;rcases h with ⟨_,_,_,rfl,_⟩ | ⟨_,rfl,_,_⟩<;>rfl
 | cf _ _ _ _=>simp [bc] at ho
 | ay i k n=>simp only [ah] at h;obtain ⟨_,_,_,rfl,_⟩:=h;rfl
 | iF=>simp only [ah] at h;subst h;rfl
 | jQ=>simp only [ah] at h;subst h;rfl
 | map i=>simp only [ah] at h;obtain ⟨_,_,rfl⟩:=h;rfl
 | jz ks vs=>simp only [ah] at h;obtain ⟨_,_,_,rfl,_⟩:=h;rfl
 | it i=>simp only [ah] at h;obtain ⟨_,_,rfl⟩:=h;rfl
 | agg cs=>simp [bc] at ho
 | ap cs=>simp [bc] at ho
 | undef=>simp [bc] at ho
def Ls {ae:Nat->Nat}:∀{vs:List AV} {us:List yh},av ae m S w vs us->bK vs=true->∀u∈us,u.oneCell'=true
 | [],us,h,_,u,hu=>by simp only [av] at h;subst h;cases hu
 | v::r,us,h,ho,u,hu=>by
  obtain ⟨u',t,rfl,h1,h2⟩:=h;simp only [bK,yg] at ho;rcases List.mem_cons.1 hu with rfl | hu
  ·exact akE h1 ho.1
  ·exact Ls h2 ho.2 u hu
def YT {arr:Array yh} {t:yF} {p:Pl} {cs new:List AV} {vs:List yh} {o:Nat} {S':Nat->Prop} {m':Mp} (hb:w.heap[p.b]? =some (.cells arr t (0,0))) (hr:bL O.ae m S w cs p.b p.o)
  (hv:av O.ae m S w new vs) (hl:o+new.length<=cs.length) (hs:p.o+cs.length<=arr.size) {w':yi} (hm:de m m') (hS:∀b,S b->S' b) (aQ:fG S w w')
  (hw:w'.heap[p.b]? =some (.cells (arr.toList.take (p.o+o)++vs++arr.toList.drop (p.o+o+vs.length)).toArray t (0,0))):bL O.ae m' S' w' (over o new cs) p.b p.o:=by
 obtain ⟨us,h1,h2,h3⟩:=qI cs p.b p.o hr;have hvl:=gM _ _ hv;have h4:av O.ae m S w (over o new cs) (us.take o++vs++us.drop (o+new.length)):=lh (lh (DV o h1) hv) (Hh _ h1);refine D0 _ _ _ (gK hm hS aQ _ _ h4) (fun j u hj=>?_);have CC:∀k u,us[k]? =some u->arr[p.o+k]? =some u:=by
  intro k u hk
  have:=h3 k u hk
  simpa [World.cell?,hb] using this
 simp only [World.cell?,hw,tk,yD,xk];rw [yav];have e1:(arr.toList.take (p.o+o)).length=p.o+o:=by rw [yT,vC];omega
 have e2:(us.take o).length=o:=by rw [yT];omega
 by_cases c1:j<o
 ·have g1:(us.take o++vs++us.drop (o+new.length))[j]? =us[j]? :=by
   rw [xr,wo (by omega),uA c1]
  rw [g1] at hj;rw [xr,wo (by omega),uA (by omega)];simpa using CC j u hj
 ·by_cases c2:j<o+vs.length
  ·have g1:(us.take o++vs++us.drop (o+new.length))[j]? =vs[j-o]? :=by
    rw [xr,xU (by omega),e2,wo (by omega)]
   rw [g1] at hj;rw [xr,xU (by omega),e1,wo (by omega),show p.o+j-(p.o+o)=j-o by omega];exact hj
  ·have g1:(us.take o++vs++us.drop (o+new.length))[j]? =us[j]? :=by
    rw [xr,xU (by omega),e2,xU (by omega),yaS]
    congr 1
    omega
   rw [g1] at hj;rw [xr,xU (by omega),e1,xU (by omega),yaS,show p.o+o+vs.length+(p.o+j-(p.o+o)-vs.length)=p.o+j by omega];simpa using CC j u hj
def LL {o:Nat} {new cs:List AV} (hl:o+new.length<=cs.length):(over o new cs).length=cs.length:=by
 simp only [over,yR,yT,xN];omega
def Xd {o:Nat} {new cs:List AV} (h:aF cs=true) (h':aF new=true):aF (over o new cs)=true:=
 BV (BV (Ab _ h) h') (sH _ _ h)
def anb {o:yZ} {t:yF} {x y:xy} {sz:Nat} {v:AV} {ao:Hp} {aW:Nat} (hH:fj O H) (ht:bT O m S w tm a.tmps) (hh:aR O m S w hp ct)
  (ho:o.op= .store t x y) (hz:cz O.P t=some sz) (hv:cJ tm hp ct (.st sz (aK H x) (aK H y))=some (v,ao,aW)):zc O m S w a hp ct o v ao aW:=by
 simp only [cJ] at hv;have rx:=ck hH ht x;cases hx:az tm (aK H x)<;>rw [hx] at hv rx<;>simp only [reduceCtorEq] at hv
 rename_i id k;simp only [ah] at rx;obtain ⟨p,hm,ex⟩:=rx
 split at hv
 case h_2=>cases hv
 rename_i pu OB z cs hg
 cases hc:(yt (cellsOf (az tm (aK H y))).length sz&&yG (k+sz) cs.length&&bK (cellsOf (az tm (aK H y)))) with
 | false=>rw [hc] at hv;cases hv
 | true=>
  rw [hc] at hv;simp only [yx,yd,yo] at hv;obtain ⟨rfl,rfl,rfl⟩:=hv;simp only [yg] at hc;have c1:=yk hc.1.1;have c2:=yr hc.1.2;have ry:=P5 (ck hH ht y) hc.2;have hl:=gM _ _ ry;obtain ⟨p',arr,t',g1,g2,g3,g4,g5,g6,g7,g8,g9,g10⟩:=hh.obj id _ _ hg hm;rw [hm] at g1;injection g1 with g1
  subst g1;have fm:=Ls ry hc.2;have eL:=run_storeCells_at O.P p.b (p.o+k) t' (a.eval y).cells.toList 0 arr w g2 (by rw [hl];omega) fm;simp only [yW] at eL;have ass:(a.eval y).cells.size=sz:=by simp_all
  have nZ:eX O m S (w.setRow p.b (arr.toList.take (p.o+k)++(a.eval y).cells.toList++arr.toList.drop (p.o+k+(a.eval y).cells.toList.length)).toArray) id
    (.cells true (pu&&aF (cellsOf (az tm (aK H y)))) OB z (over k (cellsOf (az tm (aK H y))) cs)):=by
   refine ⟨p,_,t',hm,setRow_heap w p.b arr _ t' _ g2,g3,by rw [LL (by omega)];exact g4,?_,fun h=>by rw [LL (by omega)];exact g6 h,?_,?_,fun _=>g9 rfl,by simp⟩
   ·grind
   ·exact YT g2 g7 ry (by omega) (by omega) de.refl (fun _ h=>h) (fun b hb=>setRow_other w p.b b _ (fun e=>g9 rfl (e▸hb))) (setRow_heap w p.b arr _ t' _ g2)
   ·intro h;simp only [yg] at h;exact Xd (g8 h.1) h.2
  obtain ⟨e1,e2⟩:=Hu hh hg hm (g9 rfl) (PR w p.b _) nZ (fun r hr=>by rw [g2] at hr;cases hr);refine ⟨.skip,undef,_,m,S,?_,.inr ⟨rfl,rfl⟩,e1,by simp [ah,av,undef],de.refl,e2⟩;simp only [execOp,ho,Instr.storeAt,ex,Instr.sureAddr,Sem.run_bind,Sem.run_pure,Result.andThen_ok,storeVar,nl hz,ass,ybY,uX,xk];simp [eL]
def Xe {d:ve} {k k':yh} (h:Instr.sameNow d k k'=some true):k=k':=by
 unfold Instr.sameNow at h
 split at h
 ·grind
 ·rename_i p q;simp only [yd] at h;have h2:(p.data==q.data)=true:=by cases p;exact h
  cases p;cases q
  grind
 ·grind
 ·cases h
def sameBits_self {d:ve} {k k':yh} (h:Instr.sameNow d k k'=some true) (n:Nat):Instr.sameBits n k' k=true:=by
 have e:=Xe h;subst e;unfold Instr.sameNow at h
 split at h
 ·simp [Instr.sameBits]
 ·simp only [yd] at h;simp [Instr.sameBits,h]
 ·simp [Instr.sameBits]
 ·cases h
def Put (ae:Nat->Nat) (m:Mp) (S:Nat->Prop) (w:yi) (d:ve) (k x:yh) (es:List ua) (i:Nat) (kD dW:List AV):Prop:=
 (Instr.findNow d k es i=some none/\av ae m S w kD (es.map (·.key)++[k])/\av ae m S w dW (es.map (·.val)++[x]))\/
 ∃(j:Nat) (e0:ua),Instr.findNow d k es i=some (some (i+j,e0.val))/\es[j]? =some e0/\Instr.sameNow d k e0.key=some true/\av ae m S w kD (es.map (·.key))/\av ae m S w dW ((es.map (·.val)).set j x)
def ZX {ae:Nat->Nat} {vk vx:AV} {k x:yh} {d:ve} (hk:ah ae m S w vk k) (hx:ah ae m S w vx x) (hd:fits d vk=true):∀(ks vs:List AV) (es:List ua) (i:Nat) (kD dW:List AV),
  av ae m S w ks (es.map (·.key))->av ae m S w vs (es.map (·.val))->AX vk vx ks vs=some (kD,dW)->Put ae m S w d k x es i kD dW
 | [],[],es,i,kD,dW,h1,h2,h=>by
  simp only [av,yaJ] at h1;subst h1;obtain ⟨rfl,rfl⟩:=h;exact .inl ⟨rfl,by simp [av,hk],by simp [av,hx]⟩
 | [],_::_,es,i,kD,dW,h1,h2,h=>by simp [AX] at h
 | _::_,[],es,i,kD,dW,h1,h2,h=>by simp [AX] at h
 | c::ks,v::vs,es,i,kD,dW,h1,h2,h=>by
  cases es with
  | nil=>simp [av] at h1
  | cons e es=>
   obtain ⟨u,t,⟨rfl,rfl⟩,hc,Oz⟩:=h1;obtain ⟨u',t',⟨rfl,rfl⟩,hv,zH⟩:=h2;simp only [AX] at h
   cases zI:EB vk c with
   | none=>simp [zI] at h
   | some b=>
    have hs:=YQ (d:=d) hk hc zI hd
    cases b with
    | true=>
     simp only [zI,yd,yo] at h;obtain ⟨rfl,rfl⟩:=h;refine .inr ⟨0,e,by simp [Instr.findNow,hs],rfl,hs,?_,?_⟩
     ·simp only [xj,av];exact ⟨_,_,rfl,hc,Oz⟩
     ·simp only [xj,List.set_cons_zero,av];exact ⟨_,_,rfl,hx,zH⟩
    | false=>
     simp only [zI] at h
     cases hm:AX vk vx ks vs with
     | none=>simp [hm] at h
     | some q=>
      obtain ⟨k1,v1⟩:=q;simp only [hm,yd,yo] at h;obtain ⟨rfl,rfl⟩:=h;rcases ZX hk hx hd ks vs es (i+1) k1 v1 Oz zH hm with ⟨g1,g2,g3⟩ | ⟨j,e0,g1,g2,g3,g4,g5⟩
      ·refine .inl ⟨by simp [Instr.findNow,hs,g1],?_,?_⟩
       ·simp only [xj,yY,av];exact ⟨_,_,rfl,hc,g2⟩
       ·simp only [xj,yY,av];exact ⟨_,_,rfl,hv,g3⟩
      ·refine .inr ⟨j+1,e0,?_,by simpa using g2,g3,?_,?_⟩
       ·simp only [Instr.findNow,hs,g1]
        grind
       ·simp only [xj,av];exact ⟨_,_,rfl,hc,g4⟩
       ·simp only [xj,List.set_cons_succ,av];exact ⟨_,_,rfl,hv,g5⟩
def DS (w:yi) (g:Nat) (o:tR):One w {w with heap:=w.heap.setIfInBounds g o} g:=
 ⟨rfl,rfl,rfl,by simp,fun b hb=>by simp [Array.getElem?_setIfInBounds_ne (fun e=>hb e.symm)]⟩
def K6 {g:Nat} {o q:tR} (h:w.heap[g]? =some q):({w with heap:=w.heap.setIfInBounds g o}:yi).heap[g]? =some o:=by grind
def YU {o:yZ} {t kt e:yF} {x k y:xy} {kk:Nat} {v:AV} {ao:Hp} {aW:Nat} (hH:fj O H) (ht:bT O m S w tm a.tmps) (hh:aR O m S w hp ct)
  (ho:o.op= .mapUpdate t x k y\/o.op= .insert t x k y) (hu:O.P.underlying t=some (.map kt e)) (qh:VE.keyOf O.P kt=some kk) (hv:cJ tm hp ct (.oZ kk (aK H x) (aK H k) (aK H y))=some (v,ao,aW)):zc O m S w a hp ct o v ao aW:=by
 simp only [cJ] at hv;have rx:=ck hH ht x;cases hx:az tm (aK H x)<;>rw [hx] at hv rx<;>simp only [reduceCtorEq] at hv
 rename_i id;simp only [ah] at rx;obtain ⟨p,hm,ex⟩:=rx
 split at hv
 case h_2=>cases hv
 rename_i ks vs hg
 cases hc:sO kk (az tm (aK H k)) with
 | false=>simp [hc] at hv
 | true=>
  simp only [hc,Bool.not_true,yH] at hv
  cases bj:AX (az tm (aK H k)) (az tm (aK H y)) ks vs with
  | none=>simp [bj] at hv
  | some q=>
   obtain ⟨kD,dW⟩:=q;simp only [bj,yd,yo] at hv;obtain ⟨rfl,rfl,rfl⟩:=hv;obtain ⟨d,kF,gT,UB⟩:=Xa qh hc;obtain ⟨p',es,clock,g1,g2,g3,g4,g5,g6⟩:=hh.obj id _ _ hg hm;rw [hm] at g1;injection g1 with g1
   subst g1;have aua:=ZX (d:=d) (ck hH ht k) (ck hH ht y) UB ks vs es.toList 0 kD dW g3 g4 bj
   have fin:∀(Dh:Array ua) (c':Nat),(Instr.mapUpdate t (a.eval x) (a.eval k) (a.eval y)).run O.P w= .ok () {w with heap:=w.heap.setIfInBounds p.b (.map Dh c')}->
     av O.ae m S w kD (Dh.toList.map (·.key))->av O.ae m S w dW (Dh.toList.map (·.val))->zc O m S w a hp ct o (.ap []) (aU hp id (.mp true kD dW)) ct:=by
    intro Dh c' eL h1 h2
    have aQ:fG S w {w with heap:=w.heap.setIfInBounds p.b (.map Dh c')}:=fun b hb=>(DS w p.b _).other b (fun e=>g5 rfl (e▸hb))
    have nZ:eX O m S {w with heap:=w.heap.setIfInBounds p.b (.map Dh c')} id (.mp true kD dW):=
     ⟨p,Dh,c',hm,K6 g2,gK (fun _ _ h=>h) (fun _ h=>h) aQ _ _ h1,gK (fun _ _ h=>h) (fun _ h=>h) aQ _ _ h2,fun _=>g5 rfl,by simp⟩
    obtain ⟨e1,e2⟩:=Hu hh hg hm (g5 rfl) (DS w p.b _) nZ (fun r hr=>by rw [g2] at hr;cases hr);refine ⟨.skip,undef,_,m,S,?_,.inr ⟨rfl,rfl⟩,e1,by simp [ah,av,undef],de.refl,e2⟩;rcases ho with ho | ho<;>simp [execOp,ho,eL]
   have nc:=KR (P:=O.P) (w:=w) kF gT false (a.eval k);rcases aua with ⟨h1,h2,h3⟩ | ⟨j,e0,h1,h2,h3,h4,h5⟩
   ·refine fin (es.push ⟨a.eval k,a.eval y,clock⟩) (clock+1) ?_ (by simpa using h2) (by simpa using h3);rw [ex];simp [Instr.mapUpdate,run_underlying hu,MapKept.run_getObj_map g2,nc,Instr.findKey,run_underlying kF,h1,MapKept.run_setObj_map _ g2]
   ·have hj:es[j]? =some e0:=by simp_all
    simp only [yf] at h1;have acX:=Xe h3
    refine fin (es.modify j fun e=>{e with key:=a.eval k,val:=a.eval y}) clock ?_ ?_ ?_
    ·rw [ex];have J6:Instr.sameBits 10000 (a.eval k) (a.eval k)=true:=by have:=sameBits_self h3 10000;rwa [<-acX] at this
     simp [Instr.mapUpdate,run_underlying hu,MapKept.run_getObj_map g2,nc,Instr.findKey,run_underlying kF,h1,MapKept.run_setObj_map _ g2,hj,Instr.keyThatStays,J6,acX.symm]
    ·have:(es.modify j fun e=>{e with key:=a.eval k,val:=a.eval y}).toList.map (·.key)=es.toList.map (·.key):=by
      apply ybb
      grind
     grind
    ·have:(es.modify j fun e=>{e with key:=a.eval k,val:=a.eval y}).toList.map (·.val)=(es.toList.map (·.val)).set j (a.eval y):=by
      apply ybb
      grind
     grind
def anc (t:ByteArray) (i:Nat):(t.get! i).toNat=(t.data.toList.map xi).getD i 0:=by
 have:t.get! i=t.data[i]! :=by cases t;rfl
 rw [this];by_cases h:i<t.data.size
 ·grind
 ·simp only [Array.getElem!_eq_getD,Array.getD_eq_getD_getElem?,List.getD_eq_getElem?_getD,yba,Array.getElem?_toList];rw [Array.getElem?_eq_none (by omega)];rfl
def aiH (t:ByteArray) (i:Nat):decodeL (t.data.toList.map xi) i=Utf8.decode t i:=by
 have eH:(t.data.toList.map xi).length=t.size:=by simp
 simp only [decodeL,Utf8.decode,anc,eH]
def akF {o:yZ} {x:xy} {v:AV} {ao:Hp} {aW:Nat} (hH:fj O H) (ht:bT O m S w tm a.tmps) (hh:aR O m S w hp ct)
  (ho:o.op= .next x true) (hv:cJ tm hp ct (.pg (aK H x))=some (v,ao,aW)):zc O m S w a hp ct o v ao aW:=by
 simp only [cJ] at hv;have rx:=ck hH ht x;cases hx:az tm (aK H x)<;>rw [hx] at hv rx<;>simp only [reduceCtorEq] at hv
 rename_i id;simp only [ah] at rx;obtain ⟨p,hm,ex⟩:=rx
 split at hv
 case h_2=>cases hv
 rename_i s pos hg;obtain ⟨p',t,g1,g2,g3,g4⟩:=hh.obj id _ _ hg hm;rw [hm] at g1;injection g1 with g1
 subst g1;have an:(getObj p.b).run O.P w= .ok (.stringIter t pos) w:=by simp [getObj,Sem.run,g2]
 have hlen:s.length=t.size:=by rw [<-g3];simp
 cases hc:yK pos s.length with
 | false=>
  rw [hc] at hv;simp only [yH,yd,yo] at hv;obtain ⟨rfl,rfl,rfl⟩:=hv;have aP:¬pos<t.size:=by
   intro h
   have:yK pos s.length=true:=by simp [yK];omega
   grind
  refine ⟨.value (.tuple #[.bool false]),.tuple #[.bool false],w,m,S,?_,.inl rfl,hh,by simp [ah,av],de.refl,bZ.refl⟩;simp [execOp,ho,ex,Instr.next,an,aP]
 | true=>
  rw [hc] at hv;simp only [yx] at hv;have aP:pos<t.size:=by
   simp_all
  cases hdc:decodeL s pos with | mk c wd=>
  rw [hdc] at hv;simp only [yd,yo] at hv;obtain ⟨rfl,rfl,rfl⟩:=hv;have hd:Utf8.decode t pos=(c,wd):=by rw [<-aiH,g3,hdc]
  have nZ:eX O m S {w with heap:=w.heap.setIfInBounds p.b (.stringIter t (pos+wd))} id (.si s (pos+wd)):=⟨p,t,hm,K6 g2,g3,g4⟩;obtain ⟨e1,e2⟩:=Hu hh hg hm g4 (DS w p.b _) nZ (fun r hr=>by rw [g2] at hr;cases hr);refine ⟨.value (.tuple #[.bool true,goInt pos,.int .i32 c]),_,_,m,S,?_,.inl rfl,e1,by simp [ah,av,goInt],de.refl,e2⟩
  have aU:(setObj p.b (.stringIter t (pos+wd))).run O.P w= .ok () {w with heap:=w.heap.setIfInBounds p.b (.stringIter t (pos+wd))}:=by simp [setObj,Sem.run,g2]
  simp [execOp,ho,ex,Instr.next,an,aP,hd,aU]
end
end
section
open Go
def Hi {hp:Hp} {id i:Nat}:an (da hp id) i=if id=i then none else an hp i:=by
 induction hp with
 | nil=>simp [da,an]
 | cons x r ih=>
  obtain ⟨j,q⟩:=x;simp only [da];by_cases hj:j=id
  ·subst hj;simp only [xG,yx,ih,an];by_cases hi:j=i
   ·grind
   ·have:yt j i=false:=by
     cases hq:yt j i with
     | false=>rfl
     | true=>exact absurd (yk hq) hi
    grind
  ·have hb:yt j id=false:=by
    cases hq:yt j id with
    | false=>rfl
    | true=>exact absurd (yk hq) hj
   simp only [hb,yH];rw [show an ((j,q)::da r id) i=bif yt j i then some q else an (da r id) i from rfl,ih];by_cases hi:j=i
   ·subst hi
    have:¬id=j:=fun h=>hj h.symm
    simp [xG,this,an]
   ·have rX:yt j i=false:=by
     cases hq:yt j i with
     | false=>rfl
     | true=>exact absurd (yk hq) hi
    simp [rX,an]
section
variable {O:br} {H:Hint} {m:Mp} {S:Nat->Prop} {w:yi} {tm:Env} {a:Act} {hp:Hp} {ct:Nat}
def Src (P:y7) (w:yi) (size n:Nat) (news:List yh) (x:yh):Prop:=
 (∀w',(Builtin.lenOf x).run P w'= .ok n w')/\news.length=n*size/\
 ∀w',w'.heap=w.heap->∀k,k<=n->(Builtin.firstCells size k x).run P w'= .ok (news.take (k*size)).toArray w'
def DW {P:y7} {size n c:Nat} {b:uh} {news:List yh} (hl:news.length=n*size) (hc:∀j u,news[j]? =some u->w.cell? (b.add j)=some u):
  Src P w size n news (.slice (some b) n c):=by
 refine ⟨fun w'=>by simp [Builtin.lenOf],hl,fun w' hw k hk=>?_⟩;have hle:k*size<=news.length:=by rw [hl];exact yS _ hk
 refine run_firstCells_some (P:=P) w' size k b n c (news.take (k*size)) (by rw [yT];omega) (fun j v hv=>?_);rw [List.getElem?_take] at hv
 split at hv
 ·have:=hc j v hv
  simpa [World.cell?,hw] using this
 ·cases hv
def ZY {P:y7} {size:Nat}:Src P w size 0 [] (.slice none 0 0):=
 ⟨fun w'=>by simp [Builtin.lenOf],by simp,fun w' _ k hk=>by simp [Builtin.firstCells]⟩
def ahB (s:ByteArray) (k:Nat):(s.extract 0 k).data.map (fun b=>Value.int .u8 b.toNat)=((s.data.toList.map fun b=>Value.int .u8 (b.toNat:Int)).take k).toArray:=by
 have:(s.extract 0 k).data=s.data.extract 0 k:=by simp
 grind
def ane {P:y7} {s:ByteArray}:Src P w 1 s.size (s.data.toList.map fun b=>Value.int .u8 (b.toNat:Int)) (.string s):=by
 refine ⟨fun w'=>by simp [Builtin.lenOf],by simp,fun w' _ k hk=>?_⟩;simp only [Builtin.firstCells,Sem.run_pure,Nat.mul_one];rw [ahB]
def WO {ae:Nat->Nat}:∀l:List UInt8,av ae m S w (L4 (l.map xi)) (l.map fun b=>Value.int .u8 (b.toNat:Int))
 | []=>by simp [L4,av]
 | b::r=>by
  exact ⟨_,_,rfl,by simp [ah],WO r⟩
def Xf {size n:Nat} {vx:AV} {x:yh} {cs:List AV} (hh:aR O m S w hp ct) (hx:ah O.ae m S w vx x) (h:lY hp size vx=some (n,cs)):
  ∃us,av O.ae m S w cs us/\Src O.P w size n us x:=by
 cases vx<;>simp only [lY,reduceCtorEq] at h
 case af=>
  obtain ⟨rfl,rfl⟩:=h;subst hx;exact ⟨[],by simp [av],ZY⟩
 case aC ex n' dE=>
  cases hc:yt dE.length (n'*size) with
  | false=>rw [hc] at h;cases h
  | true=>
   rw [hc] at h;obtain ⟨rfl,rfl⟩:=h;have hl:=yk hc;rcases hx with ⟨b,o,c,rfl,h1,h2,h3,h4,h5⟩ | ⟨ad,rfl,rfl,rfl⟩
   ·obtain ⟨us,g1,g2,g3⟩:=qI _ b o h5;exact ⟨us,g1,DW (by omega) (fun j u hj=>by rw [nB];exact g3 j u hj)⟩
   ·exact ⟨[],by simp [av],DW (by simp) (fun j u hj=>by simp at hj)⟩
 case ay id o n'=>
  cases hg:an hp id with
  | none=>simp [hg] at h
  | some ob=>
   cases ob<;>simp only [hg,reduceCtorEq] at h
   rename_i rw pu ex z dE
   cases hc:yG (o+n'*size) dE.length with
   | false=>rw [hc] at h;cases h
   | true=>
    rw [hc] at h;simp only [yx,yd,yo] at h;obtain ⟨rfl,rfl⟩:=h;have hl:=yr hc;obtain ⟨p,c,hm,rfl,h1,h2⟩:=hx;have hr:=Qq (o:=0) (n:=0) hh hg hm;have eE:=Af (n'*size) _ _ _ (pK o _ _ _ hr);obtain ⟨us,g1,g2,g3⟩:=qI _ p.b (p.o+o) eE;refine ⟨us,g1,DW ?_ (fun j u hj=>by rw [nB];exact g3 j u hj)⟩
    grind
def XY {size n:Nat} {vx:AV} {x:yh} {cs:List AV} (hh:aR O m S w hp ct) (hx:ah O.ae m S w vx x) (h:js hp size vx=some (n,cs)):
  ∃us,av O.ae m S w cs us/\Src O.P w size n us x:=by
 cases vx<;>try exact Xf hh hx h
 simp only [js] at h
 cases hc:yt size 1 with
 | false=>rw [hc] at h;cases h
 | true=>
  rw [hc] at h;obtain ⟨rfl,rfl⟩:=h
  have:=yk hc
  subst this;obtain ⟨t,rfl,rfl⟩:=hx;refine ⟨_,WO _,?_⟩
  have:(List.map xi t.data.toList).length=t.size:=by simp
  rw [this];exact ane
def agL {P:y7} {t u ty e:yF} {i:ycR} (ht:P.underlying t=some (.slice e)) (hu:(∃e',P.underlying u=some (.slice e'))\/P.underlying u=some .string) (hi:P.info? e=some i)
  {g o iH p0:Nat} {cur:Array yh} {te:yF} (hg:w.heap[g]? =some (.cells cur te (0,0))) {x:yh} {n:Nat} {news:List yh} (hs:Src P w i.size n news x) (h1:∀u∈news,u.oneCell'=true)
  (ED:iH+n<=p0) (SL:o+iH*i.size+news.length<=cur.size):
  (Builtin.append_ #[t,u] ty #[.slice (some ⟨g,o,none⟩) iH p0,x]).run P w=
   .ok (.slice (some ⟨g,o,none⟩) (iH+n) p0) (w.setRow g (cur.toList.take (o+iH*i.size)++news++cur.toList.drop (o+iH*i.size+news.length)).toArray):=by
 obtain ⟨mZ,zL,UE⟩:=hs;have hf:=UE w rfl n (yz _);rw [yN (by omega)] at hf;have aQ:=run_storeCells_at P g (o+iH*i.size) te news 0 cur w hg (by omega) h1;rcases hu with ⟨e',hd⟩ | hd<;>
  simp [Builtin.append_,run_underlying ht,run_underlying hd,vt,typeInfo,hi,mZ,ED,hf,nB,aQ]
def KV {P:y7} {t u ty e:yF} {i:ycR} {z:yh} (ht:P.underlying t=some (.slice e)) (hu:(∃e',P.underlying u=some (.slice e'))\/P.underlying u=some .string) (hi:P.info? e=some i) (hz:i.zero=some z)
  {s:yh} {base:Option uh} {iH p0:Nat} (es:s= .slice base iH p0) {lH:List yh} (ho:Src P w i.size iH lH s) {x:yh} {n:Nat} {news:List yh} (hs:Src P w i.size n news x)
  (hg:p0<iH+n) (UF:iH+n<=1099511627776) (UD:(iH+n)*i.bytes<=1099511627776):
  (Builtin.append_ #[t,u] ty #[s,x]).run P w=
   .ok (.slice (some ⟨w.heap.size,0,none⟩) (iH+n) (grownCap w (iH+n) p0 e))
    (w.drew.alloc (.cells ((lH++news).toArray++Builtin.zeroCells z.cells (grownCap w (iH+n) p0 e-(iH+n))) e)):=by
 obtain ⟨mZ,zL,UE⟩:=hs;obtain ⟨ho1,UG,ho3⟩:=ho;have hf:=UE w.drew rfl n (yz _);rw [yN (by omega)] at hf;have hfo:=ho3 w.drew rfl iH (yz _);have hn:¬(iH+n<=p0):=by omega
 have aub:¬(9223372036854775807<((iH:Int)+(n:Int))):=by omega
 have SL:=growslice_fits (need:=iH+n) (old:=p0) (bytes:=i.bytes) hg (by omega);have auc:¬(281474976710656<Builtin.nextslicecap (iH+n) p0*i.bytes):=by omega
 subst es;rcases hu with ⟨e',hd⟩ | hd
 all_goals
  simp [Builtin.append_,run_underlying ht,run_underlying hd,vt,typeInfo,zeroValue,hi,hz,mZ,hn,aub,auc,Question.forced,hf,hfo,newRow,askRoom,grownCap]
  grind
def P8 {e:yF} {z:yh} {sz need cap:Nat} {cs:List AV} {us:List yh} (hh:aR O m S w hp ct) (hr:av O.ae m S w cs us) (hl:us.length=need*sz) (hz:z.cells.size=sz)
  (Cz:Bool) (UH:Cz=true->aF cs=true) (hc:need<=cap):
  let w':=w.drew.alloc (.cells (us.toArray++Builtin.zeroCells z.cells (cap-need)) e)
  let p:Pl:=⟨w.heap.size,0,cap*sz,sz⟩
  ∀m',de m m'->m' ct=some p->eX O m' S w' ct (.cells true Cz false sz cs):=by
 intro w' p m' hm hi;have aQ:fG S w w':=fun b hb=>by
  have:=hh.slt b hb
  exact RowKit.Below.heap_alloc w.drew _ b (by simpa using this)
 have jc:w'.heap[w.heap.size]? =some (.cells (us.toArray++Builtin.zeroCells z.cells (cap-need)) e (0,0)):=heap_alloc_new w.drew _;have eZ:=gM _ _ hr;refine ⟨p,_,e,hi,jc,rfl,?_,?_,by simp,?_,UH,?_,by simp⟩
 ·show cs.length<=cap*sz
  rw [<-eZ,hl];exact yS _ hc
 ·show 0+cap*sz<=_
  rw [Array.size_append,uM,size_zeroCells,hz,hl,<-we]
  grind
 ·refine Lr jc cs us 0 (gK hm (fun _ h=>h) aQ _ _ hr) (fun j u hj=>?_)
  grind
 ·intro _ hS
  have:=hh.slt _ hS
  grind
def agw (hh:aR O m S w hp ct) (g:tR):fG S w (w.drew.alloc g):=fun b hb=>by
 have:=hh.slt b hb
 exact RowKit.Below.heap_alloc w.drew _ b (by simpa using this)
def P9 (hh:aR O m S w hp ct) {hp0:Hp} {g:tR} {p:Pl} {o:Obj} (Nc:∀i q,an hp0 i=some q->an hp i=some q) (hb:p.b=w.heap.size)
  (ho:∀m',de m m'->m' ct=some p->eX O m' S (w.drew.alloc g) ct o):
  aR O (fC m ct p) S (w.drew.alloc g) ((ct,o)::hp0) (ct+1)/\bZ m S w hp (fC m ct p) S (w.drew.alloc g) ((ct,o)::hp0) ct:=by
 have hn:m ct=none:=by
  cases h:m ct with
  | none=>rfl
  | some q=>have:=hh.lt _ _ h;omega
 have hle:=jr hn (p:=p);have aQ:=agw hh g;have hold:∀b,b<w.heap.size->(w.drew.alloc g).heap[b]? =w.heap[b]? :=fun b hb=>RowKit.Below.heap_alloc w.drew _ b (by simpa using hb)
 have eH:(w.drew.alloc g).heap.size=w.heap.size+1:=by simp
 have il:∀i q,an ((ct,o)::hp0) i=some q->i≠ct->an hp i=some q:=fun i q h hi=>by
  rw [fE,yB (fun e=>hi e.symm)] at h
  grind
 refine ⟨⟨?_,?_,?_,?_,?_,?_,?_,?_,fun i q hq=>(by
  by_cases hc:i=ct
  ·omega
  ·have:=hh.aP _ _ (il i q hq hc);omega)⟩,⟨rfl,rfl,rfl,by omega,?_,fun _ h=>h,fun b hb=>aQ b hb,fun b hb=> .inl hb,?_,fun i q _ h=>hle i q h,fun b r hb=>⟨r,(hold b (xv.1 hb).1).trans hb⟩⟩⟩
 ·intro i q pi hi bD;by_cases hc:i=ct
  ·subst hc;rw [fE] at hi;simp only [xB,yd] at hi;subst hi;exact ho _ hle dN
  ·rw [dZ hc] at bD;exact qK hle (fun _ h=>h) aQ (fun q' bJ=>hold _ (hh.blt i q' bJ)) (fun _ _ h=>h) (hh.obj i q pi (il i q hi hc) bD)
 ·intro i q bD;by_cases hc:i=ct
  ·omega
  ·rw [dZ hc] at bD;have:=hh.lt i q bD;omega
 ·intro i j oi oj pi pj hi hj bD gA e;by_cases ci:i=ct
  ·by_cases cj:j=ct
   ·grind
   ·subst ci;rw [dN] at bD;rw [dZ cj] at gA;injection bD with bD
    subst bD
    have:=hh.blt j pj gA
    omega
  ·rw [dZ ci] at bD;by_cases cj:j=ct
   ·subst cj;rw [dN] at gA;injection gA with gA
    subst gA
    have:=hh.blt i pi bD
    omega
   ·rw [dZ cj] at gA;exact hh.inj i j oi oj pi pj (il i oi hi ci) (il j oj hj cj) bD gA e
 ·intro b hb;have:=hh.slt b hb;omega
 ·intro i q bD;by_cases hc:i=ct
  ·subst hc;rw [dN] at bD;injection bD with bD
   subst bD;omega
  ·rw [dZ hc] at bD;have:=hh.blt i q bD;omega
 ·intro i q bD;have h0:=hh.fP;by_cases hc:i=ct
  ·subst hc;rw [dN] at bD;injection bD with bD
   subst bD;omega
  ·rw [dZ hc] at bD;exact hh.low i q bD
 ·intro b hb;have h0:=hh.fP;exact (hold b (by omega)).trans (hh.lG b hb)
 ·have h0:=hh.fP;omega
 ·intro b hb _;exact hold b hb
 ·rintro b ⟨i,q,pi,h1,h2,h3⟩;by_cases hc:i=ct
  ·subst hc;rw [dN] at h2;injection h2 with h2
   subst h2;exact .inr (by omega)
  ·rw [dZ hc] at h2;exact .inl ⟨i,q,pi,il i q h1 hc,h2,h3⟩
def aiI (hh:aR O m S w hp ct) {id:Nat} {o o':Obj} {p p':Pl} {w':yi} (hg:an hp id=some o) (hm:m id=some p) (hn:¬S p.b) (hw:One w w' p.b) (hk:∀r:uv,w.heap[p.b]? =some (.loop r)->∃r':uv,w'.heap[p.b]? =some (.loop r')) (hb:p'.b=p.b)
  (ho:∀m',de m m'->m' ct=some p'->eX O m' S w' ct o'):
  aR O (fC m ct p') S w' ((ct,o')::da hp id) (ct+1)/\bZ m S w hp (fC m ct p') S w' ((ct,o')::da hp id) ct:=by
 have gU:m ct=none:=by
  cases h:m ct with
  | none=>rfl
  | some q=>have:=hh.lt _ _ h;omega
 have hle:=jr gU (p:=p');have aQ:fG S w w':=fun b hb=>hw.other b (fun e=>hn (e▸hb))
 have il:∀i q,an ((ct,o')::da hp id) i=some q->i≠ct->an hp i=some q/\i≠id:=fun i q h hi=>by
  rw [fE,yB (fun e=>hi e.symm),Hi] at h
  grind
 have acY:∀i q pi,an hp i=some q->i≠id->m i=some pi->pi.b≠p.b:=fun i q pi h hi bD e=>hi (hh.inj i id q o pi p h hg bD hm e)
 refine ⟨⟨?_,?_,?_,?_,?_,?_,?_,?_,fun i q hq=>(by
  by_cases hc:i=ct
  ·omega
  ·have:=hh.aP _ _ (il i q hq hc).1;omega)⟩,⟨hw.os,hw.tape,hw.output,by rw [hw.size];exact yz _,?_,fun _ h=>h,fun b hb=>aQ b hb,fun b hb=> .inl hb,?_,fun i q _ h=>hle i q h,fun b r hb=>(by
  by_cases hc:b=p.b
  ·grind
  ·exact ⟨r,(hw.other b hc).trans hb⟩)⟩⟩
 ·intro i q pi hi bD;by_cases hc:i=ct
  ·subst hc;rw [fE] at hi;simp only [xB,yd] at hi;subst hi;exact ho _ hle dN
  ·rw [dZ hc] at bD;obtain ⟨h1,h2⟩:=il i q hi hc;exact qK hle (fun _ h=>h) aQ (fun q' bJ=>hw.other _ (acY i q q' h1 h2 bJ)) (fun _ _ h=>h) (hh.obj i q pi h1 bD)
 ·intro i q bD;by_cases hc:i=ct
  ·omega
  ·rw [dZ hc] at bD;have:=hh.lt i q bD;omega
 ·intro i j oi oj pi pj hi hj bD gA e;by_cases ci:i=ct
  ·by_cases cj:j=ct
   ·grind
   ·subst ci;rw [dN] at bD;rw [dZ cj] at gA
    grind
  ·rw [dZ ci] at bD;obtain ⟨h1,h2⟩:=il i oi hi ci;by_cases cj:j=ct
   ·subst cj;rw [dN] at gA;injection gA with gA
    subst gA;exact (acY i oi pi h1 h2 bD (by rw [e,hb])).elim
   ·rw [dZ cj] at gA;exact hh.inj i j oi oj pi pj h1 (il j oj hj cj).1 bD gA e
 ·intro b hb;rw [hw.size];exact hh.slt b hb
 ·intro i q bD;rw [hw.size];by_cases hc:i=ct
  ·subst hc;rw [dN] at bD;injection bD with bD
   subst bD;rw [hb];exact hh.blt id p hm
  ·rw [dZ hc] at bD;exact hh.blt i q bD
 ·intro i q bD;by_cases hc:i=ct
  ·subst hc;rw [dN] at bD;injection bD with bD
   subst bD;rw [hb];exact hh.low id p hm
  ·rw [dZ hc] at bD;exact hh.low i q bD
 ·intro b hb
  rw [hw.other b (fun e=>by have:=hh.low id p hm;omega)];exact hh.lG b hb
 ·rw [hw.size];exact hh.fP
 ·intro b _ bQ;exact hw.other b (fun e=>bQ (e▸HV hg hm))
 ·rintro b ⟨i,q,pi,h1,h2,h3⟩;by_cases hc:i=ct
  ·subst hc;rw [dN] at h2;injection h2 with h2
   subst h2;exact .inl ⟨id,o,p,hg,hm,by rw [<-h3,hb]⟩
  ·rw [dZ hc] at h2;exact .inl ⟨i,q,pi,(il i q h1 hc).1,h2,h3⟩
def ZZ {P:y7} {e:yF} {s by':Nat} {z:AV} (hs:cz P e=some s) (hb:rP P e=some by') (hz:lB P e=some z):
  ∃ti zv,P.info? e=some ti/\ti.size=s/\ti.bytes=by'/\ti.zero=some zv/\z=eD zv:=by
 unfold cz at hs;unfold rP at hb;unfold lB at hz
 cases hi:P.info? e with
 | none=>simp [hi] at hs
 | some ti=>
  simp only [hi,yd] at hs hb hz
  cases eN:ti.zero with
  | none=>simp [eN] at hz
  | some zv=>
   grind
def Hv {o:yZ} {v:AV} {u:yh} {w':yi} {m':Mp} {S':Nat->Prop} {ao:Hp} {aW:Nat} (h1:(execOp a.eval o).run O.P w= .ok (.value u) w') (h2:aR O m' S' w' ao aW) (h3:ah O.ae m' S' w' v u)
  (h4:de m m') (h5:bZ m S w hp m' S' w' ao ct):zc O m S w a hp ct o v ao aW:=⟨_,u,w',m',S',h1,.inl rfl,h2,h3,h4,h5⟩
def akG {o:yZ} {b':yF} {t u e:yF} {sz by':Nat} {z:AV} {x y:xy} {v:AV} {ao:Hp} {aW:Nat} (hH:fj O H) (ht:bT O m S w tm a.tmps) (hh:aR O m S w hp ct)
  (eL:(execOp a.eval o).run O.P w=((do pure (.value (<-Builtin.append_ #[t,u] b' #[a.eval x,a.eval y])):Sem yar)).run O.P w)
  (rZ:O.P.underlying t=some (.slice e)) (hu:(∃e',O.P.underlying u=some (.slice e'))\/O.P.underlying u=some .string) (hs:cz O.P e=some sz) (hb:rP O.P e=some by') (hz:lB O.P e=some z) (qj:(cellsOf z).length=sz)
  (hv:cJ tm hp ct (.cR sz by' (aK H x) (aK H y))=some (v,ao,aW)):zc O m S w a hp ct o v ao aW:=by
 simp only [cJ] at hv;obtain ⟨ti,zv,qt,rfl,rfl,J7,rfl⟩:=ZZ hs hb hz;have aI:∀u' w',(Builtin.append_ #[t,u] b' #[a.eval x,a.eval y]).run O.P w= .ok u' w'->(execOp a.eval o).run O.P w= .ok (.value u') w':=fun u' w' h=>by
  rw [eL,Sem.run_bind,h];rfl
 have rb:m ct=none:=by
  cases h:m ct with
  | none=>rfl
  | some q=>have:=hh.lt _ _ h;omega
 have Dg:zv.cells.size=ti.size:=by
  have:=gM _ _ (BU (ae:=O.ae) (m:=m) (S:=S) (w:=w) zv)
  rw [<-qj,<-this];simp
 cases p6:js hp ti.size (az tm (aK H y)) with
 | none=>simp [p6] at hv
 | some q=>
  obtain ⟨n,new⟩:=q;simp only [p6] at hv;obtain ⟨news,eV,dn⟩:=XY hh (ck hH ht y) p6;have J8:=gM _ _ eV;have rx:=ck hH ht x
  cases hx:az tm (aK H x) with
  | af=>
   rw [hx] at hv rx;simp only at hv;simp only [ah] at rx
   cases h0:yt n 0 with
   | true=>
    rw [h0] at hv;simp only [yx,yd,yo] at hv;obtain ⟨rfl,rfl,rfl⟩:=hv;have lQ:=yk h0;subst lQ;have Sa:news=[]:=yJ (by rw [dn.2.1];simp)
    subst Sa;have hf:=dn.2.2 w rfl 0 (yz _);have iO:=dn.1 w;refine ⟨.value (.slice none 0 0),.slice none 0 0,w,m,S,?_,.inl rfl,hh,by simp [ah],de.refl,bZ.refl⟩;rw [eL,rx];rcases hu with ⟨e',hu⟩ | hu<;>
     simp [Builtin.append_,run_underlying rZ,run_underlying hu,vt,typeInfo,qt,iO,hf]
   | false=>
    rw [h0] at hv;simp only [yH] at hv
    cases hc:(yG n room&&(yG (n*ti.bytes) room&&yK 0 ti.size)) with
    | false=>rw [hc] at hv;cases hv
    | true=>
     rw [hc] at hv;simp only [yx,yd,yo] at hv;obtain ⟨rfl,rfl,rfl⟩:=hv;simp only [yg] at hc;have c1:=yr hc.1;have c2:=yr hc.2.1;simp only [room] at c1 c2;have lQ:0<n:=by
      rcases xn n with h | h
      ·subst h;simp at h0
      ·exact h
     have hr:=KV (P:=O.P) (ty:=b') (w:=w) rZ hu qt J7 (s:= .slice none 0 0) rfl (ZY (P:=O.P) (size:=ti.size)) dn (by omega) (by omega) (by simpa using c2);simp only [yf,List.nil_append] at hr;have ji:=grownCap_ge w n 0 e;have jc:=P8 (e:=e) (z:=zv) (cap:=grownCap w n 0 e) hh eV (need:=n) (sz:=ti.size) dn.2.1 Dg (aF new) (fun h=>h) ji;obtain ⟨k1,k2⟩:=P9 hh (hp0:=hp) (p:=⟨w.heap.size,0,grownCap w n 0 e*ti.size,ti.size⟩) (fun _ _ h=>h) rfl jc;exact Hv (aI _ _ (by rw [rx];exact hr)) k1 (by simp only [ah];exact ⟨_,_,dN,rfl,ji,by simp⟩) (jr rb) k2
  | aC ex k cs=>
   rw [hx] at hv rx
   cases ex with
   | false=>simp at hv
   | true=>
    simp only at hv;have rx0:=rx;simp only [ah] at rx;have rx1:∃ad lH,a.eval x= .slice (some ad) k k/\av O.ae m S w cs lH/\lH.length=cs.length/\(∀(j:Nat) (u:yh),lH[j]? =some u->w.cell? (ad.add j)=some u)/\aF cs=true:=by
     rcases rx with ⟨bb,oo,c,ex,h1,h2,h3,h4,h5⟩ | ⟨ad,ex,rfl,rfl⟩
     ·have nc:c=k:=h2 (by trivial);subst nc;obtain ⟨lH,g1,g2,g3⟩:=qI cs bb oo h5;exact ⟨_,lH,ex,g1,g2,fun j u hj=>by rw [nB];exact g3 j u hj,h4⟩
     ·exact ⟨ad,[],ex,by simp [av],rfl,fun j u hj=>by simp at hj,rfl⟩
    obtain ⟨ad,lH,ex,g1,g2,g3,h4⟩:=rx1
    cases h0:yt n 0 with
    | true=>
     rw [h0] at hv;simp only [yx,yd,yo] at hv;obtain ⟨rfl,rfl,rfl⟩:=hv;have lQ:=yk h0;subst lQ;have Sa:news=[]:=yJ (by rw [dn.2.1];simp)
     subst Sa;have hf:=dn.2.2 w rfl 0 (yz _);have iO:=dn.1 w;refine ⟨.value (a.eval x),a.eval x,w,m,S,?_,.inl rfl,hh,rx0,de.refl,bZ.refl⟩;rw [eL,ex];rcases hu with ⟨e',hu⟩ | hu<;>
      simp [Builtin.append_,run_underlying rZ,run_underlying hu,vt,typeInfo,qt,iO,hf,storeCells]
    | false=>
     rw [h0] at hv;simp only [yH] at hv
     cases hc:(yG (k+n) room&&(yG ((k+n)*ti.bytes) room&&(yt cs.length (k*ti.size)&&yK 0 ti.size))) with
     | false=>rw [hc] at hv;cases hv
     | true=>
      rw [hc] at hv;simp only [yx,yd,yo] at hv;obtain ⟨rfl,rfl,rfl⟩:=hv;simp only [yg] at hc;have c1:=yr hc.1;have c2:=yr hc.2.1;have c3:=yk hc.2.2.1;simp only [room] at c1 c2;have lQ:0<n:=by
       rcases xn n with h | h
       ·subst h;simp at h0
       ·exact h
      have J9:Src O.P w ti.size k lH (.slice (some ad) k k):=DW (by omega) g3;have hr:=KV (P:=O.P) (ty:=b') (w:=w) rZ hu qt J7 rfl J9 dn (by omega) c1 c2;have ji:=grownCap_ge w (k+n) k e;have jc:=P8 (e:=e) (z:=zv) (cap:=grownCap w (k+n) k e) hh (lh g1 eV) (need:=k+n) (sz:=ti.size) (by rw [yR,g2,c3,dn.2.1,we]) Dg (aF cs&&aF new)
       (fun h=>by simp only [yg] at h;exact BV h.1 h.2) ji
      obtain ⟨k1,k2⟩:=P9 hh (hp0:=hp) (p:=⟨w.heap.size,0,grownCap w (k+n) k e*ti.size,ti.size⟩) (fun _ _ h=>h) rfl jc;exact Hv (aI _ _ (by rw [ex];exact hr)) k1 (by simp only [ah];exact ⟨_,_,dN,rfl,ji,by simp⟩) (jr rb) k2
  | ay id o0 k=>
   rw [hx] at hv rx;simp only at hv;simp only [ah] at rx;obtain ⟨p,c,hm,ex,h1,h2⟩:=rx
   split at hv
   case h_2=>cases hv
   rename_i pu OB zz cs hg
   cases hc:(yt zz ti.size&&(yG (k+n) room&&(yG ((k+n)*ti.bytes) room&&(yG (o0+k*ti.size) cs.length&&(yK 0 ti.size&&bK new))))) with
   | false=>rw [hc] at hv;cases hv
   | true=>
    rw [hc] at hv;simp only [yx,yd,yo] at hv;obtain ⟨rfl,rfl,rfl⟩:=hv;simp only [yg] at hc;have c0:=yk hc.1;have c1:=yr hc.2.1;have c2:=yr hc.2.2.1;have c3:=yr hc.2.2.2.1;have c4:=hc.2.2.2.2.2;simp only [room] at c1 c2;obtain ⟨p',arr,t',g1,g2,g3,g4,g5,g6,g7,g8,g9,g10⟩:=hh.obj id _ _ hg hm;rw [hm] at g1;injection g1 with g1
    subst g1;subst c0;rw [g3] at h2;have Fo:bL O.ae m S w (slice o0 (k*ti.size) cs) p.b (p.o+o0):=Af _ _ _ _ (pK _ _ _ _ g7);obtain ⟨lH,f1,f2,f3⟩:=qI _ _ _ Fo;have Nf:(slice o0 (k*ti.size) cs).length=k*ti.size:=by simp only [slice,yT,xN];omega
    have mY:(pu&&aF new)=true->aF (slice o0 (k*ti.size) cs++new)=true:=fun h=>by
     simp only [yg] at h;exact BV (Ab _ (sH _ _ (g8 h.1))) h.2
    by_cases ED:k+n<=c
    ·have fm:=Ls eV c4;have SL:p.o+o0+k*ti.size+news.length<=arr.size:=by
      rw [dn.2.1]
      have:(k+n)*ti.size<=c*ti.size:=yS _ ED
      rw [we] at this;omega
     have hr:=agL (P:=O.P) (ty:=b') (w:=w) rZ hu qt g2 dn fm ED SL;have ho:∀m',de m m'->m' ct=some ⟨p.b,p.o+o0,c*ti.size,ti.size⟩->
       eX O m' S (w.setRow p.b (arr.toList.take (p.o+o0+k*ti.size)++news++arr.toList.drop (p.o+o0+k*ti.size+news.length)).toArray) ct
        (.cells true (pu&&aF new) false ti.size (slice o0 (k*ti.size) cs++new)):=by
      intro m' hle hi;have aQ:fG S w (w.setRow p.b (arr.toList.take (p.o+o0+k*ti.size)++news++arr.toList.drop (p.o+o0+k*ti.size+news.length)).toArray):=fun b hb=>setRow_other w p.b b _ (fun e=>g9 rfl (e▸hb))
      refine ⟨_,_,t',hi,setRow_heap w p.b arr _ t' _ g2,rfl,?_,?_,by simp,?_,mY,fun _=>g9 rfl,by simp⟩
      ·show (slice o0 (k*ti.size) cs++new).length<=c*ti.size
       rw [yR,Nf,<-J8,dn.2.1,<-we];exact yS _ ED
      ·show p.o+o0+c*ti.size<=_
       rw [uM,yR,yR,yT,xN,vC];omega
      ·refine D0 _ (lH++news) _ (lh (gK hle (fun _ h=>h) aQ _ _ f1) (gK hle (fun _ h=>h) aQ _ _ eV)) (fun j u hj=>?_);show World.cell? _ ⟨p.b,p.o+o0+j,none⟩=some u
       simp only [World.cell?,setRow_heap w p.b arr _ t' _ g2,tk,yD,xk];rw [yav];have e1:(arr.toList.take (p.o+o0+k*ti.size)).length=p.o+o0+k*ti.size:=by rw [yT,vC];omega
       by_cases J0:j<k*ti.size
       ·rw [wo (by omega)] at hj;rw [xr,wo (by omega),uA (by omega)]
        have:=f3 j u hj
        simpa [World.cell?,g2] using this
       ·rw [xU (by omega)] at hj;have hjl:=(List.getElem?_eq_some_iff.1 hj).1;rw [xr,xU (by omega),e1,wo (by omega),show p.o+o0+j-(p.o+o0+k*ti.size)=j-lH.length by omega];exact hj
     obtain ⟨k1,k2⟩:=aiI (p':=⟨p.b,p.o+o0,c*ti.size,ti.size⟩) hh hg hm (g9 rfl) (PR w p.b _) (fun r hr=>by rw [g2] at hr;cases hr) rfl ho;exact Hv (aI _ _ (by rw [ex];exact hr)) k1 (by simp only [ah];exact ⟨_,c,dN,rfl,ED,by simp⟩) (jr rb) k2
    ·have J9:Src O.P w ti.size k lH (.slice (some ⟨p.b,p.o+o0,none⟩) k c):=DW (by omega) (fun j u hj=>by rw [nB];exact f3 j u hj)
     have hr:=KV (P:=O.P) (ty:=b') (w:=w) rZ hu qt J7 rfl J9 dn (by omega) c1 c2;have ji:=grownCap_ge w (k+n) c e;have jc:=P8 (e:=e) (z:=zv) (cap:=grownCap w (k+n) c e) hh (lh f1 eV) (need:=k+n) (sz:=ti.size) (by rw [yR,f2,Nf,dn.2.1,we]) Dg (pu&&aF new) mY ji;obtain ⟨k1,k2⟩:=P9 hh (hp0:=da hp id) (p:=⟨w.heap.size,0,grownCap w (k+n) c e*ti.size,ti.size⟩) (fun i q h=>by
      rw [Hi] at h;by_cases hi:id=i
      ·simp [hi] at h
      ·simpa only [hi,xk] using h) rfl jc
     exact Hv (aI _ _ (by rw [ex];exact hr)) k1 (by simp only [ah];exact ⟨_,_,dN,rfl,ji,by simp⟩) (jr rb) k2
  | _=>rw [hx] at hv;simp at hv
end
end
section
open Go
section
variable {O:br} {H:Hint} {m:Mp} {S:Nat->Prop} {w:yi} {tm:Env} {a:Act} {hp:Hp} {ct:Nat}
def ag3 {n:Nat} {cs:List AV} (h:aF cs=true):aF (cs.take n)=true:=Ab n h
def Wy:∀(n:Nat) {cs:List AV},bK cs=true->bK (cs.take n)=true
 | 0,_,_=>by simp [bK]
 | n+1,[],_=>by simp [bK]
 | n+1,c::cs,h=>by
  simp only [wc,bK,yg] at h ⊢;exact ⟨h.1,Wy n h.2⟩
def akH {o:yZ} {b':yF} {t u e:yF} {sz:Nat} {x y:xy} {v:AV} {ao:Hp} {aW:Nat} (hH:fj O H) (ht:bT O m S w tm a.tmps) (hh:aR O m S w hp ct)
  (eL:(execOp a.eval o).run O.P w=((do pure (.value (<-Builtin.copy_ #[t,u] b' #[a.eval x,a.eval y])):Sem yar)).run O.P w)
  (rZ:O.P.underlying t=some (.slice e)) (hs:cz O.P e=some sz)
  (hv:cJ tm hp ct (.pk sz (aK H x) (aK H y))=some (v,ao,aW)):zc O m S w a hp ct o v ao aW:=by
 simp only [cJ] at hv
 cases p6:lY hp sz (az tm (aK H y)) with
 | none=>simp [p6] at hv
 | some q=>
  obtain ⟨n,new⟩:=q;simp only [p6] at hv;obtain ⟨news,eV,dn⟩:=Xf hh (ck hH ht y) p6;have J8:=gM _ _ eV;have rx:=ck hH ht x;cases hx:az tm (aK H x)<;>rw [hx] at hv rx<;>simp only [reduceCtorEq] at hv
  rename_i id o0 k;simp only [ah] at rx;obtain ⟨p,c,hm,ex,h1,h2⟩:=rx
  split at hv
  case h_2=>cases hv
  rename_i pu OB zz cs hg
  cases hc:(yt zz sz&&(yG (o0+k*sz) cs.length&&bK new)) with
  | false=>rw [hc] at hv;cases hv
  | true=>
   rw [hc] at hv;simp only [yx,yd,yo] at hv;obtain ⟨rfl,rfl,rfl⟩:=hv;simp only [yg] at hc;have c0:=yk hc.1;have c1:=yr hc.2.1;subst c0;obtain ⟨p',arr,t',g1,g2,g3,g4,g5,g6,g7,g8,g9,g10⟩:=hh.obj id _ _ hg hm;rw [hm] at g1;injection g1 with g1
   subst g1;have acZ:min n k*zz<=k*zz:=yS _ (Nat.min_le_right _ _);have azF:min n k*zz<=n*zz:=yS _ (ybF _ _);have rt:=DV (min n k*zz) eV;have po:(news.take (min n k*zz)).length=min n k*zz:=by rw [yT,dn.2.1];omega
   have azN:(new.take (min n k*zz)).length=min n k*zz:=by rw [yT,<-J8,dn.2.1];omega
   have fm:=Ls rt (Wy _ hc.2.2);have hf:=dn.2.2 w rfl (min n k) (ybF _ _);have aQ:=run_storeCells_at O.P p.b (p.o+o0) t' (news.take (min n k*zz)) 0 arr w g2 (by rw [po];omega) fm;simp only [yW] at aQ;have nZ:eX O m S (w.setRow p.b (arr.toList.take (p.o+o0)++news.take (min n k*zz)++arr.toList.drop (p.o+o0+(news.take (min n k*zz)).length)).toArray) id
     (.cells true (pu&&aF new) OB zz (over o0 (new.take (min n k*zz)) cs)):=by
    refine ⟨p,_,t',hm,setRow_heap w p.b arr _ t' _ g2,g3,by rw [LL (by omega)];exact g4,?_,fun h=>by rw [LL (by omega)];exact g6 h,?_,?_,fun _=>g9 rfl,by simp⟩
    ·rw [uM,yR,yR,yT,xN,vC,po];omega
    ·exact YT g2 g7 rt (by omega) (by omega) de.refl (fun _ h=>h) (fun b hb=>setRow_other w p.b b _ (fun e=>g9 rfl (e▸hb))) (setRow_heap w p.b arr _ t' _ g2)
    ·intro h;simp only [yg] at h;exact Xd (g8 h.1) (ag3 h.2)
   obtain ⟨e1,e2⟩:=Hu hh hg hm (g9 rfl) (PR w p.b _) nZ (fun r hr=>by rw [g2] at hr;cases hr)
   refine Hv (u:=goInt ((min n k:Nat):Int)) (m':=m) (S':=S) ?_ e1 (by simp [ah,goInt]) de.refl e2;rw [eL,ex];simp [Builtin.copy_,run_underlying rZ,dn.1 w,nl hs,show Nat.min n k=min n k from rfl,hf,aQ]
def anf {o:yZ} {k:Nat} {v:AV} {ao:Hp} {aW:Nat} (hH:fj O H) (ht:bT O m S w tm a.tmps) (hh:aR O m S w hp ct)
  (hv:cJ tm hp ct (aS O.P H k o)=some (v,ao,aW)):zc O m S w a hp ct o v ao aW:=by
 have ic:∀{r:AV×Hp×Nat},cJ tm hp ct bad=some r->False:=fun h=>by simp [bad,cJ] at h
 cases ho:o.op with
 | call c=>
  obtain ⟨callee,args,ts⟩:=c;simp only [aS,ho] at hv
  split at hv
  ·cases De:H.mode k<;>simp [De,cJ] at hv
  ·rename_i _ b
   split at hv
   ·rename_i x y t u fQ mE;obtain ⟨al⟩:=args;obtain ⟨tl⟩:=ts;simp only at fQ mE;subst fQ;subst mE;obtain ⟨cs,eL⟩:=DN (O:=O) (w:=w) (a:=a) ho;have IL:(execOp a.eval o).run O.P w=((do pure (.value (<-Builtin.append_ #[t,u] o.type #[a.eval x,a.eval y])):Sem yar)).run O.P w:=by
     rw [eL];simp [builtin]
    have key:∀{z:AV} {sz by':Nat} {e:yF},O.P.underlying t=some (.slice e)->((∃e',O.P.underlying u=some (.slice e'))\/O.P.underlying u=some .string)->cz O.P e=some sz->rP O.P e=some by'->lB O.P e=some z->
      cJ tm hp ct (bif yt (cellsOf z).length sz then .cR sz by' (aK H x) (aK H y) else bad)=some (v,ao,aW)->zc O m S w a hp ct o v ao aW:=by
     intro z sz by' e h1 h2 h3 h4 h5 h
     cases hb:yt (cellsOf z).length sz with
     | false=>rw [hb] at h;exact (ic h).elim
     | true=>
      rw [hb] at h;exact akG hH ht hh IL h1 h2 h3 h4 h5 (yk hb) h
    split at hv
    ·rename_i e e' h1 h2
     split at hv
     ·rename_i sz by' z h3 h4 h5
      exact key h1 (.inl ⟨_,h2⟩) h3 h4 h5 hv
     ·exact (ic hv).elim
    ·rename_i e h1 h2
     split at hv
     ·rename_i sz by' z h3 h4 h5
      exact key h1 (.inr h2) h3 h4 h5 hv
     ·exact (ic hv).elim
    ·exact (ic hv).elim
   ·repeat' split at hv
    all_goals simp [cJ,bad] at hv
   ·rename_i x y t u fQ mE;obtain ⟨al⟩:=args;obtain ⟨tl⟩:=ts;simp only at fQ mE;subst fQ;subst mE;obtain ⟨cs,eL⟩:=DN (O:=O) (w:=w) (a:=a) ho;have IL:(execOp a.eval o).run O.P w=((do pure (.value (<-Builtin.copy_ #[t,u] o.type #[a.eval x,a.eval y])):Sem yar)).run O.P w:=by
     rw [eL];simp [builtin]
    split at hv
    ·rename_i e h1
     split at hv
     ·rename_i sz h3;exact akH hH ht hh IL h1 h3 hv
     ·exact (ic hv).elim
    ·exact (ic hv).elim
   ·simp [cJ] at hv
   ·simp [cJ] at hv
   ·exact (ic hv).elim
  ·exact (ic hv).elim
 | store t x y=>
  simp only [aS,ho] at hv
  split at hv
  ·rename_i s hs;exact anb hH ht hh ho hs hv
  ·exact (ic hv).elim
 | mapUpdate t x k y=>
  simp only [aS,ho] at hv
  split at hv
  ·rename_i kt e hu
   split at hv
   ·rename_i kk qh;exact YU hH ht hh (.inl ho) hu qh hv
   ·exact (ic hv).elim
  ·exact (ic hv).elim
 | insert t x k y=>
  simp only [aS,ho] at hv
  split at hv
  ·rename_i kt e hu
   split at hv
   ·rename_i kk qh;exact YU hH ht hh (.inr ho) hu qh hv
   ·exact (ic hv).elim
  ·exact (ic hv).elim
 | next x b=>
  cases b with
  | false=>simp only [aS,ho] at hv;exact (ic hv).elim
  | true=>exact akF hH ht hh ho (by simpa only [aS,ho] using hv)
 | binOp op t x y ty=>
  cases op<;>simp only [aS,ho,nA,oA] at hv
  case eql=>
        repeat' split at hv
        all_goals first
         | (simp [cJ,bad] at hv;done)
         | (cases hb:(O.P.stoodInHeld t||O.P.eqGuardType O.P.depth t)<;>rw [hb] at hv<;>simp [cJ,bad] at hv)
  case neq=>
        repeat' split at hv
        all_goals first
         | (simp [cJ,bad] at hv;done)
         | (cases hb:(O.P.stoodInHeld t||O.P.eqGuardType O.P.depth t)<;>rw [hb] at hv<;>simp [cJ,bad] at hv)
  all_goals simp [cJ] at hv
 | buildSlice t n parts=>
  simp only [aS,ho] at hv
  repeat' split at hv
  all_goals first
   | (simp [cJ,bad] at hv;done)
   | (
     revert hv;generalize yG _ _=bb;intro hv;cases bb<;>simp [cJ,bad] at hv
     try (split at hv<;>simp [cJ,bad] at hv))
 | makeMap t r=>
  cases r<;>simp only [aS,ho] at hv
  ·repeat' split at hv
   all_goals simp [cJ,bad] at hv
  ·exact (ic hv).elim
 | _=>
  simp only [aS,ho] at hv
  (repeat' split at hv)
  all_goals first
   | contradiction
   | (simp [cJ,bad] at hv;done)
end
end
section
variable {hp H:Hp} {tm tm':Env}
def Z0 (hl:cQ hp H) {id:Nat} {rw pu ex:Bool} {sz:Nat} {cs:List AV} (h:an hp id=some (.cells rw pu ex sz cs)):∃et,an H id=some (.cells et pu ex sz cs):=by
 obtain ⟨o',h1,et,rfl,_⟩:=hl id _ h;exact ⟨et,h1⟩
def Z1 (hl:cQ hp H) {id:Nat} {rw:Bool} {ks vs:List AV} (h:an hp id=some (.mp rw ks vs)):∃et,an H id=some (.mp et ks vs):=by
 obtain ⟨o',h1,et,rfl,_⟩:=hl id _ h;exact ⟨et,h1⟩
def Z2 (hl:cQ hp H) {sz:Nat} {ag:Bool} {x v:AV} (h:jb hp sz ag x=some v):jb H sz ag x=some v:=by
 cases x<;>simp only [jb,reduceCtorEq] at h ⊢
 ·rename_i id o
  cases hg:an hp id with
  | none=>simp [hg] at h
  | some ob=>
   cases ob<;>simp only [hg,reduceCtorEq] at h
   obtain ⟨r,h1⟩:=Z0 hl hg;simp only [h1];exact h
 ·exact h
def akI (hl:cQ hp H) {k x:AV} {v:Option AV} (h:AN hp k x=some v):AN H k x=some v:=by
 cases x<;>simp only [AN,reduceCtorEq] at h ⊢
 ·exact h
 ·rename_i id
  cases hg:an hp id with
  | none=>simp [hg] at h
  | some ob=>
   cases ob<;>simp only [hg,reduceCtorEq] at h
   obtain ⟨r,h1⟩:=Z1 hl hg;simp only [h1];exact h
 ·exact h
def akJ (hl:cQ hp H) {k:Nat} {x v:AV} (h:jv hp k x=some v):jv H k x=some v:=by
 unfold jv at h ⊢
 split at h
 all_goals first
  | exact h
  | cases h
  | skip
 rename_i id
 cases hg:an hp id with
 | none=>simp [hg] at h
 | some ob=>
  cases ob<;>simp only [hg,reduceCtorEq] at h
  obtain ⟨r,h1⟩:=Z1 hl hg;simp only [h1];exact h
def akK (hl:cQ hp H) {k:Cut} {x v:AV} {lo hi:Option X} (h:fB hp k x tm lo hi=some v):fB H k x tm lo hi=some v:=by
 unfold fB at h ⊢
 split at h
 all_goals first
  | exact h
  | cases h
  | skip
 rename_i sz id o n
 cases hg:an hp id with
 | none=>simp [hg] at h
 | some ob=>
  cases ob<;>simp only [hg,reduceCtorEq] at h
  obtain ⟨r,h1⟩:=Z0 hl hg;simp only [h1];exact h
def aiJ (hl:cQ hp H) {o:Op} {v:AV} (h:bl tm hp o=some v):bl tm H o=some v:=by
 cases o<;>simp only [bl,reduceCtorEq] at h ⊢<;>first
  | exact h
  | exact Z2 hl h
  | exact akJ hl h
  | exact akK hl h
  | skip
 rename_i kk zero ok m k
 cases hk:sO kk (az tm k) with
 | false=>rw [hk] at h;cases h
 | true=>
  rw [hk] at h;simp only [yx] at h ⊢
  cases hr:AN hp (az tm k) (az tm m) with
  | none=>simp [hr] at h
  | some r=>rw [akI hl hr];simpa only [hr] using h
def aiK {o:Op} (hk:bm o=0) (hp H:Hp):bl tm hp o=bl tm H o:=by
 cases o with
 | oY k x lo hi=>
  cases k with
  | str=>simp only [bl,fB];cases az tm x<;>rfl
  | sl sz=>simp [bm] at hk
  | ar n sz=>simp [bm] at hk
 | len k x=>
  match k,hk with
  | 0,_=>simp only [bl];unfold jv;split<;>simp_all
  | 1,_=>simp only [bl];unfold jv;split<;>simp_all
  | k+2,hk=>simp [bm] at hk
 | call md f xs=>cases md<;>simp [bm] at hk
 | _=>first
  | rfl
  | simp [bm] at hk
end
section
variable {tm tm':Env}
def dF {x:X} (h:∀t,t∈iX x->aj tm' t=aj tm t):az tm' x=az tm x:=by
 cases x with
 | t i=>exact h i (by simp [iX])
 | c v=>rfl
def BY:∀{xs:List X},(∀t,t∈sU xs->aj tm' t=aj tm t)->di tm' xs=di tm xs
 | [],_=>rfl
 | x::r,h=>by
  simp only [di]
  rw [dF (x:=x) (fun t ht=>h t (by simp [sU,ht])),BY (fun t ht=>h t (by simp [sU,ht]))]
def Qa:∀{ps:List (Nat×Nat×X)} {z:List AV},(∀t,t∈IG ps->aj tm' t=aj tm t)->fill tm' z ps=fill tm z ps
 | [],_,_=>rfl
 | (o,s,x)::r,z,h=>by
  simp only [fill]
  rw [dF (x:=x) (fun t ht=>h t (by simp [IG,ht]))]
  rw [Qa (ps:=r) (fun t ht=>h t (by simp [IG,ht]))]
def Xg {d:Nat} {x:Option X} (h:∀t,t∈IF x->aj tm' t=aj tm t):cC tm' d x=cC tm d x:=by
 cases x with
 | none=>rfl
 | some x=>simp only [cC];rw [dF h]
def ahC {hp:Hp} {k:Cut} {x:AV} {lo hi:Option X} (h1:∀t,t∈IF lo->aj tm' t=aj tm t) (h2:∀t,t∈IF hi->aj tm' t=aj tm t):
  fB hp k x tm' lo hi=fB hp k x tm lo hi:=by
 unfold fB;simp only [Xg h1,Xg h2]
def ag4 {hp:Hp} {o:Op} (h:∀t,t∈j0 o->aj tm' t=aj tm t):bl tm' hp o=bl tm hp o:=by
 cases o<;>simp only [j0,wx] at h<;>simp only [bl]
 case pick c a b=>rw [dF (x:=c) fun t ht=>h t (.inl ht),dF (x:=a) fun t ht=>h t (.inr (.inl ht)),dF (x:=b) fun t ht=>h t (.inr (.inr ht))]
 case AL z ps=>rw [Qa h]
 case Ff f a b=>rw [BY (xs:=a) fun t ht=>h t (.inl ht),BY (xs:=b) fun t ht=>h t (.inr ht)]
 case oY k x lo hi=>rw [dF (x:=x) fun t ht=>h t (.inl ht),ahC (fun t ht=>h t (.inr (.inl ht))) (fun t ht=>h t (.inr (.inr ht)))]
 case mn xs=>rw [BY h]
 case mx xs=>rw [BY h]
 case bin op x y=>rw [dF (x:=x) fun t ht=>h t (.inl ht),dF (x:=y) fun t ht=>h t (.inr ht)]
 case eq n k x y=>rw [dF (x:=x) fun t ht=>h t (.inl ht),dF (x:=y) fun t ht=>h t (.inr ht)]
 case bn s x y=>rw [dF (x:=x) fun t ht=>h t (.inl ht),dF (x:=y) fun t ht=>h t (.inr ht)]
 case Fg l s x y=>rw [dF (x:=x) fun t ht=>h t (.inl ht),dF (x:=y) fun t ht=>h t (.inr ht)]
 case Fh x y=>rw [dF (x:=x) fun t ht=>h t (.inl ht),dF (x:=y) fun t ht=>h t (.inr ht)]
 case Bk l s g x y=>rw [dF (x:=x) fun t ht=>h t (.inl ht),dF (x:=y) fun t ht=>h t (.inr ht)]
 case Ow kk z ok x y=>rw [dF (x:=x) fun t ht=>h t (.inl ht),dF (x:=y) fun t ht=>h t (.inr ht)]
 all_goals first
  | rfl
  | (rename_i x;rw [dF (x:=x) h])
def G7 {hp ao:Hp} {ct:Nat} {o:Op} (h:∀t,t∈j0 o->aj tm' t=aj tm t):cN tm' ao ct o=cN tm hp ct o:=by
 cases o<;>simp only [j0,wx] at h<;>simp only [cN]
 case box s x=>rw [dF (x:=x) h]
 case mT n s z ps=>rw [Qa h]
 case nU s b z x y=>rw [dF (x:=x) fun t ht=>h t (.inl ht),dF (x:=y) fun t ht=>h t (.inr ht)]
 case pc x=>rw [dF (x:=x) h]
def BW {hp:Hp} {ct:Nat} {o:Op} (h:∀t,t∈j0 o->aj tm' t=aj tm t):cJ tm' hp ct o=cJ tm hp ct o:=by
 cases o<;>simp only [j0,wx] at h<;>simp only [cJ]
 case st s x y=>rw [dF (x:=x) fun t ht=>h t (.inl ht),dF (x:=y) fun t ht=>h t (.inr ht)]
 case oZ kk c a b=>rw [dF (x:=c) fun t ht=>h t (.inl ht),dF (x:=a) fun t ht=>h t (.inr (.inl ht)),dF (x:=b) fun t ht=>h t (.inr (.inr ht))]
 case pg x=>rw [dF (x:=x) h]
 case cR s b x y=>rw [dF (x:=x) fun t ht=>h t (.inl ht),dF (x:=y) fun t ht=>h t (.inr ht)]
 case pk s x y=>rw [dF (x:=x) fun t ht=>h t (.inl ht),dF (x:=y) fun t ht=>h t (.inr ht)]
end
section
open Go
structure Calm (w w':yi):Prop where
 os:w'.os=w.os
 tape:w'.tape=w.tape
 output:w'.output=w.output
 size:w.heap.size<=w'.heap.size
 same:∀b,b<w.heap.size->w'.heap[b]? =w.heap[b]?
def Calm.refl {w:yi}:Calm w w:=⟨rfl,rfl,rfl,yz _,fun _ _=>rfl⟩
def AO (O:br) (w:yi):Prop:=(∀b,b<O.w0.heap.size->w.heap[b]? =O.w0.heap[b]?)/\O.w0.heap.size<=w.heap.size
def eO:Mp:=fun _=>none
def ie (ae:Nat->Nat) (S:Nat->Prop) (w:yi) (lo:Nat):AV->yh->List Nat->Prop
 | .cf ex sz n cs,u,bs=>∃b o c arr t,bs=[b]/\u= .slice (some ⟨b,o,none⟩) n c/\n<=c/\(ex=true->c=n)/\lo<=b/\¬S b/\w.heap[b]? =some (.cells arr t (0,0))/\cs.length=n*sz/\
   o+c*sz<=arr.size/\bL ae eO S w cs b o/\aF cs=true
 | r,u,bs=>bs=[]/\ah ae eO S w r u/\aV r=true
def kS (ae:Nat->Nat) (S:Nat->Prop) (w:yi) (lo:Nat):List AV->List yh->List Nat->Prop
 | [],us,bs=>us=[]/\bs=[]
 | v::r,us,bs=>∃u t b1 b2,us=u::t/\bs=b1++b2/\ie ae S w lo v u b1/\kS ae S w lo r t b2
def mU (ae:Nat->Nat) (S:Nat->Prop) (w:yi) (lo:Nat) (r:AV) (u:yh):Prop:=
 match r with
 | .ap vs=>∃(us:Array yh) (bs:List Nat),u= .tuple us/\kS ae S w lo vs us.toList bs/\bs.Nodup
 | r=>∃bs,ie ae S w lo r u bs
def As (P:y7) (f:tq) (args:Array yh) (w:yi) (R:yaD->yi->Prop):Prop:=
 ((callFunc f args).run P w= .ok (.enter f args) w/\CallsIn Fence.wide 0 P f args w R)\/∃u w',(callFunc f args).run P w= .ok (.value u) w'/\R (.returned u) w'
def YV (O:br) (w:yi) (S:Nat->Prop) (r:AV) (e:yaD) (w':yi):Prop:=
 ∃u S',e= .returned u/\Calm w w'/\(∀b,S b->S' b)/\(∀b,S' b->S b\/w.heap.size<=b)/\(∀b,S' b->b<w'.heap.size)/\mU O.ae S' w' w.heap.size r u
def ep (O:br) (n:Nat) (vals:List AV) (r:AV):Prop:=
 ∀(w:yi) (S:Nat->Prop) (args:Array yh),AO O w->(∀b,S b->b<w.heap.size)->av O.ae eO S w vals args.toList->aF vals=true->
  As O.P (O.ae n) args w (YV O w S r)
def sL (O:br) (m:Mp) (S:Nat->Prop) (w:yi) (hp:Hp) (ct:Nat) (v:AV) (ao:Hp) (aW:Nat) (e:yaD) (w':yi):Prop:=
 ∃u m' S',e= .returned u/\aR O m' S' w' ao aW/\ct<=aW/\ah O.ae m' S' w' v u/\bZ m S w hp m' S' w' ao ct
def AP (O:br) (n:Nat) (hp:Hp) (ct:Nat) (vals:List AV) (v:AV) (ao:Hp) (aW:Nat):Prop:=
 ∀(m:Mp) (S:Nat->Prop) (w:yi) (args:Array yh),aR O m S w hp ct->av O.ae m S w vals args.toList->As O.P (O.ae n) args w (sL O m S w hp ct v ao aW)
section
variable {ae:Nat->Nat} {m m':Mp} {S S':Nat->Prop} {w w':yi}
mutual
def pO (hS:∀b,S b->S' b) (hw:fG S w w'):∀(v:AV) (u:yh),aV v=true->ah ae m S w v u->ah ae m' S' w' v u
 | .int _ _,_,_,h | .bool _,_,_,h | .aB _ _,_,_,h | .str _,_,_,h | .kQ,_,_,h | .af,_,_,h | .iF,_,_,h | .jQ,_,_,h | .undef,_,_,h=>by
  simpa only [ah] using h
 | .ptr id o,u,hp,h=>by simp [aV] at hp
 | .aJ cs,u,hp,h=>by
  simp only [ah] at h ⊢;obtain ⟨b,o,h1,h2,h3,h4⟩:=h;refine ⟨b,o,h1,h2.imp id (hS b),h3,?_⟩;rcases h2 with rfl | h2
  ·simp only [bL]
  ·exact PS hS hw cs b o h3 h2 h4
 | .aC ex n cs,u,hp,h=>by
  simp only [ah] at h ⊢;rcases h with ⟨b,o,c,h1,h2,h3,h4,h5,h6⟩ | h
  ·refine .inl ⟨b,o,c,h1,h2,h3,h4.imp id (hS b),h5,?_⟩;rcases h4 with rfl | h4
   ·simp only [bL]
   ·exact PS hS hw cs b o h5 h4 h6
  ·exact .inr h
 | .cf _ _ _ _,u,hp,h=>by simp [aV] at hp
 | .ay id o n,u,hp,h=>by simp [aV] at hp
 | .fn (.f g) first cap,u,hp,h=>by
  simp only [ah] at h ⊢;simp only [aV,yg] at hp;obtain ⟨fi,ca,h1,h2,h3⟩:=h;exact ⟨fi,ca,h1,sI hS hw first _ hp.1 h2,sI hS hw cap _ hp.2 h3⟩
 | .fn (.y l) _ _,u,hp,h=>by simp [aV] at hp
 | .map id,u,hp,h=>by simp [aV] at hp
 | .jz ks vs,u,hp,h=>by
  simp only [ah] at h ⊢;obtain ⟨b,es,clock,h1,h2,h3,h4,h5,h6,h7⟩:=h;exact ⟨b,es,clock,h1,hS b h2,h3,h4,(hw b h2).trans h5,sI hS hw ks _ h3 h6,sI hS hw vs _ h4 h7⟩
 | .it id,u,hp,h=>by simp [aV] at hp
 | .agg cs,u,hp,h=>by
  simp only [ah] at h ⊢;simp only [aV] at hp;obtain ⟨xs,h1,h2⟩:=h;exact ⟨xs,h1,sI hS hw cs _ hp h2⟩
 | .ap cs,u,hp,h=>by
  simp only [ah] at h ⊢;simp only [aV] at hp;obtain ⟨xs,h1,h2⟩:=h;exact ⟨xs,h1,sI hS hw cs _ hp h2⟩
def sI (hS:∀b,S b->S' b) (hw:fG S w w'):∀(vs:List AV) (us:List yh),aF vs=true->av ae m S w vs us->av ae m' S' w' vs us
 | [],us,_,h=>by simpa only [av] using h
 | v::r,us,hp,h=>by
  simp only [av] at h ⊢;simp only [aF,yg] at hp;obtain ⟨u,t,h1,h2,h3⟩:=h;exact ⟨u,t,h1,pO hS hw v u hp.1 h2,sI hS hw r t hp.2 h3⟩
def PS (hS:∀b,S b->S' b) (hw:fG S w w'):∀(cs:List AV) (b o:Nat),aF cs=true->S b->bL ae m S w cs b o->bL ae m' S' w' cs b o
 | [],_,_,_,_,_=>by simp only [bL]
 | c::cs,b,o,hp,hb,h=>by
  simp only [bL] at h ⊢;simp only [aF,yg] at hp;obtain ⟨⟨u,h1,h2⟩,h3⟩:=h;exact ⟨⟨u,(KU (hw b hb)).trans h1,pO hS hw c u hp.1 h2⟩,PS hS hw cs b (o+1) hp.2 hb h3⟩
end
def BX (hS:∀b,S b->S' b) (hw:fG S w w'):∀(cs:List AV) (b o:Nat),aF cs=true->w'.heap[b]? =w.heap[b]? ->bL ae m S w cs b o->bL ae m' S' w' cs b o
 | [],_,_,_,_,_=>by simp only [bL]
 | c::cs,b,o,hp,hb,h=>by
  simp only [aF,yg] at hp;obtain ⟨⟨u,h1,h2⟩,h3⟩:=h;exact ⟨⟨u,(KU hb).trans h1,pO hS hw c u hp.1 h2⟩,BX hS hw cs b (o+1) hp.2 hb h3⟩
end
section
variable {O:br} {m:Mp} {S S':Nat->Prop} {w w':yi} {hp:Hp} {ct:Nat}
def aiL (hh:aR O m S w hp ct) (hw:Calm w w'):fG S w w':=fun b hb=>hw.same b (hh.slt b hb)
def B1 (hh:aR O m S w hp ct) (hw:Calm w w') (hS:∀b,S b->S' b) (hn:∀b,S' b->S b\/w.heap.size<=b) (hl:∀b,S' b->b<w'.heap.size):aR O m S' w' hp ct where
 obj id o p ho hm:=qK (fun _ _ h=>h) hS (aiL hh hw) (fun q hq=>hw.same _ (hh.blt id q hq)) (fun q hq hs=>(hn _ hs).resolve_right (by have:=hh.blt id q hq;omega)) (hh.obj id o p ho hm)
 lt:=hh.lt
 inj:=hh.inj
 slt:=hl
 blt id p h:=yA (hh.blt id p h) hw.size
 low:=hh.low
 lG b hb:=(hw.same b (yA hb hh.fP)).trans (hh.lG b hb)
 fP:=xg hh.fP hw.size
 aP:=hh.aP
def Al {base:Nat} (hh:aR O m S w hp ct) (hw:Calm w w') (hS:∀b,S b->S' b) (hn:∀b,S' b->S b\/w.heap.size<=b):bZ m S w hp m S' w' hp base where
 os:=hw.os
 tape:=hw.tape
 output:=hw.output
 size:=hw.size
 same b hb _:=hw.same b hb
 sub:=hS
 still b hb:=hw.same b (hh.slt b hb)
 new b hb:=(hn b hb).imp id .inr
 own b hb:= .inl hb
 old _ _ _ h:=h
 loops b r hb:=⟨r,(hw.same b (xv.1 hb).1).trans hb⟩
def akL {i:Nat} (hh:aR O m S w hp ct) (hi:m i=none) (Fj:i<ct) {p:Pl} (hb:p.b<w.heap.size) (aZ:O.w0.heap.size<=p.b) (Fk:¬S p.b) (n5:∀j q,m j=some q->q.b≠p.b)
  (hf:∀o,an hp i=some o->(eX O (fC m i p) S w i o/\¬iB o)\/(iB o/\eX O (fC m i p) (fun b=>S b\/b=p.b) w i o)):
  ∃S',aR O (fC m i p) S' w hp ct/\(∀b,S b->S' b)/\∀b,S' b->S b\/b=p.b:=by
 have aQ:fG S w w:=fun _ _=>rfl
 have gen:∀S':Nat->Prop,(∀b,S b->S' b)->(∀b,S' b->S b\/b=p.b)->(∀o,an hp i=some o->eX O (fC m i p) S' w i o)->aR O (fC m i p) S' w hp ct:=by
  intro S' h1 h2 h3;refine ⟨?_,?_,?_,?_,?_,?_,hh.lG,hh.fP,hh.aP⟩
  ·intro id o q ho hm;by_cases hc:id=i
   ·grind
   ·rw [dZ hc] at hm;refine qK (jr hi) h1 aQ (fun _ _=>rfl) (fun q' bJ hs=>?_) (hh.obj id o q ho hm)
    grind
  ·intro id q hm;by_cases hc:id=i
   ·grind
   ·rw [dZ hc] at hm;exact hh.lt id q hm
  ·intro a b oa ob pa pb ha bQ Df zk e;by_cases ca:a=i
   ·by_cases cb:b=i
    ·grind
    ·subst ca;rw [dN] at Df;rw [dZ cb] at zk
     grind
   ·rw [dZ ca] at Df;by_cases cb:b=i
    ·subst cb;rw [dN] at zk
     grind
    ·rw [dZ cb] at zk;exact hh.inj a b oa ob pa pb ha bQ Df zk e
  ·intro b hs;rcases h2 b hs with h | h
   ·exact hh.slt b h
   ·grind
  ·intro id q hm;by_cases hc:id=i
   ·subst hc;rw [dN] at hm
    grind
   ·rw [dZ hc] at hm;exact hh.blt id q hm
  ·intro id q hm;by_cases hc:id=i
   ·subst hc;rw [dN] at hm
    grind
   ·rw [dZ hc] at hm;exact hh.low id q hm
 cases ho:an hp i with
 | none=>exact ⟨S,gen S (fun _ h=>h) (fun _ h=> .inl h) (fun o h=>by rw [ho] at h;cases h),fun _ h=>h,fun _ h=> .inl h⟩
 | some o=>
  rcases hf o ho with ⟨h1,_⟩ | ⟨_,h1⟩
  ·exact ⟨S,gen S (fun _ h=>h) (fun _ h=> .inl h) (fun o' h=>by rw [ho] at h;injection h with h;subst h;exact h1),fun _ h=>h,fun _ h=> .inl h⟩
  ·exact ⟨_,gen (fun b=>S b\/b=p.b) (fun _ h=> .inl h) (fun _ h=>h) (fun o' h=>by rw [ho] at h;injection h with h;subst h;exact h1),fun _ h=> .inl h,fun _ h=>h⟩
def XZ {ae:Nat->Nat} {lo:Nat} {r:AV} {u:yh} {bs:List Nat} (h:ie ae S w lo r u bs) (m:Mp) (hS:∀b,S b->S' b) (hbs:∀b,b∈bs->S' b):ah ae m S' w (bP r) u:=by
 have aQ:fG S w w:=fun _ _=>rfl
 cases r with
 | cf ex sz n cs=>
  obtain ⟨b,o,c,arr,t,rfl,rfl,h1,h2,h3,h4,h5,h6,h7,h8,h9⟩:=h;exact .inl ⟨b,o,c,rfl,h1,h2,.inr (hbs b (by simp)),h9,BX hS aQ cs b o h9 rfl h8⟩
 | _=>simp only [ie] at h;exact pO hS aQ _ _ h.2.2 h.2.1
def X0 {ae:Nat->Nat} {lo:Nat} (m:Mp) (hS:∀b,S b->S' b):∀{vs:List AV} {us:List yh} {bs:List Nat},kS ae S w lo vs us bs->(∀b,b∈bs->S' b)->av ae m S' w (Cv vs) us
 | [],us,bs,h,_=>by simp only [kS] at h;exact h.1
 | v::r,us,bs,h,hb=>by
  obtain ⟨u,t,b1,b2,rfl,rfl,h1,h2⟩:=h;exact ⟨u,t,rfl,XZ h1 m hS (fun b bQ=>hb b (by simp [bQ])),X0 m hS h2 (fun b bQ=>hb b (by simp [bQ]))⟩
def QV {ae:Nat->Nat} {lo:Nat} {r:AV} {u:yh} {bs:List Nat} (h:ie ae S w lo r u bs):∀b,b∈bs->lo<=b/\b<w.heap.size:=by
 intro b hb
 cases r with
 | cf ex sz n cs=>
  simp only [ie] at h
  grind
 | _=>simp only [ie] at h;rw [h.1] at hb;cases hb
def QW {ae:Nat->Nat} {lo:Nat}:∀{vs:List AV} {us:List yh} {bs:List Nat},kS ae S w lo vs us bs->∀b,b∈bs->lo<=b/\b<w.heap.size
 | [],us,bs,h,b,hb=>by simp only [kS] at h;rw [h.2] at hb;cases hb
 | v::r,us,bs,h,b,hb=>by
  obtain ⟨u,t,b1,b2,rfl,rfl,h1,h2⟩:=h;rcases wx.1 hb with hb | hb
  ·exact QV h1 b hb
  ·exact QW h2 b hb
def X3 {ae:Nat->Nat} {lo:Nat} {r:AV} {u:yh} (h:mU ae S w lo r u) (m:Mp):∃S',(∀b,S b->S' b)/\(∀b,S' b->S b\/(lo<=b/\b<w.heap.size))/\ah ae m S' w (shut r) u:=by
 have one:∀(r:AV) (bs:List Nat),shut r=bP r->ie ae S w lo r u bs->∃S',(∀b,S b->S' b)/\(∀b,S' b->S b\/(lo<=b/\b<w.heap.size))/\ah ae m S' w (shut r) u:=by
  intro r bs hs h;refine ⟨fun b=>S b\/b∈bs,fun _ h=> .inl h,fun b hb=>hb.imp (fun x=>x) (fun hb=>QV h b hb),?_⟩;rw [hs];exact XZ h m (fun _ h=> .inl h) (fun _ h=> .inr h)
 cases r with
 | ap vs=>
  obtain ⟨us,bs,rfl,h1,h2⟩:=h;refine ⟨fun b=>S b\/b∈bs,fun _ h=> .inl h,fun b hb=>hb.imp (fun x=>x) (fun hb=>QW h1 b hb),?_⟩;exact ⟨us,rfl,X0 m (fun _ h=> .inl h) h1 (fun _ h=> .inr h)⟩
 | _=>
  obtain ⟨bs,h⟩:=h;exact one _ bs rfl h
end
end
section
open Go
section
variable {O:br} {m:Mp} {S:Nat->Prop} {w:yi} {H:Hp} {cH:Nat}
def L9 {hp:Hp} {ct:Nat} {r:AV}:ct<=(fk hp ct r).2.2:=by
 cases r<;>simp only [fk]<;>omega
def Ma:∀{vs:List AV} {hp:Hp} {ct:Nat},ct<=(jR hp ct vs).2.2
 | [],hp,ct=>by simp [jR]
 | v::r,hp,ct=>by
  simp only [jR];have h1:=L9 (hp:=hp) (ct:=ct) (r:=v);have h2:=Ma (vs:=r) (hp:=(fk hp ct v).2.1) (ct:=(fk hp ct v).2.2);omega
def QX {hp:Hp} {ct:Nat} {r:AV} (hf:∀id o,an hp id=some o->id<ct):∀id o,an hp id=some o->an (fk hp ct r).2.1 id=some o:=by
 intro id o h;cases r<;>simp only [fk]<;>try exact h
 rw [fE,yB (by have:=hf id o h;omega)];exact h
def Z3 {hp:Hp} {ct lo:Nat} {r:AV} {u:yh} {bs:List Nat} (hh:aR O m S w H cH) (hl:cQ (fk hp ct r).2.1 H) (fp:(fk hp ct r).2.2<=cH) (hn:∀id,ct<=id->id<(fk hp ct r).2.2->m id=none)
  (hr:ie O.ae S w lo r u bs) (aZ:O.w0.heap.size<=lo) (n5:∀j q,m j=some q->q.b∉bs):
  ∃m' S',aR O m' S' w H cH/\de m m'/\(∀id p,m' id=some p->m id=some p\/(ct<=id/\id<(fk hp ct r).2.2/\p.b∈bs))/\ah O.ae m' S' w (fk hp ct r).1 u/\(∀b,S b->S' b)/\(∀b,S' b->S b\/b∈bs):=by
 have aQ:fG S w w:=fun _ _=>rfl
 cases r with
 | cf ex sz n cs=>
  simp only [fk] at hl fp hn;obtain ⟨b,o,c,arr,t,rfl,rfl,h1,h2,h3,h4,h5,h6,h7,h8,h9⟩:=hr;have bD:m ct=none:=hn ct (yz _) (Nat.lt_succ_self _);have aud:b<w.heap.size:=(xv.1 h5).1;have nZ:eX O (fC m ct ⟨b,o,c*sz,sz⟩) S w ct (.cells true true ex sz cs):=by
   refine ⟨_,arr,t,dN,h5,rfl,?_,h7,fun hx=>?_,BX (fun _ h=>h) aQ cs b o h9 rfl h8,fun _=>h9,fun _=>h4,by simp⟩
   ·show cs.length<=c*sz
    rw [h6];exact yS _ h1
   ·grind
  obtain ⟨S',k1,k2,k3⟩:=akL (p:=⟨b,o,c*sz,sz⟩) hh bD (by omega) aud (by show _<=b;omega) h4 (fun j q hq e=>n5 j q hq (by rw [e];simp)) (fun o' iM=>by
   obtain ⟨UC,g1,g2⟩:=hl ct (.cells true true ex sz cs) (by rw [fE];simp)
   rw [iM] at g1;injection g1 with g1
   subst g1
   exact PE (p:=⟨b,o,c*sz,sz⟩) g2 dN nZ (by simp [iB]))
  refine ⟨_,S',k1,jr bD,fun id p ao=>?_,?_,k2,fun b' bQ=>(k3 b' bQ).imp (fun h=>h) (fun h=>by rw [h];simp)⟩
  ·by_cases hc:id=ct
   ·subst hc;rw [dN] at ao;injection ao with ao
    subst ao;exact .inr ⟨yz _,by simp [fk],by simp⟩
   ·rw [dZ hc] at ao;exact .inl ao
  ·simp only [fk,ah];exact ⟨_,c,dN,by simp,h1,by simp⟩
 | _=>
  exact ⟨m,S,hh,de.refl,fun _ _ h=> .inl h,pO (fun _ h=>h) aQ _ _ hr.2.2 hr.2.1,fun _ h=>h,fun _ h=> .inl h⟩
def HI {hp:Hp} {ct:Nat} {r:AV} (hf:∀id o,an hp id=some o->id<ct):∀id o,an (fk hp ct r).2.1 id=some o->id<(fk hp ct r).2.2:=by
 intro id o h;cases r<;>simp only [fk] at h ⊢<;>try exact hf id o h
 rw [fE] at h
 grind
def Mb:∀{vs:List AV} {hp:Hp} {ct:Nat},(∀id o,an hp id=some o->id<ct)->∀id o,an hp id=some o->an (jR hp ct vs).2.1 id=some o
 | [],hp,ct,_,id,o,h=>by simpa [jR] using h
 | v::r,hp,ct,hf,id,o,h=>by
  exact Mb (HI hf) id o (QX hf id o h)
def Z4 {lo:Nat} (aZ:O.w0.heap.size<=lo):∀{vs:List AV} {us:List yh} {bs:List Nat} {hp:Hp} {ct:Nat} {m:Mp} {S:Nat->Prop},aR O m S w H cH->cQ (jR hp ct vs).2.1 H->(jR hp ct vs).2.2<=cH->
  (∀id o,an hp id=some o->id<ct)->(∀id,ct<=id->id<(jR hp ct vs).2.2->m id=none)->
  kS O.ae S w lo vs us bs->bs.Nodup->(∀j q,m j=some q->q.b∉bs)->
  ∃m' S',aR O m' S' w H cH/\de m m'/\(∀id p,m' id=some p->m id=some p\/(ct<=id/\id<(jR hp ct vs).2.2/\p.b∈bs))/\av O.ae m' S' w (jR hp ct vs).1 us/\(∀b,S b->S' b)/\(∀b,S' b->S b\/b∈bs)
 | [],us,bs,hp,ct,m,S,hh,hl,fp,hf,hn,hr,lR,n5=>by
  simp only [kS] at hr;exact ⟨m,S,hh,de.refl,fun _ _ h=> .inl h,by simp only [jR,av];exact hr.1,fun _ h=>h,fun _ h=> .inl h⟩
 | v::r,us,bs,hp,ct,m,S,hh,hl,fp,hf,hn,hr,lR,n5=>by
  simp only [kS] at hr;obtain ⟨u,t,b1,b2,rfl,rfl,h1,h2⟩:=hr;simp only [jR] at hl fp hn ⊢;have ef:=L9 (hp:=hp) (ct:=ct) (r:=v);have r5:=Ma (vs:=r) (hp:=(fk hp ct v).2.1) (ct:=(fk hp ct v).2.2);rw [List.nodup_append] at lR;obtain ⟨m1,S1,k1,k2,k3,k4,k5,k6⟩:=Z3 (hp:=hp) (ct:=ct) (lo:=lo) hh ((fun id o h=>hl id o (Mb (HI hf) id o h))) (by omega) (fun id g1 g2=>hn id g1 (by omega)) h1 aZ
   (fun j q hq hb=>n5 j q hq (by simp [hb]))
  have h2':kS O.ae S1 w lo r t b2:=by
   clear k4;have SM:∀b,S1 b->S b\/b∈b1:=k6;have hd:∀b,b∈b2->b∉b1:=fun b hb jj=>lR.2.2 b jj b hb rfl
   have one:∀{v:AV} {u:yh} {bb:List Nat},(∀b,b∈bb->b∉b1)->ie O.ae S w lo v u bb->ie O.ae S1 w lo v u bb:=by
    intro v u bb rV h
    cases v with
    | cf ex sz n cs=>
     simp only [ie] at h ⊢;obtain ⟨b,o,c,arr,tt,rfl,rfl,g1,g2,g3,g4,g5,g6,g7,g8,g9⟩:=h;exact ⟨b,o,c,arr,tt,rfl,rfl,g1,g2,g3,fun hs=>(SM b hs).elim g4 (rV b (by simp)),g5,g6,g7,BX k5 (fun _ _=>rfl) cs b o g9 rfl g8,g9⟩
    | _=>simp only [ie] at h ⊢;exact ⟨h.1,pO k5 (fun _ _=>rfl) _ _ h.2.2 h.2.1,h.2.2⟩
   clear k1 k2 k3 hl fp hn n5 lR;revert hd h2;generalize b2=bb
   induction r generalizing t bb with
   | nil=>intro h2 hd;simpa only [kS] using h2
   | cons v' r ih=>
    intro h2 hd;simp only [kS] at h2 ⊢;obtain ⟨u',t',c1,c2,rfl,rfl,g1,g2⟩:=h2
    exact ⟨u',t',c1,c2,rfl,rfl,one (fun b hb=>hd b (by simp [hb])) g1,ih _ (by
     have:=Ma (vs:=r) (hp:=(fk hp ct v).2.1) (ct:=(fk hp ct v).2.2)
     exact this) _ g2 (fun b hb=>hd b (by simp [hb]))⟩
  obtain ⟨m2,S2,g1,g2,g3,g4,g5,g6⟩:=Z4 aZ (vs:=r) (us:=t) (bs:=b2) (m:=m1) (S:=S1) k1 hl fp (HI hf) (fun id q1 q2=>by
   cases hq:m1 id with
   | none=>rfl
   | some p=>
    rcases k3 id p hq with h | ⟨_,h,_⟩
    ·rw [hn id (by omega) q2] at h;cases h
    ·omega) h2' lR.2.1 (fun j q hq hb=>by
     rcases k3 j q hq with h | ⟨_,_,h⟩
     ·exact n5 j q h (by simp [hb])
     ·exact lR.2.2 q.b h q.b hb rfl)
  refine ⟨m2,S2,g1,k2.trans g2,fun id p ao=>?_,?_,fun b hb=>g5 b (k5 b hb),fun b hb=>?_⟩
  ·rcases g3 id p ao with h | ⟨a1,a2,a3⟩
   ·rcases k3 id p h with h | ⟨a1,a2,a3⟩
    ·exact .inl h
    ·exact .inr ⟨a1,by omega,by simp [a3]⟩
   ·exact .inr ⟨by omega,a2,by simp [a3]⟩
  ·simp only [av];exact ⟨u,t,rfl,lj g2 g5 (fun _ _=>rfl) _ _ k4,g4⟩
  ·rcases g6 b hb with h | h
   ·exact (k6 b h).imp (fun h=>h) (fun h=>by simp [h])
   ·exact .inr (by simp [h])
def apu {hp:Hp} {ct lo:Nat} {r:AV} {u:yh} (hh:aR O m S w H cH) (hl:cQ (own hp ct r).2.1 H) (fp:(own hp ct r).2.2<=cH) (hf:∀id o,an hp id=some o->id<ct)
  (hn:∀id,ct<=id->id<(own hp ct r).2.2->m id=none) (hr:mU O.ae S w lo r u) (aZ:O.w0.heap.size<=lo) (J5:∀j q,m j=some q->q.b<lo):
  ∃m' S',aR O m' S' w H cH/\de m m'/\(∀id p,m' id=some p->m id=some p\/(ct<=id/\id<(own hp ct r).2.2/\lo<=p.b))/\ah O.ae m' S' w (own hp ct r).1 u/\(∀b,S b->S' b)/\(∀b,S' b->S b\/lo<=b):=by
 have one:∀(r:AV) (bs:List Nat),own hp ct r=fk hp ct r->ie O.ae S w lo r u bs->cQ (own hp ct r).2.1 H->(own hp ct r).2.2<=cH->(∀id,ct<=id->id<(own hp ct r).2.2->m id=none)->
   ∃m' S',aR O m' S' w H cH/\de m m'/\(∀id p,m' id=some p->m id=some p\/(ct<=id/\id<(own hp ct r).2.2/\lo<=p.b))/\ah O.ae m' S' w (own hp ct r).1 u/\(∀b,S b->S' b)/\(∀b,S' b->S b\/lo<=b):=by
  intro r bs he hr hl fp hn;rw [he] at hl fp hn ⊢;have CN:=QV hr;obtain ⟨m',S',k1,k2,k3,k4,k5,k6⟩:=Z3 hh hl fp hn hr aZ (fun j q hq hb=>by have:=J5 j q hq;have:=(CN _ hb).1;omega)
  exact ⟨m',S',k1,k2,fun id p h=>(k3 id p h).imp (fun h=>h) (fun h=>⟨h.1,h.2.1,(CN _ h.2.2).1⟩),k4,k5,fun b hb=>(k6 b hb).imp (fun h=>h) (fun h=>(CN _ h).1)⟩
 cases r with
 | ap vs=>
  simp only [own] at hl fp hn ⊢;simp only [mU] at hr;obtain ⟨us,bs,rfl,h1,h2⟩:=hr;have CN:=QW h1;obtain ⟨m',S',k1,k2,k3,k4,k5,k6⟩:=Z4 aZ hh hl fp hf hn h1 h2 (fun j q hq hb=>by have:=J5 j q hq;have:=(CN _ hb).1;omega)
  exact ⟨m',S',k1,k2,fun id p h=>(k3 id p h).imp (fun h=>h) (fun h=>⟨h.1,h.2.1,(CN _ h.2.2).1⟩),by simp only [ah];exact ⟨us,rfl,k4⟩,k5,fun b hb=>(k6 b hb).imp (fun h=>h) (fun h=>(CN _ h).1)⟩
 | _=>
  simp only [mU] at hr;obtain ⟨bs,hr⟩:=hr;exact one _ bs rfl hr hl fp hn
end
end
end VE
