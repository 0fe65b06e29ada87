import GoSem.Core.Code
import GoSem.Core.Float
import GoSem.Core.Utf8
import Derived.CallsIn
import Derived.Laws.World
import GoSem.Op.Equal
import GoSem.Core.Region
import Derived.Below
import Derived.Laws.AppendOwn
import Derived.Laws.Rows
import Derived.WalkKit
import Derived.Laws.CopyRow
import Derived.Laws.Cells
import Derived.Laws.Strings
import Derived.Lib.Strings
import Derived.WideLaws
import Derived.Maps.Keyed
import Derived.ChangeKeysEq
import Derived.Laws.Tables
import Derived.IntWalk
import Derived.Laws.CopyOwn
set_option linter.all false
set_option maxRecDepth 100000
open Array renaming getElem?_eq_some_iff→xu,length_toList→vD,range→tj
open BitVec renaming ofInt→xH
open Bool renaming and_assoc→yah,and_eq_true→yg,eq_iff_iff→uW,false_eq_true→yD,not_eq_true'→uX
open Go renaming Addr→uy,BinOp→wZ,Code→wU,Ending→yaN,Field→tq,FloatKind→uk,FuncId→tE,IntKind→y8,Loop→uG,MapEntry→uo,Next→yaB,Obj→tZ,Oper→yZ,Operand→xv,Program→y5,TypeDesc→ve,TypeId→yC,TypeInfo→ydg,UnOp→ycR,Value→yh,World→yi,binOp→xT,sizeOf→vt
open Go.Utf8 renaming runeError→uC,valid→ybw
open List renaming append_assoc→xt,cons_append→yX,drop_drop→ub,eq_nil_of_length_eq_zero→yH,ext_getElem?→ybm,extract_eq_take_drop→yan,flatten_append→yaS,flatten_cons→uH,getElem?_append_left→wu,getElem?_append_right→xU,getElem?_drop→ybd,getElem?_eq_getElem→xW,getElem?_map→ybl,getElem?_take_of_lt→uK,getElem?_toArray→yaF,length_append→yR,length_cons→yz,length_drop→xO,length_take→yO,map_cons→xm,map_eq_nil_iff→yaR,mem_append→wC,range→xG,replicate→yy,replicate_succ→wq,size_toArray→uY,take_of_length_le→yM,take_succ_cons→wg,take_zero→ybU
open List.cons renaming injEq→vW
open Nat renaming add_assoc→uE,add_mul→wh,add_zero→yW,beq→yr,beq_eq→yde,beq_refl→xz,ble→yF,ble_eq→ydf,blt→yJ,eq_of_beq_eq_true→yj,eq_zero_or_pos→xi,le_of_ble_eq_true→yq,le_refl→yA,le_trans→xg,lt_of_lt_of_le→yu,min_le_left→ybW,mul_comm→xy,mul_le_mul_right→yQ,one_mul→ybV,testBit→uV,zero_add→yf
open Option renaming isSome_none→tC,map_none→ua,map_some→wJ
open Option.some renaming injEq→yb
open Prod.mk renaming injEq→ym
open UInt8 renaming toNat→xh,toNat_inj→ybx
def vc:=@and_true
def ybc:=@beq_iff_eq
def yaD:=@beq_self_eq_true
def yG:=@cond_false
def yt:=@cond_true
def yY:=@decide_eq_false
def xj:=@decide_eq_true
def um:=@decide_eq_true_eq
def yE:=@decide_false
def yx:=@decide_true
def ycH:=@false_or
def xk:=@if_false
def yB:=@if_neg
def yN:=@if_pos
def xA:=@if_true
def ycq:=@ne_eq
def yaw:=@not_false_eq_true
def tk:=@not_true_eq_false
def ybj:=@or_false
def tT:=@true_and
namespace VE
section
open Go (IntKind FloatKind BinOp UnOp)
inductive Fr where
 | f (n:Nat)
 | y (l:Nat)
 deriving DecidableEq,Inhabited
inductive AV where
 | int (k:y8) (n:Int)
 | bool (b:Bool)
 | aK (k:uk) (bits:Nat)
 | str (s:List Nat)
 | kD
 | ptr (id off:Nat)
 | aH (cells:List AV)
 | ae
 | aA (ex:Bool) (n:Nat) (cells:List AV)
 | cr (ex:Bool) (sz n:Nat) (cells:List AV)
 | ay (id off n:Nat)
 | fn (f:Fr) (first cap:List AV)
 | iA
 | jC
 | map (id:Nat)
 | jo (ks vs:List AV)
 | it (id:Nat)
 | agg (cells:List AV)
 | au (vs:List AV)
 | undef
 deriving Inhabited
inductive X where
 | t (i:Nat)
 | c (v:AV)
 deriving Inhabited
inductive Conv where
 | toInt (k:y8)
 | toFlt (k:uk)
 | str
 deriving Inhabited
inductive Md where
 | pure | own | heap | dyn
 deriving Inhabited
inductive Cut where
 | str
 | sl (sz:Nat)
 | ar (len sz:Nat)
 deriving Inhabited
inductive ND where
 | b | sl | fn | ag (ks:List Nat)
 deriving Inhabited
inductive Op where
 | mj (x:X)
 | pick (c a b:X)
 | box (sz:Nat) (x:X)
 | Aw (zero:List AV) (parts:List (Nat×Nat×X))
 | mK (n sz:Nat) (zero:List AV) (parts:List (Nat×Nat×X))
 | ld (sz:Nat) (ag:Bool) (x:X)
 | st (sz:Nat) (x v:X)
 | H9 (x:X)
 | bin (op:wZ) (x y:X)
 | eq (ne:Bool) (k:ND) (x y:X)
 | un (op:ycR) (x:X)
 | cv (k:Conv) (x:X)
 | Ey (f:Fr) (first cap:List X)
 | zu
 | nN (sz bytes:Nat) (zero:List AV) (len cap:X)
 | oP (k:Cut) (x:X) (lo hi:Option X)
 | off (k:Nat) (x:X)
 | I7 (o sz:Nat) (ag:Bool) (x:X)
 | br (sz:Nat) (x i:X)
 | Ez (len sz:Nat) (x i:X)
 | EA (x i:X)
 | A2 (len sz:Nat) (ag:Bool) (x i:X)
 | NE (kk:Nat) (zero:AV) (ok:Bool) (m k:X)
 | oQ (kk:Nat) (m k v:X)
 | oR (x:X)
 | oS (x:X)
 | ext (i:Nat) (x:X)
 | call (m:Md) (f:X) (xs:List X)
 | gZ (rs:List (Nat×Bool×Nat)) (f:X) (xs:List X)
 | jU (rs:List (Nat×Bool×Nat)) (sz:Nat) (x v:X)
 | kI (rs:List (Nat×Bool×Nat)) (sz bytes:Nat) (s x:X)
 | cQ (sz bytes:Nat) (s x:X)
 | oT (sz bytes:Nat) (s x:X)
 | oU (sz:Nat) (d s:X)
 | len (k:Nat) (x:X)
 | mn (xs:List X)
 | mx (xs:List X)
 deriving Inhabited
structure aZ where
 dst:Option Nat
 guard:Option (Nat×Bool)
 op:Op
 deriving Inhabited
inductive VC where
 | skip
 | jr (ops:List aZ)
 | seq (a b:VC)
 | cond (x:X) (a b:VC)
 | dt (id:Nat) (a:VC)
 | kp (live:List Nat)
 | fz (ts:List Nat)
 | loop (live:List Nat) (a:VC)
 | rf (f:X) (ps:List Nat) (assign body:VC)
 | exit (id:Nat)
 | ret
 deriving Inhabited
inductive RV where
 | t (i:Nat)
 | cell (i sz:Nat) (ag:Bool)
 deriving Inhabited
structure ax where
 dQ:List RV
 body:VC
 deriving Inhabited
inductive q9 where
 | none | ret | exit (id:Nat)
 deriving Inhabited,DecidableEq
abbrev Env:=List (Nat×AV)
inductive Obj where
 | cells (rw pu ex:Bool) (sz:Nat) (cs:List AV)
 | mp (rw:Bool) (ks vs:List AV)
 | si (s:List Nat) (pos:Nat)
 | lp (tm:Env) (ps:List Nat) (assign body:VC) (state:Nat) (pending:q9)
 deriving Inhabited
abbrev Hp:=List (Nat×Obj)
structure St where
 tm:Env
 hp:Hp
 ct:Nat
 base:Nat
 deriving Inhabited
inductive Ex where
 | normal
 | ret
 | exit (id:Nat)
 deriving Inhabited,DecidableEq
def aj:Env->Nat->AV
 | [],_=> .undef
 | (j,v)::r,i=>bif yr j i then v else aj r i
def ak:Hp->Nat->Option Obj
 | [],_=>none
 | (j,o)::r,i=>bif yr j i then some o else ak r i
def aU:Hp->Nat->Obj->Hp
 | [],_,_=>[]
 | (j,o)::r,i,u=>bif yr j i then (j,u)::r else (j,o)::aU r i u
def db:Hp->Nat->Hp
 | [],_=>[]
 | (j,o)::r,i=>bif yr j i then db r i else (j,o)::db r i
mutual
def aW:AV->Bool
 | .ptr _ _ | .ay _ _ _ | .map _ | .it _ | .cr _ _ _ _=>false
 | .fn (.y _) _ _=>false
 | .fn (.f _) first cap=>aD first&&aD cap
 | .agg cs=>aD cs
 | .au vs=>aD vs
 | _=>true
def aD:List AV->Bool
 | []=>true
 | v::r=>aW v&&aD r
end
def cellsOf:AV->List AV
 | .agg cs=>cs
 | v=>[v]
def bn:AV->Bool
 | .agg _ | .au _ | .undef | .cr _ _ _ _=>false
 | _=>true
def bL:List AV->Bool
 | []=>true
 | v::r=>bn v&&bL r
def aw (tm:Env):X->AV
 | .t i=>aj tm i
 | .c v=>v
def cZ (tm:Env):List X->List AV
 | []=>[]
 | x::r=>aw tm x::cZ tm r
def slice (o n:Nat) (cs:List AV):List AV:=(cs.drop o).take n
def over (o:Nat) (new cs:List AV):List AV:=cs.take o++new++cs.drop (o+new.length)
mutual
def freeze:Nat->Hp->AV->Option (AV×Hp)
 | 0,_,_=>none
 | n+1,hp,v=>
  match v with
  | .ay id o k=>
   match qB n hp id with
   | some (ex,sz,cs,an)=>
    bif yF (o+k*sz) cs.length then
     some (.aA (ex&&yJ 0 sz&&yr (o+k*sz) cs.length) k (slice o (k*sz) cs),an)
    else none
   | none=>none
  | .ptr id o=>
   match qB n hp id with
   | some (_,_,cs,an)=>some (.aH (cs.drop o),an)
   | none=>none
  | .map id=>
   match ak hp id with
   | some (.mp _ ks vs)=>bif aD ks&&aD vs then some (.jo ks vs,aU hp id (.mp false ks vs)) else none
   | _=>none
  | .fn (.f g) first cap=>
   match cA n hp first with
   | some (Zs,bh)=>
    match cA n bh cap with
    | some (Mn,js)=>some (.fn (.f g) Zs Mn,js)
    | none=>none
   | none=>none
  | .agg cs=>match cA n hp cs with | some (du,an)=>some (.agg du,an) | none=>none
  | .au cs=>match cA n hp cs with | some (du,an)=>some (.au du,an) | none=>none
  | v=>bif aW v then some (v,hp) else none
def qB:Nat->Hp->Nat->Option (Bool×Nat×List AV×Hp)
 | 0,_,_=>none
 | n+1,hp,id=>
  match ak hp id with
  | some (.cells rw pu ex sz cs)=>
   bif pu then some (ex,sz,cs,bif rw then aU hp id (.cells false true ex sz cs) else hp)
   else match cA n hp cs with
    | some (du,an)=>some (ex,sz,du,aU an id (.cells false false ex sz cs))
    | none=>none
  | _=>none
def cA:Nat->Hp->List AV->Option (List AV×Hp)
 | 0,_,_=>none
 | _+1,hp,[]=>some ([],hp)
 | n+1,hp,v::r=>
  match freeze n hp v with
  | some (v',bh)=>
   match cA n bh r with
   | some (r',js)=>some (v'::r',js)
   | none=>none
  | none=>none
end
def qM (n:Nat) (hp:Hp) (v:AV):Option (AV×Hp):=
 match v with
 | .ay id o k=>
  match ak hp id with
  | some (.cells true true ex sz cs)=>
   bif yF (o+k*sz) cs.length then
    some (.cr (ex&&yJ 0 sz&&yr (o+k*sz) cs.length) sz k (slice o (k*sz) cs),db hp id)
   else none
  | _=>freeze n hp v
 | _=>freeze n hp v
def DA:List AV->Option (List Nat)
 | []=>some []
 | .ay id _ _::r=>match DA r with | some l=>bif l.any (yr id) then none else some (id::l) | none=>none
 | v::r=>bif aW v then DA r else none
def sF (n:Nat):Hp->List AV->Option (List AV×Hp)
 | hp,[]=>some ([],hp)
 | hp,v::r=>
  match qM n hp v with
  | some (v',bh)=>match sF n bh r with | some (r',js)=>some (v'::r',js) | none=>none
  | none=>none
def deep:Nat:=1000
def result (hp:Hp) (v:AV):Option AV:=
 match v with
 | .au vs=>
  match DA vs with
  | some _=>match sF deep hp vs with | some (dL,_)=>some (.au dL) | none=>none
  | none=>match freeze deep hp v with | some (v',_)=>some v' | none=>none
 | v=>match qM deep hp v with | some (v',_)=>some v' | none=>none
def bM:AV->AV
 | .cr ex _ n cs=> .aA ex n cs
 | v=>v
def B3:List AV->List AV
 | []=>[]
 | v::r=>bM v::B3 r
def shut:AV->AV
 | .cr ex _ n cs=> .aA ex n cs
 | .au vs=> .au (B3 vs)
 | v=>v
def eU (hp:Hp) (ct:Nat):AV->AV×Hp×Nat
 | .cr ex sz n cs=>(.ay ct 0 n,(ct,.cells true true ex sz cs)::hp,ct+1)
 | v=>(v,hp,ct)
def jD:Hp->Nat->List AV->List AV×Hp×Nat
 | hp,ct,[]=>([],hp,ct)
 | hp,ct,v::r=>((eU hp ct v).1::(jD (eU hp ct v).2.1 (eU hp ct v).2.2 r).1,(jD (eU hp ct v).2.1 (eU hp ct v).2.2 r).2)
def own (hp:Hp) (ct:Nat):AV->AV×Hp×Nat
 | .au vs=>(.au (jD hp ct vs).1,(jD hp ct vs).2)
 | v=>eU hp ct v
mutual
def refs:AV->List Nat
 | .ptr id _=>[id]
 | .ay id _ _=>[id]
 | .map id=>[id]
 | .it id=>[id]
 | .fn (.f _) first cap=>eG first++eG cap
 | .fn (.y l) _ _=>[l]
 | .agg cs=>eG cs
 | .au cs=>eG cs
 | _=>[]
def eG:List AV->List Nat
 | []=>[]
 | v::r=>refs v++eG r
end
def ff:Env->List Nat
 | []=>[]
 | (_,v)::r=>refs v++ff r
def ji:Obj->List Nat
 | .cells _ pu _ _ cs=>bif pu then [] else eG cs
 | .mp _ ks vs=>eG ks++eG vs
 | .si _ _=>[]
 | .lp tm _ _ _ _ _=>ff tm
mutual
def bS (f:Nat->Option Nat):AV->AV
 | .ptr id o=>match f id with | some j=> .ptr j o | none=> .undef
 | .ay id o n=>match f id with | some j=> .ay j o n | none=> .undef
 | .map id=>match f id with | some j=> .map j | none=> .undef
 | .it id=>match f id with | some j=> .it j | none=> .undef
 | .fn (.f g) first cap=> .fn (.f g) (fG f first) (fG f cap)
 | .fn (.y l) first cap=>match f l with | some j=> .fn (.y j) (fG f first) (fG f cap) | none=> .undef
 | .agg cs=> .agg (fG f cs)
 | .au cs=> .au (fG f cs)
 | v=>v
def fG (f:Nat->Option Nat):List AV->List AV
 | []=>[]
 | v::r=>bS f v::fG f r
end
def kE (f:Nat->Option Nat):Env->Env
 | []=>[]
 | (i,v)::r=>(i,bS f v)::kE f r
def lm (f:Nat->Option Nat):Obj->Obj
 | .cells rw pu ex sz cs=> .cells rw pu ex sz (bif pu then cs else fG f cs)
 | .mp rw ks vs=> .mp rw (fG f ks) (fG f vs)
 | .si s pos=> .si s pos
 | .lp tm ps as_ body st pe=> .lp (kE f tm) ps as_ body st pe
def cG (tm:Env):List Nat->Env
 | []=>[]
 | i::r=>(i,aj tm i)::cG tm r
def lz (i:Nat):List Nat->Bool
 | []=>false
 | j::r=>bif yr j i then true else lz i r
def reach (hp:Hp) (base:Nat):Nat->List Nat->List Nat->List Nat
 | 0,_,seen=>seen
 | _+1,[],seen=>seen
 | n+1,id::iV,seen=>
  bif yJ id base||lz id seen then reach hp base n iV seen
  else match ak hp id with
   | some o=>reach hp base n (ji o++iV) (seen++[id])
   | none=>reach hp base n iV seen
def dS (base:Nat):Hp->List Nat
 | []=>[]
 | (id,o)::r=>bif yJ id base then ji o++dS base r else dS base r
def lZ (i:Nat):List Nat->Nat->Option Nat
 | [],_=>none
 | j::r,k=>bif yr j i then some k else lZ i r (k+1)
def jx (base:Nat) (seen:List Nat) (id:Nat):Option Nat:=bif yJ id base then some id else lZ id seen base
def jP (base:Nat) (f:Nat->Option Nat):Hp->Hp
 | []=>[]
 | (id,o)::r=>bif yJ id base then (id,lm f o)::jP base f r else jP base f r
def ki (hp:Hp) (f:Nat->Option Nat):List Nat->Nat->Hp->Hp
 | [],_,acc=>acc
 | id::r,k,acc=>match ak hp id with | some o=>ki hp f r (k+1) ((k,lm f o)::acc) | none=>ki hp f r (k+1) acc
def aT (live:List Nat) (s:St):St:=
 let tm:=cG s.tm live
 let seen:=reach s.hp s.base 100000 (ff tm++dS s.base s.hp) []
 let f:=jx s.base seen
 {tm:=kE f tm,hp:=ki s.hp f seen s.base (jP s.base f s.hp),ct:=s.base+seen.length,base:=s.base}
def lP (hp:Hp) (sz:Nat):AV->Option (Nat×List AV)
 | .ae=>some (0,[])
 | .aA _ n cs=>bif yr cs.length (n*sz) then some (n,cs) else none
 | .ay id o n=>
  match ak hp id with
  | some (.cells _ _ _ _ cs)=>bif yF (o+n*sz) cs.length then some (n,slice o (n*sz) cs) else none
  | _=>none
 | _=>none
def La:List Nat->List AV
 | []=>[]
 | b::r=> .int .u8 b::La r
def A3:List Nat->List Nat->Bool
 | _,[]=>false
 | [],_::_=>true
 | a::x,b::y=>yJ a b||(yr a b&&A3 x y)
def cN:List Nat->List Nat->Bool
 | [],[]=>true
 | a::x,b::y=>yr a b&&cN x y
 | _,_=>false
def dT:List Nat->List AV->List AV->Option Bool
 | [],[],[]=>some true
 | 0::ks,.bool a::x,.bool b::y=>match dT ks x y with | some r=>some ((a==b)&&r) | none=>none
 | 1::ks,.int k a::x,.int k' b::y=>if k=k' then (match dT ks x y with | some r=>some ((a==b)&&r) | none=>none) else none
 | 2::ks,.str a::x,.str b::y=>match dT ks x y with | some r=>some (cN a b&&r) | none=>none
 | _,_,_=>none
def jE:ND->AV->AV->Option Bool
 | .b,.bool a,.bool b=>some (a==b)
 | .sl,.ae,.ae=>some true
 | .sl,.ae,.aA _ _ _=>some false
 | .sl,.ae,.ay _ _ _=>some false
 | .sl,.aA _ _ _,.ae=>some false
 | .sl,.ay _ _ _,.ae=>some false
 | .fn,.iA,.iA=>some true
 | .fn,.iA,.fn _ _ _=>some false
 | .fn,.fn _ _ _,.iA=>some false
 | .ag ks,.agg a,.agg b=>dT ks a b
 | _,_,_=>none
def intCmp (op:wZ) (x y:Int):Option Bool:=
 match op with
 | .eql=>some (x==y)
 | .neq=>some (x !=y)
 | .lss=>some (decide (x<y))
 | .leq=>some (decide (x<=y))
 | .gtr=>some (decide (x>y))
 | .geq=>some (decide (x>=y))
 | _=>none
def lh (op:wZ) (k:y8) (x y:Int):Option AV:=
 match op with
 | .add=>some (.int k (k.wrap (x+y)))
 | .sub=>some (.int k (k.wrap (x-y)))
 | .mul=>some (.int k (k.wrap (x*y)))
 | .quo=>if y=0 then none else some (.int k (k.wrap (x.tdiv y)))
 | .rem=>if y=0 then none else some (.int k (x.tmod y))
 | .and=>some (.int k (k.wrap (xH k.bits x&&&xH k.bits y).toNat))
 | .or=>some (.int k (k.wrap (xH k.bits x|||xH k.bits y).toNat))
 | .xor=>some (.int k (k.wrap (xH k.bits x^^^xH k.bits y).toNat))
 | .andNot=>some (.int k (k.wrap (xH k.bits x&&&~~~(xH k.bits y)).toNat))
 | .shl | .shr=>none
 | op=>match intCmp op x y with | some b=>some (.bool b) | none=>none
def BK (op:wZ) (k:y8) (x y:Int):Option AV:=
 if y<0 then none else
 match op with
 | .shl=>some (.int k (k.wrap (x*2^(min y.toNat k.bits))))
 | .shr=>some (.int k (x.fdiv (2^(min y.toNat k.bits))))
 | _=>none
def HK (op:wZ) (x y:List Nat):Option AV:=
 match op with
 | .add=>bif yF (x.length+y.length) 9223372036854775807 then some (.str (x++y)) else none
 | .eql=>some (.bool (cN x y))
 | .neq=>some (.bool (!cN x y))
 | .lss=>some (.bool (A3 x y))
 | .leq=>some (.bool (A3 x y||cN x y))
 | .gtr=>some (.bool (!(A3 x y||cN x y)))
 | .geq=>some (.bool (!A3 x y))
 | _=>none
def Q2 (op:wZ) (k:uk) (x y:Nat):Option AV:=
 let c:=k.format.order x y
 let ar (r:Option Nat):Option AV:=match r with | some b=>some (.aK k b) | none=>none
 match op with
 | .add=>ar (k.format.add x y)
 | .sub=>ar (k.format.sub x y)
 | .mul=>ar (k.format.mul x y)
 | .quo=>ar (k.format.div x y)
 | .eql=>some (.bool (c==some .eq))
 | .neq=>some (.bool (c !=some .eq))
 | .lss=>some (.bool (c==some .lt))
 | .leq=>some (.bool (c==some .lt||c==some .eq))
 | .gtr=>some (.bool (c==some .gt))
 | .geq=>some (.bool (c==some .gt||c==some .eq))
 | _=>none
def binOp (op:wZ) (x y:AV):Option AV:=
 match x,y with
 | .int k a,.int k' b=>
  match op with
  | .shl | .shr=>BK op k a b
  | _=>if k=k' then lh op k a b else none
 | .aK k a,.aK k' b=>if k=k' then Q2 op k a b else none
 | .str a,.str b=>HK op a b
 | _,_=>none
def unOp (op:ycR) (x:AV):Option AV:=
 match op,x with
 | .neg,.int k n=>some (.int k (k.wrap (0-n)))
 | .xor,.int k n=>lh .xor k (if k.signed then -1 else k.max) n
 | .not,.bool b=>some (.bool !b)
 | .neg,.aK k b=>some (.aK k (b^^^2^(k.format.exponentBits+k.format.fractionBits)))
 | _,_=>none
def iB (c:Conv) (x:AV):Option AV:=
 match c,x with
 | .toInt k,.int _ n=>some (.int k (k.wrap n))
 | .toFlt k,.int _ n=>some (.aK k (k.nearest n))
 | .toInt k,.aK s b=>
  match (s.decode b).toInt .zero with
  | some n=>if k.min<=n/\n<=k.max then some (.int k n) else none
  | none=>none
 | .toFlt k,.aK s b=>
  if s=k then some (.aK k b) else
  match s.decode b with
  | .number sg m e=>if (k.decode (k.encode (.number sg m e))).isInfinity then none else some (.aK k (k.encode (.number sg m e)))
  | _=>none
 | .str,.str s=>some (.str s)
 | _,_=>none
def fV (sz:Nat) (ag:Bool) (cs:List AV):Option AV:=
 bif ag then (bif yF sz cs.length then some (.agg (cs.take sz)) else none)
 else match cs with | v::_=>some v | []=>none
def dB (x:AV):Option Nat:=
 match x with
 | .int _ n=>match n with | .ofNat k=>some k | .negSucc _=>none
 | _=>none
def cB (tm:Env) (d:Nat):Option X->Option Nat
 | none=>some d
 | some x=>dB (aw tm x)
def fg (hp:Hp) (k:Cut) (x:AV) (tm:Env) (lo hi:Option X):Option AV:=
 match k,x with
 | .str,.str s=>
  match cB tm 0 lo,cB tm s.length hi with
  | some l,some h=>bif yF l h&&yF h s.length then some (.str ((s.take h).drop l)) else none
  | _,_=>none
 | .sl _,.ae=>
  match cB tm 0 lo,cB tm 0 hi with
  | some 0,some 0=>some .ae
  | _,_=>none
 | .sl sz,.aA ex n cs=>
  match cB tm 0 lo,cB tm n hi with
  | some l,some h=>bif yF l h&&yF h n then some (.aA (ex&&yr h n) (h-l) (slice (l*sz) ((h-l)*sz) cs)) else none
  | _,_=>none
 | .sl sz,.ay id o n=>
  match ak hp id with
  | some (.cells _ _ _ z _)=>
   match cB tm 0 lo,cB tm n hi with
   | some l,some h=>
    bif yF l h&&yF h n&&yr z sz then
     bif yr l h&& !yr l 0 then some (.aA false 0 []) else some (.ay id (o+l*sz) (h-l))
    else none
   | _,_=>none
  | _=>none
 | _,_=>none
def fill (tm:Env):List AV->List (Nat×Nat×X)->Option (List AV)
 | cs,[]=>some cs
 | cs,(o,sz,x)::r=>
  let new:=cellsOf (aw tm x)
  bif yr new.length sz&&yF (o+sz) cs.length&&bL new then fill tm (over o new cs) r else none
def DU:AV->AV->Option Bool
 | .int k a,.int k' b=>if k=k' then some (a==b) else none
 | .str a,.str b=>some (cN a b)
 | .bool a,.bool b=>some (a==b)
 | _,_=>none
def sG:Nat->AV->Bool
 | 0,.bool _=>true
 | 1,.int _ _=>true
 | 2,.str _=>true
 | _,_=>false
def B4 (k:AV):List AV->List AV->Option (Option AV)
 | [],_=>some none
 | k'::ks,v::vs=>match DU k k' with | some true=>some (some v) | some false=>B4 k ks vs | none=>none
 | _::_,[]=>none
def AH (k v:AV):List AV->List AV->Option (List AV×List AV)
 | [],[]=>some ([k],[v])
 | k'::ks,u::us=>
  match DU k k' with
  | some true=>some (k'::ks,v::us)
  | some false=>match AH k v ks us with | some (jV,S8)=>some (k'::jV,u::S8) | none=>none
  | none=>none
 | _,_=>none
def min2:AV->AV->Option AV
 | .int k x,.int _ y=>some (.int k (if y<x then y else x))
 | .aK k x,.aK _ y=>
  match k.format.order x y with
  | none=>none
  | some .lt=>some (.aK k x)
  | some .gt=>some (.aK k y)
  | some .eq=>some (.aK k (if (k.decode x).neg then x else y))
 | _,_=>none
def max2:AV->AV->Option AV
 | .int k x,.int _ y=>some (.int k (if y>x then y else x))
 | .aK k x,.aK _ y=>
  match k.format.order x y with
  | none=>none
  | some .lt=>some (.aK k y)
  | some .gt=>some (.aK k x)
  | some .eq=>some (.aK k (if (k.decode x).neg then y else x))
 | _,_=>none
def Ax (f:AV->AV->Option AV):AV->List AV->Option AV
 | a,[]=>some a
 | a,b::r=>match f a b with | some c=>Ax f c r | none=>none
def room:Nat:=1099511627776
abbrev fN:=Option (AV×Hp×Nat)
def iW (hp:Hp) (sz:Nat) (ag:Bool):AV->Option AV
 | .ptr id o=>match ak hp id with | some (.cells _ _ _ _ cs)=>fV sz ag (cs.drop o) | _=>none
 | .aH cs=>fV sz ag cs
 | _=>none
def HL (k:Nat):AV->Option AV
 | .ptr id o=>some (.ptr id (o+k))
 | .aH cs=>bif yF k cs.length then some (.aH (cs.drop k)) else none
 | _=>none
def LR (o sz:Nat) (ag:Bool):AV->Option AV
 | .agg cs=>fV sz ag (cs.drop o)
 | _=>none
def jj (sz i:Nat):AV->Option AV
 | .ay id o n=>bif yJ i n then some (.ptr id (o+i*sz)) else none
 | .aA _ n cs=>bif yJ i n then some (.aH (cs.drop (i*sz))) else none
 | _=>none
def DV (len sz i:Nat):AV->Option AV
 | .ptr id o=>bif yJ i len then some (.ptr id (o+i*sz)) else none
 | .aH cs=>bif yJ i len then some (.aH (cs.drop (i*sz))) else none
 | _=>none
def mG (i:Nat):AV->Option AV
 | .str s=>match s[i]? with | some b=>some (.int .u8 b) | none=>none
 | _=>none
def HM (len sz:Nat) (ag:Bool) (i:Nat):AV->Option AV
 | .agg cs=>bif yJ i len then fV sz ag (cs.drop (i*sz)) else none
 | _=>none
def Ay (hp:Hp) (k:AV):AV->Option (Option AV)
 | .jC=>some none
 | .map id=>match ak hp id with | some (.mp _ ks vs)=>B4 k ks vs | _=>none
 | .jo ks vs=>B4 k ks vs
 | _=>none
def jk (hp:Hp):Nat->AV->Option AV
 | 0,.str s=>some (.int .i64 s.length)
 | 1,.ae=>some (.int .i64 0)
 | 1,.aA _ n _=>some (.int .i64 n)
 | 1,.ay _ _ n=>some (.int .i64 n)
 | 2,.jC=>some (.int .i64 0)
 | 2,.jo ks _=>some (.int .i64 ks.length)
 | 2,.map id=>match ak hp id with | some (.mp _ ks _)=>some (.int .i64 ks.length) | _=>none
 | _,_=>none
def bi (tm:Env) (hp:Hp):Op->Option AV
 | .mj x=>some (aw tm x)
 | .pick c a b=>match aw tm c with | .bool t=>some (bif t then aw tm a else aw tm b) | _=>none
 | .Aw zero parts=>match fill tm zero parts with | some cs=>some (.agg cs) | none=>none
 | .ld sz ag x=>iW hp sz ag (aw tm x)
 | .H9 x=>
  match aw tm x with
  | .ptr id o=>some (.ptr id o)
  | .aH cs=>some (.aH cs)
  | .fn f a b=>some (.fn f a b)
  | _=>none
 | .bin op x y=>binOp op (aw tm x) (aw tm y)
 | .eq ne k x y=>match jE k (aw tm x) (aw tm y) with | some r=>some (.bool (ne !=r)) | none=>none
 | .un op x=>unOp op (aw tm x)
 | .cv k x=>iB k (aw tm x)
 | .Ey f first cap=>some (.fn f (cZ tm first) (cZ tm cap))
 | .oP k x lo hi=>fg hp k (aw tm x) tm lo hi
 | .off k x=>HL k (aw tm x)
 | .I7 o sz ag x=>LR o sz ag (aw tm x)
 | .br sz x i=>match dB (aw tm i) with | some j=>jj sz j (aw tm x) | none=>none
 | .Ez len sz x i=>match dB (aw tm i) with | some j=>DV len sz j (aw tm x) | none=>none
 | .EA x i=>match dB (aw tm i) with | some j=>mG j (aw tm x) | none=>none
 | .A2 len sz ag x i=>match dB (aw tm i) with | some j=>HM len sz ag j (aw tm x) | none=>none
 | .NE kk zero ok m k=>
  bif sG kk (aw tm k) then
   match Ay hp (aw tm k) (aw tm m) with
   | some (some v)=>some (bif ok then .au [v,.bool true] else v)
   | some none=>some (bif ok then .au [zero,.bool false] else zero)
   | none=>none
  else none
 | .ext i x=>match aw tm x with | .au vs=>vs[i]? | _=>none
 | .len k x=>jk hp k (aw tm x)
 | .mn xs=>match cZ tm xs with | a::r=>Ax min2 a r | []=>none
 | .mx xs=>match cZ tm xs with | a::r=>Ax max2 a r | []=>none
 | _=>none
def cK (tm:Env) (hp:Hp) (ct:Nat):Op->Option (AV×Obj)
 | .box sz x=>
  let cs:=cellsOf (aw tm x)
  bif yr cs.length sz&&bL cs then some (.ptr ct 0,.cells true (aD cs) true sz cs) else none
 | .mK n sz zero parts=>
  match fill tm zero parts with
  | some cs=>bif yr cs.length (n*sz) then some (.ay ct 0 n,.cells true (aD cs) true sz cs) else none
  | none=>none
 | .nN sz bytes zero len cap=>
  match dB (aw tm len),dB (aw tm cap) with
  | some l,some c=>
   bif yF l c&&(yF c room&&(yF (c*bytes) room&&(yr zero.length sz&&bL zero))) then
    some (.ay ct 0 l,.cells true (aD zero) (yr l c) sz (yy l zero).flatten)
   else none
  | _,_=>none
 | .zu=>some (.map ct,.mp true [] [])
 | .oR x=>match aw tm x with | .str s=>some (.it ct,.si s 0) | _=>none
 | _=>none
def decodeL (s:List Nat) (i:Nat):Nat×Nat:=
 let at' (k:Nat):Nat:=s.getD (i+k) 0
 let cont (k:Nat):Bool:=decide (i+k<s.length)&&at' k/64==2
 let b0:=at' 0
 if b0<0x80 then (b0,1)
 else if b0/32==6&&cont 1 then
  let c:=(b0%32)*64+at' 1%64
  if c>=0x80 then (c,2) else (uC,1)
 else if b0/16==14&&cont 1&&cont 2 then
  let c:=(b0%16)*4096+(at' 1%64)*64+at' 2%64
  if c>=0x800&&ybw c then (c,3) else (uC,1)
 else if b0/8==30&&cont 1&&cont 2&&cont 3 then
  let c:=(b0%8)*262144+(at' 1%64)*4096+(at' 2%64)*64+at' 3%64
  if c>=0x10000&&ybw c then (c,4) else (uC,1)
 else (uC,1)
def jh (hp:Hp) (sz:Nat):AV->Option (Nat×List AV)
 | .str b=>bif yr sz 1 then some (b.length,La b) else none
 | v=>lP hp sz v
def qU (hp:Hp) (ct sz bytes:Nat) (s:AV) (src:Option (Nat×List AV)):Option (AV×Obj):=
 match src with
 | none=>none
 | some (m,new)=>
  match s with
  | .ay id o n=>
   match ak hp id with
   | some (.cells _ pu true z cs)=>
    bif yr z sz&&(yJ 0 m&&(yF (n+m) room&&(yF ((n+m)*bytes) room&&(yr (o+n*sz) cs.length&&yJ 0 sz)))) then
     some (.ay ct 0 (n+m),.cells true (pu&&aD new) false sz (slice o (n*sz) cs++new))
    else none
   | _=>none
  | _=>none
def cF (tm:Env) (hp:Hp) (ct:Nat):Op->fN
 | .st sz x v=>
  let new:=cellsOf (aw tm v)
  match aw tm x with
  | .ptr id o=>
   match ak hp id with
   | some (.cells true pu ex z cs)=>
    bif yr new.length sz&&yF (o+sz) cs.length&&bL new then
     some (.au [],aU hp id (.cells true (pu&&aD new) ex z (over o new cs)),ct)
    else none
   | _=>none
  | _=>none
 | .oQ kk m k v=>
  match aw tm m with
  | .map id=>
   match ak hp id with
   | some (.mp true ks vs)=>bif !sG kk (aw tm k) then none else match AH (aw tm k) (aw tm v) ks vs with | some (jV,dL)=>some (.au [],aU hp id (.mp true jV dL),ct) | none=>none
   | _=>none
  | _=>none
 | .oS x=>
  match aw tm x with
  | .it id=>
   match ak hp id with
   | some (.si s pos)=>
    bif yJ pos s.length then
     match decodeL s pos with
     | (c,wd)=>some (.au [.bool true,.int .i64 pos,.int .i32 c],aU hp id (.si s (pos+wd)),ct)
    else some (.au [.bool false],hp,ct)
   | _=>none
  | _=>none
 | .cQ sz bytes s x=>
  match jh hp sz (aw tm x) with
  | none=>none
  | some (m,new)=>
   match aw tm s with
   | .ae=>
    bif yr m 0 then some (.ae,hp,ct)
    else bif yF m room&&(yF (m*bytes) room&&yJ 0 sz) then some (.ay ct 0 m,(ct,.cells true (aD new) false sz new)::hp,ct+1) else none
   | .aA true n cs=>
    bif yr m 0 then some (.aA true n cs,hp,ct)
    else bif yF (n+m) room&&(yF ((n+m)*bytes) room&&(yr cs.length (n*sz)&&yJ 0 sz)) then some (.ay ct 0 (n+m),(ct,.cells true (aD cs&&aD new) false sz (cs++new))::hp,ct+1) else none
   | .ay id o n=>
    match ak hp id with
    | some (.cells true pu _ z cs)=>
     bif yr z sz&&(yF (n+m) room&&(yF ((n+m)*bytes) room&&(yF (o+n*sz) cs.length&&(yJ 0 sz&&bL new)))) then
      some (.ay ct 0 (n+m),(ct,.cells true (pu&&aD new) false sz (slice o (n*sz) cs++new))::db hp id,ct+1)
     else none
    | _=>none
   | _=>none
 | .oU sz d s=>
  match lP hp sz (aw tm s),aw tm d with
  | some (m,new),.ay id o n=>
   match ak hp id with
   | some (.cells true pu ex z cs)=>
    bif yr z sz&&(yF (o+n*sz) cs.length&&bL new) then
     some (.int .i64 (min m n:Nat),aU hp id (.cells true (pu&&aD new) ex z (over o (new.take (min m n*sz)) cs)),ct)
    else none
   | _=>none
  | _,_=>none
 | _=>none
def iR:X->List Nat | .t i=>[i] | .c _=>[]
def sM:List X->List Nat
 | []=>[]
 | x::r=>iR x++sM r
def HN:Option X->List Nat | some x=>iR x | none=>[]
def HO:List (Nat×Nat×X)->List Nat
 | []=>[]
 | (_,_,x)::r=>iR x++HO r
def jL:Op->List Nat
 | .mj x | .box _ x | .ld _ _ x | .H9 x | .un _ x | .cv _ x | .off _ x | .I7 _ _ _ x | .oR x | .oS x | .ext _ x | .len _ x=>iR x
 | .pick a b c | .oQ _ a b c=>iR a++(iR b++iR c)
 | .Aw _ ps | .mK _ _ _ ps=>HO ps
 | .st _ a b | .bin _ a b | .eq _ _ a b | .br _ a b | .Ez _ _ a b | .EA a b | .A2 _ _ _ a b | .NE _ _ _ a b | .cQ _ _ a b | .oT _ _ a b | .oU _ a b=>iR a++iR b
 | .Ey _ a b=>sM a++sM b
 | .zu=>[]
 | .nN _ _ _ a b=>iR a++iR b
 | .oP _ x a b=>iR x++(HN a++HN b)
 | .call _ f xs=>iR f++sM xs
 | .gZ _ f xs=>iR f++sM xs
 | .jU _ _ a b=>iR a++iR b
 | .kI _ _ _ a b=>iR a++iR b
 | .mn xs | .mx xs=>sM xs
def bj:Op->Nat
 | .mj _ | .pick _ _ _ | .Aw _ _ | .H9 _ | .bin _ _ _ | .eq _ _ _ _ | .un _ _ | .cv _ _ | .Ey _ _ _ | .off _ _ | .I7 _ _ _ _ | .br _ _ _ | .Ez _ _ _ _ | .EA _ _ | .A2 _ _ _ _ _ | .ext _ _ | .mn _ | .mx _=>0
 | .oP .str _ _ _ | .len 0 _ | .len 1 _=>0
 | .st _ _ _ | .oQ _ _ _ _ | .oS _ | .cQ _ _ _ _ | .oU _ _ _ | .gZ _ _ _ | .jU _ _ _ _ | .kI _ _ _ _ _ | .call .heap _ _ | .call .dyn _ _=>2
 | _=>1
def Q3:Option (Nat×Bool)->List Nat | some (t,_)=>[t] | none=>[]
def BP (o:aZ):List Nat:=Q3 o.guard++jL o.op
def D5 (d:Option Nat) (l:List Nat):Bool:=match d with | some i=>lz i l | none=>false
def aaa (d e:Option Nat):Bool:=match d,e with | some i,some j=>yr i j | _,_=>false
def KG (a b:aZ):Bool:=D5 a.dst (BP b)||D5 b.dst (BP a)||aaa a.dst b.dst
def Cf (sz:Nat) (ag:Bool) (t:Nat):List (Nat×Bool×Nat)->Bool
 | []=>false
 | (s,g,u)::r=>(yr s sz&&(g==ag&&yr u t))||Cf sz ag t r
def B5 (t:Nat):List aZ->Bool
 | []=>true
 | o::r=> !D5 o.dst [t]&&B5 t r
def GU (a b:aZ) (r:List aZ):Bool:=
 match a.guard,a.op,b.op with
 | none,.ld sz ag (.t t),.gZ rs _ _=>Cf sz ag t rs&&B5 t (a::r)
 | none,.ld sz ag (.t t),.jU rs _ _ _=>Cf sz ag t rs&&B5 t (a::r)
 | none,.ld sz ag (.t t),.kI rs _ _ _ _=>Cf sz ag t rs&&B5 t (a::r)
 | _,_,_=>false
def Gy (a b:aZ):Bool:=
 match bj a.op,bj b.op with
 | 1,2 | 2,1 | 2,2=>true
 | _,_=>false
def KH (m:Nat) (b:aZ):List aZ->Nat->Bool
 | [],_=>true
 | a::r,i=>(uV m i|| !(KG a b||(Gy a b&& !GU a b r)))&&KH m b r (i+1)
def sH (done:List aZ):List aZ->List Nat->Bool
 | [],_=>true
 | b::r,m::ms=>KH m b done 0&&sH (done++[b]) r ms
 | _::_,[]=>false
def GV (m:Nat):List aZ->Nat->List (Nat×Bool×Nat)
 | [],_=>[]
 | a::r,i=>
  match uV m i,a with
  | false,⟨_,none,.ld sz ag (.t t)⟩=>(sz,ag,t)::GV m r (i+1)
  | _,_=>GV m r (i+1)
def stOp (rs:List (Nat×Bool×Nat)) (sz:Nat) (x v:X):Op:=match rs with | []=> .st sz x v | rs=> .jU rs sz x v
def abt (rs:List (Nat×Bool×Nat)) (sz b:Nat) (x v:X):Op:=match rs with | []=> .cQ sz b x v | rs=> .kI rs sz b x v
def mH (done:List aZ):List aZ->List Nat->List aZ
 | ⟨d,g,.gZ _ f xs⟩::r,m::ms=>let o:aZ:=⟨d,g,.gZ (GV m done 0) f xs⟩;o::mH (done++[o]) r ms
 | ⟨d,g,.st sz x v⟩::r,m::ms=>let o:aZ:=⟨d,g,stOp (GV m done 0) sz x v⟩;o::mH (done++[o]) r ms
 | ⟨d,g,.cQ sz b x v⟩::r,m::ms=>let o:aZ:=⟨d,g,abt (GV m done 0) sz b x v⟩;o::mH (done++[o]) r ms
 | o::r,_::ms=>o::mH (done++[o]) r ms
 | l,_=>l
def Zt (done:List aZ):X->Bool
 | .t i=>done.any fun o=>match o.dst,o.op with | some j,.mK _ _ _ _=>yr i j | _,_=>false
 | _=>false
def DW (done:List aZ):List aZ->List aZ
 | []=>[]
 | o::r=>(match o.op with | .cQ sz b x v=>bif Zt done x then ⟨o.dst,o.guard,.oT sz b x v⟩ else o | _=>o)::DW (done++[o]) r
abbrev aF:=Nat->Option ax
structure Lib where
 pure:Nat->Option (List AV->Option AV)
 heap:Nat->Option (Hp->Nat->List AV->fN)
abbrev cu:=VC->St->Option (Ex×St)
def ew:Nat->List AV->Env
 | _,[]=>[]
 | i,v::r=>(i,v)::ew (i+1) r
def results1 (s:St):RV->Option AV
 | .t i=>some (aj s.tm i)
 | .cell i sz ag=>
  match aj s.tm i with
  | .ptr id o=>match ak s.hp id with | some (.cells _ _ _ _ cs)=>fV sz ag (cs.drop o) | _=>none
  | .aH cs=>fV sz ag cs
  | _=>none
def kT (s:St):List RV->Option (List AV)
 | []=>some []
 | r::rest=>match results1 s r,kT s rest with | some v,some vs=>some (v::vs) | _,_=>none
def gW (s:St) (rs:List RV):Option AV:=
 match kT s rs with
 | some [v]=>some v
 | some vs=>some (.au vs)
 | none=>none
def bE (P:aF) (L:Lib) (self:cu) (n:Nat) (vals:List AV):Option AV:=
 match L.pure n with
 | some sp=>sp vals
 | none=>
  match P n with
  | none=>none
  | some F=>
   match self F.body ⟨ew 0 vals,[],0,0⟩ with
   | some (.normal,s) | some (.ret,s)=>match gW s F.dQ with | some v=>result s.hp v | none=>none
   | _=>none
def Qw:Ex->q9
 | .normal=> .none
 | .ret=> .ret
 | .exit id=> .exit id
def pJ:Env->List Nat->List AV->Option Env
 | tm,[],[]=>some tm
 | tm,p::ps,v::vs=>pJ ((p,v)::tm) ps vs
 | _,_,_=>none
def iw (P:aF) (L:Lib) (self:cu) (hp:Hp) (ct:Nat) (n:Nat) (vals:List AV):fN:=
 match L.heap n with
 | some sp=>sp hp ct vals
 | none=>
  match P n with
  | none=>none
  | some F=>
   match self F.body ⟨ew 0 vals,hp,ct,ct⟩ with
   | some (.normal,s) | some (.ret,s)=>match gW s F.dQ with | some v=>some (v,s.hp,s.ct) | none=>none
   | _=>none
def j9 (self:cu) (hp:Hp) (ct:Nat) (l:Nat) (xs:List AV):fN:=
 match ak hp l with
 | some (.lp tm ps as_ body 0 _)=>
  match pJ tm ps xs with
  | none=>none
  | some tm'=>
   match self as_ ⟨tm',hp,ct,ct⟩ with
   | some (.normal,s1)=>
    match ak s1.hp l with
    | some (.lp iF rE A4 B6 0 oV)=>
     match self body ⟨s1.tm,aU s1.hp l (.lp iF rE A4 B6 1 oV),s1.ct,s1.ct⟩ with
     | some (ex,s2)=>
      match ak s2.hp l with
      | some (.lp mP A5 I8 HP 1 _)=>
       match ex with
       | .normal=>some (.bool true,aU s2.hp l (.lp mP A5 I8 HP 0 .none),s2.ct)
       | ex=>some (.bool false,aU s2.hp l (.lp mP A5 I8 HP 2 (Qw ex)),s2.ct)
      | _=>none
     | none=>none
    | _=>none
   | _=>none
 | _=>none
def dj (P:aF) (L:Lib) (self:cu) (hp:Hp) (ct:Nat) (m:Md) (fv:AV) (xs:List AV):fN:=
 match fv with
 | .fn (.f n) first cap=>
  match m with
  | .pure=>
   match cA deep hp (first++(xs++cap)) with
   | some (vals,bh)=>match bE P L self n vals with | some r=>some (shut r,bh,ct) | none=>none
   | none=>none
  | .own=>
   match cA deep hp (first++(xs++cap)) with
   | some (vals,bh)=>match bE P L self n vals with | some r=>some (own bh ct r) | none=>none
   | none=>none
  | .heap=>iw P L self hp ct n (first++(xs++cap))
  | .dyn=>
   bif aD (first++(xs++cap)) then
    match bE P L self n (first++(xs++cap)) with | some r=>some (shut r,hp,ct) | none=>none
   else iw P L self hp ct n (first++(xs++cap))
 | .fn (.y l) _ _=>
  match m with
  | .heap | .dyn=>j9 self hp ct l xs
  | _=>none
 | _=>none
def Mo:AV->AV->Bool
 | .int k a,.int k' b=>decide (k=k')&&a==b
 | .bool a,.bool b=>a==b
 | .str a,.str b=>cN a b
 | .ae,.ae=>true
 | .kD,.kD=>true
 | .ptr i o,.ptr j p=>yr i j&&yr o p
 | .ay i o n,.ay j p m=>yr i j&&(yr o p&&yr n m)
 | .map i,.map j=>yr i j
 | _,_=>false
def lQ (tm:Env) (hp an:Hp):List (Nat×Bool×Nat)->Bool
 | []=>true
 | (sz,ag,x)::r=>
  match iW hp sz ag (aj tm x),iW an sz ag (aj tm x) with
  | some a,some b=>Mo a b&&lQ tm hp an r
  | _,_=>false
def nj (tm:Env) (id:Nat):List (Nat×Bool×Nat)->Bool
 | []=>true
 | (_,_,x)::r=>(match aj tm x with | .ptr j _=> !yr j id | .aH _=>true | _=>false)&&nj tm id r
def a6 (P:aF) (L:Lib) (self:cu) (tm:Env) (hp:Hp) (ct:Nat) (o:Op):fN:=
 match o with
 | .call m f xs=>dj P L self hp ct m (aw tm f) (cZ tm xs)
 | .gZ rs f xs=>
  match dj P L self hp ct .dyn (aw tm f) (cZ tm xs) with
  | some (v,an,aV)=>bif lQ tm hp an rs then some (v,an,aV) else none
  | none=>none
 | .jU rs sz x v=>
  match aw tm x with
  | .ptr id _=>bif nj tm id rs then cF tm hp ct (.st sz x v) else none
  | _=>none
 | .oT sz b x v=>
  match qU hp ct sz b (aw tm x) (jh hp sz (aw tm v)) with
  | some (v,b)=>some (v,(ct,b)::hp,ct+1)
  | none=>none
 | .kI rs sz b x v=>
  match cF tm hp ct (.cQ sz b x v) with
  | some (v,an,aV)=>bif lQ tm hp an rs then some (v,an,aV) else none
  | none=>none
 | .st .. | .oQ .. | .oS .. | .cQ .. | .oU .. =>cF tm hp ct o
 | .box .. | .mK .. | .nN .. | .zu | .oR .. =>match cK tm hp ct o with | some (v,b)=>some (v,(ct,b)::hp,ct+1) | none=>none
 | o=>match bi tm hp o with | some v=>some (v,hp,ct) | none=>none
def put (d:Option Nat) (v:AV) (tm:Env):Env:=
 match d with
 | some i=>(i,v)::tm
 | none=>tm
def dl (P:aF) (L:Lib) (self:cu):List aZ->St->Option St
 | [],s=>some s
 | ⟨d,g,o⟩::r,s=>
  let want:=match g with | none=>some true | some (t,b)=>match aj s.tm t with | .bool c=>some (c==b) | .au []=>some false | _=>none
  match want with
  | some true=>
   match a6 P L self s.tm s.hp s.ct o with
   | some (v,hp,ct)=>dl P L self r {s with tm:=put d v s.tm,hp:=hp,ct:=ct}
   | none=>none
  | some false=>dl P L self r {s with tm:=put d (.au []) s.tm}
  | none=>none
def oC:List Nat->St->Option St
 | [],s=>some s
 | t::r,s=>
  match freeze deep s.hp (aj s.tm t) with
  | some (v,hp)=>oC r {s with tm:=(t,v)::s.tm,hp:=hp}
  | none=>none
def bq (P:aF) (L:Lib) (self:cu):VC->St->Option (Ex×St)
 | .skip,s=>some (.normal,s)
 | .jr ops,s=>match dl P L self ops s with | some s'=>some (.normal,s') | none=>none
 | .seq a b,s=>
  match bq P L self a s with
  | some (.normal,s1)=>bq P L self b s1
  | r=>r
 | .cond x a b,s=>
  match aw s.tm x with
  | .bool t=>bif t then bq P L self a s else bq P L self b s
  | _=>none
 | .dt id a,s=>
  match bq P L self a s with
  | some (.exit j,s1)=>bif yr j id then some (.normal,s1) else some (.exit j,s1)
  | r=>r
 | .kp live,s=>some (.normal,aT live s)
 | .fz ts,s=>match oC ts s with | some s'=>some (.normal,s') | none=>none
 | .loop live a,s=>
  match bq P L self a (aT live s) with
  | some (.normal,s1)=>self (.loop live a) s1
  | r=>r
 | .rf f ps as_ body,s=>
  match aw s.tm f with
  | .fn (.f n) first cap=>
   match L.heap n with
   | some _=>none
   | none=>
    match iw P L self ((s.ct,.lp s.tm ps as_ body 0 .none)::s.hp) (s.ct+1) n (first++(.fn (.y s.ct) [] []::cap)) with
    | some (_,hp,ct)=>
     match ak hp s.ct with
     | some (.lp _ _ _ _ st pe)=>
      bif yr st 1 then none else
      match pe with
      | .none=>some (.normal,{s with hp:=db hp s.ct,ct:=ct})
      | .ret=>some (.ret,{s with hp:=db hp s.ct,ct:=ct})
      | .exit id=>some (.exit id,{s with hp:=db hp s.ct,ct:=ct})
     | _=>none
    | none=>none
  | _=>none
 | .exit id,s=>some (.exit id,s)
 | .ret,s=>some (.ret,s)
def ev (P:aF) (L:Lib) (n:Nat):cu:=Nat.rec (fun _ _=>none) (fun _ ih=>bq P L ih) n
def S9 (P:aF) (L:Lib) (n:Nat) (f:Nat) (vals:List AV):Option AV:=bE P L (ev P L n) f vals
end
section
open Go
structure Pl where
 b:Nat
 o:Nat
 e:Nat
 z:Nat
abbrev Mp:=Nat->Option Pl
section
variable (ab:Nat->Nat) (m:Mp) (S:Nat->Prop) (w:yi)
mutual
def af:AV->yh->Prop
 | .int k n,v=>v= .int k n
 | .bool b,v=>v= .bool b
 | .aK k b,v=>v= .float k b
 | .str s,v=>∃t:ByteArray,v= .string t/\t.data.toList.map xh=s
 | .kD,v=>v= .pointer none
 | .ptr id o,v=>∃p,m id=some p/\v= .pointer (some ⟨p.b,p.o+o,none⟩)
 | .aH cs,v=>∃b o,v= .pointer (some ⟨b,o,none⟩)/\(cs=[]\/S b)/\aD cs=true/\bI cs b o
 | .ae,v=>v= .slice none 0 0
 | .aA ex n cs,v=>(∃b o c,v= .slice (some ⟨b,o,none⟩) n c/\n<=c/\(ex=true->c=n)/\(cs=[]\/S b)/\aD cs=true/\bI cs b o)\/(∃a,v= .slice (some a) 0 0/\n=0/\cs=[])
 | .cr _ _ _ _,_=>False
 | .ay id o n,v=>∃p c,m id=some p/\v= .slice (some ⟨p.b,p.o+o,none⟩) n c/\n<=c/\o+c*p.z=p.e
 | .fn (.f g) first cap,v=>∃fi ca:Array yh,v= .func (.func (ab g)) fi ca/\aq first fi.toList/\aq cap ca.toList
 | .fn (.y l) _ _,v=>∃p,m l=some p/\v= .func (.yield p.b) #[] #[]
 | .iA,v=>v= .nilFunc
 | .jC,v=>v= .map none
 | .map id,v=>∃p,m id=some p/\v= .map (some p.b)
 | .jo ks vs,v=>∃b es clock,v= .map (some b)/\S b/\aD ks=true/\aD vs=true/\w.heap[b]? =some (.map es clock)/\
   aq ks (es.toList.map (·.key))/\aq vs (es.toList.map (·.val))
 | .it id,v=>∃p,m id=some p/\v= .pointer (some ⟨p.b,0,none⟩)
 | .agg cs,v=>∃xs:Array yh,v= .agg xs/\aq cs xs.toList
 | .au cs,v=>∃xs:Array yh,v= .tuple xs/\aq cs xs.toList
 | .undef,_=>True
def aq:List AV->List yh->Prop
 | [],us=>us=[]
 | c::cs,us=>∃u r,us=u::r/\af c u/\aq cs r
def bI:List AV->Nat->Nat->Prop
 | [],_,_=>True
 | c::cs,b,o=>(∃u,w.cell? ⟨b,o,none⟩=some u/\af c u)/\bI cs b (o+1)
end
end
def fE (S:Nat->Prop) (w w':yi):Prop:=∀b,S b->w'.heap[b]? =w.heap[b]?
def JY {w w':yi} {b o:Nat} (h:w'.heap[b]? =w.heap[b]?):w'.cell? ⟨b,o,none⟩=w.cell? ⟨b,o,none⟩:=by
 simp only [World.cell?,h]
section
variable {ab:Nat->Nat} {m m':Mp} {S S':Nat->Prop} {w w':yi}
mutual
def kU (hm:∀id p,m id=some p->m' id=some p) (hS:∀b,S b->S' b) (hw:fE S w w'):
  ∀(v:AV) (u:yh),af ab m S w v u->af ab m' S' w' v u
 | .int _ _,_,h | .bool _,_,h | .aK _ _,_,h | .str _,_,h | .kD,_,h | .ae,_,h | .iA,_,h | .jC,_,h | .undef,_,h=>by
  simpa only [af] using h
 | .ptr id o,u,h=>by
  simp only [af] at h ⊢;obtain ⟨p,h1,h2⟩:=h;exact ⟨p,hm _ _ h1,h2⟩
 | .aH cs,u,h=>by
  simp only [af] at h ⊢;obtain ⟨b,o,h1,h2,h3,h4⟩:=h;refine ⟨b,o,h1,h2.imp id (hS b),h3,?_⟩;rcases h2 with rfl | h2
  ·simp only [bI]
  ·exact OZ hm hS hw cs b o h2 h4
 | .aA ex n cs,u,h=>by
  simp only [af] at h ⊢;rcases h with ⟨b,o,c,h1,h2,h3,h4,h5,h6⟩ | h
  ·refine .inl ⟨b,o,c,h1,h2,h3,h4.imp id (hS b),h5,?_⟩;rcases h4 with rfl | h4
   ·simp only [bI]
   ·exact OZ hm hS hw cs b o h4 h6
  ·exact .inr h
 | .cr _ _ _ _,u,h=>by simp only [af] at h
 | .ay id o n,u,h=>by
  simp only [af] at h ⊢;obtain ⟨p,c,h1,h2⟩:=h;exact ⟨p,c,hm _ _ h1,h2⟩
 | .fn (.f g) first cap,u,h=>by
  simp only [af] at h ⊢;obtain ⟨fi,ca,h1,h2,h3⟩:=h;exact ⟨fi,ca,h1,gF hm hS hw first _ h2,gF hm hS hw cap _ h3⟩
 | .fn (.y l) _ _,u,h=>by
  simp only [af] at h ⊢;obtain ⟨p,h1,h2⟩:=h;exact ⟨p,hm _ _ h1,h2⟩
 | .map id,u,h=>by
  simp only [af] at h ⊢;obtain ⟨p,h1,h2⟩:=h;exact ⟨p,hm _ _ h1,h2⟩
 | .jo ks vs,u,h=>by
  simp only [af] at h ⊢;obtain ⟨b,es,clock,h1,h2,h3,h4,h5,h6,h7⟩:=h;exact ⟨b,es,clock,h1,hS b h2,h3,h4,(hw b h2).trans h5,gF hm hS hw ks _ h6,gF hm hS hw vs _ h7⟩
 | .it id,u,h=>by
  simp only [af] at h ⊢;obtain ⟨p,h1,h2⟩:=h;exact ⟨p,hm _ _ h1,h2⟩
 | .agg cs,u,h=>by
  simp only [af] at h ⊢;obtain ⟨xs,h1,h2⟩:=h;exact ⟨xs,h1,gF hm hS hw cs _ h2⟩
 | .au cs,u,h=>by
  simp only [af] at h ⊢;obtain ⟨xs,h1,h2⟩:=h;exact ⟨xs,h1,gF hm hS hw cs _ h2⟩
def gF (hm:∀id p,m id=some p->m' id=some p) (hS:∀b,S b->S' b) (hw:fE S w w'):
  ∀(vs:List AV) (us:List yh),aq ab m S w vs us->aq ab m' S' w' vs us
 | [],us,h=>by simpa only [aq] using h
 | v::r,us,h=>by
  simp only [aq] at h ⊢;obtain ⟨u,t,h1,h2,h3⟩:=h;exact ⟨u,t,h1,kU hm hS hw v u h2,gF hm hS hw r t h3⟩
def OZ (hm:∀id p,m id=some p->m' id=some p) (hS:∀b,S b->S' b) (hw:fE S w w'):
  ∀(cs:List AV) (b o:Nat),S b->bI ab m S w cs b o->bI ab m' S' w' cs b o
 | [],_,_,_,_=>by simp only [bI]
 | c::cs,b,o,hb,h=>by
  simp only [bI] at h ⊢;obtain ⟨⟨u,h1,h2⟩,h3⟩:=h;exact ⟨⟨u,(JY (hw b hb)).trans h1,kU hm hS hw c u h2⟩,OZ hm hS hw cs b (o+1) hb h3⟩
end
end
end
section
open Go
structure Hint where
 n:Nat
 bS:tE->Option Nat
 live:Nat->List Nat
 out:Nat->Option (List Nat)
 mode:Nat->Md
 fz:Nat->List Nat
section
variable (P:y5) (H:Hint)
mutual
def eb:yh->AV
 | .int k n=> .int k n
 | .bool b=> .bool b
 | .float k b=> .aK k b
 | .string s=> .str (s.data.toList.map xh)
 | .pointer none=> .kD
 | .slice none 0 0=> .ae
 | .map none=> .jC
 | .nilFunc=> .iA
 | .agg ⟨cs⟩=> .agg (DB cs)
 | .tuple ⟨cs⟩=> .au (DB cs)
 | _=> .undef
def DB:List yh->List AV
 | []=>[]
 | v::r=>eb v::DB r
end
def aI:xv->X
 | .tmp t=> .t t
 | .const v=> .c (eb v)
 | .global _=> .c .undef
 | .func f=>match H.bS f with | some g=> .c (.fn (.f g) [] []) | none=> .c .undef
def gK:List xv->List X
 | []=>[]
 | x::r=>aI H x::gK r
def cw (t:yC):Option Nat:=match P.info? t with | some i=>some i.size | none=>none
def rF (t:yC):Option Nat:=match P.info? t with | some i=>some i.bytes | none=>none
def li (t:yC):Option AV:=match P.info? t with | some i=>(match i.zero with | some v=>some (eb v) | none=>none) | none=>none
def dF (t:yC):Option Bool:=match P.underlying t with | some (.struct _) | some (.array _ _)=>some true | some _=>some false | none=>none
def bad:Op:= .call .pure (.c .undef) []
def partsOf (place:Nat->Option (Nat×Nat)):List (Nat×xv)->Option (List (Nat×Nat×X))
 | []=>some []
 | (i,x)::r=>
  match place i,partsOf place r with
  | some (o,s),some l=>some ((o,s,aI H x)::l)
  | _,_=>none
def Df (self:yC->Option (List Nat)):List tq->Nat->Option (List Nat)
 | [],_=>some []
 | f::r,o=>
  match self f.type,cw P f.type with
  | some ks,some s=>
   bif f.name != "_"&&yr f.offset o&&yr ks.length s&& !P.stoodInHeld f.type then
    (match Df self r (o+s) with | some l=>some (ks++l) | none=>none)
   else none
  | _,_=>none
def kinds:Nat->yC->Option (List Nat)
 | 0,_=>none
 | n+1,t=>
  match P.underlying t with
  | some .bool=>some [0]
  | some (.int _)=>some [1]
  | some .string=>some [2]
  | some (.struct fs)=>Df P (fun u=>kinds n u) fs.toList 0
  | some (.array k e)=>
   match kinds n e,cw P e with
   | some ks,some s=>bif yr ks.length s&& !P.stoodInHeld e then some (yy k ks).flatten else none
   | _,_=>none
  | _=>none
def keyOf (t:yC):Option Nat:=
 match P.underlying t with
 | some .bool=>some 0
 | some (.int _)=>some 1
 | some .string=>some 2
 | _=>none
def og (ne:Bool) (t:yC) (a b:xv):Op:=
 match kinds P 20 t with
 | some ks=>bif P.stoodInHeld t||P.eqGuardType P.depth t then bad else .eq ne (.ag ks) (aI H a) (aI H b)
 | none=>bad
def nk (ne:Bool) (op:wZ) (t:yC) (a b:xv):Op:=
 match P.underlying t with
 | some (.int _) | some .string | some (.float _)=> .bin op (aI H a) (aI H b)
 | some .bool=> .eq ne .b (aI H a) (aI H b)
 | some (.slice _)=> .eq ne .sl (aI H a) (aI H b)
 | some (.func _ _ _)=> .eq ne .fn (aI H a) (aI H b)
 | some (.struct _) | some (.array _ _)=>og P H ne t a b
 | _=>bad
def aS (k:Nat) (o:yZ):Op:=
 let x (y:xv):X:=aI H y
 match o.op with
 | .move a | .assign a=> .mj (x a)
 | .pick c a b=> .pick (x c) (x a) (x b)
 | .alloc t=>match cw P t,li P t with | some s,some z=> .box s (.c z) | _,_=>bad
 | .box t v=>match cw P t with | some s=> .box s (x v) | none=>bad
 | .build t parts=>
  match P.underlying t,li P t with
  | some (.struct fs),some (.agg z)=>
   match fs.toList.mapM (fun f=>(P.info? f.type).map fun i=>(f.offset,i.size)) with
   | some pl=>(match partsOf H (fun i=>pl[i]?) parts.toList with | some ps=> .Aw z ps | none=>bad)
   | none=>bad
  | some (.array _ e),some (.agg z)=>
   match cw P e with
   | some s=>(match partsOf H (fun i=>some (i*s,s)) parts.toList with | some ps=> .Aw z ps | none=>bad)
   | none=>bad
  | _,_=>bad
 | .buildSlice t n parts=>
  match P.underlying t with
  | some (.slice e)=>
   match cw P e,li P e with
   | some s,some z=>
    bif yF (n*s) 16777216 then
     (match partsOf H (fun i=>some (i*s,s)) parts.toList with | some ps=> .mK n s (yy n (cellsOf z)).flatten ps | none=>bad)
    else bad
   | _,_=>bad
  | _=>bad
 | .load t a=>match cw P t,dF P t with | some s,some ag=> .ld s ag (x a) | _,_=>bad
 | .store t a v=>match cw P t with | some s=> .st s (x a) (x v) | none=>bad
 | .nilCheck a=> .H9 (x a)
 | .binOp op t a b _=>
  match op with
  | .eql=>nk P H false op t a b
  | .neq=>nk P H true op t a b
  | _=> .bin op (x a) (x b)
 | .unOp op _ a=> .un op (x a)
 | .convert s d a=>
  match P.underlying s,P.underlying d with
  | some (.int _),some (.int k) | some (.float _),some (.int k)=> .cv (.toInt k) (x a)
  | some (.int _),some (.float k) | some (.float _),some (.float k)=> .cv (.toFlt k) (x a)
  | some .string,some .string=> .cv .str (x a)
  | _,_=>bad
 | .makeFunc (.func f) first cap=>match H.bS f with | some g=> .Ey (.f g) (gK H first.toList) (gK H cap.toList) | none=>bad
 | .makeMap t none=>match P.underlying t with | some (.map ke _)=>(match keyOf P ke with | some _=> .zu | none=>bad) | _=>bad
 | .makeSlice t l c=>
  match P.underlying t with
  | some (.slice e)=>(match cw P e,rF P e,li P e with | some s,some b,some z=> .nN s b (cellsOf z) (x l) (x c) | _,_,_=>bad)
  | _=>bad
 | .slice t a lo hi none=>
  match P.underlying t with
  | some .string=> .oP .str (x a) (lo.map x) (hi.map x)
  | some (.slice e)=>(match cw P e with | some s=> .oP (.sl s) (x a) (lo.map x) (hi.map x) | none=>bad)
  | some (.array n e)=>(match cw P e with | some s=> .oP (.ar n s) (x a) (lo.map x) (hi.map x) | none=>bad)
  | _=>bad
 | .fieldAddr t a i=>
  match P.underlying t with
  | some (.struct fs)=>
   match fs[i]? with
   | some f=>(match cw P f.type with | some (_+1)=> .off f.offset (x a) | _=>bad)
   | none=>bad
  | _=>bad
 | .field t a i=>
  match P.underlying t with
  | some (.struct fs)=>
   match fs[i]? with
   | some f=>(match cw P f.type,dF P f.type with | some s,some ag=> .I7 f.offset s ag (x a) | _,_=>bad)
   | none=>bad
  | _=>bad
 | .indexAddr t a i=>
  match P.underlying t with
  | some (.slice e)=>(match cw P e with | some s=> .br s (x a) (x i) | none=>bad)
  | some (.array n e)=>(match cw P e with | some s=> .Ez n s (x a) (x i) | none=>bad)
  | _=>bad
 | .index t a i=>
  match P.underlying t with
  | some .string=> .EA (x a) (x i)
  | some (.array n e)=>(match cw P e,dF P e with | some s,some ag=> .A2 n s ag (x a) (x i) | _,_=>bad)
  | _=>bad
 | .lookup t a i ok=>
  match P.underlying t with
  | some (.map ke e)=>(match keyOf P ke,li P e with | some kk,some z=> .NE kk z ok (x a) (x i) | _,_=>bad)
  | _=>bad
 | .mapUpdate t a i v | .insert t a i v=>
  match P.underlying t with
  | some (.map ke _)=>(match keyOf P ke with | some kk=> .oQ kk (x a) (x i) (x v) | none=>bad)
  | _=>bad
 | .range t a=>match P.underlying t with | some .string=> .oR (x a) | _=>bad
 | .next it true=> .oS (x it)
 | .extract t i=> .ext i (x t)
 | .call c=>
  match c.callee with
  | .value f=>(match H.mode k with | .dyn=> .gZ [] (x f) (gK H c.args.toList) | md=> .call md (x f) (gK H c.args.toList))
  | .builtin b=>
   match b,c.args.toList,c.argTypes.toList with
   | .append,[s,a],[t,u]=>
    match P.underlying t,P.underlying u with
    | some (.slice e),some (.slice _) | some (.slice e),some .string=>
     (match cw P e,rF P e,li P e with | some sz,some by',some z=>(bif yr (cellsOf z).length sz then .cQ sz by' (x s) (x a) else bad) | _,_,_=>bad)
    | _,_=>bad
   | .len,[a],[t]=>
    match P.underlying t with
    | some (.array n _)=> .mj (.c (.int .i64 n))
    | some .string=> .len 0 (x a)
    | some (.slice _)=> .len 1 (x a)
    | some (.map _ _)=> .len 2 (x a)
    | _=>bad
   | .copy,[d,s],[t,_]=>
    match P.underlying t with
    | some (.slice e)=>(match cw P e with | some sz=> .oU sz (x d) (x s) | none=>bad)
    | _=>bad
   | .min,l,_=> .mn (gK H l)
   | .max,l,_=> .mx (gK H l)
   | _,_,_=>bad
  | _=>bad
 | _=>bad
def Qx (o:yZ):Bool:=match o.op with | .call {callee:= .value _,..}=>true | _=>false
def HQ (d:Option Nat):Bool:=match d with | some i=>yJ i H.n | none=>true
def sS (n:Nat):List Nat->Bool
 | []=>true
 | i::r=>yJ i n&&sS n r
def BL (ops:Array yZ):List yZ->Nat->List aZ×Nat
 | [],k=>([],k)
 | o::r,k=>
  let g:=match o.guard with
   | none=>some none
   | some (j,b)=>match (ops[j]?).bind (·.dst) with | some t=>some (some (t,b)) | none=>none
  match BL ops r (k+(bif Qx o then 1 else 0)) with
  | (l,k')=>
   match g,HQ H o.dst with
   | some g,true=>(⟨o.dst,g,aS P H k o⟩::l,k')
   | _,_=>(⟨o.dst,none,bad⟩::l,k')
def Ak (acc:List Nat):List Edge->Nat
 | []=>0
 | e::r=>bif Region.binds .any e then (2^e.on|||acc.getD e.on 0)|||Ak acc r else Ak acc r
def kj (acc:List Nat):List yZ->List Nat
 | []=>acc
 | o::r=>kj (acc++[Ak acc o.after.toList]) r
def zZ:List yZ->Nat->Bool
 | [],_=>true
 | o::r,i=>o.after.toList.all (fun e=> !Region.binds .any e||yJ e.on i)&&zZ r (i+1)
def Lb (ops:Array yZ) (draw:Bool) (k:Nat):List aZ×Nat:=
 match BL P H ops ops.toList k with
 | (l,k')=>
  bif draw then
   (let ms:=kj [] ops.toList
    let l':=mH [] l ms
    bif zZ ops.toList 0&&sH [] l' ms then (l',k') else bif zZ ops.toList 0&&sH [] (DW [] l') ms then (DW [] l',k') else ([⟨none,none,bad⟩],k'))
  else (l,k')
def an4:wU->Bool
 | .loop _=>true
 | _=>false
def comp:wU->Nat->Nat->VC×Nat×Nat
 | .skip,l,k | .label _,l,k=>(.skip,l,k)
 | .region i ops d,l,k=>match Lb P H ops d k with | (r,k')=>((match H.fz i with | []=> .jr r | t::ts=> .seq (.fz (t::ts)) (.jr r)),l,k')
 | .seq a b,l,k=>match comp a l k with | (a',l1,k1)=>match comp b l1 k1 with | (b',l2,k2)=>(.seq a' b',l2,k2)
 | .cond c a b,l,k=>
  match comp a (l+1) k with
  | (a',l1,k1)=>
   match comp b l1 k1 with
   | (b',l2,k2)=>(match H.out l with | some o=> .seq (.cond (aI H c) a' b') (.kp o) | none=> .cond (aI H c) a' b',l2,k2)
 | .block id a,l,k=>
  match comp a l k with
  | (a',r)=>(match an4 a,H.out l with | true,some o=> .seq (.dt id a') (.kp o) | _,_=> .dt id a',r)
 | .loop a,l,k=>match comp a (l+1) k with | (a',r)=>(.loop (H.live l) a',r)
 | .rangeFunc f ps as_ body,l,k=>
  match comp as_ l k with | (as',l1,k1)=>match comp body l1 k1 with | (b',l2,k2)=>(bif sS H.n ps.toList then .rf (aI H f) ps.toList as' b' else .jr [⟨none,none,bad⟩],l2,k2)
 | .exit id,l,k=>(.exit id,l,k)
 | .scope a,l,k=>comp a l k
 | .ret,l,k=>(.ret,l,k)
 | .goto _,l,k | .refuse _,l,k=>(.jr [⟨none,none,bad⟩],l,k)
def oh:List ResultVar->Option (List RV)
 | []=>some []
 | .tmp t::r=>match oh r with | some l=>some (.t t::l) | none=>none
 | .cell a t::r=>match cw P t,dF P t,oh r with | some s,some ag,some l=>some (.cell a s ag::l) | _,_,_=>none
def DC (fn:Func):Option ax:=
 match fn.body,oh P fn.results.toList with
 | some c,some rs=>bif yF H.n fn.ntmps then some ⟨rs,(comp P H c 0 0).1⟩ else none
 | _,_=>none
end
end
section
open Go
structure bk where
 P:y5
 aX:Lib
 ab:Nat->Nat
 prog:aF
 hint:Nat->Hint
 w0:yi
def A6 (P:y5) (H:Hint) (v:VC) (c:wU):Prop:=∃l k,(comp P H c l k).1=v
def AI:Nat->LoopState
 | 0=> .ready
 | 1=> .busy
 | 2=> .done
 | _=> .exhausted
def sN:q9->Option wU
 | .none=>none
 | .ret=>some .ret
 | .exit id=>some (.exit id)
section
variable (O:bk) (m:Mp) (S:Nat->Prop) (w:yi)
def bP (tm:Env) (tmps:Array yh):Prop:=∀i,af O.ab m S w (aj tm i) (tmps.getD i undef)
def eJ (id:Nat):Obj->Prop
 | .cells rw pu ex sz cs=>∃p arr t,m id=some p/\w.heap[p.b]? =some (.cells arr t (0,0))/\p.z=sz/\cs.length<=p.e/\p.o+p.e<=arr.size/\
   (ex=true->cs.length=p.e)/\bI O.ab m S w cs p.b p.o/\(pu=true->aD cs=true)/\(rw=true->¬S p.b)/\(rw=false->S p.b)
 | .mp rw ks vs=>∃p es clock,m id=some p/\w.heap[p.b]? =some (.map es clock)/\aq O.ab m S w ks (es.toList.map (·.key))/\aq O.ab m S w vs (es.toList.map (·.val))/\
   (rw=true->¬S p.b)/\(rw=false->S p.b)
 | .si s pos=>∃p t,m id=some p/\w.heap[p.b]? =some (.stringIter t pos)/\t.data.toList.map xh=s/\¬S p.b
 | .lp tm ps as_ body st pe=>∃p l h,m id=some p/\w.heap[p.b]? =some (.loop l)/\¬S p.b/\l.state=AI st/\st<=2/\l.pending=sN pe/\bP O m S w tm l.tmps/\
   l.params.toList=ps/\A6 O.P (O.hint h) as_ l.assign/\A6 O.P (O.hint h) body l.body/\(O.hint h).n<=l.tmps.size/\sS (O.hint h).n ps=true
structure aQ (hp:Hp) (ct:Nat):Prop where
 obj:∀id o p,ak hp id=some o->m id=some p->eJ O m S w id o
 lt:∀id p,m id=some p->id<ct
 inj:∀i j oi oj pi pj,ak hp i=some oi->ak hp j=some oj->m i=some pi->m j=some pj->pi.b=pj.b->i=j
 slt:∀b,S b->b<w.heap.size
 blt:∀id p,m id=some p->p.b<w.heap.size
 low:∀id p,m id=some p->O.w0.heap.size<=p.b
 lA:∀b,b<O.w0.heap.size->w.heap[b]? =O.w0.heap[b]?
 fK:O.w0.heap.size<=w.heap.size
 aR:∀id o,ak hp id=some o->id<ct
end
def dM (m:Mp) (hp:Hp) (b:Nat):Prop:=∃id o p,ak hp id=some o/\m id=some p/\p.b=b
structure bU (m:Mp) (S:Nat->Prop) (w:yi) (hp:Hp) (m':Mp) (S':Nat->Prop) (w':yi) (an:Hp) (base:Nat):Prop where
 os:w'.os=w.os
 tape:w'.tape=w.tape
 output:w'.output=w.output
 size:w.heap.size<=w'.heap.size
 same:∀b,b<w.heap.size->¬dM m hp b->w'.heap[b]? =w.heap[b]?
 sub:∀b,S b->S' b
 still:∀b,S b->w'.heap[b]? =w.heap[b]?
 new:∀b,S' b->S b\/dM m hp b\/w.heap.size<=b
 own:∀b,dM m' an b->dM m hp b\/w.heap.size<=b
 old:∀id p,id<base->m id=some p->m' id=some p
 loops:∀(b:Nat) (r:uG),w.heap[b]? =some (.loop r)->∃r':uG,w'.heap[b]? =some (.loop r')
def bU.refl {m:Mp} {S:Nat->Prop} {w:yi} {hp:Hp} {base:Nat}:bU m S w hp m S w hp base:=
 ⟨rfl,rfl,rfl,yA _,fun _ _ _=>rfl,fun _ h=>h,fun _ _=>rfl,fun _ h=> .inl h,fun _ h=> .inl h,fun _ _ _ h=>h,fun _ r h=>⟨r,h⟩⟩
def bU.trans {m m' I9:Mp} {S S' A7:Nat->Prop} {w w' NG:yi} {hp an Ia:Hp} {base:Nat}
  (h:bU m S w hp m' S' w' an base) (k:bU m' S' w' an I9 A7 NG Ia base):bU m S w hp I9 A7 NG Ia base where
 os:=k.os.trans h.os
 tape:=k.tape.trans h.tape
 output:=k.output.trans h.output
 size:=xg h.size k.size
 same b hb ho:=(k.same b (yu hb h.size) (fun iG=>(h.own b iG).elim ho (fun h1=>by omega))).trans (h.same b hb ho)
 sub b hb:=k.sub b (h.sub b hb)
 still b hb:=(k.still b (h.sub b hb)).trans (h.still b hb)
 new b hb:=by
  rcases k.new b hb with h1 | h1 | h1
  ·exact h.new b h1
  ·rcases h.own b h1 with h2 | h2
   ·exact .inr (.inl h2)
   ·exact .inr (.inr h2)
  ·exact .inr (.inr (xg h.size h1))
 own b hb:=by
  rcases k.own b hb with h1 | h1
  ·exact h.own b h1
  ·exact .inr (xg h.size h1)
 old id p hid hp:=k.old id p hid (h.old id p hid hp)
 loops b r hb:=let ⟨r',h1⟩:=h.loops b r hb;k.loops b r' h1
end
section
open Go
section
variable {ab:Nat->Nat} {m:Mp} {S:Nat->Prop} {w:yi}
mutual
def Lc:∀v:yh,af ab m S w (eb v) v
 | .int _ _ | .bool _ | .float _ _=>by simp only [eb,af]
 | .string s=>by simp only [eb,af];exact ⟨s,rfl,rfl⟩
 | .pointer none=>by simp only [eb,af]
 | .pointer (some _)=>by simp only [eb,af]
 | .slice none 0 0=>by simp only [eb,af]
 | .slice none 0 (_+1)=>by simp only [eb,af]
 | .slice none (_+1) _=>by simp only [eb,af]
 | .slice (some _) _ _=>by simp only [eb,af]
 | .map none=>by simp only [eb,af]
 | .map (some _)=>by simp only [eb,af]
 | .nilFunc=>by simp only [eb,af]
 | .agg ⟨cs⟩=>by simp only [eb,af];exact ⟨⟨cs⟩,rfl,PD cs⟩
 | .tuple ⟨cs⟩=>by simp only [eb,af];exact ⟨⟨cs⟩,rfl,PD cs⟩
 | .complex _ _ _ | .chan _ | .func _ _ _ | .iface _ _ | .nilIface=>by simp only [eb,af]
def PD:∀l:List yh,aq ab m S w (DB l) l
 | []=>by simp only [DB,aq]
 | v::r=>by simp only [DB,aq];exact ⟨v,r,rfl,Lc v,PD r⟩
end
end
def eT (O:bk) (H:Hint):Prop:=∀f g,H.bS f=some g->O.ab g=f
section
variable {O:bk} {H:Hint} {m:Mp} {S:Nat->Prop} {w:yi} {tm:Env} {a:Act}
def cf (hH:eT O H) (ht:bP O m S w tm a.tmps) (x:xv):af O.ab m S w (aw tm (aI H x)) (a.eval x):=by
 cases x with
 | tmp t=>exact ht t
 | const v=>simp only [aI,aw,Act.eval];exact Lc v
 | global g=>simp only [aI,aw,af]
 | func f=>
  simp only [aI,Act.eval]
  cases hr:H.bS f with
  | none=>simp only [aw,af]
  | some g=>simp only [aw,af,hH f g hr,aq];exact ⟨#[],#[],rfl,rfl,rfl⟩
def BQ (hH:eT O H) (ht:bP O m S w tm a.tmps):∀l:List xv,aq O.ab m S w (cZ tm (gK H l)) (l.map a.eval)
 | []=>by simp only [gK,cZ,List.map_nil,aq]
 | x::r=>by simp only [gK,cZ,xm,aq];exact ⟨_,_,rfl,cf hH ht x,BQ hH ht r⟩
end
section
variable {O:bk} {m:Mp} {S:Nat->Prop} {w:yi}
def px {ab:Nat->Nat}:∀(k:Nat) (cs:List AV) (b o:Nat),bI ab m S w cs b o->bI ab m S w (cs.drop k) b (o+k)
 | 0,cs,b,o,h=>by simpa using h
 | k+1,[],b,o,_=>by simp only [List.drop_nil,bI]
 | k+1,c::cs,b,o,h=>by
  simp only [bI] at h
  have:=px k cs b (o+1) h.2
  rw [List.drop_succ_cons,show o+(k+1)=o+1+k by omega];exact this
def zX {ab:Nat->Nat}:∀(k:Nat) (cs:List AV) (b o:Nat),bI ab m S w cs b o->bI ab m S w (cs.take k) b o
 | 0,cs,b,o,_=>by simp only [ybU,bI]
 | k+1,[],b,o,_=>by simp only [List.take_nil,bI]
 | k+1,c::cs,b,o,h=>by
  simp only [bI,wg] at h ⊢;exact ⟨h.1,zX k cs b (o+1) h.2⟩
def qw {ab:Nat->Nat}:∀(cs:List AV) (b o:Nat),bI ab m S w cs b o->
  ∃us:List yh,aq ab m S w cs us/\us.length=cs.length/\∀j u,us[j]? =some u->w.cell? ⟨b,o+j,none⟩=some u
 | [],b,o,_=>⟨[],by simp only [aq],rfl,fun j u h=>by simp at h⟩
 | c::cs,b,o,h=>by
  simp only [bI] at h;obtain ⟨⟨u,h1,h2⟩,h3⟩:=h;obtain ⟨us,h4,h5,h6⟩:=qw cs b (o+1) h3;refine ⟨u::us,by simp only [aq];exact ⟨u,us,rfl,h2,h4⟩,by simp [h5],fun j v hv=>?_⟩
  cases j with
  | zero=>simp at hv;subst hv;simpa using h1
  | succ j=>simp at hv;have:=h6 j v hv;rw [show o+(j+1)=o+1+j by omega];exact this
def gH {ab:Nat->Nat}:∀(cs:List AV) (us:List yh),aq ab m S w cs us->us.length=cs.length
 | [],us,h=>by simp only [aq] at h;subst h;rfl
 | c::cs,us,h=>by
  simp only [aq] at h;obtain ⟨u,r,rfl,_,h3⟩:=h;simp [gH cs r h3]
end
end
section
open Go
def nl (b o j:Nat):(⟨b,o,none⟩:uy).add j=⟨b,o+j,none⟩:=by
 unfold Addr.add;split<;>simp_all
section
variable {P:y5} {w:yi}
def afC (t:yC) (b o:Nat) (us:List yh) (ha:dF P t=some true) (hz:cw P t=some us.length)
  (h:∀j u,us[j]? =some u->w.cell? ⟨b,o+j,none⟩=some u):(loadVar t ⟨b,o,none⟩).run P w= .ok (.agg us.toArray) w:=by
 have hl:=run_loadCells_list (P:=P) w ⟨b,o,none⟩ us (fun j u hu=>by rw [nl];exact h j u hu)
 unfold cw at hz
 cases hi:P.info? t with
 | none=>simp [hi] at hz
 | some i=>
  simp only [hi,yb] at hz;unfold dF at ha
  cases hu:P.underlying t with
  | none=>simp [hu] at ha
  | some d=>cases d<;>simp_all [loadVar,isAgg,vt,typeInfo,underlying]
def afD (t:yC) (b o:Nat) (u:yh) (ha:dF P t=some false)
  (h:w.cell? ⟨b,o,none⟩=some u):(loadVar t ⟨b,o,none⟩).run P w= .ok u w:=by
 unfold dF at ha
 cases hu:P.underlying t with
 | none=>simp [hu] at ha
 | some d=>cases d<;>simp_all [loadVar,isAgg,underlying]
end
section
variable {O:bk} {m:Mp} {S:Nat->Prop} {w:yi}
def Ld {t:yC} {sz:Nat} {ag:Bool} {cs:List AV} {b o:Nat} {v:AV} (hz:cw O.P t=some sz) (ha:dF O.P t=some ag)
  (hr:bI O.ab m S w cs b o) (hv:fV sz ag cs=some v):∃u,(loadVar t ⟨b,o,none⟩).run O.P w= .ok u w/\af O.ab m S w v u:=by
 cases ag with
 | true=>
  simp only [fV,yt] at hv
  cases hle:yF sz cs.length with
  | false=>simp only [hle,yG] at hv;cases hv
  | true=>
   simp only [hle,yt,yb] at hv;subst hv;obtain ⟨us,h1,h2,h3⟩:=qw _ _ _ (zX sz cs b o hr);have hlen:us.length=sz:=by
    rw [h2,yO];have:=yq hle;omega
   refine ⟨.agg us.toArray,afC t b o us ha (by rw [hlen];exact hz) h3,?_⟩
   simp only [af];exact ⟨us.toArray,rfl,by simpa using h1⟩
 | false=>
  simp only [fV,yG] at hv
  cases cs with
  | nil=>simp at hv
  | cons c cs=>
   simp only [yb] at hv;subst hv;simp only [bI] at hr;obtain ⟨⟨u,h1,h2⟩,_⟩:=hr;exact ⟨u,afD t b o u ha h1,h2⟩
def YH {t:yC} {sz o:Nat} {ag:Bool} {cs:List AV} {xs:Array yh} {v:AV} (hz:cw O.P t=some sz) (ha:dF O.P t=some ag)
  (hr:aq O.ab m S w cs xs.toList) (hv:fV sz ag (cs.drop o)=some v):∃u,(part t xs o).run O.P w= .ok u w/\af O.ab m S w v u:=by
 have hd:∀(k:Nat) (cs:List AV) (us:List yh),aq O.ab m S w cs us->aq O.ab m S w (cs.drop k) (us.drop k):=by
  intro k
  induction k with
  | zero=>intro cs us h;simpa using h
  | succ k ih=>
   intro cs us h
   cases cs with
   | nil=>simp only [aq] at h;subst h;simp [aq]
   | cons c cs=>simp only [aq] at h;obtain ⟨u,r,rfl,_,h3⟩:=h;simpa using ih cs r h3
 have di:∀(k:Nat) (cs:List AV) (us:List yh),aq O.ab m S w cs us->aq O.ab m S w (cs.take k) (us.take k):=by
  intro k
  induction k with
  | zero=>intro cs us h;simp [aq]
  | succ k ih=>
   intro cs us h
   cases cs with
   | nil=>simp only [aq] at h;subst h;simp [aq]
   | cons c cs=>simp only [aq] at h;obtain ⟨u,r,rfl,h2,h3⟩:=h;simp only [wg,aq];exact ⟨u,_,rfl,h2,ih cs r h3⟩
 have abu:(isAgg t).run O.P w= .ok ag w:=by
  unfold dF at ha
  cases hu:O.P.underlying t with
  | none=>simp [hu] at ha
  | some d=>cases d<;>simp_all [isAgg,underlying]
 have ek:(vt t).run O.P w= .ok sz w:=by
  unfold cw at hz
  cases hi:O.P.info? t with
  | none=>simp [hi] at hz
  | some i=>simp_all [vt,typeInfo]
 have bC:=hd o cs xs.toList hr
 cases ag with
 | true=>
  simp only [fV,yt] at hv
  cases hle:yF sz (cs.drop o).length with
  | false=>simp only [hle,yG] at hv;cases hv
  | true=>
   simp only [hle,yt,yb] at hv;subst hv;refine ⟨.agg (xs.extract o (o+sz)),by simp [part,Sem.run_bind,abu,ek],?_⟩;simp only [af];refine ⟨_,rfl,?_⟩
   have:=di sz _ _ bC
   rw [show (xs.extract o (o+sz)).toList=(xs.toList.drop o).take sz by simp [Array.toList_extract,yan]];exact this
 | false=>
  simp only [fV,yG] at hv
  cases hc:cs.drop o with
  | nil=>simp [hc] at hv
  | cons c r=>
   simp only [hc,yb] at hv;subst hv;rw [hc] at bC;simp only [aq] at bC;obtain ⟨u,us,h1,h2,_⟩:=bC;have hx:xs[o]? =some u:=by
    have:xs.toList[o]? =some u:=by
     have:=congrArg (fun l=>l[0]?) h1
     simpa using this
    simpa using this
   exact ⟨u,by simp [part,Sem.run_bind,abu,hx],h2⟩
end
end
section
open Go
def lS (t:ByteArray):List Nat:=t.data.toList.map xh
def YI:∀a b:List UInt8,cN (a.map xh) (b.map xh)=(a==b)
 | [],[]=>rfl
 | [],_::_=>rfl
 | _::_,[]=>rfl
 | a::x,b::y=>by
  have h:yr a.toNat b.toNat=(a==b):=by
   rw [uW,yde,ybc];exact ybx
  simp only [xm,cN,YI x y,h,List.cons_beq_cons]
def YJ:∀a b:List UInt8,A3 (a.map xh) (b.map xh)=Op.bytesLess a b
 | [],[]=>rfl
 | [],_::_=>rfl
 | _::_,[]=>rfl
 | a::x,b::y=>by
  have h:yr a.toNat b.toNat=(a==b):=by
   rw [uW,yde,ybc];exact ybx
  have h2:yJ a.toNat b.toNat=decide (a<b):=by
   rw [uW];simp only [yJ,ydf,um,UInt8.lt_iff_toNat_lt];omega
  simp only [xm,A3,Op.bytesLess,YJ x y,h,h2]
def WO (s t:ByteArray):cN (lS s) (lS t)=(s.toList==t.toList):=by
 rw [lS,lS,YI,ByteArray.toList_eq,ByteArray.toList_eq]
def ag9 (s t:ByteArray):A3 (lS s) (lS t)=Op.bytesLess s.toList t.toList:=by
 rw [lS,lS,YJ,ByteArray.toList_eq,ByteArray.toList_eq]
def WQ (s:ByteArray):(lS s).length=s.size:=by
 rw [lS,List.length_map,Lib.size_eq]
section
variable {ab:Nat->Nat} {P:y5} {m:Mp} {S:Nat->Prop} {w:yi} {t:yC}
def ai5 {op:wZ} {k:y8} {x y:Int} {v:AV} (h:lh op k x y=some v):
  ∃u,(xT op t (.int k x) (.int k y)).run P w= .ok u w/\af ab m S w v u:=by
 cases op<;>simp only [lh,intCmp,yb] at h
 case add=>subst h;exact ⟨_,by simp [xT,Op.intArith];rfl,by simp [af]⟩
 case sub=>subst h;exact ⟨_,by simp [xT,Op.intArith];rfl,by simp [af]⟩
 case mul=>subst h;exact ⟨_,by simp [xT,Op.intArith];rfl,by simp [af]⟩
 case quo=>
  by_cases hy:y=0
  ·simp [hy] at h
  ·simp only [hy,xk,yb] at h;subst h;exact ⟨_,by simp [xT,Op.intDiv,hy];rfl,by simp [af]⟩
 case rem=>
  by_cases hy:y=0
  ·simp [hy] at h
  ·simp only [hy,xk,yb] at h;subst h;exact ⟨_,by simp [xT,Op.intDiv,hy];rfl,by simp [af]⟩
 case and=>subst h;exact ⟨_,by simp [xT,Op.intBits];rfl,by simp [af]⟩
 case or=>subst h;exact ⟨_,by simp [xT,Op.intBits];rfl,by simp [af]⟩
 case xor=>subst h;exact ⟨_,by simp [xT,Op.intBits];rfl,by simp [af]⟩
 case andNot=>subst h;exact ⟨_,by simp [xT,Op.intBits];rfl,by simp [af]⟩
 case shl=>cases h
 case shr=>cases h
 all_goals
  subst h;exact ⟨_,by simp [xT,Op.intCmp];rfl,by simp [af]⟩
def V5 {op:wZ} {k k':y8} {x y:Int} {v:AV} (h:BK op k x y=some v):
  ∃u,(xT op t (.int k x) (.int k' y)).run P w= .ok u w/\af ab m S w v u:=by
 unfold BK at h;by_cases hy:y<0
 ·simp [hy] at h
 ·simp only [hy,xk] at h;cases op<;>simp only [yb] at h
  case shl=>subst h;exact ⟨_,by simp [xT,Op.shift,hy];rfl,by simp [af]⟩
  case shr=>subst h;exact ⟨_,by simp [xT,Op.shift,hy];rfl,by simp [af]⟩
  all_goals cases h
def ai6 {op:wZ} {x y:ByteArray} {v:AV} (h:HK op (lS x) (lS y)=some v):
  ∃u,(xT op t (.string x) (.string y)).run P w= .ok u w/\af ab m S w v u:=by
 cases op<;>simp only [HK,WO,ag9,WQ,yb] at h
 case add=>
  cases hle:yF (x.size+y.size) 9223372036854775807 with
  | false=>rw [hle] at h;cases h
  | true=>
   rw [hle] at h;simp only [yt,yb] at h;subst h;have ayi:=yq hle;have zd:¬(((x.size+y.size:Nat):Int)>IntKind.i64.max):=by
    have:IntKind.i64.max=9223372036854775807:=by decide
    rw [this];omega
   refine ⟨.string (x++y),?_,?_⟩
   ·simp only [xT,Op.stringOp,yB zd,Sem.run_pure]
   ·simp only [af];exact ⟨x++y,rfl,by simp [lS]⟩
 all_goals first
  | (cases h;done)
  | (subst h;exact ⟨_,by simp [xT,Op.stringOp];rfl,by simp [af]⟩)
def ai7 {op:wZ} {k:uk} {x y:Nat} {v:AV} (h:Q2 op k x y=some v):
  ∃u,(xT op t (.float k x) (.float k y)).run P w= .ok u w/\af ab m S w v u:=by
 cases op<;>simp only [Q2,yb] at h
 case add=>
  cases hr:k.format.add x y with
  | none=>simp [hr] at h
  | some r=>simp only [hr,yb] at h;subst h;exact ⟨.float k r,by simp [xT,Op.floatArith,hr],by simp [af]⟩
 case sub=>
  cases hr:k.format.sub x y with
  | none=>simp [hr] at h
  | some r=>simp only [hr,yb] at h;subst h;exact ⟨.float k r,by simp [xT,Op.floatArith,hr],by simp [af]⟩
 case mul=>
  cases hr:k.format.mul x y with
  | none=>simp [hr] at h
  | some r=>simp only [hr,yb] at h;subst h;exact ⟨.float k r,by simp [xT,Op.floatArith,hr],by simp [af]⟩
 case quo=>
  cases hr:k.format.div x y with
  | none=>simp [hr] at h
  | some r=>simp only [hr,yb] at h;subst h;exact ⟨.float k r,by simp [xT,Op.floatArith,hr],by simp [af]⟩
 all_goals first
  | (cases h;done)
  | (subst h;exact ⟨_,by simp [xT,Op.floatCmp];rfl,by simp [af]⟩)
def ai8 {op:wZ} {vx vy v:AV} {x y:yh} (hx:af ab m S w vx x) (hy:af ab m S w vy y) (h:VE.binOp op vx vy=some v):
  ∃u,(xT op t x y).run P w= .ok u w/\af ab m S w v u:=by
 unfold VE.binOp at h
 split at h
 ·rename_i k a k' b;simp only [af] at hx hy;subst hx;subst hy
  split at h
  ·exact V5 h
  ·exact V5 h
  ·by_cases hk:k=k'
   ·subst hk;simp only [xA] at h;exact ai5 h
   ·simp [hk] at h
 ·rename_i k a k' b;simp only [af] at hx hy;subst hx;subst hy;by_cases hk:k=k'
  ·subst hk;simp only [xA] at h;exact ai7 h
  ·simp [hk] at h
 ·rename_i a b;simp only [af] at hx hy;obtain ⟨s,rfl,rfl⟩:=hx;obtain ⟨s',rfl,rfl⟩:=hy;exact ai6 h
 ·cases h
end
end
section
open Go
section
variable {ab:Nat->Nat} {P:y5} {m:Mp} {S:Nat->Prop} {w:yi} {t:yC}
def agb {op:wZ} {x y:xv} {a b:yh} (h:P.eqGuardType P.depth t=false\/∀xs ys,¬(a= .agg xs/\b= .agg ys)) (hn:a≠.nilIface):
  (eqGuard op t x y a b).run P w= .ok () w:=by
 unfold eqGuard;cases op
 all_goals first
  | rfl
  | (
    cases a
    all_goals first
     | rfl
     | exact absurd rfl hn
     | (
      cases b
      all_goals first
       | rfl
       | (
         rcases h with h | h
         ·simp [h]
         ·exact absurd ⟨rfl,rfl⟩ (h _ _))))
def an5 {d:Nat} {p q:Bool} (ht:P.underlying t=some .bool):(Op.equalIn (d+1) t (.bool p) (.bool q)).run P w= .ok (p==q) w:=by
 simp [Op.equalIn,underlying,ht]
def Q4 {d:Nat} {e:yC} (ht:P.underlying t=some (.slice e)) (y:Option uy) (n c n' c':Nat):
  (Op.equalIn (d+1) t (.slice none n c) (.slice y n' c')).run P w= .ok y.isNone w:=by simp [Op.equalIn,underlying,ht]
def aab {d:Nat} {e:yC} (ht:P.underlying t=some (.slice e)) (x:uy) (n c n' c':Nat):
  (Op.equalIn (d+1) t (.slice (some x) n c) (.slice none n' c')).run P w= .ok false w:=by simp [Op.equalIn,underlying,ht]
def aqM {d:Nat} {ps rs:Array yC} {vr:Bool} (ht:P.underlying t=some (.func ps rs vr)):
  (Op.equalIn (d+1) t .nilFunc .nilFunc).run P w= .ok true w:=by simp [Op.equalIn,underlying,ht]
def aac {d:Nat} {ps rs:Array yC} {vr:Bool} (ht:P.underlying t=some (.func ps rs vr)) (f:Go.Fn) (a b:Array yh):
  (Op.equalIn (d+1) t .nilFunc (.func f a b)).run P w= .ok false w:=by simp [Op.equalIn,underlying,ht]
def aad {d:Nat} {ps rs:Array yC} {vr:Bool} (ht:P.underlying t=some (.func ps rs vr)) (f:Go.Fn) (a b:Array yh):
  (Op.equalIn (d+1) t (.func f a b) .nilFunc).run P w= .ok false w:=by simp [Op.equalIn,underlying,ht]
def KI (x y:yh):Op.equal t x y=Op.equalIn (9999+1) t x y:=rfl
def alL {vx vy:AV} {x y:yh} {r:Bool} {e:yC} (ht:P.underlying t=some (.slice e)) (hx:af ab m S w vx x) (hy:af ab m S w vy y)
  (h:jE .sl vx vy=some r):(Op.equal t x y).run P w= .ok r w:=by
 rw [KI];unfold jE at h
 split at h<;>simp_all only [yb,reduceCtorEq]
 all_goals subst h
 all_goals simp only [af] at hx hy
 ·subst hx;subst hy;exact Q4 ht _ _ _ _ _
 ·rcases hy with ⟨b,o,c,rfl,_⟩ | ⟨_,rfl,_⟩<;>(subst hx;exact Q4 ht _ _ _ _ _)
 ·obtain ⟨p,c,_,rfl,_⟩:=hy;subst hx;exact Q4 ht _ _ _ _ _
 ·rcases hx with ⟨b,o,c,rfl,_⟩ | ⟨_,rfl,_⟩<;>(subst hy;exact aab ht _ _ _ _ _)
 ·obtain ⟨p,c,_,rfl,_⟩:=hx;subst hy;exact aab ht _ _ _ _ _
def alM {vx vy:AV} {x y:yh} {r:Bool} {ps rs:Array yC} {vr:Bool} (ht:P.underlying t=some (.func ps rs vr)) (hx:af ab m S w vx x) (hy:af ab m S w vy y)
  (h:jE .fn vx vy=some r):(Op.equal t x y).run P w= .ok r w:=by
 rw [KI];unfold jE at h
 split at h<;>simp_all only [yb,reduceCtorEq]
 all_goals subst h
 ·simp only [af] at hx hy;subst hx;subst hy;exact aqM ht
 ·rename_i f _ _
  cases f with
  | f g=>simp only [af] at hx hy;obtain ⟨fi,ca,rfl,_⟩:=hy;subst hx;exact aac ht _ _ _
  | y l=>simp only [af] at hx hy;obtain ⟨p,_,rfl⟩:=hy;subst hx;exact aac ht _ _ _
 ·rename_i f _ _
  cases f with
  | f g=>simp only [af] at hx hy;obtain ⟨fi,ca,rfl,_⟩:=hx;subst hy;exact aad ht _ _ _
  | y l=>simp only [af] at hx hy;obtain ⟨p,_,rfl⟩:=hx;subst hy;exact aad ht _ _ _
def alN {op:ycR} {vx v:AV} {x:yh} (hx:af ab m S w vx x) (h:VE.unOp op vx=some v):∃u,(Op.unary op x).run P w= .ok u w/\af ab m S w v u:=by
 unfold VE.unOp at h
 split at h
 ·rename_i k n;simp only [af] at hx;subst hx;simp only [yb] at h;subst h;exact ⟨_,by simp [Op.unary,Op.intArith];rfl,by simp [af]⟩
 ·rename_i k n;simp only [af] at hx;subst hx;simp only [lh,yb] at h;subst h;exact ⟨_,by simp [Op.unary,Op.intBits];rfl,by simp [af]⟩
 ·rename_i b;simp only [af] at hx;subst hx;simp only [yb] at h;subst h;exact ⟨_,by simp [Op.unary];rfl,by simp [af]⟩
 ·rename_i k b;simp only [af] at hx;subst hx;simp only [yb] at h;subst h;exact ⟨_,by simp [Op.unary,Op.negFloat];rfl,by simp [af]⟩
 ·cases h
def XJ {s d:yC} {k:y8} {vx v:AV} {x:yh} (hd:P.underlying d=some (.int k)) (hs:(∃k',P.underlying s=some (.int k'))\/∃k',P.underlying s=some (.float k'))
  (hx:af ab m S w vx x) (h:iB (.toInt k) vx=some v):∃u,(convert s d x).run P w= .ok u w/\af ab m S w v u:=by
 cases vx<;>simp only [iB,reduceCtorEq] at h
 case int k0 n=>
  simp only [af] at hx;subst hx;simp only [yb] at h;subst h;refine ⟨.int k (k.wrap n),?_,by simp [af]⟩;rcases hs with ⟨k',h'⟩ | ⟨k',h'⟩<;>simp [convert,underlying,Conv.intToInt,hd,h']
 case aK sk b=>
  simp only [af] at hx;subst hx
  cases hi:(sk.decode b).toInt .zero with
  | none=>simp [hi] at h
  | some n=>
   simp only [hi] at h;by_cases hr:k.min<=n/\n<=k.max
   ·simp only [hr,and_self,xA,yb] at h;subst h;refine ⟨.int k n,?_,by simp [af]⟩;rcases hs with ⟨k',h'⟩ | ⟨k',h'⟩<;>simp [convert,underlying,Conv.floatToInt,hd,h',hi,hr]
   ·simp [hr] at h
def XK {s d:yC} {k:uk} {vx v:AV} {x:yh} (hd:P.underlying d=some (.float k)) (hs:(∃k',P.underlying s=some (.int k'))\/∃k',P.underlying s=some (.float k'))
  (hx:af ab m S w vx x) (h:iB (.toFlt k) vx=some v):∃u,(convert s d x).run P w= .ok u w/\af ab m S w v u:=by
 cases vx<;>simp only [iB,reduceCtorEq] at h
 case int k0 n=>
  simp only [af] at hx;subst hx;simp only [yb] at h;subst h;refine ⟨.float k (k.nearest n),?_,by simp [af]⟩;rcases hs with ⟨k',h'⟩ | ⟨k',h'⟩<;>simp [convert,underlying,Conv.intToFloat,hd,h']
 case aK sk b=>
  simp only [af] at hx;subst hx;by_cases he:sk=k
  ·subst he;simp only [xA,yb] at h;subst h;refine ⟨.float sk b,?_,by simp [af]⟩;rcases hs with ⟨k',h'⟩ | ⟨k',h'⟩<;>simp [convert,underlying,Conv.floatToFloat,hd,h']
  ·simp only [he,xk] at h
   cases Mq:sk.decode b with
   | nan _ _=>simp [Mq] at h
   | infinity _=>simp [Mq] at h
   | number sg mm ee=>
    simp only [Mq] at h
    cases RF:(k.decode (k.encode (.number sg mm ee))).isInfinity with
    | true=>simp [RF] at h
    | false=>
     simp only [RF,yD,xk,yb] at h;subst h;refine ⟨.float k (k.encode (.number sg mm ee)),?_,by simp [af]⟩;rcases hs with ⟨k',h'⟩ | ⟨k',h'⟩<;>simp [convert,underlying,Conv.floatToFloat,hd,h',he,Mq,RF]
def ai9 {s d:yC} {vx v:AV} {x:yh} (hd:P.underlying d=some .string) (hs:P.underlying s=some .string)
  (hx:af ab m S w vx x) (h:iB .str vx=some v):∃u,(convert s d x).run P w= .ok u w/\af ab m S w v u:=by
 cases vx<;>simp only [iB,reduceCtorEq] at h
 simp only [yb] at h;subst h;simp only [af] at hx;obtain ⟨b,rfl,hb⟩:=hx;exact ⟨.string b,by simp [convert,underlying,hs,hd],by simp only [af];exact ⟨b,rfl,hb⟩⟩
end
end
section
open Go
def aha {v:AV} {k:Nat} (h:dB v=some k):∃kd,v= .int kd (k:Int):=by
 cases v<;>simp only [dB,reduceCtorEq] at h
 rename_i kd n
 cases n with
 | ofNat j=>simp only [yb] at h;subst h;exact ⟨kd,rfl⟩
 | negSucc j=>cases h
section
variable {O:bk} {H:Hint} {m:Mp} {S:Nat->Prop} {w:yi} {tm:Env} {a:Act}
def sI {ab:Nat->Nat} {v:AV} {x:yh} {k:Nat} (hx:af ab m S w v x) (h:dB v=some k):∃kd,x= .int kd (k:Int):=by
 obtain ⟨kd,rfl⟩:=aha h;simp only [af] at hx
 grind
def run_sliceBound {P:y5} {kd:y8} {k y:Nat} {code:BoundsCode} (h:k<=y):(Instr.sliceBound (.int kd (k:Int)) y code).run P w= .ok k w:=by
 have:(0:Int)<=(k:Int)/\(k:Int)<=(y:Int):=by omega
 simp [Instr.sliceBound,asIntOf,this]
def WR {P:y5} {isSlice:Bool} {len cap l h:Nat} {lo hi:Option xv} (hH:eT O H) (ht:bP O m S w tm a.tmps)
  (hl:cB tm 0 (lo.map (aI H))=some l) (hh:cB tm len (hi.map (aI H))=some h) (h1:l<=h) (h2:h<=cap):
  (Instr.sliceBounds isSlice len cap (lo.map a.eval) (hi.map a.eval) none).run P w= .ok (l,h,cap) w:=by
 cases lo with
 | none=>
  simp only [ua,cB,yb] at hl;subst hl
  cases hi with
  | none=>
   simp only [ua,cB,yb] at hh;subst hh;simp [Instr.sliceBounds]
  | some y=>
   obtain ⟨kd,e⟩:=sI (cf hH ht y) hh;simp only [Instr.sliceBounds,ua,wJ,e,Sem.run_bind,Sem.run_pure,Result.andThen_ok,run_sliceBound h2]
 | some x=>
  obtain ⟨kd,e⟩:=sI (cf hH ht x) hl
  cases hi with
  | none=>
   simp only [ua,cB,yb] at hh;subst hh;simp only [Instr.sliceBounds,ua,wJ,e,Sem.run_bind,Sem.run_pure,Result.andThen_ok,run_sliceBound h1]
  | some y=>
   obtain ⟨Ta,e'⟩:=sI (cf hH ht y) hh;simp only [Instr.sliceBounds,wJ,e,e',Sem.run_bind,Sem.run_pure,Result.andThen_ok,run_sliceBound h2,run_sliceBound h1]
def ahb {t:yC} {lo hi:Option xv} {vx v:AV} {x:yh} (hH:eT O H) (ht:bP O m S w tm a.tmps) (hu:O.P.underlying t=some .string)
  (hx:af O.ab m S w vx x) {hp:Hp} (h:fg hp .str vx tm (lo.map (aI H)) (hi.map (aI H))=some v):
  ∃u,(Instr.sliceAt t x (lo.map a.eval) (hi.map a.eval) none).run O.P w= .ok u w/\af O.ab m S w v u:=by
 cases vx<;>simp only [fg,reduceCtorEq] at h
 obtain ⟨b,rfl,rfl⟩:=hx
 cases hl:cB tm 0 (lo.map (aI H)) with
 | none=>simp [hl] at h
 | some l=>
  simp only [hl] at h
  cases hh:cB tm (b.data.toList.map xh).length (hi.map (aI H)) with
  | none=>rw [hh] at h;cases h
  | some g=>
   rw [hh] at h;simp only at h
   cases hc:(yF l g&&yF g (b.data.toList.map xh).length) with
   | false=>rw [hc] at h;cases h
   | true=>
    rw [hc] at h;simp only [yt,yb] at h;subst h;simp only [yg] at hc;have h1:=yq hc.1;have h2:=yq hc.2;have hlen:(b.data.toList.map xh).length=b.size:=WQ b;rw [hlen] at hh h2;refine ⟨.string (b.extract l g),?_,?_⟩
    ·simp only [Instr.sliceAt,Sem.run_bind,run_underlying hu,Result.andThen_ok,Instr.slice,tC,yD,xk,Sem.run_pure,
      WR (P:=O.P) (isSlice:=false) (len:=b.size) (cap:=b.size) hH ht hl hh h1 h2]
    ·simp only [af];refine ⟨_,rfl,?_⟩;rw [Lib.extract_data,List.map_take,List.map_drop,List.drop_take]
def aja {t e:yC} {sz:Nat} {lo hi:Option xv} {vx v:AV} {x:yh} (hH:eT O H) (ht:bP O m S w tm a.tmps) (hu:O.P.underlying t=some (.slice e)) (hz:cw O.P e=some sz)
  {hp:Hp} {ct:Nat} (hh:aQ O m S w hp ct)
  (hx:af O.ab m S w vx x) (h:fg hp (.sl sz) vx tm (lo.map (aI H)) (hi.map (aI H))=some v):
  ∃u,(Instr.sliceAt t x (lo.map a.eval) (hi.map a.eval) none).run O.P w= .ok u w/\af O.ab m S w v u:=by
 have ek:(vt e).run O.P w= .ok sz w:=by
  unfold cw at hz
  cases hi:O.P.info? e with
  | none=>simp [hi] at hz
  | some i=>simp_all [vt,typeInfo]
 have Hc:∀(ad:Option uy) (n c l g:Nat),cB tm 0 (lo.map (aI H))=some l->cB tm n (hi.map (aI H))=some g->l<=g->g<=c->
   (Instr.sliceAt t (.slice ad n c) (lo.map a.eval) (hi.map a.eval) none).run O.P w= .ok (.slice (if c=l then ad else ad.map (·.add (l*sz))) (g-l) (c-l)) w:=by
  intro ad n c l g hl hg h1 h2
  simp only [Instr.sliceAt,Sem.run_bind,run_underlying hu,Result.andThen_ok,Instr.slice,Sem.run_pure,ek,
   WR (P:=O.P) (isSlice:=true) (len:=n) (cap:=c) hH ht hl hg h1 h2]
 cases vx<;>simp only [fg,reduceCtorEq] at h
 case ae=>
  simp only [af] at hx;subst hx
  cases hl:cB tm 0 (lo.map (aI H)) with
  | none=>simp [hl] at h
  | some l=>
   cases l with
   | succ l=>simp [hl] at h
   | zero=>
    simp only [hl] at h
    cases hh:cB tm 0 (hi.map (aI H)) with
    | none=>simp [hh] at h
    | some g=>
     cases g with
     | succ g=>simp [hh] at h
     | zero=>
      simp only [hh,yb] at h;subst h;exact ⟨_,Hc none 0 0 0 0 hl hh (yA _) (yA _),by simp [af]⟩
 case aA ex n cs=>
  simp only [af] at hx;rcases hx with ⟨b,o,c,rfl,Ja,hex,hS,iH,CF⟩ | ⟨ad,rfl,rfl,rfl⟩
  case inr=>
   cases hl:cB tm 0 (lo.map (aI H)) with
   | none=>simp [hl] at h
   | some l=>
    simp only [hl] at h
    cases hh:cB tm 0 (hi.map (aI H)) with
    | none=>simp [hh] at h
    | some g=>
     simp only [hh] at h
     cases hc:(yF l g&&yF g 0) with
     | false=>rw [hc] at h;cases h
     | true=>
      rw [hc] at h;simp only [yt,yb] at h;subst h;simp only [yg] at hc;have h1:=yq hc.1;have h2:=yq hc.2;have hg:g=0:=by omega
      subst hg;have jt:l=0:=by omega
      subst jt;refine ⟨_,Hc (some ad) 0 0 0 0 hl hh h1 h2,?_⟩;simp only [af];exact .inr ⟨ad,by simp,by simp,by simp [slice]⟩
  cases hl:cB tm 0 (lo.map (aI H)) with
  | none=>simp [hl] at h
  | some l=>
   simp only [hl] at h
   cases hh:cB tm n (hi.map (aI H)) with
   | none=>simp [hh] at h
   | some g=>
    simp only [hh] at h
    cases hc:(yF l g&&yF g n) with
    | false=>rw [hc] at h;cases h
    | true=>
     rw [hc] at h;simp only [yt,yb] at h;subst h;simp only [yg] at hc;have h1:=yq hc.1;have h2:=yq hc.2;refine ⟨_,Hc (some ⟨b,o,none⟩) n c l g hl hh h1 (by omega),?_⟩;have B7:aD (slice (l*sz) ((g-l)*sz) cs)=true:=by
      have pd:∀(k:Nat) (cs:List AV),aD cs=true->aD (cs.drop k)=true:=by
       intro k
       induction k with
       | zero=>intro cs h;simpa using h
       | succ k ih=>intro cs h;cases cs with
        | nil=>simpa using h
        | cons c cs=>simp only [aD,yg] at h;simpa using ih cs h.2
      have pt:∀(k:Nat) (cs:List AV),aD cs=true->aD (cs.take k)=true:=by
       intro k
       induction k with
       | zero=>intro cs h;simp [aD]
       | succ k ih=>intro cs h;cases cs with
        | nil=>simp [aD]
        | cons c cs=>simp only [aD,yg,wg] at h ⊢;exact ⟨h.1,ih cs h.2⟩
      exact pt _ _ (pd _ _ iH)
     have abv:(ex&&yr g n)=true->c-l=g-l:=by
      intro hq;simp only [yg] at hq
      have:=hex hq.1
      have:=yj hq.2
      omega
     simp only [af];by_cases eM:c=l
     ·have h0:g-l=0:=by omega
      have ml:slice (l*sz) ((g-l)*sz) cs=[]:=by simp [slice,h0]
      rw [ml];exact .inl ⟨b,o,c-l,by simp [eM],by omega,abv,.inl rfl,rfl,by simp [bI]⟩
     ·refine .inl ⟨b,o+l*sz,c-l,by simp [eM,nl],by omega,abv,?_,B7,?_⟩
      ·rcases hS with rfl | hS
       ·exact .inl (by simp [slice])
       ·exact .inr hS
      ·exact zX _ _ _ _ (px _ _ _ _ CF)
 case ay id o n=>
  simp only [af] at hx;obtain ⟨p,c,hm,rfl,Ja,NH⟩:=hx
  split at h
  case h_2=>cases h
  rename_i Tb pu0 rG z0 cs0 B8;obtain ⟨p',arr,t',fW,_,fo,_⟩:=hh.obj id _ _ B8 hm;rw [hm] at fW;injection fW with fW
  subst fW
  cases hl:cB tm 0 (lo.map (aI H)) with
  | none=>simp [hl] at h
  | some l=>
   simp only [hl] at h
   cases hh:cB tm n (hi.map (aI H)) with
   | none=>simp [hh] at h
   | some g=>
    simp only [hh] at h
    cases hc:(yF l g&&yF g n&&yr z0 sz) with
    | false=>rw [hc] at h;cases h
    | true=>
     rw [hc] at h;simp only [yt] at h;simp only [yg] at hc;have h1:=yq hc.1.1;have h2:=yq hc.1.2;have hpz:p.z=sz:=fo.trans (yj hc.2)
     cases he:(yr l g&& !yr l 0) with
     | true=>
      rw [he] at h;simp only [yt,yb] at h;subst h;simp only [yg] at he;have CG:=yj he.1;refine ⟨_,Hc (some ⟨p.b,p.o+o,none⟩) n c l g hl hh h1 (by omega),?_⟩;simp only [af];by_cases eM:c=l
      ·exact .inl ⟨p.b,p.o+o,c-l,by simp [eM];omega,by omega,by simp,by simp,by simp [aD],by simp [bI]⟩
      ·exact .inl ⟨p.b,p.o+o+l*sz,c-l,by simp [eM,nl];omega,by omega,by simp,by simp,by simp [aD],by simp [bI]⟩
     | false=>
      rw [he] at h;simp only [yG,yb] at h;subst h;have eM:c=l->l=0:=by
       intro eM;have CG:l=g:=by omega
       cases jt:yr l 0 with
       | true=>exact yj jt
       | false=>rw [CG,xz,<-CG,jt] at he;cases he
      refine ⟨_,Hc (some ⟨p.b,p.o+o,none⟩) n c l g hl hh h1 (by omega),?_⟩;simp only [af];refine ⟨p,c-l,hm,?_,by omega,?_⟩
      ·by_cases RG:c=l
       ·have:=eM RG;subst this;subst RG;simp
       ·simp [RG,nl,uE]
      ·rw [hpz] at NH ⊢
       have:c*sz=l*sz+(c-l)*sz:=by rw [<-wh];congr 1;omega
       omega
end
end
section
open Go
def mZ {P:y5} {w:yi} {t:yC} {sz:Nat} (hz:cw P t=some sz):(vt t).run P w= .ok sz w:=by
 unfold cw at hz
 cases hi:P.info? t with
 | none=>simp [hi] at hz
 | some i=>simp_all [vt,typeInfo]
section
variable {O:bk} {H:Hint} {m:Mp} {S:Nat->Prop} {w:yi} {tm:Env} {a:Act} {hp:Hp} {ct:Nat}
def PE {id o n:Nat} {rw pu ex:Bool} {sz:Nat} {cs:List AV} {p:Pl} (hh:aQ O m S w hp ct) (hg:ak hp id=some (.cells rw pu ex sz cs)) (hm:m id=some p):
  bI O.ab m S w cs p.b p.o:=by
 obtain ⟨p',arr,t',fW,_,_,_,_,_,hr,_⟩:=hh.obj id _ _ hg hm
 grind
def aqN {t:yC} {sz:Nat} {ag:Bool} {vx v:AV} {x:yh} (hh:aQ O m S w hp ct) (hz:cw O.P t=some sz) (ha:dF O.P t=some ag) (hx:af O.ab m S w vx x)
  (h:iW hp sz ag vx=some v):∃u,(Instr.loadAt t x).run O.P w= .ok u w/\af O.ab m S w v u:=by
 cases vx<;>simp only [iW,reduceCtorEq] at h
 case ptr id o=>
  obtain ⟨p,hm,rfl⟩:=hx
  split at h
  case h_2=>cases h
  rename_i Tb pu0 rG z0 cs0 B8;have hr:=PE (id:=id) (o:=0) (n:=0) hh B8 hm;obtain ⟨u,h1,h2⟩:=Ld hz ha (px o cs0 p.b p.o hr) h;exact ⟨u,by simp only [Instr.loadAt,Instr.sureAddr,Sem.run_bind,Sem.run_pure,Result.andThen_ok];exact h1,h2⟩
 case aH cs=>
  obtain ⟨b,o,rfl,_,_,hr⟩:=hx;obtain ⟨u,h1,h2⟩:=Ld hz ha hr h;exact ⟨u,by simp only [Instr.loadAt,Instr.sureAddr,Sem.run_bind,Sem.run_pure,Result.andThen_ok];exact h1,h2⟩
def sn:∀(k:Nat) (cs:List AV),aD cs=true->aD (cs.drop k)=true
 | 0,cs,h=>by simpa using h
 | k+1,[],h=>by simpa using h
 | k+1,c::cs,h=>by simp only [aD,yg] at h;simpa using sn k cs h.2
def Pg {cs:List AV} {b o k:Nat} (h2:cs=[]\/S b) (h3:aD cs=true) (h4:bI O.ab m S w cs b o):af O.ab m S w (.aH (cs.drop k)) (.pointer (some ⟨b,o+k,none⟩)):=by
 refine ⟨b,o+k,rfl,?_,sn k cs h3,px k cs b o h4⟩
 grind
def an6 {t:yC} {fs:Array tq} {i:Nat} {f:tq} {sz:Nat} {vx v:AV} {x:yh} (hu:O.P.underlying t=some (.struct fs)) (hf:fs[i]? =some f) (hz:cw O.P f.type=some (sz+1))
  (hx:af O.ab m S w vx x)
  (h:HL f.offset vx=some v):∃u,(Instr.fieldAt t x i).run O.P w= .ok u w/\af O.ab m S w v u:=by
 have aae:∀(b o:Nat),(Instr.fieldAt t (.pointer (some ⟨b,o,none⟩)) i).run O.P w= .ok (.pointer (some ⟨b,o+f.offset,none⟩)) w:=by
  intro b o;simp only [Instr.fieldAt,Sem.run_bind,run_underlying hu,Result.andThen_ok,hf,Instr.sureAddr,Sem.run_pure,fieldPlace,mZ hz,Nat.succ_ne_zero,xk,nl]
 cases vx<;>simp only [HL,reduceCtorEq] at h
 case ptr id o=>
  obtain ⟨p,hm,rfl⟩:=hx;simp only [yb] at h;subst h;exact ⟨_,aae _ _,by simp only [af];exact ⟨p,hm,by rw [uE]⟩⟩
 case aH cs=>
  obtain ⟨b,o,rfl,h2,h3,h4⟩:=hx
  cases hc:yF f.offset cs.length with
  | false=>rw [hc] at h;cases h
  | true=>
   rw [hc] at h;simp only [yt,yb] at h;subst h;exact ⟨_,aae _ _,Pg h2 h3 h4⟩
def an7 {t:yC} {fs:Array tq} {i:Nat} {f:tq} {sz:Nat} {ag:Bool} {vx v:AV} {x:yh} (hu:O.P.underlying t=some (.struct fs)) (hf:fs[i]? =some f)
  (hz:cw O.P f.type=some sz) (ha:dF O.P f.type=some ag) (hx:af O.ab m S w vx x)
  (h:LR f.offset sz ag vx=some v):∃u,(Instr.field t x i).run O.P w= .ok u w/\af O.ab m S w v u:=by
 cases vx<;>simp only [LR,reduceCtorEq] at h
 obtain ⟨xs,rfl,hr⟩:=hx;obtain ⟨u,h1,h2⟩:=YH hz ha hr h;exact ⟨u,by simp only [Instr.field,Sem.run_bind,run_underlying hu,Result.andThen_ok,hf,asAgg,Sem.run_pure];exact h1,h2⟩
def an8 {t e:yC} {sz k:Nat} {vx vi v:AV} {x i:yh} (hu:O.P.underlying t=some (.slice e)) (hz:cw O.P e=some sz) (hx:af O.ab m S w vx x) (hi:af O.ab m S w vi i)
  (hk:dB vi=some k)
  (h:jj sz k vx=some v):∃u,(Instr.indexAt t x i).run O.P w= .ok u w/\af O.ab m S w v u:=by
 obtain ⟨kd,rfl⟩:=sI hi hk;have HR:∀(b o n c:Nat),k<n->(Instr.indexAt t (.slice (some ⟨b,o,none⟩) n c) (.int kd (k:Int))).run O.P w= .ok (.pointer (some ⟨b,o+k*sz,none⟩)) w:=by
  intro b o n c rH;have hr:(0:Int)<=(k:Int)/\(k:Int)<(n:Int):=by omega
  simp [Instr.indexAt,asIntOf,run_underlying hu,mZ hz,hr,nl]
  grind
 cases vx<;>simp only [jj,reduceCtorEq] at h
 case ay id o n=>
  obtain ⟨p,c,hm,rfl,Ja,NH⟩:=hx
  cases hc:yJ k n with
  | false=>rw [hc] at h;cases h
  | true=>
   rw [hc] at h;simp only [yt,yb] at h;subst h;have rH:k<n:=by simp_all
   exact ⟨_,HR _ _ _ _ rH,by simp only [af];exact ⟨p,hm,by rw [uE]⟩⟩
 case aA ex n cs=>
  rcases hx with ⟨b,o,c,rfl,Ja,hex,h2,h3,h4⟩ | ⟨a,rfl,rfl,rfl⟩
  case inr=>
   have:yJ k 0=false:=by cases hq:yJ k 0 with | false=>rfl | true=>simp only [yJ,ydf] at hq;omega
   grind
  cases hc:yJ k n with
  | false=>rw [hc] at h;cases h
  | true=>
   rw [hc] at h;simp only [yt,yb] at h;subst h;have rH:k<n:=by simp_all
   exact ⟨_,HR _ _ _ _ rH,Pg h2 h3 h4⟩
def an9 {t e:yC} {len sz k:Nat} {vx vi v:AV} {x i:yh} (hu:O.P.underlying t=some (.array len e)) (hz:cw O.P e=some sz) (hx:af O.ab m S w vx x) (hi:af O.ab m S w vi i)
  (hk:dB vi=some k)
  (h:DV len sz k vx=some v):∃u,(Instr.indexAt t x i).run O.P w= .ok u w/\af O.ab m S w v u:=by
 obtain ⟨kd,rfl⟩:=sI hi hk;have HR:∀(b o:Nat),k<len->(Instr.indexAt t (.pointer (some ⟨b,o,none⟩)) (.int kd (k:Int))).run O.P w= .ok (.pointer (some ⟨b,o+k*sz,none⟩)) w:=by
  intro b o rH;have hr:(0:Int)<=(k:Int)/\(k:Int)<(len:Int):=by omega
  simp [Instr.indexAt,asIntOf,run_underlying hu,mZ hz,hr,nl,Instr.sureAddr]
  grind
 cases vx<;>simp only [DV,reduceCtorEq] at h
 case ptr id o=>
  obtain ⟨p,hm,rfl⟩:=hx
  cases hc:yJ k len with
  | false=>rw [hc] at h;cases h
  | true=>
   rw [hc] at h;simp only [yt,yb] at h;subst h;have rH:k<len:=by simp_all
   exact ⟨_,HR _ _ rH,by simp only [af];exact ⟨p,hm,by rw [uE]⟩⟩
 case aH cs=>
  obtain ⟨b,o,rfl,h2,h3,h4⟩:=hx
  cases hc:yJ k len with
  | false=>rw [hc] at h;cases h
  | true=>
   rw [hc] at h;simp only [yt,yb] at h;subst h;have rH:k<len:=by simp_all
   exact ⟨_,HR _ _ rH,Pg h2 h3 h4⟩
def aoa {t e:yC} {len sz k:Nat} {ag:Bool} {vx vi v:AV} {x i:yh} (hu:O.P.underlying t=some (.array len e)) (hz:cw O.P e=some sz) (ha:dF O.P e=some ag)
  (hx:af O.ab m S w vx x) (hi:af O.ab m S w vi i) (hk:dB vi=some k)
  (h:HM len sz ag k vx=some v):
  ∃u,(Instr.index t x i).run O.P w= .ok u w/\af O.ab m S w v u:=by
 obtain ⟨kd,rfl⟩:=sI hi hk;cases vx<;>simp only [HM,reduceCtorEq] at h
 obtain ⟨xs,rfl,hr⟩:=hx
 cases hc:yJ k len with
 | false=>rw [hc] at h;cases h
 | true=>
  rw [hc] at h;have rH:k<len:=by simp_all
  obtain ⟨u,h1,h2⟩:=YH hz ha hr h;have bC:(0:Int)<=(k:Int)/\(k:Int)<(len:Int):=by omega
  exact ⟨u,by simp [Instr.index,asIntOf,run_underlying hu,mZ hz,bC,h1];intro hle;exact absurd hle (by omega),h2⟩
def aob {t:yC} {k:Nat} {vx vi v:AV} {x i:yh} (hu:O.P.underlying t=some .string) (hx:af O.ab m S w vx x) (hi:af O.ab m S w vi i) (hk:dB vi=some k)
  (h:mG k vx=some v):
  ∃u,(Instr.index t x i).run O.P w= .ok u w/\af O.ab m S w v u:=by
 obtain ⟨kd,rfl⟩:=sI hi hk;cases vx<;>simp only [mG,reduceCtorEq] at h
 obtain ⟨b,rfl,rfl⟩:=hx
 cases hs:(b.data.toList.map xh)[k]? with
 | none=>rw [hs] at h;cases h
 | some q=>
  rw [hs] at h;simp only [yb] at h;subst h;rw [ybl] at hs
  cases hb:b.data.toList[k]? with
  | none=>rw [hb] at hs;cases hs
  | some c=>
   rw [hb] at hs;simp only [wJ,yb] at hs;subst hs;have bX:b[k]? =some c:=by
    have aR:k<b.data.toList.length:=by
     grind
    have ek:k<b.size:=by simp_all
    rw [getElem?_pos b k ek];rw [xW aR] at hb;rw [<-hb];rfl
   refine ⟨.int .u8 c.toNat,?_,by simp [af]⟩;simp [Instr.index,asIntOf,run_underlying hu,bX]
end
end
section
open Go
section
variable {ab:Nat->Nat} {m:Mp} {S:Nat->Prop} {w:yi}
def Ph:∀{v:AV} {u:yh},af ab m S w v u->bL (cellsOf v)=true->aq ab m S w (cellsOf v) u.cells.toList:=by
 intro v u h h1;cases v
 case agg cs=>
  simp only [af] at h;obtain ⟨xs,rfl,hr⟩:=h;exact hr
 case au vs=>simp [cellsOf,bL,bn] at h1
 case undef=>simp [cellsOf,bL,bn] at h1
 case cr=>simp [cellsOf,bL,bn] at h1
 case fn f a b=>
  cases f with
  | f g=>have h':=h;simp only [af] at h';obtain ⟨fi,ca,rfl,_⟩:=h';simp only [cellsOf,Value.cells,aq];exact ⟨_,_,rfl,h,rfl⟩
  | y l=>have h':=h;simp only [af] at h';obtain ⟨p,_,rfl⟩:=h';simp only [cellsOf,Value.cells,aq];exact ⟨_,_,rfl,h,rfl⟩
 case str s=>have h':=h;simp only [af] at h';obtain ⟨b,rfl,_⟩:=h';simp only [cellsOf,Value.cells,aq];exact ⟨_,_,rfl,h,rfl⟩
 case ptr id o=>have h':=h;simp only [af] at h';obtain ⟨b,_,rfl⟩:=h';simp only [cellsOf,Value.cells,aq];exact ⟨_,_,rfl,h,rfl⟩
 case aH cs=>have h':=h;simp only [af] at h';obtain ⟨b,o,rfl,_⟩:=h';simp only [cellsOf,Value.cells,aq];exact ⟨_,_,rfl,h,rfl⟩
 case aA e n cs=>have h':=h;simp only [af] at h';rcases h' with ⟨b,o,c,rfl,_⟩ | ⟨a,rfl,_,_⟩<;>(simp only [cellsOf,Value.cells,aq];exact ⟨_,_,rfl,h,rfl⟩)
 case ay id o n=>have h':=h;simp only [af] at h';obtain ⟨p,c,_,rfl,_⟩:=h';simp only [cellsOf,Value.cells,aq];exact ⟨_,_,rfl,h,rfl⟩
 case map id=>have h':=h;simp only [af] at h';obtain ⟨p,_,rfl⟩:=h';simp only [cellsOf,Value.cells,aq];exact ⟨_,_,rfl,h,rfl⟩
 case jo ks vs=>have h':=h;simp only [af] at h';obtain ⟨b,es,cl,rfl,_⟩:=h';simp only [cellsOf,Value.cells,aq];exact ⟨_,_,rfl,h,rfl⟩
 case it id=>have h':=h;simp only [af] at h';obtain ⟨p,_,rfl⟩:=h';simp only [cellsOf,Value.cells,aq];exact ⟨_,_,rfl,h,rfl⟩
 all_goals
  have h':=h;simp only [af] at h';subst h';simp only [cellsOf,Value.cells,aq];exact ⟨_,_,rfl,h,rfl⟩
def By (v:yh):aq ab m S w (cellsOf (eb v)) v.cells.toList:=by
 have h:=Lc (ab:=ab) (m:=m) (S:=S) (w:=w) v;cases v
 case agg xs=>
  obtain ⟨l⟩:=xs;simp only [eb,af] at h ⊢;obtain ⟨xs,e,hr⟩:=h;injection e with e
  subst e;exact hr
 case tuple xs=>obtain ⟨l⟩:=xs;simp only [eb] at h ⊢;simp only [cellsOf,Value.cells,aq];exact ⟨_,_,rfl,h,rfl⟩
 case pointer p=>cases p<;>(simp only [eb] at h ⊢;simp only [cellsOf,Value.cells,aq];exact ⟨_,_,rfl,h,rfl⟩)
 case map p=>cases p<;>(simp only [eb] at h ⊢;simp only [cellsOf,Value.cells,aq];exact ⟨_,_,rfl,h,rfl⟩)
 case slice p n c=>
  cases p
  ·cases n
   ·cases c<;>(simp only [eb] at h ⊢;simp only [cellsOf,Value.cells,aq];exact ⟨_,_,rfl,h,rfl⟩)
   ·simp only [eb] at h ⊢;simp only [cellsOf,Value.cells,aq];exact ⟨_,_,rfl,h,rfl⟩
  ·simp only [eb] at h ⊢;simp only [cellsOf,Value.cells,aq];exact ⟨_,_,rfl,h,rfl⟩
 all_goals (simp only [eb] at h ⊢;simp only [cellsOf,Value.cells,aq];exact ⟨_,_,rfl,h,rfl⟩)
def kS:∀{a b:List AV} {x y:List yh},aq ab m S w a x->aq ab m S w b y->aq ab m S w (a++b) (x++y)
 | [],b,x,y,h,k=>by simp only [aq] at h;subst h;simpa using k
 | c::a,b,x,y,h,k=>by
  simp only [aq] at h;obtain ⟨u,r,rfl,h2,h3⟩:=h;simp only [yX,aq];exact ⟨u,r++y,rfl,h2,kS h3 k⟩
def Gz:∀(k:Nat) {cs:List AV} {us:List yh},aq ab m S w cs us->aq ab m S w (cs.drop k) (us.drop k)
 | 0,cs,us,h=>by simpa using h
 | k+1,[],us,h=>by simp only [aq] at h;subst h;simp [aq]
 | k+1,c::cs,us,h=>by simp only [aq] at h;obtain ⟨u,r,rfl,_,h3⟩:=h;simpa using Gz k h3
def Dj:∀(k:Nat) {cs:List AV} {us:List yh},aq ab m S w cs us->aq ab m S w (cs.take k) (us.take k)
 | 0,cs,us,h=>by simp [aq]
 | k+1,[],us,h=>by simp only [aq] at h;subst h;simp [aq]
 | k+1,c::cs,us,h=>by
  simp only [aq] at h;obtain ⟨u,r,rfl,h2,h3⟩:=h;simp only [wg,aq];exact ⟨u,_,rfl,h2,Dj k h3⟩
def PF:∀{cs:List AV} {us:List yh} {i:Nat} {v:AV},aq ab m S w cs us->cs[i]? =some v->∃u,us[i]? =some u/\af ab m S w v u
 | [],us,i,v,_,h=>by simp at h
 | c::cs,us,0,v,h,e=>by
  simp only [aq] at h;obtain ⟨u,r,rfl,h2,h3⟩:=h;simp at e;subst e;exact ⟨u,rfl,h2⟩
 | c::cs,us,i+1,v,h,e=>by
  simp only [aq] at h;obtain ⟨u,r,rfl,h2,h3⟩:=h;simp at e;simpa using PF h3 e
end
def WS (off:Nat):∀(new:List yh) (j:Nat) (cells:Array yh),off+j+new.length<=cells.size->
  ((new.zipIdx j).foldl (fun (cs:Array yh) (p:yh×Nat)=>cs.setIfInBounds (off+p.2) p.1) cells).toList=
   cells.toList.take (off+j)++new++cells.toList.drop (off+j+new.length)
 | [],j,cells,_=>by simp
 | v::r,j,cells,h=>by
  simp only [yz] at h;have ih:=WS off r (j+1) (cells.setIfInBounds (off+j) v) (by simp;omega);simp only [List.zipIdx_cons,List.foldl_cons];rw [ih];have aR:off+j<cells.toList.length:=by simp;omega
  have h1:(cells.setIfInBounds (off+j) v).toList=cells.toList.set (off+j) v:=by simp
  rw [h1,show off+(j+1)=off+j+1 by omega];have h2:(cells.toList.set (off+j) v).take (off+j+1)=cells.toList.take (off+j)++[v]:=by
   rw [List.take_succ_eq_append_getElem (by simpa using aR)];simp [List.take_set_of_le]
  have h3:(cells.toList.set (off+j) v).drop (off+j+1+r.length)=cells.toList.drop (off+j+(r.length+1)):=by
   rw [List.drop_set_of_lt (by omega)];congr 1;omega
  rw [h2,h3]
  simp
section
variable {O:bk} {H:Hint} {m:Mp} {S:Nat->Prop} {w:yi} {tm:Env} {a:Act}
def Lf (hH:eT O H) (ht:bP O m S w tm a.tmps) {place:Nat->Option (Nat×Nat)}:∀(parts:List (Nat×xv)) (ps:List (Nat×Nat×X)) (zero cs:List AV) (cells:Array yh),
  partsOf H place parts=some ps->aq O.ab m S w zero cells.toList->fill tm zero ps=some cs->
  ∃out,Instr.fill place cells (parts.map fun p=>(p.1,a.eval p.2))=some out/\aq O.ab m S w cs out.toList
 | [],ps,zero,cs,cells,hp,hz,hf=>by
  simp only [partsOf,yb] at hp;subst hp;simp only [fill,yb] at hf;subst hf;exact ⟨cells,rfl,hz⟩
 | (i,x)::r,ps,zero,cs,cells,hp,hz,hf=>by
  simp only [partsOf] at hp
  cases mQ:place i with
  | none=>simp [mQ] at hp
  | some q=>
   obtain ⟨o,s⟩:=q;simp only [mQ] at hp
   cases nO:partsOf H place r with
   | none=>simp [nO] at hp
   | some l=>
    simp only [nO,yb] at hp;subst hp;simp only [fill] at hf
    cases hc:(yr (cellsOf (aw tm (aI H x))).length s&&yF (o+s) zero.length&&bL (cellsOf (aw tm (aI H x)))) with
    | false=>rw [hc] at hf;cases hf
    | true=>
     rw [hc] at hf;simp only [yt] at hf;simp only [yg] at hc;have hs:=yj hc.1.1;have hle:=yq hc.1.2;have hrx:=Ph (cf hH ht x) hc.2;have mR:=gH _ _ hrx;have rI:=gH _ _ hz;have ek:(a.eval x).cells.size=s:=by rw [<-hs,<-mR];simp
     have pX:cells.size=zero.length:=by rw [<-rI];simp
     have aqO:=WS o (a.eval x).cells.toList 0 cells (by simp;omega);have fo:aq O.ab m S w (over o (cellsOf (aw tm (aI H x))) zero)
       ((a.eval x).cells.zipIdx.foldl (fun (cs:Array yh) (p:yh×Nat)=>cs.setIfInBounds (o+p.2) p.1) cells).toList:=by
      rw [<-Array.foldl_toList,Array.toList_zipIdx,aqO];simp only [over,yW];rw [show (a.eval x).cells.toList.length=(cellsOf (aw tm (aI H x))).length from mR];exact kS (kS (Dj o hz) hrx) (Gz _ hz)
     obtain ⟨out,h1,h2⟩:=Lf hH ht r l _ cs _ nO fo hf;refine ⟨out,?_,h2⟩;simp only [xm,Instr.fill,mQ,ek];rw [yB (by simp;omega)];exact h1
end
end
section
open Go
def WT (p q:ByteArray):(p==q)=cN (lS p) (lS q):=by
 have h:(p==q)=(p.data==q.data):=by cases p;cases q;rfl
 rw [h,WO,ByteArray.toList_eq,ByteArray.toList_eq];rw [uW,ybc,ybc];constructor
 ·intro e;rw [e]
 ·intro e;have:=congrArg List.toArray e;simpa using this
def Mr:ve->Bool
 | .bool | .int _ | .string=>true
 | _=>false
def fits (d:ve) (v:AV):Bool:=
 match d,v with
 | .int _,.int _ _ | .string,.str _ | .bool,.bool _=>true
 | _,_=>false
def Found (ab:Nat->Nat) (m:Mp) (S:Nat->Prop) (w:yi) (f:Option (Option (Nat×yh))):Option AV->Prop
 | none=>f=some none
 | some v=>∃j u,f=some (some (j,u))/\af ab m S w v u
section
variable {O:bk} {ab:Nat->Nat} {m:Mp} {S:Nat->Prop} {w:yi}
def XL {vk vk':AV} {k k':yh} {r:Bool} {d:ve} (hk:af ab m S w vk k) (A8:af ab m S w vk' k') (h:DU vk vk'=some r)
  (hd:fits d vk=true):Instr.sameNow d k k'=some r:=by
 unfold DU at h
 split at h
 ·rename_i j x j' y;simp only [af] at hk A8;subst hk;subst A8;by_cases hj:j=j'
  ·simp only [hj,xA,yb] at h;subst hj;cases d<;>simp [fits] at hd
   simpa [Instr.sameNow] using h
  ·simp [hj] at h
 ·simp only [af] at hk A8;obtain ⟨s,rfl,rfl⟩:=hk;obtain ⟨s',rfl,rfl⟩:=A8;simp only [yb] at h;cases d<;>simp [fits] at hd
  simp only [Instr.sameNow,WT];rw [<-h];rfl
 ·simp only [af] at hk A8;subst hk;subst A8;simp only [yb] at h;cases d<;>simp [fits] at hd
  simp [Instr.sameNow,h]
 ·cases h
def PG {vk:AV} {k:yh} {d:ve} (hk:af ab m S w vk k)
  (hd:fits d vk=true):∀(ks vs:List AV) (es:List uo) (i:Nat) (r:Option AV),
  aq ab m S w ks (es.map (·.key))->aq ab m S w vs (es.map (·.val))->B4 vk ks vs=some r->Found ab m S w (Instr.findNow d k es i) r
 | [],vs,es,i,r,h1,h2,h=>by
  simp only [aq,yaR] at h1;subst h1;simp only [B4,yb] at h;subst h;rfl
 | c::ks,[],es,i,r,h1,h2,h=>by simp only [B4] at h;cases h
 | c::ks,v::vs,es,i,r,h1,h2,h=>by
  cases es with
  | nil=>simp [aq] at h1
  | cons e es=>
   simp only [xm,aq,vW] at h1 h2;obtain ⟨u,t,⟨rfl,rfl⟩,hc,NI⟩:=h1;obtain ⟨u',t',⟨rfl,rfl⟩,hv,zx⟩:=h2;simp only [B4] at h
   cases zy:DU vk c with
   | none=>simp [zy] at h
   | some b=>
    have hs:=XL (d:=d) hk hc zy hd
    cases b with
    | true=>
     simp only [zy,yb] at h;subst h;exact ⟨i,e.val,by simp [Instr.findNow,hs],hv⟩
    | false=>
     simp only [zy] at h;have ih:=PG hk hd ks vs es (i+1) r NI zx h;simpa [Instr.findNow,hs] using ih
def JV {P:y5} {kt:yC} {d:ve} (hu:P.underlying kt=some d) (hd:Mr d=true) (b:Bool) (k:yh):(Instr.checkKey b 10000 kt k).run P w= .ok () w:=by
 have:∀n,(Instr.checkKey b (n+1) kt k).run P w= .ok () w:=by
  intro n;cases d<;>simp [Mr] at hd<;>simp [Instr.checkKey,run_underlying hu]
 exact this 9999
def aoc {t kt e:yC} {d:ve} {ok:Bool} {hp:Hp} {ct:Nat} {vx vk v:AV} {x k zero:yh} (hh:aQ O m S w hp ct) (hu:O.P.underlying t=some (.map kt e)) (hk:O.P.underlying kt=some d) (hd:Mr d=true)
  (hdk:fits d vk=true)
  (hz:(zeroValue e).run O.P w= .ok zero w) (hx:af O.ab m S w vx x) (hkr:af O.ab m S w vk k) {z:AV} (Tc:af O.ab m S w z zero)
  {r:Option AV}
  (hr:Ay hp vk vx=some r)
  (hv:(match r with | some u=>(bif ok then AV.au [u,.bool true] else u) | none=>(bif ok then AV.au [z,.bool false] else z))=v):
  ∃u,(Instr.lookup t x k ok).run O.P w= .ok u w/\af O.ab m S w v u:=by
 have fin:∀(u:AV) (uu:yh) (b:Bool),af O.ab m S w u uu->af O.ab m S w (bif ok then AV.au [u,.bool b] else u) (if ok then .tuple #[uu,.bool b] else uu):=by
  intro u uu b h
  cases ok with
  | true=>simp only [yt,xA,af,aq];exact ⟨_,rfl,_,_,rfl,h,_,_,rfl,rfl,rfl⟩
  | false=>simpa using h
 have body:∀(x':yh) (es:Array uo),((x'= .map none/\es=#[])\/∃b clock,x'= .map (some b)/\w.heap[b]? =some (.map es clock))->Found O.ab m S w (Instr.findNow d k es.toList 0) r->
   ∃u,(Instr.lookup t x' k ok).run O.P w= .ok u w/\af O.ab m S w v u:=by
  intro x' es hl hf
  cases r with
  | none=>
   have rJ:Instr.findNow d k es.toList 0=some none:=hf;refine ⟨if ok then .tuple #[zero,.bool false] else zero,?_,by rw [<-hv];exact fin z zero false Tc⟩
   rcases hl with ⟨rfl,rfl⟩ | ⟨b,clock,rfl,hb⟩
   ·have RH:Instr.findNow d k [] 0=some none:=rfl;simp [Instr.lookup,run_underlying hu,JV hk hd,Instr.findKey,run_underlying hk,RH,hz]
   ·simp [Instr.lookup,run_underlying hu,getObj,Sem.run,hb,JV hk hd,Instr.findKey,run_underlying hk,rJ,hz]
  | some v'=>
   obtain ⟨j,u,h1,h2⟩:=hf;refine ⟨if ok then .tuple #[u,.bool true] else u,?_,by rw [<-hv];exact fin v' u true h2⟩
   rcases hl with ⟨rfl,rfl⟩ | ⟨b,clock,rfl,hb⟩
   ·have RH:Instr.findNow d k [] 0=some none:=rfl;rw [show (#[]:Array uo).toList=[] from rfl,RH] at h1;cases h1
   ·simp [Instr.lookup,run_underlying hu,getObj,Sem.run,hb,JV hk hd,Instr.findKey,run_underlying hk,h1]
 cases vx<;>simp only [Ay,reduceCtorEq] at hr
 case jC=>
  simp only [yb] at hr;subst hr;simp only [af] at hx;subst hx;exact body _ #[] (.inl ⟨rfl,rfl⟩) rfl
 case map id=>
  simp only [af] at hx;obtain ⟨p,hm,rfl⟩:=hx
  split at hr
  case h_2=>cases hr
  rename_i Tb ks vs B8;obtain ⟨p',es,clock,fW,hb,h1,h2,_⟩:=hh.obj id _ _ B8 hm;rw [hm] at fW;injection fW with fW;subst fW
  exact body _ es (.inr ⟨_,_,rfl,hb⟩) (PG hkr hdk ks vs es.toList 0 r h1 h2 hr)
 case jo ks vs=>
  simp only [af] at hx;obtain ⟨b,es,clock,rfl,_,_,_,hb,h1,h2⟩:=hx;exact body _ es (.inr ⟨_,_,rfl,hb⟩) (PG hkr hdk ks vs es.toList 0 r h1 h2 hr)
end
end
section
open Go
def Gk:∀(k1 k2:List Nat) (a b:List AV) (r:Bool),dT (k1++k2) a b=some r->
  ∃r1 r2,dT k1 (a.take k1.length) (b.take k1.length)=some r1/\dT k2 (a.drop k1.length) (b.drop k1.length)=some r2/\r=(r1&&r2)
 | [],k2,a,b,r,h=>⟨true,r,by simp [dT],by simpa using h,by simp⟩
 | k::k1,k2,[],b,r,h=>by
  simp only [yX] at h;unfold dT at h
  grind
 | k::k1,k2,x::a,[],r,h=>by
  unfold dT at h
  grind
 | k::k1,k2,x::a,y::b,r,h=>by
  have step:∀(q:Bool) (f:Bool->Bool),(match dT (k1++k2) a b with | some r=>some (f r) | none=>none)=some q->∃r0,dT (k1++k2) a b=some r0/\q=f r0:=by grind
  unfold dT at h
  split at h
  ·grind
  ·rename_i e1 e2 e3;obtain ⟨rfl,rfl⟩:=e1;obtain ⟨rfl,rfl⟩:=e2;obtain ⟨rfl,rfl⟩:=e3;obtain ⟨r0,h0,rfl⟩:=step r _ h;obtain ⟨r1,r2,h1,h2,rfl⟩:=Gk k1 k2 _ _ r0 h0;exact ⟨_,r2,by simp only [yz,wg,dT,h1],by simpa using h2,(yah _ _ _).symm⟩
  ·rename_i e1 e2 e3;obtain ⟨rfl,rfl⟩:=e1;obtain ⟨rfl,rfl⟩:=e2;obtain ⟨rfl,rfl⟩:=e3
   split at h
   ·rename_i hk;obtain ⟨r0,h0,rfl⟩:=step r _ h;obtain ⟨r1,r2,h1,h2,rfl⟩:=Gk k1 k2 _ _ r0 h0;exact ⟨_,r2,by simp only [yz,wg,dT,h1,hk,xA],by simpa using h2,(yah _ _ _).symm⟩
   ·cases h
  ·rename_i e1 e2 e3;obtain ⟨rfl,rfl⟩:=e1;obtain ⟨rfl,rfl⟩:=e2;obtain ⟨rfl,rfl⟩:=e3;obtain ⟨r0,h0,rfl⟩:=step r _ h;obtain ⟨r1,r2,h1,h2,rfl⟩:=Gk k1 k2 _ _ r0 h0;exact ⟨_,r2,by simp only [yz,wg,dT,h1],by simpa using h2,(yah _ _ _).symm⟩
  ·cases h
def VH:∀(ks:List Nat) (a b:List AV) (r:Bool),dT ks a b=some r->a.length=ks.length/\b.length=ks.length
 | [],a,b,r,h=>by
  unfold dT at h
  grind
 | k::ks,[],b,r,h=>by
  unfold dT at h
  grind
 | k::ks,x::a,[],r,h=>by
  unfold dT at h
  grind
 | k::ks,x::a,y::b,r,h=>by
  have:∃r0,dT ks a b=some r0:=by
   cases he:dT ks a b with
   | some r0=>exact ⟨r0,rfl⟩
   | none=>unfold dT at h;split at h<;>simp_all
  obtain ⟨r0,h0⟩:=this
  have:=VH ks a b r0 h0
  simp [this]
def EB (P:y5) (t:yC) (x:yh) (xs:List yh):Prop:=(dF P t=some true/\x= .agg xs.toArray)\/(dF P t=some false/\xs=[x])
section
variable {P:y5} {ab:Nat->Nat} {m:Mp} {S:Nat->Prop} {w:yi}
def O0 {t:yC} {ag:Bool} (ha:dF P t=some ag):(isAgg t).run P w= .ok ag w:=by
 unfold dF at ha
 cases hu:P.underlying t with
 | none=>simp [hu] at ha
 | some d=>cases d<;>simp_all [isAgg,underlying]
def ajb {t:yC} {s o:Nat} {xs:List yh} (hz:cw P t=some s) (ha:∃ag,dF P t=some ag) (h1:dF P t=some false->s=1) (hl:o+s<=xs.length):
  ∃u,(part t xs.toArray o).run P w= .ok u w/\EB P t u ((xs.drop o).take s):=by
 obtain ⟨ag,ha⟩:=ha
 cases ag with
 | true=>
  refine ⟨.agg ((xs.drop o).take s).toArray,?_,.inl ⟨ha,rfl⟩⟩;simp [part,O0 ha,mZ hz,yan]
 | false=>
  have hs:=h1 ha;subst hs;have aR:o<xs.length:=by omega
  refine ⟨xs[o],?_,.inr ⟨ha,?_⟩⟩
  ·simp [part,O0 ha,xW aR]
  ·rw [List.drop_eq_getElem_cons aR,wg,ybU]
def ahc {n:Nat} {t:yC} {ks:List Nat} (h:kinds P n t=some ks):∃ag,dF P t=some ag/\(ag=false->ks.length=1):=by
 cases n with
 | zero=>simp [kinds] at h
 | succ n=>
  unfold kinds at h;unfold dF
  split at h<;>simp_all
  all_goals (rw [<-h];rfl)
def Q5 (P:y5) (ab:Nat->Nat) (m:Mp) (S:Nat->Prop) (w:yi) (n:Nat):Prop:=
 ∀(t:yC) (ks:List Nat),kinds P n t=some ks->P.stoodInHeld t=false->∀(d:Nat),n<=d->∀(xs ys:List yh) (cs du:List AV) (r:Bool) (x y:yh),
  aq ab m S w cs xs->aq ab m S w du ys->dT ks cs du=some r->EB P t x xs->EB P t y ys->(Op.equalIn d t x y).run P w= .ok r w
def WU {n:Nat} (ih:Q5 P ab m S w n) {t:yC} {ks:List Nat} {s o d:Nat} (hk:kinds P n t=some ks) (aO:P.stoodInHeld t=false) (hz:cw P t=some s) (hs:ks.length=s) (hd:n<=d)
  {xs ys:List yh} {cs du:List AV} (h1:aq ab m S w cs xs) (h2:aq ab m S w du ys) {r:Bool} (he:dT ks ((cs.drop o).take s) ((du.drop o).take s)=some r):
  ∃u u',(part t xs.toArray o).run P w= .ok u w/\(part t ys.toArray o).run P w= .ok u' w/\(Op.equalIn d t u u').run P w= .ok r w:=by
 obtain ⟨ag,ha,h1s⟩:=ahc hk;obtain ⟨l1,l2⟩:=VH _ _ _ _ he;have q1:=gH _ _ h1;have q2:=gH _ _ h2;simp only [yO,xO] at l1 l2;have mS:dF P t=some false->s=1:=fun h=>by
  grind
 have mR:o+s<=xs.length\/s=0:=by omega
 have rI:o+s<=ys.length\/s=0:=by omega
 have get:∀(zs:List yh),(o+s<=zs.length\/s=0)->∃u,(part t zs.toArray o).run P w= .ok u w/\EB P t u ((zs.drop o).take s):=by
  intro zs hl;rcases hl with hl | hl
  ·exact ajb hz ⟨ag,ha⟩ mS hl
  ·subst hl
   cases ag with
   | false=>have:=mS ha;omega
   | true=>
    refine ⟨.agg ((zs.drop o).take 0).toArray,?_,.inl ⟨ha,rfl⟩⟩;simp [part,O0 ha,mZ hz]
 obtain ⟨u,p1,v1⟩:=get xs mR;obtain ⟨u',p2,v2⟩:=get ys rI;exact ⟨u,u',p1,p2,ih t ks hk aO d hd _ _ _ _ r u u' (Dj s (Gz o h1)) (Dj s (Gz o h2)) he v1 v2⟩
def VI {n:Nat} (ih:Q5 P ab m S w n) {d:Nat} (hd:n<=d) {xs ys:List yh} {cs du:List AV} (h1:aq ab m S w cs xs) (h2:aq ab m S w du ys):
  ∀(fs:List tq) (o:Nat) (ks:List Nat) (r:Bool),Df P (fun u=>kinds P n u) fs o=some ks->dT ks (cs.drop o) (du.drop o)=some r->(Op.eqFields d xs.toArray ys.toArray fs).run P w= .ok r w
 | [],o,ks,r,h,he=>by
  simp only [Df,yb] at h;unfold dT at he
  split at he<;>simp_all [Op.eqFields]
 | f::fs,o,ks,r,h,he=>by
  simp only [Df] at h
  cases hk:kinds P n f.type with
  | none=>simp [hk] at h
  | some kf=>
   cases hz:cw P f.type with
   | none=>simp [hk,hz] at h
   | some s=>
    simp only [hk,hz] at h
    cases hc:(f.name != "_"&&yr f.offset o&&yr kf.length s&& !P.stoodInHeld f.type) with
    | false=>rw [hc] at h;cases h
    | true=>
     rw [hc] at h;simp only [yt] at h;simp only [yg,bne_iff_ne,uX] at hc;obtain ⟨⟨⟨hn,ho⟩,hl⟩,aO⟩:=hc;have ho:=yj ho;have hl:=yj hl
     cases hr:Df P (fun u=>kinds P n u) fs (o+s) with
     | none=>simp [hr] at h
     | some kr=>
      simp only [hr,yb] at h;subst h;obtain ⟨r1,r2,e1,e2,rfl⟩:=Gk _ _ _ _ _ he;rw [hl] at e1 e2;rw [ub,ub] at e2;obtain ⟨u,u',p1,p2,p3⟩:=WU ih (o:=o) hk aO hz hl hd h1 h2 e1;have rest:=VI ih hd h1 h2 fs (o+s) kr r2 hr e2;subst ho;simp only [Op.eqFields]
      cases r1 with
      | true=>simp [hn,p1,p2,p3,rest]
      | false=>simp [hn,p1,p2,p3]
def V6 {n:Nat} (ih:Q5 P ab m S w n) {d:Nat} (hd:n<=d) {xs ys:List yh} {cs du:List AV} (h1:aq ab m S w cs xs) (h2:aq ab m S w du ys)
  {e:yC} {ks:List Nat} {s:Nat} (hk:kinds P n e=some ks) (aO:P.stoodInHeld e=false) (hz:cw P e=some s) (hl:ks.length=s):
  ∀(k j:Nat) (r:Bool),dT (yy k ks).flatten (cs.drop (j*s)) (du.drop (j*s))=some r->(Op.eqItems d e s xs.toArray ys.toArray (List.range' j k)).run P w= .ok r w
 | 0,j,r,he=>by
  unfold dT at he
  split at he<;>simp_all [Op.eqItems]
 | k+1,j,r,he=>by
  obtain ⟨r1,r2,e1,e2,rfl⟩:=Gk _ _ _ _ _ he;rw [hl] at e1 e2;rw [ub,ub,show j*s+s=(j+1)*s by rw [wh,ybV]] at e2;obtain ⟨u,u',p1,p2,p3⟩:=WU ih (o:=j*s) hk aO hz hl hd h1 h2 e1;have rest:=V6 ih hd h1 h2 hk aO hz hl k (j+1) r2 e2;rw [List.range'_succ];simp only [Op.eqItems]
  cases r1 with
  | true=>simp [p1,p2,p3,rest]
  | false=>simp [p1,p2,p3]
def Qy:∀(n:Nat) (t:yC) (ks:List Nat),kinds P n t=some ks->P.stoodInHeld t=false->∀(d:Nat),n<=d->∀(xs ys:List yh) (cs du:List AV) (r:Bool) (x y:yh),
  aq ab m S w cs xs->aq ab m S w du ys->dT ks cs du=some r->EB P t x xs->EB P t y ys->(Op.equalIn d t x y).run P w= .ok r w
 | 0,t,ks,h,_,_,_,_,_,_,_,_,_,_,_,_,_,_,_=>by simp [kinds] at h
 | n+1,t,ks,h,aO,0,hd,_,_,_,_,_,_,_,_,_,_,_,_=>by omega
 | n+1,t,ks,h,aO,d+1,hd,xs,ys,cs,du,r,x,y,h1,h2,he,hx,hy=>by
  unfold kinds at h;have one:∀{k:Nat},ks=[k]->dF P t=some false->∃c c',cs=[c]/\du=[c']/\af ab m S w c x/\af ab m S w c' y:=by
   intro k hk ha;rcases hx with ⟨hx,_⟩ | ⟨_,rfl⟩
   ·grind
   rcases hy with ⟨hy,_⟩ | ⟨_,rfl⟩
   ·grind
   have l1:=gH _ _ h1;have l2:=gH _ _ h2
   match cs,du,l1,l2 with
   | [c],[c'],_,_=>
    simp only [aq] at h1 h2
    grind
  split at h
  ·rename_i hu;simp only [yb] at h;have ha:dF P t=some false:=by simp [dF,hu]
   obtain ⟨c,c',rfl,rfl,r1,r2⟩:=one h.symm ha;subst h;unfold dT at he
   split at he<;>simp_all [dT]
   subst he;simp only [af] at r1 r2;subst r1;subst r2;simp [Op.equalIn,run_underlying hu]
  ·rename_i k0 hu;simp only [yb] at h;have ha:dF P t=some false:=by simp [dF,hu]
   obtain ⟨c,c',rfl,rfl,r1,r2⟩:=one h.symm ha;subst h;unfold dT at he
   split at he<;>simp_all [dT]
   obtain ⟨hk,he⟩:=he;subst he;simp only [af] at r1 r2;subst r1;subst r2;simp [Op.equalIn,run_underlying hu]
  ·rename_i hu;simp only [yb] at h;have ha:dF P t=some false:=by simp [dF,hu]
   obtain ⟨c,c',rfl,rfl,r1,r2⟩:=one h.symm ha;subst h;unfold dT at he
   split at he<;>simp_all [dT]
   subst he;simp only [af] at r1 r2;obtain ⟨s,rfl,rfl⟩:=r1;obtain ⟨s',rfl,rfl⟩:=r2;simp only [Op.equalIn,Sem.run_bind,run_underlying hu,Result.andThen_ok,Sem.run_pure,WT];rfl
  ·rename_i fs hu;have ha:dF P t=some true:=by simp [dF,hu]
   rcases hx with ⟨_,rfl⟩ | ⟨hx,_⟩
   ·rcases hy with ⟨_,rfl⟩ | ⟨hy,_⟩
    ·have hf:P.fieldsOf t=fs:=by simp [Program.fieldsOf,hu]
     rw [run_equalIn_struct w d t _ _ (by rw [hf];exact hu) aO,hf]
     exact VI (Qy n) (by omega) h1 h2 fs.toList 0 ks r h (by simpa using he)
    ·rw [ha] at hy;cases hy
   ·rw [ha] at hx;cases hx
  ·rename_i k e hu;have ha:dF P t=some true:=by simp [dF,hu]
   rcases hx with ⟨_,rfl⟩ | ⟨hx,_⟩
   ·rcases hy with ⟨_,rfl⟩ | ⟨hy,_⟩
    ·cases hk:kinds P n e with
     | none=>simp [hk] at h
     | some ke=>
      cases hz:cw P e with
      | none=>simp [hk,hz] at h
      | some s=>
       simp only [hk,hz] at h
       cases hc:(yr ke.length s&& !P.stoodInHeld e) with
       | false=>rw [hc] at h;cases h
       | true=>
        rw [hc] at h;simp only [yt,yb] at h;subst h;simp only [yg,uX] at hc;have fo:=hz;unfold cw at fo
        cases hi:P.info? e with
        | none=>simp [hi] at fo
        | some i=>
         simp only [hi,yb] at fo;have pX:P.cellsOf e=s:=by simp [Program.cellsOf,hi,fo]
         rw [run_equalIn_array w d _ _ hu hi,pX,List.range_eq_range'];exact V6 (Qy n) (by omega) h1 h2 hk hc.2 hz (yj hc.1) k 0 r (by simpa using he)
    ·rw [ha] at hy;cases hy
   ·rw [ha] at hx;cases hx
  ·cases h
end
end
section
open Go
def dz {tm:Env} {hp:Hp} {v:AV} (h:bi tm hp bad=some v):False:=by simp [bad,bi] at h
section
variable {O:bk} {H:Hint} {m:Mp} {S:Nat->Prop} {w:yi} {tm:Env} {a:Act} {hp:Hp} {ct:Nat}
def alO {ab:Nat->Nat} {va vb v:AV} {x y:yh} (hx:af ab m S w va x) (hy:af ab m S w vb y) (h:VE.min2 va vb=some v):∃u,(Builtin.min2 x y).run O.P w= .ok u w/\af ab m S w v u:=by
 unfold VE.min2 at h
 split at h
 ·simp only [af] at hx hy;subst hx;subst hy;simp only [yb] at h;subst h;exact ⟨_,by simp only [Builtin.min2,Sem.run_pure];rfl,by simp only [af]⟩
 ·rename_i k p k' q;simp only [af] at hx hy;subst hx;subst hy
  cases ho:k.format.order p q with
  | none=>simp [ho] at h
  | some c=>cases c<;>(simp only [ho,yb] at h;subst h;exact ⟨_,by simp only [Builtin.min2,ho,Sem.run_pure];rfl,by simp only [af]⟩)
 ·cases h
def alP {ab:Nat->Nat} {va vb v:AV} {x y:yh} (hx:af ab m S w va x) (hy:af ab m S w vb y) (h:VE.max2 va vb=some v):∃u,(Builtin.max2 x y).run O.P w= .ok u w/\af ab m S w v u:=by
 unfold VE.max2 at h
 split at h
 ·simp only [af] at hx hy;subst hx;subst hy;simp only [yb] at h;subst h;exact ⟨_,by simp only [Builtin.max2,Sem.run_pure];rfl,by simp only [af]⟩
 ·rename_i k p k' q;simp only [af] at hx hy;subst hx;subst hy
  cases ho:k.format.order p q with
  | none=>simp [ho] at h
  | some c=>cases c<;>(simp only [ho,yb] at h;subst h;exact ⟨_,by simp only [Builtin.max2,ho,Sem.run_pure];rfl,by simp only [af]⟩)
 ·cases h
def P7 {ab:Nat->Nat} {f:AV->AV->Option AV} {g:yh->yh->Sem yh} (hfg:∀va vb v x y,af ab m S w va x->af ab m S w vb y->f va vb=some v->∃u,(g x y).run O.P w= .ok u w/\af ab m S w v u):
  ∀(l:List AV) (us:List yh) (va v:AV) (x:yh),af ab m S w va x->aq ab m S w l us->Ax f va l=some v->∃u,(us.foldlM g x).run O.P w= .ok u w/\af ab m S w v u
 | [],us,va,v,x,hx,hl,h=>by
  simp only [aq] at hl;subst hl;simp only [Ax,yb] at h;subst h;exact ⟨x,by simp,hx⟩
 | b::l,us,va,v,x,hx,hl,h=>by
  simp only [aq] at hl;obtain ⟨u,r,rfl,hu,hr⟩:=hl;simp only [Ax] at h
  cases hf:f va b with
  | none=>simp [hf] at h
  | some c=>
   simp only [hf] at h;obtain ⟨u1,h1,h2⟩:=hfg _ _ _ _ _ hx hu hf;obtain ⟨u2,h3,h4⟩:=P7 hfg l r c v u1 h2 hr h;exact ⟨u2,by simp [h1,h3],h4⟩
def Qz {t:yC} {vx v:AV} {x:yh} {ty:yC} (hh:aQ O m S w hp ct) (hx:af O.ab m S w vx x)
  {k:Nat} (hu:(k=0/\O.P.underlying t=some .string)\/(k=1/\∃e,O.P.underlying t=some (.slice e))\/(k=2/\∃kt e,O.P.underlying t=some (.map kt e)))
  (h:jk hp k vx=some v):∃u,(Builtin.len_ #[t] ty #[x]).run O.P w= .ok u w/\af O.ab m S w v u:=by
 rcases hu with ⟨rfl,hu⟩ | ⟨rfl,e,hu⟩ | ⟨rfl,kt,e,hu⟩
 all_goals cases vx<;>simp only [jk,reduceCtorEq] at h
 case inl.str s=>
  simp only [af] at hx;obtain ⟨b,rfl,rfl⟩:=hx;simp only [yb] at h;subst h;refine ⟨_,by simp [Builtin.len_,run_underlying hu];rfl,?_⟩
  simp only [af,goInt];rw [Lib.size_eq];simp
 case inr.inl.ae=>
  simp only [af] at hx;subst hx;simp only [yb] at h;subst h;exact ⟨_,by simp [Builtin.len_,run_underlying hu];rfl,by simp [af,goInt]⟩
 case inr.inl.aA ex n cs=>
  simp only [af] at hx;rcases hx with ⟨b,o,c,rfl,_⟩ | ⟨a,rfl,rfl,rfl⟩
  all_goals
   simp only [yb] at h;subst h;exact ⟨_,by simp [Builtin.len_,run_underlying hu];rfl,by simp [af,goInt]⟩
 case inr.inl.ay id o n=>
  simp only [af] at hx;obtain ⟨p,c,_,rfl,_⟩:=hx;simp only [yb] at h;subst h;exact ⟨_,by simp [Builtin.len_,run_underlying hu];rfl,by simp [af,goInt]⟩
 case inr.inr.jC=>
  simp only [af] at hx;subst hx;simp only [yb] at h;subst h;exact ⟨_,by simp [Builtin.len_,run_underlying hu];rfl,by simp [af,goInt]⟩
 case inr.inr.jo ks vs=>
  simp only [af] at hx;obtain ⟨b,es,clock,rfl,_,_,_,hb,h1,_⟩:=hx;simp only [yb] at h;subst h;refine ⟨_,by simp [Builtin.len_,run_underlying hu,getObj,Sem.run,hb];rfl,?_⟩
  have:=gH _ _ h1
  simp only [af,goInt];rw [<-this];simp
 case inr.inr.map id=>
  simp only [af] at hx;obtain ⟨p,hm,rfl⟩:=hx
  split at h
  case h_2=>cases h
  rename_i Tb ks vs B8;simp only [yb] at h;subst h;obtain ⟨p',es,clock,fW,hb,h1,_⟩:=hh.obj id _ _ B8 hm;rw [hm] at fW;injection fW with fW;subst fW
  refine ⟨_,by simp [Builtin.len_,run_underlying hu,getObj,Sem.run,hb];rfl,?_⟩
  have:=gH _ _ h1
  simp only [af,goInt];rw [<-this];simp
end
end
section
open Go
section
variable {O:bk} {H:Hint} {m:Mp} {S:Nat->Prop} {w:yi} {tm:Env} {a:Act} {hp:Hp} {ct:Nat}
def Dv {t:yC} {z:AV} (h:li O.P t=some z):∃v,(zeroValue t).run O.P w= .ok v w/\z=eb v:=by
 unfold li at h
 cases hi:O.P.info? t with
 | none=>simp [hi] at h
 | some i=>
  simp only [hi] at h
  cases hz:i.zero with
  | none=>simp [hz] at h
  | some v=>
   simp only [hz,yb] at h;exact ⟨v,by simp [zeroValue,typeInfo,hi,hz],h.symm⟩
def Reads (O:bk) (m:Mp) (S:Nat->Prop) (w:yi) (a:Act) (o:yZ) (v:AV):Prop:=
 ∃u,(execOp a.eval o).run O.P w= .ok (.value u) w/\af O.ab m S w v u
def jI {o:yZ} {v:AV} {s:Sem yh} (he:execOp a.eval o=(do pure (.value (<-s)):Sem yaB)) (h:∃u,s.run O.P w= .ok u w/\af O.ab m S w v u):Reads O m S w a o v:=by
 obtain ⟨u,h1,h2⟩:=h;exact ⟨u,by rw [he];simp [h1],h2⟩
def ajc {o:yZ} {op:wZ} {t ty:yC} {x y:xv} {k:Nat} {v:AV} (hH:eT O H) (ht:bP O m S w tm a.tmps) (ho:o.op= .binOp op t x y ty)
  (hv:bi tm hp (aS O.P H k o)=some v):Reads O m S w a o v:=by
 have rx:=cf hH ht x;have ry:=cf hH ht y;have guard:∀{u:yh},(∀xs ys,¬(a.eval x= .agg xs/\a.eval y= .agg ys))\/O.P.eqGuardType O.P.depth t=false->a.eval x≠.nilIface->(xT op t (a.eval x) (a.eval y)).run O.P w= .ok u w->
   (do eqGuard op t x y (a.eval x) (a.eval y);xT op t (a.eval x) (a.eval y):Sem yh).run O.P w= .ok u w:=by
  intro u h1 h2 h3
  simp only [Sem.run_bind,agb (P:=O.P) (w:=w) (t:=t) (op:=op) (x:=x) (y:=y) (h1.symm) h2,Result.andThen_ok,h3]
 have plain:bi tm hp (.bin op (aI H x) (aI H y))=some v->Reads O m S w a o v:=by
  intro hv;simp only [bi] at hv;obtain ⟨u,h1,h2⟩:=ai8 (P:=O.P) (t:=t) rx ry hv
  refine jI (s:=do eqGuard op t x y (a.eval x) (a.eval y);xT op t (a.eval x) (a.eval y)) (by simp only [execOp,ho]) ⟨u,guard (.inl ?_) ?_ h1,h2⟩
  ·rintro xs ys ⟨e1,e2⟩;rw [e1] at rx;unfold VE.binOp at hv
   split at hv
   ·rename_i h3 _;rw [h3] at rx;simp [af] at rx
   ·rename_i h3 _;rw [h3] at rx;simp [af] at rx
   ·rename_i h3 _;rw [h3] at rx;simp [af] at rx
   ·cases hv
  ·intro e1;rw [e1] at rx;unfold VE.binOp at hv
   split at hv
   ·rename_i h3 _;rw [h3] at rx;simp [af] at rx
   ·rename_i h3 _;rw [h3] at rx;simp [af] at rx
   ·rename_i h3 _;rw [h3] at rx;simp [af] at rx
   ·cases hv
 have other:∀(ne:Bool) (kd:VE.ND),(op= .eql/\ne=false\/op= .neq/\ne=true)->(∀r,jE kd (aw tm (aI H x)) (aw tm (aI H y))=some r->(Op.equal t (a.eval x) (a.eval y)).run O.P w= .ok r w/\
    ((∀xs ys,¬(a.eval x= .agg xs/\a.eval y= .agg ys))\/O.P.eqGuardType O.P.depth t=false)/\a.eval x≠.nilIface/\
    ∀q:Bool,(op= .eql->xT op t (a.eval x) (a.eval y)=(do pure (.bool (<-Op.equal t (a.eval x) (a.eval y)))))/\(op= .neq->xT op t (a.eval x) (a.eval y)=(do pure (.bool (!(<-Op.equal t (a.eval x) (a.eval y)))))))->
   bi tm hp (.eq ne kd (aI H x) (aI H y))=some v->Reads O m S w a o v:=by
  intro ne kd ja gL hv;simp only [bi] at hv
  cases he:jE kd (aw tm (aI H x)) (aw tm (aI H y)) with
  | none=>simp [he] at hv
  | some r=>
   simp only [he,yb] at hv;subst hv;obtain ⟨h1,h2,h3,h4⟩:=gL r he;obtain ⟨h5,h6⟩:=h4 true
   refine jI (s:=do eqGuard op t x y (a.eval x) (a.eval y);xT op t (a.eval x) (a.eval y)) (by simp only [execOp,ho]) ⟨.bool (ne !=r),guard h2 h3 ?_,by simp [af]⟩
   rcases ja with ⟨rfl,rfl⟩ | ⟨rfl,rfl⟩
   ·rw [h5 rfl];simp [h1]
   ·rw [h6 rfl];simp [h1]
 have pB:O.P.underlying t=some .bool->∀r,jE .b (aw tm (aI H x)) (aw tm (aI H y))=some r->∃p q,a.eval x= .bool p/\a.eval y= .bool q/\(Op.equal t (a.eval x) (a.eval y)).run O.P w= .ok r w:=by
  intro hu r he;cases hx:aw tm (aI H x)<;>cases hy:aw tm (aI H y)<;>rw [hx,hy] at he<;>simp only [jE,reduceCtorEq] at he
  rw [hx] at rx;rw [hy] at ry;simp only [af] at rx ry;simp only [yb] at he;refine ⟨_,_,rx,ry,?_⟩;rw [rx,ry,KI,<-he];exact an5 hu
 have pS:∀e,O.P.underlying t=some (.slice e)->∀r,jE .sl (aw tm (aI H x)) (aw tm (aI H y))=some r->∃p n c q n' c',a.eval x= .slice p n c/\a.eval y= .slice q n' c'/\(Op.equal t (a.eval x) (a.eval y)).run O.P w= .ok r w:=by
  intro e hu r he;have h1:=alL hu rx ry he;have sl:∀{v:AV} {u:yh},af O.ab m S w v u->(v= .ae\/(∃a b c,v= .aA a b c)\/∃a b c,v= .ay a b c)->∃p n c,u= .slice p n c:=by
   intro v u hr hv;rcases hv with rfl | ⟨_,_,_,rfl⟩ | ⟨_,_,_,rfl⟩
   ·simp only [af] at hr;exact ⟨_,_,_,hr⟩
   ·simp only [af] at hr;rcases hr with ⟨b,o,c,hr,_⟩ | ⟨_,hr,_⟩<;>exact ⟨_,_,_,hr⟩
   ·simp only [af] at hr;obtain ⟨b,c,_,hr,_⟩:=hr;exact ⟨_,_,_,hr⟩
  have cz:(aw tm (aI H x)= .ae\/(∃a b c,aw tm (aI H x)= .aA a b c)\/∃a b c,aw tm (aI H x)= .ay a b c)/\
    (aw tm (aI H y)= .ae\/(∃a b c,aw tm (aI H y)= .aA a b c)\/∃a b c,aw tm (aI H y)= .ay a b c):=by
   cases hx:aw tm (aI H x)<;>cases hy:aw tm (aI H y)<;>rw [hx,hy] at he<;>simp [jE] at he ⊢
  obtain ⟨p,n,c,e1⟩:=sl rx cz.1;obtain ⟨q,n',c',e2⟩:=sl ry cz.2;exact ⟨p,n,c,q,n',c',e1,e2,h1⟩
 have pF:∀ps rs vr,O.P.underlying t=some (.func ps rs vr)->∀r,jE .fn (aw tm (aI H x)) (aw tm (aI H y))=some r->
   ((a.eval x= .nilFunc\/∃f p q,a.eval x= .func f p q)/\(a.eval y= .nilFunc\/∃f p q,a.eval y= .func f p q))/\(Op.equal t (a.eval x) (a.eval y)).run O.P w= .ok r w:=by
  intro ps rs vr hu r he;have h1:=alM hu rx ry he;have sl:∀{v:AV} {u:yh},af O.ab m S w v u->(v= .iA\/(∃a b c,v= .fn a b c))->(u= .nilFunc\/∃f p q,u= .func f p q):=by
   intro v u hr hv;rcases hv with rfl | ⟨f,_,_,rfl⟩
   ·simp only [af] at hr;exact .inl hr
   ·cases f with
    | f g=>simp only [af] at hr;obtain ⟨b,c,hr,_⟩:=hr;exact .inr ⟨_,_,_,hr⟩
    | y l=>simp only [af] at hr;obtain ⟨b,_,hr⟩:=hr;exact .inr ⟨_,_,_,hr⟩
  have cz:(aw tm (aI H x)= .iA\/(∃a b c,aw tm (aI H x)= .fn a b c))/\(aw tm (aI H y)= .iA\/(∃a b c,aw tm (aI H y)= .fn a b c)):=by
   cases hx:aw tm (aI H x)<;>cases hy:aw tm (aI H y)<;>rw [hx,hy] at he<;>simp [jE] at he ⊢
  exact ⟨⟨sl rx cz.1,sl ry cz.2⟩,h1⟩
 have pA:∀ks,kinds O.P 20 t=some ks->dF O.P t=some true->O.P.stoodInHeld t=false->∀r,jE (.ag ks) (aw tm (aI H x)) (aw tm (aI H y))=some r->∃p q,a.eval x= .agg p/\a.eval y= .agg q/\(Op.equal t (a.eval x) (a.eval y)).run O.P w= .ok r w:=by
  intro ks hk ha aO r he;cases hx:aw tm (aI H x)<;>cases hy:aw tm (aI H y)<;>rw [hx,hy] at he<;>simp only [jE,reduceCtorEq] at he
  rw [hx] at rx;rw [hy] at ry;simp only [af] at rx ry;obtain ⟨p,e1,h1⟩:=rx;obtain ⟨q,e2,h2⟩:=ry;refine ⟨p,q,e1,e2,?_⟩;rw [e1,e2,KI];exact Qy 20 t ks hk aO 10000 (by omega) _ _ _ _ r _ _ h1 h2 he (.inl ⟨ha,by simp⟩) (.inl ⟨ha,by simp⟩)
 have eqs:∀(ne:Bool),(op= .eql/\ne=false\/op= .neq/\ne=true)->bi tm hp (nk O.P H ne op t x y)=some v->Reads O m S w a o v:=by
  intro ne ja hv;have agg:dF O.P t=some true->bi tm hp (og O.P H ne t x y)=some v->Reads O m S w a o v:=by
   intro ha hv;unfold og at hv
   cases hk:kinds O.P 20 t with
   | none=>rw [hk] at hv;exact (dz hv).elim
   | some ks=>
    simp only [hk] at hv
    cases hc:(O.P.stoodInHeld t||O.P.eqGuardType O.P.depth t) with
    | true=>rw [hc] at hv;exact (dz hv).elim
    | false=>
     rw [hc] at hv;simp only [yG] at hv;simp only [Bool.or_eq_false_iff] at hc;refine other ne (.ag ks) ja (fun r hr=>?_) hv;obtain ⟨p,q,e1,e2,h1⟩:=pA ks hk ha hc.1 r hr;refine ⟨h1,.inr hc.2,by rw [e1];simp,fun _=>?_⟩
     rw [e1,e2];exact ⟨fun e=>by subst e;rfl,fun e=>by subst e;rfl⟩
  unfold nk at hv
  split at hv
  ·exact plain hv
  ·exact plain hv
  ·exact plain hv
  ·rename_i hu;refine other ne .b ja (fun r hr=>?_) hv;obtain ⟨p,q,e1,e2,h1⟩:=pB hu r hr;refine ⟨h1,.inl (by rw [e1];simp),by rw [e1];simp,fun _=>?_⟩
   rw [e1,e2];exact ⟨fun e=>by subst e;rfl,fun e=>by subst e;rfl⟩
  ·rename_i e hu;refine other ne .sl ja (fun r hr=>?_) hv;obtain ⟨p,n,c,q,n',c',e1,e2,h1⟩:=pS e hu r hr;refine ⟨h1,.inl (by rw [e1];simp),by rw [e1];simp,fun _=>?_⟩
   rw [e1,e2];exact ⟨fun e=>by subst e;rfl,fun e=>by subst e;rfl⟩
  ·rename_i ps rs vr hu;refine other ne .fn ja (fun r hr=>?_) hv;obtain ⟨⟨e1,e2⟩,h1⟩:=pF ps rs vr hu r hr;refine ⟨h1,.inl ?_,?_,fun _=>?_⟩
   ·rcases e1 with e1 | ⟨_,_,_,e1⟩<;>rw [e1]<;>simp
   ·rcases e1 with e1 | ⟨_,_,_,e1⟩<;>rw [e1]<;>simp
   ·rcases e1 with e1 | ⟨_,_,_,e1⟩<;>rcases e2 with e2 | ⟨_,_,_,e2⟩<;>rw [e1,e2]<;>exact ⟨fun e=>by subst e;rfl,fun e=>by subst e;rfl⟩
  ·rename_i fs hu;exact agg (by simp [dF,hu]) hv
  ·rename_i k0 e hu;exact agg (by simp [dF,hu]) hv
  ·exact (dz hv).elim
 cases op
 case eql=>exact eqs false (.inl ⟨rfl,rfl⟩) (by simpa only [aS,ho] using hv)
 case neq=>exact eqs true (.inr ⟨rfl,rfl⟩) (by simpa only [aS,ho] using hv)
 all_goals exact plain (by simpa only [aS,ho] using hv)
end
end
section
open Go
section
variable {O:bk} {H:Hint} {m:Mp} {S:Nat->Prop} {w:yi} {tm:Env} {a:Act} {hp:Hp} {ct:Nat}
def Dc {o:yZ} {b:Builtin} {args:Array xv} {ts:Array yC} (ho:o.op= .call {callee:= .builtin b,args:=args,argTypes:=ts}):
  ∃cs,(execOp a.eval o).run O.P w=(builtin b ts o.type cs (args.map a.eval)).run O.P w:=by
 exact ⟨_,by simp only [execOp,ho,resolve,Sem.run_bind,Sem.run_pure,Result.andThen_ok,invoke];rfl⟩
def ahd {o:yZ} {c:Call} {k:Nat} {v:AV} (hH:eT O H) (ht:bP O m S w tm a.tmps) (hh:aQ O m S w hp ct) (ho:o.op= .call c)
  (hv:bi tm hp (aS O.P H k o)=some v):Reads O m S w a o v:=by
 obtain ⟨callee,args,ts⟩:=c;simp only [aS,ho] at hv
 split at hv
 ·cases CH:H.mode k<;>simp [CH,bi] at hv
 ·rename_i _ b
  split at hv
  ·have key:∀{bb:Bool} {sz by':Nat} {x y:X},bi tm hp (bif bb then .cQ sz by' x y else bad)=some v->False:=by
    intro bb sz by' x y h
    cases bb
    ·exact dz h
    ·simp [bi] at h
   split at hv
   ·split at hv
    ·exact (key hv).elim
    ·simp_all
   ·split at hv
    ·exact (key hv).elim
    ·simp_all
   ·simp_all
  ·rename_i x t fL mo;obtain ⟨al⟩:=args;obtain ⟨tl⟩:=ts;simp only at fL mo;subst fL;subst mo;obtain ⟨cs,ez⟩:=Dc (O:=O) (w:=w) (a:=a) ho;have fin:(∃u,(Builtin.len_ #[t] o.type #[a.eval x]).run O.P w= .ok u w/\af O.ab m S w v u)->Reads O m S w a o v:=by
    rintro ⟨u,h1,h2⟩;refine ⟨u,?_,h2⟩;rw [ez];simp [builtin,h1]
   split at hv
   ·rename_i n e hu;simp only [bi,aw,yb] at hv;subst hv;exact fin ⟨_,by simp [Builtin.len_,run_underlying hu];rfl,by simp [af,goInt]⟩
   ·rename_i hu;simp only [bi] at hv;exact fin (Qz hh (cf hH ht x) (.inl ⟨rfl,hu⟩) hv)
   ·rename_i e hu;simp only [bi] at hv;exact fin (Qz hh (cf hH ht x) (.inr (.inl ⟨rfl,e,hu⟩)) hv)
   ·rename_i kt e hu;simp only [bi] at hv;exact fin (Qz hh (cf hH ht x) (.inr (.inr ⟨rfl,kt,e,hu⟩)) hv)
   ·exact (dz hv).elim
  ·split at hv
   ·split at hv
    ·simp [bi] at hv
    ·exact (dz hv).elim
   ·exact (dz hv).elim
  ·simp only [bi] at hv;obtain ⟨cs,ez⟩:=Dc (O:=O) (w:=w) (a:=a) ho;have hl:=BQ hH ht args.toList
   cases hx:cZ tm (gK H args.toList) with
   | nil=>simp [hx] at hv
   | cons c r=>
    simp only [hx] at hv;rw [hx] at hl;simp only [aq] at hl;obtain ⟨u,us,h1,h2,h3⟩:=hl;obtain ⟨q,h4,h5⟩:=P7 (O:=O) (g:=Builtin.min2) (fun va vb v x y hx hy h=>alO hx hy h) r us c v u h2 h3 hv;refine ⟨q,?_,h5⟩;rw [ez];simp [builtin,Builtin.min_,h1,h4]
  ·simp only [bi] at hv;obtain ⟨cs,ez⟩:=Dc (O:=O) (w:=w) (a:=a) ho;have hl:=BQ hH ht args.toList
   cases hx:cZ tm (gK H args.toList) with
   | nil=>simp [hx] at hv
   | cons c r=>
    simp only [hx] at hv;rw [hx] at hl;simp only [aq] at hl;obtain ⟨u,us,h1,h2,h3⟩:=hl;obtain ⟨q,h4,h5⟩:=P7 (O:=O) (g:=Builtin.max2) (fun va vb v x y hx hy h=>alP hx hy h) r us c v u h2 h3 hv;refine ⟨q,?_,h5⟩;rw [ez];simp [builtin,Builtin.max_,h1,h4]
  ·exact (dz hv).elim
 ·exact (dz hv).elim
def V7 {kt:yC} {kk:Nat} {vk:AV} (hk:keyOf O.P kt=some kk) (h:sG kk vk=true):∃d,O.P.underlying kt=some d/\Mr d=true/\fits d vk=true:=by
 unfold keyOf at hk
 split at hk
 ·rename_i hu;simp only [yb] at hk;subst hk;refine ⟨_,hu,rfl,?_⟩;cases vk<;>simp_all [sG,fits]
 ·rename_i hu;simp only [yb] at hk;subst hk;refine ⟨_,hu,rfl,?_⟩;cases vk<;>simp_all [sG,fits]
 ·rename_i hu;simp only [yb] at hk;subst hk;refine ⟨_,hu,rfl,?_⟩;cases vk<;>simp_all [sG,fits]
 ·cases hk
def YK {o:yZ} {k:Nat} {v:AV} (hH:eT O H) (ht:bP O m S w tm a.tmps) (hh:aQ O m S w hp ct)
  (hv:bi tm hp (aS O.P H k o)=some v):Reads O m S w a o v:=by
 cases ho:o.op with
 | call c=>exact ahd hH ht hh ho hv
 | binOp op t x y ty=>exact ajc hH ht ho hv
 | move x=>
  simp only [aS,ho,bi,yb] at hv;subst hv;exact ⟨_,by simp only [execOp,ho,Sem.run_pure],cf hH ht x⟩
 | assign x=>
  simp only [aS,ho,bi,yb] at hv;subst hv;exact ⟨_,by simp only [execOp,ho,Sem.run_pure],cf hH ht x⟩
 | pick c x y=>
  simp only [aS,ho,bi] at hv;have rc:=cf hH ht c;cases hc:aw tm (aI H c)<;>rw [hc] at hv<;>simp only [reduceCtorEq] at hv
  rename_i b;rw [hc] at rc;simp only [af] at rc;simp only [yb] at hv;subst hv
  cases b with
  | true=>exact ⟨a.eval x,by simp [execOp,ho,rc,asBool],cf hH ht x⟩
  | false=>exact ⟨a.eval y,by simp [execOp,ho,rc,asBool],cf hH ht y⟩
 | load t x=>
  simp only [aS,ho] at hv
  split at hv
  ·rename_i s ag hz ha;simp only [bi] at hv;exact jI (by simp only [execOp,ho]) (aqN hh hz ha (cf hH ht x) hv)
  ·exact (dz hv).elim
 | fieldAddr t x i=>
  simp only [aS,ho] at hv
  split at hv
  ·rename_i fs hu
   split at hv
   ·rename_i f hf
    split at hv
    ·rename_i s hz;simp only [bi] at hv;exact jI (by simp only [execOp,ho]) (an6 hu hf hz (cf hH ht x) hv)
    ·exact (dz hv).elim
   ·exact (dz hv).elim
  ·exact (dz hv).elim
 | field t x i=>
  simp only [aS,ho] at hv
  split at hv
  ·rename_i fs hu
   split at hv
   ·rename_i f hf
    split at hv
    ·rename_i s ag hz ha;simp only [bi] at hv;exact jI (by simp only [execOp,ho]) (an7 hu hf hz ha (cf hH ht x) hv)
    ·exact (dz hv).elim
   ·exact (dz hv).elim
  ·exact (dz hv).elim
 | nilCheck x=>
  simp only [aS,ho,bi] at hv;have rx:=cf hH ht x;cases hx:aw tm (aI H x)<;>rw [hx] at hv rx<;>simp only [reduceCtorEq,yb] at hv
  ·subst hv;have r':=rx;simp only [af] at r';obtain ⟨p,_,e⟩:=r';exact ⟨a.eval x,by simp only [execOp,ho,e,Sem.run_pure],rx⟩
  ·subst hv;have r':=rx;simp only [af] at r';obtain ⟨b,o',e,_⟩:=r';exact ⟨a.eval x,by simp only [execOp,ho,e,Sem.run_pure],rx⟩
  ·subst hv;rename_i f _ _
   cases f with
   | f g=>
    have r':=rx;simp only [af] at r';obtain ⟨fi,ca,e,_⟩:=r';exact ⟨a.eval x,by simp only [execOp,ho,e,Sem.run_pure],rx⟩
   | y l=>
    have r':=rx;simp only [af] at r';obtain ⟨p,_,e⟩:=r';exact ⟨a.eval x,by simp only [execOp,ho,e,Sem.run_pure],rx⟩
 | unOp op t x=>
  simp only [aS,ho,bi] at hv;exact jI (by simp only [execOp,ho]) (alN (cf hH ht x) hv)
 | convert s d x=>
  simp only [aS,ho] at hv
  split at hv
  ·rename_i k1 k2 hs hd;simp only [bi] at hv;exact jI (by simp only [execOp,ho]) (XJ hd (.inl ⟨_,hs⟩) (cf hH ht x) hv)
  ·rename_i k1 k2 hs hd;simp only [bi] at hv;exact jI (by simp only [execOp,ho]) (XJ hd (.inr ⟨_,hs⟩) (cf hH ht x) hv)
  ·rename_i k1 k2 hs hd;simp only [bi] at hv;exact jI (by simp only [execOp,ho]) (XK hd (.inl ⟨_,hs⟩) (cf hH ht x) hv)
  ·rename_i k1 k2 hs hd;simp only [bi] at hv;exact jI (by simp only [execOp,ho]) (XK hd (.inr ⟨_,hs⟩) (cf hH ht x) hv)
  ·rename_i hs hd;simp only [bi] at hv;exact jI (by simp only [execOp,ho]) (ai9 hd hs (cf hH ht x) hv)
  ·exact (dz hv).elim
 | makeFunc fn first cap=>
  cases fn with
  | func f=>
   simp only [aS,ho] at hv
   split at hv
   ·rename_i g hg;simp only [bi,yb] at hv;subst hv;refine ⟨.func (.func f) (first.map a.eval) (cap.map a.eval),by simp [execOp,ho,Instr.makeFunc],?_⟩;simp only [af];exact ⟨_,_,by rw [hH f g hg],by simpa using BQ hH ht first.toList,by simpa using BQ hH ht cap.toList⟩
   ·exact (dz hv).elim
  | _=>simp only [aS,ho] at hv;exact (dz hv).elim
 | slice t x lo hi mx=>
  cases mx with
  | some q=>simp only [aS,ho] at hv;exact (dz hv).elim
  | none=>
   simp only [aS,ho] at hv
   split at hv
   ·rename_i hu;simp only [bi] at hv;exact jI (by simp only [execOp,ho];rfl) (ahb hH ht hu (cf hH ht x) hv)
   ·rename_i e hu
    split at hv
    ·rename_i s hz;simp only [bi] at hv;exact jI (by simp only [execOp,ho];rfl) (aja hH ht hu hz hh (cf hH ht x) hv)
    ·exact (dz hv).elim
   ·split at hv
    ·simp only [bi] at hv;cases hx:aw tm (aI H x)<;>rw [hx] at hv<;>simp [fg] at hv
    ·exact (dz hv).elim
   ·exact (dz hv).elim
 | indexAddr t x i=>
  simp only [aS,ho] at hv
  split at hv
  ·rename_i e hu
   split at hv
   ·rename_i s hz;simp only [bi] at hv
    cases hk:dB (aw tm (aI H i)) with
    | none=>simp [hk] at hv
    | some j=>
     simp only [hk] at hv;exact jI (by simp only [execOp,ho]) (an8 hu hz (cf hH ht x) (cf hH ht i) hk hv)
   ·exact (dz hv).elim
  ·rename_i n e hu
   split at hv
   ·rename_i s hz;simp only [bi] at hv
    cases hk:dB (aw tm (aI H i)) with
    | none=>simp [hk] at hv
    | some j=>
     simp only [hk] at hv;exact jI (by simp only [execOp,ho]) (an9 hu hz (cf hH ht x) (cf hH ht i) hk hv)
   ·exact (dz hv).elim
  ·exact (dz hv).elim
 | index t x i=>
  simp only [aS,ho] at hv
  split at hv
  ·rename_i hu;simp only [bi] at hv
   cases hk:dB (aw tm (aI H i)) with
   | none=>simp [hk] at hv
   | some j=>
    simp only [hk] at hv;exact jI (by simp only [execOp,ho]) (aob hu (cf hH ht x) (cf hH ht i) hk hv)
  ·rename_i n e hu
   split at hv
   ·rename_i s ag hz ha;simp only [bi] at hv
    cases hk:dB (aw tm (aI H i)) with
    | none=>simp [hk] at hv
    | some j=>
     simp only [hk] at hv;exact jI (by simp only [execOp,ho]) (aoa hu hz ha (cf hH ht x) (cf hH ht i) hk hv)
   ·exact (dz hv).elim
  ·exact (dz hv).elim
 | lookup t x i ok=>
  simp only [aS,ho] at hv
  split at hv
  ·rename_i kt e hu
   split at hv
   ·rename_i kk z pZ hz;simp only [bi] at hv
    cases hf:sG kk (aw tm (aI H i)) with
    | false=>simp [hf] at hv
    | true=>
     simp only [hf,yt] at hv;obtain ⟨d,jW,gP,Td⟩:=V7 pZ hf;obtain ⟨zv,lH,rfl⟩:=Dv (w:=w) hz
     cases hr:Ay hp (aw tm (aI H i)) (aw tm (aI H x)) with
     | none=>simp [hr] at hv
     | some r=>
      refine jI (by simp only [execOp,ho]) (aoc (ok:=ok) (r:=r) (z:=eb zv) hh hu jW gP Td lH (cf hH ht x) (cf hH ht i) (Lc zv) hr ?_);cases r<;>simpa [hr] using hv
   ·exact (dz hv).elim
  ·exact (dz hv).elim
 | extract x i=>
  simp only [aS,ho,bi] at hv;have rx:=cf hH ht x;cases hx:aw tm (aI H x)<;>rw [hx] at hv rx<;>simp only [reduceCtorEq] at hv
  simp only [af] at rx;obtain ⟨xs,e,hr⟩:=rx;obtain ⟨u,h1,h2⟩:=PF hr hv;refine ⟨u,?_,h2⟩;have A9:xs[i]? =some u:=by simpa using h1
  simp [execOp,ho,e,Instr.extract,A9]
 | build t parts=>
  simp only [aS,ho] at hv
  split at hv
  ·rename_i fs z hu hz
   split at hv
   ·rename_i pl aso;have mQ:=run_places (P:=O.P) w fs.toList pl aso
    split at hv
    case h_2=>exact (dz hv).elim
    rename_i ps eN;simp only [bi] at hv
    cases hf:fill tm z ps with
    | none=>simp [hf] at hv
    | some cs=>
     simp only [hf,yb] at hv;subst hv;obtain ⟨zv,lH,iI⟩:=Dv (w:=w) hz;have zA:aq O.ab m S w z zv.cells.toList:=by
      have:=By (ab:=O.ab) (m:=m) (S:=S) (w:=w) zv
      rw [<-iI] at this;exact this
     obtain ⟨out,h1,h2⟩:=Lf hH ht (place:=fun i=>pl[i]?) parts.toList ps z cs zv.cells eN zA hf;refine ⟨.agg out,?_,by simp only [af];exact ⟨out,rfl,h2⟩⟩
     have hm:(Array.mapM (fun f=>Functor.map (Prod.mk f.offset) (vt f.type)) fs:Sem (Array (Nat×Nat))).run O.P w= .ok pl.toArray w:=by
      rw [Array.mapM_eq_mapM_toList];simp [mQ]
     simp [execOp,ho,Instr.build,lH,run_underlying hu,hm,h1]
   ·exact (dz hv).elim
  ·rename_i n e z hu hz
   split at hv
   ·rename_i s hs
    split at hv
    ·rename_i ps eN;simp only [bi] at hv
     cases hf:fill tm z ps with
     | none=>simp [hf] at hv
     | some cs=>
      simp only [hf,yb] at hv;subst hv;obtain ⟨zv,lH,iI⟩:=Dv (w:=w) hz;have zA:aq O.ab m S w z zv.cells.toList:=by
       have:=By (ab:=O.ab) (m:=m) (S:=S) (w:=w) zv
       rw [<-iI] at this;exact this
      obtain ⟨out,h1,h2⟩:=Lf hH ht (place:=fun i=>some (i*s,s)) parts.toList ps z cs zv.cells eN zA hf;refine ⟨.agg out,?_,by simp only [af];exact ⟨out,rfl,h2⟩⟩
      simp [execOp,ho,Instr.build,lH,run_underlying hu,mZ hs,h1]
    ·exact (dz hv).elim
   ·exact (dz hv).elim
  ·exact (dz hv).elim
 | alloc t=>simp only [aS,ho] at hv;split at hv<;>simp [bi,bad] at hv
 | box t x=>simp only [aS,ho] at hv;split at hv<;>simp [bi,bad] at hv
 | buildSlice t n parts=>
  simp only [aS,ho] at hv
  split at hv
  ·split at hv
   ·rename_i s z _ _
    cases hc:yF (n*s) 16777216 with
    | false=>rw [hc] at hv;exact (dz hv).elim
    | true=>
     rw [hc] at hv;simp only [yt] at hv
     split at hv
     ·simp [bi] at hv
     ·exact (dz hv).elim
   ·exact (dz hv).elim
  ·exact (dz hv).elim
 | makeMap t r=>
  cases r<;>simp only [aS,ho] at hv
  ·repeat' split at hv
   all_goals simp [bi,bad] at hv
  ·exact (dz hv).elim
 | makeSlice t l c=>
  simp only [aS,ho] at hv
  repeat' split at hv
  all_goals simp [bi,bad] at hv
 | insert t x k y=>
  simp only [aS,ho] at hv
  repeat' split at hv
  all_goals simp [bi,bad] at hv
 | mapUpdate t x k y=>
  simp only [aS,ho] at hv
  repeat' split at hv
  all_goals simp [bi,bad] at hv
 | store t x y=>simp only [aS,ho] at hv;split at hv<;>simp [bi,bad] at hv
 | range t x=>simp only [aS,ho] at hv;split at hv<;>simp [bi,bad] at hv
 | next x b=>cases b<;>simp [aS,ho,bi,bad] at hv
 | _=>simp [aS,ho,bi,bad] at hv
end
end
section
open Go
def fj (m:Mp) (id:Nat) (p:Pl):Mp:=fun i=>if i=id then some p else m i
def dE {m:Mp} {id:Nat} {p:Pl}:fj m id p id=some p:=by simp [fj]
def dO {m:Mp} {id i:Nat} {p:Pl} (h:i≠id):fj m id p i=m i:=by simp [fj,h]
section
variable {O:bk} {m:Mp} {S:Nat->Prop} {w:yi} {hp:Hp} {ct:Nat}
def cY (m m':Mp):Prop:=∀id p,m id=some p->m' id=some p
def cY.refl {m:Mp}:cY m m:=fun _ _ h=>h
def cY.trans {m m' I9:Mp} (h:cY m m') (k:cY m' I9):cY m I9:=fun id p hp=>k id p (h id p hp)
def jg {i:Nat} (h:m i=none) {p:Pl}:cY m (fj m i p):=by
 intro id q hq;rw [dO]
 ·grind
 ·grind
def z6 {tm:Env} {tmps:Array yh} {m':Mp} {S':Nat->Prop} {w':yi} (hm:∀id p,m id=some p->m' id=some p) (hS:∀b,S b->S' b) (hw:fE S w w')
  (h:bP O m S w tm tmps):bP O m' S' w' tm tmps:=fun i=>kU hm hS hw _ _ (h i)
def alloc_old {o:tZ} {b:Nat} (hb:b<w.heap.size):(w.alloc o).heap[b]? =w.heap[b]? :=RowKit.Below.heap_alloc w o b hb
def qC {m':Mp} {S':Nat->Prop} {w':yi} {id:Nat} {o:Obj} (hm:∀id p,m id=some p->m' id=some p) (hS:∀b,S b->S' b) (hw:fE S w w') (hb:∀p,m id=some p->w'.heap[p.b]? =w.heap[p.b]?)
  (hn:∀p,m id=some p->S' p.b->S p.b) (h:eJ O m S w id o):eJ O m' S' w' id o:=by
 have rowAt:∀(cs:List AV) (b k:Nat),w'.heap[b]? =w.heap[b]? ->bI O.ab m S w cs b k->bI O.ab m' S' w' cs b k:=by
  intro cs
  induction cs with
  | nil=>intro b k _ _;simp only [bI]
  | cons c cs ih=>
   intro b k rK hr;obtain ⟨⟨u,h1,h2⟩,h3⟩:=hr;exact ⟨⟨u,(JY rK).trans h1,kU hm hS hw _ _ h2⟩,ih b (k+1) rK h3⟩
 cases o with
 | cells rw pu ex sz cs=>
  obtain ⟨p,arr,t,h1,h2,h3,h4,h5,h6,h7,h8,h9,iJ⟩:=h;exact ⟨p,arr,t,hm _ _ h1,(hb p h1).trans h2,h3,h4,h5,h6,rowAt cs p.b p.o (hb p h1) h7,h8,fun hr hs=>h9 hr (hn p h1 hs),fun hr=>hS _ (iJ hr)⟩
 | mp rw ks vs=>
  obtain ⟨p,es,clock,h1,h2,h3,h4,h5,h6⟩:=h;exact ⟨p,es,clock,hm _ _ h1,(hb p h1).trans h2,gF hm hS hw _ _ h3,gF hm hS hw _ _ h4,fun hr hs=>h5 hr (hn p h1 hs),fun hr=>hS _ (h6 hr)⟩
 | si s pos=>
  obtain ⟨p,t,h1,h2,h3,h4⟩:=h;exact ⟨p,t,hm _ _ h1,(hb p h1).trans h2,h3,fun hs=>h4 (hn p h1 hs)⟩
 | lp tm ps as_ body st pe=>
  obtain ⟨p,l,hi,h1,h2,h3,h4,h5,h6,h7,h8⟩:=h;exact ⟨p,l,hi,hm _ _ h1,(hb p h1).trans h2,fun hs=>h3 (hn p h1 hs),h4,h5,h6,z6 hm hS hw h7,h8⟩
def fC {id i:Nat} {o:Obj}:ak ((id,o)::hp) i=if id=i then some o else ak hp i:=by
 simp only [ak]
 simp_all
def Gt (hh:aQ O m S w hp ct) (g:tZ):fE S w (w.alloc g):=fun b hb=>alloc_old (hh.slt b hb)
def jb:Obj->Obj->Prop
 | .cells rw pu ex sz cs,o'=>∃dW,o'= .cells dW pu ex sz cs/\(dW=true->rw=true)
 | .mp rw ks vs,o'=>∃dW,o'= .mp dW ks vs/\(dW=true->rw=true)
 | .si s pos,o'=>o'= .si s pos
 | .lp tm ps as_ body st pe,o'=>o'= .lp tm ps as_ body st pe
def jb.refl:∀o,jb o o
 | .cells rw _ _ _ _=>⟨rw,rfl,fun h=>h⟩
 | .mp rw _ _=>⟨rw,rfl,fun h=>h⟩
 | .si _ _=>rfl
 | .lp _ _ _ _ _ _=>rfl
def jb.trans {a b c:Obj} (h:jb a b) (k:jb b c):jb a c:=by
 cases a with
 | cells rw pu ex sz cs=>
  obtain ⟨r1,rfl,h1⟩:=h;obtain ⟨r2,rfl,h2⟩:=k;exact ⟨r2,rfl,fun h=>h1 (h2 h)⟩
 | mp rw ks vs=>
  obtain ⟨r1,rfl,h1⟩:=h;obtain ⟨r2,rfl,h2⟩:=k;exact ⟨r2,rfl,fun h=>h1 (h2 h)⟩
 | si s pos=>simp only [jb] at h;subst h;exact k
 | lp tm ps as_ body st pe=>simp only [jb] at h;subst h;exact k
def cO (hp an:Hp):Prop:=∀id o,ak hp id=some o->∃o',ak an id=some o'/\jb o o'
def cO.refl {hp:Hp}:cO hp hp:=fun _ o h=>⟨o,h,jb.refl o⟩
def cO.trans {a b c:Hp} (h:cO a b) (k:cO b c):cO a c:=fun id o ho=>
 let ⟨o1,h1,l1⟩:=h id o ho
 let ⟨o2,h2,l2⟩:=k id o1 h1
 ⟨o2,h2,l1.trans l2⟩
def iv:Obj->Prop
 | .cells rw _ _ _ _=>rw=false
 | .mp rw _ _=>rw=false
 | _=>False
def YL {an:Hp} {aV:Nat} (hh:aQ O m S w hp ct) (hl:cO hp an) (hd:∀id o p,ak an id=some o->m id=some p->∃o',ak hp id=some o') (eZ:ct<=aV) (asp:∀id o,ak an id=some o->id<aV):
  ∃S',aQ O m S' w an aV/\(∀b,S b->S' b)/\∀b,S' b->S b\/dM m hp b:=by
 refine ⟨fun b=>S b\/∃id p o,m id=some p/\p.b=b/\ak an id=some o/\iv o,?_,fun b h=> .inl h,?_⟩
 ·refine ⟨?_,fun id p h=>yu (hh.lt id p h) eZ,?_,?_,hh.blt,hh.low,hh.lA,hh.fK,asp⟩
  ·intro id o' p iG hm;obtain ⟨o,ho⟩:=hd id o' p iG hm;obtain ⟨Tf,h1,h2⟩:=hl id o ho;rw [iG] at h1;injection h1 with h1
   subst h1;have h3:=hh.obj id o p ho hm;have hS:∀b,S b->(S b\/∃id p o,m id=some p/\p.b=b/\ak an id=some o/\iv o):=fun b h=> .inl h
   have nP:∀q,m id=some q->(∃id p o,m id=some p/\p.b=q.b/\ak an id=some o/\iv o)->iv o':=by
    rintro q hq ⟨j,pj,oj,Jb,hj2,hj3,hj4⟩;obtain ⟨Jc,hj5⟩:=hd j oj pj hj3 Jb
    have:=hh.inj id j o Jc q pj ho hj5 hq Jb hj2.symm
    grind
   have aO:fE S w w:=fun _ _=>rfl
   cases o with
   | cells rw pu ex sz cs=>
    obtain ⟨dW,rfl,nQ⟩:=h2;obtain ⟨q,arr,t,h1,h2,h3,h4,h5,h6,h7,h8,h9,iJ⟩:=h3;refine ⟨q,arr,t,h1,h2,h3,h4,h5,h6,?_,h8,?_,?_⟩
    ·clear h4 h6 h8;revert h7;generalize q.o=k
     induction cs generalizing k with
     | nil=>intro _;simp only [bI]
     | cons c cs ih=>
      intro hr;simp only [bI] at hr ⊢;obtain ⟨⟨u,g1,g2⟩,g3⟩:=hr
      exact ⟨⟨u,g1,kU (fun _ _ h=>h) hS aO _ _ g2⟩,by
       have CF:∀(cs:List AV) (b k:Nat),bI O.ab m S w cs b k->bI O.ab m (fun b=>S b\/∃id p o,m id=some p/\p.b=b/\ak an id=some o/\iv o) w cs b k:=by
        intro cs
        induction cs with
        | nil=>intro b k _;simp only [bI]
        | cons c cs ih=>
         intro b k hr;simp only [bI] at hr ⊢;obtain ⟨⟨u,g1,g2⟩,g3⟩:=hr;exact ⟨⟨u,g1,kU (fun _ _ h=>h) hS aO _ _ g2⟩,ih b (k+1) g3⟩
       exact CF _ _ _ g3⟩
    ·rintro hr (hs | hs)
     ·grind
     ·have:=nP q h1 hs
      simp only [iv] at this
      grind
    ·intro hr;exact .inr ⟨id,q,_,h1,rfl,iG,hr⟩
   | mp rw ks vs=>
    obtain ⟨dW,rfl,nQ⟩:=h2;obtain ⟨q,es,clock,h1,h2,h3,h4,h5,h6⟩:=h3;refine ⟨q,es,clock,h1,h2,gF (fun _ _ h=>h) hS aO _ _ h3,gF (fun _ _ h=>h) hS aO _ _ h4,?_,?_⟩
    ·rintro hr (hs | hs)
     ·grind
     ·have:=nP q h1 hs
      simp only [iv] at this
      grind
    ·intro hr;exact .inr ⟨id,q,_,h1,rfl,iG,hr⟩
   | si s pos=>
    simp only [jb] at h2;subst h2;refine qC (fun _ _ h=>h) hS aO (fun _ _=>rfl) (fun q hq hs=>?_) h3;rcases hs with hs | hs
    ·grind
    ·exact (nP q hq hs).elim
   | lp tm ps as_ body st pe=>
    simp only [jb] at h2;subst h2;refine qC (fun _ _ h=>h) hS aO (fun _ _=>rfl) (fun q hq hs=>?_) h3;rcases hs with hs | hs
    ·grind
    ·exact (nP q hq hs).elim
  ·intro i j oi oj pi pj hi hj bD fX e;obtain ⟨Jd,cI⟩:=hd i oi pi hi bD;obtain ⟨Jc,kJ⟩:=hd j oj pj hj fX;exact hh.inj i j Jd Jc pi pj cI kJ bD fX e
  ·rintro b (hb | ⟨id,p,o,h1,rfl,_,_⟩)
   ·exact hh.slt b hb
   ·exact hh.blt id p h1
 ·rintro b (hb | ⟨id,p,o,h1,rfl,h3,_⟩)
  ·exact .inl hb
  ·obtain ⟨o',iG⟩:=hd id o p h3 h1;exact .inr ⟨id,o',p,iG,h1,rfl⟩
def PH {i:Nat} (hh:aQ O m S w hp ct) (hi:m i=none) (EC:i<ct) {g:tZ} {p:Pl} (hb:p.b=w.heap.size)
  (hf:∀o,ak hp i=some o->(eJ O (fj m i p) S (w.alloc g) i o/\¬iv o)\/
   (iv o/\eJ O (fj m i p) (fun b=>S b\/b=w.heap.size) (w.alloc g) i o)):
  ∃S',aQ O (fj m i p) S' (w.alloc g) hp ct/\(∀b,S b->S' b)/\∀b,S' b->S b\/b=w.heap.size:=by
 have ek:(w.alloc g).heap.size=w.heap.size+1:=by simp
 have aY:O.w0.heap.size<=w.heap.size:=hh.fK;have gen:∀S':Nat->Prop,(∀b,S b->S' b)->(∀b,S' b->S b\/b=w.heap.size)->(∀o,ak hp i=some o->eJ O (fj m i p) S' (w.alloc g) i o)->aQ O (fj m i p) S' (w.alloc g) hp ct:=by
  intro S' h1 h2 h3;have Je:∀id q,m id=some q->¬q.b=w.heap.size:=fun id q hq=>by have:=hh.blt id q hq;omega
  refine ⟨?_,?_,?_,?_,?_,?_,?_,?_,hh.aR⟩
  ·intro id o q ho hm;by_cases hc:id=i
   ·grind
   ·rw [dO hc] at hm;refine qC (jg hi) h1 (Gt hh g) (fun q' bH=>alloc_old (hh.blt id q' bH)) (fun q' bH hs=>?_) (hh.obj id o q ho hm)
    grind
  ·intro id q hm;by_cases hc:id=i
   ·grind
   ·rw [dO hc] at hm;exact hh.lt id q hm
  ·intro a b oa ob pa pb ha bX CI ze e;by_cases ca:a=i
   ·by_cases cb:b=i
    ·grind
    ·subst ca;rw [dE] at CI;rw [dO cb] at ze
     grind
   ·rw [dO ca] at CI;by_cases cb:b=i
    ·subst cb;rw [dE] at ze
     grind
    ·rw [dO cb] at ze;exact hh.inj a b oa ob pa pb ha bX CI ze e
  ·intro b hs;rcases h2 b hs with h | h
   ·have:=hh.slt b h;omega
   ·omega
  ·intro id q hm;by_cases hc:id=i
   ·subst hc;rw [dE] at hm
    grind
   ·rw [dO hc] at hm
    have:=hh.blt id q hm
    omega
  ·intro id q hm;by_cases hc:id=i
   ·subst hc;rw [dE] at hm
    grind
   ·rw [dO hc] at hm;exact hh.low id q hm
  ·intro b rK;exact (alloc_old (by omega)).trans (hh.lA b rK)
  ·omega
 cases ho:ak hp i with
 | none=>exact ⟨S,gen S (fun _ h=>h) (fun _ h=> .inl h) (fun o h=>by rw [ho] at h;cases h),fun _ h=>h,fun _ h=> .inl h⟩
 | some o=>
  rcases hf o ho with ⟨h1,_⟩ | ⟨_,h1⟩
  ·exact ⟨S,gen S (fun _ h=>h) (fun _ h=> .inl h) (fun o' h=>by rw [ho] at h;injection h with h;subst h;exact h1),fun _ h=>h,fun _ h=> .inl h⟩
  ·exact ⟨_,gen (fun b=>S b\/b=w.heap.size) (fun _ h=> .inl h) (fun _ h=>h) (fun o' h=>by rw [ho] at h;injection h with h;subst h;exact h1),fun _ h=> .inl h,fun _ h=>h⟩
def OQ {id:Nat} {o o':Obj} {p:Pl} (hl:jb o o') (hm:m id=some p) (h:eJ O m S w id o) (hn:¬iv o):
  (eJ O m S w id o'/\¬iv o')\/(iv o'/\eJ O m (fun b=>S b\/b=p.b) w id o'):=by
 have hS:∀b,S b->(S b\/b=p.b):=fun _ h=> .inl h
 have aO:fE S w w:=fun _ _=>rfl
 cases o with
 | cells rw pu ex sz cs=>
  obtain ⟨dW,rfl,nQ⟩:=hl
  cases dW with
  | true=>
   grind
  | false=>
   refine .inr ⟨rfl,?_⟩;obtain ⟨q,arr,t,h1,h2,h3,h4,h5,h6,h7,h8,h9,iJ⟩:=h;rw [hm] at h1;injection h1 with h1
   subst h1;have CF:∀(cs:List AV) (b k:Nat),bI O.ab m S w cs b k->bI O.ab m (fun b=>S b\/b=p.b) w cs b k:=by
    intro cs
    induction cs with
    | nil=>intro b k _;simp only [bI]
    | cons c cs ih=>
     intro b k hr;obtain ⟨⟨u,g1,g2⟩,g3⟩:=hr;exact ⟨⟨u,g1,kU (fun _ _ h=>h) hS aO _ _ g2⟩,ih b (k+1) g3⟩
   exact ⟨p,arr,t,hm,h2,h3,h4,h5,h6,CF _ _ _ h7,h8,by simp,fun _=> .inr rfl⟩
 | mp rw ks vs=>
  obtain ⟨dW,rfl,nQ⟩:=hl
  cases dW with
  | true=>
   grind
  | false=>
   refine .inr ⟨rfl,?_⟩;obtain ⟨q,es,clock,h1,h2,h3,h4,h5,h6⟩:=h;rw [hm] at h1;injection h1 with h1
   subst h1;exact ⟨p,es,clock,hm,h2,gF (fun _ _ h=>h) hS aO _ _ h3,gF (fun _ _ h=>h) hS aO _ _ h4,by simp,fun _=> .inr rfl⟩
 | si s pos=>simp only [jb] at hl;subst hl;exact .inl ⟨h,hn⟩
 | lp tm ps as_ body st pe=>simp only [jb] at hl;subst hl;exact .inl ⟨h,hn⟩
end
end
section
open Go
section
variable {O:bk} {H:Hint} {m:Mp} {S:Nat->Prop} {w:yi} {tm:Env} {a:Act} {hp:Hp} {ct cq:Nat}
def Ks {ab:Nat->Nat} {b:Nat} {arr:Array yh} {t:yC} {fr:Nat×Nat} (hb:w.heap[b]? =some (.cells arr t fr)):∀(cs:List AV) (us:List yh) (o:Nat),
  aq ab m S w cs us->(∀(j:Nat) (u:yh),us[j]? =some u->arr[o+j]? =some u)->bI ab m S w cs b o
 | [],us,o,_,_=>by simp only [bI]
 | c::cs,us,o,h,hu=>by
  simp only [aq] at h;obtain ⟨u,r,rfl,h2,h3⟩:=h;simp only [bI];refine ⟨⟨u,?_,h2⟩,Ks hb cs r (o+1) h3 (fun j v hv=>?_)⟩
  ·have:=hu 0 u (by simp)
   simpa [World.cell?,hb] using this
  ·have:=hu (j+1) v (by simpa using hv)
   rw [show o+1+j=o+(j+1) by omega];exact this
def alQ (hh:aQ O m S w hp cq) {i:Nat} {arr:Array yh} {t:yC} {cs:List AV} {us:List yh} {pu ex:Bool} {sz:Nat} (hr:aq O.ab m S w cs us)
  (hu:∀(j:Nat) (u:yh),us[j]? =some u->arr[j]? =some u) (hl:cs.length<=arr.size) (hex:ex=true->cs.length=arr.size) (iH:pu=true->aD cs=true)
  (m':Mp) (hm:cY m m') (hi:m' i=some ⟨w.heap.size,0,arr.size,sz⟩):eJ O m' S (w.alloc (.cells arr t)) i (.cells true pu ex sz cs):=by
 refine ⟨⟨w.heap.size,0,arr.size,sz⟩,arr,t,hi,heap_alloc_new w _,rfl,hl,by simp,hex,?_,iH,?_,by simp⟩
 ·exact Ks (heap_alloc_new w _) cs us 0 (gF hm (fun _ h=>h) (Gt hh _) _ _ hr) (by simpa using hu)
 ·intro _ hS
  have:=hh.slt _ hS
  simp at this
def B9 (O:bk) (m:Mp) (S:Nat->Prop) (w:yi) (a:Act) (ct:Nat) (o:yZ) (v:AV) (b:Obj):Prop:=
 ∃u g p,(execOp a.eval o).run O.P w= .ok (.value u) (w.alloc g)/\p.b=w.heap.size/\¬iv b/\
  ∀m',cY m m'->m' ct=some p->eJ O m' S (w.alloc g) ct b/\af O.ab m' S (w.alloc g) v u
def Pj {o:yZ} {arr:Array yh} {t:yC} {cs:List AV} {us:List yh} {pu ex:Bool} {sz:Nat} {v:AV} {u:yh} (hh:aQ O m S w hp cq)
  (he:(execOp a.eval o).run O.P w= .ok (.value u) (w.alloc (.cells arr t))) (hr:aq O.ab m S w cs us)
  (hu:∀(j:Nat) (u:yh),us[j]? =some u->arr[j]? =some u) (hl:cs.length<=arr.size) (hex:ex=true->cs.length=arr.size) (iH:pu=true->aD cs=true)
  (hv:∀m':Mp,m' ct=some ⟨w.heap.size,0,arr.size,sz⟩->af O.ab m' S (w.alloc (.cells arr t)) v u):B9 O m S w a ct o v (.cells true pu ex sz cs):=
 ⟨u,_,⟨w.heap.size,0,arr.size,sz⟩,he,rfl,by simp [iv],fun m' hm hi=>⟨alQ hh hr hu hl hex iH m' hm hi,hv m' hi⟩⟩
def XM {o:yZ} {t:yC} {x:yh} {vx v:AV} {b:Obj} {sz:Nat} (hh:aQ O m S w hp cq) (he:(execOp a.eval o).run O.P w= .ok (.value (.pointer (some ⟨w.heap.size,0,none⟩))) (w.alloc (.cells x.cells t))) (hx:aq O.ab m S w (cellsOf vx) x.cells.toList)
  (hv:(bif yr (cellsOf vx).length sz&&bL (cellsOf vx) then some (AV.ptr ct 0,Obj.cells true (aD (cellsOf vx)) true sz (cellsOf vx)) else none)=some (v,b)):B9 O m S w a ct o v b:=by
 cases hc:(yr (cellsOf vx).length sz&&bL (cellsOf vx)) with
 | false=>rw [hc] at hv;cases hv
 | true=>
  rw [hc] at hv;obtain ⟨rfl,rfl⟩:=hv;have hlen:=gH _ _ hx;refine Pj hh he hx (fun j u hj=>by simpa using hj) (by rw [<-hlen];simp) (fun _=>by rw [<-hlen];simp) (fun h=>h) (fun m' hi=>?_)
  simp only [af];exact ⟨_,hi,by simp⟩
def ajd {o:yZ} {t:yC} {r:Option xv} (hh:aQ O m S w hp cq) (ho:o.op= .makeMap t r) (hr:r=none):B9 O m S w a ct o (.map ct) (.mp true [] []):=by
 subst hr;refine ⟨.map (some w.heap.size),.map #[] 0,⟨w.heap.size,0,0,0⟩,by simp [execOp,ho,Instr.makeMap],rfl,by simp [iv],fun m' _ hi=>⟨?_,?_⟩⟩
 ·refine ⟨_,#[],0,hi,heap_alloc_new w _,by simp [aq],by simp [aq],?_,by simp⟩;intro _ hS
  have:=hh.slt _ hS
  simp at this
 ·simp only [af];exact ⟨_,hi,rfl⟩
def ahe {o:yZ} {t:yC} {x:xv} {s:List Nat} (hh:aQ O m S w hp cq) (ho:o.op= .range t x) (hu:O.P.underlying t=some .string) (hx:af O.ab m S w (.str s) (a.eval x)):
  B9 O m S w a ct o (.it ct) (.si s 0):=by
 obtain ⟨b,e,rfl⟩:=hx;refine ⟨.pointer (some ⟨w.heap.size,0,none⟩),.stringIter b 0,⟨w.heap.size,0,0,0⟩,by simp [execOp,ho,Instr.range,run_underlying hu,e],rfl,by simp [iv],fun m' _ hi=>⟨?_,?_⟩⟩
 ·refine ⟨_,b,hi,heap_alloc_new w _,rfl,?_⟩;intro hS
  have:=hh.slt _ hS
  simp at this
 ·simp only [af];exact ⟨_,hi,rfl⟩
end
def ahf (zero:Array yh):(xG zero.size).map (fun j=>zero[j]!)=zero.toList:=by
 apply List.ext_getElem
 ·simp
 ·grind
def V8 (zero:Array yh):∀n:Nat,(xG (n*zero.size)).map (fun i=>zero[i%zero.size]!)=(yy n zero.toList).flatten
 | 0=>by simp
 | n+1=>by
  rw [wh,ybV,List.range_add,List.map_append,V8 zero n,List.replicate_succ',yaS]
  congr 1
  simp only [List.map_map,uH,List.flatten_nil,List.append_nil];rw [<-ahf zero];apply List.map_congr_left;intro j hj;simp at hj;simp [Function.comp,xy n,Nat.mod_eq_of_lt hj]
def PI {ab:Nat->Nat} {m:Mp} {S:Nat->Prop} {w:yi} {cs:List AV} {us:List yh} (h:aq ab m S w cs us):∀n,aq ab m S w (yy n cs).flatten (yy n us).flatten
 | 0=>by simp [aq]
 | n+1=>by rw [wq,wq,uH,uH];exact kS h (PI h n)
section
variable {O:bk} {H:Hint} {m:Mp} {S:Nat->Prop} {w:yi} {tm:Env} {a:Act} {hp:Hp} {ct cq:Nat}
def WV (zero:Array yh) (n:Nat):(Array.map (fun i=>zero[i%zero.size]!) (tj (n*zero.size))).toList=(yy n zero.toList).flatten:=by
 rw [<-V8 zero n]
 simp
def XN (tm:Env):∀(ps:List (Nat×Nat×X)) (zero cs:List AV),fill tm zero ps=some cs->cs.length=zero.length
 | [],zero,cs,h=>by simp only [fill,yb] at h;rw [h]
 | (o,sz,x)::r,zero,cs,h=>by
  simp only [fill] at h
  cases hc:(yr (cellsOf (aw tm x)).length sz&&yF (o+sz) zero.length&&bL (cellsOf (aw tm x))) with
  | false=>rw [hc] at h;cases h
  | true=>
   rw [hc] at h;simp only [yg] at hc;have h1:=yj hc.1.1;have h2:=yq hc.1.2;rw [XN tm r _ _ h];simp only [over,yR,yO,xO];omega
def KJ {α:Type} (l:List α):∀n,(yy n l).flatten.length=n*l.length
 | 0=>by simp
 | n+1=>by simp [wq,KJ l n,wh,Nat.add_comm]
def ahg {o:yZ} {t e:yC} {n s:Nat} {z:AV} {parts:Array (Nat×xv)} {ps:List (Nat×Nat×X)} {v:AV} {b:Obj} (hH:eT O H) (ht:bP O m S w tm a.tmps) (hh:aQ O m S w hp cq)
  (ho:o.op= .buildSlice t n parts) (hu:O.P.underlying t=some (.slice e)) (hs:cw O.P e=some s) (hz:li O.P e=some z) (hn:n*s<=16777216)
  (eN:partsOf H (fun i=>some (i*s,s)) parts.toList=some ps)
  (hv:cK tm hp ct (.mK n s (yy n (cellsOf z)).flatten ps)=some (v,b)):B9 O m S w a ct o v b:=by
 simp only [cK] at hv
 cases hf:fill tm (yy n (cellsOf z)).flatten ps with
 | none=>simp [hf] at hv
 | some cs=>
  simp only [hf] at hv
  cases hc:yr cs.length (n*s) with
  | false=>rw [hc] at hv;cases hv
  | true=>
   rw [hc] at hv;simp only [yt,yb,ym] at hv;obtain ⟨rfl,rfl⟩:=hv;have hlen:=yj hc;obtain ⟨zv,lH,rfl⟩:=Dv (w:=w) hz;have zA:aq O.ab m S w (cellsOf (eb zv)) zv.cells.toList:=By zv;have p6:=gH _ _ zA;have nS:=XN tm ps _ _ hf;rw [KJ] at nS;have ED:n*s=n*zv.cells.size:=by
    rw [<-hlen,nS,<-p6];simp
   have key:∃zr:Array yh,(n*s=0->zr=#[])/\(n*s≠0->zr=zv.cells)/\aq O.ab m S w (yy n (cellsOf (eb zv))).flatten ((tj (n*s)).map (fun x=>zr[x%zr.size]!)).toList:=by
    by_cases h0:n*s=0
    ·refine ⟨#[],fun _=>rfl,fun h=>(h h0).elim,?_⟩
     have:(yy n (cellsOf (eb zv))).flatten=[]:=by
      apply yH;rw [KJ,<-p6];simp only [vD];omega
     rw [this];simp [aq,h0]
    ·refine ⟨zv.cells,fun h=>(h0 h).elim,fun _=>rfl,?_⟩;rw [ED,WV];exact PI zA n
   obtain ⟨zr,NJ,gR,jc⟩:=key;obtain ⟨out,h1,h2⟩:=Lf hH ht (place:=fun i=>some (i*s,s)) parts.toList ps _ cs _ eN jc hf;have rI:=gH _ _ h2
   refine Pj (arr:=out) (t:=e) (us:=out.toList) hh ?_ h2 (fun j u hj=>by simpa using hj) (by rw [<-rI];simp) (fun _=>by rw [<-rI];simp) (fun h=>h) (u:= .slice (some ⟨w.heap.size,0,none⟩) n n) ?_
   ·have gS:¬(n*s>2^24):=by omega
    by_cases h0:n*s=0
    ·have:=NJ h0
     subst this;simp only [h0] at h1;simp [execOp,ho,Instr.buildSlice,run_underlying hu,mZ hs,h0,newRow] at h1 ⊢;simp [h1]
    ·have:=gR h0
     subst this;simp [execOp,ho,Instr.buildSlice,run_underlying hu,mZ hs,h0,gS,lH,newRow] at h1 ⊢;simp [h1]
   ·intro m' hi;simp only [af];refine ⟨_,n,hi,by simp,yA _,?_⟩;simp only [yf];rw [<-hlen,<-rI];simp
def Bz:∀{a b:List AV},aD a=true->aD b=true->aD (a++b)=true
 | [],_,_,h=>h
 | c::r,b,h,k=>by
  simp only [aD,yg] at h;simp only [yX,aD,yg];exact ⟨h.1,Bz h.2 k⟩
def WW {z:List AV} (h:aD z=true):∀n,aD (yy n z).flatten=true
 | 0=>by simp [aD]
 | n+1=>by rw [wq,uH];exact Bz h (WW h n)
def aje {o:yZ} {t e:yC} {s by':Nat} {z:AV} {l c:xv} {v:AV} {b:Obj} (hH:eT O H) (ht:bP O m S w tm a.tmps) (hh:aQ O m S w hp cq)
  (ho:o.op= .makeSlice t l c) (hu:O.P.underlying t=some (.slice e)) (hs:cw O.P e=some s) (hb:rF O.P e=some by') (hz:li O.P e=some z)
  (hv:cK tm hp ct (.nN s by' (cellsOf z) (aI H l) (aI H c))=some (v,b)):B9 O m S w a ct o v b:=by
 simp only [cK] at hv
 cases hl:dB (aw tm (aI H l)) with
 | none=>simp [hl] at hv
 | some ln=>
  cases hc:dB (aw tm (aI H c)) with
  | none=>simp [hl,hc] at hv
  | some cn=>
   simp only [hl,hc] at hv
   cases hk:(yF ln cn&&(yF cn room&&(yF (cn*by') room&&(yr (cellsOf z).length s&&bL (cellsOf z))))) with
   | false=>rw [hk] at hv;cases hv
   | true=>
    rw [hk] at hv;simp only [yt,yb,ym] at hv;obtain ⟨rfl,rfl⟩:=hv;simp only [yg] at hk;have h1:=yq hk.1;have h2:=yq hk.2.1;have h3:=yq hk.2.2.1;have h4:=yj hk.2.2.2.1;simp only [room] at h2 h3;obtain ⟨kl,el⟩:=sI (cf hH ht l) hl;obtain ⟨kc,ec⟩:=sI (cf hH ht c) hc;obtain ⟨zv,lH,rfl⟩:=Dv (w:=w) hz;have zA:aq O.ab m S w (cellsOf (eb zv)) zv.cells.toList:=By zv;have p6:=gH _ _ zA;have CJ:zv.cells.size=s:=by rw [<-h4,<-p6];simp
    have wrapN:∀k:Nat,k<=1099511627776->IntKind.i64.wrap (k:Int)=k:=fun k hk=>IntWalk.i64_in _ (by omega)
    obtain ⟨ti,p7,ek,Tg⟩:∃ti,O.P.info? e=some ti/\ti.size=s/\ti.bytes=by':=by
     unfold cw at hs;unfold rF at hb
     cases hi:O.P.info? e with
     | none=>simp [hi] at hs
     | some ti=>simp only [hi,yb] at hs hb;exact ⟨ti,rfl,hs,hb⟩
    have Cg:((tj (cn*s)).map (zv.cells[·%zv.cells.size]!)).toList=(yy ln zv.cells.toList).flatten++(yy (cn-ln) zv.cells.toList).flatten:=by
     rw [<-CJ,WV,<-yaS,List.replicate_append_replicate]
     grind
    have eM:(yy ln (cellsOf (eb zv))).flatten.length=ln*s:=by rw [KJ,h4]
    have hmul:ln*s<=cn*s:=yQ _ h1
    refine Pj (arr:=(tj (cn*s)).map (zv.cells[·%zv.cells.size]!)) (t:=e) (us:=(yy ln zv.cells.toList).flatten) hh (u:= .slice (some ⟨w.heap.size,0,none⟩) ln cn) ?_
     (PI zA ln) ?_ ?_ ?_ (fun h=>?_) ?_
    ·have ayj:by'*cn<=1099511627776:=by rw [xy];exact h3
     have rL:((by'*cn:Nat):Int)<=1099511627776:=by omega
     rw [Int.natCast_mul] at rL;have hlc:(ln:Int)<=(cn:Int):=by omega
     have g1:¬(281474976710656<(by':Int)*(cn:Int)):=by omega
     have g2:¬(((ln:Int)<0)):=by omega
     have g3:¬(((cn:Int)<0)):=by omega
     have g4:¬((ln:Int)>(cn:Int)):=by omega
     by_cases h0:cn*s=0
     ·simp [execOp,ho,Instr.makeSlice,run_underlying hu,el,ec,asInt,asIntOf,typeInfo,p7,Tg,wrapN ln (by omega),wrapN cn h2,g1,g2,g3,g4,mZ hs,h0,newRow,askRoom,roomBytes]
      grind
     ·simp [execOp,ho,Instr.makeSlice,run_underlying hu,el,ec,asInt,asIntOf,typeInfo,p7,Tg,wrapN ln (by omega),wrapN cn h2,g1,g2,g3,g4,mZ hs,h0,newRow,askRoom,roomBytes,lH]
    ·intro j u hj
     have:((tj (cn*s)).map (zv.cells[·%zv.cells.size]!)).toList[j]? =some u:=by
      grind
     grind
    ·grind
    ·simp_all
    ·exact WW h ln
    ·intro m' hi;simp only [af];refine ⟨_,cn,hi,by simp,h1,?_⟩
     simp
def alR {o:yZ} {k:Nat} {v:AV} {b:Obj} (hH:eT O H) (ht:bP O m S w tm a.tmps) (hh:aQ O m S w hp cq)
  (hv:cK tm hp ct (aS O.P H k o)=some (v,b)):B9 O m S w a ct o v b:=by
 cases ho:o.op with
 | call c=>
  obtain ⟨callee,args,ts⟩:=c;simp only [aS,ho] at hv
  repeat' split at hv
  all_goals first
   | (simp [cK,bad] at hv;done)
   | (revert hv;generalize yr _ _=bb;intro hv;cases bb<;>simp [cK,bad] at hv)
 | alloc t=>
  simp only [aS,ho] at hv
  split at hv
  ·rename_i s z hs hz;obtain ⟨zv,lH,rfl⟩:=Dv (w:=w) hz
   exact XM (x:=zv) (t:=t) hh (by simp [execOp,ho,Instr.alloc,lH,newVar,newRow]) (By zv) (by simpa only [cK,aw] using hv)
  ·simp [cK,bad] at hv
 | box t x=>
  simp only [aS,ho] at hv
  split at hv
  ·rename_i s hs;simp only [cK] at hv
   cases hc:(yr (cellsOf (aw tm (aI H x))).length s&&bL (cellsOf (aw tm (aI H x)))) with
   | false=>rw [hc] at hv;cases hv
   | true=>
    have h1:=hc;simp only [yg] at h1
    exact XM (x:=a.eval x) (t:=t) hh (by simp [execOp,ho,Instr.box,newVar,newRow]) (Ph (cf hH ht x) h1.2) hv
  ·simp [cK,bad] at hv
 | buildSlice t n parts=>
  simp only [aS,ho] at hv
  split at hv
  ·rename_i e hu
   split at hv
   ·rename_i s z hs hz
    cases hc:yF (n*s) 16777216 with
    | false=>rw [hc] at hv;simp [cK,bad] at hv
    | true=>
     rw [hc] at hv;simp only [yt] at hv
     split at hv
     ·rename_i ps eN;exact ahg hH ht hh ho hu hs hz (yq hc) eN hv
     ·simp [cK,bad] at hv
   ·simp [cK,bad] at hv
  ·simp [cK,bad] at hv
 | makeSlice t l c=>
  simp only [aS,ho] at hv
  split at hv
  ·rename_i e hu
   split at hv
   ·rename_i s by' z hs hb hz
    exact aje hH ht hh ho hu hs hb hz hv
   ·simp [cK,bad] at hv
  ·simp [cK,bad] at hv
 | makeMap t r=>
  cases r with
  | some x=>simp [aS,ho,cK,bad] at hv
  | none=>
   simp only [aS,ho] at hv
   repeat' split at hv
   all_goals first
    | (simp [cK,bad] at hv;done)
    | (
      simp only [cK,yb,ym] at hv;obtain ⟨rfl,rfl⟩:=hv
      exact ajd hh ho rfl)
 | range t x=>
  simp only [aS,ho] at hv
  split at hv
  ·rename_i hu;simp only [cK] at hv;have rx:=cf hH ht x;cases hx:aw tm (aI H x)<;>rw [hx] at hv rx<;>simp only [reduceCtorEq] at hv
   simp only [yb,ym] at hv;obtain ⟨rfl,rfl⟩:=hv;exact ahe hh ho hu rx
  ·simp [cK,bad] at hv
 | next x b=>cases b<;>simp [aS,ho,cK,bad] at hv
 | binOp op t x y ty=>
  cases op<;>simp only [aS,ho,nk,og] at hv
  case eql=>
        repeat' split at hv
        all_goals first
         | (simp [cK,bad] at hv;done)
         | (cases hb:(O.P.stoodInHeld t||O.P.eqGuardType O.P.depth t)<;>rw [hb] at hv<;>simp [cK,bad] at hv)
  case neq=>
        repeat' split at hv
        all_goals first
         | (simp [cK,bad] at hv;done)
         | (cases hb:(O.P.stoodInHeld t||O.P.eqGuardType O.P.depth t)<;>rw [hb] at hv<;>simp [cK,bad] at hv)
  all_goals simp [cK] at hv
 | _=>
  simp only [aS,ho] at hv
  (repeat' split at hv)
  all_goals first
   | contradiction
   | (simp [cK,bad] at hv;done)
end
end
section
open Go
def qD {hp:Hp} {id i:Nat} {o:Obj}:ak (aU hp id o) i=if id=i then (if (ak hp id).isSome then some o else none) else ak hp i:=by
 induction hp with
 | nil=>simp [aU,ak]
 | cons x r ih=>
  obtain ⟨j,q⟩:=x;simp only [aU];by_cases hj:j=id
  ·subst hj;simp only [xz,yt,ak];by_cases hi:j=i
   ·simp_all
   ·have:yr j i=false:=by
     cases hq:yr j i with
     | false=>rfl
     | true=>exact absurd (yj hq) hi
    grind
  ·have hb:yr j id=false:=by
    cases hq:yr j id with
    | false=>rfl
    | true=>exact absurd (yj hq) hj
   simp only [hb,yG];rw [show ak ((j,q)::aU r id o) i=bif yr j i then some q else ak (aU r id o) i from rfl,ih];by_cases hi:j=i
   ·subst hi
    have:¬id=j:=fun h=>hj h.symm
    simp [xz,this,ak]
   ·have rL:yr j i=false:=by
     cases hq:yr j i with
     | false=>rfl
     | true=>exact absurd (yj hq) hi
    simp [rL,ak,hb]
def jK (hp an:Hp):Prop:=∀id,(ak an id).isSome=(ak hp id).isSome
def jK.refl {hp:Hp}:jK hp hp:=fun _=>rfl
def jK.trans {a b c:Hp} (h:jK a b) (k:jK b c):jK a c:=fun id=>(k id).trans (h id)
def P8 {hp:Hp} {id:Nat} {o o':Obj} (h:ak hp id=some o) (hl:jb o o'):cO hp (aU hp id o')/\jK hp (aU hp id o'):=by
 constructor
 ·intro i q hq;rw [qD];by_cases hi:id=i
  ·grind
  ·exact ⟨q,by simp [hi,hq],jb.refl q⟩
 ·intro i;rw [qD]
  grind
def WX {hp H:Hp} {id:Nat} {pu ex:Bool} {sz:Nat} {cs:List AV} (hl:cO hp H) (h:ak hp id=some (.cells false pu ex sz cs)):ak H id=some (.cells false pu ex sz cs):=by
 obtain ⟨o',h1,dW,rfl,h2⟩:=hl id _ h
 cases dW with
 | false=>exact h1
 | true=>exact absurd (h2 rfl) (by simp)
section
variable {O:bk}
def aqP (O:bk) (m:Mp) (S:Nat->Prop) (w:yi) (p:Pl) (ex:Bool) (sz:Nat) (cs:List AV):Prop:=
 p.z=sz/\cs.length<=p.e/\(ex=true->cs.length=p.e)/\S p.b/\aD cs=true/\bI O.ab m S w cs p.b p.o
def RI (O:bk) (an:Hp) (v v':AV):Prop:=∀H m S w ct,cO an H->aQ O m S w H ct->(∀u,af O.ab m S w v u->af O.ab m S w v' u)/\aW v'=true
def abw (O:bk) (an:Hp) (vs dL:List AV):Prop:=∀H m S w ct,cO an H->aQ O m S w H ct->(∀us,aq O.ab m S w vs us->aq O.ab m S w dL us)/\aD dL=true
def asq (O:bk) (an:Hp) (id:Nat) (ex:Bool) (sz:Nat) (cs:List AV):Prop:=∀H m S w ct,cO an H->aQ O m S w H ct->∀p,m id=some p->aqP O m S w p ex sz cs
def Ds {ab:Nat->Nat} {m:Mp} {S:Nat->Prop} {w:yi} {b:Nat}:∀(cs:List AV) (us:List yh) (o:Nat),aq ab m S w cs us->
  (∀(j:Nat) (u:yh),us[j]? =some u->w.cell? ⟨b,o+j,none⟩=some u)->bI ab m S w cs b o
 | [],us,o,_,_=>by simp only [bI]
 | c::cs,us,o,h,hu=>by
  obtain ⟨u,r,rfl,h2,h3⟩:=h;refine ⟨⟨u,by simpa using hu 0 u (by simp),h2⟩,Ds cs r (o+1) h3 (fun j v hv=>?_)⟩;rw [show o+1+j=o+(j+1) by omega]
  simp_all
def aqQ {m:Mp} {S:Nat->Prop} {w:yi} {cs du:List AV} (h:∀us,aq O.ab m S w cs us->aq O.ab m S w du us) {b o:Nat} (hr:bI O.ab m S w cs b o):bI O.ab m S w du b o:=by
 obtain ⟨us,h1,_,h3⟩:=qw cs b o hr;exact Ds du us o (h us h1) h3
def zT:∀(k:Nat) {cs:List AV},aD cs=true->aD (cs.take k)=true
 | 0,_,_=>by simp [aD]
 | k+1,[],_=>by simp [aD]
 | k+1,c::cs,h=>by
  simp only [aD,yg,wg] at h ⊢;exact ⟨h.1,zT k h.2⟩
def ajf {an:Hp} {vs dL:List AV}:∀{n:Nat} {hp:Hp},cA n hp vs=some (dL,an)->dL.length=vs.length:=by
 intro n
 induction n generalizing vs dL an with
 | zero=>intro hp h;simp [cA] at h
 | succ n ih=>
  intro hp h
  cases vs with
  | nil=>simp only [cA,yb,ym] at h;rw [<-h.1]
  | cons v r=>
   simp only [cA] at h
   cases h1:freeze n hp v with
   | none=>simp [h1] at h
   | some q=>
    obtain ⟨v',bh⟩:=q;simp only [h1] at h
    cases h2:cA n bh r with
    | none=>simp [h2] at h
    | some q2=>
     grind
def V9:∀n:Nat,
  (∀hp v v' an,freeze n hp v=some (v',an)->cO hp an/\jK hp an/\RI O an v v')/\
  (∀hp id ex sz cs an,qB n hp id=some (ex,sz,cs,an)->cO hp an/\jK hp an/\asq O an id ex sz cs)/\
  (∀hp vs dL an,cA n hp vs=some (dL,an)->cO hp an/\jK hp an/\abw O an vs dL):=by
 intro n
 induction n with
 | zero=>refine ⟨?_,?_,?_⟩<;>intros<;>simp_all [freeze,qB,cA]
 | succ n ih=>
  obtain ⟨ihV,ihB,EE⟩:=ih;refine ⟨?_,?_,?_⟩
  ·intro hp v v' an h;have plain:∀{v v':AV} {hp an:Hp},(bif aW v then some (v,hp) else none)=some (v',an)->cO hp an/\jK hp an/\RI O an v v':=by
    intro v v' hp an h
    cases hc:aW v with
    | false=>rw [hc] at h;cases h
    | true=>
     rw [hc] at h;simp only [yt,yb,ym] at h;obtain ⟨rfl,rfl⟩:=h;exact ⟨cO.refl,jK.refl,fun _ _ _ _ _ _ _=>⟨fun _ h=>h,hc⟩⟩
   cases v<;>simp only [freeze] at h<;>first | exact plain h | skip
   case ay id o k=>
    cases hb:qB n hp id with
    | none=>simp [hb] at h
    | some q=>
     obtain ⟨ex,sz,cs,bh⟩:=q;simp only [hb] at h
     cases hc:yF (o+k*sz) cs.length with
     | false=>rw [hc] at h;cases h
     | true=>
      rw [hc] at h;simp only [yt,yb,ym] at h;obtain ⟨rfl,rfl⟩:=h;have hle:=yq hc;obtain ⟨h1,h2,h3⟩:=ihB _ _ _ _ _ _ hb;refine ⟨h1,h2,fun H m S w ct hl hh=>⟨fun u hu=>?_,by simp only [aW]⟩⟩;simp only [af] at hu ⊢;obtain ⟨p,c,hm,rfl,zB,NH⟩:=hu;obtain ⟨g1,g2,g3,g4,g5,g6⟩:=h3 H m S w ct hl hh p hm;refine .inl ⟨p.b,p.o+o,c,rfl,zB,?_,.inr g4,zT _ (sn _ _ g5),zX _ _ _ _ (px _ _ _ _ g6)⟩;intro hx;simp only [yg] at hx;have e1:=yj hx.2;have e2:0<sz:=by
       simp_all
      have e3:=g3 hx.1.1;rw [g1] at NH
      have:c*sz=k*sz:=by omega
      exact Nat.eq_of_mul_eq_mul_right e2 this
   case ptr id o=>
    cases hb:qB n hp id with
    | none=>simp [hb] at h
    | some q=>
     obtain ⟨ex,sz,cs,bh⟩:=q;simp only [hb,yb,ym] at h;obtain ⟨rfl,rfl⟩:=h;obtain ⟨h1,h2,h3⟩:=ihB _ _ _ _ _ _ hb;refine ⟨h1,h2,fun H m S w ct hl hh=>⟨fun u hu=>?_,by simp only [aW]⟩⟩;simp only [af] at hu ⊢;obtain ⟨p,hm,rfl⟩:=hu;obtain ⟨g1,g2,g3,g4,g5,g6⟩:=h3 H m S w ct hl hh p hm;exact ⟨p.b,p.o+o,rfl,.inr g4,sn _ _ g5,px _ _ _ _ g6⟩
   case map id=>
    cases hg:ak hp id with
    | none=>simp [hg] at h
    | some ob=>
     cases ob<;>simp only [hg,reduceCtorEq] at h
     rename_i rw ks vs
     cases hc:(aD ks&&aD vs) with
     | false=>rw [hc] at h;cases h
     | true=>
      rw [hc] at h;simp only [yt,yb,ym] at h;obtain ⟨rfl,rfl⟩:=h;simp only [yg] at hc;obtain ⟨h1,h2⟩:=P8 hg (o':= .mp false ks vs) ⟨false,rfl,by simp⟩;refine ⟨h1,h2,fun H m S w ct hl hh=>⟨fun u hu=>?_,by simp only [aW]⟩⟩;simp only [af] at hu ⊢;obtain ⟨p,hm,rfl⟩:=hu;have hq:ak (aU hp id (.mp false ks vs)) id=some (.mp false ks vs):=by rw [qD];simp [hg]
      obtain ⟨o',h3,dW,rfl,h4⟩:=hl id _ hq;have nQ:dW=false:=by cases dW with | false=>rfl | true=>exact absurd (h4 rfl) (by simp)
      subst nQ;obtain ⟨p',es,clock,g1,g2,g3,g4,g5,g6⟩:=hh.obj id _ _ h3 hm;rw [hm] at g1;injection g1 with g1
      subst g1;exact ⟨p.b,es,clock,rfl,g6 rfl,hc.1,hc.2,g2,g3,g4⟩
   case fn f first cap=>
    cases f with
    | y l=>simp only [aW,yG,reduceCtorEq] at h
    | f g=>
     simp only at h
     cases h1:cA n hp first with
     | none=>simp [h1] at h
     | some q=>
      obtain ⟨Zs,bh⟩:=q;simp only [h1] at h
      cases h2:cA n bh cap with
      | none=>simp [h2] at h
      | some q2=>
       obtain ⟨Mn,js⟩:=q2;simp only [h2,yb,ym] at h;obtain ⟨rfl,rfl⟩:=h;obtain ⟨a1,a2,a3⟩:=EE _ _ _ _ h1;obtain ⟨b1,b2,b3⟩:=EE _ _ _ _ h2;refine ⟨a1.trans b1,a2.trans b2,fun H m S w ct hl hh=>?_⟩;obtain ⟨c1,c2⟩:=a3 H m S w ct (b1.trans hl) hh;obtain ⟨d1,d2⟩:=b3 H m S w ct hl hh;refine ⟨fun u hu=>?_,by simp [aW,c2,d2]⟩;simp only [af] at hu ⊢;obtain ⟨fi,ca,rfl,e1,e2⟩:=hu;exact ⟨fi,ca,rfl,c1 _ e1,d1 _ e2⟩
   case agg cs=>
    cases h1:cA n hp cs with
    | none=>simp [h1] at h
    | some q=>
     obtain ⟨du,bh⟩:=q;simp only [h1,yb,ym] at h;obtain ⟨rfl,rfl⟩:=h;obtain ⟨a1,a2,a3⟩:=EE _ _ _ _ h1;refine ⟨a1,a2,fun H m S w ct hl hh=>?_⟩;obtain ⟨c1,c2⟩:=a3 H m S w ct hl hh;refine ⟨fun u hu=>?_,by simpa [aW] using c2⟩;simp only [af] at hu ⊢;obtain ⟨xs,rfl,e1⟩:=hu;exact ⟨xs,rfl,c1 _ e1⟩
   case au cs=>
    cases h1:cA n hp cs with
    | none=>simp [h1] at h
    | some q=>
     obtain ⟨du,bh⟩:=q;simp only [h1,yb,ym] at h;obtain ⟨rfl,rfl⟩:=h;obtain ⟨a1,a2,a3⟩:=EE _ _ _ _ h1;refine ⟨a1,a2,fun H m S w ct hl hh=>?_⟩;obtain ⟨c1,c2⟩:=a3 H m S w ct hl hh;refine ⟨fun u hu=>?_,by simpa [aW] using c2⟩;simp only [af] at hu ⊢;obtain ⟨xs,rfl,e1⟩:=hu;exact ⟨xs,rfl,c1 _ e1⟩
  ·intro hp id ex sz du an h;simp only [qB] at h
   cases hg:ak hp id with
   | none=>simp [hg] at h
   | some ob=>
    cases ob<;>simp only [hg,reduceCtorEq] at h
    rename_i rw pu rG Ba cs
    cases pu with
    | true=>
     simp only [yt,yb,ym] at h;obtain ⟨rfl,rfl,rfl,rfl⟩:=h;have hq:cO hp (bif rw then aU hp id (.cells false true rG Ba cs) else hp)/\jK hp (bif rw then aU hp id (.cells false true rG Ba cs) else hp)/\ak (bif rw then aU hp id (.cells false true rG Ba cs) else hp) id=some (.cells false true rG Ba cs):=by
      cases rw with
      | true=>
       obtain ⟨h1,h2⟩:=P8 hg (o':= .cells false true rG Ba cs) ⟨false,rfl,by simp⟩;exact ⟨h1,h2,by simp [qD,hg]⟩
      | false=>exact ⟨cO.refl,jK.refl,hg⟩
     refine ⟨hq.1,hq.2.1,fun H m S w ct hl hh p hm=>?_⟩;obtain ⟨p',arr,t,g1,g2,g3,g4,g5,g6,g7,g8,g9,g10⟩:=hh.obj id _ _ (WX hl hq.2.2) hm;rw [hm] at g1;injection g1 with g1
     subst g1;exact ⟨g3,g4,g6,g10 rfl,g8 rfl,g7⟩
    | false=>
     simp only [yG] at h
     cases h1:cA n hp cs with
     | none=>simp [h1] at h
     | some q=>
      obtain ⟨rM,bh⟩:=q;simp only [h1,yb,ym] at h;obtain ⟨rfl,rfl,rfl,rfl⟩:=h;obtain ⟨a1,a2,a3⟩:=EE _ _ _ _ h1;obtain ⟨o1,ic,rw1,rfl,_⟩:=a1 id _ hg;obtain ⟨b1,b2⟩:=P8 ic (o':= .cells false false rG Ba cs) ⟨false,rfl,by simp⟩;refine ⟨a1.trans b1,a2.trans b2,fun H m S w ct hl hh p hm=>?_⟩;have hq:ak (aU bh id (.cells false false rG Ba cs)) id=some (.cells false false rG Ba cs):=by simp [qD,ic]
      obtain ⟨p',arr,t,g1,g2,g3,g4,g5,g6,g7,g8,g9,g10⟩:=hh.obj id _ _ (WX hl hq) hm;rw [hm] at g1;injection g1 with g1
      subst g1;obtain ⟨c1,c2⟩:=a3 H m S w ct (b1.trans hl) hh;have hlen:=ajf h1
      exact ⟨g3,by omega,fun hx=>by have:=g6 hx;omega,g10 rfl,c2,aqQ c1 g7⟩
  ·intro hp vs dL an h
   cases vs with
   | nil=>
    simp only [cA,yb,ym] at h;obtain ⟨rfl,rfl⟩:=h;exact ⟨cO.refl,jK.refl,fun _ _ _ _ _ _ _=>⟨fun _ h=>h,rfl⟩⟩
   | cons v r=>
    simp only [cA] at h
    cases h1:freeze n hp v with
    | none=>simp [h1] at h
    | some q=>
     obtain ⟨v1,bh⟩:=q;simp only [h1] at h
     cases h2:cA n bh r with
     | none=>simp [h2] at h
     | some q2=>
      obtain ⟨r1,js⟩:=q2;simp only [h2,yb,ym] at h;obtain ⟨rfl,rfl⟩:=h;obtain ⟨a1,a2,a3⟩:=ihV _ _ _ _ h1;obtain ⟨b1,b2,b3⟩:=EE _ _ _ _ h2;refine ⟨a1.trans b1,a2.trans b2,fun H m S w ct hl hh=>?_⟩;obtain ⟨c1,c2⟩:=a3 H m S w ct (b1.trans hl) hh;obtain ⟨d1,d2⟩:=b3 H m S w ct hl hh;refine ⟨fun us hu=>?_,by simp [aD,c2,d2]⟩;simp only [aq] at hu ⊢;obtain ⟨u,t,rfl,e1,e2⟩:=hu;exact ⟨u,t,rfl,c1 _ e1,d1 _ e2⟩
def O1 {n:Nat} {hp an:Hp} {vs dL:List AV} (h:cA n hp vs=some (dL,an)):cO hp an/\jK hp an/\abw O an vs dL:=(V9 n).2.2 _ _ _ _ h
def Pk {n:Nat} {hp an:Hp} {v v':AV} (h:freeze n hp v=some (v',an)):cO hp an/\jK hp an/\RI O an v v':=(V9 n).1 _ _ _ _ h
end
end
section
open Go
section
variable {O:bk} {H:Hint} {m:Mp} {S:Nat->Prop} {w:yi} {tm:Env} {a:Act} {hp:Hp} {ct:Nat}
structure One (w w':yi) (g:Nat):Prop where
 os:w'.os=w.os
 tape:w'.tape=w.tape
 output:w'.output=w.output
 size:w'.heap.size=w.heap.size
 other:∀b,b≠g->w'.heap[b]? =w.heap[b]?
def O2 (w:yi) (g:Nat) (cs:Array yh):One w (w.setRow g cs) g:=
 ⟨rfl,rfl,rfl,by simp,fun b hb=>setRow_other w g b cs hb⟩
def Hd {id:Nat} {o:Obj} {p:Pl} (h:ak hp id=some o) (hm:m id=some p):dM m hp p.b:=⟨id,o,p,h,hm,rfl⟩
def ajg {id:Nat} {o':Obj} {b:Nat} (h:dM m (aU hp id o') b):dM m hp b:=by
 obtain ⟨i,o,p,h1,h2,h3⟩:=h;rw [qD] at h1;by_cases hi:id=i
 ·subst hi
  cases hq:ak hp id with
  | none=>simp [hq] at h1
  | some q=>exact ⟨id,q,p,hq,h2,h3⟩
 ·simp only [hi,xk] at h1;exact ⟨i,o,p,h1,h2,h3⟩
def GJ (hh:aQ O m S w hp ct) {id:Nat} {o o':Obj} {p:Pl} {w':yi} (ho:ak hp id=some o) (hm:m id=some p) (hn:¬S p.b) (hw:One w w' p.b) (h':eJ O m S w' id o') (hk:∀r:uG,w.heap[p.b]? =some (.loop r)->∃r':uG,w'.heap[p.b]? =some (.loop r')):
  aQ O m S w' (aU hp id o') ct/\bU m S w hp m S w' (aU hp id o') ct:=by
 have aO:fE S w w':=fun b hb=>hw.other b (fun e=>hn (e▸hb))
 refine ⟨⟨?_,hh.lt,?_,?_,?_,hh.low,?_,?_,fun i q hq=>(by
  rw [qD] at hq;by_cases hc:id=i
  ·subst hc;exact hh.aR _ _ ho
  ·simp only [hc,xk] at hq;exact hh.aR _ _ hq)⟩,⟨hw.os,hw.tape,hw.output,by rw [hw.size];exact yA _,?_,fun _ h=>h,fun b hb=>aO b hb,fun b hb=> .inl hb,fun b hb=> .inl (ajg hb),fun _ _ _ h=>h,fun b r hb=>?_⟩⟩
 rotate_right
 ·by_cases hc:b=p.b
  ·subst hc;exact hk r hb
  ·exact ⟨r,(hw.other b hc).trans hb⟩
 ·intro i q pi hi bD;rw [qD] at hi;by_cases hc:id=i
  ·subst hc;simp only [xA,ho,Option.isSome_some] at hi;injection hi with hi
   subst hi;exact h'
  ·simp only [hc,xk] at hi;refine qC (fun _ _ h=>h) (fun _ h=>h) aO (fun q' bH=>?_) (fun _ _ h=>h) (hh.obj i q pi hi bD);exact hw.other _ (fun e=>hc (hh.inj i id q o q' p hi ho bH hm e).symm)
 ·intro i j oi oj pi pj hi hj bD fX e;have key:∀{i:Nat} {oi:Obj},ak (aU hp id o') i=some oi->∃Jd,ak hp i=some Jd:=by
   intro i oi hi;rw [qD] at hi;by_cases hc:id=i
   ·subst hc;exact ⟨o,ho⟩
   ·simp only [hc,xk] at hi;exact ⟨oi,hi⟩
  obtain ⟨Jd,cI⟩:=key hi;obtain ⟨Jc,kJ⟩:=key hj;exact hh.inj i j Jd Jc pi pj cI kJ bD fX e
 ·intro b hb;rw [hw.size];exact hh.slt b hb
 ·intro i q hq;rw [hw.size];exact hh.blt i q hq
 ·intro b hb
  rw [hw.other b (fun e=>by have:=hh.low id p hm;omega)];exact hh.lA b hb
 ·rw [hw.size];exact hh.fK
 ·intro b _ hb;exact hw.other b (fun e=>hb (e▸Hd ho hm))
def sT (O:bk) (m:Mp) (S:Nat->Prop) (w:yi) (a:Act) (hp:Hp) (ct:Nat) (o:yZ) (v:AV) (an:Hp) (aV:Nat):Prop:=
 ∃n u w' m' S',(execOp a.eval o).run O.P w= .ok n w'/\(n= .value u\/(n= .skip/\u=undef))/\aQ O m' S' w' an aV/\af O.ab m' S' w' v u/\cY m m'/\bU m S w hp m' S' w' an ct
def ajh {ab:Nat->Nat} {v:AV} {u:yh} (h:af ab m S w v u) (ho:bn v=true):u.oneCell'=true:=by
 cases v with
 | fn f a b=>
  cases f with
  | f g=>simp only [af] at h;obtain ⟨_,_,rfl,_⟩:=h;rfl
  | y l=>simp only [af] at h;obtain ⟨_,_,rfl⟩:=h;rfl
 | int k n=>simp only [af] at h;subst h;rfl
 | bool b=>simp only [af] at h;subst h;rfl
 | aK k n=>simp only [af] at h;subst h;rfl
 | str s=>simp only [af] at h;obtain ⟨_,rfl,_⟩:=h;rfl
 | kD=>simp only [af] at h;subst h;rfl
 | ptr i k=>simp only [af] at h;obtain ⟨_,_,rfl⟩:=h;rfl
 | aH cs=>simp only [af] at h;obtain ⟨_,_,rfl,_⟩:=h;rfl
 | ae=>simp only [af] at h;subst h;rfl
 | aA e n cs=>simp only [af] at h;rcases h with ⟨_,_,_,rfl,_⟩ | ⟨_,rfl,_,_⟩<;>rfl
 | cr _ _ _ _=>simp [bn] at ho
 | ay i k n=>simp only [af] at h;obtain ⟨_,_,_,rfl,_⟩:=h;rfl
 | iA=>simp only [af] at h;subst h;rfl
 | jC=>simp only [af] at h;subst h;rfl
 | map i=>simp only [af] at h;obtain ⟨_,_,rfl⟩:=h;rfl
 | jo ks vs=>simp only [af] at h;obtain ⟨_,_,_,rfl,_⟩:=h;rfl
 | it i=>simp only [af] at h;obtain ⟨_,_,rfl⟩:=h;rfl
 | agg cs=>simp [bn] at ho
 | au cs=>simp [bn] at ho
 | undef=>simp [bn] at ho
def Kt {ab:Nat->Nat}:∀{vs:List AV} {us:List yh},aq ab m S w vs us->bL vs=true->∀u∈us,u.oneCell'=true
 | [],us,h,_,u,hu=>by simp only [aq] at h;subst h;cases hu
 | v::r,us,h,ho,u,hu=>by
  obtain ⟨u',t,rfl,h1,h2⟩:=h;simp only [bL,yg] at ho;rcases List.mem_cons.1 hu with rfl | hu
  ·exact ajh h1 ho.1
  ·exact Kt h2 ho.2 u hu
def XO {arr:Array yh} {t:yC} {p:Pl} {cs new:List AV} {vs:List yh} {o:Nat} {S':Nat->Prop} {m':Mp} (hb:w.heap[p.b]? =some (.cells arr t (0,0))) (hr:bI O.ab m S w cs p.b p.o)
  (hv:aq O.ab m S w new vs) (hl:o+new.length<=cs.length) (hs:p.o+cs.length<=arr.size) {w':yi} (hm:cY m m') (hS:∀b,S b->S' b) (aO:fE S w w')
  (hw:w'.heap[p.b]? =some (.cells (arr.toList.take (p.o+o)++vs++arr.toList.drop (p.o+o+vs.length)).toArray t (0,0))):bI O.ab m' S' w' (over o new cs) p.b p.o:=by
 obtain ⟨us,h1,h2,h3⟩:=qw cs p.b p.o hr;have hvl:=gH _ _ hv;have h4:aq O.ab m S w (over o new cs) (us.take o++vs++us.drop (o+new.length)):=kS (kS (Dj o h1) hv) (Gz _ h1);refine Ds _ _ _ (gF hm hS aO _ _ h4) (fun j u hj=>?_);have sU:∀k u,us[k]? =some u->arr[p.o+k]? =some u:=by
  intro k u hk
  have:=h3 k u hk
  simpa [World.cell?,hb] using this
 simp only [World.cell?,hw,tC,yD,xk];rw [yaF];have e1:(arr.toList.take (p.o+o)).length=p.o+o:=by rw [yO,vD];omega
 have e2:(us.take o).length=o:=by rw [yO];omega
 by_cases c1:j<o
 ·have g1:(us.take o++vs++us.drop (o+new.length))[j]? =us[j]? :=by
   rw [xt,wu (by omega),uK c1]
  rw [g1] at hj;rw [xt,wu (by omega),uK (by omega)];simpa using sU j u hj
 ·by_cases c2:j<o+vs.length
  ·have g1:(us.take o++vs++us.drop (o+new.length))[j]? =vs[j-o]? :=by
    rw [xt,xU (by omega),e2,wu (by omega)]
   rw [g1] at hj;rw [xt,xU (by omega),e1,wu (by omega),show p.o+j-(p.o+o)=j-o by omega];exact hj
  ·have g1:(us.take o++vs++us.drop (o+new.length))[j]? =us[j]? :=by
    rw [xt,xU (by omega),e2,xU (by omega),ybd]
    congr 1
    omega
   rw [g1] at hj;rw [xt,xU (by omega),e1,xU (by omega),ybd,show p.o+o+vs.length+(p.o+j-(p.o+o)-vs.length)=p.o+j by omega];simpa using sU j u hj
def KK {o:Nat} {new cs:List AV} (hl:o+new.length<=cs.length):(over o new cs).length=cs.length:=by
 simp only [over,yR,yO,xO];omega
def Wa {o:Nat} {new cs:List AV} (h:aD cs=true) (h':aD new=true):aD (over o new cs)=true:=
 Bz (Bz (zT _ h) h') (sn _ _ h)
def alS {o:yZ} {t:yC} {x y:xv} {sz:Nat} {v:AV} {an:Hp} {aV:Nat} (hH:eT O H) (ht:bP O m S w tm a.tmps) (hh:aQ O m S w hp ct)
  (ho:o.op= .store t x y) (hz:cw O.P t=some sz) (hv:cF tm hp ct (.st sz (aI H x) (aI H y))=some (v,an,aV)):sT O m S w a hp ct o v an aV:=by
 simp only [cF] at hv;have rx:=cf hH ht x;cases hx:aw tm (aI H x)<;>rw [hx] at hv rx<;>simp only [reduceCtorEq] at hv
 rename_i id k;simp only [af] at rx;obtain ⟨p,hm,ex⟩:=rx
 split at hv
 case h_2=>cases hv
 rename_i pu NK z cs hg
 cases hc:(yr (cellsOf (aw tm (aI H y))).length sz&&yF (k+sz) cs.length&&bL (cellsOf (aw tm (aI H y)))) with
 | false=>rw [hc] at hv;cases hv
 | true=>
  rw [hc] at hv;simp only [yt,yb,ym] at hv;obtain ⟨rfl,rfl,rfl⟩:=hv;simp only [yg] at hc;have c1:=yj hc.1.1;have c2:=yq hc.1.2;have ry:=Ph (cf hH ht y) hc.2;have hl:=gH _ _ ry;obtain ⟨p',arr,t',g1,g2,g3,g4,g5,g6,g7,g8,g9,g10⟩:=hh.obj id _ _ hg hm;rw [hm] at g1;injection g1 with g1
  subst g1;have eV:=Kt ry hc.2;have ez:=run_storeCells_at O.P p.b (p.o+k) t' (a.eval y).cells.toList 0 arr w g2 (by rw [hl];omega) eV;simp only [yW] at ez;have aqR:(a.eval y).cells.size=sz:=by simp_all
  have nT:eJ O m S (w.setRow p.b (arr.toList.take (p.o+k)++(a.eval y).cells.toList++arr.toList.drop (p.o+k+(a.eval y).cells.toList.length)).toArray) id
    (.cells true (pu&&aD (cellsOf (aw tm (aI H y)))) NK z (over k (cellsOf (aw tm (aI H y))) cs)):=by
   refine ⟨p,_,t',hm,setRow_heap w p.b arr _ t' _ g2,g3,by rw [KK (by omega)];exact g4,?_,fun h=>by rw [KK (by omega)];exact g6 h,?_,?_,fun _=>g9 rfl,by simp⟩
   ·grind
   ·exact XO g2 g7 ry (by omega) (by omega) cY.refl (fun _ h=>h) (fun b hb=>setRow_other w p.b b _ (fun e=>g9 rfl (e▸hb))) (setRow_heap w p.b arr _ t' _ g2)
   ·intro h;simp only [yg] at h;exact Wa (g8 h.1) h.2
  obtain ⟨e1,e2⟩:=GJ hh hg hm (g9 rfl) (O2 w p.b _) nT (fun r hr=>by rw [g2] at hr;cases hr);refine ⟨.skip,undef,_,m,S,?_,.inr ⟨rfl,rfl⟩,e1,by simp [af,aq,undef],cY.refl,e2⟩;simp only [execOp,ho,Instr.storeAt,ex,Instr.sureAddr,Sem.run_bind,Sem.run_pure,Result.andThen_ok,storeVar,mZ hz,aqR,ycq,tk,xk];simp [ez]
def Wb {d:ve} {k k':yh} (h:Instr.sameNow d k k'=some true):k=k':=by
 unfold Instr.sameNow at h
 split at h
 ·grind
 ·rename_i p q;simp only [yb] at h;have h2:(p.data==q.data)=true:=by cases p;exact h
  cases p;cases q
  grind
 ·grind
 ·cases h
def sameBits_self {d:ve} {k k':yh} (h:Instr.sameNow d k k'=some true) (n:Nat):Instr.sameBits n k' k=true:=by
 have e:=Wb h;subst e;unfold Instr.sameNow at h
 split at h
 ·simp [Instr.sameBits]
 ·simp only [yb] at h;simp [Instr.sameBits,h]
 ·simp [Instr.sameBits]
 ·cases h
def Put (ab:Nat->Nat) (m:Mp) (S:Nat->Prop) (w:yi) (d:ve) (k x:yh) (es:List uo) (i:Nat) (jV dL:List AV):Prop:=
 (Instr.findNow d k es i=some none/\aq ab m S w jV (es.map (·.key)++[k])/\aq ab m S w dL (es.map (·.val)++[x]))\/
 ∃(j:Nat) (e0:uo),Instr.findNow d k es i=some (some (i+j,e0.val))/\es[j]? =some e0/\Instr.sameNow d k e0.key=some true/\aq ab m S w jV (es.map (·.key))/\aq ab m S w dL ((es.map (·.val)).set j x)
def YM {ab:Nat->Nat} {vk vx:AV} {k x:yh} {d:ve} (hk:af ab m S w vk k) (hx:af ab m S w vx x) (hd:fits d vk=true):∀(ks vs:List AV) (es:List uo) (i:Nat) (jV dL:List AV),
  aq ab m S w ks (es.map (·.key))->aq ab m S w vs (es.map (·.val))->AH vk vx ks vs=some (jV,dL)->Put ab m S w d k x es i jV dL
 | [],[],es,i,jV,dL,h1,h2,h=>by
  simp only [aq,yaR] at h1;subst h1;obtain ⟨rfl,rfl⟩:=h;exact .inl ⟨rfl,by simp [aq,hk],by simp [aq,hx]⟩
 | [],_::_,es,i,jV,dL,h1,h2,h=>by simp [AH] at h
 | _::_,[],es,i,jV,dL,h1,h2,h=>by simp [AH] at h
 | c::ks,v::vs,es,i,jV,dL,h1,h2,h=>by
  cases es with
  | nil=>simp [aq] at h1
  | cons e es=>
   obtain ⟨u,t,⟨rfl,rfl⟩,hc,NI⟩:=h1;obtain ⟨u',t',⟨rfl,rfl⟩,hv,zx⟩:=h2;simp only [AH] at h
   cases zy:DU vk c with
   | none=>simp [zy] at h
   | some b=>
    have hs:=XL (d:=d) hk hc zy hd
    cases b with
    | true=>
     simp only [zy,yb,ym] at h;obtain ⟨rfl,rfl⟩:=h;refine .inr ⟨0,e,by simp [Instr.findNow,hs],rfl,hs,?_,?_⟩
     ·simp only [xm,aq];exact ⟨_,_,rfl,hc,NI⟩
     ·simp only [xm,List.set_cons_zero,aq];exact ⟨_,_,rfl,hx,zx⟩
    | false=>
     simp only [zy] at h
     cases hm:AH vk vx ks vs with
     | none=>simp [hm] at h
     | some q=>
      obtain ⟨k1,v1⟩:=q;simp only [hm,yb,ym] at h;obtain ⟨rfl,rfl⟩:=h;rcases YM hk hx hd ks vs es (i+1) k1 v1 NI zx hm with ⟨g1,g2,g3⟩ | ⟨j,e0,g1,g2,g3,g4,g5⟩
      ·refine .inl ⟨by simp [Instr.findNow,hs,g1],?_,?_⟩
       ·simp only [xm,yX,aq];exact ⟨_,_,rfl,hc,g2⟩
       ·simp only [xm,yX,aq];exact ⟨_,_,rfl,hv,g3⟩
      ·refine .inr ⟨j+1,e0,?_,by simpa using g2,g3,?_,?_⟩
       ·simp only [Instr.findNow,hs,g1]
        grind
       ·simp only [xm,aq];exact ⟨_,_,rfl,hc,g4⟩
       ·simp only [xm,List.set_cons_succ,aq];exact ⟨_,_,rfl,hv,g5⟩
def Dg (w:yi) (g:Nat) (o:tZ):One w {w with heap:=w.heap.setIfInBounds g o} g:=
 ⟨rfl,rfl,rfl,by simp,fun b hb=>by simp [Array.getElem?_setIfInBounds_ne (fun e=>hb e.symm)]⟩
def J8 {g:Nat} {o q:tZ} (h:w.heap[g]? =some q):({w with heap:=w.heap.setIfInBounds g o}:yi).heap[g]? =some o:=by grind
def XP {o:yZ} {t kt e:yC} {x k y:xv} {kk:Nat} {v:AV} {an:Hp} {aV:Nat} (hH:eT O H) (ht:bP O m S w tm a.tmps) (hh:aQ O m S w hp ct)
  (ho:o.op= .mapUpdate t x k y\/o.op= .insert t x k y) (hu:O.P.underlying t=some (.map kt e)) (pZ:VE.keyOf O.P kt=some kk) (hv:cF tm hp ct (.oQ kk (aI H x) (aI H k) (aI H y))=some (v,an,aV)):sT O m S w a hp ct o v an aV:=by
 simp only [cF] at hv;have rx:=cf hH ht x;cases hx:aw tm (aI H x)<;>rw [hx] at hv rx<;>simp only [reduceCtorEq] at hv
 rename_i id;simp only [af] at rx;obtain ⟨p,hm,ex⟩:=rx
 split at hv
 case h_2=>cases hv
 rename_i ks vs hg
 cases hc:sG kk (aw tm (aI H k)) with
 | false=>simp [hc] at hv
 | true=>
  simp only [hc,Bool.not_true,yG] at hv
  cases bh:AH (aw tm (aI H k)) (aw tm (aI H y)) ks vs with
  | none=>simp [bh] at hv
  | some q=>
   obtain ⟨jV,dL⟩:=q;simp only [bh,yb,ym] at hv;obtain ⟨rfl,rfl,rfl⟩:=hv;obtain ⟨d,jW,gP,Td⟩:=V7 pZ hc;obtain ⟨p',es,clock,g1,g2,g3,g4,g5,g6⟩:=hh.obj id _ _ hg hm;rw [hm] at g1;injection g1 with g1
   subst g1;have asr:=YM (d:=d) (cf hH ht k) (cf hH ht y) Td ks vs es.toList 0 jV dL g3 g4 bh
   have fin:∀(CK:Array uo) (c':Nat),(Instr.mapUpdate t (a.eval x) (a.eval k) (a.eval y)).run O.P w= .ok () {w with heap:=w.heap.setIfInBounds p.b (.map CK c')}->
     aq O.ab m S w jV (CK.toList.map (·.key))->aq O.ab m S w dL (CK.toList.map (·.val))->sT O m S w a hp ct o (.au []) (aU hp id (.mp true jV dL)) ct:=by
    intro CK c' ez h1 h2
    have aO:fE S w {w with heap:=w.heap.setIfInBounds p.b (.map CK c')}:=fun b hb=>(Dg w p.b _).other b (fun e=>g5 rfl (e▸hb))
    have nT:eJ O m S {w with heap:=w.heap.setIfInBounds p.b (.map CK c')} id (.mp true jV dL):=
     ⟨p,CK,c',hm,J8 g2,gF (fun _ _ h=>h) (fun _ h=>h) aO _ _ h1,gF (fun _ _ h=>h) (fun _ h=>h) aO _ _ h2,fun _=>g5 rfl,by simp⟩
    obtain ⟨e1,e2⟩:=GJ hh hg hm (g5 rfl) (Dg w p.b _) nT (fun r hr=>by rw [g2] at hr;cases hr);refine ⟨.skip,undef,_,m,S,?_,.inr ⟨rfl,rfl⟩,e1,by simp [af,aq,undef],cY.refl,e2⟩;rcases ho with ho | ho<;>simp [execOp,ho,ez]
   have mT:=JV (P:=O.P) (w:=w) jW gP false (a.eval k);rcases asr with ⟨h1,h2,h3⟩ | ⟨j,e0,h1,h2,h3,h4,h5⟩
   ·refine fin (es.push ⟨a.eval k,a.eval y,clock⟩) (clock+1) ?_ (by simpa using h2) (by simpa using h3);rw [ex];simp [Instr.mapUpdate,run_underlying hu,MapKept.run_getObj_map g2,mT,Instr.findKey,run_underlying jW,h1,MapKept.run_setObj_map _ g2]
   ·have hj:es[j]? =some e0:=by simp_all
    simp only [yf] at h1;have abx:=Wb h3
    refine fin (es.modify j fun e=>{e with key:=a.eval k,val:=a.eval y}) clock ?_ ?_ ?_
    ·rw [ex];have Th:Instr.sameBits 10000 (a.eval k) (a.eval k)=true:=by have:=sameBits_self h3 10000;rwa [<-abx] at this
     simp [Instr.mapUpdate,run_underlying hu,MapKept.run_getObj_map g2,mT,Instr.findKey,run_underlying jW,h1,MapKept.run_setObj_map _ g2,hj,Instr.keyThatStays,Th,abx.symm]
    ·have:(es.modify j fun e=>{e with key:=a.eval k,val:=a.eval y}).toList.map (·.key)=es.toList.map (·.key):=by
      apply ybm
      grind
     grind
    ·have:(es.modify j fun e=>{e with key:=a.eval k,val:=a.eval y}).toList.map (·.val)=(es.toList.map (·.val)).set j (a.eval y):=by
      apply ybm
      grind
     grind
def alT (t:ByteArray) (i:Nat):(t.get! i).toNat=(t.data.toList.map xh).getD i 0:=by
 have:t.get! i=t.data[i]! :=by cases t;rfl
 rw [this];by_cases h:i<t.data.size
 ·grind
 ·simp only [Array.getElem!_eq_getD,Array.getD_eq_getD_getElem?,List.getD_eq_getElem?_getD,ybl,Array.getElem?_toList];rw [Array.getElem?_eq_none (by omega)];rfl
def ahh (t:ByteArray) (i:Nat):decodeL (t.data.toList.map xh) i=Utf8.decode t i:=by
 have ek:(t.data.toList.map xh).length=t.size:=by simp
 simp only [decodeL,Utf8.decode,alT,ek]
def aji {o:yZ} {x:xv} {v:AV} {an:Hp} {aV:Nat} (hH:eT O H) (ht:bP O m S w tm a.tmps) (hh:aQ O m S w hp ct)
  (ho:o.op= .next x true) (hv:cF tm hp ct (.oS (aI H x))=some (v,an,aV)):sT O m S w a hp ct o v an aV:=by
 simp only [cF] at hv;have rx:=cf hH ht x;cases hx:aw tm (aI H x)<;>rw [hx] at hv rx<;>simp only [reduceCtorEq] at hv
 rename_i id;simp only [af] at rx;obtain ⟨p,hm,ex⟩:=rx
 split at hv
 case h_2=>cases hv
 rename_i s pos hg;obtain ⟨p',t,g1,g2,g3,g4⟩:=hh.obj id _ _ hg hm;rw [hm] at g1;injection g1 with g1
 subst g1;have ak:(getObj p.b).run O.P w= .ok (.stringIter t pos) w:=by simp [getObj,Sem.run,g2]
 have hlen:s.length=t.size:=by rw [<-g3];simp
 cases hc:yJ pos s.length with
 | false=>
  rw [hc] at hv;simp only [yG,yb,ym] at hv;obtain ⟨rfl,rfl,rfl⟩:=hv;have aR:¬pos<t.size:=by
   intro h
   have:yJ pos s.length=true:=by simp [yJ];omega
   grind
  refine ⟨.value (.tuple #[.bool false]),.tuple #[.bool false],w,m,S,?_,.inl rfl,hh,by simp [af,aq],cY.refl,bU.refl⟩;simp [execOp,ho,ex,Instr.next,ak,aR]
 | true=>
  rw [hc] at hv;simp only [yt] at hv;have aR:pos<t.size:=by
   simp_all
  cases hdc:decodeL s pos with | mk c wd=>
  rw [hdc] at hv;simp only [yb,ym] at hv;obtain ⟨rfl,rfl,rfl⟩:=hv;have hd:Utf8.decode t pos=(c,wd):=by rw [<-ahh,g3,hdc]
  have nT:eJ O m S {w with heap:=w.heap.setIfInBounds p.b (.stringIter t (pos+wd))} id (.si s (pos+wd)):=⟨p,t,hm,J8 g2,g3,g4⟩;obtain ⟨e1,e2⟩:=GJ hh hg hm g4 (Dg w p.b _) nT (fun r hr=>by rw [g2] at hr;cases hr);refine ⟨.value (.tuple #[.bool true,goInt pos,.int .i32 c]),_,_,m,S,?_,.inl rfl,e1,by simp [af,aq,goInt],cY.refl,e2⟩
  have aU:(setObj p.b (.stringIter t (pos+wd))).run O.P w= .ok () {w with heap:=w.heap.setIfInBounds p.b (.stringIter t (pos+wd))}:=by simp [setObj,Sem.run,g2]
  simp [execOp,ho,ex,Instr.next,ak,aR,hd,aU]
end
end
section
open Go
def GA {hp:Hp} {id i:Nat}:ak (db hp id) i=if id=i then none else ak hp i:=by
 induction hp with
 | nil=>simp [db,ak]
 | cons x r ih=>
  obtain ⟨j,q⟩:=x;simp only [db];by_cases hj:j=id
  ·subst hj;simp only [xz,yt,ih,ak];by_cases hi:j=i
   ·grind
   ·have:yr j i=false:=by
     cases hq:yr j i with
     | false=>rfl
     | true=>exact absurd (yj hq) hi
    grind
  ·have hb:yr j id=false:=by
    cases hq:yr j id with
    | false=>rfl
    | true=>exact absurd (yj hq) hj
   simp only [hb,yG];rw [show ak ((j,q)::db r id) i=bif yr j i then some q else ak (db r id) i from rfl,ih];by_cases hi:j=i
   ·subst hi
    have:¬id=j:=fun h=>hj h.symm
    simp [xz,this,ak]
   ·have rL:yr j i=false:=by
     cases hq:yr j i with
     | false=>rfl
     | true=>exact absurd (yj hq) hi
    simp [rL,ak]
section
variable {O:bk} {H:Hint} {m:Mp} {S:Nat->Prop} {w:yi} {tm:Env} {a:Act} {hp:Hp} {ct:Nat}
def Src (P:y5) (w:yi) (size n:Nat) (news:List yh) (x:yh):Prop:=
 (∀w',(Builtin.lenOf x).run P w'= .ok n w')/\news.length=n*size/\
 ∀w',w'.heap=w.heap->∀k,k<=n->(Builtin.firstCells size k x).run P w'= .ok (news.take (k*size)).toArray w'
def Dk {P:y5} {size n c:Nat} {b:uy} {news:List yh} (hl:news.length=n*size) (hc:∀j u,news[j]? =some u->w.cell? (b.add j)=some u):
  Src P w size n news (.slice (some b) n c):=by
 refine ⟨fun w'=>by simp [Builtin.lenOf],hl,fun w' hw k hk=>?_⟩;have hle:k*size<=news.length:=by rw [hl];exact yQ _ hk
 refine run_firstCells_some (P:=P) w' size k b n c (news.take (k*size)) (by rw [yO];omega) (fun j v hv=>?_);rw [List.getElem?_take] at hv
 split at hv
 ·have:=hc j v hv
  simpa [World.cell?,hw] using this
 ·cases hv
def YN {P:y5} {size:Nat}:Src P w size 0 [] (.slice none 0 0):=
 ⟨fun w'=>by simp [Builtin.lenOf],by simp,fun w' _ k hk=>by simp [Builtin.firstCells]⟩
def agc (s:ByteArray) (k:Nat):(s.extract 0 k).data.map (fun b=>Value.int .u8 b.toNat)=((s.data.toList.map fun b=>Value.int .u8 (b.toNat:Int)).take k).toArray:=by
 have:(s.extract 0 k).data=s.data.extract 0 k:=by simp
 grind
def alU {P:y5} {s:ByteArray}:Src P w 1 s.size (s.data.toList.map fun b=>Value.int .u8 (b.toNat:Int)) (.string s):=by
 refine ⟨fun w'=>by simp [Builtin.lenOf],by simp,fun w' _ k hk=>?_⟩;simp only [Builtin.firstCells,Sem.run_pure,Nat.mul_one];rw [agc]
def VJ {ab:Nat->Nat}:∀l:List UInt8,aq ab m S w (La (l.map xh)) (l.map fun b=>Value.int .u8 (b.toNat:Int))
 | []=>by simp [La,aq]
 | b::r=>by
  exact ⟨_,_,rfl,by simp [af],VJ r⟩
def Wc {size n:Nat} {vx:AV} {x:yh} {cs:List AV} (hh:aQ O m S w hp ct) (hx:af O.ab m S w vx x) (h:lP hp size vx=some (n,cs)):
  ∃us,aq O.ab m S w cs us/\Src O.P w size n us x:=by
 cases vx<;>simp only [lP,reduceCtorEq] at h
 case ae=>
  obtain ⟨rfl,rfl⟩:=h;subst hx;exact ⟨[],by simp [aq],YN⟩
 case aA ex n' du=>
  cases hc:yr du.length (n'*size) with
  | false=>rw [hc] at h;cases h
  | true=>
   rw [hc] at h;obtain ⟨rfl,rfl⟩:=h;have hl:=yj hc;rcases hx with ⟨b,o,c,rfl,h1,h2,h3,h4,h5⟩ | ⟨ad,rfl,rfl,rfl⟩
   ·obtain ⟨us,g1,g2,g3⟩:=qw _ b o h5;exact ⟨us,g1,Dk (by omega) (fun j u hj=>by rw [nl];exact g3 j u hj)⟩
   ·exact ⟨[],by simp [aq],Dk (by simp) (fun j u hj=>by simp at hj)⟩
 case ay id o n'=>
  cases hg:ak hp id with
  | none=>simp [hg] at h
  | some ob=>
   cases ob<;>simp only [hg,reduceCtorEq] at h
   rename_i rw pu ex z du
   cases hc:yF (o+n'*size) du.length with
   | false=>rw [hc] at h;cases h
   | true=>
    rw [hc] at h;simp only [yt,yb,ym] at h;obtain ⟨rfl,rfl⟩:=h;have hl:=yq hc;obtain ⟨p,c,hm,rfl,h1,h2⟩:=hx;have hr:=PE (o:=0) (n:=0) hh hg hm;have fp:=zX (n'*size) _ _ _ (px o _ _ _ hr);obtain ⟨us,g1,g2,g3⟩:=qw _ p.b (p.o+o) fp;refine ⟨us,g1,Dk ?_ (fun j u hj=>by rw [nl];exact g3 j u hj)⟩
    grind
def WY {size n:Nat} {vx:AV} {x:yh} {cs:List AV} (hh:aQ O m S w hp ct) (hx:af O.ab m S w vx x) (h:jh hp size vx=some (n,cs)):
  ∃us,aq O.ab m S w cs us/\Src O.P w size n us x:=by
 cases vx<;>try exact Wc hh hx h
 simp only [jh] at h
 cases hc:yr size 1 with
 | false=>rw [hc] at h;cases h
 | true=>
  rw [hc] at h;obtain ⟨rfl,rfl⟩:=h
  have:=yj hc
  subst this;obtain ⟨t,rfl,rfl⟩:=hx;refine ⟨_,VJ _,?_⟩
  have:(List.map xh t.data.toList).length=t.size:=by simp
  rw [this];exact alU
def afn {P:y5} {t u ty e:yC} {i:ydg} (ht:P.underlying t=some (.slice e)) (hu:(∃e',P.underlying u=some (.slice e'))\/P.underlying u=some .string) (hi:P.info? e=some i)
  {g o iC pN:Nat} {cur:Array yh} {te:yC} (hg:w.heap[g]? =some (.cells cur te (0,0))) {x:yh} {n:Nat} {news:List yh} (hs:Src P w i.size n news x) (h1:∀u∈news,u.oneCell'=true)
  (DX:iC+n<=pN) (RJ:o+iC*i.size+news.length<=cur.size):
  (Builtin.append_ #[t,u] ty #[.slice (some ⟨g,o,none⟩) iC pN,x]).run P w=
   .ok (.slice (some ⟨g,o,none⟩) (iC+n) pN) (w.setRow g (cur.toList.take (o+iC*i.size)++news++cur.toList.drop (o+iC*i.size+news.length)).toArray):=by
 obtain ⟨mS,zC,Ti⟩:=hs;have hf:=Ti w rfl n (yA _);rw [yM (by omega)] at hf;have aO:=run_storeCells_at P g (o+iC*i.size) te news 0 cur w hg (by omega) h1;rcases hu with ⟨e',hd⟩ | hd<;>
  simp [Builtin.append_,run_underlying ht,run_underlying hd,vt,typeInfo,hi,mS,DX,hf,nl,aO]
def JZ {P:y5} {t u ty e:yC} {i:ydg} {z:yh} (ht:P.underlying t=some (.slice e)) (hu:(∃e',P.underlying u=some (.slice e'))\/P.underlying u=some .string) (hi:P.info? e=some i) (hz:i.zero=some z)
  {s:yh} {base:Option uy} {iC pN:Nat} (es:s= .slice base iC pN) {lB:List yh} (ho:Src P w i.size iC lB s) {x:yh} {n:Nat} {news:List yh} (hs:Src P w i.size n news x)
  (hg:pN<iC+n) (Tj:iC+n<=1099511627776) (Tg:(iC+n)*i.bytes<=1099511627776):
  (Builtin.append_ #[t,u] ty #[s,x]).run P w=
   .ok (.slice (some ⟨w.heap.size,0,none⟩) (iC+n) (grownCap w (iC+n) pN e))
    (w.drew.alloc (.cells ((lB++news).toArray++Builtin.zeroCells z.cells (grownCap w (iC+n) pN e-(iC+n))) e)):=by
 obtain ⟨mS,zC,Ti⟩:=hs;obtain ⟨ho1,Tk,ho3⟩:=ho;have hf:=Ti w.drew rfl n (yA _);rw [yM (by omega)] at hf;have hfo:=ho3 w.drew rfl iC (yA _);have hn:¬(iC+n<=pN):=by omega
 have ass:¬(9223372036854775807<((iC:Int)+(n:Int))):=by omega
 have RJ:=growslice_fits (need:=iC+n) (old:=pN) (bytes:=i.bytes) hg (by omega);have ast:¬(281474976710656<Builtin.nextslicecap (iC+n) pN*i.bytes):=by omega
 subst es;rcases hu with ⟨e',hd⟩ | hd
 all_goals
  simp [Builtin.append_,run_underlying ht,run_underlying hd,vt,typeInfo,zeroValue,hi,hz,mS,hn,ass,ast,Question.forced,hf,hfo,newRow,askRoom,grownCap]
  grind
def Pm {e:yC} {z:yh} {sz need cap:Nat} {cs:List AV} {us:List yh} (hh:aQ O m S w hp ct) (hr:aq O.ab m S w cs us) (hl:us.length=need*sz) (hz:z.cells.size=sz)
  (B7:Bool) (Tl:B7=true->aD cs=true) (hc:need<=cap):
  let w':=w.drew.alloc (.cells (us.toArray++Builtin.zeroCells z.cells (cap-need)) e)
  let p:Pl:=⟨w.heap.size,0,cap*sz,sz⟩
  ∀m',cY m m'->m' ct=some p->eJ O m' S w' ct (.cells true B7 false sz cs):=by
 intro w' p m' hm hi;have aO:fE S w w':=fun b hb=>by
  have:=hh.slt b hb
  exact RowKit.Below.heap_alloc w.drew _ b (by simpa using this)
 have iX:w'.heap[w.heap.size]? =some (.cells (us.toArray++Builtin.zeroCells z.cells (cap-need)) e (0,0)):=heap_alloc_new w.drew _;have eM:=gH _ _ hr;refine ⟨p,_,e,hi,iX,rfl,?_,?_,by simp,?_,Tl,?_,by simp⟩
 ·show cs.length<=cap*sz
  rw [<-eM,hl];exact yQ _ hc
 ·show 0+cap*sz<=_
  rw [Array.size_append,uY,size_zeroCells,hz,hl,<-wh]
  grind
 ·refine Ks iX cs us 0 (gF hm (fun _ h=>h) aO _ _ hr) (fun j u hj=>?_)
  grind
 ·intro _ hS
  have:=hh.slt _ hS
  grind
def ae9 (hh:aQ O m S w hp ct) (g:tZ):fE S w (w.drew.alloc g):=fun b hb=>by
 have:=hh.slt b hb
 exact RowKit.Below.heap_alloc w.drew _ b (by simpa using this)
def Pn (hh:aQ O m S w hp ct) {hp0:Hp} {g:tZ} {p:Pl} {o:Obj} (Ms:∀i q,ak hp0 i=some q->ak hp i=some q) (hb:p.b=w.heap.size)
  (ho:∀m',cY m m'->m' ct=some p->eJ O m' S (w.drew.alloc g) ct o):
  aQ O (fj m ct p) S (w.drew.alloc g) ((ct,o)::hp0) (ct+1)/\bU m S w hp (fj m ct p) S (w.drew.alloc g) ((ct,o)::hp0) ct:=by
 have hn:m ct=none:=by
  cases h:m ct with
  | none=>rfl
  | some q=>have:=hh.lt _ _ h;omega
 have hle:=jg hn (p:=p);have aO:=ae9 hh g;have hold:∀b,b<w.heap.size->(w.drew.alloc g).heap[b]? =w.heap[b]? :=fun b hb=>RowKit.Below.heap_alloc w.drew _ b (by simpa using hb)
 have ek:(w.drew.alloc g).heap.size=w.heap.size+1:=by simp
 have ie:∀i q,ak ((ct,o)::hp0) i=some q->i≠ct->ak hp i=some q:=fun i q h hi=>by
  rw [fC,yB (fun e=>hi e.symm)] at h
  grind
 refine ⟨⟨?_,?_,?_,?_,?_,?_,?_,?_,fun i q hq=>(by
  by_cases hc:i=ct
  ·omega
  ·have:=hh.aR _ _ (ie i q hq hc);omega)⟩,⟨rfl,rfl,rfl,by omega,?_,fun _ h=>h,fun b hb=>aO b hb,fun b hb=> .inl hb,?_,fun i q _ h=>hle i q h,fun b r hb=>⟨r,(hold b (xu.1 hb).1).trans hb⟩⟩⟩
 ·intro i q pi hi bD;by_cases hc:i=ct
  ·subst hc;rw [fC] at hi;simp only [xA,yb] at hi;subst hi;exact ho _ hle dE
  ·rw [dO hc] at bD;exact qC hle (fun _ h=>h) aO (fun q' bH=>hold _ (hh.blt i q' bH)) (fun _ _ h=>h) (hh.obj i q pi (ie i q hi hc) bD)
 ·intro i q bD;by_cases hc:i=ct
  ·omega
  ·rw [dO hc] at bD;have:=hh.lt i q bD;omega
 ·intro i j oi oj pi pj hi hj bD fX e;by_cases ci:i=ct
  ·by_cases cj:j=ct
   ·grind
   ·subst ci;rw [dE] at bD;rw [dO cj] at fX;injection bD with bD
    subst bD
    have:=hh.blt j pj fX
    omega
  ·rw [dO ci] at bD;by_cases cj:j=ct
   ·subst cj;rw [dE] at fX;injection fX with fX
    subst fX
    have:=hh.blt i pi bD
    omega
   ·rw [dO cj] at fX;exact hh.inj i j oi oj pi pj (ie i oi hi ci) (ie j oj hj cj) bD fX e
 ·intro b hb;have:=hh.slt b hb;omega
 ·intro i q bD;by_cases hc:i=ct
  ·subst hc;rw [dE] at bD;injection bD with bD
   subst bD;omega
  ·rw [dO hc] at bD;have:=hh.blt i q bD;omega
 ·intro i q bD;have h0:=hh.fK;by_cases hc:i=ct
  ·subst hc;rw [dE] at bD;injection bD with bD
   subst bD;omega
  ·rw [dO hc] at bD;exact hh.low i q bD
 ·intro b hb;have h0:=hh.fK;exact (hold b (by omega)).trans (hh.lA b hb)
 ·have h0:=hh.fK;omega
 ·intro b hb _;exact hold b hb
 ·rintro b ⟨i,q,pi,h1,h2,h3⟩;by_cases hc:i=ct
  ·subst hc;rw [dE] at h2;injection h2 with h2
   subst h2;exact .inr (by omega)
  ·rw [dO hc] at h2;exact .inl ⟨i,q,pi,ie i q h1 hc,h2,h3⟩
def ahi (hh:aQ O m S w hp ct) {id:Nat} {o o':Obj} {p p':Pl} {w':yi} (hg:ak hp id=some o) (hm:m id=some p) (hn:¬S p.b) (hw:One w w' p.b) (hk:∀r:uG,w.heap[p.b]? =some (.loop r)->∃r':uG,w'.heap[p.b]? =some (.loop r')) (hb:p'.b=p.b)
  (ho:∀m',cY m m'->m' ct=some p'->eJ O m' S w' ct o'):
  aQ O (fj m ct p') S w' ((ct,o')::db hp id) (ct+1)/\bU m S w hp (fj m ct p') S w' ((ct,o')::db hp id) ct:=by
 have gS:m ct=none:=by
  cases h:m ct with
  | none=>rfl
  | some q=>have:=hh.lt _ _ h;omega
 have hle:=jg gS (p:=p');have aO:fE S w w':=fun b hb=>hw.other b (fun e=>hn (e▸hb))
 have ie:∀i q,ak ((ct,o')::db hp id) i=some q->i≠ct->ak hp i=some q/\i≠id:=fun i q h hi=>by
  rw [fC,yB (fun e=>hi e.symm),GA] at h
  grind
 have aby:∀i q pi,ak hp i=some q->i≠id->m i=some pi->pi.b≠p.b:=fun i q pi h hi bD e=>hi (hh.inj i id q o pi p h hg bD hm e)
 refine ⟨⟨?_,?_,?_,?_,?_,?_,?_,?_,fun i q hq=>(by
  by_cases hc:i=ct
  ·omega
  ·have:=hh.aR _ _ (ie i q hq hc).1;omega)⟩,⟨hw.os,hw.tape,hw.output,by rw [hw.size];exact yA _,?_,fun _ h=>h,fun b hb=>aO b hb,fun b hb=> .inl hb,?_,fun i q _ h=>hle i q h,fun b r hb=>(by
  by_cases hc:b=p.b
  ·grind
  ·exact ⟨r,(hw.other b hc).trans hb⟩)⟩⟩
 ·intro i q pi hi bD;by_cases hc:i=ct
  ·subst hc;rw [fC] at hi;simp only [xA,yb] at hi;subst hi;exact ho _ hle dE
  ·rw [dO hc] at bD;obtain ⟨h1,h2⟩:=ie i q hi hc;exact qC hle (fun _ h=>h) aO (fun q' bH=>hw.other _ (aby i q q' h1 h2 bH)) (fun _ _ h=>h) (hh.obj i q pi h1 bD)
 ·intro i q bD;by_cases hc:i=ct
  ·omega
  ·rw [dO hc] at bD;have:=hh.lt i q bD;omega
 ·intro i j oi oj pi pj hi hj bD fX e;by_cases ci:i=ct
  ·by_cases cj:j=ct
   ·grind
   ·subst ci;rw [dE] at bD;rw [dO cj] at fX
    grind
  ·rw [dO ci] at bD;obtain ⟨h1,h2⟩:=ie i oi hi ci;by_cases cj:j=ct
   ·subst cj;rw [dE] at fX;injection fX with fX
    subst fX;exact (aby i oi pi h1 h2 bD (by rw [e,hb])).elim
   ·rw [dO cj] at fX;exact hh.inj i j oi oj pi pj h1 (ie j oj hj cj).1 bD fX e
 ·intro b hb;rw [hw.size];exact hh.slt b hb
 ·intro i q bD;rw [hw.size];by_cases hc:i=ct
  ·subst hc;rw [dE] at bD;injection bD with bD
   subst bD;rw [hb];exact hh.blt id p hm
  ·rw [dO hc] at bD;exact hh.blt i q bD
 ·intro i q bD;by_cases hc:i=ct
  ·subst hc;rw [dE] at bD;injection bD with bD
   subst bD;rw [hb];exact hh.low id p hm
  ·rw [dO hc] at bD;exact hh.low i q bD
 ·intro b hb
  rw [hw.other b (fun e=>by have:=hh.low id p hm;omega)];exact hh.lA b hb
 ·rw [hw.size];exact hh.fK
 ·intro b _ bX;exact hw.other b (fun e=>bX (e▸Hd hg hm))
 ·rintro b ⟨i,q,pi,h1,h2,h3⟩;by_cases hc:i=ct
  ·subst hc;rw [dE] at h2;injection h2 with h2
   subst h2;exact .inl ⟨id,o,p,hg,hm,by rw [<-h3,hb]⟩
  ·rw [dO hc] at h2;exact .inl ⟨i,q,pi,(ie i q h1 hc).1,h2,h3⟩
def YO {P:y5} {e:yC} {s by':Nat} {z:AV} (hs:cw P e=some s) (hb:rF P e=some by') (hz:li P e=some z):
  ∃ti zv,P.info? e=some ti/\ti.size=s/\ti.bytes=by'/\ti.zero=some zv/\z=eb zv:=by
 unfold cw at hs;unfold rF at hb;unfold li at hz
 cases hi:P.info? e with
 | none=>simp [hi] at hs
 | some ti=>
  simp only [hi,yb] at hs hb hz
  cases fo:ti.zero with
  | none=>simp [fo] at hz
  | some zv=>
   grind
def GK {o:yZ} {v:AV} {u:yh} {w':yi} {m':Mp} {S':Nat->Prop} {an:Hp} {aV:Nat} (h1:(execOp a.eval o).run O.P w= .ok (.value u) w') (h2:aQ O m' S' w' an aV) (h3:af O.ab m' S' w' v u)
  (h4:cY m m') (h5:bU m S w hp m' S' w' an ct):sT O m S w a hp ct o v an aV:=⟨_,u,w',m',S',h1,.inl rfl,h2,h3,h4,h5⟩
def ajj {o:yZ} {b':yC} {t u e:yC} {sz by':Nat} {z:AV} {x y:xv} {v:AV} {an:Hp} {aV:Nat} (hH:eT O H) (ht:bP O m S w tm a.tmps) (hh:aQ O m S w hp ct)
  (ez:(execOp a.eval o).run O.P w=((do pure (.value (<-Builtin.append_ #[t,u] b' #[a.eval x,a.eval y])):Sem yaB)).run O.P w)
  (rN:O.P.underlying t=some (.slice e)) (hu:(∃e',O.P.underlying u=some (.slice e'))\/O.P.underlying u=some .string) (hs:cw O.P e=some sz) (hb:rF O.P e=some by') (hz:li O.P e=some z) (p6:(cellsOf z).length=sz)
  (hv:cF tm hp ct (.cQ sz by' (aI H x) (aI H y))=some (v,an,aV)):sT O m S w a hp ct o v an aV:=by
 simp only [cF] at hv;obtain ⟨ti,zv,p7,rfl,rfl,Jf,rfl⟩:=YO hs hb hz;have aG:∀u' w',(Builtin.append_ #[t,u] b' #[a.eval x,a.eval y]).run O.P w= .ok u' w'->(execOp a.eval o).run O.P w= .ok (.value u') w':=fun u' w' h=>by
  rw [ez,Sem.run_bind,h];rfl
 have qV:m ct=none:=by
  cases h:m ct with
  | none=>rfl
  | some q=>have:=hh.lt _ _ h;omega
 have CJ:zv.cells.size=ti.size:=by
  have:=gH _ _ (By (ab:=O.ab) (m:=m) (S:=S) (w:=w) zv)
  rw [<-p6,<-this];simp
 cases pO:jh hp ti.size (aw tm (aI H y)) with
 | none=>simp [pO] at hv
 | some q=>
  obtain ⟨n,new⟩:=q;simp only [pO] at hv;obtain ⟨news,fa,dd⟩:=WY hh (cf hH ht y) pO;have Jg:=gH _ _ fa;have rx:=cf hH ht x
  cases hx:aw tm (aI H x) with
  | ae=>
   rw [hx] at hv rx;simp only at hv;simp only [af] at rx
   cases h0:yr n 0 with
   | true=>
    rw [h0] at hv;simp only [yt,yb,ym] at hv;obtain ⟨rfl,rfl,rfl⟩:=hv;have rO:=yj h0;subst rO;have Q6:news=[]:=yH (by rw [dd.2.1];simp)
    subst Q6;have hf:=dd.2.2 w rfl 0 (yA _);have jt:=dd.1 w;refine ⟨.value (.slice none 0 0),.slice none 0 0,w,m,S,?_,.inl rfl,hh,by simp [af],cY.refl,bU.refl⟩;rw [ez,rx];rcases hu with ⟨e',hu⟩ | hu<;>
     simp [Builtin.append_,run_underlying rN,run_underlying hu,vt,typeInfo,p7,jt,hf]
   | false=>
    rw [h0] at hv;simp only [yG] at hv
    cases hc:(yF n room&&(yF (n*ti.bytes) room&&yJ 0 ti.size)) with
    | false=>rw [hc] at hv;cases hv
    | true=>
     rw [hc] at hv;simp only [yt,yb,ym] at hv;obtain ⟨rfl,rfl,rfl⟩:=hv;simp only [yg] at hc;have c1:=yq hc.1;have c2:=yq hc.2.1;simp only [room] at c1 c2;have rO:0<n:=by
      rcases xi n with h | h
      ·subst h;simp at h0
      ·exact h
     have hr:=JZ (P:=O.P) (ty:=b') (w:=w) rN hu p7 Jf (s:= .slice none 0 0) rfl (YN (P:=O.P) (size:=ti.size)) dd (by omega) (by omega) (by simpa using c2);simp only [yf,List.nil_append] at hr;have jF:=grownCap_ge w n 0 e;have iX:=Pm (e:=e) (z:=zv) (cap:=grownCap w n 0 e) hh fa (need:=n) (sz:=ti.size) dd.2.1 CJ (aD new) (fun h=>h) jF;obtain ⟨k1,k2⟩:=Pn hh (hp0:=hp) (p:=⟨w.heap.size,0,grownCap w n 0 e*ti.size,ti.size⟩) (fun _ _ h=>h) rfl iX;exact GK (aG _ _ (by rw [rx];exact hr)) k1 (by simp only [af];exact ⟨_,_,dE,rfl,jF,by simp⟩) (jg qV) k2
  | aA ex k cs=>
   rw [hx] at hv rx
   cases ex with
   | false=>simp at hv
   | true=>
    simp only at hv;have rx0:=rx;simp only [af] at rx;have rx1:∃ad lB,a.eval x= .slice (some ad) k k/\aq O.ab m S w cs lB/\lB.length=cs.length/\(∀(j:Nat) (u:yh),lB[j]? =some u->w.cell? (ad.add j)=some u)/\aD cs=true:=by
     rcases rx with ⟨bb,oo,c,ex,h1,h2,h3,h4,h5⟩ | ⟨ad,ex,rfl,rfl⟩
     ·have mT:c=k:=h2 (by trivial);subst mT;obtain ⟨lB,g1,g2,g3⟩:=qw cs bb oo h5;exact ⟨_,lB,ex,g1,g2,fun j u hj=>by rw [nl];exact g3 j u hj,h4⟩
     ·exact ⟨ad,[],ex,by simp [aq],rfl,fun j u hj=>by simp at hj,rfl⟩
    obtain ⟨ad,lB,ex,g1,g2,g3,h4⟩:=rx1
    cases h0:yr n 0 with
    | true=>
     rw [h0] at hv;simp only [yt,yb,ym] at hv;obtain ⟨rfl,rfl,rfl⟩:=hv;have rO:=yj h0;subst rO;have Q6:news=[]:=yH (by rw [dd.2.1];simp)
     subst Q6;have hf:=dd.2.2 w rfl 0 (yA _);have jt:=dd.1 w;refine ⟨.value (a.eval x),a.eval x,w,m,S,?_,.inl rfl,hh,rx0,cY.refl,bU.refl⟩;rw [ez,ex];rcases hu with ⟨e',hu⟩ | hu<;>
      simp [Builtin.append_,run_underlying rN,run_underlying hu,vt,typeInfo,p7,jt,hf,storeCells]
    | false=>
     rw [h0] at hv;simp only [yG] at hv
     cases hc:(yF (k+n) room&&(yF ((k+n)*ti.bytes) room&&(yr cs.length (k*ti.size)&&yJ 0 ti.size))) with
     | false=>rw [hc] at hv;cases hv
     | true=>
      rw [hc] at hv;simp only [yt,yb,ym] at hv;obtain ⟨rfl,rfl,rfl⟩:=hv;simp only [yg] at hc;have c1:=yq hc.1;have c2:=yq hc.2.1;have c3:=yj hc.2.2.1;simp only [room] at c1 c2;have rO:0<n:=by
       rcases xi n with h | h
       ·subst h;simp at h0
       ·exact h
      have Jh:Src O.P w ti.size k lB (.slice (some ad) k k):=Dk (by omega) g3;have hr:=JZ (P:=O.P) (ty:=b') (w:=w) rN hu p7 Jf rfl Jh dd (by omega) c1 c2;have jF:=grownCap_ge w (k+n) k e;have iX:=Pm (e:=e) (z:=zv) (cap:=grownCap w (k+n) k e) hh (kS g1 fa) (need:=k+n) (sz:=ti.size) (by rw [yR,g2,c3,dd.2.1,wh]) CJ (aD cs&&aD new)
       (fun h=>by simp only [yg] at h;exact Bz h.1 h.2) jF
      obtain ⟨k1,k2⟩:=Pn hh (hp0:=hp) (p:=⟨w.heap.size,0,grownCap w (k+n) k e*ti.size,ti.size⟩) (fun _ _ h=>h) rfl iX;exact GK (aG _ _ (by rw [ex];exact hr)) k1 (by simp only [af];exact ⟨_,_,dE,rfl,jF,by simp⟩) (jg qV) k2
  | ay id o0 k=>
   rw [hx] at hv rx;simp only at hv;simp only [af] at rx;obtain ⟨p,c,hm,ex,h1,h2⟩:=rx
   split at hv
   case h_2=>cases hv
   rename_i pu NK zz cs hg
   cases hc:(yr zz ti.size&&(yF (k+n) room&&(yF ((k+n)*ti.bytes) room&&(yF (o0+k*ti.size) cs.length&&(yJ 0 ti.size&&bL new))))) with
   | false=>rw [hc] at hv;cases hv
   | true=>
    rw [hc] at hv;simp only [yt,yb,ym] at hv;obtain ⟨rfl,rfl,rfl⟩:=hv;simp only [yg] at hc;have c0:=yj hc.1;have c1:=yq hc.2.1;have c2:=yq hc.2.2.1;have c3:=yq hc.2.2.2.1;have c4:=hc.2.2.2.2.2;simp only [room] at c1 c2;obtain ⟨p',arr,t',g1,g2,g3,g4,g5,g6,g7,g8,g9,g10⟩:=hh.obj id _ _ hg hm;rw [hm] at g1;injection g1 with g1
    subst g1;subst c0;rw [g3] at h2;have EF:bI O.ab m S w (slice o0 (k*ti.size) cs) p.b (p.o+o0):=zX _ _ _ _ (px _ _ _ _ g7);obtain ⟨lB,f1,f2,f3⟩:=qw _ _ _ EF;have Mt:(slice o0 (k*ti.size) cs).length=k*ti.size:=by simp only [slice,yO,xO];omega
    have mQ:(pu&&aD new)=true->aD (slice o0 (k*ti.size) cs++new)=true:=fun h=>by
     simp only [yg] at h;exact Bz (zT _ (sn _ _ (g8 h.1))) h.2
    by_cases DX:k+n<=c
    ·have eV:=Kt fa c4;have RJ:p.o+o0+k*ti.size+news.length<=arr.size:=by
      rw [dd.2.1]
      have:(k+n)*ti.size<=c*ti.size:=yQ _ DX
      rw [wh] at this;omega
     have hr:=afn (P:=O.P) (ty:=b') (w:=w) rN hu p7 g2 dd eV DX RJ;have ho:∀m',cY m m'->m' ct=some ⟨p.b,p.o+o0,c*ti.size,ti.size⟩->
       eJ O m' S (w.setRow p.b (arr.toList.take (p.o+o0+k*ti.size)++news++arr.toList.drop (p.o+o0+k*ti.size+news.length)).toArray) ct
        (.cells true (pu&&aD new) false ti.size (slice o0 (k*ti.size) cs++new)):=by
      intro m' hle hi;have aO:fE S w (w.setRow p.b (arr.toList.take (p.o+o0+k*ti.size)++news++arr.toList.drop (p.o+o0+k*ti.size+news.length)).toArray):=fun b hb=>setRow_other w p.b b _ (fun e=>g9 rfl (e▸hb))
      refine ⟨_,_,t',hi,setRow_heap w p.b arr _ t' _ g2,rfl,?_,?_,by simp,?_,mQ,fun _=>g9 rfl,by simp⟩
      ·show (slice o0 (k*ti.size) cs++new).length<=c*ti.size
       rw [yR,Mt,<-Jg,dd.2.1,<-wh];exact yQ _ DX
      ·show p.o+o0+c*ti.size<=_
       rw [uY,yR,yR,yO,xO,vD];omega
      ·refine Ds _ (lB++news) _ (kS (gF hle (fun _ h=>h) aO _ _ f1) (gF hle (fun _ h=>h) aO _ _ fa)) (fun j u hj=>?_);show World.cell? _ ⟨p.b,p.o+o0+j,none⟩=some u
       simp only [World.cell?,setRow_heap w p.b arr _ t' _ g2,tC,yD,xk];rw [yaF];have e1:(arr.toList.take (p.o+o0+k*ti.size)).length=p.o+o0+k*ti.size:=by rw [yO,vD];omega
       by_cases Jb:j<k*ti.size
       ·rw [wu (by omega)] at hj;rw [xt,wu (by omega),uK (by omega)]
        have:=f3 j u hj
        simpa [World.cell?,g2] using this
       ·rw [xU (by omega)] at hj;have hjl:=(List.getElem?_eq_some_iff.1 hj).1;rw [xt,xU (by omega),e1,wu (by omega),show p.o+o0+j-(p.o+o0+k*ti.size)=j-lB.length by omega];exact hj
     obtain ⟨k1,k2⟩:=ahi (p':=⟨p.b,p.o+o0,c*ti.size,ti.size⟩) hh hg hm (g9 rfl) (O2 w p.b _) (fun r hr=>by rw [g2] at hr;cases hr) rfl ho;exact GK (aG _ _ (by rw [ex];exact hr)) k1 (by simp only [af];exact ⟨_,c,dE,rfl,DX,by simp⟩) (jg qV) k2
    ·have Jh:Src O.P w ti.size k lB (.slice (some ⟨p.b,p.o+o0,none⟩) k c):=Dk (by omega) (fun j u hj=>by rw [nl];exact f3 j u hj)
     have hr:=JZ (P:=O.P) (ty:=b') (w:=w) rN hu p7 Jf rfl Jh dd (by omega) c1 c2;have jF:=grownCap_ge w (k+n) c e;have iX:=Pm (e:=e) (z:=zv) (cap:=grownCap w (k+n) c e) hh (kS f1 fa) (need:=k+n) (sz:=ti.size) (by rw [yR,f2,Mt,dd.2.1,wh]) CJ (pu&&aD new) mQ jF;obtain ⟨k1,k2⟩:=Pn hh (hp0:=db hp id) (p:=⟨w.heap.size,0,grownCap w (k+n) c e*ti.size,ti.size⟩) (fun i q h=>by
      rw [GA] at h;by_cases hi:id=i
      ·simp [hi] at h
      ·simpa only [hi,xk] using h) rfl iX
     exact GK (aG _ _ (by rw [ex];exact hr)) k1 (by simp only [af];exact ⟨_,_,dE,rfl,jF,by simp⟩) (jg qV) k2
  | _=>rw [hx] at hv;simp at hv
end
end
section
open Go
section
variable {O:bk} {H:Hint} {m:Mp} {S:Nat->Prop} {w:yi} {tm:Env} {a:Act} {hp:Hp} {ct:Nat}
def afE {n:Nat} {cs:List AV} (h:aD cs=true):aD (cs.take n)=true:=zT n h
def Vt:∀(n:Nat) {cs:List AV},bL cs=true->bL (cs.take n)=true
 | 0,_,_=>by simp [bL]
 | n+1,[],_=>by simp [bL]
 | n+1,c::cs,h=>by
  simp only [wg,bL,yg] at h ⊢;exact ⟨h.1,Vt n h.2⟩
def ajk {o:yZ} {b':yC} {t u e:yC} {sz:Nat} {x y:xv} {v:AV} {an:Hp} {aV:Nat} (hH:eT O H) (ht:bP O m S w tm a.tmps) (hh:aQ O m S w hp ct)
  (ez:(execOp a.eval o).run O.P w=((do pure (.value (<-Builtin.copy_ #[t,u] b' #[a.eval x,a.eval y])):Sem yaB)).run O.P w)
  (rN:O.P.underlying t=some (.slice e)) (hs:cw O.P e=some sz)
  (hv:cF tm hp ct (.oU sz (aI H x) (aI H y))=some (v,an,aV)):sT O m S w a hp ct o v an aV:=by
 simp only [cF] at hv
 cases pO:lP hp sz (aw tm (aI H y)) with
 | none=>simp [pO] at hv
 | some q=>
  obtain ⟨n,new⟩:=q;simp only [pO] at hv;obtain ⟨news,fa,dd⟩:=Wc hh (cf hH ht y) pO;have Jg:=gH _ _ fa;have rx:=cf hH ht x;cases hx:aw tm (aI H x)<;>rw [hx] at hv rx<;>simp only [reduceCtorEq] at hv
  rename_i id o0 k;simp only [af] at rx;obtain ⟨p,c,hm,ex,h1,h2⟩:=rx
  split at hv
  case h_2=>cases hv
  rename_i pu NK zz cs hg
  cases hc:(yr zz sz&&(yF (o0+k*sz) cs.length&&bL new)) with
  | false=>rw [hc] at hv;cases hv
  | true=>
   rw [hc] at hv;simp only [yt,yb,ym] at hv;obtain ⟨rfl,rfl,rfl⟩:=hv;simp only [yg] at hc;have c0:=yj hc.1;have c1:=yq hc.2.1;subst c0;obtain ⟨p',arr,t',g1,g2,g3,g4,g5,g6,g7,g8,g9,g10⟩:=hh.obj id _ _ hg hm;rw [hm] at g1;injection g1 with g1
   subst g1;have abz:min n k*zz<=k*zz:=yQ _ (Nat.min_le_right _ _);have ayb:min n k*zz<=n*zz:=yQ _ (ybW _ _);have rt:=Dj (min n k*zz) fa;have rP:(news.take (min n k*zz)).length=min n k*zz:=by rw [yO,dd.2.1];omega
   have ayk:(new.take (min n k*zz)).length=min n k*zz:=by rw [yO,<-Jg,dd.2.1];omega
   have eV:=Kt rt (Vt _ hc.2.2);have hf:=dd.2.2 w rfl (min n k) (ybW _ _);have aO:=run_storeCells_at O.P p.b (p.o+o0) t' (news.take (min n k*zz)) 0 arr w g2 (by rw [rP];omega) eV;simp only [yW] at aO;have nT:eJ O m S (w.setRow p.b (arr.toList.take (p.o+o0)++news.take (min n k*zz)++arr.toList.drop (p.o+o0+(news.take (min n k*zz)).length)).toArray) id
     (.cells true (pu&&aD new) NK zz (over o0 (new.take (min n k*zz)) cs)):=by
    refine ⟨p,_,t',hm,setRow_heap w p.b arr _ t' _ g2,g3,by rw [KK (by omega)];exact g4,?_,fun h=>by rw [KK (by omega)];exact g6 h,?_,?_,fun _=>g9 rfl,by simp⟩
    ·rw [uY,yR,yR,yO,xO,vD,rP];omega
    ·exact XO g2 g7 rt (by omega) (by omega) cY.refl (fun _ h=>h) (fun b hb=>setRow_other w p.b b _ (fun e=>g9 rfl (e▸hb))) (setRow_heap w p.b arr _ t' _ g2)
    ·intro h;simp only [yg] at h;exact Wa (g8 h.1) (afE h.2)
   obtain ⟨e1,e2⟩:=GJ hh hg hm (g9 rfl) (O2 w p.b _) nT (fun r hr=>by rw [g2] at hr;cases hr)
   refine GK (u:=goInt ((min n k:Nat):Int)) (m':=m) (S':=S) ?_ e1 (by simp [af,goInt]) cY.refl e2;rw [ez,ex];simp [Builtin.copy_,run_underlying rN,dd.1 w,mZ hs,show Nat.min n k=min n k from rfl,hf,aO]
def alV {o:yZ} {k:Nat} {v:AV} {an:Hp} {aV:Nat} (hH:eT O H) (ht:bP O m S w tm a.tmps) (hh:aQ O m S w hp ct)
  (hv:cF tm hp ct (aS O.P H k o)=some (v,an,aV)):sT O m S w a hp ct o v an aV:=by
 have hZ:∀{r:AV×Hp×Nat},cF tm hp ct bad=some r->False:=fun h=>by simp [bad,cF] at h
 cases ho:o.op with
 | call c=>
  obtain ⟨callee,args,ts⟩:=c;simp only [aS,ho] at hv
  split at hv
  ·cases CH:H.mode k<;>simp [CH,cF] at hv
  ·rename_i _ b
   split at hv
   ·rename_i x y t u fL mo;obtain ⟨al⟩:=args;obtain ⟨tl⟩:=ts;simp only at fL mo;subst fL;subst mo;obtain ⟨cs,ez⟩:=Dc (O:=O) (w:=w) (a:=a) ho;have HS:(execOp a.eval o).run O.P w=((do pure (.value (<-Builtin.append_ #[t,u] o.type #[a.eval x,a.eval y])):Sem yaB)).run O.P w:=by
     rw [ez];simp [builtin]
    have key:∀{z:AV} {sz by':Nat} {e:yC},O.P.underlying t=some (.slice e)->((∃e',O.P.underlying u=some (.slice e'))\/O.P.underlying u=some .string)->cw O.P e=some sz->rF O.P e=some by'->li O.P e=some z->
      cF tm hp ct (bif yr (cellsOf z).length sz then .cQ sz by' (aI H x) (aI H y) else bad)=some (v,an,aV)->sT O m S w a hp ct o v an aV:=by
     intro z sz by' e h1 h2 h3 h4 h5 h
     cases hb:yr (cellsOf z).length sz with
     | false=>rw [hb] at h;exact (hZ h).elim
     | true=>
      rw [hb] at h;exact ajj hH ht hh HS h1 h2 h3 h4 h5 (yj hb) h
    split at hv
    ·rename_i e e' h1 h2
     split at hv
     ·rename_i sz by' z h3 h4 h5
      exact key h1 (.inl ⟨_,h2⟩) h3 h4 h5 hv
     ·exact (hZ hv).elim
    ·rename_i e h1 h2
     split at hv
     ·rename_i sz by' z h3 h4 h5
      exact key h1 (.inr h2) h3 h4 h5 hv
     ·exact (hZ hv).elim
    ·exact (hZ hv).elim
   ·repeat' split at hv
    all_goals simp [cF,bad] at hv
   ·rename_i x y t u fL mo;obtain ⟨al⟩:=args;obtain ⟨tl⟩:=ts;simp only at fL mo;subst fL;subst mo;obtain ⟨cs,ez⟩:=Dc (O:=O) (w:=w) (a:=a) ho;have HS:(execOp a.eval o).run O.P w=((do pure (.value (<-Builtin.copy_ #[t,u] o.type #[a.eval x,a.eval y])):Sem yaB)).run O.P w:=by
     rw [ez];simp [builtin]
    split at hv
    ·rename_i e h1
     split at hv
     ·rename_i sz h3;exact ajk hH ht hh HS h1 h3 hv
     ·exact (hZ hv).elim
    ·exact (hZ hv).elim
   ·simp [cF] at hv
   ·simp [cF] at hv
   ·exact (hZ hv).elim
  ·exact (hZ hv).elim
 | store t x y=>
  simp only [aS,ho] at hv
  split at hv
  ·rename_i s hs;exact alS hH ht hh ho hs hv
  ·exact (hZ hv).elim
 | mapUpdate t x k y=>
  simp only [aS,ho] at hv
  split at hv
  ·rename_i kt e hu
   split at hv
   ·rename_i kk pZ;exact XP hH ht hh (.inl ho) hu pZ hv
   ·exact (hZ hv).elim
  ·exact (hZ hv).elim
 | insert t x k y=>
  simp only [aS,ho] at hv
  split at hv
  ·rename_i kt e hu
   split at hv
   ·rename_i kk pZ;exact XP hH ht hh (.inr ho) hu pZ hv
   ·exact (hZ hv).elim
  ·exact (hZ hv).elim
 | next x b=>
  cases b with
  | false=>simp only [aS,ho] at hv;exact (hZ hv).elim
  | true=>exact aji hH ht hh ho (by simpa only [aS,ho] using hv)
 | binOp op t x y ty=>
  cases op<;>simp only [aS,ho,nk,og] at hv
  case eql=>
        repeat' split at hv
        all_goals first
         | (simp [cF,bad] at hv;done)
         | (cases hb:(O.P.stoodInHeld t||O.P.eqGuardType O.P.depth t)<;>rw [hb] at hv<;>simp [cF,bad] at hv)
  case neq=>
        repeat' split at hv
        all_goals first
         | (simp [cF,bad] at hv;done)
         | (cases hb:(O.P.stoodInHeld t||O.P.eqGuardType O.P.depth t)<;>rw [hb] at hv<;>simp [cF,bad] at hv)
  all_goals simp [cF] at hv
 | buildSlice t n parts=>
  simp only [aS,ho] at hv
  repeat' split at hv
  all_goals first
   | (simp [cF,bad] at hv;done)
   | (
     revert hv;generalize yF _ _=bb;intro hv;cases bb<;>simp [cF,bad] at hv
     try (split at hv<;>simp [cF,bad] at hv))
 | makeMap t r=>
  cases r<;>simp only [aS,ho] at hv
  ·repeat' split at hv
   all_goals simp [cF,bad] at hv
  ·exact (hZ hv).elim
 | _=>
  simp only [aS,ho] at hv
  (repeat' split at hv)
  all_goals first
   | contradiction
   | (simp [cF,bad] at hv;done)
end
end
section
variable {hp H:Hp} {tm tm':Env}
def YP (hl:cO hp H) {id:Nat} {rw pu ex:Bool} {sz:Nat} {cs:List AV} (h:ak hp id=some (.cells rw pu ex sz cs)):∃dW,ak H id=some (.cells dW pu ex sz cs):=by
 obtain ⟨o',h1,dW,rfl,_⟩:=hl id _ h;exact ⟨dW,h1⟩
def YQ (hl:cO hp H) {id:Nat} {rw:Bool} {ks vs:List AV} (h:ak hp id=some (.mp rw ks vs)):∃dW,ak H id=some (.mp dW ks vs):=by
 obtain ⟨o',h1,dW,rfl,_⟩:=hl id _ h;exact ⟨dW,h1⟩
def YR (hl:cO hp H) {sz:Nat} {ag:Bool} {x v:AV} (h:iW hp sz ag x=some v):iW H sz ag x=some v:=by
 cases x<;>simp only [iW,reduceCtorEq] at h ⊢
 ·rename_i id o
  cases hg:ak hp id with
  | none=>simp [hg] at h
  | some ob=>
   cases ob<;>simp only [hg,reduceCtorEq] at h
   obtain ⟨r,h1⟩:=YP hl hg;simp only [h1];exact h
 ·exact h
def ajl (hl:cO hp H) {k x:AV} {v:Option AV} (h:Ay hp k x=some v):Ay H k x=some v:=by
 cases x<;>simp only [Ay,reduceCtorEq] at h ⊢
 ·exact h
 ·rename_i id
  cases hg:ak hp id with
  | none=>simp [hg] at h
  | some ob=>
   cases ob<;>simp only [hg,reduceCtorEq] at h
   obtain ⟨r,h1⟩:=YQ hl hg;simp only [h1];exact h
 ·exact h
def ajm (hl:cO hp H) {k:Nat} {x v:AV} (h:jk hp k x=some v):jk H k x=some v:=by
 unfold jk at h ⊢
 split at h
 all_goals first
  | exact h
  | cases h
  | skip
 rename_i id
 cases hg:ak hp id with
 | none=>simp [hg] at h
 | some ob=>
  cases ob<;>simp only [hg,reduceCtorEq] at h
  obtain ⟨r,h1⟩:=YQ hl hg;simp only [h1];exact h
def ajn (hl:cO hp H) {k:Cut} {x v:AV} {lo hi:Option X} (h:fg hp k x tm lo hi=some v):fg H k x tm lo hi=some v:=by
 unfold fg at h ⊢
 split at h
 all_goals first
  | exact h
  | cases h
  | skip
 rename_i sz id o n
 cases hg:ak hp id with
 | none=>simp [hg] at h
 | some ob=>
  cases ob<;>simp only [hg,reduceCtorEq] at h
  obtain ⟨r,h1⟩:=YP hl hg;simp only [h1];exact h
def ahj (hl:cO hp H) {o:Op} {v:AV} (h:bi tm hp o=some v):bi tm H o=some v:=by
 cases o<;>simp only [bi,reduceCtorEq] at h ⊢<;>first
  | exact h
  | exact YR hl h
  | exact ajm hl h
  | exact ajn hl h
  | skip
 rename_i kk zero ok m k
 cases hk:sG kk (aw tm k) with
 | false=>rw [hk] at h;cases h
 | true=>
  rw [hk] at h;simp only [yt] at h ⊢
  cases hr:Ay hp (aw tm k) (aw tm m) with
  | none=>simp [hr] at h
  | some r=>rw [ajl hl hr];simpa only [hr] using h
def ahk {o:Op} (hk:bj o=0) (hp H:Hp):bi tm hp o=bi tm H o:=by
 cases o with
 | oP k x lo hi=>
  cases k with
  | str=>simp only [bi,fg];cases aw tm x<;>rfl
  | sl sz=>simp [bj] at hk
  | ar n sz=>simp [bj] at hk
 | len k x=>
  match k,hk with
  | 0,_=>simp only [bi];unfold jk;split<;>simp_all
  | 1,_=>simp only [bi];unfold jk;split<;>simp_all
  | k+2,hk=>simp [bj] at hk
 | call md f xs=>cases md<;>simp [bj] at hk
 | _=>first
  | rfl
  | simp [bj] at hk
end
section
variable {tm tm':Env}
def dw {x:X} (h:∀t,t∈iR x->aj tm' t=aj tm t):aw tm' x=aw tm x:=by
 cases x with
 | t i=>exact h i (by simp [iR])
 | c v=>rfl
def BD:∀{xs:List X},(∀t,t∈sM xs->aj tm' t=aj tm t)->cZ tm' xs=cZ tm xs
 | [],_=>rfl
 | x::r,h=>by
  simp only [cZ]
  rw [dw (x:=x) (fun t ht=>h t (by simp [sM,ht])),BD (fun t ht=>h t (by simp [sM,ht]))]
def Po:∀{ps:List (Nat×Nat×X)} {z:List AV},(∀t,t∈HO ps->aj tm' t=aj tm t)->fill tm' z ps=fill tm z ps
 | [],_,_=>rfl
 | (o,s,x)::r,z,h=>by
  simp only [fill]
  rw [dw (x:=x) (fun t ht=>h t (by simp [HO,ht]))]
  rw [Po (ps:=r) (fun t ht=>h t (by simp [HO,ht]))]
def We {d:Nat} {x:Option X} (h:∀t,t∈HN x->aj tm' t=aj tm t):cB tm' d x=cB tm d x:=by
 cases x with
 | none=>rfl
 | some x=>simp only [cB];rw [dw h]
def agd {hp:Hp} {k:Cut} {x:AV} {lo hi:Option X} (h1:∀t,t∈HN lo->aj tm' t=aj tm t) (h2:∀t,t∈HN hi->aj tm' t=aj tm t):
  fg hp k x tm' lo hi=fg hp k x tm lo hi:=by
 unfold fg;simp only [We h1,We h2]
def afF {hp:Hp} {o:Op} (h:∀t,t∈jL o->aj tm' t=aj tm t):bi tm' hp o=bi tm hp o:=by
 cases o<;>simp only [jL,wC] at h<;>simp only [bi]
 case pick c a b=>rw [dw (x:=c) fun t ht=>h t (.inl ht),dw (x:=a) fun t ht=>h t (.inr (.inl ht)),dw (x:=b) fun t ht=>h t (.inr (.inr ht))]
 case Aw z ps=>rw [Po h]
 case Ey f a b=>rw [BD (xs:=a) fun t ht=>h t (.inl ht),BD (xs:=b) fun t ht=>h t (.inr ht)]
 case oP k x lo hi=>rw [dw (x:=x) fun t ht=>h t (.inl ht),agd (fun t ht=>h t (.inr (.inl ht))) (fun t ht=>h t (.inr (.inr ht)))]
 case mn xs=>rw [BD h]
 case mx xs=>rw [BD h]
 case bin op x y=>rw [dw (x:=x) fun t ht=>h t (.inl ht),dw (x:=y) fun t ht=>h t (.inr ht)]
 case eq n k x y=>rw [dw (x:=x) fun t ht=>h t (.inl ht),dw (x:=y) fun t ht=>h t (.inr ht)]
 case br s x y=>rw [dw (x:=x) fun t ht=>h t (.inl ht),dw (x:=y) fun t ht=>h t (.inr ht)]
 case Ez l s x y=>rw [dw (x:=x) fun t ht=>h t (.inl ht),dw (x:=y) fun t ht=>h t (.inr ht)]
 case EA x y=>rw [dw (x:=x) fun t ht=>h t (.inl ht),dw (x:=y) fun t ht=>h t (.inr ht)]
 case A2 l s g x y=>rw [dw (x:=x) fun t ht=>h t (.inl ht),dw (x:=y) fun t ht=>h t (.inr ht)]
 case NE kk z ok x y=>rw [dw (x:=x) fun t ht=>h t (.inl ht),dw (x:=y) fun t ht=>h t (.inr ht)]
 all_goals first
  | rfl
  | (rename_i x;rw [dw (x:=x) h])
def Gp {hp an:Hp} {ct:Nat} {o:Op} (h:∀t,t∈jL o->aj tm' t=aj tm t):cK tm' an ct o=cK tm hp ct o:=by
 cases o<;>simp only [jL,wC] at h<;>simp only [cK]
 case box s x=>rw [dw (x:=x) h]
 case mK n s z ps=>rw [Po h]
 case nN s b z x y=>rw [dw (x:=x) fun t ht=>h t (.inl ht),dw (x:=y) fun t ht=>h t (.inr ht)]
 case oR x=>rw [dw (x:=x) h]
def BA {hp:Hp} {ct:Nat} {o:Op} (h:∀t,t∈jL o->aj tm' t=aj tm t):cF tm' hp ct o=cF tm hp ct o:=by
 cases o<;>simp only [jL,wC] at h<;>simp only [cF]
 case st s x y=>rw [dw (x:=x) fun t ht=>h t (.inl ht),dw (x:=y) fun t ht=>h t (.inr ht)]
 case oQ kk c a b=>rw [dw (x:=c) fun t ht=>h t (.inl ht),dw (x:=a) fun t ht=>h t (.inr (.inl ht)),dw (x:=b) fun t ht=>h t (.inr (.inr ht))]
 case oS x=>rw [dw (x:=x) h]
 case cQ s b x y=>rw [dw (x:=x) fun t ht=>h t (.inl ht),dw (x:=y) fun t ht=>h t (.inr ht)]
 case oU s x y=>rw [dw (x:=x) fun t ht=>h t (.inl ht),dw (x:=y) fun t ht=>h t (.inr ht)]
end
section
open Go
structure Calm (w w':yi):Prop where
 os:w'.os=w.os
 tape:w'.tape=w.tape
 output:w'.output=w.output
 size:w.heap.size<=w'.heap.size
 same:∀b,b<w.heap.size->w'.heap[b]? =w.heap[b]?
def Calm.refl {w:yi}:Calm w w:=⟨rfl,rfl,rfl,yA _,fun _ _=>rfl⟩
def Az (O:bk) (w:yi):Prop:=(∀b,b<O.w0.heap.size->w.heap[b]? =O.w0.heap[b]?)/\O.w0.heap.size<=w.heap.size
def eC:Mp:=fun _=>none
def ia (ab:Nat->Nat) (S:Nat->Prop) (w:yi) (lo:Nat):AV->yh->List Nat->Prop
 | .cr ex sz n cs,u,bs=>∃b o c arr t,bs=[b]/\u= .slice (some ⟨b,o,none⟩) n c/\n<=c/\(ex=true->c=n)/\lo<=b/\¬S b/\w.heap[b]? =some (.cells arr t (0,0))/\cs.length=n*sz/\
   o+c*sz<=arr.size/\bI ab eC S w cs b o/\aD cs=true
 | r,u,bs=>bs=[]/\af ab eC S w r u/\aW r=true
def kF (ab:Nat->Nat) (S:Nat->Prop) (w:yi) (lo:Nat):List AV->List yh->List Nat->Prop
 | [],us,bs=>us=[]/\bs=[]
 | v::r,us,bs=>∃u t b1 b2,us=u::t/\bs=b1++b2/\ia ab S w lo v u b1/\kF ab S w lo r t b2
def mL (ab:Nat->Nat) (S:Nat->Prop) (w:yi) (lo:Nat) (r:AV) (u:yh):Prop:=
 match r with
 | .au vs=>∃(us:Array yh) (bs:List Nat),u= .tuple us/\kF ab S w lo vs us.toList bs/\bs.Nodup
 | r=>∃bs,ia ab S w lo r u bs
def Af (P:y5) (f:tE) (args:Array yh) (w:yi) (R:yaN->yi->Prop):Prop:=
 ((callFunc f args).run P w= .ok (.enter f args) w/\CallsIn Fence.wide 0 P f args w R)\/∃u w',(callFunc f args).run P w= .ok (.value u) w'/\R (.returned u) w'
def XQ (O:bk) (w:yi) (S:Nat->Prop) (r:AV) (e:yaN) (w':yi):Prop:=
 ∃u S',e= .returned u/\Calm w w'/\(∀b,S b->S' b)/\(∀b,S' b->S b\/w.heap.size<=b)/\(∀b,S' b->b<w'.heap.size)/\mL O.ab S' w' w.heap.size r u
def dV (O:bk) (n:Nat) (vals:List AV) (r:AV):Prop:=
 ∀(w:yi) (S:Nat->Prop) (args:Array yh),Az O w->(∀b,S b->b<w.heap.size)->aq O.ab eC S w vals args.toList->aD vals=true->
  Af O.P (O.ab n) args w (XQ O w S r)
def sC (O:bk) (m:Mp) (S:Nat->Prop) (w:yi) (hp:Hp) (ct:Nat) (v:AV) (an:Hp) (aV:Nat) (e:yaN) (w':yi):Prop:=
 ∃u m' S',e= .returned u/\aQ O m' S' w' an aV/\ct<=aV/\af O.ab m' S' w' v u/\bU m S w hp m' S' w' an ct
def AA (O:bk) (n:Nat) (hp:Hp) (ct:Nat) (vals:List AV) (v:AV) (an:Hp) (aV:Nat):Prop:=
 ∀(m:Mp) (S:Nat->Prop) (w:yi) (args:Array yh),aQ O m S w hp ct->aq O.ab m S w vals args.toList->Af O.P (O.ab n) args w (sC O m S w hp ct v an aV)
section
variable {ab:Nat->Nat} {m m':Mp} {S S':Nat->Prop} {w w':yi}
mutual
def pC (hS:∀b,S b->S' b) (hw:fE S w w'):∀(v:AV) (u:yh),aW v=true->af ab m S w v u->af ab m' S' w' v u
 | .int _ _,_,_,h | .bool _,_,_,h | .aK _ _,_,_,h | .str _,_,_,h | .kD,_,_,h | .ae,_,_,h | .iA,_,_,h | .jC,_,_,h | .undef,_,_,h=>by
  simpa only [af] using h
 | .ptr id o,u,hp,h=>by simp [aW] at hp
 | .aH cs,u,hp,h=>by
  simp only [af] at h ⊢;obtain ⟨b,o,h1,h2,h3,h4⟩:=h;refine ⟨b,o,h1,h2.imp id (hS b),h3,?_⟩;rcases h2 with rfl | h2
  ·simp only [bI]
  ·exact O3 hS hw cs b o h3 h2 h4
 | .aA ex n cs,u,hp,h=>by
  simp only [af] at h ⊢;rcases h with ⟨b,o,c,h1,h2,h3,h4,h5,h6⟩ | h
  ·refine .inl ⟨b,o,c,h1,h2,h3,h4.imp id (hS b),h5,?_⟩;rcases h4 with rfl | h4
   ·simp only [bI]
   ·exact O3 hS hw cs b o h5 h4 h6
  ·exact .inr h
 | .cr _ _ _ _,u,hp,h=>by simp [aW] at hp
 | .ay id o n,u,hp,h=>by simp [aW] at hp
 | .fn (.f g) first cap,u,hp,h=>by
  simp only [af] at h ⊢;simp only [aW,yg] at hp;obtain ⟨fi,ca,h1,h2,h3⟩:=h;exact ⟨fi,ca,h1,sr hS hw first _ hp.1 h2,sr hS hw cap _ hp.2 h3⟩
 | .fn (.y l) _ _,u,hp,h=>by simp [aW] at hp
 | .map id,u,hp,h=>by simp [aW] at hp
 | .jo ks vs,u,hp,h=>by
  simp only [af] at h ⊢;obtain ⟨b,es,clock,h1,h2,h3,h4,h5,h6,h7⟩:=h;exact ⟨b,es,clock,h1,hS b h2,h3,h4,(hw b h2).trans h5,sr hS hw ks _ h3 h6,sr hS hw vs _ h4 h7⟩
 | .it id,u,hp,h=>by simp [aW] at hp
 | .agg cs,u,hp,h=>by
  simp only [af] at h ⊢;simp only [aW] at hp;obtain ⟨xs,h1,h2⟩:=h;exact ⟨xs,h1,sr hS hw cs _ hp h2⟩
 | .au cs,u,hp,h=>by
  simp only [af] at h ⊢;simp only [aW] at hp;obtain ⟨xs,h1,h2⟩:=h;exact ⟨xs,h1,sr hS hw cs _ hp h2⟩
def sr (hS:∀b,S b->S' b) (hw:fE S w w'):∀(vs:List AV) (us:List yh),aD vs=true->aq ab m S w vs us->aq ab m' S' w' vs us
 | [],us,_,h=>by simpa only [aq] using h
 | v::r,us,hp,h=>by
  simp only [aq] at h ⊢;simp only [aD,yg] at hp;obtain ⟨u,t,h1,h2,h3⟩:=h;exact ⟨u,t,h1,pC hS hw v u hp.1 h2,sr hS hw r t hp.2 h3⟩
def O3 (hS:∀b,S b->S' b) (hw:fE S w w'):∀(cs:List AV) (b o:Nat),aD cs=true->S b->bI ab m S w cs b o->bI ab m' S' w' cs b o
 | [],_,_,_,_,_=>by simp only [bI]
 | c::cs,b,o,hp,hb,h=>by
  simp only [bI] at h ⊢;simp only [aD,yg] at hp;obtain ⟨⟨u,h1,h2⟩,h3⟩:=h;exact ⟨⟨u,(JY (hw b hb)).trans h1,pC hS hw c u hp.1 h2⟩,O3 hS hw cs b (o+1) hp.2 hb h3⟩
end
def BB (hS:∀b,S b->S' b) (hw:fE S w w'):∀(cs:List AV) (b o:Nat),aD cs=true->w'.heap[b]? =w.heap[b]? ->bI ab m S w cs b o->bI ab m' S' w' cs b o
 | [],_,_,_,_,_=>by simp only [bI]
 | c::cs,b,o,hp,hb,h=>by
  simp only [aD,yg] at hp;obtain ⟨⟨u,h1,h2⟩,h3⟩:=h;exact ⟨⟨u,(JY hb).trans h1,pC hS hw c u hp.1 h2⟩,BB hS hw cs b (o+1) hp.2 hb h3⟩
end
section
variable {O:bk} {m:Mp} {S S':Nat->Prop} {w w':yi} {hp:Hp} {ct:Nat}
def ahl (hh:aQ O m S w hp ct) (hw:Calm w w'):fE S w w':=fun b hb=>hw.same b (hh.slt b hb)
def BF (hh:aQ O m S w hp ct) (hw:Calm w w') (hS:∀b,S b->S' b) (hn:∀b,S' b->S b\/w.heap.size<=b) (hl:∀b,S' b->b<w'.heap.size):aQ O m S' w' hp ct where
 obj id o p ho hm:=qC (fun _ _ h=>h) hS (ahl hh hw) (fun q hq=>hw.same _ (hh.blt id q hq)) (fun q hq hs=>(hn _ hs).resolve_right (by have:=hh.blt id q hq;omega)) (hh.obj id o p ho hm)
 lt:=hh.lt
 inj:=hh.inj
 slt:=hl
 blt id p h:=yu (hh.blt id p h) hw.size
 low:=hh.low
 lA b hb:=(hw.same b (yu hb hh.fK)).trans (hh.lA b hb)
 fK:=xg hh.fK hw.size
 aR:=hh.aR
def z8 {base:Nat} (hh:aQ O m S w hp ct) (hw:Calm w w') (hS:∀b,S b->S' b) (hn:∀b,S' b->S b\/w.heap.size<=b):bU m S w hp m S' w' hp base where
 os:=hw.os
 tape:=hw.tape
 output:=hw.output
 size:=hw.size
 same b hb _:=hw.same b hb
 sub:=hS
 still b hb:=hw.same b (hh.slt b hb)
 new b hb:=(hn b hb).imp id .inr
 own b hb:= .inl hb
 old _ _ _ h:=h
 loops b r hb:=⟨r,(hw.same b (xu.1 hb).1).trans hb⟩
def ajo {i:Nat} (hh:aQ O m S w hp ct) (hi:m i=none) (EC:i<ct) {p:Pl} (hb:p.b<w.heap.size) (aY:O.w0.heap.size<=p.b) (ED:¬S p.b) (nU:∀j q,m j=some q->q.b≠p.b)
  (hf:∀o,ak hp i=some o->(eJ O (fj m i p) S w i o/\¬iv o)\/(iv o/\eJ O (fj m i p) (fun b=>S b\/b=p.b) w i o)):
  ∃S',aQ O (fj m i p) S' w hp ct/\(∀b,S b->S' b)/\∀b,S' b->S b\/b=p.b:=by
 have aO:fE S w w:=fun _ _=>rfl
 have gen:∀S':Nat->Prop,(∀b,S b->S' b)->(∀b,S' b->S b\/b=p.b)->(∀o,ak hp i=some o->eJ O (fj m i p) S' w i o)->aQ O (fj m i p) S' w hp ct:=by
  intro S' h1 h2 h3;refine ⟨?_,?_,?_,?_,?_,?_,hh.lA,hh.fK,hh.aR⟩
  ·intro id o q ho hm;by_cases hc:id=i
   ·grind
   ·rw [dO hc] at hm;refine qC (jg hi) h1 aO (fun _ _=>rfl) (fun q' bH hs=>?_) (hh.obj id o q ho hm)
    grind
  ·intro id q hm;by_cases hc:id=i
   ·grind
   ·rw [dO hc] at hm;exact hh.lt id q hm
  ·intro a b oa ob pa pb ha bX CI ze e;by_cases ca:a=i
   ·by_cases cb:b=i
    ·grind
    ·subst ca;rw [dE] at CI;rw [dO cb] at ze
     grind
   ·rw [dO ca] at CI;by_cases cb:b=i
    ·subst cb;rw [dE] at ze
     grind
    ·rw [dO cb] at ze;exact hh.inj a b oa ob pa pb ha bX CI ze e
  ·intro b hs;rcases h2 b hs with h | h
   ·exact hh.slt b h
   ·grind
  ·intro id q hm;by_cases hc:id=i
   ·subst hc;rw [dE] at hm
    grind
   ·rw [dO hc] at hm;exact hh.blt id q hm
  ·intro id q hm;by_cases hc:id=i
   ·subst hc;rw [dE] at hm
    grind
   ·rw [dO hc] at hm;exact hh.low id q hm
 cases ho:ak hp i with
 | none=>exact ⟨S,gen S (fun _ h=>h) (fun _ h=> .inl h) (fun o h=>by rw [ho] at h;cases h),fun _ h=>h,fun _ h=> .inl h⟩
 | some o=>
  rcases hf o ho with ⟨h1,_⟩ | ⟨_,h1⟩
  ·exact ⟨S,gen S (fun _ h=>h) (fun _ h=> .inl h) (fun o' h=>by rw [ho] at h;injection h with h;subst h;exact h1),fun _ h=>h,fun _ h=> .inl h⟩
  ·exact ⟨_,gen (fun b=>S b\/b=p.b) (fun _ h=> .inl h) (fun _ h=>h) (fun o' h=>by rw [ho] at h;injection h with h;subst h;exact h1),fun _ h=> .inl h,fun _ h=>h⟩
def WZ {ab:Nat->Nat} {lo:Nat} {r:AV} {u:yh} {bs:List Nat} (h:ia ab S w lo r u bs) (m:Mp) (hS:∀b,S b->S' b) (hbs:∀b,b∈bs->S' b):af ab m S' w (bM r) u:=by
 have aO:fE S w w:=fun _ _=>rfl
 cases r with
 | cr ex sz n cs=>
  obtain ⟨b,o,c,arr,t,rfl,rfl,h1,h2,h3,h4,h5,h6,h7,h8,h9⟩:=h;exact .inl ⟨b,o,c,rfl,h1,h2,.inr (hbs b (by simp)),h9,BB hS aO cs b o h9 rfl h8⟩
 | _=>simp only [ia] at h;exact pC hS aO _ _ h.2.2 h.2.1
def W0 {ab:Nat->Nat} {lo:Nat} (m:Mp) (hS:∀b,S b->S' b):∀{vs:List AV} {us:List yh} {bs:List Nat},kF ab S w lo vs us bs->(∀b,b∈bs->S' b)->aq ab m S' w (B3 vs) us
 | [],us,bs,h,_=>by simp only [kF] at h;exact h.1
 | v::r,us,bs,h,hb=>by
  obtain ⟨u,t,b1,b2,rfl,rfl,h1,h2⟩:=h;exact ⟨u,t,rfl,WZ h1 m hS (fun b bX=>hb b (by simp [bX])),W0 m hS h2 (fun b bX=>hb b (by simp [bX]))⟩
def P9 {ab:Nat->Nat} {lo:Nat} {r:AV} {u:yh} {bs:List Nat} (h:ia ab S w lo r u bs):∀b,b∈bs->lo<=b/\b<w.heap.size:=by
 intro b hb
 cases r with
 | cr ex sz n cs=>
  simp only [ia] at h
  grind
 | _=>simp only [ia] at h;rw [h.1] at hb;cases hb
def Qa {ab:Nat->Nat} {lo:Nat}:∀{vs:List AV} {us:List yh} {bs:List Nat},kF ab S w lo vs us bs->∀b,b∈bs->lo<=b/\b<w.heap.size
 | [],us,bs,h,b,hb=>by simp only [kF] at h;rw [h.2] at hb;cases hb
 | v::r,us,bs,h,b,hb=>by
  obtain ⟨u,t,b1,b2,rfl,rfl,h1,h2⟩:=h;rcases wC.1 hb with hb | hb
  ·exact P9 h1 b hb
  ·exact Qa h2 b hb
def W1 {ab:Nat->Nat} {lo:Nat} {r:AV} {u:yh} (h:mL ab S w lo r u) (m:Mp):∃S',(∀b,S b->S' b)/\(∀b,S' b->S b\/(lo<=b/\b<w.heap.size))/\af ab m S' w (shut r) u:=by
 have one:∀(r:AV) (bs:List Nat),shut r=bM r->ia ab S w lo r u bs->∃S',(∀b,S b->S' b)/\(∀b,S' b->S b\/(lo<=b/\b<w.heap.size))/\af ab m S' w (shut r) u:=by
  intro r bs hs h;refine ⟨fun b=>S b\/b∈bs,fun _ h=> .inl h,fun b hb=>hb.imp (fun x=>x) (fun hb=>P9 h b hb),?_⟩;rw [hs];exact WZ h m (fun _ h=> .inl h) (fun _ h=> .inr h)
 cases r with
 | au vs=>
  obtain ⟨us,bs,rfl,h1,h2⟩:=h;refine ⟨fun b=>S b\/b∈bs,fun _ h=> .inl h,fun b hb=>hb.imp (fun x=>x) (fun hb=>Qa h1 b hb),?_⟩;exact ⟨us,rfl,W0 m (fun _ h=> .inl h) h1 (fun _ h=> .inr h)⟩
 | _=>
  obtain ⟨bs,h⟩:=h;exact one _ bs rfl h
end
end
section
open Go
section
variable {O:bk} {m:Mp} {S:Nat->Prop} {w:yi} {H:Hp} {cH:Nat}
def Lg {hp:Hp} {ct:Nat} {r:AV}:ct<=(eU hp ct r).2.2:=by
 cases r<;>simp only [eU]<;>omega
def Lh:∀{vs:List AV} {hp:Hp} {ct:Nat},ct<=(jD hp ct vs).2.2
 | [],hp,ct=>by simp [jD]
 | v::r,hp,ct=>by
  simp only [jD];have h1:=Lg (hp:=hp) (ct:=ct) (r:=v);have h2:=Lh (vs:=r) (hp:=(eU hp ct v).2.1) (ct:=(eU hp ct v).2.2);omega
def Qb {hp:Hp} {ct:Nat} {r:AV} (hf:∀id o,ak hp id=some o->id<ct):∀id o,ak hp id=some o->ak (eU hp ct r).2.1 id=some o:=by
 intro id o h;cases r<;>simp only [eU]<;>try exact h
 rw [fC,yB (by have:=hf id o h;omega)];exact h
def YS {hp:Hp} {ct lo:Nat} {r:AV} {u:yh} {bs:List Nat} (hh:aQ O m S w H cH) (hl:cO (eU hp ct r).2.1 H) (eZ:(eU hp ct r).2.2<=cH) (hn:∀id,ct<=id->id<(eU hp ct r).2.2->m id=none)
  (hr:ia O.ab S w lo r u bs) (aY:O.w0.heap.size<=lo) (nU:∀j q,m j=some q->q.b∉bs):
  ∃m' S',aQ O m' S' w H cH/\cY m m'/\(∀id p,m' id=some p->m id=some p\/(ct<=id/\id<(eU hp ct r).2.2/\p.b∈bs))/\af O.ab m' S' w (eU hp ct r).1 u/\(∀b,S b->S' b)/\(∀b,S' b->S b\/b∈bs):=by
 have aO:fE S w w:=fun _ _=>rfl
 cases r with
 | cr ex sz n cs=>
  simp only [eU] at hl eZ hn;obtain ⟨b,o,c,arr,t,rfl,rfl,h1,h2,h3,h4,h5,h6,h7,h8,h9⟩:=hr;have bD:m ct=none:=hn ct (yA _) (Nat.lt_succ_self _);have asu:b<w.heap.size:=(xu.1 h5).1;have nT:eJ O (fj m ct ⟨b,o,c*sz,sz⟩) S w ct (.cells true true ex sz cs):=by
   refine ⟨_,arr,t,dE,h5,rfl,?_,h7,fun hx=>?_,BB (fun _ h=>h) aO cs b o h9 rfl h8,fun _=>h9,fun _=>h4,by simp⟩
   ·show cs.length<=c*sz
    rw [h6];exact yQ _ h1
   ·grind
  obtain ⟨S',k1,k2,k3⟩:=ajo (p:=⟨b,o,c*sz,sz⟩) hh bD (by omega) asu (by show _<=b;omega) h4 (fun j q hq e=>nU j q hq (by rw [e];simp)) (fun o' iG=>by
   obtain ⟨Tf,g1,g2⟩:=hl ct (.cells true true ex sz cs) (by rw [fC];simp)
   rw [iG] at g1;injection g1 with g1
   subst g1
   exact OQ (p:=⟨b,o,c*sz,sz⟩) g2 dE nT (by simp [iv]))
  refine ⟨_,S',k1,jg bD,fun id p an=>?_,?_,k2,fun b' bX=>(k3 b' bX).imp (fun h=>h) (fun h=>by rw [h];simp)⟩
  ·by_cases hc:id=ct
   ·subst hc;rw [dE] at an;injection an with an
    subst an;exact .inr ⟨yA _,by simp [eU],by simp⟩
   ·rw [dO hc] at an;exact .inl an
  ·simp only [eU,af];exact ⟨_,c,dE,by simp,h1,by simp⟩
 | _=>
  exact ⟨m,S,hh,cY.refl,fun _ _ h=> .inl h,pC (fun _ h=>h) aO _ _ hr.2.2 hr.2.1,fun _ h=>h,fun _ h=> .inl h⟩
def GW {hp:Hp} {ct:Nat} {r:AV} (hf:∀id o,ak hp id=some o->id<ct):∀id o,ak (eU hp ct r).2.1 id=some o->id<(eU hp ct r).2.2:=by
 intro id o h;cases r<;>simp only [eU] at h ⊢<;>try exact hf id o h
 rw [fC] at h
 grind
def Li:∀{vs:List AV} {hp:Hp} {ct:Nat},(∀id o,ak hp id=some o->id<ct)->∀id o,ak hp id=some o->ak (jD hp ct vs).2.1 id=some o
 | [],hp,ct,_,id,o,h=>by simpa [jD] using h
 | v::r,hp,ct,hf,id,o,h=>by
  exact Li (GW hf) id o (Qb hf id o h)
def YT {lo:Nat} (aY:O.w0.heap.size<=lo):∀{vs:List AV} {us:List yh} {bs:List Nat} {hp:Hp} {ct:Nat} {m:Mp} {S:Nat->Prop},aQ O m S w H cH->cO (jD hp ct vs).2.1 H->(jD hp ct vs).2.2<=cH->
  (∀id o,ak hp id=some o->id<ct)->(∀id,ct<=id->id<(jD hp ct vs).2.2->m id=none)->
  kF O.ab S w lo vs us bs->bs.Nodup->(∀j q,m j=some q->q.b∉bs)->
  ∃m' S',aQ O m' S' w H cH/\cY m m'/\(∀id p,m' id=some p->m id=some p\/(ct<=id/\id<(jD hp ct vs).2.2/\p.b∈bs))/\aq O.ab m' S' w (jD hp ct vs).1 us/\(∀b,S b->S' b)/\(∀b,S' b->S b\/b∈bs)
 | [],us,bs,hp,ct,m,S,hh,hl,eZ,hf,hn,hr,lI,nU=>by
  simp only [kF] at hr;exact ⟨m,S,hh,cY.refl,fun _ _ h=> .inl h,by simp only [jD,aq];exact hr.1,fun _ h=>h,fun _ h=> .inl h⟩
 | v::r,us,bs,hp,ct,m,S,hh,hl,eZ,hf,hn,hr,lI,nU=>by
  simp only [kF] at hr;obtain ⟨u,t,b1,b2,rfl,rfl,h1,h2⟩:=hr;simp only [jD] at hl eZ hn ⊢;have dR:=Lg (hp:=hp) (ct:=ct) (r:=v);have oW:=Lh (vs:=r) (hp:=(eU hp ct v).2.1) (ct:=(eU hp ct v).2.2);rw [List.nodup_append] at lI;obtain ⟨m1,S1,k1,k2,k3,k4,k5,k6⟩:=YS (hp:=hp) (ct:=ct) (lo:=lo) hh ((fun id o h=>hl id o (Li (GW hf) id o h))) (by omega) (fun id g1 g2=>hn id g1 (by omega)) h1 aY
   (fun j q hq hb=>nU j q hq (by simp [hb]))
  have Tm:kF O.ab S1 w lo r t b2:=by
   clear k4;have RL:∀b,S1 b->S b\/b∈b1:=k6;have hd:∀b,b∈b2->b∉b1:=fun b hb mq=>lI.2.2 b mq b hb rfl
   have one:∀{v:AV} {u:yh} {bb:List Nat},(∀b,b∈bb->b∉b1)->ia O.ab S w lo v u bb->ia O.ab S1 w lo v u bb:=by
    intro v u bb rK h
    cases v with
    | cr ex sz n cs=>
     simp only [ia] at h ⊢;obtain ⟨b,o,c,arr,tt,rfl,rfl,g1,g2,g3,g4,g5,g6,g7,g8,g9⟩:=h;exact ⟨b,o,c,arr,tt,rfl,rfl,g1,g2,g3,fun hs=>(RL b hs).elim g4 (rK b (by simp)),g5,g6,g7,BB k5 (fun _ _=>rfl) cs b o g9 rfl g8,g9⟩
    | _=>simp only [ia] at h ⊢;exact ⟨h.1,pC k5 (fun _ _=>rfl) _ _ h.2.2 h.2.1,h.2.2⟩
   clear k1 k2 k3 hl eZ hn nU lI;revert hd h2;generalize b2=bb
   induction r generalizing t bb with
   | nil=>intro h2 hd;simpa only [kF] using h2
   | cons v' r ih=>
    intro h2 hd;simp only [kF] at h2 ⊢;obtain ⟨u',t',c1,c2,rfl,rfl,g1,g2⟩:=h2
    exact ⟨u',t',c1,c2,rfl,rfl,one (fun b hb=>hd b (by simp [hb])) g1,ih _ (by
     have:=Lh (vs:=r) (hp:=(eU hp ct v).2.1) (ct:=(eU hp ct v).2.2)
     exact this) _ g2 (fun b hb=>hd b (by simp [hb]))⟩
  obtain ⟨m2,S2,g1,g2,g3,g4,g5,g6⟩:=YT aY (vs:=r) (us:=t) (bs:=b2) (m:=m1) (S:=S1) k1 hl eZ (GW hf) (fun id q1 q2=>by
   cases hq:m1 id with
   | none=>rfl
   | some p=>
    rcases k3 id p hq with h | ⟨_,h,_⟩
    ·rw [hn id (by omega) q2] at h;cases h
    ·omega) Tm lI.2.1 (fun j q hq hb=>by
     rcases k3 j q hq with h | ⟨_,_,h⟩
     ·exact nU j q h (by simp [hb])
     ·exact lI.2.2 q.b h q.b hb rfl)
  refine ⟨m2,S2,g1,k2.trans g2,fun id p an=>?_,?_,fun b hb=>g5 b (k5 b hb),fun b hb=>?_⟩
  ·rcases g3 id p an with h | ⟨a1,a2,a3⟩
   ·rcases k3 id p h with h | ⟨a1,a2,a3⟩
    ·exact .inl h
    ·exact .inr ⟨a1,by omega,by simp [a3]⟩
   ·exact .inr ⟨by omega,a2,by simp [a3]⟩
  ·simp only [aq];exact ⟨u,t,rfl,kU g2 g5 (fun _ _=>rfl) _ _ k4,g4⟩
  ·rcases g6 b hb with h | h
   ·exact (k6 b h).imp (fun h=>h) (fun h=>by simp [h])
   ·exact .inr (by simp [h])
def aod {hp:Hp} {ct lo:Nat} {r:AV} {u:yh} (hh:aQ O m S w H cH) (hl:cO (own hp ct r).2.1 H) (eZ:(own hp ct r).2.2<=cH) (hf:∀id o,ak hp id=some o->id<ct)
  (hn:∀id,ct<=id->id<(own hp ct r).2.2->m id=none) (hr:mL O.ab S w lo r u) (aY:O.w0.heap.size<=lo) (Je:∀j q,m j=some q->q.b<lo):
  ∃m' S',aQ O m' S' w H cH/\cY m m'/\(∀id p,m' id=some p->m id=some p\/(ct<=id/\id<(own hp ct r).2.2/\lo<=p.b))/\af O.ab m' S' w (own hp ct r).1 u/\(∀b,S b->S' b)/\(∀b,S' b->S b\/lo<=b):=by
 have one:∀(r:AV) (bs:List Nat),own hp ct r=eU hp ct r->ia O.ab S w lo r u bs->cO (own hp ct r).2.1 H->(own hp ct r).2.2<=cH->(∀id,ct<=id->id<(own hp ct r).2.2->m id=none)->
   ∃m' S',aQ O m' S' w H cH/\cY m m'/\(∀id p,m' id=some p->m id=some p\/(ct<=id/\id<(own hp ct r).2.2/\lo<=p.b))/\af O.ab m' S' w (own hp ct r).1 u/\(∀b,S b->S' b)/\(∀b,S' b->S b\/lo<=b):=by
  intro r bs he hr hl eZ hn;rw [he] at hl eZ hn ⊢;have Ch:=P9 hr;obtain ⟨m',S',k1,k2,k3,k4,k5,k6⟩:=YS hh hl eZ hn hr aY (fun j q hq hb=>by have:=Je j q hq;have:=(Ch _ hb).1;omega)
  exact ⟨m',S',k1,k2,fun id p h=>(k3 id p h).imp (fun h=>h) (fun h=>⟨h.1,h.2.1,(Ch _ h.2.2).1⟩),k4,k5,fun b hb=>(k6 b hb).imp (fun h=>h) (fun h=>(Ch _ h).1)⟩
 cases r with
 | au vs=>
  simp only [own] at hl eZ hn ⊢;simp only [mL] at hr;obtain ⟨us,bs,rfl,h1,h2⟩:=hr;have Ch:=Qa h1;obtain ⟨m',S',k1,k2,k3,k4,k5,k6⟩:=YT aY hh hl eZ hf hn h1 h2 (fun j q hq hb=>by have:=Je j q hq;have:=(Ch _ hb).1;omega)
  exact ⟨m',S',k1,k2,fun id p h=>(k3 id p h).imp (fun h=>h) (fun h=>⟨h.1,h.2.1,(Ch _ h.2.2).1⟩),by simp only [af];exact ⟨us,rfl,k4⟩,k5,fun b hb=>(k6 b hb).imp (fun h=>h) (fun h=>(Ch _ h).1)⟩
 | _=>
  simp only [mL] at hr;obtain ⟨bs,hr⟩:=hr;exact one _ bs rfl hr hl eZ hn
end
end
end VE
