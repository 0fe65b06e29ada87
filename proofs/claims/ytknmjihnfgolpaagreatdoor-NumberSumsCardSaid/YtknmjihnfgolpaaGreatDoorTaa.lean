import GoSem.Core.Code
import GoSem.Core.Float
import GoSem.Core.Utf8
set_option linter.all false
set_option maxRecDepth 100000
namespace VE
open Go (IntKind FloatKind BinOp UnOp)
inductive Fr where
 | f (n:Nat)
 | y (l:Nat)
 deriving DecidableEq,Inhabited
inductive AV where
 | int (k:IntKind) (n:Int)
 | bool (b:Bool)
 | flt (k:FloatKind) (bits:Nat)
 | str (s:List Nat)
 | nilp
 | ptr (id off:Nat)
 | vptr (cells:List AV)
 | nils
 | vsl (ex:Bool) (n:Nat) (cells:List AV)
 | fsl (ex:Bool) (sz n:Nat) (cells:List AV)
 | osl (id off n:Nat)
 | fn (f:Fr) (first cap:List AV)
 | nilf
 | nilm
 | map (id:Nat)
 | vmap (ks vs:List AV)
 | it (id:Nat)
 | agg (cells:List AV)
 | tup (vs:List AV)
 | undef
 deriving Inhabited
inductive X where
 | t (i:Nat)
 | c (v:AV)
 deriving Inhabited
inductive Conv where
 | toInt (k:IntKind)
 | toFlt (k:FloatKind)
 | str
 deriving Inhabited
inductive Md where
 | pure | own | heap | dyn
 deriving Inhabited
inductive Cut where
 | str
 | sl (sz:Nat)
 | ar (len sz:Nat)
 deriving Inhabited
inductive EqK where
 | b | sl | fn | ag (ks:List Nat)
 deriving Inhabited
inductive Op where
 | mov (x:X)
 | pick (c a b:X)
 | box (sz:Nat) (x:X)
 | mkagg (zero:List AV) (parts:List (Nat×Nat×X))
 | mksl (n sz:Nat) (zero:List AV) (parts:List (Nat×Nat×X))
 | ld (sz:Nat) (ag:Bool) (x:X)
 | st (sz:Nat) (x v:X)
 | nilc (x:X)
 | bin (op:BinOp) (x y:X)
 | eq (ne:Bool) (k:EqK) (x y:X)
 | un (op:UnOp) (x:X)
 | cv (k:Conv) (x:X)
 | mkf (f:Fr) (first cap:List X)
 | mkm
 | mks (sz bytes:Nat) (zero:List AV) (len cap:X)
 | sli (k:Cut) (x:X) (lo hi:Option X)
 | off (k:Nat) (x:X)
 | fld (o sz:Nat) (ag:Bool) (x:X)
 | ixa (sz:Nat) (x i:X)
 | ixp (len sz:Nat) (x i:X)
 | ixs (x i:X)
 | ixv (len sz:Nat) (ag:Bool) (x i:X)
 | lkp (kk:Nat) (zero:AV) (ok:Bool) (m k:X)
 | mup (kk:Nat) (m k v:X)
 | rng (x:X)
 | nxt (x:X)
 | ext (i:Nat) (x:X)
 | call (m:Md) (f:X) (xs:List X)
 | calld (rs:List (Nat×Bool×Nat)) (f:X) (xs:List X)
 | std (rs:List (Nat×Bool×Nat)) (sz:Nat) (x v:X)
 | app (sz bytes:Nat) (s x:X)
 | cpy (sz:Nat) (d s:X)
 | len (k:Nat) (x:X)
 | mn (xs:List X)
 | mx (xs:List X)
 deriving Inhabited
structure ROp where
 dst:Option Nat
 guard:Option (Nat×Bool)
 op:Op
 deriving Inhabited
inductive VC where
 | skip
 | reg (ops:List ROp)
 | seq (a b:VC)
 | cond (x:X) (a b:VC)
 | blk (id:Nat) (a:VC)
 | kp (live:List Nat)
 | fz (ts:List Nat)
 | loop (live:List Nat) (a:VC)
 | rf (f:X) (ps:List Nat) (assign body:VC)
 | exit (id:Nat)
 | ret
 deriving Inhabited
inductive RV where
 | t (i:Nat)
 | cell (i sz:Nat) (ag:Bool)
 deriving Inhabited
structure Fnc where
 res:List RV
 body:VC
 deriving Inhabited
inductive Jump where
 | none | ret | exit (id:Nat)
 deriving Inhabited,DecidableEq
abbrev Env:=List (Nat×AV)
inductive Obj where
 | cells (rw pu ex:Bool) (sz:Nat) (cs:List AV)
 | mp (rw:Bool) (ks vs:List AV)
 | si (s:List Nat) (pos:Nat)
 | lp (tm:Env) (ps:List Nat) (assign body:VC) (state:Nat) (pending:Jump)
 deriving Inhabited
abbrev Hp:=List (Nat×Obj)
structure St where
 tm:Env
 hp:Hp
 ct:Nat
 base:Nat
 deriving Inhabited
inductive Ex where
 | normal
 | ret
 | exit (id:Nat)
 deriving Inhabited,DecidableEq
def zc:Env→Nat→AV
 | [],_=> .undef
 | (j,v)::r,i=>bif Nat.beq j i then v else zc r i
def zt:Hp→Nat→Option Obj
 | [],_=>none
 | (j,o)::r,i=>bif Nat.beq j i then some o else zt r i
def zad:Hp→Nat→Obj→Hp
 | [],_,_=>[]
 | (j,o)::r,i,u=>bif Nat.beq j i then (j,u)::r else (j,o)::zad r i u
def hdel:Hp→Nat→Hp
 | [],_=>[]
 | (j,o)::r,i=>bif Nat.beq j i then hdel r i else (j,o)::hdel r i
mutual
def zA:AV→Bool
 | .ptr _ _ | .osl _ _ _ | .map _ | .it _ | .fsl _ _ _ _=>false
 | .fn (.y _) _ _=>false
 | .fn (.f _) first cap=>zp first&&zp cap
 | .agg cs=>zp cs
 | .tup vs=>zp vs
 | _=>true
def zp:List AV→Bool
 | []=>true
 | v::r=>zA v&&zp r
end
def cellsOf:AV→List AV
 | .agg cs=>cs
 | v=>[v]
def zag:AV→Bool
 | .agg _ | .tup _ | .undef | .fsl _ _ _ _=>false
 | _=>true
def zM:List AV→Bool
 | []=>true
 | v::r=>zag v&&zM r
def zq (tm:Env):X→AV
 | .t i=>zc tm i
 | .c v=>v
def zaG (tm:Env):List X→List AV
 | []=>[]
 | x::r=>zq tm x::zaG tm r
def slice (o n:Nat) (cs:List AV):List AV:=(cs.drop o).take n
def zck (o:Nat) (new cs:List AV):List AV:=cs.take o++new++cs.drop (o+new.length)
mutual
def zal:Nat→Hp→AV→Option (AV×Hp)
 | 0,_,_=>none
 | n+1,hp,v=>
  match v with
  | .osl id o k=>
   match zbT n hp id with
   | some (ex,sz,cs,hp')=>
    bif Nat.ble (o+k*sz) cs.length then
     some (.vsl (ex&&Nat.blt 0 sz&&Nat.beq (o+k*sz) cs.length) k (slice o (k*sz) cs),hp')
    else none
   | none=>none
  | .ptr id o=>
   match zbT n hp id with
   | some (_,_,cs,hp')=>some (.vptr (cs.drop o),hp')
   | none=>none
  | .map id=>
   match zt hp id with
   | some (.mp _ ks vs)=>bif zp ks&&zp vs then some (.vmap ks vs,zad hp id (.mp false ks vs)) else none
   | _=>none
  | .fn (.f g) first cap=>
   match zV n hp first with
   | some (first',hp1)=>
    match zV n hp1 cap with
    | some (cap',hp2)=>some (.fn (.f g) first' cap',hp2)
    | none=>none
   | none=>none
  | .agg cs=>match zV n hp cs with | some (cs',hp')=>some (.agg cs',hp') | none=>none
  | .tup cs=>match zV n hp cs with | some (cs',hp')=>some (.tup cs',hp') | none=>none
  | v=>bif zA v then some (v,hp) else none
def zbT:Nat→Hp→Nat→Option (Bool×Nat×List AV×Hp)
 | 0,_,_=>none
 | n+1,hp,id=>
  match zt hp id with
  | some (.cells rw pu ex sz cs)=>
   bif pu then some (ex,sz,cs,bif rw then zad hp id (.cells false true ex sz cs) else hp)
   else match zV n hp cs with
    | some (cs',hp')=>some (ex,sz,cs',zad hp' id (.cells false false ex sz cs))
    | none=>none
  | _=>none
def zV:Nat→Hp→List AV→Option (List AV×Hp)
 | 0,_,_=>none
 | _+1,hp,[]=>some ([],hp)
 | n+1,hp,v::r=>
  match zal n hp v with
  | some (v',hp1)=>
   match zV n hp1 r with
   | some (r',hp2)=>some (v'::r',hp2)
   | none=>none
  | none=>none
end
def zgN (n:Nat) (hp:Hp) (v:AV):Option (AV×Hp):=
 match v with
 | .osl id o k=>
  match zt hp id with
  | some (.cells true true ex sz cs)=>
   bif Nat.ble (o+k*sz) cs.length then
    some (.fsl (ex&&Nat.blt 0 sz&&Nat.beq (o+k*sz) cs.length) sz k (slice o (k*sz) cs),hdel hp id)
   else none
  | _=>zal n hp v
 | _=>zal n hp v
def zpZ:List AV→Option (List Nat)
 | []=>some []
 | .osl id _ _::r=>match zpZ r with | some l=>bif l.any (Nat.beq id) then none else some (id::l) | none=>none
 | v::r=>bif zA v then zpZ r else none
def zeW (n:Nat):Hp→List AV→Option (List AV×Hp)
 | hp,[]=>some ([],hp)
 | hp,v::r=>
  match zgN n hp v with
  | some (v',hp1)=>match zeW n hp1 r with | some (r',hp2)=>some (v'::r',hp2) | none=>none
  | none=>none
def zcP:Nat:=1000
def zaR (hp:Hp) (v:AV):Option AV:=
 match v with
 | .tup vs=>
  match zpZ vs with
  | some _=>match zeW zcP hp vs with | some (vs',_)=>some (.tup vs') | none=>none
  | none=>match zal zcP hp v with | some (v',_)=>some v' | none=>none
 | v=>match zgN zcP hp v with | some (v',_)=>some v' | none=>none
def shut1:AV→AV
 | .fsl ex _ n cs=> .vsl ex n cs
 | v=>v
def zhA:List AV→List AV
 | []=>[]
 | v::r=>shut1 v::zhA r
def shut:AV→AV
 | .fsl ex _ n cs=> .vsl ex n cs
 | .tup vs=> .tup (zhA vs)
 | v=>v
def zcH (hp:Hp) (ct:Nat):AV→AV×Hp×Nat
 | .fsl ex sz n cs=>(.osl ct 0 n,(ct,.cells true true ex sz cs)::hp,ct+1)
 | v=>(v,hp,ct)
def zdN:Hp→Nat→List AV→List AV×Hp×Nat
 | hp,ct,[]=>([],hp,ct)
 | hp,ct,v::r=>((zcH hp ct v).1::(zdN (zcH hp ct v).2.1 (zcH hp ct v).2.2 r).1,(zdN (zcH hp ct v).2.1 (zcH hp ct v).2.2 r).2)
def own (hp:Hp) (ct:Nat):AV→AV×Hp×Nat
 | .tup vs=>(.tup (zdN hp ct vs).1,(zdN hp ct vs).2)
 | v=>zcH hp ct v
mutual
def zcG:AV→List Nat
 | .ptr id _=>[id]
 | .osl id _ _=>[id]
 | .map id=>[id]
 | .it id=>[id]
 | .fn (.f _) first cap=>zcC first++zcC cap
 | .fn (.y l) _ _=>[l]
 | .agg cs=>zcC cs
 | .tup cs=>zcC cs
 | _=>[]
def zcC:List AV→List Nat
 | []=>[]
 | v::r=>zcG v++zcC r
end
def zcF:Env→List Nat
 | []=>[]
 | (_,v)::r=>zcG v++zcF r
def zeh:Obj→List Nat
 | .cells _ pu _ _ cs=>bif pu then [] else zcC cs
 | .mp _ ks vs=>zcC ks++zcC vs
 | .si _ _=>[]
 | .lp tm _ _ _ _ _=>zcF tm
mutual
def ren (f:Nat→Option Nat):AV→AV
 | .ptr id o=>match f id with | some j=> .ptr j o | none=> .undef
 | .osl id o n=>match f id with | some j=> .osl j o n | none=> .undef
 | .map id=>match f id with | some j=> .map j | none=> .undef
 | .it id=>match f id with | some j=> .it j | none=> .undef
 | .fn (.f g) first cap=> .fn (.f g) (zcZ f first) (zcZ f cap)
 | .fn (.y l) first cap=>match f l with | some j=> .fn (.y j) (zcZ f first) (zcZ f cap) | none=> .undef
 | .agg cs=> .agg (zcZ f cs)
 | .tup cs=> .tup (zcZ f cs)
 | v=>v
def zcZ (f:Nat→Option Nat):List AV→List AV
 | []=>[]
 | v::r=>ren f v::zcZ f r
end
def zfD (f:Nat→Option Nat):Env→Env
 | []=>[]
 | (i,v)::r=>(i,ren f v)::zfD f r
def zge (f:Nat→Option Nat):Obj→Obj
 | .cells rw pu ex sz cs=> .cells rw pu ex sz (bif pu then cs else zcZ f cs)
 | .mp rw ks vs=> .mp rw (zcZ f ks) (zcZ f vs)
 | .si s pos=> .si s pos
 | .lp tm ps as_ body st pe=> .lp (zfD f tm) ps as_ body st pe
def keep (tm:Env):List Nat→Env
 | []=>[]
 | i::r=>(i,zc tm i)::keep tm r
def zgf (i:Nat):List Nat→Bool
 | []=>false
 | j::r=>bif Nat.beq j i then true else zgf i r
def zfo (hp:Hp) (base:Nat):Nat→List Nat→List Nat→List Nat
 | 0,_,seen=>seen
 | _+1,[],seen=>seen
 | n+1,id::work,seen=>
  bif Nat.blt id base||zgf id seen then zfo hp base n work seen
  else match zt hp id with
   | some o=>zfo hp base n (zeh o++work) (seen++[id])
   | none=>zfo hp base n work seen
def za7 (base:Nat):Hp→List Nat
 | []=>[]
 | (id,o)::r=>bif Nat.blt id base then zeh o++za7 base r else za7 base r
def zgO (i:Nat):List Nat→Nat→Option Nat
 | [],_=>none
 | j::r,k=>bif Nat.beq j i then some k else zgO i r (k+1)
def zdy (base:Nat) (seen:List Nat) (id:Nat):Option Nat:=bif Nat.blt id base then some id else zgO id seen base
def zea (base:Nat) (f:Nat→Option Nat):Hp→Hp
 | []=>[]
 | (id,o)::r=>bif Nat.blt id base then (id,zge f o)::zea base f r else zea base f r
def zdt (hp:Hp) (f:Nat→Option Nat):List Nat→Nat→Hp→Hp
 | [],_,acc=>acc
 | id::r,k,acc=>match zt hp id with | some o=>zdt hp f r (k+1) ((k,zge f o)::acc) | none=>zdt hp f r (k+1) acc
def zC (live:List Nat) (s:St):St:=
 let tm:=keep s.tm live
 let seen:=zfo s.hp s.base 100000 (zcF tm++za7 s.base s.hp) []
 let f:=zdy s.base seen
 {tm:=zfD f tm,hp:=zdt s.hp f seen s.base (zea s.base f s.hp),ct:=s.base+seen.length,base:=s.base}
def zcI (hp:Hp) (sz:Nat):AV→Option (Nat×List AV)
 | .nils=>some (0,[])
 | .vsl _ n cs=>bif Nat.beq cs.length (n*sz) then some (n,cs) else none
 | .osl id o n=>
  match zt hp id with
  | some (.cells _ _ _ _ cs)=>bif Nat.ble (o+n*sz) cs.length then some (n,slice o (n*sz) cs) else none
  | _=>none
 | _=>none
def zhv:List Nat→List AV
 | []=>[]
 | b::r=> .int .u8 b::zhv r
def ltL:List Nat→List Nat→Bool
 | _,[]=>false
 | [],_::_=>true
 | a::x,b::y=>Nat.blt a b||(Nat.beq a b&&ltL x y)
def eqL:List Nat→List Nat→Bool
 | [],[]=>true
 | a::x,b::y=>Nat.beq a b&&eqL x y
 | _,_=>false
def zaf:List Nat→List AV→List AV→Option Bool
 | [],[],[]=>some true
 | 0::ks,.bool a::x,.bool b::y=>match zaf ks x y with | some r=>some ((a==b)&&r) | none=>none
 | 1::ks,.int k a::x,.int k' b::y=>if k=k' then (match zaf ks x y with | some r=>some ((a==b)&&r) | none=>none) else none
 | 2::ks,.str a::x,.str b::y=>match zaf ks x y with | some r=>some (eqL a b&&r) | none=>none
 | _,_,_=>none
def zeC:EqK→AV→AV→Option Bool
 | .b,.bool a,.bool b=>some (a==b)
 | .sl,.nils,.nils=>some true
 | .sl,.nils,.vsl _ _ _=>some false
 | .sl,.nils,.osl _ _ _=>some false
 | .sl,.vsl _ _ _,.nils=>some false
 | .sl,.osl _ _ _,.nils=>some false
 | .fn,.nilf,.nilf=>some true
 | .fn,.nilf,.fn _ _ _=>some false
 | .fn,.fn _ _ _,.nilf=>some false
 | .ag ks,.agg a,.agg b=>zaf ks a b
 | _,_,_=>none
def intCmp (op:BinOp) (x y:Int):Option Bool:=
 match op with
 | .eql=>some (x==y)
 | .neq=>some (x !=y)
 | .lss=>some (decide (x<y))
 | .leq=>some (decide (x≤y))
 | .gtr=>some (decide (x>y))
 | .geq=>some (decide (x≥y))
 | _=>none
def zdF (op:BinOp) (k:IntKind) (x y:Int):Option AV:=
 match op with
 | .add=>some (.int k (k.wrap (x+y)))
 | .sub=>some (.int k (k.wrap (x-y)))
 | .mul=>some (.int k (k.wrap (x*y)))
 | .quo=>if y=0 then none else some (.int k (k.wrap (x.tdiv y)))
 | .rem=>if y=0 then none else some (.int k (x.tmod y))
 | .and=>some (.int k (k.wrap (BitVec.ofInt k.bits x&&&BitVec.ofInt k.bits y).toNat))
 | .or=>some (.int k (k.wrap (BitVec.ofInt k.bits x|||BitVec.ofInt k.bits y).toNat))
 | .xor=>some (.int k (k.wrap (BitVec.ofInt k.bits x^^^BitVec.ofInt k.bits y).toNat))
 | .andNot=>some (.int k (k.wrap (BitVec.ofInt k.bits x&&&~~~(BitVec.ofInt k.bits y)).toNat))
 | .shl | .shr=>none
 | op=>match intCmp op x y with | some b=>some (.bool b) | none=>none
def zfl (op:BinOp) (k:IntKind) (x y:Int):Option AV:=
 if y<0 then none else
 match op with
 | .shl=>some (.int k (k.wrap (x*2^(min y.toNat k.bits))))
 | .shr=>some (.int k (x.fdiv (2^(min y.toNat k.bits))))
 | _=>none
def znC (op:BinOp) (x y:List Nat):Option AV:=
 match op with
 | .add=>bif Nat.ble (x.length+y.length) 9223372036854775807 then some (.str (x++y)) else none
 | .eql=>some (.bool (eqL x y))
 | .neq=>some (.bool (!eqL x y))
 | .lss=>some (.bool (ltL x y))
 | .leq=>some (.bool (ltL x y||eqL x y))
 | .gtr=>some (.bool (!(ltL x y||eqL x y)))
 | .geq=>some (.bool (!ltL x y))
 | _=>none
def zyu (op:BinOp) (k:FloatKind) (x y:Nat):Option AV:=
 let c:=k.format.order x y
 let ar (r:Option Nat):Option AV:=match r with | some b=>some (.flt k b) | none=>none
 match op with
 | .add=>ar (k.format.add x y)
 | .sub=>ar (k.format.sub x y)
 | .mul=>ar (k.format.mul x y)
 | .quo=>ar (k.format.div x y)
 | .eql=>some (.bool (c==some .eq))
 | .neq=>some (.bool (c !=some .eq))
 | .lss=>some (.bool (c==some .lt))
 | .leq=>some (.bool (c==some .lt||c==some .eq))
 | .gtr=>some (.bool (c==some .gt))
 | .geq=>some (.bool (c==some .gt||c==some .eq))
 | _=>none
def binOp (op:BinOp) (x y:AV):Option AV:=
 match x,y with
 | .int k a,.int k' b=>
  match op with
  | .shl | .shr=>zfl op k a b
  | _=>if k=k' then zdF op k a b else none
 | .flt k a,.flt k' b=>if k=k' then zyu op k a b else none
 | .str a,.str b=>znC op a b
 | _,_=>none
def unOp (op:UnOp) (x:AV):Option AV:=
 match op,x with
 | .neg,.int k n=>some (.int k (k.wrap (0-n)))
 | .xor,.int k n=>zdF .xor k (if k.signed then -1 else k.max) n
 | .not,.bool b=>some (.bool !b)
 | .neg,.flt k b=>some (.flt k (b^^^2^(k.format.exponentBits+k.format.fractionBits)))
 | _,_=>none
def zi3 (c:Conv) (x:AV):Option AV:=
 match c,x with
 | .toInt k,.int _ n=>some (.int k (k.wrap n))
 | .toFlt k,.int _ n=>some (.flt k (k.nearest n))
 | .toInt k,.flt s b=>
  match (s.decode b).toInt .zero with
  | some n=>if k.min≤n∧n≤k.max then some (.int k n) else none
  | none=>none
 | .toFlt k,.flt s b=>
  if s=k then some (.flt k b) else
  match s.decode b with
  | .number sg m e=>if (k.decode (k.encode (.number sg m e))).isInfinity then none else some (.flt k (k.encode (.number sg m e)))
  | _=>none
 | .str,.str s=>some (.str s)
 | _,_=>none
def ld1 (sz:Nat) (ag:Bool) (cs:List AV):Option AV:=
 bif ag then (bif Nat.ble sz cs.length then some (.agg (cs.take sz)) else none)
 else match cs with | v::_=>some v | []=>none
def zaN (x:AV):Option Nat:=
 match x with
 | .int _ n=>match n with | .ofNat k=>some k | .negSucc _=>none
 | _=>none
def zaw (tm:Env) (d:Nat):Option X→Option Nat
 | none=>some d
 | some x=>zaN (zq tm x)
def zbn (hp:Hp) (k:Cut) (x:AV) (tm:Env) (lo hi:Option X):Option AV:=
 match k,x with
 | .str,.str s=>
  match zaw tm 0 lo,zaw tm s.length hi with
  | some l,some h=>bif Nat.ble l h&&Nat.ble h s.length then some (.str ((s.take h).drop l)) else none
  | _,_=>none
 | .sl _,.nils=>
  match zaw tm 0 lo,zaw tm 0 hi with
  | some 0,some 0=>some .nils
  | _,_=>none
 | .sl sz,.vsl ex n cs=>
  match zaw tm 0 lo,zaw tm n hi with
  | some l,some h=>bif Nat.ble l h&&Nat.ble h n then some (.vsl (ex&&Nat.beq h n) (h-l) (slice (l*sz) ((h-l)*sz) cs)) else none
  | _,_=>none
 | .sl sz,.osl id o n=>
  match zt hp id with
  | some (.cells _ _ _ z _)=>
   match zaw tm 0 lo,zaw tm n hi with
   | some l,some h=>
    bif Nat.ble l h&&Nat.ble h n&&Nat.beq z sz then
     bif Nat.beq l h&& !Nat.beq l 0 then some (.vsl false 0 []) else some (.osl id (o+l*sz) (h-l))
    else none
   | _,_=>none
  | _=>none
 | _,_=>none
def fill (tm:Env):List AV→List (Nat×Nat×X)→Option (List AV)
 | cs,[]=>some cs
 | cs,(o,sz,x)::r=>
  let new:=cellsOf (zq tm x)
  bif Nat.beq new.length sz&&Nat.ble (o+sz) cs.length&&zM new then fill tm (zck o new cs) r else none
def zlP:AV→AV→Option Bool
 | .int k a,.int k' b=>if k=k' then some (a==b) else none
 | .str a,.str b=>some (eqL a b)
 | .bool a,.bool b=>some (a==b)
 | _,_=>none
def zdQ:Nat→AV→Bool
 | 0,.bool _=>true
 | 1,.int _ _=>true
 | 2,.str _=>true
 | _,_=>false
def zjv (k:AV):List AV→List AV→Option (Option AV)
 | [],_=>some none
 | k'::ks,v::vs=>match zlP k k' with | some true=>some (some v) | some false=>zjv k ks vs | none=>none
 | _::_,[]=>none
def zmy (k v:AV):List AV→List AV→Option (List AV×List AV)
 | [],[]=>some ([k],[v])
 | k'::ks,u::us=>
  match zlP k k' with
  | some true=>some (k'::ks,v::us)
  | some false=>match zmy k v ks us with | some (ks',us')=>some (k'::ks',u::us') | none=>none
  | none=>none
 | _,_=>none
def min2:AV→AV→Option AV
 | .int k x,.int _ y=>some (.int k (if y<x then y else x))
 | .flt k x,.flt _ y=>
  match k.format.order x y with
  | none=>none
  | some .lt=>some (.flt k x)
  | some .gt=>some (.flt k y)
  | some .eq=>some (.flt k (if (k.decode x).neg then x else y))
 | _,_=>none
def max2:AV→AV→Option AV
 | .int k x,.int _ y=>some (.int k (if y>x then y else x))
 | .flt k x,.flt _ y=>
  match k.format.order x y with
  | none=>none
  | some .lt=>some (.flt k y)
  | some .gt=>some (.flt k x)
  | some .eq=>some (.flt k (if (k.decode x).neg then y else x))
 | _,_=>none
def ziS (f:AV→AV→Option AV):AV→List AV→Option AV
 | a,[]=>some a
 | a,b::r=>match f a b with | some c=>ziS f c r | none=>none
def zcg:Nat:=1099511627776
abbrev Res:=Option (AV×Hp×Nat)
def zeD (hp:Hp) (sz:Nat) (ag:Bool):AV→Option AV
 | .ptr id o=>match zt hp id with | some (.cells _ _ _ _ cs)=>ld1 sz ag (cs.drop o) | _=>none
 | .vptr cs=>ld1 sz ag cs
 | _=>none
def zof (k:Nat):AV→Option AV
 | .ptr id o=>some (.ptr id (o+k))
 | .vptr cs=>bif Nat.ble k cs.length then some (.vptr (cs.drop k)) else none
 | _=>none
def zq6 (o sz:Nat) (ag:Bool):AV→Option AV
 | .agg cs=>ld1 sz ag (cs.drop o)
 | _=>none
def zdl (sz i:Nat):AV→Option AV
 | .osl id o n=>bif Nat.blt i n then some (.ptr id (o+i*sz)) else none
 | .vsl _ n cs=>bif Nat.blt i n then some (.vptr (cs.drop (i*sz))) else none
 | _=>none
def zsK (len sz i:Nat):AV→Option AV
 | .ptr id o=>bif Nat.blt i len then some (.ptr id (o+i*sz)) else none
 | .vptr cs=>bif Nat.blt i len then some (.vptr (cs.drop (i*sz))) else none
 | _=>none
def zem (i:Nat):AV→Option AV
 | .str s=>match s[i]? with | some b=>some (.int .u8 b) | none=>none
 | _=>none
def zsJ (len sz:Nat) (ag:Bool) (i:Nat):AV→Option AV
 | .agg cs=>bif Nat.blt i len then ld1 sz ag (cs.drop (i*sz)) else none
 | _=>none
def ziJ (hp:Hp) (k:AV):AV→Option (Option AV)
 | .nilm=>some none
 | .map id=>match zt hp id with | some (.mp _ ks vs)=>zjv k ks vs | _=>none
 | .vmap ks vs=>zjv k ks vs
 | _=>none
def zcl (hp:Hp):Nat→AV→Option AV
 | 0,.str s=>some (.int .i64 s.length)
 | 1,.nils=>some (.int .i64 0)
 | 1,.vsl _ n _=>some (.int .i64 n)
 | 1,.osl _ _ n=>some (.int .i64 n)
 | 2,.nilm=>some (.int .i64 0)
 | 2,.vmap ks _=>some (.int .i64 ks.length)
 | 2,.map id=>match zt hp id with | some (.mp _ ks _)=>some (.int .i64 ks.length) | _=>none
 | _,_=>none
def zG (tm:Env) (hp:Hp):Op→Option AV
 | .mov x=>some (zq tm x)
 | .pick c a b=>match zq tm c with | .bool t=>some (bif t then zq tm a else zq tm b) | _=>none
 | .mkagg zero parts=>match fill tm zero parts with | some cs=>some (.agg cs) | none=>none
 | .ld sz ag x=>zeD hp sz ag (zq tm x)
 | .nilc x=>
  match zq tm x with
  | .ptr id o=>some (.ptr id o)
  | .vptr cs=>some (.vptr cs)
  | .fn f a b=>some (.fn f a b)
  | _=>none
 | .bin op x y=>binOp op (zq tm x) (zq tm y)
 | .eq ne k x y=>match zeC k (zq tm x) (zq tm y) with | some r=>some (.bool (ne !=r)) | none=>none
 | .un op x=>unOp op (zq tm x)
 | .cv k x=>zi3 k (zq tm x)
 | .mkf f first cap=>some (.fn f (zaG tm first) (zaG tm cap))
 | .sli k x lo hi=>zbn hp k (zq tm x) tm lo hi
 | .off k x=>zof k (zq tm x)
 | .fld o sz ag x=>zq6 o sz ag (zq tm x)
 | .ixa sz x i=>match zaN (zq tm i) with | some j=>zdl sz j (zq tm x) | none=>none
 | .ixp len sz x i=>match zaN (zq tm i) with | some j=>zsK len sz j (zq tm x) | none=>none
 | .ixs x i=>match zaN (zq tm i) with | some j=>zem j (zq tm x) | none=>none
 | .ixv len sz ag x i=>match zaN (zq tm i) with | some j=>zsJ len sz ag j (zq tm x) | none=>none
 | .lkp kk zero ok m k=>
  bif zdQ kk (zq tm k) then
   match ziJ hp (zq tm k) (zq tm m) with
   | some (some v)=>some (bif ok then .tup [v,.bool true] else v)
   | some none=>some (bif ok then .tup [zero,.bool false] else zero)
   | none=>none
  else none
 | .ext i x=>match zq tm x with | .tup vs=>vs[i]? | _=>none
 | .len k x=>zcl hp k (zq tm x)
 | .mn xs=>match zaG tm xs with | a::r=>ziS min2 a r | []=>none
 | .mx xs=>match zaG tm xs with | a::r=>ziS max2 a r | []=>none
 | _=>none
def zac (tm:Env) (hp:Hp) (ct:Nat):Op→Option (AV×Obj)
 | .box sz x=>
  let cs:=cellsOf (zq tm x)
  bif Nat.beq cs.length sz&&zM cs then some (.ptr ct 0,.cells true (zp cs) true sz cs) else none
 | .mksl n sz zero parts=>
  match fill tm zero parts with
  | some cs=>bif Nat.beq cs.length (n*sz) then some (.osl ct 0 n,.cells true (zp cs) true sz cs) else none
  | none=>none
 | .mks sz bytes zero len cap=>
  match zaN (zq tm len),zaN (zq tm cap) with
  | some l,some c=>
   bif Nat.ble l c&&(Nat.ble c zcg&&(Nat.ble (c*bytes) zcg&&(Nat.beq zero.length sz&&zM zero))) then
    some (.osl ct 0 l,.cells true (zp zero) (Nat.beq l c) sz (List.replicate l zero).flatten)
   else none
  | _,_=>none
 | .mkm=>some (.map ct,.mp true [] [])
 | .rng x=>match zq tm x with | .str s=>some (.it ct,.si s 0) | _=>none
 | _=>none
def zjk (s:List Nat) (i:Nat):Nat×Nat:=
 let at' (k:Nat):Nat:=s.getD (i+k) 0
 let cont (k:Nat):Bool:=decide (i+k<s.length)&&at' k/64==2
 let b0:=at' 0
 if b0<0x80 then (b0,1)
 else if b0/32==6&&cont 1 then
  let c:=(b0%32)*64+at' 1%64
  if c≥0x80 then (c,2) else (Go.Utf8.runeError,1)
 else if b0/16==14&&cont 1&&cont 2 then
  let c:=(b0%16)*4096+(at' 1%64)*64+at' 2%64
  if c≥0x800&&Go.Utf8.valid c then (c,3) else (Go.Utf8.runeError,1)
 else if b0/8==30&&cont 1&&cont 2&&cont 3 then
  let c:=(b0%8)*262144+(at' 1%64)*4096+(at' 2%64)*64+at' 3%64
  if c≥0x10000&&Go.Utf8.valid c then (c,4) else (Go.Utf8.runeError,1)
 else (Go.Utf8.runeError,1)
def zeV (hp:Hp) (sz:Nat):AV→Option (Nat×List AV)
 | .str b=>bif Nat.beq sz 1 then some (b.length,zhv b) else none
 | v=>zcI hp sz v
def zX (tm:Env) (hp:Hp) (ct:Nat):Op→Res
 | .st sz x v=>
  let new:=cellsOf (zq tm v)
  match zq tm x with
  | .ptr id o=>
   match zt hp id with
   | some (.cells true pu ex z cs)=>
    bif Nat.beq new.length sz&&Nat.ble (o+sz) cs.length&&zM new then
     some (.tup [],zad hp id (.cells true (pu&&zp new) ex z (zck o new cs)),ct)
    else none
   | _=>none
  | _=>none
 | .mup kk m k v=>
  match zq tm m with
  | .map id=>
   match zt hp id with
   | some (.mp true ks vs)=>bif !zdQ kk (zq tm k) then none else match zmy (zq tm k) (zq tm v) ks vs with | some (ks',vs')=>some (.tup [],zad hp id (.mp true ks' vs'),ct) | none=>none
   | _=>none
  | _=>none
 | .nxt x=>
  match zq tm x with
  | .it id=>
   match zt hp id with
   | some (.si s pos)=>
    bif Nat.blt pos s.length then
     match zjk s pos with
     | (c,wd)=>some (.tup [.bool true,.int .i64 pos,.int .i32 c],zad hp id (.si s (pos+wd)),ct)
    else some (.tup [.bool false],hp,ct)
   | _=>none
  | _=>none
 | .app sz bytes s x=>
  match zeV hp sz (zq tm x) with
  | none=>none
  | some (m,new)=>
   match zq tm s with
   | .nils=>
    bif Nat.beq m 0 then some (.nils,hp,ct)
    else bif Nat.ble m zcg&&(Nat.ble (m*bytes) zcg&&Nat.blt 0 sz) then some (.osl ct 0 m,(ct,.cells true (zp new) false sz new)::hp,ct+1) else none
   | .vsl true n cs=>
    bif Nat.beq m 0 then some (.vsl true n cs,hp,ct)
    else bif Nat.ble (n+m) zcg&&(Nat.ble ((n+m)*bytes) zcg&&(Nat.beq cs.length (n*sz)&&Nat.blt 0 sz)) then some (.osl ct 0 (n+m),(ct,.cells true (zp cs&&zp new) false sz (cs++new))::hp,ct+1) else none
   | .osl id o n=>
    match zt hp id with
    | some (.cells true pu _ z cs)=>
     bif Nat.beq z sz&&(Nat.ble (n+m) zcg&&(Nat.ble ((n+m)*bytes) zcg&&(Nat.ble (o+n*sz) cs.length&&(Nat.blt 0 sz&&zM new)))) then
      some (.osl ct 0 (n+m),(ct,.cells true (pu&&zp new) false sz (slice o (n*sz) cs++new))::hdel hp id,ct+1)
     else none
    | _=>none
   | _=>none
 | .cpy sz d s=>
  match zcI hp sz (zq tm s),zq tm d with
  | some (m,new),.osl id o n=>
   match zt hp id with
   | some (.cells true pu ex z cs)=>
    bif Nat.beq z sz&&(Nat.ble (o+n*sz) cs.length&&zM new) then
     some (.int .i64 (min m n:Nat),zad hp id (.cells true (pu&&zp new) ex z (zck o (new.take (min m n*sz)) cs)),ct)
    else none
   | _=>none
  | _,_=>none
 | _=>none
def zcR:X→List Nat | .t i=>[i] | .c _=>[]
def zeX:List X→List Nat
 | []=>[]
 | x::r=>zcR x++zeX r
def znP:Option X→List Nat | some x=>zcR x | none=>[]
def znA:List (Nat×Nat×X)→List Nat
 | []=>[]
 | (_,_,x)::r=>zcR x++znA r
def zb6:Op→List Nat
 | .mov x | .box _ x | .ld _ _ x | .nilc x | .un _ x | .cv _ x | .off _ x | .fld _ _ _ x | .rng x | .nxt x | .ext _ x | .len _ x=>zcR x
 | .pick a b c | .mup _ a b c=>zcR a++(zcR b++zcR c)
 | .mkagg _ ps | .mksl _ _ _ ps=>znA ps
 | .st _ a b | .bin _ a b | .eq _ _ a b | .ixa _ a b | .ixp _ _ a b | .ixs a b | .ixv _ _ _ a b | .lkp _ _ _ a b | .app _ _ a b | .cpy _ a b=>zcR a++zcR b
 | .mkf _ a b=>zeX a++zeX b
 | .mkm=>[]
 | .mks _ _ _ a b=>zcR a++zcR b
 | .sli _ x a b=>zcR x++(znP a++znP b)
 | .call _ f xs=>zcR f++zeX xs
 | .calld _ f xs=>zcR f++zeX xs
 | .std _ _ a b=>zcR a++zcR b
 | .mn xs | .mx xs=>zeX xs
def zI:Op→Nat
 | .mov _ | .pick _ _ _ | .mkagg _ _ | .nilc _ | .bin _ _ _ | .eq _ _ _ _ | .un _ _ | .cv _ _ | .mkf _ _ _ | .off _ _ | .fld _ _ _ _ | .ixa _ _ _ | .ixp _ _ _ _ | .ixs _ _ | .ixv _ _ _ _ _ | .ext _ _ | .mn _ | .mx _=>0
 | .sli .str _ _ _ | .len 0 _ | .len 1 _=>0
 | .st _ _ _ | .mup _ _ _ _ | .nxt _ | .app _ _ _ _ | .cpy _ _ _ | .calld _ _ _ | .std _ _ _ _ | .call .heap _ _ | .call .dyn _ _=>2
 | _=>1
def zyf:Option (Nat×Bool)→List Nat | some (t,_)=>[t] | none=>[]
def zgV (o:ROp):List Nat:=zyf o.guard++zb6 o.op
def zvD (d:Option Nat) (l:List Nat):Bool:=match d with | some i=>zgf i l | none=>false
def zD5 (d e:Option Nat):Bool:=match d,e with | some i,some j=>Nat.beq i j | _,_=>false
def zhb (a b:ROp):Bool:=zvD a.dst (zgV b)||zvD b.dst (zgV a)||zD5 a.dst b.dst
def zvp (sz:Nat) (ag:Bool) (t:Nat):List (Nat×Bool×Nat)→Bool
 | []=>false
 | (s,g,u)::r=>(Nat.beq s sz&&(g==ag&&Nat.beq u t))||zvp sz ag t r
def zlT (t:Nat):List ROp→Bool
 | []=>true
 | o::r=> !zvD o.dst [t]&&zlT t r
def zhI (a b:ROp) (r:List ROp):Bool:=
 match a.guard,a.op,b.op with
 | none,.ld sz ag (.t t),.calld rs _ _=>zvp sz ag t rs&&zlT t (a::r)
 | none,.ld sz ag (.t t),.std rs _ _ _=>zvp sz ag t rs&&zlT t (a::r)
 | _,_,_=>false
def zeL (a b:ROp):Bool:=
 match zI a.op,zI b.op with
 | 1,2 | 2,1 | 2,2=>true
 | _,_=>false
def zhL (m:Nat) (b:ROp):List ROp→Nat→Bool
 | [],_=>true
 | a::r,i=>(Nat.testBit m i|| !(zhb a b||(zeL a b&& !zhI a b r)))&&zhL m b r (i+1)
def zfX (done:List ROp):List ROp→List Nat→Bool
 | [],_=>true
 | b::r,m::ms=>zhL m b done 0&&zfX (done++[b]) r ms
 | _::_,[]=>false
def zi9 (m:Nat):List ROp→Nat→List (Nat×Bool×Nat)
 | [],_=>[]
 | a::r,i=>
  match Nat.testBit m i,a with
  | false,⟨_,none,.ld sz ag (.t t)⟩=>(sz,ag,t)::zi9 m r (i+1)
  | _,_=>zi9 m r (i+1)
def zPt (rs:List (Nat×Bool×Nat)) (sz:Nat) (x v:X):Op:=match rs with | []=> .st sz x v | rs=> .std rs sz x v
def zft (done:List ROp):List ROp→List Nat→List ROp
 | ⟨d,g,.calld _ f xs⟩::r,m::ms=>let o:ROp:=⟨d,g,.calld (zi9 m done 0) f xs⟩;o::zft (done++[o]) r ms
 | ⟨d,g,.st sz x v⟩::r,m::ms=>let o:ROp:=⟨d,g,zPt (zi9 m done 0) sz x v⟩;o::zft (done++[o]) r ms
 | o::r,_::ms=>o::zft (done++[o]) r ms
 | l,_=>l
abbrev zU:=Nat→Option Fnc
structure Lib where
 pure:Nat→Option (List AV→Option AV)
 heap:Nat→Option (Hp→Nat→List AV→Res)
abbrev Run:=VC→St→Option (Ex×St)
def zai:Nat→List AV→Env
 | _,[]=>[]
 | i,v::r=>(i,v)::zai (i+1) r
def zbO (s:St):RV→Option AV
 | .t i=>some (zc s.tm i)
 | .cell i sz ag=>
  match zc s.tm i with
  | .ptr id o=>match zt s.hp id with | some (.cells _ _ _ _ cs)=>ld1 sz ag (cs.drop o) | _=>none
  | .vptr cs=>ld1 sz ag cs
  | _=>none
def zbb (s:St):List RV→Option (List AV)
 | []=>some []
 | r::rest=>match zbO s r,zbb s rest with | some v,some vs=>some (v::vs) | _,_=>none
def zax (s:St) (rs:List RV):Option AV:=
 match zbb s rs with
 | some [v]=>some v
 | some vs=>some (.tup vs)
 | none=>none
def zj (P:zU) (L:Lib) (self:Run) (n:Nat) (vals:List AV):Option AV:=
 match L.pure n with
 | some sp=>sp vals
 | none=>
  match P n with
  | none=>none
  | some F=>
   match self F.body ⟨zai 0 vals,[],0,0⟩ with
   | some (.normal,s) | some (.ret,s)=>match zax s F.res with | some v=>zaR s.hp v | none=>none
   | _=>none
def zpB:Ex→Jump
 | .normal=> .none
 | .ret=> .ret
 | .exit id=> .exit id
def zew:Env→List Nat→List AV→Option Env
 | tm,[],[]=>some tm
 | tm,p::ps,v::vs=>zew ((p,v)::tm) ps vs
 | _,_,_=>none
def zbs (P:zU) (L:Lib) (self:Run) (hp:Hp) (ct:Nat) (n:Nat) (vals:List AV):Res:=
 match L.heap n with
 | some sp=>sp hp ct vals
 | none=>
  match P n with
  | none=>none
  | some F=>
   match self F.body ⟨zai 0 vals,hp,ct,ct⟩ with
   | some (.normal,s) | some (.ret,s)=>match zax s F.res with | some v=>some (v,s.hp,s.ct) | none=>none
   | _=>none
def zcb (self:Run) (hp:Hp) (ct:Nat) (l:Nat) (xs:List AV):Res:=
 match zt hp l with
 | some (.lp tm ps as_ body 0 _)=>
  match zew tm ps xs with
  | none=>none
  | some tm'=>
   match self as_ ⟨tm',hp,ct,ct⟩ with
   | some (.normal,s1)=>
    match zt s1.hp l with
    | some (.lp tm1 ps1 as1 body1 0 pe1)=>
     match self body ⟨s1.tm,zad s1.hp l (.lp tm1 ps1 as1 body1 1 pe1),s1.ct,s1.ct⟩ with
     | some (ex,s2)=>
      match zt s2.hp l with
      | some (.lp tm2 ps2 as2 body2 1 _)=>
       match ex with
       | .normal=>some (.bool true,zad s2.hp l (.lp tm2 ps2 as2 body2 0 .none),s2.ct)
       | ex=>some (.bool false,zad s2.hp l (.lp tm2 ps2 as2 body2 2 (zpB ex)),s2.ct)
      | _=>none
     | none=>none
    | _=>none
   | _=>none
 | _=>none
def zaD (P:zU) (L:Lib) (self:Run) (hp:Hp) (ct:Nat) (m:Md) (fv:AV) (xs:List AV):Res:=
 match fv with
 | .fn (.f n) first cap=>
  match m with
  | .pure=>
   match zV zcP hp (first++(xs++cap)) with
   | some (vals,hp1)=>match zj P L self n vals with | some r=>some (shut r,hp1,ct) | none=>none
   | none=>none
  | .own=>
   match zV zcP hp (first++(xs++cap)) with
   | some (vals,hp1)=>match zj P L self n vals with | some r=>some (own hp1 ct r) | none=>none
   | none=>none
  | .heap=>zbs P L self hp ct n (first++(xs++cap))
  | .dyn=>
   bif zp (first++(xs++cap)) then
    match zj P L self n (first++(xs++cap)) with | some r=>some (shut r,hp,ct) | none=>none
   else zbs P L self hp ct n (first++(xs++cap))
 | .fn (.y l) _ _=>
  match m with
  | .heap | .dyn=>zcb self hp ct l xs
  | _=>none
 | _=>none
def zJW:AV→AV→Bool
 | .int k a,.int k' b=>decide (k=k')&&a==b
 | .bool a,.bool b=>a==b
 | .str a,.str b=>eqL a b
 | .nils,.nils=>true
 | .nilp,.nilp=>true
 | .ptr i o,.ptr j p=>Nat.beq i j&&Nat.beq o p
 | .osl i o n,.osl j p m=>Nat.beq i j&&(Nat.beq o p&&Nat.beq n m)
 | .map i,.map j=>Nat.beq i j
 | _,_=>false
def zel (tm:Env) (hp hp':Hp):List (Nat×Bool×Nat)→Bool
 | []=>true
 | (sz,ag,x)::r=>
  match zeD hp sz ag (zc tm x),zeD hp' sz ag (zc tm x) with
  | some a,some b=>zJW a b&&zel tm hp hp' r
  | _,_=>false
def zc4 (tm:Env) (id:Nat):List (Nat×Bool×Nat)→Bool
 | []=>true
 | (_,_,x)::r=>(match zc tm x with | .ptr j _=> !Nat.beq j id | .vptr _=>true | _=>false)&&zc4 tm id r
def zaa (P:zU) (L:Lib) (self:Run) (tm:Env) (hp:Hp) (ct:Nat) (o:Op):Res:=
 match o with
 | .call m f xs=>zaD P L self hp ct m (zq tm f) (zaG tm xs)
 | .calld rs f xs=>
  match zaD P L self hp ct .dyn (zq tm f) (zaG tm xs) with
  | some (v,hp',ct')=>bif zel tm hp hp' rs then some (v,hp',ct') else none
  | none=>none
 | .std rs sz x v=>
  match zq tm x with
  | .ptr id _=>bif zc4 tm id rs then zX tm hp ct (.st sz x v) else none
  | _=>none
 | .st .. | .mup .. | .nxt .. | .app .. | .cpy .. =>zX tm hp ct o
 | .box .. | .mksl .. | .mks .. | .mkm | .rng .. =>match zac tm hp ct o with | some (v,b)=>some (v,(ct,b)::hp,ct+1) | none=>none
 | o=>match zG tm hp o with | some v=>some (v,hp,ct) | none=>none
def put (d:Option Nat) (v:AV) (tm:Env):Env:=
 match d with
 | some i=>(i,v)::tm
 | none=>tm
def zaM (P:zU) (L:Lib) (self:Run):List ROp→St→Option St
 | [],s=>some s
 | ⟨d,g,o⟩::r,s=>
  let want:=match g with | none=>some true | some (t,b)=>match zc s.tm t with | .bool c=>some (c==b) | .tup []=>some false | _=>none
  match want with
  | some true=>
   match zaa P L self s.tm s.hp s.ct o with
   | some (v,hp,ct)=>zaM P L self r {s with tm:=put d v s.tm,hp:=hp,ct:=ct}
   | none=>none
  | some false=>zaM P L self r {s with tm:=put d (.tup []) s.tm}
  | none=>none
def zfq:List Nat→St→Option St
 | [],s=>some s
 | t::r,s=>
  match zal zcP s.hp (zc s.tm t) with
  | some (v,hp)=>zfq r {s with tm:=(t,v)::s.tm,hp:=hp}
  | none=>none
def zK (P:zU) (L:Lib) (self:Run):VC→St→Option (Ex×St)
 | .skip,s=>some (.normal,s)
 | .reg ops,s=>match zaM P L self ops s with | some s'=>some (.normal,s') | none=>none
 | .seq a b,s=>
  match zK P L self a s with
  | some (.normal,s1)=>zK P L self b s1
  | r=>r
 | .cond x a b,s=>
  match zq s.tm x with
  | .bool t=>bif t then zK P L self a s else zK P L self b s
  | _=>none
 | .blk id a,s=>
  match zK P L self a s with
  | some (.exit j,s1)=>bif Nat.beq j id then some (.normal,s1) else some (.exit j,s1)
  | r=>r
 | .kp live,s=>some (.normal,zC live s)
 | .fz ts,s=>match zfq ts s with | some s'=>some (.normal,s') | none=>none
 | .loop live a,s=>
  match zK P L self a (zC live s) with
  | some (.normal,s1)=>self (.loop live a) s1
  | r=>r
 | .rf f ps as_ body,s=>
  match zq s.tm f with
  | .fn (.f n) first cap=>
   match L.heap n with
   | some _=>none
   | none=>
    match zbs P L self ((s.ct,.lp s.tm ps as_ body 0 .none)::s.hp) (s.ct+1) n (first++(.fn (.y s.ct) [] []::cap)) with
    | some (_,hp,ct)=>
     match zt hp s.ct with
     | some (.lp _ _ _ _ st pe)=>
      bif Nat.beq st 1 then none else
      match pe with
      | .none=>some (.normal,{s with hp:=hdel hp s.ct,ct:=ct})
      | .ret=>some (.ret,{s with hp:=hdel hp s.ct,ct:=ct})
      | .exit id=>some (.exit id,{s with hp:=hdel hp s.ct,ct:=ct})
     | _=>none
    | none=>none
  | _=>none
 | .exit id,s=>some (.exit id,s)
 | .ret,s=>some (.ret,s)
def ev (P:zU) (L:Lib) (n:Nat):Run:=Nat.rec (fun _ _=>none) (fun _ ih=>zK P L ih) n
def evF (P:zU) (L:Lib) (n:Nat) (f:Nat) (vals:List AV):Option AV:=zj P L (ev P L n) f vals
end VE
