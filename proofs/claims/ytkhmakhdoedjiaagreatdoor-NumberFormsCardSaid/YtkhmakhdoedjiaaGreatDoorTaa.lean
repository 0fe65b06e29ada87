import GoSem.Core.Code
import GoSem.Core.Float
import GoSem.Core.Utf8
set_option linter.all false
set_option maxRecDepth 100000
namespace VE
open Go (IntKind FloatKind BinOp UnOp)
inductive Fr where
 | f (n:Nat)
 | y (l:Nat)
 deriving DecidableEq,Inhabited
inductive AV where
 | int (k:IntKind) (n:Int)
 | bool (b:Bool)
 | flt (k:FloatKind) (bits:Nat)
 | str (s:List Nat)
 | nilp
 | ptr (id off:Nat)
 | vptr (cells:List AV)
 | nils
 | vsl (ex:Bool) (n:Nat) (cells:List AV)
 | fsl (ex:Bool) (sz n:Nat) (cells:List AV)
 | osl (id off n:Nat)
 | fn (f:Fr) (first cap:List AV)
 | nilf
 | nilm
 | map (id:Nat)
 | vmap (ks vs:List AV)
 | it (id:Nat)
 | agg (cells:List AV)
 | tup (vs:List AV)
 | undef
 deriving Inhabited
inductive X where
 | t (i:Nat)
 | c (v:AV)
 deriving Inhabited
inductive Conv where
 | toInt (k:IntKind)
 | toFlt (k:FloatKind)
 | str
 deriving Inhabited
inductive Md where
 | pure | own | heap | dyn
 deriving Inhabited
inductive Cut where
 | str
 | sl (sz:Nat)
 | ar (len sz:Nat)
 deriving Inhabited
inductive EqK where
 | b | sl | fn | ag (ks:List Nat)
 deriving Inhabited
inductive Op where
 | mov (x:X)
 | pick (c a b:X)
 | box (sz:Nat) (x:X)
 | mkagg (zero:List AV) (parts:List (Nat×Nat×X))
 | mksl (n sz:Nat) (zero:List AV) (parts:List (Nat×Nat×X))
 | ld (sz:Nat) (ag:Bool) (x:X)
 | st (sz:Nat) (x v:X)
 | nilc (x:X)
 | bin (op:BinOp) (x y:X)
 | eq (ne:Bool) (k:EqK) (x y:X)
 | un (op:UnOp) (x:X)
 | cv (k:Conv) (x:X)
 | mkf (f:Fr) (first cap:List X)
 | mkm
 | mks (sz bytes:Nat) (zero:List AV) (len cap:X)
 | sli (k:Cut) (x:X) (lo hi:Option X)
 | off (k:Nat) (x:X)
 | fld (o sz:Nat) (ag:Bool) (x:X)
 | ixa (sz:Nat) (x i:X)
 | ixp (len sz:Nat) (x i:X)
 | ixs (x i:X)
 | ixv (len sz:Nat) (ag:Bool) (x i:X)
 | lkp (kk:Nat) (zero:AV) (ok:Bool) (m k:X)
 | mup (kk:Nat) (m k v:X)
 | rng (x:X)
 | nxt (x:X)
 | ext (i:Nat) (x:X)
 | call (m:Md) (f:X) (xs:List X)
 | calld (rs:List (Nat×Bool×Nat)) (f:X) (xs:List X)
 | std (rs:List (Nat×Bool×Nat)) (sz:Nat) (x v:X)
 | app (sz bytes:Nat) (s x:X)
 | cpy (sz:Nat) (d s:X)
 | len (k:Nat) (x:X)
 | mn (xs:List X)
 | mx (xs:List X)
 deriving Inhabited
structure ROp where
 dst:Option Nat
 guard:Option (Nat×Bool)
 op:Op
 deriving Inhabited
inductive VC where
 | skip
 | reg (ops:List ROp)
 | seq (a b:VC)
 | cond (x:X) (a b:VC)
 | blk (id:Nat) (a:VC)
 | kp (live:List Nat)
 | fz (ts:List Nat)
 | loop (live:List Nat) (a:VC)
 | rf (f:X) (ps:List Nat) (assign body:VC)
 | exit (id:Nat)
 | ret
 deriving Inhabited
inductive RV where
 | t (i:Nat)
 | cell (i sz:Nat) (ag:Bool)
 deriving Inhabited
structure Fnc where
 res:List RV
 body:VC
 deriving Inhabited
inductive Jump where
 | none | ret | exit (id:Nat)
 deriving Inhabited,DecidableEq
abbrev Env:=List (Nat×AV)
inductive Obj where
 | cells (rw pu ex:Bool) (sz:Nat) (cs:List AV)
 | mp (rw:Bool) (ks vs:List AV)
 | si (s:List Nat) (pos:Nat)
 | lp (tm:Env) (ps:List Nat) (assign body:VC) (state:Nat) (pending:Jump)
 deriving Inhabited
abbrev Hp:=List (Nat×Obj)
structure St where
 tm:Env
 hp:Hp
 ct:Nat
 base:Nat
 deriving Inhabited
inductive Ex where
 | normal
 | ret
 | exit (id:Nat)
 deriving Inhabited,DecidableEq
def zc:Env→Nat→AV
 | [],_=> .undef
 | (j,v)::r,i=>bif Nat.beq j i then v else zc r i
def zq:Hp→Nat→Option Obj
 | [],_=>none
 | (j,o)::r,i=>bif Nat.beq j i then some o else zq r i
def z7:Hp→Nat→Obj→Hp
 | [],_,_=>[]
 | (j,o)::r,i,u=>bif Nat.beq j i then (j,u)::r else (j,o)::z7 r i u
def hdel:Hp→Nat→Hp
 | [],_=>[]
 | (j,o)::r,i=>bif Nat.beq j i then hdel r i else (j,o)::hdel r i
mutual
def zx:AV→Bool
 | .ptr _ _ | .osl _ _ _ | .map _ | .it _ | .fsl _ _ _ _=>false
 | .fn (.y _) _ _=>false
 | .fn (.f _) first cap=>zn first&&zn cap
 | .agg cs=>zn cs
 | .tup vs=>zn vs
 | _=>true
def zn:List AV→Bool
 | []=>true
 | v::r=>zx v&&zn r
end
def cellsOf:AV→List AV
 | .agg cs=>cs
 | v=>[v]
def z9:AV→Bool
 | .agg _ | .tup _ | .undef | .fsl _ _ _ _=>false
 | _=>true
def zH:List AV→Bool
 | []=>true
 | v::r=>z9 v&&zH r
def zp (tm:Env):X→AV
 | .t i=>zc tm i
 | .c v=>v
def zaz (tm:Env):List X→List AV
 | []=>[]
 | x::r=>zp tm x::zaz tm r
def slice (o n:Nat) (cs:List AV):List AV:=(cs.drop o).take n
def zb6 (o:Nat) (new cs:List AV):List AV:=cs.take o++new++cs.drop (o+new.length)
mutual
def zaf:Nat→Hp→AV→Option (AV×Hp)
 | 0,_,_=>none
 | n+1,hp,v=>
  match v with
  | .osl id o k=>
   match zbD n hp id with
   | some (ex,sz,cs,hp')=>
    bif Nat.ble (o+k*sz) cs.length then
     some (.vsl (ex&&Nat.blt 0 sz&&Nat.beq (o+k*sz) cs.length) k (slice o (k*sz) cs),hp')
    else none
   | none=>none
  | .ptr id o=>
   match zbD n hp id with
   | some (_,_,cs,hp')=>some (.vptr (cs.drop o),hp')
   | none=>none
  | .map id=>
   match zq hp id with
   | some (.mp _ ks vs)=>bif zn ks&&zn vs then some (.vmap ks vs,z7 hp id (.mp false ks vs)) else none
   | _=>none
  | .fn (.f g) first cap=>
   match zT n hp first with
   | some (first',hp1)=>
    match zT n hp1 cap with
    | some (cap',hp2)=>some (.fn (.f g) first' cap',hp2)
    | none=>none
   | none=>none
  | .agg cs=>match zT n hp cs with | some (cs',hp')=>some (.agg cs',hp') | none=>none
  | .tup cs=>match zT n hp cs with | some (cs',hp')=>some (.tup cs',hp') | none=>none
  | v=>bif zx v then some (v,hp) else none
def zbD:Nat→Hp→Nat→Option (Bool×Nat×List AV×Hp)
 | 0,_,_=>none
 | n+1,hp,id=>
  match zq hp id with
  | some (.cells rw pu ex sz cs)=>
   bif pu then some (ex,sz,cs,bif rw then z7 hp id (.cells false true ex sz cs) else hp)
   else match zT n hp cs with
    | some (cs',hp')=>some (ex,sz,cs',z7 hp' id (.cells false false ex sz cs))
    | none=>none
  | _=>none
def zT:Nat→Hp→List AV→Option (List AV×Hp)
 | 0,_,_=>none
 | _+1,hp,[]=>some ([],hp)
 | n+1,hp,v::r=>
  match zaf n hp v with
  | some (v',hp1)=>
   match zT n hp1 r with
   | some (r',hp2)=>some (v'::r',hp2)
   | none=>none
  | none=>none
end
def zgF (n:Nat) (hp:Hp) (v:AV):Option (AV×Hp):=
 match v with
 | .osl id o k=>
  match zq hp id with
  | some (.cells true true ex sz cs)=>
   bif Nat.ble (o+k*sz) cs.length then
    some (.fsl (ex&&Nat.blt 0 sz&&Nat.beq (o+k*sz) cs.length) sz k (slice o (k*sz) cs),hdel hp id)
   else none
  | _=>zaf n hp v
 | _=>zaf n hp v
def zpo:List AV→Option (List Nat)
 | []=>some []
 | .osl id _ _::r=>match zpo r with | some l=>bif l.any (Nat.beq id) then none else some (id::l) | none=>none
 | v::r=>bif zx v then zpo r else none
def zfc (n:Nat):Hp→List AV→Option (List AV×Hp)
 | hp,[]=>some ([],hp)
 | hp,v::r=>
  match zgF n hp v with
  | some (v',hp1)=>match zfc n hp1 r with | some (r',hp2)=>some (v'::r',hp2) | none=>none
  | none=>none
def zcJ:Nat:=1000
def zaL (hp:Hp) (v:AV):Option AV:=
 match v with
 | .tup vs=>
  match zpo vs with
  | some _=>match zfc zcJ hp vs with | some (vs',_)=>some (.tup vs') | none=>none
  | none=>match zaf zcJ hp v with | some (v',_)=>some v' | none=>none
 | v=>match zgF zcJ hp v with | some (v',_)=>some v' | none=>none
def shut1:AV→AV
 | .fsl ex _ n cs=> .vsl ex n cs
 | v=>v
def zhv:List AV→List AV
 | []=>[]
 | v::r=>shut1 v::zhv r
def shut:AV→AV
 | .fsl ex _ n cs=> .vsl ex n cs
 | .tup vs=> .tup (zhv vs)
 | v=>v
def zcv (hp:Hp) (ct:Nat):AV→AV×Hp×Nat
 | .fsl ex sz n cs=>(.osl ct 0 n,(ct,.cells true true ex sz cs)::hp,ct+1)
 | v=>(v,hp,ct)
def zdC:Hp→Nat→List AV→List AV×Hp×Nat
 | hp,ct,[]=>([],hp,ct)
 | hp,ct,v::r=>((zcv hp ct v).1::(zdC (zcv hp ct v).2.1 (zcv hp ct v).2.2 r).1,(zdC (zcv hp ct v).2.1 (zcv hp ct v).2.2 r).2)
def own (hp:Hp) (ct:Nat):AV→AV×Hp×Nat
 | .tup vs=>(.tup (zdC hp ct vs).1,(zdC hp ct vs).2)
 | v=>zcv hp ct v
mutual
def zcu:AV→List Nat
 | .ptr id _=>[id]
 | .osl id _ _=>[id]
 | .map id=>[id]
 | .it id=>[id]
 | .fn (.f _) first cap=>zcs first++zcs cap
 | .fn (.y l) _ _=>[l]
 | .agg cs=>zcs cs
 | .tup cs=>zcs cs
 | _=>[]
def zcs:List AV→List Nat
 | []=>[]
 | v::r=>zcu v++zcs r
end
def zcp:Env→List Nat
 | []=>[]
 | (_,v)::r=>zcu v++zcp r
def zed:Obj→List Nat
 | .cells _ pu _ _ cs=>bif pu then [] else zcs cs
 | .mp _ ks vs=>zcs ks++zcs vs
 | .si _ _=>[]
 | .lp tm _ _ _ _ _=>zcp tm
mutual
def ren (f:Nat→Option Nat):AV→AV
 | .ptr id o=>match f id with | some j=> .ptr j o | none=> .undef
 | .osl id o n=>match f id with | some j=> .osl j o n | none=> .undef
 | .map id=>match f id with | some j=> .map j | none=> .undef
 | .it id=>match f id with | some j=> .it j | none=> .undef
 | .fn (.f g) first cap=> .fn (.f g) (zcN f first) (zcN f cap)
 | .fn (.y l) first cap=>match f l with | some j=> .fn (.y j) (zcN f first) (zcN f cap) | none=> .undef
 | .agg cs=> .agg (zcN f cs)
 | .tup cs=> .tup (zcN f cs)
 | v=>v
def zcN (f:Nat→Option Nat):List AV→List AV
 | []=>[]
 | v::r=>ren f v::zcN f r
end
def zfu (f:Nat→Option Nat):Env→Env
 | []=>[]
 | (i,v)::r=>(i,ren f v)::zfu f r
def zga (f:Nat→Option Nat):Obj→Obj
 | .cells rw pu ex sz cs=> .cells rw pu ex sz (bif pu then cs else zcN f cs)
 | .mp rw ks vs=> .mp rw (zcN f ks) (zcN f vs)
 | .si s pos=> .si s pos
 | .lp tm ps as_ body st pe=> .lp (zfu f tm) ps as_ body st pe
def keep (tm:Env):List Nat→Env
 | []=>[]
 | i::r=>(i,zc tm i)::keep tm r
def zf9 (i:Nat):List Nat→Bool
 | []=>false
 | j::r=>bif Nat.beq j i then true else zf9 i r
def zfn (hp:Hp) (base:Nat):Nat→List Nat→List Nat→List Nat
 | 0,_,seen=>seen
 | _+1,[],seen=>seen
 | n+1,id::work,seen=>
  bif Nat.blt id base||zf9 id seen then zfn hp base n work seen
  else match zq hp id with
   | some o=>zfn hp base n (zed o++work) (seen++[id])
   | none=>zfn hp base n work seen
def zaX (base:Nat):Hp→List Nat
 | []=>[]
 | (id,o)::r=>bif Nat.blt id base then zed o++zaX base r else zaX base r
def zgv (i:Nat):List Nat→Nat→Option Nat
 | [],_=>none
 | j::r,k=>bif Nat.beq j i then some k else zgv i r (k+1)
def zdo (base:Nat) (seen:List Nat) (id:Nat):Option Nat:=bif Nat.blt id base then some id else zgv id seen base
def zdV (base:Nat) (f:Nat→Option Nat):Hp→Hp
 | []=>[]
 | (id,o)::r=>bif Nat.blt id base then (id,zga f o)::zdV base f r else zdV base f r
def zdq (hp:Hp) (f:Nat→Option Nat):List Nat→Nat→Hp→Hp
 | [],_,acc=>acc
 | id::r,k,acc=>match zq hp id with | some o=>zdq hp f r (k+1) ((k,zga f o)::acc) | none=>zdq hp f r (k+1) acc
def zA (live:List Nat) (s:St):St:=
 let tm:=keep s.tm live
 let seen:=zfn s.hp s.base 100000 (zcp tm++zaX s.base s.hp) []
 let f:=zdo s.base seen
 {tm:=zfu f tm,hp:=zdq s.hp f seen s.base (zdV s.base f s.hp),ct:=s.base+seen.length,base:=s.base}
def zcC (hp:Hp) (sz:Nat):AV→Option (Nat×List AV)
 | .nils=>some (0,[])
 | .vsl _ n cs=>bif Nat.beq cs.length (n*sz) then some (n,cs) else none
 | .osl id o n=>
  match zq hp id with
  | some (.cells _ _ _ _ cs)=>bif Nat.ble (o+n*sz) cs.length then some (n,slice o (n*sz) cs) else none
  | _=>none
 | _=>none
def zg8:List Nat→List AV
 | []=>[]
 | b::r=> .int .u8 b::zg8 r
def ltL:List Nat→List Nat→Bool
 | _,[]=>false
 | [],_::_=>true
 | a::x,b::y=>Nat.blt a b||(Nat.beq a b&&ltL x y)
def eqL:List Nat→List Nat→Bool
 | [],[]=>true
 | a::x,b::y=>Nat.beq a b&&eqL x y
 | _,_=>false
def zaa:List Nat→List AV→List AV→Option Bool
 | [],[],[]=>some true
 | 0::ks,.bool a::x,.bool b::y=>match zaa ks x y with | some r=>some ((a==b)&&r) | none=>none
 | 1::ks,.int k a::x,.int k' b::y=>if k=k' then (match zaa ks x y with | some r=>some ((a==b)&&r) | none=>none) else none
 | 2::ks,.str a::x,.str b::y=>match zaa ks x y with | some r=>some (eqL a b&&r) | none=>none
 | _,_,_=>none
def zeI:EqK→AV→AV→Option Bool
 | .b,.bool a,.bool b=>some (a==b)
 | .sl,.nils,.nils=>some true
 | .sl,.nils,.vsl _ _ _=>some false
 | .sl,.nils,.osl _ _ _=>some false
 | .sl,.vsl _ _ _,.nils=>some false
 | .sl,.osl _ _ _,.nils=>some false
 | .fn,.nilf,.nilf=>some true
 | .fn,.nilf,.fn _ _ _=>some false
 | .fn,.fn _ _ _,.nilf=>some false
 | .ag ks,.agg a,.agg b=>zaa ks a b
 | _,_,_=>none
def intCmp (op:BinOp) (x y:Int):Option Bool:=
 match op with
 | .eql=>some (x==y)
 | .neq=>some (x !=y)
 | .lss=>some (decide (x<y))
 | .leq=>some (decide (x≤y))
 | .gtr=>some (decide (x>y))
 | .geq=>some (decide (x≥y))
 | _=>none
def zdy (op:BinOp) (k:IntKind) (x y:Int):Option AV:=
 match op with
 | .add=>some (.int k (k.wrap (x+y)))
 | .sub=>some (.int k (k.wrap (x-y)))
 | .mul=>some (.int k (k.wrap (x*y)))
 | .quo=>if y=0 then none else some (.int k (k.wrap (x.tdiv y)))
 | .rem=>if y=0 then none else some (.int k (x.tmod y))
 | .and=>some (.int k (k.wrap (BitVec.ofInt k.bits x&&&BitVec.ofInt k.bits y).toNat))
 | .or=>some (.int k (k.wrap (BitVec.ofInt k.bits x|||BitVec.ofInt k.bits y).toNat))
 | .xor=>some (.int k (k.wrap (BitVec.ofInt k.bits x^^^BitVec.ofInt k.bits y).toNat))
 | .andNot=>some (.int k (k.wrap (BitVec.ofInt k.bits x&&&~~~(BitVec.ofInt k.bits y)).toNat))
 | .shl | .shr=>none
 | op=>match intCmp op x y with | some b=>some (.bool b) | none=>none
def zfe (op:BinOp) (k:IntKind) (x y:Int):Option AV:=
 if y<0 then none else
 match op with
 | .shl=>some (.int k (k.wrap (x*2^(min y.toNat k.bits))))
 | .shr=>some (.int k (x.fdiv (2^(min y.toNat k.bits))))
 | _=>none
def zn2 (op:BinOp) (x y:List Nat):Option AV:=
 match op with
 | .add=>bif Nat.ble (x.length+y.length) 9223372036854775807 then some (.str (x++y)) else none
 | .eql=>some (.bool (eqL x y))
 | .neq=>some (.bool (!eqL x y))
 | .lss=>some (.bool (ltL x y))
 | .leq=>some (.bool (ltL x y||eqL x y))
 | .gtr=>some (.bool (!(ltL x y||eqL x y)))
 | .geq=>some (.bool (!ltL x y))
 | _=>none
def zvP (op:BinOp) (k:FloatKind) (x y:Nat):Option AV:=
 let c:=k.format.order x y
 let ar (r:Option Nat):Option AV:=match r with | some b=>some (.flt k b) | none=>none
 match op with
 | .add=>ar (k.format.add x y)
 | .sub=>ar (k.format.sub x y)
 | .mul=>ar (k.format.mul x y)
 | .quo=>ar (k.format.div x y)
 | .eql=>some (.bool (c==some .eq))
 | .neq=>some (.bool (c !=some .eq))
 | .lss=>some (.bool (c==some .lt))
 | .leq=>some (.bool (c==some .lt||c==some .eq))
 | .gtr=>some (.bool (c==some .gt))
 | .geq=>some (.bool (c==some .gt||c==some .eq))
 | _=>none
def binOp (op:BinOp) (x y:AV):Option AV:=
 match x,y with
 | .int k a,.int k' b=>
  match op with
  | .shl | .shr=>zfe op k a b
  | _=>if k=k' then zdy op k a b else none
 | .flt k a,.flt k' b=>if k=k' then zvP op k a b else none
 | .str a,.str b=>zn2 op a b
 | _,_=>none
def unOp (op:UnOp) (x:AV):Option AV:=
 match op,x with
 | .neg,.int k n=>some (.int k (k.wrap (0-n)))
 | .xor,.int k n=>zdy .xor k (if k.signed then -1 else k.max) n
 | .not,.bool b=>some (.bool !b)
 | .neg,.flt k b=>some (.flt k (b^^^2^(k.format.exponentBits+k.format.fractionBits)))
 | _,_=>none
def ziV (c:Conv) (x:AV):Option AV:=
 match c,x with
 | .toInt k,.int _ n=>some (.int k (k.wrap n))
 | .toFlt k,.int _ n=>some (.flt k (k.nearest n))
 | .toInt k,.flt s b=>
  match (s.decode b).toInt .zero with
  | some n=>if k.min≤n∧n≤k.max then some (.int k n) else none
  | none=>none
 | .toFlt k,.flt s b=>
  if s=k then some (.flt k b) else
  match s.decode b with
  | .number sg m e=>if (k.decode (k.encode (.number sg m e))).isInfinity then none else some (.flt k (k.encode (.number sg m e)))
  | _=>none
 | .str,.str s=>some (.str s)
 | _,_=>none
def ld1 (sz:Nat) (ag:Bool) (cs:List AV):Option AV:=
 bif ag then (bif Nat.ble sz cs.length then some (.agg (cs.take sz)) else none)
 else match cs with | v::_=>some v | []=>none
def zaE (x:AV):Option Nat:=
 match x with
 | .int _ n=>match n with | .ofNat k=>some k | .negSucc _=>none
 | _=>none
def zao (tm:Env) (d:Nat):Option X→Option Nat
 | none=>some d
 | some x=>zaE (zp tm x)
def zbe (hp:Hp) (k:Cut) (x:AV) (tm:Env) (lo hi:Option X):Option AV:=
 match k,x with
 | .str,.str s=>
  match zao tm 0 lo,zao tm s.length hi with
  | some l,some h=>bif Nat.ble l h&&Nat.ble h s.length then some (.str ((s.take h).drop l)) else none
  | _,_=>none
 | .sl _,.nils=>
  match zao tm 0 lo,zao tm 0 hi with
  | some 0,some 0=>some .nils
  | _,_=>none
 | .sl sz,.vsl ex n cs=>
  match zao tm 0 lo,zao tm n hi with
  | some l,some h=>bif Nat.ble l h&&Nat.ble h n then some (.vsl (ex&&Nat.beq h n) (h-l) (slice (l*sz) ((h-l)*sz) cs)) else none
  | _,_=>none
 | .sl sz,.osl id o n=>
  match zq hp id with
  | some (.cells _ _ _ z _)=>
   match zao tm 0 lo,zao tm n hi with
   | some l,some h=>
    bif Nat.ble l h&&Nat.ble h n&&Nat.beq z sz then
     bif Nat.beq l h&& !Nat.beq l 0 then some (.vsl false 0 []) else some (.osl id (o+l*sz) (h-l))
    else none
   | _,_=>none
  | _=>none
 | _,_=>none
def fill (tm:Env):List AV→List (Nat×Nat×X)→Option (List AV)
 | cs,[]=>some cs
 | cs,(o,sz,x)::r=>
  let new:=cellsOf (zp tm x)
  bif Nat.beq new.length sz&&Nat.ble (o+sz) cs.length&&zH new then fill tm (zb6 o new cs) r else none
def zll:AV→AV→Option Bool
 | .int k a,.int k' b=>if k=k' then some (a==b) else none
 | .str a,.str b=>some (eqL a b)
 | .bool a,.bool b=>some (a==b)
 | _,_=>none
def zdF:Nat→AV→Bool
 | 0,.bool _=>true
 | 1,.int _ _=>true
 | 2,.str _=>true
 | _,_=>false
def zj3 (k:AV):List AV→List AV→Option (Option AV)
 | [],_=>some none
 | k'::ks,v::vs=>match zll k k' with | some true=>some (some v) | some false=>zj3 k ks vs | none=>none
 | _::_,[]=>none
def zms (k v:AV):List AV→List AV→Option (List AV×List AV)
 | [],[]=>some ([k],[v])
 | k'::ks,u::us=>
  match zll k k' with
  | some true=>some (k'::ks,v::us)
  | some false=>match zms k v ks us with | some (ks',us')=>some (k'::ks',u::us') | none=>none
  | none=>none
 | _,_=>none
def min2:AV→AV→Option AV
 | .int k x,.int _ y=>some (.int k (if y<x then y else x))
 | .flt k x,.flt _ y=>
  match k.format.order x y with
  | none=>none
  | some .lt=>some (.flt k x)
  | some .gt=>some (.flt k y)
  | some .eq=>some (.flt k (if (k.decode x).neg then x else y))
 | _,_=>none
def max2:AV→AV→Option AV
 | .int k x,.int _ y=>some (.int k (if y>x then y else x))
 | .flt k x,.flt _ y=>
  match k.format.order x y with
  | none=>none
  | some .lt=>some (.flt k y)
  | some .gt=>some (.flt k x)
  | some .eq=>some (.flt k (if (k.decode x).neg then y else x))
 | _,_=>none
def ziv (f:AV→AV→Option AV):AV→List AV→Option AV
 | a,[]=>some a
 | a,b::r=>match f a b with | some c=>ziv f c r | none=>none
def zb1:Nat:=1099511627776
abbrev Res:=Option (AV×Hp×Nat)
def zeF (hp:Hp) (sz:Nat) (ag:Bool):AV→Option AV
 | .ptr id o=>match zq hp id with | some (.cells _ _ _ _ cs)=>ld1 sz ag (cs.drop o) | _=>none
 | .vptr cs=>ld1 sz ag cs
 | _=>none
def zod (k:Nat):AV→Option AV
 | .ptr id o=>some (.ptr id (o+k))
 | .vptr cs=>bif Nat.ble k cs.length then some (.vptr (cs.drop k)) else none
 | _=>none
def zqW (o sz:Nat) (ag:Bool):AV→Option AV
 | .agg cs=>ld1 sz ag (cs.drop o)
 | _=>none
def zdh (sz i:Nat):AV→Option AV
 | .osl id o n=>bif Nat.blt i n then some (.ptr id (o+i*sz)) else none
 | .vsl _ n cs=>bif Nat.blt i n then some (.vptr (cs.drop (i*sz))) else none
 | _=>none
def zlk (len sz i:Nat):AV→Option AV
 | .ptr id o=>bif Nat.blt i len then some (.ptr id (o+i*sz)) else none
 | .vptr cs=>bif Nat.blt i len then some (.vptr (cs.drop (i*sz))) else none
 | _=>none
def zeb (i:Nat):AV→Option AV
 | .str s=>match s[i]? with | some b=>some (.int .u8 b) | none=>none
 | _=>none
def zsR (len sz:Nat) (ag:Bool) (i:Nat):AV→Option AV
 | .agg cs=>bif Nat.blt i len then ld1 sz ag (cs.drop (i*sz)) else none
 | _=>none
def ziw (hp:Hp) (k:AV):AV→Option (Option AV)
 | .nilm=>some none
 | .map id=>match zq hp id with | some (.mp _ ks vs)=>zj3 k ks vs | _=>none
 | .vmap ks vs=>zj3 k ks vs
 | _=>none
def zb8 (hp:Hp):Nat→AV→Option AV
 | 0,.str s=>some (.int .i64 s.length)
 | 1,.nils=>some (.int .i64 0)
 | 1,.vsl _ n _=>some (.int .i64 n)
 | 1,.osl _ _ n=>some (.int .i64 n)
 | 2,.nilm=>some (.int .i64 0)
 | 2,.vmap ks _=>some (.int .i64 ks.length)
 | 2,.map id=>match zq hp id with | some (.mp _ ks _)=>some (.int .i64 ks.length) | _=>none
 | _,_=>none
def zB (tm:Env) (hp:Hp):Op→Option AV
 | .mov x=>some (zp tm x)
 | .pick c a b=>match zp tm c with | .bool t=>some (bif t then zp tm a else zp tm b) | _=>none
 | .mkagg zero parts=>match fill tm zero parts with | some cs=>some (.agg cs) | none=>none
 | .ld sz ag x=>zeF hp sz ag (zp tm x)
 | .nilc x=>
  match zp tm x with
  | .ptr id o=>some (.ptr id o)
  | .vptr cs=>some (.vptr cs)
  | .fn f a b=>some (.fn f a b)
  | _=>none
 | .bin op x y=>binOp op (zp tm x) (zp tm y)
 | .eq ne k x y=>match zeI k (zp tm x) (zp tm y) with | some r=>some (.bool (ne !=r)) | none=>none
 | .un op x=>unOp op (zp tm x)
 | .cv k x=>ziV k (zp tm x)
 | .mkf f first cap=>some (.fn f (zaz tm first) (zaz tm cap))
 | .sli k x lo hi=>zbe hp k (zp tm x) tm lo hi
 | .off k x=>zod k (zp tm x)
 | .fld o sz ag x=>zqW o sz ag (zp tm x)
 | .ixa sz x i=>match zaE (zp tm i) with | some j=>zdh sz j (zp tm x) | none=>none
 | .ixp len sz x i=>match zaE (zp tm i) with | some j=>zlk len sz j (zp tm x) | none=>none
 | .ixs x i=>match zaE (zp tm i) with | some j=>zeb j (zp tm x) | none=>none
 | .ixv len sz ag x i=>match zaE (zp tm i) with | some j=>zsR len sz ag j (zp tm x) | none=>none
 | .lkp kk zero ok m k=>
  bif zdF kk (zp tm k) then
   match ziw hp (zp tm k) (zp tm m) with
   | some (some v)=>some (bif ok then .tup [v,.bool true] else v)
   | some none=>some (bif ok then .tup [zero,.bool false] else zero)
   | none=>none
  else none
 | .ext i x=>match zp tm x with | .tup vs=>vs[i]? | _=>none
 | .len k x=>zb8 hp k (zp tm x)
 | .mn xs=>match zaz tm xs with | a::r=>ziv min2 a r | []=>none
 | .mx xs=>match zaz tm xs with | a::r=>ziv max2 a r | []=>none
 | _=>none
def z5 (tm:Env) (hp:Hp) (ct:Nat):Op→Option (AV×Obj)
 | .box sz x=>
  let cs:=cellsOf (zp tm x)
  bif Nat.beq cs.length sz&&zH cs then some (.ptr ct 0,.cells true (zn cs) true sz cs) else none
 | .mksl n sz zero parts=>
  match fill tm zero parts with
  | some cs=>bif Nat.beq cs.length (n*sz) then some (.osl ct 0 n,.cells true (zn cs) true sz cs) else none
  | none=>none
 | .mks sz bytes zero len cap=>
  match zaE (zp tm len),zaE (zp tm cap) with
  | some l,some c=>
   bif Nat.ble l c&&(Nat.ble c zb1&&(Nat.ble (c*bytes) zb1&&(Nat.beq zero.length sz&&zH zero))) then
    some (.osl ct 0 l,.cells true (zn zero) (Nat.beq l c) sz (List.replicate l zero).flatten)
   else none
  | _,_=>none
 | .mkm=>some (.map ct,.mp true [] [])
 | .rng x=>match zp tm x with | .str s=>some (.it ct,.si s 0) | _=>none
 | _=>none
def zcH (s:List Nat) (i:Nat):Nat×Nat:=
 let at' (k:Nat):Nat:=s.getD (i+k) 0
 let cont (k:Nat):Bool:=decide (i+k<s.length)&&at' k/64==2
 let b0:=at' 0
 if b0<0x80 then (b0,1)
 else if b0/32==6&&cont 1 then
  let c:=(b0%32)*64+at' 1%64
  if c≥0x80 then (c,2) else (Go.Utf8.runeError,1)
 else if b0/16==14&&cont 1&&cont 2 then
  let c:=(b0%16)*4096+(at' 1%64)*64+at' 2%64
  if c≥0x800&&Go.Utf8.valid c then (c,3) else (Go.Utf8.runeError,1)
 else if b0/8==30&&cont 1&&cont 2&&cont 3 then
  let c:=(b0%8)*262144+(at' 1%64)*4096+(at' 2%64)*64+at' 3%64
  if c≥0x10000&&Go.Utf8.valid c then (c,4) else (Go.Utf8.runeError,1)
 else (Go.Utf8.runeError,1)
def zeU (hp:Hp) (sz:Nat):AV→Option (Nat×List AV)
 | .str b=>bif Nat.beq sz 1 then some (b.length,zg8 b) else none
 | v=>zcC hp sz v
def zV (tm:Env) (hp:Hp) (ct:Nat):Op→Res
 | .st sz x v=>
  let new:=cellsOf (zp tm v)
  match zp tm x with
  | .ptr id o=>
   match zq hp id with
   | some (.cells true pu ex z cs)=>
    bif Nat.beq new.length sz&&Nat.ble (o+sz) cs.length&&zH new then
     some (.tup [],z7 hp id (.cells true (pu&&zn new) ex z (zb6 o new cs)),ct)
    else none
   | _=>none
  | _=>none
 | .mup kk m k v=>
  match zp tm m with
  | .map id=>
   match zq hp id with
   | some (.mp true ks vs)=>bif !zdF kk (zp tm k) then none else match zms (zp tm k) (zp tm v) ks vs with | some (ks',vs')=>some (.tup [],z7 hp id (.mp true ks' vs'),ct) | none=>none
   | _=>none
  | _=>none
 | .nxt x=>
  match zp tm x with
  | .it id=>
   match zq hp id with
   | some (.si s pos)=>
    bif Nat.blt pos s.length then
     match zcH s pos with
     | (c,wd)=>some (.tup [.bool true,.int .i64 pos,.int .i32 c],z7 hp id (.si s (pos+wd)),ct)
    else some (.tup [.bool false],hp,ct)
   | _=>none
  | _=>none
 | .app sz bytes s x=>
  match zeU hp sz (zp tm x) with
  | none=>none
  | some (m,new)=>
   match zp tm s with
   | .nils=>
    bif Nat.beq m 0 then some (.nils,hp,ct)
    else bif Nat.ble m zb1&&(Nat.ble (m*bytes) zb1&&Nat.blt 0 sz) then some (.osl ct 0 m,(ct,.cells true (zn new) false sz new)::hp,ct+1) else none
   | .vsl true n cs=>
    bif Nat.beq m 0 then some (.vsl true n cs,hp,ct)
    else bif Nat.ble (n+m) zb1&&(Nat.ble ((n+m)*bytes) zb1&&(Nat.beq cs.length (n*sz)&&Nat.blt 0 sz)) then some (.osl ct 0 (n+m),(ct,.cells true (zn cs&&zn new) false sz (cs++new))::hp,ct+1) else none
   | .osl id o n=>
    match zq hp id with
    | some (.cells true pu _ z cs)=>
     bif Nat.beq z sz&&(Nat.ble (n+m) zb1&&(Nat.ble ((n+m)*bytes) zb1&&(Nat.ble (o+n*sz) cs.length&&(Nat.blt 0 sz&&zH new)))) then
      some (.osl ct 0 (n+m),(ct,.cells true (pu&&zn new) false sz (slice o (n*sz) cs++new))::hdel hp id,ct+1)
     else none
    | _=>none
   | _=>none
 | .cpy sz d s=>
  match zcC hp sz (zp tm s),zp tm d with
  | some (m,new),.osl id o n=>
   match zq hp id with
   | some (.cells true pu ex z cs)=>
    bif Nat.beq z sz&&(Nat.ble (o+n*sz) cs.length&&zH new) then
     some (.int .i64 (min m n:Nat),z7 hp id (.cells true (pu&&zn new) ex z (zb6 o (new.take (min m n*sz)) cs)),ct)
    else none
   | _=>none
  | _,_=>none
 | _=>none
def zcL:X→List Nat | .t i=>[i] | .c _=>[]
def zeV:List X→List Nat
 | []=>[]
 | x::r=>zcL x++zeV r
def zoH:Option X→List Nat | some x=>zcL x | none=>[]
def znT:List (Nat×Nat×X)→List Nat
 | []=>[]
 | (_,_,x)::r=>zcL x++znT r
def zbY:Op→List Nat
 | .mov x | .box _ x | .ld _ _ x | .nilc x | .un _ x | .cv _ x | .off _ x | .fld _ _ _ x | .rng x | .nxt x | .ext _ x | .len _ x=>zcL x
 | .pick a b c | .mup _ a b c=>zcL a++(zcL b++zcL c)
 | .mkagg _ ps | .mksl _ _ _ ps=>znT ps
 | .st _ a b | .bin _ a b | .eq _ _ a b | .ixa _ a b | .ixp _ _ a b | .ixs a b | .ixv _ _ _ a b | .lkp _ _ _ a b | .app _ _ a b | .cpy _ a b=>zcL a++zcL b
 | .mkf _ a b=>zeV a++zeV b
 | .mkm=>[]
 | .mks _ _ _ a b=>zcL a++zcL b
 | .sli _ x a b=>zcL x++(zoH a++zoH b)
 | .call _ f xs=>zcL f++zeV xs
 | .calld _ f xs=>zcL f++zeV xs
 | .std _ _ a b=>zcL a++zcL b
 | .mn xs | .mx xs=>zeV xs
def zD:Op→Nat
 | .mov _ | .pick _ _ _ | .mkagg _ _ | .nilc _ | .bin _ _ _ | .eq _ _ _ _ | .un _ _ | .cv _ _ | .mkf _ _ _ | .off _ _ | .fld _ _ _ _ | .ixa _ _ _ | .ixp _ _ _ _ | .ixs _ _ | .ixv _ _ _ _ _ | .ext _ _ | .mn _ | .mx _=>0
 | .sli .str _ _ _ | .len 0 _ | .len 1 _=>0
 | .st _ _ _ | .mup _ _ _ _ | .nxt _ | .app _ _ _ _ | .cpy _ _ _ | .calld _ _ _ | .std _ _ _ _ | .call .heap _ _ | .call .dyn _ _=>2
 | _=>1
def zvQ:Option (Nat×Bool)→List Nat | some (t,_)=>[t] | none=>[]
def zgI (o:ROp):List Nat:=zvQ o.guard++zbY o.op
def ztM (d:Option Nat) (l:List Nat):Bool:=match d with | some i=>zf9 i l | none=>false
def zDA (d e:Option Nat):Bool:=match d,e with | some i,some j=>Nat.beq i j | _,_=>false
def zg2 (a b:ROp):Bool:=ztM a.dst (zgI b)||ztM b.dst (zgI a)||zDA a.dst b.dst
def zu0 (sz:Nat) (ag:Bool) (t:Nat):List (Nat×Bool×Nat)→Bool
 | []=>false
 | (s,g,u)::r=>(Nat.beq s sz&&(g==ag&&Nat.beq u t))||zu0 sz ag t r
def zlD (t:Nat):List ROp→Bool
 | []=>true
 | o::r=> !ztM o.dst [t]&&zlD t r
def zht (a b:ROp) (r:List ROp):Bool:=
 match a.guard,a.op,b.op with
 | none,.ld sz ag (.t t),.calld rs _ _=>zu0 sz ag t rs&&zlD t (a::r)
 | none,.ld sz ag (.t t),.std rs _ _ _=>zu0 sz ag t rs&&zlD t (a::r)
 | _,_,_=>false
def zeJ (a b:ROp):Bool:=
 match zD a.op,zD b.op with
 | 1,2 | 2,1 | 2,2=>true
 | _,_=>false
def zhC (m:Nat) (b:ROp):List ROp→Nat→Bool
 | [],_=>true
 | a::r,i=>(Nat.testBit m i|| !(zg2 a b||(zeJ a b&& !zht a b r)))&&zhC m b r (i+1)
def zfY (done:List ROp):List ROp→List Nat→Bool
 | [],_=>true
 | b::r,m::ms=>zhC m b done 0&&zfY (done++[b]) r ms
 | _::_,[]=>false
def zji (m:Nat):List ROp→Nat→List (Nat×Bool×Nat)
 | [],_=>[]
 | a::r,i=>
  match Nat.testBit m i,a with
  | false,⟨_,none,.ld sz ag (.t t)⟩=>(sz,ag,t)::zji m r (i+1)
  | _,_=>zji m r (i+1)
def zNE (rs:List (Nat×Bool×Nat)) (sz:Nat) (x v:X):Op:=match rs with | []=> .st sz x v | rs=> .std rs sz x v
def zfo (done:List ROp):List ROp→List Nat→List ROp
 | ⟨d,g,.calld _ f xs⟩::r,m::ms=>let o:ROp:=⟨d,g,.calld (zji m done 0) f xs⟩;o::zfo (done++[o]) r ms
 | ⟨d,g,.st sz x v⟩::r,m::ms=>let o:ROp:=⟨d,g,zNE (zji m done 0) sz x v⟩;o::zfo (done++[o]) r ms
 | o::r,_::ms=>o::zfo (done++[o]) r ms
 | l,_=>l
abbrev zN:=Nat→Option Fnc
structure Lib where
 pure:Nat→Option (List AV→Option AV)
 heap:Nat→Option (Hp→Nat→List AV→Res)
abbrev Run:=VC→St→Option (Ex×St)
def zab:Nat→List AV→Env
 | _,[]=>[]
 | i,v::r=>(i,v)::zab (i+1) r
def zbA (s:St):RV→Option AV
 | .t i=>some (zc s.tm i)
 | .cell i sz ag=>
  match zc s.tm i with
  | .ptr id o=>match zq s.hp id with | some (.cells _ _ _ _ cs)=>ld1 sz ag (cs.drop o) | _=>none
  | .vptr cs=>ld1 sz ag cs
  | _=>none
def za1 (s:St):List RV→Option (List AV)
 | []=>some []
 | r::rest=>match zbA s r,za1 s rest with | some v,some vs=>some (v::vs) | _,_=>none
def zaq (s:St) (rs:List RV):Option AV:=
 match za1 s rs with
 | some [v]=>some v
 | some vs=>some (.tup vs)
 | none=>none
def zk (P:zN) (L:Lib) (self:Run) (n:Nat) (vals:List AV):Option AV:=
 match L.pure n with
 | some sp=>sp vals
 | none=>
  match P n with
  | none=>none
  | some F=>
   match self F.body ⟨zab 0 vals,[],0,0⟩ with
   | some (.normal,s) | some (.ret,s)=>match zaq s F.res with | some v=>zaL s.hp v | none=>none
   | _=>none
def zo3:Ex→Jump
 | .normal=> .none
 | .ret=> .ret
 | .exit id=> .exit id
def zet:Env→List Nat→List AV→Option Env
 | tm,[],[]=>some tm
 | tm,p::ps,v::vs=>zet ((p,v)::tm) ps vs
 | _,_,_=>none
def zbj (P:zN) (L:Lib) (self:Run) (hp:Hp) (ct:Nat) (n:Nat) (vals:List AV):Res:=
 match L.heap n with
 | some sp=>sp hp ct vals
 | none=>
  match P n with
  | none=>none
  | some F=>
   match self F.body ⟨zab 0 vals,hp,ct,ct⟩ with
   | some (.normal,s) | some (.ret,s)=>match zaq s F.res with | some v=>some (v,s.hp,s.ct) | none=>none
   | _=>none
def zb3 (self:Run) (hp:Hp) (ct:Nat) (l:Nat) (xs:List AV):Res:=
 match zq hp l with
 | some (.lp tm ps as_ body 0 _)=>
  match zet tm ps xs with
  | none=>none
  | some tm'=>
   match self as_ ⟨tm',hp,ct,ct⟩ with
   | some (.normal,s1)=>
    match zq s1.hp l with
    | some (.lp tm1 ps1 as1 body1 0 pe1)=>
     match self body ⟨s1.tm,z7 s1.hp l (.lp tm1 ps1 as1 body1 1 pe1),s1.ct,s1.ct⟩ with
     | some (ex,s2)=>
      match zq s2.hp l with
      | some (.lp tm2 ps2 as2 body2 1 _)=>
       match ex with
       | .normal=>some (.bool true,z7 s2.hp l (.lp tm2 ps2 as2 body2 0 .none),s2.ct)
       | ex=>some (.bool false,z7 s2.hp l (.lp tm2 ps2 as2 body2 2 (zo3 ex)),s2.ct)
      | _=>none
     | none=>none
    | _=>none
   | _=>none
 | _=>none
def zaw (P:zN) (L:Lib) (self:Run) (hp:Hp) (ct:Nat) (m:Md) (fv:AV) (xs:List AV):Res:=
 match fv with
 | .fn (.f n) first cap=>
  match m with
  | .pure=>
   match zT zcJ hp (first++(xs++cap)) with
   | some (vals,hp1)=>match zk P L self n vals with | some r=>some (shut r,hp1,ct) | none=>none
   | none=>none
  | .own=>
   match zT zcJ hp (first++(xs++cap)) with
   | some (vals,hp1)=>match zk P L self n vals with | some r=>some (own hp1 ct r) | none=>none
   | none=>none
  | .heap=>zbj P L self hp ct n (first++(xs++cap))
  | .dyn=>
   bif zn (first++(xs++cap)) then
    match zk P L self n (first++(xs++cap)) with | some r=>some (shut r,hp,ct) | none=>none
   else zbj P L self hp ct n (first++(xs++cap))
 | .fn (.y l) _ _=>
  match m with
  | .heap | .dyn=>zb3 self hp ct l xs
  | _=>none
 | _=>none
def zKk:AV→AV→Bool
 | .int k a,.int k' b=>decide (k=k')&&a==b
 | .bool a,.bool b=>a==b
 | .str a,.str b=>eqL a b
 | .nils,.nils=>true
 | .nilp,.nilp=>true
 | .ptr i o,.ptr j p=>Nat.beq i j&&Nat.beq o p
 | .osl i o n,.osl j p m=>Nat.beq i j&&(Nat.beq o p&&Nat.beq n m)
 | .map i,.map j=>Nat.beq i j
 | _,_=>false
def zec (tm:Env) (hp hp':Hp):List (Nat×Bool×Nat)→Bool
 | []=>true
 | (sz,ag,x)::r=>
  match zeF hp sz ag (zc tm x),zeF hp' sz ag (zc tm x) with
  | some a,some b=>zKk a b&&zec tm hp hp' r
  | _,_=>false
def zc4 (tm:Env) (id:Nat):List (Nat×Bool×Nat)→Bool
 | []=>true
 | (_,_,x)::r=>(match zc tm x with | .ptr j _=> !Nat.beq j id | .vptr _=>true | _=>false)&&zc4 tm id r
def zZ (P:zN) (L:Lib) (self:Run) (tm:Env) (hp:Hp) (ct:Nat) (o:Op):Res:=
 match o with
 | .call m f xs=>zaw P L self hp ct m (zp tm f) (zaz tm xs)
 | .calld rs f xs=>
  match zaw P L self hp ct .dyn (zp tm f) (zaz tm xs) with
  | some (v,hp',ct')=>bif zec tm hp hp' rs then some (v,hp',ct') else none
  | none=>none
 | .std rs sz x v=>
  match zp tm x with
  | .ptr id _=>bif zc4 tm id rs then zV tm hp ct (.st sz x v) else none
  | _=>none
 | .st .. | .mup .. | .nxt .. | .app .. | .cpy .. =>zV tm hp ct o
 | .box .. | .mksl .. | .mks .. | .mkm | .rng .. =>match z5 tm hp ct o with | some (v,b)=>some (v,(ct,b)::hp,ct+1) | none=>none
 | o=>match zB tm hp o with | some v=>some (v,hp,ct) | none=>none
def put (d:Option Nat) (v:AV) (tm:Env):Env:=
 match d with
 | some i=>(i,v)::tm
 | none=>tm
def zaF (P:zN) (L:Lib) (self:Run):List ROp→St→Option St
 | [],s=>some s
 | ⟨d,g,o⟩::r,s=>
  let want:=match g with | none=>some true | some (t,b)=>match zc s.tm t with | .bool c=>some (c==b) | .tup []=>some false | _=>none
  match want with
  | some true=>
   match zZ P L self s.tm s.hp s.ct o with
   | some (v,hp,ct)=>zaF P L self r {s with tm:=put d v s.tm,hp:=hp,ct:=ct}
   | none=>none
  | some false=>zaF P L self r {s with tm:=put d (.tup []) s.tm}
  | none=>none
def zfq:List Nat→St→Option St
 | [],s=>some s
 | t::r,s=>
  match zaf zcJ s.hp (zc s.tm t) with
  | some (v,hp)=>zfq r {s with tm:=(t,v)::s.tm,hp:=hp}
  | none=>none
def zF (P:zN) (L:Lib) (self:Run):VC→St→Option (Ex×St)
 | .skip,s=>some (.normal,s)
 | .reg ops,s=>match zaF P L self ops s with | some s'=>some (.normal,s') | none=>none
 | .seq a b,s=>
  match zF P L self a s with
  | some (.normal,s1)=>zF P L self b s1
  | r=>r
 | .cond x a b,s=>
  match zp s.tm x with
  | .bool t=>bif t then zF P L self a s else zF P L self b s
  | _=>none
 | .blk id a,s=>
  match zF P L self a s with
  | some (.exit j,s1)=>bif Nat.beq j id then some (.normal,s1) else some (.exit j,s1)
  | r=>r
 | .kp live,s=>some (.normal,zA live s)
 | .fz ts,s=>match zfq ts s with | some s'=>some (.normal,s') | none=>none
 | .loop live a,s=>
  match zF P L self a (zA live s) with
  | some (.normal,s1)=>self (.loop live a) s1
  | r=>r
 | .rf f ps as_ body,s=>
  match zp s.tm f with
  | .fn (.f n) first cap=>
   match L.heap n with
   | some _=>none
   | none=>
    match zbj P L self ((s.ct,.lp s.tm ps as_ body 0 .none)::s.hp) (s.ct+1) n (first++(.fn (.y s.ct) [] []::cap)) with
    | some (_,hp,ct)=>
     match zq hp s.ct with
     | some (.lp _ _ _ _ st pe)=>
      bif Nat.beq st 1 then none else
      match pe with
      | .none=>some (.normal,{s with hp:=hdel hp s.ct,ct:=ct})
      | .ret=>some (.ret,{s with hp:=hdel hp s.ct,ct:=ct})
      | .exit id=>some (.exit id,{s with hp:=hdel hp s.ct,ct:=ct})
     | _=>none
    | none=>none
  | _=>none
 | .exit id,s=>some (.exit id,s)
 | .ret,s=>some (.ret,s)
def ev (P:zN) (L:Lib) (n:Nat):Run:=Nat.rec (fun _ _=>none) (fun _ ih=>zF P L ih) n
def evF (P:zN) (L:Lib) (n:Nat) (f:Nat) (vals:List AV):Option AV:=zk P L (ev P L n) f vals
end VE
