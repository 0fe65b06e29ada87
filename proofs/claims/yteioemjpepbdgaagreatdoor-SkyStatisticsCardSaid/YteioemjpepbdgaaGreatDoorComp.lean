import GoSem.Op.Equal
import GoSem.Core.Region
import Derived.Test.YteioemjpepbdgaaGreatDoorModel
set_option linter.all false
namespace VE
open Go
structure Hint where
  n : Nat
  ren : FuncId → Option Nat
  live : Nat → List Nat
  out : Nat → Option (List Nat)
  mode : Nat → Md
  fz : Nat → List Nat
section
variable (P : Program) (H : Hint)
mutual
def valAV : Value → AV
  | .int k n => .int k n
  | .bool b => .bool b
  | .float k b => .flt k b
  | .string s => .str (s.data.toList.map UInt8.toNat)
  | .pointer none => .nilp
  | .slice none 0 0 => .nils
  | .map none => .nilm
  | .nilFunc => .nilf
  | .agg ⟨cs⟩ => .agg (valAVs cs)
  | .tuple ⟨cs⟩ => .tup (valAVs cs)
  | _ => .undef
def valAVs : List Value → List AV
  | [] => []
  | v :: r => valAV v :: valAVs r
end
def opX : Operand → X
  | .tmp t => .t t
  | .const v => .c (valAV v)
  | .global _ => .c .undef
  | .func f => match H.ren f with | some g => .c (.fn (.f g) [] []) | none => .c .undef
def opXs : List Operand → List X
  | [] => []
  | x :: r => opX H x :: opXs r
def szT (t : TypeId) : Option Nat := match P.info? t with | some i => some i.size | none => none
def byT (t : TypeId) : Option Nat := match P.info? t with | some i => some i.bytes | none => none
def zeroT (t : TypeId) : Option AV := match P.info? t with | some i => (match i.zero with | some v => some (valAV v) | none => none) | none => none
def aggT (t : TypeId) : Option Bool := match P.underlying t with | some (.struct _) | some (.array _ _) => some true | some _ => some false | none => none
def bad : Op := .call .pure (.c .undef) []
def partsOf (place : Nat → Option (Nat × Nat)) : List (Nat × Operand) → Option (List (Nat × Nat × X))
  | [] => some []
  | (i, x) :: r =>
    match place i, partsOf place r with
    | some (o, s), some l => some ((o, s, opX H x) :: l)
    | _, _ => none
def fieldKinds (self : TypeId → Option (List Nat)) : List Field → Nat → Option (List Nat)
  | [], _ => some []
  | f :: r, o =>
    match self f.type, szT P f.type with
    | some ks, some s =>
      bif f.name != "_" && Nat.beq f.offset o && Nat.beq ks.length s && !P.stoodInHeld f.type then
        (match fieldKinds self r (o + s) with | some l => some (ks ++ l) | none => none)
      else none
    | _, _ => none
def kinds : Nat → TypeId → Option (List Nat)
  | 0, _ => none
  | n + 1, t =>
    match P.underlying t with
    | some .bool => some [0]
    | some (.int _) => some [1]
    | some .string => some [2]
    | some (.struct fs) => fieldKinds P (fun u => kinds n u) fs.toList 0
    | some (.array k e) =>
      match kinds n e, szT P e with
      | some ks, some s => bif Nat.beq ks.length s && !P.stoodInHeld e then some (List.replicate k ks).flatten else none
      | _, _ => none
    | _ => none
def keyOf (t : TypeId) : Option Nat :=
  match P.underlying t with
  | some .bool => some 0
  | some (.int _) => some 1
  | some .string => some 2
  | _ => none
def compAgg (ne : Bool) (t : TypeId) (a b : Operand) : Op :=
  match kinds P 20 t with
  | some ks => bif P.stoodInHeld t || P.eqGuardType P.depth t then bad else .eq ne (.ag ks) (opX H a) (opX H b)
  | none => bad
def compEq (ne : Bool) (op : BinOp) (t : TypeId) (a b : Operand) : Op :=
  match P.underlying t with
  | some (.int _) | some .string | some (.float _) => .bin op (opX H a) (opX H b)
  | some .bool => .eq ne .b (opX H a) (opX H b)
  | some (.slice _) => .eq ne .sl (opX H a) (opX H b)
  | some (.func _ _ _) => .eq ne .fn (opX H a) (opX H b)
  | some (.struct _) | some (.array _ _) => compAgg P H ne t a b
  | _ => bad
def compOp (k : Nat) (o : Oper) : Op :=
  let x (y : Operand) : X := opX H y
  match o.op with
  | .move a | .assign a => .mov (x a)
  | .pick c a b => .pick (x c) (x a) (x b)
  | .alloc t => match szT P t, zeroT P t with | some s, some z => .box s (.c z) | _, _ => bad
  | .box t v => match szT P t with | some s => .box s (x v) | none => bad
  | .build t parts =>
    match P.underlying t, zeroT P t with
    | some (.struct fs), some (.agg z) =>
      match fs.toList.mapM (fun f => (P.info? f.type).map fun i => (f.offset, i.size)) with
      | some pl => (match partsOf H (fun i => pl[i]?) parts.toList with | some ps => .mkagg z ps | none => bad)
      | none => bad
    | some (.array _ e), some (.agg z) =>
      match szT P e with
      | some s => (match partsOf H (fun i => some (i * s, s)) parts.toList with | some ps => .mkagg z ps | none => bad)
      | none => bad
    | _, _ => bad
  | .buildSlice t n parts =>
    match P.underlying t with
    | some (.slice e) =>
      match szT P e, zeroT P e with
      | some s, some z =>
        bif Nat.ble (n * s) 16777216 then
          (match partsOf H (fun i => some (i * s, s)) parts.toList with | some ps => .mksl n s (List.replicate n (cellsOf z)).flatten ps | none => bad)
        else bad
      | _, _ => bad
    | _ => bad
  | .load t a => match szT P t, aggT P t with | some s, some ag => .ld s ag (x a) | _, _ => bad
  | .store t a v => match szT P t with | some s => .st s (x a) (x v) | none => bad
  | .nilCheck a => .nilc (x a)
  | .binOp op t a b _ =>
    match op with
    | .eql => compEq P H false op t a b
    | .neq => compEq P H true op t a b
    | _ => .bin op (x a) (x b)
  | .unOp op _ a => .un op (x a)
  | .convert s d a =>
    match P.underlying s, P.underlying d with
    | some (.int _), some (.int k) | some (.float _), some (.int k) => .cv (.toInt k) (x a)
    | some (.int _), some (.float k) | some (.float _), some (.float k) => .cv (.toFlt k) (x a)
    | some .string, some .string => .cv .str (x a)
    | _, _ => bad
  | .makeFunc (.func f) first cap => match H.ren f with | some g => .mkf (.f g) (opXs H first.toList) (opXs H cap.toList) | none => bad
  | .makeMap t none => match P.underlying t with | some (.map ke _) => (match keyOf P ke with | some _ => .mkm | none => bad) | _ => bad
  | .makeSlice t l c =>
    match P.underlying t with
    | some (.slice e) => (match szT P e, byT P e, zeroT P e with | some s, some b, some z => .mks s b (cellsOf z) (x l) (x c) | _, _, _ => bad)
    | _ => bad
  | .slice t a lo hi none =>
    match P.underlying t with
    | some .string => .sli .str (x a) (lo.map x) (hi.map x)
    | some (.slice e) => (match szT P e with | some s => .sli (.sl s) (x a) (lo.map x) (hi.map x) | none => bad)
    | some (.array n e) => (match szT P e with | some s => .sli (.ar n s) (x a) (lo.map x) (hi.map x) | none => bad)
    | _ => bad
  | .fieldAddr t a i =>
    match P.underlying t with
    | some (.struct fs) =>
      match fs[i]? with
      | some f => (match szT P f.type with | some (_ + 1) => .off f.offset (x a) | _ => bad)
      | none => bad
    | _ => bad
  | .field t a i =>
    match P.underlying t with
    | some (.struct fs) =>
      match fs[i]? with
      | some f => (match szT P f.type, aggT P f.type with | some s, some ag => .fld f.offset s ag (x a) | _, _ => bad)
      | none => bad
    | _ => bad
  | .indexAddr t a i =>
    match P.underlying t with
    | some (.slice e) => (match szT P e with | some s => .ixa s (x a) (x i) | none => bad)
    | some (.array n e) => (match szT P e with | some s => .ixp n s (x a) (x i) | none => bad)
    | _ => bad
  | .index t a i =>
    match P.underlying t with
    | some .string => .ixs (x a) (x i)
    | some (.array n e) => (match szT P e, aggT P e with | some s, some ag => .ixv n s ag (x a) (x i) | _, _ => bad)
    | _ => bad
  | .lookup t a i ok =>
    match P.underlying t with
    | some (.map ke e) => (match keyOf P ke, zeroT P e with | some kk, some z => .lkp kk z ok (x a) (x i) | _, _ => bad)
    | _ => bad
  | .mapUpdate t a i v | .insert t a i v =>
    match P.underlying t with
    | some (.map ke _) => (match keyOf P ke with | some kk => .mup kk (x a) (x i) (x v) | none => bad)
    | _ => bad
  | .range t a => match P.underlying t with | some .string => .rng (x a) | _ => bad
  | .next it true => .nxt (x it)
  | .extract t i => .ext i (x t)
  | .call c =>
    match c.callee with
    | .value f => (match H.mode k with | .dyn => .calld [] (x f) (opXs H c.args.toList) | md => .call md (x f) (opXs H c.args.toList))
    | .builtin b =>
      match b, c.args.toList, c.argTypes.toList with
      | .append, [s, a], [t, u] =>
        match P.underlying t, P.underlying u with
        | some (.slice e), some (.slice _) | some (.slice e), some .string =>
          (match szT P e, byT P e, zeroT P e with | some sz, some by', some z => (bif Nat.beq (cellsOf z).length sz then .app sz by' (x s) (x a) else bad) | _, _, _ => bad)
        | _, _ => bad
      | .len, [a], [t] =>
        match P.underlying t with
        | some (.array n _) => .mov (.c (.int .i64 n))
        | some .string => .len 0 (x a)
        | some (.slice _) => .len 1 (x a)
        | some (.map _ _) => .len 2 (x a)
        | _ => bad
      | .copy, [d, s], [t, _] =>
        match P.underlying t with
        | some (.slice e) => (match szT P e with | some sz => .cpy sz (x d) (x s) | none => bad)
        | _ => bad
      | .min, l, _ => .mn (opXs H l)
      | .max, l, _ => .mx (opXs H l)
      | _, _, _ => bad
    | _ => bad
  | _ => bad
def isCall (o : Oper) : Bool := match o.op with | .call { callee := .value _, .. } => true | _ => false
def dstOk (d : Option Nat) : Bool := match d with | some i => Nat.blt i H.n | none => true
def allLt (n : Nat) : List Nat → Bool
  | [] => true
  | i :: r => Nat.blt i n && allLt n r
def compOps (ops : Array Oper) : List Oper → Nat → List ROp × Nat
  | [], k => ([], k)
  | o :: r, k =>
    let g := match o.guard with
      | none => some none
      | some (j, b) => match (ops[j]?).bind (·.dst) with | some t => some (some (t, b)) | none => none
    match compOps ops r (k + (bif isCall o then 1 else 0)) with
    | (l, k') =>
      match g, dstOk H o.dst with
      | some g, true => (⟨o.dst, g, compOp P H k o⟩ :: l, k')
      | _, _ => (⟨o.dst, none, bad⟩ :: l, k')
def maskOf (acc : List Nat) : List Edge → Nat
  | [] => 0
  | e :: r => bif Region.binds .any e then (2 ^ e.on ||| acc.getD e.on 0) ||| maskOf acc r else maskOf acc r
def masks (acc : List Nat) : List Oper → List Nat
  | [] => acc
  | o :: r => masks (acc ++ [maskOf acc o.after.toList]) r
def edgesBack : List Oper → Nat → Bool
  | [], _ => true
  | o :: r, i => o.after.toList.all (fun e => !Region.binds .any e || Nat.blt e.on i) && edgesBack r (i + 1)
def compReg (ops : Array Oper) (draw : Bool) (k : Nat) : List ROp × Nat :=
  match compOps P H ops ops.toList k with
  | (l, k') =>
    bif draw then
      (let ms := masks [] ops.toList
       let l' := setRs [] l ms
       bif edgesBack ops.toList 0 && pairsOk [] l' ms then (l', k') else ([⟨none, none, bad⟩], k'))
    else (l, k')
def isLoop : Code → Bool
  | .loop _ => true
  | _ => false
def comp : Code → Nat → Nat → VC × Nat × Nat
  | .skip, l, k | .label _, l, k => (.skip, l, k)
  | .region i ops d, l, k => match compReg P H ops d k with | (r, k') => ((match H.fz i with | [] => .reg r | t :: ts => .seq (.fz (t :: ts)) (.reg r)), l, k')
  | .seq a b, l, k => match comp a l k with | (a', l1, k1) => match comp b l1 k1 with | (b', l2, k2) => (.seq a' b', l2, k2)
  | .cond c a b, l, k =>
    match comp a (l + 1) k with
    | (a', l1, k1) =>
      match comp b l1 k1 with
      | (b', l2, k2) => (match H.out l with | some o => .seq (.cond (opX H c) a' b') (.kp o) | none => .cond (opX H c) a' b', l2, k2)
  | .block id a, l, k =>
    match comp a l k with
    | (a', r) => (match isLoop a, H.out l with | true, some o => .seq (.blk id a') (.kp o) | _, _ => .blk id a', r)
  | .loop a, l, k => match comp a (l + 1) k with | (a', r) => (.loop (H.live l) a', r)
  | .rangeFunc f ps as_ body, l, k =>
    match comp as_ l k with | (as', l1, k1) => match comp body l1 k1 with | (b', l2, k2) => (bif allLt H.n ps.toList then .rf (opX H f) ps.toList as' b' else .reg [⟨none, none, bad⟩], l2, k2)
  | .exit id, l, k => (.exit id, l, k)
  | .scope a, l, k => comp a l k
  | .ret, l, k => (.ret, l, k)
  | .goto _, l, k | .refuse _, l, k => (.reg [⟨none, none, bad⟩], l, k)
def compRes : List ResultVar → Option (List RV)
  | [] => some []
  | .tmp t :: r => match compRes r with | some l => some (.t t :: l) | none => none
  | .cell a t :: r => match szT P t, aggT P t, compRes r with | some s, some ag, some l => some (.cell a s ag :: l) | _, _, _ => none
def compFn (fn : Func) : Option Fnc :=
  match fn.body, compRes P fn.results.toList with
  | some c, some rs => bif Nat.ble H.n fn.ntmps then some ⟨rs, (comp P H c 0 0).1⟩ else none
  | _, _ => none
end
end VE
