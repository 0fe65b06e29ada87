import Derived.Attr
import Derived.Test.YteioemjpepbdgaaGreatDoorMono
set_option linter.all false
section
namespace VE
open Go (IntKind BinOp UnOp)
section
variable {P : Prog} {L : Lib}
structure Has (P : Prog) (L : Lib) (n : Nat) (F : Fnc) : Prop where
  pure : L.pure n = none
  heap : L.heap n = none
  code : P n = some F
noncomputable def bindN (P : Prog) (L : Lib) (r : Option (Ex × St)) (b : VC) : Option (Ex × St) := match r with | some (.normal, s) => D P L b s | r => r
def bindB (id : Nat) (r : Option (Ex × St)) : Option (Ex × St) := match r with | some (.exit j, s) => bif Nat.beq j id then some (.normal, s) else some (.exit j, s) | r => r
noncomputable def bindL (P : Prog) (L : Lib) (live : List Nat) (a : VC) (r : Option (Ex × St)) : Option (Ex × St) := match r with | some (.normal, s) => D P L (.loop live a) s | r => r
def norm (r : Option St) : Option (Ex × St) := match r with | some s => some (.normal, s) | none => none
noncomputable def condV (P : Prog) (L : Lib) (v : AV) (a b : VC) (s : St) : Option (Ex × St) := match v with | .bool t => bif t then D P L a s else D P L b s | _ => none
theorem D_skip (s : St) : D P L .skip s = some (.normal, s) := by rw [D_eq]; rfl
theorem D_exit (id : Nat) (s : St) : D P L (.exit id) s = some (.exit id, s) := by rw [D_eq]; rfl
theorem D_ret (s : St) : D P L .ret s = some (.ret, s) := by rw [D_eq]; rfl
theorem D_kp (live : List Nat) (s : St) : D P L (.kp live) s = some (.normal, compact live s) := by rw [D_eq]; rfl
theorem D_fz (ts : List Nat) (s : St) : D P L (.fz ts) s = norm (fzAll ts s) := by rw [D_eq]; rfl
theorem D_reg (ops : List ROp) (s : St) : D P L (.reg ops) s = norm (evOps P L (D P L) ops s) := by rw [D_eq]; rfl
theorem D_seq (a b : VC) (s : St) : D P L (.seq a b) s = bindN P L (D P L a s) b := by
  rw [D_eq, D_eq a]
  simp only [evStep, bindN]
  cases evStep P L (D P L) a s with
  | none => rfl
  | some q =>
    obtain ⟨e, s1⟩ := q
    cases e with
    | normal => exact (D_eq b s1).symm
    | ret => rfl
    | exit id => rfl
theorem D_cond (x : X) (a b : VC) (s : St) : D P L (.cond x a b) s = condV P L (xget s.tm x) a b s := by
  rw [D_eq]
  simp only [evStep, condV]
  cases xget s.tm x with
  | bool t =>
    cases t with
    | true => exact (D_eq a s).symm
    | false => exact (D_eq b s).symm
  | _ => rfl
theorem D_blk (id : Nat) (a : VC) (s : St) : D P L (.blk id a) s = bindB id (D P L a s) := by
  rw [D_eq, D_eq a]
  simp only [evStep, bindB]
  cases evStep P L (D P L) a s with
  | none => rfl
  | some q => obtain ⟨e, s1⟩ := q; cases e <;> rfl
theorem D_loop (live : List Nat) (a : VC) (s : St) : D P L (.loop live a) s = bindL P L live a (D P L a (compact live s)) := by
  rw [D_eq, D_eq a]
  simp only [evStep, bindL]
  cases evStep P L (D P L) a (compact live s) with
  | none => rfl
  | some q => obtain ⟨e, s1⟩ := q; cases e <;> rfl
theorem bindN_n (s : St) (b : VC) : bindN P L (some (.normal, s)) b = D P L b s := rfl
theorem bindN_r (s : St) (b : VC) : bindN P L (some (.ret, s)) b = some (.ret, s) := rfl
theorem bindN_e (id : Nat) (s : St) (b : VC) : bindN P L (some (.exit id, s)) b = some (.exit id, s) := rfl
theorem bindL_n (live : List Nat) (a : VC) (s : St) : bindL P L live a (some (.normal, s)) = D P L (.loop live a) s := rfl
theorem bindL_r (live : List Nat) (a : VC) (s : St) : bindL P L live a (some (.ret, s)) = some (.ret, s) := rfl
theorem bindL_e (live : List Nat) (a : VC) (id : Nat) (s : St) : bindL P L live a (some (.exit id, s)) = some (.exit id, s) := rfl
theorem bindB_n (id : Nat) (s : St) : bindB id (some (.normal, s)) = some (.normal, s) := rfl
theorem bindB_r (id : Nat) (s : St) : bindB id (some (.ret, s)) = some (.ret, s) := rfl
theorem bindB_h (id : Nat) (s : St) : bindB id (some (.exit id, s)) = some (.normal, s) := by simp only [bindB, Nat.beq_refl, cond_true]
theorem bindB_m {id j : Nat} (s : St) (h : j ≠ id) : bindB id (some (.exit j, s)) = some (.exit j, s) := by
  have : Nat.beq j id = false := by
    cases hq : Nat.beq j id with
    | false => rfl
    | true => exact absurd (Nat.eq_of_beq_eq_true hq) h
  simp only [bindB, this, cond_false]
theorem norm_s (s : St) : norm (some s) = some (.normal, s) := rfl
theorem norm_n : norm none = none := rfl
theorem condV_t (a b : VC) (s : St) : condV P L (.bool true) a b s = D P L a s := rfl
theorem condV_f (a b : VC) (s : St) : condV P L (.bool false) a b s = D P L b s := rfl
noncomputable def contO (P : Prog) (L : Lib) (d : Option Nat) (r : List ROp) (tm : Env) (base : Nat) (q : Res) : Option St :=
  match q with | some (v, hp, ct) => evOps P L (D P L) r ⟨put d v tm, hp, ct, base⟩ | none => none
noncomputable def guardO (P : Prog) (L : Lib) (v : AV) (b : Bool) (d : Option Nat) (o : Op) (r : List ROp) (s : St) : Option St :=
  match v with
  | .bool c => bif c == b then evOps P L (D P L) (⟨d, none, o⟩ :: r) s else evOps P L (D P L) r ⟨put d (.tup []) s.tm, s.hp, s.ct, s.base⟩
  | .tup [] => evOps P L (D P L) r ⟨put d (.tup []) s.tm, s.hp, s.ct, s.base⟩
  | _ => none
theorem ops_nil (s : St) : evOps P L (D P L) [] s = some s := rfl
theorem ops_cons (d : Option Nat) (o : Op) (r : List ROp) (tm : Env) (hp : Hp) (ct base : Nat) :
    evOps P L (D P L) (⟨d, none, o⟩ :: r) ⟨tm, hp, ct, base⟩ = contO P L d r tm base (evOp P L (D P L) tm hp ct o) := by
  simp only [evOps, contO]
  cases evOp P L (D P L) tm hp ct o <;> rfl
theorem ops_guard (d : Option Nat) (t : Nat) (b : Bool) (o : Op) (r : List ROp) (tm : Env) (hp : Hp) (ct base : Nat) :
    evOps P L (D P L) (⟨d, some (t, b), o⟩ :: r) ⟨tm, hp, ct, base⟩ = guardO P L (tget tm t) b d o r ⟨tm, hp, ct, base⟩ := by
  simp only [evOps, guardO]
  cases tget tm t with
  | bool c =>
    simp only
    cases hc : (c == b) with
    | true => simp only [cond_true]
    | false => simp only [cond_false]
  | tup vs => cases vs <;> rfl
  | _ => rfl
theorem contO_s (d : Option Nat) (r : List ROp) (tm : Env) (base : Nat) (v : AV) (hp : Hp) (ct : Nat) : contO P L d r tm base (some (v, hp, ct)) = evOps P L (D P L) r ⟨put d v tm, hp, ct, base⟩ := rfl
theorem put_s (i : Nat) (v : AV) (tm : Env) : put (some i) v tm = (i, v) :: tm := rfl
theorem put_n (v : AV) (tm : Env) : put none v tm = tm := rfl
theorem guard_tt (d : Option Nat) (o : Op) (r : List ROp) (s : St) : guardO P L (.bool true) true d o r s = evOps P L (D P L) (⟨d, none, o⟩ :: r) s := rfl
theorem guard_ff (d : Option Nat) (o : Op) (r : List ROp) (s : St) : guardO P L (.bool false) false d o r s = evOps P L (D P L) (⟨d, none, o⟩ :: r) s := rfl
theorem guard_tf (d : Option Nat) (o : Op) (r : List ROp) (tm : Env) (hp : Hp) (ct base : Nat) : guardO P L (.bool true) false d o r ⟨tm, hp, ct, base⟩ = evOps P L (D P L) r ⟨put d (.tup []) tm, hp, ct, base⟩ := rfl
theorem guard_ft (d : Option Nat) (o : Op) (r : List ROp) (tm : Env) (hp : Hp) (ct base : Nat) : guardO P L (.bool false) true d o r ⟨tm, hp, ct, base⟩ = evOps P L (D P L) r ⟨put d (.tup []) tm, hp, ct, base⟩ := rfl
theorem guard_n (b : Bool) (d : Option Nat) (o : Op) (r : List ROp) (tm : Env) (hp : Hp) (ct base : Nat) : guardO P L (.tup []) b d o r ⟨tm, hp, ct, base⟩ = evOps P L (D P L) r ⟨put d (.tup []) tm, hp, ct, base⟩ := rfl
theorem nbeq_ne {j i : Nat} (h : j ≠ i) : Nat.beq j i = false := by
  cases hq : Nat.beq j i with
  | false => rfl
  | true => exact absurd (Nat.eq_of_beq_eq_true hq) h
theorem xget_t (tm : Env) (i : Nat) : xget tm (.t i) = tget tm i := rfl
theorem xget_c (tm : Env) (v : AV) : xget tm (.c v) = v := rfl
theorem xgets_nil (tm : Env) : xgets tm [] = [] := rfl
theorem xgets_cons (tm : Env) (x : X) (r : List X) : xgets tm (x :: r) = xget tm x :: xgets tm r := rfl
theorem tget_hit (i : Nat) (v : AV) (r : Env) : tget ((i, v) :: r) i = v := by simp only [tget, Nat.beq_refl, cond_true]
theorem tget_miss {j i : Nat} (v : AV) (r : Env) (h : j ≠ i) : tget ((j, v) :: r) i = tget r i := by simp only [tget, nbeq_ne h, cond_false]
theorem hget_hit (i : Nat) (o : Obj) (r : Hp) : hget ((i, o) :: r) i = some o := by simp only [hget, Nat.beq_refl, cond_true]
theorem hget_miss {j i : Nat} (o : Obj) (r : Hp) (h : j ≠ i) : hget ((j, o) :: r) i = hget r i := by simp only [hget, nbeq_ne h, cond_false]
theorem hset_hit (i : Nat) (o u : Obj) (r : Hp) : hset ((i, o) :: r) i u = (i, u) :: r := by simp only [hset, Nat.beq_refl, cond_true]
theorem hset_miss {j i : Nat} (o u : Obj) (r : Hp) (h : j ≠ i) : hset ((j, o) :: r) i u = (j, o) :: hset r i u := by simp only [hset, nbeq_ne h, cond_false]
theorem hdel_nil (i : Nat) : hdel [] i = [] := rfl
theorem hdel_hit (i : Nat) (o : Obj) (r : Hp) : hdel ((i, o) :: r) i = hdel r i := by simp only [hdel, Nat.beq_refl, cond_true]
theorem hdel_miss {j i : Nat} (o : Obj) (r : Hp) (h : j ≠ i) : hdel ((j, o) :: r) i = (j, o) :: hdel r i := by simp only [hdel, nbeq_ne h, cond_false]
def rd (hp : Hp) (ct : Nat) (q : Option AV) : Res := match q with | some v => some (v, hp, ct) | none => none
def mk (hp : Hp) (ct : Nat) (q : Option (AV × Obj)) : Res := match q with | some (v, b) => some (v, (ct, b) :: hp, ct + 1) | none => none
theorem rd_s (hp : Hp) (ct : Nat) (v : AV) : rd hp ct (some v) = some (v, hp, ct) := rfl
theorem mk_s (hp : Hp) (ct : Nat) (v : AV) (b : Obj) : mk hp ct (some (v, b)) = some (v, (ct, b) :: hp, ct + 1) := rfl
def pickV (c a b : AV) : Option AV := match c with | .bool t => some (bif t then a else b) | _ => none
def asO (k : Nat → Option AV) (n : Option Nat) : Option AV := match n with | some i => k i | none => none
def someA (r : Option (List AV)) : Option AV := match r with | some cs => some (.agg cs) | none => none
def eqB' (ne : Bool) (r : Option Bool) : Option AV := match r with | some b => some (.bool (ne != b)) | none => none
def nilV : AV → Option AV
  | .ptr id o => some (.ptr id o)
  | .vptr cs => some (.vptr cs)
  | .fn f a b => some (.fn f a b)
  | _ => none
def extV (i : Nat) : AV → Option AV | .tup vs => vs[i]? | _ => none
section
variable {f : Run} {tm : Env} {hp : Hp} {ct : Nat}
theorem op_mov (x : X) : evOp P L f tm hp ct (.mov x) = some (xget tm x, hp, ct) := rfl
theorem op_pick (c a b : X) : evOp P L f tm hp ct (.pick c a b) = rd hp ct (pickV (xget tm c) (xget tm a) (xget tm b)) := by
  rfl
theorem op_mkagg (z : List AV) (ps : List (Nat × Nat × X)) : evOp P L f tm hp ct (.mkagg z ps) = rd hp ct (someA (fill tm z ps)) := by
  rfl
theorem op_ld (sz : Nat) (ag : Bool) (x : X) : evOp P L f tm hp ct (.ld sz ag x) = rd hp ct (ldOp hp sz ag (xget tm x)) := rfl
theorem op_nilc (x : X) : evOp P L f tm hp ct (.nilc x) = rd hp ct (nilV (xget tm x)) := by
  rfl
theorem op_bin (op : BinOp) (x y : X) : evOp P L f tm hp ct (.bin op x y) = rd hp ct (binOp op (xget tm x) (xget tm y)) := rfl
theorem op_eq (ne : Bool) (k : EqK) (x y : X) : evOp P L f tm hp ct (.eq ne k x y) = rd hp ct (eqB' ne (eqOp k (xget tm x) (xget tm y))) := by
  rfl
theorem op_un (op : UnOp) (x : X) : evOp P L f tm hp ct (.un op x) = rd hp ct (unOp op (xget tm x)) := rfl
theorem op_cv (k : Conv) (x : X) : evOp P L f tm hp ct (.cv k x) = rd hp ct (cvOp k (xget tm x)) := rfl
theorem op_mkf (g : Fr) (a b : List X) : evOp P L f tm hp ct (.mkf g a b) = some (.fn g (xgets tm a) (xgets tm b), hp, ct) := rfl
theorem op_sli (k : Cut) (x : X) (lo hi : Option X) : evOp P L f tm hp ct (.sli k x lo hi) = rd hp ct (cutOp hp k (xget tm x) tm lo hi) := rfl
theorem op_off (k : Nat) (x : X) : evOp P L f tm hp ct (.off k x) = rd hp ct (offOp k (xget tm x)) := rfl
theorem op_fld (o sz : Nat) (ag : Bool) (x : X) : evOp P L f tm hp ct (.fld o sz ag x) = rd hp ct (fldOp o sz ag (xget tm x)) := rfl
theorem op_ixa (sz : Nat) (x i : X) : evOp P L f tm hp ct (.ixa sz x i) = rd hp ct (asO (fun j => ixaOp sz j (xget tm x)) (asNat (xget tm i))) := by
  rfl
theorem op_ixp (n sz : Nat) (x i : X) : evOp P L f tm hp ct (.ixp n sz x i) = rd hp ct (asO (fun j => ixpOp n sz j (xget tm x)) (asNat (xget tm i))) := by
  rfl
theorem op_ixs (x i : X) : evOp P L f tm hp ct (.ixs x i) = rd hp ct (asO (fun j => ixsOp j (xget tm x)) (asNat (xget tm i))) := by
  rfl
theorem op_ixv (n sz : Nat) (ag : Bool) (x i : X) : evOp P L f tm hp ct (.ixv n sz ag x i) = rd hp ct (asO (fun j => ixvOp n sz ag j (xget tm x)) (asNat (xget tm i))) := by
  rfl
theorem op_ext (i : Nat) (x : X) : evOp P L f tm hp ct (.ext i x) = rd hp ct (extV i (xget tm x)) := by
  rfl
theorem op_len (k : Nat) (x : X) : evOp P L f tm hp ct (.len k x) = rd hp ct (lenOp hp k (xget tm x)) := rfl
theorem op_box (sz : Nat) (x : X) : evOp P L f tm hp ct (.box sz x) = mk hp ct (evMake tm hp ct (.box sz x)) := rfl
theorem op_mksl (n sz : Nat) (z : List AV) (ps : List (Nat × Nat × X)) : evOp P L f tm hp ct (.mksl n sz z ps) = mk hp ct (evMake tm hp ct (.mksl n sz z ps)) := rfl
theorem op_mks (sz by' : Nat) (z : List AV) (l c : X) : evOp P L f tm hp ct (.mks sz by' z l c) = mk hp ct (evMake tm hp ct (.mks sz by' z l c)) := rfl
theorem op_mkm : evOp P L f tm hp ct .mkm = some (.map ct, (ct, .mp true [] []) :: hp, ct + 1) := rfl
theorem op_rng (x : X) : evOp P L f tm hp ct (.rng x) = mk hp ct (evMake tm hp ct (.rng x)) := rfl
theorem op_st (sz : Nat) (x v : X) : evOp P L f tm hp ct (.st sz x v) = evWrite tm hp ct (.st sz x v) := rfl
theorem op_app (sz by' : Nat) (s x : X) : evOp P L f tm hp ct (.app sz by' s x) = evWrite tm hp ct (.app sz by' s x) := rfl
def shutO (hp : Hp) (ct : Nat) (r : Option AV) : Res := match r with | some v => some (shut v, hp, ct) | none => none
def ownO (hp : Hp) (ct : Nat) (r : Option AV) : Res := match r with | some v => some (own hp ct v) | none => none
def callP (P : Prog) (L : Lib) (f : Run) (ct n : Nat) (q : Option (List AV × Hp)) : Res := match q with | some (vals, hp) => shutO hp ct (callPure P L f n vals) | none => none
def callO (P : Prog) (L : Lib) (f : Run) (ct n : Nat) (q : Option (List AV × Hp)) : Res := match q with | some (vals, hp) => ownO hp ct (callPure P L f n vals) | none => none
def callV (P : Prog) (L : Lib) (f : Run) (hp : Hp) (ct : Nat) (fv : AV) (xs : List AV) : Res := evCall P L f hp ct .pure fv xs
def callW (P : Prog) (L : Lib) (f : Run) (hp : Hp) (ct : Nat) (fv : AV) (xs : List AV) : Res := evCall P L f hp ct .own fv xs
theorem op_callp (g : X) (xs : List X) : evOp P L f tm hp ct (.call .pure g xs) = callV P L f hp ct (xget tm g) (xgets tm xs) := rfl
theorem op_callo (g : X) (xs : List X) : evOp P L f tm hp ct (.call .own g xs) = callW P L f hp ct (xget tm g) (xgets tm xs) := rfl
theorem op_callh (g : X) (xs : List X) : evOp P L f tm hp ct (.call .heap g xs) = evCall P L f hp ct .heap (xget tm g) (xgets tm xs) := rfl
theorem callV_f (n : Nat) (first cap xs : List AV) : callV P L f hp ct (.fn (.f n) first cap) xs = callP P L f ct n (freezeL deep hp (first ++ (xs ++ cap))) := by
  simp only [callV, evCall, callP, shutO]
  cases freezeL deep hp (first ++ (xs ++ cap)) with
  | none => rfl
  | some q => cases callPure P L f n q.1 <;> rfl
theorem callW_f (n : Nat) (first cap xs : List AV) : callW P L f hp ct (.fn (.f n) first cap) xs = callO P L f ct n (freezeL deep hp (first ++ (xs ++ cap))) := by
  simp only [callW, evCall, callO, ownO]
  cases freezeL deep hp (first ++ (xs ++ cap)) with
  | none => rfl
  | some q => cases callPure P L f n q.1 <;> rfl
theorem callP_s (n : Nat) (vals : List AV) : callP P L f ct n (some (vals, hp)) = shutO hp ct (callPure P L f n vals) := rfl
theorem callO_s (n : Nat) (vals : List AV) : callO P L f ct n (some (vals, hp)) = ownO hp ct (callPure P L f n vals) := rfl
theorem shutO_s (v : AV) : shutO hp ct (some v) = some (shut v, hp, ct) := rfl
theorem ownO_s (v : AV) : ownO hp ct (some v) = some (own hp ct v) := rfl
def resV (hp : Hp) (r : Option AV) : Option AV := match r with | some v => result hp v | none => none
def resC (rs : List RV) (q : Option (Ex × St)) : Option AV :=
  match q with
  | some (.normal, s) | some (.ret, s) => resV s.hp (resultOf s rs)
  | _ => none
theorem call_eq {n : Nat} {F : Fnc} (h : Has P L n F) (vals : List AV) : callPure P L f n vals = resC F.res (f F.body ⟨bindArgs 0 vals, [], 0, 0⟩) := by
  simp only [callPure, h.pure, h.code]
  cases hq : f F.body ⟨bindArgs 0 vals, [], 0, 0⟩ with
  | none => rfl
  | some q =>
    obtain ⟨e, s⟩ := q
    cases e with
    | normal => rfl
    | ret => rfl
    | exit id => rfl
theorem resC_n (rs : List RV) (s : St) : resC rs (some (.normal, s)) = resV s.hp (resultOf s rs) := rfl
theorem resC_r (rs : List RV) (s : St) : resC rs (some (.ret, s)) = resV s.hp (resultOf s rs) := rfl
theorem resV_s (v : AV) : resV hp (some v) = result hp v := rfl
theorem res1 (r : RV) (s : St) : resultOf s [r] = results1 s r := by
  simp only [resultOf, resultsL]
  cases results1 s r <;> rfl
def tupO (r : Option (List AV)) : Option AV := match r with | some vs => some (.tup vs) | none => none
theorem res2 (r q : RV) (l : List RV) (s : St) : resultOf s (r :: q :: l) = tupO (resultsL s (r :: q :: l)) := by
  simp only [resultOf, resultsL]
  cases results1 s r <;> cases results1 s q <;> cases resultsL s l <;> rfl
def consO (r : Option AV) (l : Option (List AV)) : Option (List AV) := match r, l with | some v, some vs => some (v :: vs) | _, _ => none
theorem resL_nil (s : St) : resultsL s [] = some [] := rfl
theorem resL_cons (r : RV) (l : List RV) (s : St) : resultsL s (r :: l) = consO (results1 s r) (resultsL s l) := rfl
theorem consO_s (v : AV) (vs : List AV) : consO (some v) (some vs) = some (v :: vs) := rfl
theorem tupO_s (vs : List AV) : tupO (some vs) = some (.tup vs) := rfl
theorem res_t (i : Nat) (s : St) : results1 s (.t i) = some (tget s.tm i) := rfl
theorem bind1 (a : AV) : bindArgs 0 [a] = [(0, a)] := rfl
theorem bind2 (a b : AV) : bindArgs 0 [a, b] = [(0, a), (1, b)] := rfl
theorem bind3 (a b c : AV) : bindArgs 0 [a, b, c] = [(0, a), (1, b), (2, c)] := rfl
theorem bind4 (a b c d : AV) : bindArgs 0 [a, b, c, d] = [(0, a), (1, b), (2, c), (3, d)] := rfl
theorem bind5 (a b c d e : AV) : bindArgs 0 [a, b, c, d, e] = [(0, a), (1, b), (2, c), (3, d), (4, e)] := rfl
theorem result_int (k : IntKind) (n : Int) : result hp (.int k n) = some (.int k n) := rfl
theorem result_bool (b : Bool) : result hp (.bool b) = some (.bool b) := rfl
theorem result_str (s : List Nat) : result hp (.str s) = some (.str s) := rfl
theorem result_nils : result hp .nils = some .nils := rfl
theorem result_vsl (e : Bool) (n : Nat) (cs : List AV) : result hp (.vsl e n cs) = some (.vsl e n cs) := rfl
theorem shut_int (k : IntKind) (n : Int) : shut (.int k n) = .int k n := rfl
theorem shut_bool (b : Bool) : shut (.bool b) = .bool b := rfl
theorem shut_str (s : List Nat) : shut (.str s) = .str s := rfl
theorem shut_nils : shut .nils = .nils := rfl
theorem shut_vsl (e : Bool) (n : Nat) (cs : List AV) : shut (.vsl e n cs) = .vsl e n cs := rfl
theorem shut_fsl (e : Bool) (sz n : Nat) (cs : List AV) : shut (.fsl e sz n cs) = .vsl e n cs := rfl
theorem shut_agg (cs : List AV) : shut (.agg cs) = .agg cs := rfl
theorem shut_fn (g : Fr) (a b : List AV) : shut (.fn g a b) = .fn g a b := rfl
theorem shut_tup (vs : List AV) : shut (.tup vs) = .tup (shutL vs) := rfl
theorem shutL_nil : shutL [] = [] := rfl
theorem shutL_cons (v : AV) (r : List AV) : shutL (v :: r) = shut1 v :: shutL r := rfl
theorem shut1_int (k : IntKind) (n : Int) : shut1 (.int k n) = .int k n := rfl
theorem shut1_bool (b : Bool) : shut1 (.bool b) = .bool b := rfl
theorem shut1_str (s : List Nat) : shut1 (.str s) = .str s := rfl
theorem shut1_nils : shut1 .nils = .nils := rfl
theorem shut1_vsl (e : Bool) (n : Nat) (cs : List AV) : shut1 (.vsl e n cs) = .vsl e n cs := rfl
theorem shut1_fsl (e : Bool) (sz n : Nat) (cs : List AV) : shut1 (.fsl e sz n cs) = .vsl e n cs := rfl
theorem shut1_agg (cs : List AV) : shut1 (.agg cs) = .agg cs := rfl
def frzC (n : Nat) (r : List AV) (q : Option (AV × Hp)) : Option (List AV × Hp) := match q with | some (v, hp) => (match freezeL n hp r with | some (vs, hp2) => some (v :: vs, hp2) | none => none) | none => none
def frzD (v : AV) (q : Option (List AV × Hp)) : Option (List AV × Hp) := match q with | some (vs, hp) => some (v :: vs, hp) | none => none
theorem frzL_nil (n : Nat) : freezeL (n + 1) hp [] = some ([], hp) := rfl
theorem frzL_cons (n : Nat) (v : AV) (r : List AV) : freezeL (n + 1) hp (v :: r) = frzC n r (freeze n hp v) := by
  simp only [freezeL, frzC]; cases freeze n hp v <;> rfl
theorem frzC_s (n : Nat) (r : List AV) (v : AV) : frzC n r (some (v, hp)) = frzD v (freezeL n hp r) := by
  rfl
theorem frzD_s (v : AV) (vs : List AV) : frzD v (some (vs, hp)) = some (v :: vs, hp) := rfl
theorem frz_int (n : Nat) (k : IntKind) (a : Int) : freeze (n + 1) hp (.int k a) = some (.int k a, hp) := rfl
theorem frz_bool (n : Nat) (b : Bool) : freeze (n + 1) hp (.bool b) = some (.bool b, hp) := rfl
theorem frz_str (n : Nat) (s : List Nat) : freeze (n + 1) hp (.str s) = some (.str s, hp) := rfl
theorem frz_nils (n : Nat) : freeze (n + 1) hp .nils = some (.nils, hp) := rfl
theorem frz_vsl (n : Nat) (e : Bool) (k : Nat) (cs : List AV) : freeze (n + 1) hp (.vsl e k cs) = some (.vsl e k cs, hp) := rfl
theorem frz_vptr (n : Nat) (cs : List AV) : freeze (n + 1) hp (.vptr cs) = some (.vptr cs, hp) := rfl
end
end
section
variable {hp : Hp}
theorem pick_t (a b : AV) : pickV (.bool true) a b = some a := rfl
theorem pick_f (a b : AV) : pickV (.bool false) a b = some b := rfl
theorem asO_s (k : Nat → Option AV) (n : Nat) : asO k (some n) = k n := rfl
theorem asNat_cast (k : IntKind) (n : Nat) : asNat (.int k (n : Int)) = some n := rfl
theorem asNat0 (k : IntKind) : asNat (.int k 0) = some 0 := rfl
theorem asNat1 (k : IntKind) : asNat (.int k 1) = some 1 := rfl
theorem asNat2 (k : IntKind) : asNat (.int k 2) = some 2 := rfl
theorem asNat3 (k : IntKind) : asNat (.int k 3) = some 3 := rfl
theorem asNat4 (k : IntKind) : asNat (.int k 4) = some 4 := rfl
theorem asNat5 (k : IntKind) : asNat (.int k 5) = some 5 := rfl
theorem asNat6 (k : IntKind) : asNat (.int k 6) = some 6 := rfl
theorem asNat7 (k : IntKind) : asNat (.int k 7) = some 7 := rfl
theorem asNat8 (k : IntKind) : asNat (.int k 8) = some 8 := rfl
theorem asNat9 (k : IntKind) : asNat (.int k 9) = some 9 := rfl
theorem someA_s (cs : List AV) : someA (some cs) = some (.agg cs) := rfl
theorem bin_add (k : IntKind) (a b : Int) : binOp .add (.int k a) (.int k b) = some (.int k (k.wrap (a + b))) := by simp [binOp, intOp]
theorem bin_sub (k : IntKind) (a b : Int) : binOp .sub (.int k a) (.int k b) = some (.int k (k.wrap (a - b))) := by simp [binOp, intOp]
theorem bin_mul (k : IntKind) (a b : Int) : binOp .mul (.int k a) (.int k b) = some (.int k (k.wrap (a * b))) := by simp [binOp, intOp]
theorem bin_quo (k : IntKind) (a b : Int) (h : b ≠ 0) : binOp .quo (.int k a) (.int k b) = some (.int k (k.wrap (a.tdiv b))) := by simp [binOp, intOp, h]
theorem bin_rem (k : IntKind) (a b : Int) (h : b ≠ 0) : binOp .rem (.int k a) (.int k b) = some (.int k (a.tmod b)) := by simp [binOp, intOp, h]
theorem bin_eql (k : IntKind) (a b : Int) : binOp .eql (.int k a) (.int k b) = some (.bool (decide (a = b))) := by
  simp [binOp, intOp, intCmp, BEq.beq]
theorem bin_neq (k : IntKind) (a b : Int) : binOp .neq (.int k a) (.int k b) = some (.bool (!decide (a = b))) := by
  simp [binOp, intOp, intCmp, bne, BEq.beq]
theorem bin_lss (k : IntKind) (a b : Int) : binOp .lss (.int k a) (.int k b) = some (.bool (decide (a < b))) := by simp [binOp, intOp, intCmp]
theorem bin_leq (k : IntKind) (a b : Int) : binOp .leq (.int k a) (.int k b) = some (.bool (decide (a ≤ b))) := by simp [binOp, intOp, intCmp]
theorem bin_gtr (k : IntKind) (a b : Int) : binOp .gtr (.int k a) (.int k b) = some (.bool (decide (b < a))) := by simp [binOp, intOp, intCmp]
theorem bin_geq (k : IntKind) (a b : Int) : binOp .geq (.int k a) (.int k b) = some (.bool (decide (b ≤ a))) := by simp [binOp, intOp, intCmp]
theorem un_neg (k : IntKind) (a : Int) : unOp .neg (.int k a) = some (.int k (k.wrap (0 - a))) := rfl
theorem un_not (b : Bool) : unOp .not (.bool b) = some (.bool !b) := rfl
theorem len_nils : lenOp hp 1 .nils = some (.int .i64 0) := rfl
theorem len_vsl (e : Bool) (n : Nat) (cs : List AV) : lenOp hp 1 (.vsl e n cs) = some (.int .i64 n) := rfl
theorem len_osl (id o n : Nat) : lenOp hp 1 (.osl id o n) = some (.int .i64 n) := rfl
theorem len_str (s : List Nat) : lenOp hp 0 (.str s) = some (.int .i64 s.length) := rfl
theorem ixa_vsl {sz i n : Nat} (e : Bool) (cs : List AV) (h : i < n) : ixaOp sz i (.vsl e n cs) = some (.vptr (cs.drop (i * sz))) := by
  have hb : Nat.blt i n = true := Nat.ble_eq_true_of_le h
  simp only [ixaOp]
  rw [hb]
  rfl
theorem ixa_osl {sz i n : Nat} (id o : Nat) (h : i < n) : ixaOp sz i (.osl id o n) = some (.ptr id (o + i * sz)) := by
  have hb : Nat.blt i n = true := Nat.ble_eq_true_of_le h
  simp only [ixaOp]
  rw [hb]
  rfl
theorem ld_vptr1 (v : AV) (cs : List AV) : ldOp hp 1 false (.vptr (v :: cs)) = some v := rfl
def ldC (sz : Nat) (ag : Bool) (o : Nat) (q : Option Obj) : Option AV := match q with | some (.cells _ _ _ _ cs) => ld1 sz ag (cs.drop o) | _ => none
theorem ld_ptr (sz : Nat) (ag : Bool) (id o : Nat) : ldOp hp sz ag (.ptr id o) = ldC sz ag o (hget hp id) := by
  rfl
theorem ldC_s (sz : Nat) (ag : Bool) (o : Nat) (rw pu ex : Bool) (z : Nat) (cs : List AV) : ldC sz ag o (some (.cells rw pu ex z cs)) = ld1 sz ag (cs.drop o) := rfl
theorem ld1_f (sz : Nat) (v : AV) (cs : List AV) : ld1 sz false (v :: cs) = some v := rfl
theorem ext0 (a : AV) (l : List AV) : extV 0 (.tup (a :: l)) = some a := rfl
theorem ext1 (a b : AV) (l : List AV) : extV 1 (.tup (a :: b :: l)) = some b := rfl
theorem ext2 (a b c : AV) (l : List AV) : extV 2 (.tup (a :: b :: c :: l)) = some c := rfl
theorem ext3 (a b c d : AV) (l : List AV) : extV 3 (.tup (a :: b :: c :: d :: l)) = some d := rfl
end
def pureE : Env → Bool
  | [] => true
  | (_, v) :: r => pureAV v && pureE r
mutual
theorem refs_pure : ∀ {v : AV}, pureAV v = true → refs v = []
  | .int _ _, _ | .bool _, _ | .flt _ _, _ | .str _, _ | .nilp, _ | .vptr _, _ | .nils, _ | .vsl _ _ _, _ | .nilf, _ | .nilm, _ | .vmap _ _, _ | .undef, _ => rfl
  | .ptr _ _, h | .osl _ _ _, h | .map _, h | .it _, h | .fsl _ _ _ _, h => by simp [pureAV] at h
  | .fn (.y _) _ _, h => by simp [pureAV] at h
  | .fn (.f _) first cap, h => by
    simp only [pureAV, Bool.and_eq_true] at h
    simp only [refs, refsL_pure h.1, refsL_pure h.2, List.append_nil]
  | .agg cs, h => by simp only [pureAV] at h; simp only [refs, refsL_pure h]
  | .tup cs, h => by simp only [pureAV] at h; simp only [refs, refsL_pure h]
theorem refsL_pure : ∀ {vs : List AV}, pureL vs = true → refsL vs = []
  | [], _ => rfl
  | v :: r, h => by
    simp only [pureL, Bool.and_eq_true] at h
    simp only [refsL, refs_pure h.1, refsL_pure h.2, List.append_nil]
end
mutual
theorem ren_pure (f : Nat → Option Nat) : ∀ {v : AV}, pureAV v = true → ren f v = v
  | .int _ _, _ | .bool _, _ | .flt _ _, _ | .str _, _ | .nilp, _ | .vptr _, _ | .nils, _ | .vsl _ _ _, _ | .nilf, _ | .nilm, _ | .vmap _ _, _ | .undef, _ => rfl
  | .ptr _ _, h | .osl _ _ _, h | .map _, h | .it _, h | .fsl _ _ _ _, h => by simp [pureAV] at h
  | .fn (.y _) _ _, h => by simp [pureAV] at h
  | .fn (.f _) first cap, h => by
    simp only [pureAV, Bool.and_eq_true] at h
    simp only [ren, renL_pure f h.1, renL_pure f h.2]
  | .agg cs, h => by simp only [pureAV] at h; simp only [ren, renL_pure f h]
  | .tup cs, h => by simp only [pureAV] at h; simp only [ren, renL_pure f h]
theorem renL_pure (f : Nat → Option Nat) : ∀ {vs : List AV}, pureL vs = true → renL f vs = vs
  | [], _ => rfl
  | v :: r, h => by
    simp only [pureL, Bool.and_eq_true] at h
    simp only [renL, ren_pure f h.1, renL_pure f h.2]
end
theorem refsE_pure : ∀ {tm : Env}, pureE tm = true → refsE tm = []
  | [], _ => rfl
  | (i, v) :: r, h => by
    simp only [pureE, Bool.and_eq_true] at h
    simp only [refsE, refs_pure h.1, refsE_pure h.2, List.append_nil]
theorem renE_pure (f : Nat → Option Nat) : ∀ {tm : Env}, pureE tm = true → renE f tm = tm
  | [], _ => rfl
  | (i, v) :: r, h => by
    simp only [pureE, Bool.and_eq_true] at h
    simp only [renE, ren_pure f h.1, renE_pure f h.2]
theorem compact_pure {live : List Nat} {tm : Env} {ct : Nat} (h : pureE (keep tm live) = true) : compact live ⟨tm, [], ct, 0⟩ = ⟨keep tm live, [], 0, 0⟩ := by
  simp only [compact, refsE_pure h, oldRefs, List.append_nil]
  simp only [reach, newOf, oldOf, renE_pure _ h, List.length_nil, Nat.add_zero]
theorem compact_nil {tm : Env} {ct : Nat} : compact [] ⟨tm, [], ct, 0⟩ = ⟨[], [], 0, 0⟩ := rfl
theorem loop_ind {P : Prog} {L : Lib} {live : List Nat} {a : VC} (I : Nat → St → Prop) (Q : Ex → St → Prop)
    (step : ∀ k s, I k s → (∃ s' k', D P L a (compact live s) = some (.normal, s') ∧ k' < k ∧ I k' s') ∨ (∃ ex s', D P L a (compact live s) = some (ex, s') ∧ ex ≠ .normal ∧ Q ex s')) :
    ∀ k s, I k s → ∃ ex s', D P L (.loop live a) s = some (ex, s') ∧ Q ex s' := by
  intro k
  induction k using Nat.strongRecOn with
  | _ k ih =>
    intro s hI
    rw [D_loop]
    rcases step k s hI with ⟨s', k', h1, h2, h3⟩ | ⟨ex, s', h1, h2, h3⟩
    · rw [h1, bindL_n]; exact ih k' h2 s' h3
    · rw [h1]
      cases ex with
      | normal => exact absurd rfl h2
      | ret => exact ⟨.ret, s', rfl, h3⟩
      | exit id => exact ⟨.exit id, s', rfl, h3⟩
theorem loop_can {P : Prog} {L : Lib} {live : List Nat} {a : VC} (I : Nat → St → Prop) (Q : Ex → St → Prop)
    (step : ∀ k s, I k s → (∃ s' k', D P L a s = some (.normal, s') ∧ k' < k ∧ I k' (compact live s')) ∨ (∃ ex s', D P L a s = some (ex, s') ∧ ex ≠ .normal ∧ Q ex s')) :
    ∀ k s, I k (compact live s) → ∃ ex s', D P L (.loop live a) s = some (ex, s') ∧ Q ex s' :=
  loop_ind (fun k s => I k (compact live s)) Q (fun k s h => step k _ h)
theorem of_key {P : Prog} {L : Lib} {c : VC} {s : St} {q : Option (Ex × St)} {I : St → Prop} {Q : Ex → St → Prop} (hq : D P L c s = q) (key : ∀ s, I s → ∃ ex s', D P L c s = some (ex, s') ∧ Q ex s') (hI : I s) :
    ∃ ex s', q = some (ex, s') ∧ Q ex s' := by
  rw [← hq]; exact key s hI
theorem keep_nil (tm : Env) : keep tm [] = [] := rfl
theorem keep_cons (tm : Env) (i : Nat) (r : List Nat) : keep tm (i :: r) = (i, tget tm i) :: keep tm r := rfl
theorem pureE_nil : pureE [] = true := rfl
theorem pureE_cons (i : Nat) (v : AV) (r : Env) : pureE ((i, v) :: r) = (pureAV v && pureE r) := rfl
theorem pu_int (k : IntKind) (n : Int) : pureAV (.int k n) = true := (rfl)
theorem pu_bool (b : Bool) : pureAV (.bool b) = true := (rfl)
theorem pu_str (s : List Nat) : pureAV (.str s) = true := (rfl)
theorem pu_nils : pureAV .nils = true := (rfl)
theorem pu_vsl (e : Bool) (n : Nat) (cs : List AV) : pureAV (.vsl e n cs) = true := (rfl)
theorem pu_vptr (cs : List AV) : pureAV (.vptr cs) = true := (rfl)
theorem pu_undef : pureAV .undef = true := (rfl)
attribute [go_sem] deep compact_nil keep_nil keep_cons pureE_nil pureE_cons pu_int pu_bool pu_str pu_nils pu_vsl pu_vptr pu_undef Bool.and_true Bool.true_and
attribute [go_sem] D_skip D_exit D_ret D_kp D_fz D_reg D_seq D_cond D_blk bindN_n bindN_r bindN_e bindL_n bindL_r bindL_e bindB_n bindB_r bindB_h bindB_m norm_s norm_n condV_t condV_f
  ops_nil ops_cons ops_guard contO_s put_s put_n guard_tt guard_ff guard_tf guard_ft guard_n xget_t xget_c xgets_nil xgets_cons tget_hit tget_miss hget_hit hget_miss hset_hit hset_miss hdel_nil hdel_hit hdel_miss
  rd_s mk_s op_mov op_pick op_mkagg op_ld op_nilc op_bin op_eq op_un op_cv op_mkf op_sli op_off op_fld op_ixa op_ixp op_ixs op_ixv op_ext op_len op_box op_mksl op_mks op_mkm op_rng op_st op_app op_callp op_callo op_callh
  callV_f callW_f callP_s callO_s shutO_s ownO_s resC_n resC_r resV_s res1 res2 resL_nil resL_cons consO_s tupO_s res_t bind1 bind2 bind3 bind4 bind5
  result_int result_bool result_str result_nils result_vsl shut_int shut_bool shut_str shut_nils shut_vsl shut_fsl shut_agg shut_fn shut_tup shutL_nil shutL_cons shut1_int shut1_bool shut1_str shut1_nils shut1_vsl shut1_fsl shut1_agg
  frzL_nil frzL_cons frzC_s frzD_s frz_int frz_bool frz_str frz_nils frz_vsl frz_vptr
  pick_t pick_f asO_s asNat_cast asNat0 asNat1 asNat2 asNat3 asNat4 asNat5 asNat6 asNat7 asNat8 asNat9 someA_s bin_add bin_sub bin_mul bin_eql bin_neq bin_lss bin_leq bin_gtr bin_geq un_neg un_not len_nils len_vsl len_osl len_str ld_vptr1 ld_ptr ldC_s ld1_f ext0 ext1 ext2 ext3
  List.nil_append List.append_nil List.cons_append decide_true decide_false Bool.not_true Bool.not_false ne_eq not_false_eq_true
end VE
end
section
namespace VE
open Go (IntKind)
abbrev I64 (n : Int) : AV := .int .i64 n
def IsL (v : AV) (cs : List AV) : Prop := (v = .nils ∧ cs = []) ∨ ∃ e, v = .vsl e cs.length cs
section
variable {v : AV} {cs : List AV} {hp : Hp}
theorem IsL.len (h : IsL v cs) {hp : Hp} : lenOp hp 1 v = some (.int .i64 (cs.length : Nat)) := by
  rcases h with ⟨rfl, rfl⟩ | ⟨e, rfl⟩ <;> rfl
theorem IsL.pu (h : IsL v cs) : pureAV v = true := by
  rcases h with ⟨rfl, rfl⟩ | ⟨e, rfl⟩ <;> rfl
theorem IsL.frz (h : IsL v cs) (n : Nat) {hp : Hp} : freeze (n + 1) hp v = some (v, hp) := by
  rcases h with ⟨rfl, rfl⟩ | ⟨e, rfl⟩ <;> rfl
theorem IsL.shut (h : IsL v cs) : shut v = v := by
  rcases h with ⟨rfl, rfl⟩ | ⟨e, rfl⟩ <;> rfl
theorem IsL.shut1 (h : IsL v cs) : shut1 v = v := by
  rcases h with ⟨rfl, rfl⟩ | ⟨e, rfl⟩ <;> rfl
theorem IsL.res (h : IsL v cs) {hp : Hp} : result hp v = some v := by
  rcases h with ⟨rfl, rfl⟩ | ⟨e, rfl⟩ <;> rfl
theorem IsL.ixa (h : IsL v cs) {i : Nat} (hi : i < cs.length) : ixaOp 1 i v = some (.vptr (cs[i] :: cs.drop (i + 1))) := by
  rcases h with ⟨rfl, rfl⟩ | ⟨e, rfl⟩
  · exact absurd hi (Nat.not_lt_zero i)
  · rw [ixa_vsl e _ hi, Nat.mul_one, List.drop_eq_getElem_cons hi]
theorem IsL.one (h : IsL v cs) : oneCell v = true := by
  rcases h with ⟨rfl, rfl⟩ | ⟨e, rfl⟩ <;> rfl
theorem IsL.cells (h : IsL v cs) : cellsOf v = [v] := by
  rcases h with ⟨rfl, rfl⟩ | ⟨e, rfl⟩ <;> rfl
theorem isL_vsl (e : Bool) (cs : List AV) : IsL (.vsl e cs.length cs) cs := .inr ⟨e, rfl⟩
theorem isL_nils : IsL .nils [] := .inl ⟨rfl, rfl⟩
end
def IsI (v : AV) (l : List Int) : Prop := IsL v (l.map I64)
section
variable {v : AV} {l : List Int}
theorem IsI.len (h : IsI v l) {hp : Hp} : lenOp hp 1 v = some (.int .i64 (l.length : Nat)) := by
  have := IsL.len (hp := hp) h
  rwa [List.length_map] at this
theorem IsI.pu (h : IsI v l) : pureAV v = true := IsL.pu h
theorem IsI.frz (h : IsI v l) (n : Nat) {hp : Hp} : freeze (n + 1) hp v = some (v, hp) := IsL.frz h n
theorem IsI.shut (h : IsI v l) : VE.shut v = v := IsL.shut h
theorem IsI.shut1 (h : IsI v l) : VE.shut1 v = v := IsL.shut1 h
theorem IsI.res (h : IsI v l) {hp : Hp} : result hp v = some v := IsL.res h
theorem IsI.one (h : IsI v l) : oneCell v = true := IsL.one h
theorem IsI.cells (h : IsI v l) : cellsOf v = [v] := IsL.cells h
theorem IsI.ixa (h : IsI v l) {i : Nat} (hi : i < l.length) : ixaOp 1 i v = some (.vptr (.int .i64 l[i] :: (l.map I64).drop (i + 1))) := by
  have := IsL.ixa h (i := i) (by simpa using hi)
  rw [this]; simp
theorem isI_vsl (e : Bool) (l : List Int) : IsI (.vsl e l.length (l.map I64)) l := by
  have := isL_vsl e (l.map I64)
  rwa [List.length_map] at this
end
def All2 {α β : Type} (p : α → β → Prop) : List α → List β → Prop
  | [], [] => True
  | a :: r, b :: s => p a b ∧ All2 p r s
  | _, _ => False
section
variable {α β : Type} {p : α → β → Prop}
theorem All2.len : ∀ {l : List α} {m : List β}, All2 p l m → l.length = m.length
  | [], [], _ => rfl
  | _ :: _, _ :: _, h => by rw [List.length_cons, List.length_cons, h.2.len]
theorem All2.get : ∀ {l : List α} {m : List β} (_ : All2 p l m) {i : Nat} (h1 : i < l.length) (h2 : i < m.length), p l[i] m[i]
  | a :: r, b :: s, h, 0, _, _ => h.1
  | a :: r, b :: s, h, i + 1, h1, h2 => by
    simp only [List.getElem_cons_succ]
    exact h.2.get (by simpa using h1) (by simpa using h2)
theorem All2.append : ∀ {l l' : List α} {m m' : List β}, All2 p l m → All2 p l' m' → All2 p (l ++ l') (m ++ m')
  | [], _, [], _, _, h => h
  | _ :: _, _, _ :: _, _, h, k => ⟨h.1, h.2.append k⟩
end
def IsS (v : AV) (s : List (List Int)) : Prop := ∃ rows, IsL v rows ∧ All2 IsI rows s
section
variable {v : AV} {s : List (List Int)}
theorem IsS.len (h : IsS v s) {hp : Hp} : lenOp hp 1 v = some (.int .i64 (s.length : Nat)) := by
  obtain ⟨rows, h1, h2⟩ := h
  rw [← h2.len]; exact h1.len
theorem IsS.pu (h : IsS v s) : pureAV v = true := by obtain ⟨rows, h1, h2⟩ := h; exact h1.pu
theorem IsS.frz (h : IsS v s) (n : Nat) {hp : Hp} : freeze (n + 1) hp v = some (v, hp) := by obtain ⟨rows, h1, h2⟩ := h; exact h1.frz n
theorem IsS.shut (h : IsS v s) : VE.shut v = v := by obtain ⟨rows, h1, h2⟩ := h; exact h1.shut
theorem IsS.shut1 (h : IsS v s) : VE.shut1 v = v := by obtain ⟨rows, h1, h2⟩ := h; exact h1.shut1
theorem IsS.res (h : IsS v s) {hp : Hp} : result hp v = some v := by obtain ⟨rows, h1, h2⟩ := h; exact h1.res
theorem IsS.one (h : IsS v s) : oneCell v = true := by obtain ⟨rows, h1, h2⟩ := h; exact h1.one
theorem IsS.cells (h : IsS v s) : cellsOf v = [v] := by obtain ⟨rows, h1, h2⟩ := h; exact h1.cells
theorem IsS.ixa (h : IsS v s) {i : Nat} (hi : i < s.length) : ∃ r rest, IsI r s[i] ∧ ixaOp 1 i v = some (.vptr (r :: rest)) := by
  obtain ⟨rows, h1, h2⟩ := h
  have hi' : i < rows.length := by rw [h2.len]; exact hi
  exact ⟨_, _, h2.get hi' hi, h1.ixa hi'⟩
end
theorem wrap64 {n : Int} (h1 : -9223372036854775808 ≤ n) (h2 : n < 9223372036854775808) : IntKind.wrap .i64 n = n := by
  simp only [IntKind.wrap, IntKind.bits, IntKind.signed, Bool.true_and]
  split <;> rename_i h <;> simp at h <;> omega
theorem wrapN {n : Nat} (h : n < 9223372036854775808) : IntKind.wrap .i64 (n : Int) = n := wrap64 (by omega) (by omega)
end VE
end
section
namespace VE
open Go (IntKind)
section
variable {P : Prog} {L : Lib} {f : Run} {tm : Env} {hp : Hp} {ct : Nat}
theorem cells_int (k : IntKind) (n : Int) : cellsOf (.int k n) = [.int k n] := (rfl)
theorem cells_bool (b : Bool) : cellsOf (.bool b) = [.bool b] := (rfl)
theorem cells_str (s : List Nat) : cellsOf (.str s) = [.str s] := (rfl)
theorem cells_nils : cellsOf .nils = [.nils] := (rfl)
theorem cells_vsl (e : Bool) (n : Nat) (cs : List AV) : cellsOf (.vsl e n cs) = [.vsl e n cs] := (rfl)
theorem cells_osl (id o n : Nat) : cellsOf (.osl id o n) = [.osl id o n] := (rfl)
theorem cells_ptr (id o : Nat) : cellsOf (.ptr id o) = [.ptr id o] := (rfl)
theorem cells_fn (g : Fr) (a b : List AV) : cellsOf (.fn g a b) = [.fn g a b] := (rfl)
theorem cells_agg (cs : List AV) : cellsOf (.agg cs) = cs := (rfl)
theorem one_int (k : IntKind) (n : Int) : oneCell (.int k n) = true := (rfl)
theorem one_bool (b : Bool) : oneCell (.bool b) = true := (rfl)
theorem one_str (s : List Nat) : oneCell (.str s) = true := (rfl)
theorem one_nils : oneCell .nils = true := (rfl)
theorem one_vsl (e : Bool) (n : Nat) (cs : List AV) : oneCell (.vsl e n cs) = true := (rfl)
theorem one_osl (id o n : Nat) : oneCell (.osl id o n) = true := (rfl)
theorem one_ptr (id o : Nat) : oneCell (.ptr id o) = true := (rfl)
theorem one_fn (g : Fr) (a b : List AV) : oneCell (.fn g a b) = true := (rfl)
theorem ones_nil : oneCells [] = true := (rfl)
theorem ones_cons (v : AV) (r : List AV) : oneCells (v :: r) = (oneCell v && oneCells r) := (rfl)
theorem pureL_nil : pureL [] = true := (rfl)
theorem pureL_cons (v : AV) (r : List AV) : pureL (v :: r) = (pureAV v && pureL r) := (rfl)
theorem pu_ptr (id o : Nat) : pureAV (.ptr id o) = false := (rfl)
theorem pu_osl (id o n : Nat) : pureAV (.osl id o n) = false := (rfl)
theorem pu_fn (g : Nat) (a b : List AV) : pureAV (.fn (.f g) a b) = (pureL a && pureL b) := (rfl)
theorem pu_y (l : Nat) (a b : List AV) : pureAV (.fn (.y l) a b) = false := (rfl)
theorem pu_agg (cs : List AV) : pureAV (.agg cs) = pureL cs := (rfl)
theorem pu_tup (cs : List AV) : pureAV (.tup cs) = pureL cs := (rfl)
def boxV (ct sz : Nat) (cs : List AV) : Option (AV × Obj) := bif Nat.beq cs.length sz && oneCells cs then some (.ptr ct 0, .cells true (pureL cs) true sz cs) else none
theorem hp_box (sz : Nat) (x : X) : evMake tm hp ct (.box sz x) = boxV ct sz (cellsOf (xget tm x)) := rfl
theorem boxV1 {v : AV} (h : oneCell v = true) : boxV ct 1 [v] = some (.ptr ct 0, .cells true (pureAV v && true) true 1 [v]) := by
  simp [boxV, oneCells, pureL, h]
theorem boxV_n {cs : List AV} {n : Nat} (hn : cs.length = n) (h : oneCells cs = true) : boxV ct n cs = some (.ptr ct 0, .cells true (pureL cs) true n cs) := by
  subst hn; simp [boxV, h]
def stC (hp : Hp) (ct id o sz : Nat) (new : List AV) (q : Option Obj) : Res :=
  match q with
  | some (.cells true pu ex z cs) => bif Nat.beq new.length sz && Nat.ble (o + sz) cs.length && oneCells new then some (.tup [], hset hp id (.cells true (pu && pureL new) ex z (over o new cs)), ct) else none
  | _ => none
def stV (hp : Hp) (ct sz : Nat) (p : AV) (new : List AV) : Res := match p with | .ptr id o => stC hp ct id o sz new (hget hp id) | _ => none
theorem write_st (sz : Nat) (x v : X) : evWrite tm hp ct (.st sz x v) = stV hp ct sz (xget tm x) (cellsOf (xget tm v)) := rfl
theorem stV_p (sz id o : Nat) (new : List AV) : stV hp ct sz (.ptr id o) new = stC hp ct id o sz new (hget hp id) := rfl
theorem stC1 {v u : AV} {id z : Nat} {pu ex : Bool} (h : oneCell v = true) : stC hp ct id 0 1 [v] (some (.cells true pu ex z [u])) = some (.tup [], hset hp id (.cells true (pu && (pureAV v && true)) ex z [v]), ct) := by
  simp [stC, oneCells, pureL, h, over]
  rfl
theorem stC_n {new cs : List AV} {id o sz z : Nat} {pu ex : Bool} (h1 : new.length = sz) (h2 : o + sz ≤ cs.length) (h : oneCells new = true) :
    stC hp ct id o sz new (some (.cells true pu ex z cs)) = some (.tup [], hset hp id (.cells true (pu && pureL new) ex z (over o new cs)), ct) := by
  subst h1; simp [stC, h, Nat.ble_eq_true_of_le h2]
def mkslV (ct n sz : Nat) (q : Option (List AV)) : Option (AV × Obj) := match q with | some cs => bif Nat.beq cs.length (n * sz) then some (.osl ct 0 n, .cells true (pureL cs) true sz cs) else none | none => none
theorem hp_mksl (n sz : Nat) (z : List AV) (ps : List (Nat × Nat × X)) : evMake tm hp ct (.mksl n sz z ps) = mkslV ct n sz (fill tm z ps) := by
  simp only [evMake, mkslV]; cases fill tm z ps <;> rfl
theorem mkslV_s {n sz : Nat} {cs : List AV} (h : cs.length = n * sz) : mkslV ct n sz (some cs) = some (.osl ct 0 n, .cells true (pureL cs) true sz cs) := by
  simp [mkslV, h]
def fillC (tm : Env) (cs : List AV) (o sz : Nat) (new : List AV) (r : List (Nat × Nat × X)) : Option (List AV) :=
  bif Nat.beq new.length sz && Nat.ble (o + sz) cs.length && oneCells new then fill tm (over o new cs) r else none
theorem fill_nil (cs : List AV) : fill tm cs [] = some cs := rfl
theorem fill_cons (cs : List AV) (o sz : Nat) (x : X) (r : List (Nat × Nat × X)) : fill tm cs ((o, sz, x) :: r) = fillC tm cs o sz (cellsOf (xget tm x)) r := rfl
theorem fillC_1 {cs : List AV} {o : Nat} {v : AV} {r : List (Nat × Nat × X)} (h1 : o + 1 ≤ cs.length) (h2 : oneCell v = true) : fillC tm cs o 1 [v] r = fill tm (over o [v] cs) r := by
  simp [fillC, oneCells, h2, Nat.ble_eq_true_of_le h1]
theorem over0 (v u : AV) (r : List AV) : over 0 [v] (u :: r) = v :: r := rfl
theorem over1 (v a u : AV) (r : List AV) : over 1 [v] (a :: u :: r) = a :: v :: r := rfl
theorem over2 (v a b u : AV) (r : List AV) : over 2 [v] (a :: b :: u :: r) = a :: b :: v :: r := rfl
theorem over3 (v a b c u : AV) (r : List AV) : over 3 [v] (a :: b :: c :: u :: r) = a :: b :: c :: v :: r := rfl
theorem over4 (v a b c d u : AV) (r : List AV) : over 4 [v] (a :: b :: c :: d :: u :: r) = a :: b :: c :: d :: v :: r := rfl
theorem over5 (v a b c d e u : AV) (r : List AV) : over 5 [v] (a :: b :: c :: d :: e :: u :: r) = a :: b :: c :: d :: e :: v :: r := rfl
def mksV (ct sz by' : Nat) (zero : List AV) (l c : Option Nat) : Option (AV × Obj) :=
  match l, c with
  | some l, some c => bif Nat.ble l c && (Nat.ble c room && (Nat.ble (c * by') room && (Nat.beq zero.length sz && oneCells zero))) then some (.osl ct 0 l, .cells true (pureL zero) (Nat.beq l c) sz (List.replicate l zero).flatten) else none
  | _, _ => none
theorem hp_mks (sz by' : Nat) (z : List AV) (l c : X) : evMake tm hp ct (.mks sz by' z l c) = mksV ct sz by' z (asNat (xget tm l)) (asNat (xget tm c)) := by
  simp only [evMake, mksV]
  cases asNat (xget tm l) <;> cases asNat (xget tm c) <;> rfl
theorem mksV_s {sz by' l : Nat} {z : List AV} (h1 : l ≤ 1099511627776) (h2 : l * by' ≤ 1099511627776) (h3 : z.length = sz) (h4 : oneCells z = true) :
    mksV ct sz by' z (some l) (some l) = some (.osl ct 0 l, .cells true (pureL z) true sz (List.replicate l z).flatten) := by
  subst h3
  simp [mksV, h4, Nat.ble_eq_true_of_le (show l ≤ room from h1), Nat.ble_eq_true_of_le (show l * by' ≤ room from h2), Nat.ble_eq_true_of_le (Nat.le_refl l)]
def appV (hp : Hp) (ct sz by' : Nat) (s : AV) (src : Option (Nat × List AV)) : Res :=
  match src with
  | none => none
  | some (m, new) =>
    match s with
    | .nils =>
      bif Nat.beq m 0 then some (.nils, hp, ct)
      else bif Nat.ble m room && (Nat.ble (m * by') room && Nat.blt 0 sz) then some (.osl ct 0 m, (ct, .cells true (pureL new) false sz new) :: hp, ct + 1) else none
    | .vsl true n cs =>
      bif Nat.beq m 0 then some (.vsl true n cs, hp, ct)
      else bif Nat.ble (n + m) room && (Nat.ble ((n + m) * by') room && (Nat.beq cs.length (n * sz) && Nat.blt 0 sz)) then some (.osl ct 0 (n + m), (ct, .cells true (pureL cs && pureL new) false sz (cs ++ new)) :: hp, ct + 1) else none
    | .osl id o n =>
      match hget hp id with
      | some (.cells true pu _ z cs) =>
        bif Nat.beq z sz && (Nat.ble (n + m) room && (Nat.ble ((n + m) * by') room && (Nat.ble (o + n * sz) cs.length && (Nat.blt 0 sz && oneCells new)))) then
          some (.osl ct 0 (n + m), (ct, .cells true (pu && pureL new) false sz (slice o (n * sz) cs ++ new)) :: hdel hp id, ct + 1)
        else none
      | _ => none
    | _ => none
theorem write_app (sz by' : Nat) (s x : X) : evWrite tm hp ct (.app sz by' s x) = appV hp ct sz by' (xget tm s) (appSrc hp sz (xget tm x)) := by
  simp only [evWrite, appV]
  cases appSrc hp sz (xget tm x) with
  | none => rfl
  | some q => obtain ⟨m, new⟩ := q; cases xget tm s <;> rfl
theorem appSrc_osl (sz id o n : Nat) : appSrc hp sz (.osl id o n) = cellsAt hp sz (.osl id o n) := rfl
theorem appSrc_vsl (sz : Nat) (e : Bool) (n : Nat) (cs : List AV) : appSrc hp sz (.vsl e n cs) = cellsAt hp sz (.vsl e n cs) := rfl
theorem appSrc_nils (sz : Nat) : appSrc hp sz .nils = some (0, []) := rfl
def atC (o n sz : Nat) (q : Option Obj) : Option (Nat × List AV) := match q with | some (.cells _ _ _ _ cs) => bif Nat.ble (o + n * sz) cs.length then some (n, slice o (n * sz) cs) else none | _ => none
theorem cellsAt_osl (sz id o n : Nat) : cellsAt hp sz (.osl id o n) = atC o n sz (hget hp id) := rfl
theorem atC_1 (rw pu ex : Bool) (z : Nat) (v : AV) : atC 0 1 1 (some (.cells rw pu ex z [v])) = some (1, [v]) := rfl
theorem app_nils {sz by' : Nat} {new : List AV} {m : Nat} (hm : 0 < m) (h1 : m ≤ 1099511627776) (h2 : m * by' ≤ 1099511627776) (hs : 0 < sz) :
    appV hp ct sz by' .nils (some (m, new)) = some (.osl ct 0 m, (ct, .cells true (pureL new) false sz new) :: hp, ct + 1) := by
  have e1 : Nat.beq m 0 = false := nbeq_ne (by omega)
  have e2 : Nat.blt 0 sz = true := Nat.ble_eq_true_of_le hs
  simp [appV, e1, e2, Nat.ble_eq_true_of_le (show m ≤ room from h1), Nat.ble_eq_true_of_le (show m * by' ≤ room from h2)]
theorem app_own {sz by' id n m : Nat} {pu ex : Bool} {cs new : List AV} (hg : hget hp id = some (.cells true pu ex sz cs)) (hl : cs.length = n * sz) (h1 : n + m ≤ 1099511627776) (h2 : (n + m) * by' ≤ 1099511627776) (hs : 0 < sz) (ho : oneCells new = true) :
    appV hp ct sz by' (.osl id 0 n) (some (m, new)) = some (.osl ct 0 (n + m), (ct, .cells true (pu && pureL new) false sz (cs ++ new)) :: hdel hp id, ct + 1) := by
  have e2 : Nat.blt 0 sz = true := Nat.ble_eq_true_of_le hs
  simp only [appV, hg]
  simp [e2, ho, Nat.ble_eq_true_of_le (show n + m ≤ room from h1), Nat.ble_eq_true_of_le (show (n + m) * by' ≤ room from h2), ← hl, slice, Nat.ble_eq_true_of_le (Nat.le_refl cs.length)]
def frzF (n : Nat) (g : Nat) (cap : List AV) (q : Option (List AV × Hp)) : Option (AV × Hp) := match q with | some (first, hp) => (match freezeL n hp cap with | some (cap', hp2) => some (.fn (.f g) first cap', hp2) | none => none) | none => none
def frzG (g : Nat) (first : List AV) (q : Option (List AV × Hp)) : Option (AV × Hp) := match q with | some (cap, hp) => some (.fn (.f g) first cap, hp) | none => none
theorem frz_fn (n g : Nat) (first cap : List AV) : freeze (n + 1) hp (.fn (.f g) first cap) = frzF n g cap (freezeL n hp first) := rfl
theorem frzF_s (n g : Nat) (first cap : List AV) : frzF n g cap (some (first, hp)) = frzG g first (freezeL n hp cap) := rfl
theorem frzG_s (g : Nat) (first cap : List AV) : frzG g first (some (cap, hp)) = some (.fn (.f g) first cap, hp) := rfl
def frzP (o : Nat) (q : Option (Bool × Nat × List AV × Hp)) : Option (AV × Hp) := match q with | some (_, _, cs, hp) => some (.vptr (cs.drop o), hp) | none => none
theorem frz_ptr (n id o : Nat) : freeze (n + 1) hp (.ptr id o) = frzP o (freezeBlk n hp id) := rfl
theorem frzP_s (o : Nat) (ex : Bool) (sz : Nat) (cs : List AV) : frzP o (some (ex, sz, cs, hp)) = some (.vptr (cs.drop o), hp) := rfl
def frzO (o k : Nat) (q : Option (Bool × Nat × List AV × Hp)) : Option (AV × Hp) :=
  match q with
  | some (ex, sz, cs, hp) => bif Nat.ble (o + k * sz) cs.length then some (.vsl (ex && Nat.blt 0 sz && Nat.beq (o + k * sz) cs.length) k (slice o (k * sz) cs), hp) else none
  | none => none
theorem frz_osl (n id o k : Nat) : freeze (n + 1) hp (.osl id o k) = frzO o k (freezeBlk n hp id) := rfl
theorem frzO_all {sz k : Nat} {cs : List AV} (ex : Bool) (hl : cs.length = k * sz) (hs : 0 < sz) : frzO 0 k (some (ex, sz, cs, hp)) = some (.vsl ex k cs, hp) := by
  have e2 : Nat.blt 0 sz = true := Nat.ble_eq_true_of_le hs
  simp [frzO, ← hl, e2, slice, Nat.ble_eq_true_of_le (Nat.le_refl cs.length)]
def frzQ (n id : Nat) (hp : Hp) (q : Option Obj) : Option (Bool × Nat × List AV × Hp) :=
  match q with
  | some (.cells rw pu ex sz cs) =>
    bif pu then some (ex, sz, cs, bif rw then hset hp id (.cells false true ex sz cs) else hp)
    else match freezeL n hp cs with
      | some (cs', hp') => some (ex, sz, cs', hset hp' id (.cells false false ex sz cs))
      | none => none
  | _ => none
theorem frz_blk (n id : Nat) : freezeBlk (n + 1) hp id = frzQ n id hp (hget hp id) := rfl
theorem frzQ_t (n id : Nat) (ex : Bool) (sz : Nat) (cs : List AV) : frzQ n id hp (some (.cells true true ex sz cs)) = some (ex, sz, cs, hset hp id (.cells false true ex sz cs)) := rfl
theorem frzQ_f (n id : Nat) (ex : Bool) (sz : Nat) (cs : List AV) : frzQ n id hp (some (.cells false true ex sz cs)) = some (ex, sz, cs, hp) := rfl
theorem frz_agg0 (n : Nat) (cs : List AV) (h : freezeL n hp cs = some (cs, hp)) : freeze (n + 1) hp (.agg cs) = some (.agg cs, hp) := by
  simp only [freeze, h]
theorem result_own {id n sz : Nat} {ex : Bool} {cs : List AV} (hg : hget hp id = some (.cells true true ex sz cs)) (hl : cs.length = n * sz) (hs : 0 < sz) : result hp (.osl id 0 n) = some (.fsl ex sz n cs) := by
  have e2 : Nat.blt 0 sz = true := Nat.ble_eq_true_of_le hs
  simp only [result, fresh1, hg, Nat.zero_add, ← hl, Nat.ble_eq_true_of_le (Nat.le_refl cs.length), cond_true, e2, Bool.and_true, slice, List.drop_zero, List.take_length]
  simp
theorem result_tup_nb (b : Bool) : result hp (.tup [.nils, .bool b]) = some (.tup [.nils, .bool b]) := rfl
theorem result_tup_ni (k : IntKind) (b : Int) : result hp (.tup [.nils, .int k b]) = some (.tup [.nils, .int k b]) := rfl
theorem result_tup_vi (e : Bool) (n : Nat) (cs : List AV) (k : IntKind) (b : Int) : result hp (.tup [.vsl e n cs, .int k b]) = some (.tup [.vsl e n cs, .int k b]) := rfl
theorem fzAll_nil (s : St) : fzAll [] s = some s := rfl
def fzC (t : Nat) (r : List Nat) (tm : Env) (ct base : Nat) (q : Option (AV × Hp)) : Option St := match q with | some (v, hp) => fzAll r ⟨(t, v) :: tm, hp, ct, base⟩ | none => none
theorem fzAll_cons (t : Nat) (r : List Nat) (tm : Env) (hp : Hp) (ct base : Nat) : fzAll (t :: r) ⟨tm, hp, ct, base⟩ = fzC t r tm ct base (freeze deep hp (tget tm t)) := by
  simp only [fzAll, fzC]; cases freeze deep hp (tget tm t) <;> rfl
theorem fzC_s (t : Nat) (r : List Nat) (tm : Env) (ct base : Nat) (v : AV) (hp : Hp) : fzC t r tm ct base (some (v, hp)) = fzAll r ⟨(t, v) :: tm, hp, ct, base⟩ := rfl
end
attribute [go_sem] result_tup_nb result_tup_ni result_tup_vi cells_int cells_bool cells_str cells_nils cells_vsl cells_osl cells_ptr cells_fn cells_agg one_int one_bool one_str one_nils one_vsl one_osl one_ptr one_fn ones_nil ones_cons
  pureL_nil pureL_cons pu_ptr pu_osl pu_fn pu_y pu_agg pu_tup hp_box boxV1 write_st stV_p stC1 hp_mksl fill_nil fill_cons over0 over1 over2 over3 over4 over5 hp_mks
  write_app appSrc_osl appSrc_vsl appSrc_nils cellsAt_osl atC_1 frz_fn frzF_s frzG_s frz_ptr frzP_s frz_osl frzO_all mkslV_s fillC_1 frz_blk frzQ_t frzQ_f fzAll_nil fzAll_cons fzC_s
  Bool.and_false Bool.false_and List.drop_zero eq_self
end VE
end
section
namespace VE
open Go (IntKind)
theorem oldRefs0 : ∀ hp : Hp, oldRefs 0 hp = []
  | [] => rfl
  | (id, o) :: r => by
    have : Nat.blt id 0 = false := rfl
    simp only [oldRefs, this, cond_false, oldRefs0 r]
theorem oldOf0 (f : Nat → Option Nat) : ∀ hp : Hp, oldOf 0 f hp = []
  | [] => rfl
  | (id, o) :: r => by
    have : Nat.blt id 0 = false := rfl
    simp only [oldOf, this, cond_false, oldOf0 f r]
def pos (seen : List Nat) : Nat → Option Nat := fun id => posN id seen 0
def cmpA (tm : Env) (hp : Hp) (seen : List Nat) : St := ⟨renE (pos seen) tm, newOf hp (pos seen) seen 0 [], seen.length, 0⟩
def rch (hp : Hp) : Nat → List Nat → List Nat → List Nat := reach hp 0
theorem compact0 (live : List Nat) (tm : Env) (hp : Hp) (ct : Nat) : compact live ⟨tm, hp, ct, 0⟩ = cmpA (keep tm live) hp (rch hp 100000 (refsE (keep tm live)) []) := by
  have e : ∀ seen, newId 0 seen = pos seen := fun seen => by
    funext id
    have : Nat.blt id 0 = false := rfl
    simp only [newId, this, cond_false, pos]
  simp only [compact, oldRefs0, List.append_nil, e, oldOf0, cmpA, rch, Nat.zero_add]
theorem refsE_nil : refsE [] = [] := rfl
theorem refsE_cons (i : Nat) (v : AV) (r : Env) : refsE ((i, v) :: r) = refs v ++ refsE r := rfl
theorem refs_int (k : IntKind) (n : Int) : refs (.int k n) = [] := rfl
theorem refs_bool (b : Bool) : refs (.bool b) = [] := rfl
theorem refs_str (s : List Nat) : refs (.str s) = [] := rfl
theorem refs_nils : refs .nils = [] := rfl
theorem refs_vsl (e : Bool) (n : Nat) (cs : List AV) : refs (.vsl e n cs) = [] := rfl
theorem refs_vptr (cs : List AV) : refs (.vptr cs) = [] := rfl
theorem refs_undef : refs .undef = [] := rfl
theorem refs_ptr (id o : Nat) : refs (.ptr id o) = [id] := rfl
theorem refs_osl (id o n : Nat) : refs (.osl id o n) = [id] := rfl
theorem refs_fn (g : Nat) (a b : List AV) : refs (.fn (.f g) a b) = refsL a ++ refsL b := rfl
theorem refs_y (l : Nat) (a b : List AV) : refs (.fn (.y l) a b) = [l] := rfl
theorem refs_agg (cs : List AV) : refs (.agg cs) = refsL cs := rfl
theorem refsL_nil : refsL [] = [] := rfl
theorem refsL_cons (v : AV) (r : List AV) : refsL (v :: r) = refs v ++ refsL r := rfl
def rchC (hp : Hp) (n id : Nat) (work seen : List Nat) (q : Option Obj) : List Nat := match q with | some o => rch hp n (refsO o ++ work) (seen ++ [id]) | none => rch hp n work seen
def rchB (hp : Hp) (n id : Nat) (work seen : List Nat) (b : Bool) : List Nat := bif b then rch hp n work seen else rchC hp n id work seen (hget hp id)
theorem rch_nil (hp : Hp) (n : Nat) (seen : List Nat) : rch hp (n + 1) [] seen = seen := rfl
theorem rch_cons (hp : Hp) (n id : Nat) (work seen : List Nat) : rch hp (n + 1) (id :: work) seen = rchB hp n id work seen (memN id seen) := by
  have : Nat.blt id 0 = false := rfl
  simp only [rch, reach, this, Bool.false_or, rchB, rchC]
  cases memN id seen with
  | true => rfl
  | false => simp only [cond_false]; cases hget hp id <;> rfl
theorem rchB_t (hp : Hp) (n id : Nat) (work seen : List Nat) : rchB hp n id work seen true = rch hp n work seen := rfl
theorem rchB_f (hp : Hp) (n id : Nat) (work seen : List Nat) : rchB hp n id work seen false = rchC hp n id work seen (hget hp id) := rfl
theorem rchC_s (hp : Hp) (n id : Nat) (work seen : List Nat) (o : Obj) : rchC hp n id work seen (some o) = rch hp n (refsO o ++ work) (seen ++ [id]) := rfl
theorem memN_nil (i : Nat) : memN i [] = false := rfl
theorem memN_hit (i : Nat) (r : List Nat) : memN i (i :: r) = true := by simp only [memN, Nat.beq_refl, cond_true]
theorem memN_miss {i j : Nat} (r : List Nat) (h : j ≠ i) : memN i (j :: r) = memN i r := by simp only [memN, nbeq_ne h, cond_false]
theorem refsO_t (rw ex : Bool) (sz : Nat) (cs : List AV) : refsO (.cells rw true ex sz cs) = [] := rfl
theorem refsO_f (rw ex : Bool) (sz : Nat) (cs : List AV) : refsO (.cells rw false ex sz cs) = refsL cs := rfl
theorem refsO_lp (tm : Env) (ps : List Nat) (a b : VC) (st : Nat) (pe : Jump) : refsO (.lp tm ps a b st pe) = refsE tm := rfl
theorem pos_hit (i : Nat) (r : List Nat) (k : Nat) : posN i (i :: r) k = some k := by simp only [posN, Nat.beq_refl, cond_true]
theorem pos_miss {i j : Nat} (r : List Nat) (k : Nat) (h : j ≠ i) : posN i (j :: r) k = posN i r (k + 1) := by simp only [posN, nbeq_ne h, cond_false]
def renPt (o : Nat) (q : Option Nat) : AV := match q with | some j => .ptr j o | none => .undef
def renSl (o n : Nat) (q : Option Nat) : AV := match q with | some j => .osl j o n | none => .undef
theorem renE_nil (s : List Nat) : renE (pos s) [] = [] := rfl
theorem renE_cons (s : List Nat) (i : Nat) (v : AV) (r : Env) : renE (pos s) ((i, v) :: r) = (i, ren (pos s) v) :: renE (pos s) r := rfl
theorem ren_int (s : List Nat) (k : IntKind) (n : Int) : ren (pos s) (.int k n) = .int k n := rfl
theorem ren_bool (s : List Nat) (b : Bool) : ren (pos s) (.bool b) = .bool b := rfl
theorem ren_str (s : List Nat) (t : List Nat) : ren (pos s) (.str t) = .str t := rfl
theorem ren_nils (s : List Nat) : ren (pos s) .nils = .nils := rfl
theorem ren_vsl (s : List Nat) (e : Bool) (n : Nat) (cs : List AV) : ren (pos s) (.vsl e n cs) = .vsl e n cs := rfl
theorem ren_vptr (s : List Nat) (cs : List AV) : ren (pos s) (.vptr cs) = .vptr cs := rfl
theorem ren_undef (s : List Nat) : ren (pos s) .undef = .undef := rfl
theorem ren_ptr (s : List Nat) (id o : Nat) : ren (pos s) (.ptr id o) = renPt o (posN id s 0) := rfl
theorem ren_osl (s : List Nat) (id o n : Nat) : ren (pos s) (.osl id o n) = renSl o n (posN id s 0) := rfl
theorem ren_fn (s : List Nat) (g : Nat) (a b : List AV) : ren (pos s) (.fn (.f g) a b) = .fn (.f g) (renL (pos s) a) (renL (pos s) b) := rfl
theorem ren_agg (s : List Nat) (cs : List AV) : ren (pos s) (.agg cs) = .agg (renL (pos s) cs) := rfl
theorem renL_nil (s : List Nat) : renL (pos s) [] = [] := rfl
theorem renL_cons (s : List Nat) (v : AV) (r : List AV) : renL (pos s) (v :: r) = ren (pos s) v :: renL (pos s) r := rfl
theorem renPt_s (o j : Nat) : renPt o (some j) = .ptr j o := rfl
theorem renSl_s (o n j : Nat) : renSl o n (some j) = .osl j o n := rfl
def newC (hp : Hp) (f : Nat → Option Nat) (r : List Nat) (k : Nat) (acc : Hp) (q : Option Obj) : Hp := match q with | some o => newOf hp f r (k + 1) ((k, renO f o) :: acc) | none => newOf hp f r (k + 1) acc
theorem newOf_nil (hp : Hp) (s : List Nat) (k : Nat) (acc : Hp) : newOf hp (pos s) [] k acc = acc := rfl
theorem newOf_cons (hp : Hp) (s : List Nat) (id : Nat) (r : List Nat) (k : Nat) (acc : Hp) : newOf hp (pos s) (id :: r) k acc = newC hp (pos s) r k acc (hget hp id) := by
  simp only [newOf, newC]; cases hget hp id <;> rfl
theorem newC_s (hp : Hp) (s r : List Nat) (k : Nat) (acc : Hp) (o : Obj) : newC hp (pos s) r k acc (some o) = newOf hp (pos s) r (k + 1) ((k, renO (pos s) o) :: acc) := rfl
theorem renO_t (f : Nat → Option Nat) (rw ex : Bool) (sz : Nat) (cs : List AV) : renO f (.cells rw true ex sz cs) = .cells rw true ex sz cs := rfl
theorem renO_f (f : Nat → Option Nat) (rw ex : Bool) (sz : Nat) (cs : List AV) : renO f (.cells rw false ex sz cs) = .cells rw false ex sz (renL f cs) := rfl
theorem renO_lp (f : Nat → Option Nat) (tm : Env) (ps : List Nat) (a b : VC) (st : Nat) (pe : Jump) : renO f (.lp tm ps a b st pe) = .lp (renE f tm) ps a b st pe := rfl
theorem cmpA_eq (tm : Env) (hp : Hp) (seen : List Nat) : cmpA tm hp seen = ⟨renE (pos seen) tm, newOf hp (pos seen) seen 0 [], seen.length, 0⟩ := rfl
attribute [go_sem] refsE_nil refsE_cons refs_int refs_bool refs_str refs_nils refs_vsl refs_vptr refs_undef refs_ptr refs_osl refs_fn refs_y refs_agg refsL_nil refsL_cons rch_nil rch_cons rchB_t rchB_f rchC_s
  memN_nil memN_hit memN_miss refsO_t refsO_f refsO_lp pos_hit pos_miss renE_nil renE_cons ren_int ren_bool ren_str ren_nils ren_vsl ren_vptr ren_undef ren_ptr ren_osl ren_fn ren_agg renL_nil renL_cons renPt_s renSl_s
  newOf_nil newOf_cons newC_s renO_t renO_f renO_lp cmpA_eq List.length_cons List.length_nil
end VE
end
