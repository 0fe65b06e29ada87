import Derived.Maps.Keyed
import Derived.Test.YteioemjpepbdgaaGreatDoorOpC
set_option linter.all false
section
namespace VE
open Go
section
variable {fid : Nat → Nat} {m : Mp} {S : Nat → Prop} {w : World}
theorem rep_cells : ∀ {v : AV} {u : Value}, Rep fid m S w v u → oneCells (cellsOf v) = true → RepL fid m S w (cellsOf v) u.cells.toList := by
  intro v u h h1
  cases v
  case agg cs =>
    simp only [Rep] at h
    obtain ⟨xs, rfl, hr⟩ := h
    exact hr
  case tup vs => simp [cellsOf, oneCells, oneCell] at h1
  case undef => simp [cellsOf, oneCells, oneCell] at h1
  case fsl => simp [cellsOf, oneCells, oneCell] at h1
  case fn f a b =>
    cases f with
    | f g => have h' := h; simp only [Rep] at h'; obtain ⟨fi, ca, rfl, _⟩ := h'; simp only [cellsOf, Value.cells, RepL]; exact ⟨_, _, rfl, h, rfl⟩
    | y l => have h' := h; simp only [Rep] at h'; obtain ⟨p, _, rfl⟩ := h'; simp only [cellsOf, Value.cells, RepL]; exact ⟨_, _, rfl, h, rfl⟩
  case str s => have h' := h; simp only [Rep] at h'; obtain ⟨b, rfl, _⟩ := h'; simp only [cellsOf, Value.cells, RepL]; exact ⟨_, _, rfl, h, rfl⟩
  case ptr id o => have h' := h; simp only [Rep] at h'; obtain ⟨b, _, rfl⟩ := h'; simp only [cellsOf, Value.cells, RepL]; exact ⟨_, _, rfl, h, rfl⟩
  case vptr cs => have h' := h; simp only [Rep] at h'; obtain ⟨b, o, rfl, _⟩ := h'; simp only [cellsOf, Value.cells, RepL]; exact ⟨_, _, rfl, h, rfl⟩
  case vsl e n cs => have h' := h; simp only [Rep] at h'; rcases h' with ⟨b, o, c, rfl, _⟩ | ⟨a, rfl, _, _⟩ <;> (simp only [cellsOf, Value.cells, RepL]; exact ⟨_, _, rfl, h, rfl⟩)
  case osl id o n => have h' := h; simp only [Rep] at h'; obtain ⟨p, c, _, rfl, _⟩ := h'; simp only [cellsOf, Value.cells, RepL]; exact ⟨_, _, rfl, h, rfl⟩
  case map id => have h' := h; simp only [Rep] at h'; obtain ⟨p, _, rfl⟩ := h'; simp only [cellsOf, Value.cells, RepL]; exact ⟨_, _, rfl, h, rfl⟩
  case vmap ks vs => have h' := h; simp only [Rep] at h'; obtain ⟨b, es, cl, rfl, _⟩ := h'; simp only [cellsOf, Value.cells, RepL]; exact ⟨_, _, rfl, h, rfl⟩
  case it id => have h' := h; simp only [Rep] at h'; obtain ⟨p, _, rfl⟩ := h'; simp only [cellsOf, Value.cells, RepL]; exact ⟨_, _, rfl, h, rfl⟩
  all_goals
    have h' := h
    simp only [Rep] at h'
    subst h'
    simp only [cellsOf, Value.cells, RepL]
    exact ⟨_, _, rfl, h, rfl⟩
theorem rep_val_cells (v : Value) : RepL fid m S w (cellsOf (valAV v)) v.cells.toList := by
  have h := rep_val (fid := fid) (m := m) (S := S) (w := w) v
  cases v
  case agg xs =>
    obtain ⟨l⟩ := xs
    simp only [valAV, Rep] at h ⊢
    obtain ⟨xs, e, hr⟩ := h
    injection e with e
    subst e
    exact hr
  case tuple xs => obtain ⟨l⟩ := xs; simp only [valAV] at h ⊢; simp only [cellsOf, Value.cells, RepL]; exact ⟨_, _, rfl, h, rfl⟩
  case pointer p => cases p <;> (simp only [valAV] at h ⊢; simp only [cellsOf, Value.cells, RepL]; exact ⟨_, _, rfl, h, rfl⟩)
  case map p => cases p <;> (simp only [valAV] at h ⊢; simp only [cellsOf, Value.cells, RepL]; exact ⟨_, _, rfl, h, rfl⟩)
  case slice p n c =>
    cases p
    · cases n
      · cases c <;> (simp only [valAV] at h ⊢; simp only [cellsOf, Value.cells, RepL]; exact ⟨_, _, rfl, h, rfl⟩)
      · simp only [valAV] at h ⊢; simp only [cellsOf, Value.cells, RepL]; exact ⟨_, _, rfl, h, rfl⟩
    · simp only [valAV] at h ⊢; simp only [cellsOf, Value.cells, RepL]; exact ⟨_, _, rfl, h, rfl⟩
  all_goals (simp only [valAV] at h ⊢; simp only [cellsOf, Value.cells, RepL]; exact ⟨_, _, rfl, h, rfl⟩)
theorem repL_append : ∀ {a b : List AV} {x y : List Value}, RepL fid m S w a x → RepL fid m S w b y → RepL fid m S w (a ++ b) (x ++ y)
  | [], b, x, y, h, k => by simp only [RepL] at h; subst h; simpa using k
  | c :: a, b, x, y, h, k => by
    simp only [RepL] at h
    obtain ⟨u, r, rfl, h2, h3⟩ := h
    simp only [List.cons_append, RepL]
    exact ⟨u, r ++ y, rfl, h2, repL_append h3 k⟩
theorem repL_drop : ∀ (k : Nat) {cs : List AV} {us : List Value}, RepL fid m S w cs us → RepL fid m S w (cs.drop k) (us.drop k)
  | 0, cs, us, h => by simpa using h
  | k + 1, [], us, h => by simp only [RepL] at h; subst h; simp [RepL]
  | k + 1, c :: cs, us, h => by simp only [RepL] at h; obtain ⟨u, r, rfl, _, h3⟩ := h; simpa using repL_drop k h3
theorem repL_take : ∀ (k : Nat) {cs : List AV} {us : List Value}, RepL fid m S w cs us → RepL fid m S w (cs.take k) (us.take k)
  | 0, cs, us, h => by simp [RepL]
  | k + 1, [], us, h => by simp only [RepL] at h; subst h; simp [RepL]
  | k + 1, c :: cs, us, h => by
    simp only [RepL] at h; obtain ⟨u, r, rfl, h2, h3⟩ := h; simp only [List.take_succ_cons, RepL]; exact ⟨u, _, rfl, h2, repL_take k h3⟩
theorem repL_get : ∀ {cs : List AV} {us : List Value} {i : Nat} {v : AV}, RepL fid m S w cs us → cs[i]? = some v → ∃ u, us[i]? = some u ∧ Rep fid m S w v u
  | [], us, i, v, _, h => by simp at h
  | c :: cs, us, 0, v, h, e => by
    simp only [RepL] at h; obtain ⟨u, r, rfl, h2, h3⟩ := h; simp at e; subst e; exact ⟨u, rfl, h2⟩
  | c :: cs, us, i + 1, v, h, e => by
    simp only [RepL] at h; obtain ⟨u, r, rfl, h2, h3⟩ := h; simp at e; simpa using repL_get h3 e
end
theorem foldl_set (off : Nat) : ∀ (new : List Value) (j : Nat) (cells : Array Value), off + j + new.length ≤ cells.size →
    ((new.zipIdx j).foldl (fun (cs : Array Value) (p : Value × Nat) => cs.setIfInBounds (off + p.2) p.1) cells).toList =
      cells.toList.take (off + j) ++ new ++ cells.toList.drop (off + j + new.length)
  | [], j, cells, _ => by simp
  | v :: r, j, cells, h => by
    simp only [List.length_cons] at h
    have ih := foldl_set off r (j + 1) (cells.setIfInBounds (off + j) v) (by simp; omega)
    simp only [List.zipIdx_cons, List.foldl_cons]
    rw [ih]
    have hlt : off + j < cells.toList.length := by simp; omega
    have h1 : (cells.setIfInBounds (off + j) v).toList = cells.toList.set (off + j) v := by simp
    rw [h1, show off + (j + 1) = off + j + 1 by omega]
    have h2 : (cells.toList.set (off + j) v).take (off + j + 1) = cells.toList.take (off + j) ++ [v] := by
      rw [List.take_succ_eq_append_getElem (by simpa using hlt)]
      simp [List.take_set_of_le]
    have h3 : (cells.toList.set (off + j) v).drop (off + j + 1 + r.length) = cells.toList.drop (off + j + (r.length + 1)) := by
      rw [List.drop_set_of_lt (by omega)]; congr 1; omega
    rw [h2, h3]
    simp
section
variable {Λ : Link} {H : Hint} {m : Mp} {S : Nat → Prop} {w : World} {tm : Env} {a : Act}
theorem fill_ok (hH : HintOk Λ H) (ht : TRel Λ m S w tm a.tmps) {place : Nat → Option (Nat × Nat)} : ∀ (parts : List (Nat × Operand)) (ps : List (Nat × Nat × X)) (zero cs : List AV) (cells : Array Value),
    partsOf H place parts = some ps → RepL Λ.fid m S w zero cells.toList → fill tm zero ps = some cs →
    ∃ out, Instr.fill place cells (parts.map fun p => (p.1, a.eval p.2)) = some out ∧ RepL Λ.fid m S w cs out.toList
  | [], ps, zero, cs, cells, hp, hz, hf => by
    simp only [partsOf, Option.some.injEq] at hp
    subst hp
    simp only [fill, Option.some.injEq] at hf
    subst hf
    exact ⟨cells, rfl, hz⟩
  | (i, x) :: r, ps, zero, cs, cells, hp, hz, hf => by
    simp only [partsOf] at hp
    cases hpl : place i with
    | none => simp [hpl] at hp
    | some q =>
      obtain ⟨o, s⟩ := q
      simp only [hpl] at hp
      cases hpr : partsOf H place r with
      | none => simp [hpr] at hp
      | some l =>
        simp only [hpr, Option.some.injEq] at hp
        subst hp
        simp only [fill] at hf
        cases hc : (Nat.beq (cellsOf (xget tm (opX H x))).length s && Nat.ble (o + s) zero.length && oneCells (cellsOf (xget tm (opX H x)))) with
        | false => rw [hc] at hf; cases hf
        | true =>
          rw [hc] at hf
          simp only [cond_true] at hf
          simp only [Bool.and_eq_true] at hc
          have hs := Nat.eq_of_beq_eq_true hc.1.1
          have hle := Nat.le_of_ble_eq_true hc.1.2
          have hrx := rep_cells (rep_x hH ht x) hc.2
          have hl1 := repL_len _ _ hrx
          have hl2 := repL_len _ _ hz
          have hsz : (a.eval x).cells.size = s := by rw [← hs, ← hl1]; simp
          have hcs : cells.size = zero.length := by rw [← hl2]; simp
          have hfold := foldl_set o (a.eval x).cells.toList 0 cells (by simp; omega)
          have hz' : RepL Λ.fid m S w (over o (cellsOf (xget tm (opX H x))) zero)
              ((a.eval x).cells.zipIdx.foldl (fun (cs : Array Value) (p : Value × Nat) => cs.setIfInBounds (o + p.2) p.1) cells).toList := by
            rw [← Array.foldl_toList, Array.toList_zipIdx, hfold]
            simp only [over, Nat.add_zero]
            rw [show (a.eval x).cells.toList.length = (cellsOf (xget tm (opX H x))).length from hl1]
            exact repL_append (repL_append (repL_take o hz) hrx) (repL_drop _ hz)
          obtain ⟨out, h1, h2⟩ := fill_ok hH ht r l _ cs _ hpr hz' hf
          refine ⟨out, ?_, h2⟩
          simp only [List.map_cons, Instr.fill, hpl, hsz]
          rw [if_neg (by simp; omega)]
          exact h1
end
end VE
end
section
namespace VE
open Go
theorem beq_bytes (p q : ByteArray) : (p == q) = eqL (bytesN p) (bytesN q) := by
  have h : (p == q) = (p.data == q.data) := by cases p; cases q; rfl
  rw [h, eqL_bytes, ByteArray.toList_eq, ByteArray.toList_eq]
  rw [Bool.eq_iff_iff, beq_iff_eq, beq_iff_eq]
  constructor
  · intro e; rw [e]
  · intro e; have := congrArg List.toArray e; simpa using this
def keyD : TypeDesc → Bool
  | .bool | .int _ | .string => true
  | _ => false
def fits (d : TypeDesc) (v : AV) : Bool :=
  match d, v with
  | .int _, .int _ _ | .string, .str _ | .bool, .bool _ => true
  | _, _ => false
def Found (fid : Nat → Nat) (m : Mp) (S : Nat → Prop) (w : World) (f : Option (Option (Nat × Value))) : Option AV → Prop
  | none => f = some none
  | some v => ∃ j u, f = some (some (j, u)) ∧ Rep fid m S w v u
section
variable {Λ : Link} {fid : Nat → Nat} {m : Mp} {S : Nat → Prop} {w : World}
theorem keyEq_ok {vk vk' : AV} {k k' : Value} {r : Bool} {d : TypeDesc} (hk : Rep fid m S w vk k) (hk' : Rep fid m S w vk' k') (h : keyEq vk vk' = some r)
    (hd : fits d vk = true) : Instr.sameNow d k k' = some r := by
  unfold keyEq at h
  split at h
  · rename_i j x j' y
    simp only [Rep] at hk hk'
    subst hk; subst hk'
    by_cases hj : j = j'
    · simp only [hj, if_true, Option.some.injEq] at h
      subst hj
      cases d <;> simp [fits] at hd
      simpa [Instr.sameNow] using h
    · simp [hj] at h
  · simp only [Rep] at hk hk'
    obtain ⟨s, rfl, rfl⟩ := hk
    obtain ⟨s', rfl, rfl⟩ := hk'
    simp only [Option.some.injEq] at h
    cases d <;> simp [fits] at hd
    simp only [Instr.sameNow, beq_bytes]
    rw [← h]; rfl
  · simp only [Rep] at hk hk'
    subst hk; subst hk'
    simp only [Option.some.injEq] at h
    cases d <;> simp [fits] at hd
    simp [Instr.sameNow, h]
  · cases h
theorem mfind_ok {vk : AV} {k : Value} {d : TypeDesc} (hk : Rep fid m S w vk k)
    (hd : fits d vk = true) : ∀ (ks vs : List AV) (es : List MapEntry) (i : Nat) (r : Option AV),
    RepL fid m S w ks (es.map (·.key)) → RepL fid m S w vs (es.map (·.val)) → mfind vk ks vs = some r → Found fid m S w (Instr.findNow d k es i) r
  | [], vs, es, i, r, h1, h2, h => by
    simp only [RepL, List.map_eq_nil_iff] at h1
    subst h1
    simp only [mfind, Option.some.injEq] at h
    subst h
    rfl
  | c :: ks, [], es, i, r, h1, h2, h => by simp only [mfind] at h; cases h
  | c :: ks, v :: vs, es, i, r, h1, h2, h => by
    cases es with
    | nil => simp [RepL] at h1
    | cons e es =>
      simp only [List.map_cons, RepL, List.cons.injEq] at h1 h2
      obtain ⟨u, t, ⟨rfl, rfl⟩, hc, hks⟩ := h1
      obtain ⟨u', t', ⟨rfl, rfl⟩, hv, hvs⟩ := h2
      simp only [mfind] at h
      cases hke : keyEq vk c with
      | none => simp [hke] at h
      | some b =>
        have hs := keyEq_ok (d := d) hk hc hke hd
        cases b with
        | true =>
          simp only [hke, Option.some.injEq] at h
          subst h
          exact ⟨i, e.val, by simp [Instr.findNow, hs], hv⟩
        | false =>
          simp only [hke] at h
          have ih := mfind_ok hk hd ks vs es (i + 1) r hks hvs h
          simpa [Instr.findNow, hs] using ih
theorem run_checkKey_plain' {P : Program} {kt : TypeId} {d : TypeDesc} (hu : P.underlying kt = some d) (hd : keyD d = true) (b : Bool) (k : Value) : (Instr.checkKey b 10000 kt k).run P w = .ok () w := by
  have : ∀ n, (Instr.checkKey b (n + 1) kt k).run P w = .ok () w := by
    intro n
    cases d <;> simp [keyD] at hd <;> simp [Instr.checkKey, run_underlying hu]
  exact this 9999
theorem lkp_ok {t kt e : TypeId} {d : TypeDesc} {ok : Bool} {hp : Hp} {ct : Nat} {vx vk v : AV} {x k zero : Value} (hh : HRel Λ m S w hp ct) (hu : Λ.P.underlying t = some (.map kt e)) (hk : Λ.P.underlying kt = some d) (hd : keyD d = true)
    (hdk : fits d vk = true)
    (hz : (zeroValue e).run Λ.P w = .ok zero w) (hx : Rep Λ.fid m S w vx x) (hkr : Rep Λ.fid m S w vk k) {z : AV} (hzr : Rep Λ.fid m S w z zero)
    {r : Option AV}
    (hr : lkpOp hp vk vx = some r)
    (hv : (match r with | some u => (bif ok then AV.tup [u, .bool true] else u) | none => (bif ok then AV.tup [z, .bool false] else z)) = v) :
    ∃ u, (Instr.lookup t x k ok).run Λ.P w = .ok u w ∧ Rep Λ.fid m S w v u := by
  have fin : ∀ (u : AV) (uu : Value) (b : Bool), Rep Λ.fid m S w u uu → Rep Λ.fid m S w (bif ok then AV.tup [u, .bool b] else u) (if ok then .tuple #[uu, .bool b] else uu) := by
    intro u uu b h
    cases ok with
    | true => simp only [cond_true, if_true, Rep, RepL]; exact ⟨_, rfl, _, _, rfl, h, _, _, rfl, rfl, rfl⟩
    | false => simpa using h
  have body : ∀ (x' : Value) (es : Array MapEntry), ((x' = .map none ∧ es = #[]) ∨ ∃ b clock, x' = .map (some b) ∧ w.heap[b]? = some (.map es clock)) → Found Λ.fid m S w (Instr.findNow d k es.toList 0) r →
      ∃ u, (Instr.lookup t x' k ok).run Λ.P w = .ok u w ∧ Rep Λ.fid m S w v u := by
    intro x' es hl hf
    cases r with
    | none =>
      have hf' : Instr.findNow d k es.toList 0 = some none := hf
      refine ⟨if ok then .tuple #[zero, .bool false] else zero, ?_, by rw [← hv]; exact fin z zero false hzr⟩
      rcases hl with ⟨rfl, rfl⟩ | ⟨b, clock, rfl, hb⟩
      · have hf'' : Instr.findNow d k [] 0 = some none := rfl
        simp [Instr.lookup, run_underlying hu, run_checkKey_plain' hk hd, Instr.findKey, run_underlying hk, hf'', hz]
      · simp [Instr.lookup, run_underlying hu, getObj, Sem.run, hb, run_checkKey_plain' hk hd, Instr.findKey, run_underlying hk, hf', hz]
    | some v' =>
      obtain ⟨j, u, h1, h2⟩ := hf
      refine ⟨if ok then .tuple #[u, .bool true] else u, ?_, by rw [← hv]; exact fin v' u true h2⟩
      rcases hl with ⟨rfl, rfl⟩ | ⟨b, clock, rfl, hb⟩
      · have hf'' : Instr.findNow d k [] 0 = some none := rfl
        rw [show (#[] : Array MapEntry).toList = [] from rfl, hf''] at h1
        cases h1
      · simp [Instr.lookup, run_underlying hu, getObj, Sem.run, hb, run_checkKey_plain' hk hd, Instr.findKey, run_underlying hk, h1]
  cases vx <;> simp only [lkpOp, reduceCtorEq] at hr
  case nilm =>
    simp only [Option.some.injEq] at hr
    subst hr
    simp only [Rep] at hx
    subst hx
    exact body _ #[] (.inl ⟨rfl, rfl⟩) rfl
  case map id =>
    simp only [Rep] at hx
    obtain ⟨p, hm, rfl⟩ := hx
    split at hr
    case h_2 => cases hr
    rename_i rw0 ks vs hget0
    obtain ⟨p', es, clock, hm', hb, h1, h2, _⟩ := hh.obj id _ _ hget0 hm
    rw [hm] at hm'; injection hm' with hm'; subst hm'
    exact body _ es (.inr ⟨_, _, rfl, hb⟩) (mfind_ok hkr hdk ks vs es.toList 0 r h1 h2 hr)
  case vmap ks vs =>
    simp only [Rep] at hx
    obtain ⟨b, es, clock, rfl, _, _, _, hb, h1, h2⟩ := hx
    exact body _ es (.inr ⟨_, _, rfl, hb⟩) (mfind_ok hkr hdk ks vs es.toList 0 r h1 h2 hr)
end
end VE
end
